/-
  FnMaximals: the plain law and the row: for all arguments.
-/
import Derived.Test.YtndckmfbndmkhabGreatFnMaximalsG3
import Derived.Test.YtndckmfbndmkhabGreatFc
import Derived.Test.YtndckmfbndmkhabGreatRows
import Derived.WalkKit
import Derived.KernelRfl
/-
 Plain laws of the helpers. Written by a program.
-/
set_option maxRecDepth 100000
set_option maxHeartbeats 4000000
set_option linter.unusedVariables false
namespace Go.Proofs.YtndckmfbndmkhabGreat
open Go Go.Fw
def bd_Fact (a : Fact) : Prop := (bdL bdAny) a.Values
def bd_Method (a : Method) : Prop := (bdL bdAny) a.Inputs
def bd_Access (a : Access) : Prop := (bdL bdAny) a.Values
end Go.Proofs.YtndckmfbndmkhabGreat
/-
 Plain laws.
-/
set_option maxRecDepth 100000
set_option linter.unusedVariables false
namespace Go.Proofs.YtndckmfbndmkhabGreat
open Go Go.Fw
theorem s_l2Ints_eq (a b : List Int) : s_l2Ints a b = some (eqF (fun x y => x == y) a b) :=
 eqf_fun (L := s_l2Ints_L1) (f := fun x y => some (x == y)) (fun _ _ => rfl) (fun _ _ => rfl) (fun b x r k y h => by rw [s_l2Ints_L1, ix_nat, h]; rfl) a b (fun _ _ _ _ => rfl)
theorem g_slices_Equal_int_int_eq (a b : List Int) : g_slices_Equal_int_int a b = some (eqF (fun x y => x == y) a b) :=
 eqf_fun (L := g_slices_Equal_int_int_L1) (f := fun x y => some (x == y)) (fun _ _ => rfl) (fun _ _ => rfl) (fun b x r k y h => by rw [g_slices_Equal_int_int_L1, ix_nat, h]; rfl) a b (fun _ _ _ _ => rfl)
def pIntsEq : List Int → List Int → Bool := eqF (fun x y => x == y)
theorem g_cmp_Compare_int_eq (x y : Int) : g_cmp_Compare_int x y = some (cmpI x y) := by
 simp only [g_cmp_Compare_int, g_cmp_isNaN_int, Option.bind_some, cmpI, bne_self_eq_false, Bool.false_eq_true, if_false, decide_eq_true_eq]
 split
 · rfl
 · split <;> rfl
theorem g_slices_Compare_loop (s1 b : List Int) : ∀ (l : List Int) (k : Nat), s1.drop k = l → k ≤ s1.length → g_slices_Compare_int_int_L1 s1 b l k = some (cmpL l (b.drop k))
 | [], k, hd, hk => by
   have h1 : s1.length ≤ k := List.drop_eq_nil_iff.1 hd
   rw [g_slices_Compare_int_int_L1]
   cases hb : b.drop k with
   | nil =>
     have h2 : b.length ≤ k := List.drop_eq_nil_iff.1 hb
     rw [if_neg (by simp; omega)]; rfl
   | cons y t =>
     have h2 : k < b.length := (drop_cons hb).1
     rw [if_pos (by simp; omega)]; rfl
 | x :: r, k, hd, hk => by
   have h1 : k < s1.length := (drop_cons hd).1
   rw [g_slices_Compare_int_int_L1]
   cases hb : b.drop k with
   | nil =>
     have h2 : b.length ≤ k := List.drop_eq_nil_iff.1 hb
     rw [if_pos (by simp; omega)]; rfl
   | cons y t =>
     have h2 : k < b.length := (drop_cons hb).1
     obtain ⟨e1, e2⟩ := get_drop hb
     rw [if_neg (by simp; omega), ix_nat, e1, Option.bind_some, g_cmp_Compare_int_eq, Option.bind_some, cmpL]
     split
     · rfl
     · rw [g_slices_Compare_loop s1 b r (k + 1) (get_drop hd).2 h1, e2]
theorem g_slices_Compare_eq (a b : List Int) : g_slices_Compare_int_int a b = some (cmpL a b) := by
 have := g_slices_Compare_loop a b a 0 rfl (by omega)
 simpa [g_slices_Compare_int_int] using this
theorem g_cmp_Or2_eq (x y : Int) : g_cmp_Or_int [x, y] = some (if x != 0 then x else y) := by
 simp only [g_cmp_Or_int, g_cmp_Or_int_L1]
 split
 · rfl
 · split
   · rfl
   · rename_i h; simp at h; rw [h]
def pCmpFact (a b : Fact) : Int := if cmpI a.Rel b.Rel != 0 then cmpI a.Rel b.Rel else cmpL a.Values b.Values
theorem i_CompareFacts_eq (a b : Fact) : i_CompareFacts a b = some (pCmpFact a b) := by
 simp only [i_CompareFacts, g_cmp_Compare_int_eq, g_slices_Compare_eq, Option.bind_some, g_cmp_Or2_eq, pCmpFact]
theorem s_CompareFacts_loop (a b : Fact) (ha : a.Values.length < 4294967296) : ∀ (m k : Nat), k ≤ a.Values.length → k ≤ b.Values.length → a.Values.length < k + m → s_CompareFacts_L1 a b m k = some (cmpL (a.Values.drop k) (b.Values.drop k))
 | 0, k, h1, _, h2 => by omega
 | m + 1, k, h1, h1', h2 => by
   rw [s_CompareFacts_L1]
   by_cases h : k < a.Values.length ∧ k < b.Values.length
   · rw [if_pos (by simp [h.1, h.2])]
     simp only [ix_nat, List.getElem?_eq_getElem h.1, List.getElem?_eq_getElem h.2, Option.bind_some]
     rw [List.drop_eq_getElem_cons h.1, List.drop_eq_getElem_cons h.2, cmpL, cmpI]
     by_cases e1 : a.Values[k] < b.Values[k]
     · simp [e1]
     · rw [if_neg (by simpa using e1)]
       by_cases e2 : b.Values[k] < a.Values[k]
       · simp [e1, e2]
       · rw [if_neg (by simpa using e2), if_neg e1, if_neg e2, show ((k : Int) + 1) = ((k + 1 : Nat) : Int) from rfl, wrap_nat (by omega), s_CompareFacts_loop a b ha m (k + 1) h.1 h.2 (by omega)]
         simp
   · rw [if_neg (by simp only [Bool.and_eq_true, decide_eq_true_eq]; omega)]
     by_cases h3 : k < b.Values.length
     · have : k = a.Values.length := by omega
       subst this
       rw [if_pos (by simp; omega), List.drop_of_length_le (Nat.le_refl _), List.drop_eq_getElem_cons h3]; rfl
     · rw [List.drop_of_length_le (show b.Values.length ≤ k by omega), if_neg (by simp; omega)]
       by_cases h4 : k < a.Values.length
       · rw [if_pos (by simp; omega), List.drop_eq_getElem_cons h4]; rfl
       · rw [if_neg (by simp; omega), List.drop_of_length_le (by omega)]; rfl
theorem s_CompareFacts_eq (a b : Fact) (ha : a.Values.length < 4294967296) : s_CompareFacts a b = some (pCmpFact a b) := by
 unfold s_CompareFacts pCmpFact cmpI
 by_cases h : a.Rel = b.Rel
 · rw [if_neg (by simp [h])]
   have := s_CompareFacts_loop a b ha (((a.Values.length : Int) - 0).toNat + 2) 0 (by omega) (by omega) (by omega)
   rw [show s_CompareFacts_L1 a b (((a.Values.length : Int) - 0).toNat + 2) 0 = _ from this]
   simp [h]
 · rw [if_pos (by simpa using h)]
   by_cases h2 : a.Rel < b.Rel
   · simp [h2]
   · have : b.Rel < a.Rel := by omega
     simp [h2, this]
def pSameAccess (a b : Access) : Bool := a.Method == b.Method && pIntsEq a.Values b.Values
theorem s_l5Same_eq (a b : Access) : s_l5Same a b = some (pSameAccess a b) := by
 simp only [s_l5Same, s_l2Ints_eq, pSameAccess, pIntsEq, Option.bind_some]
 generalize (a.Method == b.Method) = b1
 cases b1 <;> rfl
theorem i_sameAccess_eq (a b : Access) : i_sameAccess a b = some (pSameAccess a b) := by
 simp only [i_sameAccess, g_slices_Equal_int_int_eq, pSameAccess, pIntsEq, Option.bind_some]
 generalize (a.Method == b.Method) = b1
 cases b1 <;> rfl
def pSameTuples : List (List Int) → List (List Int) → Bool := eqF pIntsEq
theorem s_SameTuples_eq (a b : List (List Int)) : s_SameTuples a b = some (pSameTuples a b) :=
 eqf_fun (L := s_SameTuples_L1) (f := s_l2Ints) (fun _ _ => rfl) (fun _ _ => rfl) (fun b x r k y h => by rw [s_SameTuples_L1, ix_nat, h]; rfl) a b (fun x _ y _ => s_l2Ints_eq x y)
theorem g_slices_Clone_int_int_eq (a : List Int) (h : a.length < 4294967296) : g_slices_Clone_int_int a = some a := by simp [g_slices_Clone_int_int, app_nil h]
theorem s_l8Access_eq (m : Int) (v : List Int) (h : v.length < 4294967296) : s_l8Access m v = some { Method := m, Values := v } := by simp [s_l8Access, app_nil h]
def in13 (n : Int) : Bool := decide (1 ≤ n) && decide (n ≤ 3)
def pSchema (s : List Int) : Bool := in13 (s.length : Int) && s.all in13
theorem s_IsSchema_eq (s : List Int) : s_IsSchema s = some (pSchema s) := by
 unfold s_IsSchema
 rw [all_loop (L := s_IsSchema_L1 s) (f := fun n => s_l1In n 1 3) (p := in13) (e := in13 (s.length : Int)) (fun k => by simp [s_IsSchema_L1, s_l1In, in13]) (fun x r k => rfl) s 0 (fun x _ => rfl), pSchema, Bool.and_comm]
theorem g_slices_ContainsFunc_int_int_iIsSchema1_eq (l : List Int) : g_slices_ContainsFunc_int_int_iIsSchema1 l = some (l.any fun x => !in13 x) := by
 unfold g_slices_ContainsFunc_int_int_iIsSchema1 g_slices_IndexFunc_int_int_iIsSchema1
 rw [index_loop (L := g_slices_IndexFunc_int_int_iIsSchema1_L1) (f := fun x => i_IsSchema_1 x) (p := fun x => !in13 x) (fun k => rfl) (fun x r k => rfl) l 0 (fun x hx => rfl), Option.bind_some, ixF_neg]
theorem i_IsSchema_eq (s : List Int) : i_IsSchema s = some (pSchema s) := by
 unfold i_IsSchema
 rw [g_slices_ContainsFunc_int_int_iIsSchema1_eq]
 simp only [i_within, Option.bind_some, pSchema, in13]
 cases hh : (decide (1 ≤ (s.length : Int)) && decide ((s.length : Int) ≤ 3))
 · simp
 · simp [List.all_eq_not_any_not, in13]
theorem pSchema_len {s : List Int} (h : pSchema s = true) : s.length ≤ 3 ∧ ∀ x ∈ s, 1 ≤ x ∧ x ≤ 3 := by
 simp [pSchema, in13] at h
 exact ⟨by omega, h.2⟩
theorem s_l1In_eq (x lo hi : Int) : s_l1In x lo hi = some (pIn lo hi x) := rfl
theorem i_within_eq (x lo hi : Int) : i_within x lo hi = some (pIn lo hi x) := rfl
def pHasRel (s : List Int) (rel : Int) : Bool := pSchema s && pIn 0 ((s.length : Int) - 1) rel
theorem i_hasRel_eq (s : List Int) (rel : Int) (hs : s.length < 4294967296) : i_hasRel s rel = some (pHasRel s rel) := by
 simp only [i_hasRel, i_IsSchema_eq, i_within_eq, Option.bind_some, pHasRel]
 rw [wrap_in (by omega) (by omega)]
 cases pSchema s <;> rfl
theorem pHasRel_ix {s : List Int} {rel : Int} (h : pHasRel s rel = true) : ∃ x, ix s rel = some x ∧ 1 ≤ x ∧ x ≤ 3 := by
 simp only [pHasRel, Bool.and_eq_true] at h
 obtain ⟨x, h1, h2⟩ := pIn_ix h.2
 exact ⟨x, h1, (pSchema_len h.1).2 x (List.mem_of_getElem? h2)⟩
def pAr (s : List Int) (rel : Int) : Int := (ix s rel).getD 0
theorem pAr_ix {s : List Int} {rel : Int} (h : pHasRel s rel = true) : ix s rel = some (pAr s rel) ∧ 1 ≤ pAr s rel ∧ pAr s rel ≤ 3 := by
 obtain ⟨x, h1, h2⟩ := pHasRel_ix h
 unfold pAr
 rw [h1]; exact ⟨rfl, h2⟩
def pMethod (s : List Int) (m : Method) : Bool := pHasRel s m.Rel && (pIn 0 9 m.Limit && (pIn 0 99 m.Cost && (pIn 1 99 m.Quota && (adjB (fun _ => true) (fun y x => decide (x ≤ y)) none m.Inputs && m.Inputs.all (pIn 0 (pAr s m.Rel - 1))))))
theorem s_IsMethod_eq (s : List Int) (m : Method) (hs : s.length < 4294967296) (hm : m.Inputs.length < 4294967296) : s_IsMethod s m = some (pMethod s m) := by
 simp only [s_IsMethod, s_IsSchema_eq, s_l1In_eq, Option.bind_some]
 rw [wrap_in (by omega) (by omega)]
 have hL : pHasRel s m.Rel = true → s_IsMethod_L1 s m m.Inputs 0 = some (adjB (pIn 0 (pAr s m.Rel - 1)) (fun y x => decide (x ≤ y)) none m.Inputs) := fun h => by
   obtain ⟨e1, e2, e3⟩ := pAr_ix h
   have := adj_loop (L := s_IsMethod_L1 s m) (P := fun _ => True) (p := pIn 0 (pAr s m.Rel - 1)) (q := fun y x => decide (x ≤ y)) (e := true) m.Inputs (fun _ _ => trivial) hm (fun _ => rfl) (fun x r _ => by
     rw [s_IsMethod_L1]
     simp only [e1, Option.bind_some, s_l1In_eq, dec_zero]
     rw [wrap_in (by omega) (by omega)]
     cases pIn 0 (pAr s m.Rel - 1) x <;> rfl) (fun x r k y _ _ hy hk => by
     rw [s_IsMethod_L1]
     simp only [e1, Option.bind_some, s_l1In_eq, dec_succ, ix_prev _ k hk, hy]
     rw [wrap_in (by omega) (by omega)]
     cases pIn 0 (pAr s m.Rel - 1) x <;> cases decide (x ≤ y) <;> rfl)
   simpa using this
 unfold pMethod
 cases hh : pHasRel s m.Rel
 · simp only [pHasRel] at hh
   cases h1 : pSchema s
   · rfl
   · rw [h1, Bool.true_and] at hh
     simp [hh]
 · rw [hL hh, adjB_and]
   simp only [pHasRel, Bool.and_eq_true] at hh
   rw [hh.1, hh.2]
   cases pIn 0 9 m.Limit
   · rfl
   cases pIn 0 99 m.Cost
   · rfl
   cases pIn 1 99 m.Quota <;> rfl
theorem i_ascending_eq (l : List Int) (hl : l.length < 4294967296) : i_ascending l = some (adjB (fun _ => true) (fun y x => decide (x ≤ y)) none l) := by
 have := adj_loop (L := i_ascending_L1 l) (P := fun _ => True) (p := fun _ => true) (q := fun y x => decide (x ≤ y)) (e := true) l (fun _ _ => trivial) hl (fun _ => rfl) (fun x r _ => rfl) (fun x r k y _ _ hy hk => by
     rw [i_ascending_L1]
     simp only [Option.bind_some, dec_succ, ix_prev _ k hk, hy, cond_true]
     cases decide (x ≤ y) <;> rfl)
 simpa [i_ascending] using this
theorem g_slices_ContainsFunc_int_int_iMethodfits1_eq (l : List Int) (a1 : Int) (h1 : -1000 ≤ a1 ∧ a1 ≤ 1000) : g_slices_ContainsFunc_int_int_iMethodfits1 l a1 = some (l.any fun x => !pIn 0 (a1 - 1) x) := by
 unfold g_slices_ContainsFunc_int_int_iMethodfits1 g_slices_IndexFunc_int_int_iMethodfits1
 rw [index_loop (L := g_slices_IndexFunc_int_int_iMethodfits1_L1 a1) (f := fun x => i_Method_fits_1 x a1) (p := fun x => !pIn 0 (a1 - 1) x) (fun k => rfl) (fun x r k => rfl) l 0 (fun x hx => by rw [i_Method_fits_1, i_within_eq, wrap_in (by omega) (by omega)]; rfl), Option.bind_some, ixF_neg]
theorem i_isCost_eq (n : Int) : i_isCost n = some (pIn 0 99 n) := rfl
theorem i_IsMethod_eq (s : List Int) (m : Method) (hs : s.length < 4294967296) (hm : m.Inputs.length < 4294967296) : i_IsMethod s m = some (pMethod s m) := by
 simp only [i_IsMethod, i_hasRel_eq _ _ hs, Option.bind_some, pMethod]
 cases hh : pHasRel s m.Rel
 · rfl
 obtain ⟨e1, e2, e3⟩ := pAr_ix hh
 simp only [e1, Option.bind_some, i_Method_fits, i_ascending_eq _ hm, g_slices_ContainsFunc_int_int_iMethodfits1_eq _ _ (show -1000 ≤ pAr s m.Rel ∧ pAr s m.Rel ≤ 1000 by omega), i_within_eq, i_isCost_eq, cond_true, Bool.true_and]
 have e4 : (m.Inputs.any fun x => !pIn 0 (pAr s m.Rel - 1) x) = !(m.Inputs.all (pIn 0 (pAr s m.Rel - 1))) := by simp [List.all_eq_not_any_not]
 rw [e4]
 cases adjB (fun _ => true) (fun y x => decide (x ≤ y)) none m.Inputs <;> cases m.Inputs.all (pIn 0 (pAr s m.Rel - 1)) <;> cases pIn 0 9 m.Limit <;> cases pIn 0 99 m.Cost <;> cases pIn 1 99 m.Quota <;> rfl
def pMethods (s : List Int) (l : List Method) : Bool := pSchema s && (decide ((l.length : Int) ≤ 5) && l.all (pMethod s))
theorem s_AreMethods_eq (s : List Int) (l : List Method) (hs : s.length < 4294967296) (hl : bdL bd_Method l) : s_AreMethods s l = some (pMethods s l) := by
 unfold s_AreMethods
 rw [all_loop (L := s_AreMethods_L1 s l) (f := fun m => s_IsMethod s m) (p := pMethod s) (e := pSchema s && decide ((l.length : Int) ≤ 5)) (fun k => by
   rw [s_AreMethods_L1, s_IsSchema_eq]
   cases pSchema s <;> rfl) (fun x r k => rfl) l 0 (fun x hx => s_IsMethod_eq s x hs (hl.2 x hx).1), pMethods]
 cases pSchema s <;> cases decide ((l.length : Int) ≤ 5) <;> cases l.all (pMethod s) <;> rfl
theorem g_slices_ContainsFunc_impl_Method_impl_Method_iAreMethods1_eq (l : List Method) (s : List Int) (hs : s.length < 4294967296) (hl : bdL bd_Method l) : g_slices_ContainsFunc_impl_Method_impl_Method_iAreMethods1 l s = some (l.any fun x => !pMethod s x) := by
 unfold g_slices_ContainsFunc_impl_Method_impl_Method_iAreMethods1 g_slices_IndexFunc_impl_Method_impl_Method_iAreMethods1
 rw [index_loop (L := g_slices_IndexFunc_impl_Method_impl_Method_iAreMethods1_L1 s) (f := fun x => i_AreMethods_1 x s) (p := fun x => !pMethod s x) (fun k => rfl) (fun x r k => rfl) l 0 (fun x hx => by rw [i_AreMethods_1, i_IsMethod_eq s x hs (hl.2 x hx).1]; rfl), Option.bind_some, ixF_neg]
theorem i_AreMethods_eq (s : List Int) (l : List Method) (hs : s.length < 4294967296) (hl : bdL bd_Method l) : i_AreMethods s l = some (pMethods s l) := by
 simp only [i_AreMethods, i_IsSchema_eq, Option.bind_some, g_slices_ContainsFunc_impl_Method_impl_Method_iAreMethods1_eq l s hs hl, pMethods, List.all_eq_not_any_not]
 cases pSchema s <;> cases decide ((l.length : Int) ≤ 5) <;> rfl
theorem g_slices_ContainsFunc_int_int_iareValues1_eq (l : List Int) : g_slices_ContainsFunc_int_int_iareValues1 l = some (l.any fun x => !pIn 0 9 x) := by
 unfold g_slices_ContainsFunc_int_int_iareValues1 g_slices_IndexFunc_int_int_iareValues1
 rw [index_loop (L := g_slices_IndexFunc_int_int_iareValues1_L1) (f := fun x => i_areValues_1 x) (p := fun x => !pIn 0 9 x) (fun k => rfl) (fun x r k => rfl) l 0 (fun x hx => rfl), Option.bind_some, ixF_neg]
theorem i_areValues_eq (l : List Int) : i_areValues l = some (l.all (pIn 0 9)) := by
 simp only [i_areValues, g_slices_ContainsFunc_int_int_iareValues1_eq, Option.bind_some, List.all_eq_not_any_not]
def pFact (s : List Int) (f : Fact) : Bool := pHasRel s f.Rel && (((f.Values.length : Int) == pAr s f.Rel) && f.Values.all (pIn 0 9))
theorem s_IsFact_eq (s : List Int) (f : Fact) (hs : s.length < 4294967296) : s_IsFact s f = some (pFact s f) := by
 simp only [s_IsFact, s_IsSchema_eq, s_l1In_eq, Option.bind_some]
 rw [wrap_in (by omega) (by omega)]
 have hL : s_IsFact_L1 f.Values 0 = some (f.Values.all (pIn 0 9)) := by
   have := all_loop (L := s_IsFact_L1) (f := fun x => some (pIn 0 9 x)) (p := pIn 0 9) (e := true) (fun _ => rfl) (fun x r' k => rfl) f.Values 0 (fun _ _ => rfl)
   simpa using this
 unfold pFact
 cases hF : pHasRel s f.Rel
 · simp only [pHasRel] at hF
   cases h1 : pSchema s
   · rfl
   · rw [h1, Bool.true_and] at hF
     simp [hF]
 · obtain ⟨e1, -⟩ := pAr_ix hF
   rw [hL, e1]
   simp only [pHasRel, Bool.and_eq_true] at hF
   simp only [hF, Bool.not_true, cond_false, Option.bind_some, bne]
   cases ((f.Values.length : Int) == pAr s f.Rel) <;> rfl
theorem i_IsFact_eq (s : List Int) (f : Fact) (hs : s.length < 4294967296) : i_IsFact s f = some (pFact s f) := by
 simp only [i_IsFact, i_hasRel_eq _ _ hs, Option.bind_some, pFact]
 cases hF : pHasRel s f.Rel
 · rfl
 obtain ⟨e1, -⟩ := pAr_ix hF
 simp only [e1, Option.bind_some, i_areValues_eq, cond_true, Bool.true_and]
 cases ((f.Values.length : Int) == pAr s f.Rel) <;> rfl
def pFacts (s : List Int) (l : List Fact) : Bool := adjB (pFact s) (fun y x => decide (0 ≤ pCmpFact y x)) none l && (pSchema s && decide ((l.length : Int) ≤ 24))
theorem s_AreFacts_eq (s : List Int) (l : List Fact) (hs : s.length < 4294967296) (hl : bdL bd_Fact l) : s_AreFacts s l = some (pFacts s l) :=
 adj_loop (L := s_AreFacts_L1 s l) (P := bd_Fact) (p := pFact s) (q := fun y x => decide (0 ≤ pCmpFact y x)) l hl.2 hl.1 (fun _ => by
   rw [s_AreFacts_L1, s_IsSchema_eq]
   cases pSchema s <;> rfl) (fun x r _ => by
   rw [s_AreFacts_L1, s_IsFact_eq s x hs]
   simp only [Option.bind_some, dec_zero]
   cases pFact s x <;> rfl) (fun x r k y _ hy hy2 hk => by
   rw [s_AreFacts_L1, s_IsFact_eq s x hs]
   simp only [Option.bind_some, dec_succ, ix_prev _ k hk, hy2, s_CompareFacts_eq y x hy.1]
   cases pFact s x <;> cases decide (0 ≤ pCmpFact y x) <;> rfl)
theorem i_AreFacts_eq (s : List Int) (l : List Fact) (hs : s.length < 4294967296) (hl : bdL bd_Fact l) : i_AreFacts s l = some (pFacts s l) :=
 adj_loop (L := i_AreFacts_L1 s l) (P := bd_Fact) (p := pFact s) (q := fun y x => decide (0 ≤ pCmpFact y x)) l hl.2 hl.1 (fun _ => by
   rw [i_AreFacts_L1, i_IsSchema_eq]
   cases pSchema s <;> rfl) (fun x r _ => by
   rw [i_AreFacts_L1, i_IsFact_eq s x hs]
   simp only [Option.bind_some, dec_zero]
   cases pFact s x <;> rfl) (fun x r k y _ hy hy2 hk => by
   rw [i_AreFacts_L1, i_IsFact_eq s x hs]
   simp only [Option.bind_some, dec_succ, ix_prev _ k hk, hy2, i_CompareFacts_eq y x]
   cases pFact s x <;> cases decide (0 ≤ pCmpFact y x) <;> rfl)
def pMeth (l : List Method) (m : Int) : Method := (ix l m).getD ⟨0, [], 0, 0, 0⟩
theorem pMeth_ix {l : List Method} {m : Int} (h : pIn 0 ((l.length : Int) - 1) m = true) : ix l m = some (pMeth l m) ∧ pMeth l m ∈ l := by
 obtain ⟨x, h1, h2⟩ := pIn_ix h
 unfold pMeth
 rw [h1]; exact ⟨rfl, List.mem_of_getElem? h2⟩
def pAccess (s : List Int) (l : List Method) (a : Access) : Bool := pMethods s l && (pIn 0 ((l.length : Int) - 1) a.Method && (((a.Values.length : Int) == ((pMeth l a.Method).Inputs.length : Int)) && a.Values.all (pIn 0 9)))
theorem s_l4Less_loop (a b : List Int) (ha : a.length < 4294967296) : ∀ (m k : Nat), k ≤ a.length → k ≤ b.length → a.length < k + m → s_l4Less_L1 a b m k = some (decide (cmpL (a.drop k) (b.drop k) < 0))
 | 0, k, h1, _, h2 => by omega
 | m + 1, k, h1, h1', h2 => by
   rw [s_l4Less_L1]
   by_cases h : k < a.length ∧ k < b.length
   · rw [if_pos (by simp [h.1, h.2])]
     simp only [ix_nat, List.getElem?_eq_getElem h.1, List.getElem?_eq_getElem h.2, Option.bind_some]
     rw [List.drop_eq_getElem_cons h.1, List.drop_eq_getElem_cons h.2, cmpL, cmpI]
     by_cases e : a[k] = b[k]
     · rw [if_neg (by simp [e]), show ((k : Int) + 1) = ((k + 1 : Nat) : Int) from rfl, wrap_nat (by omega), s_l4Less_loop a b ha m (k + 1) h.1 h.2 (by omega)]
       simp [e]
     · rw [if_pos (by simpa using e)]
       by_cases e1 : a[k] < b[k]
       · simp [e1]
       · have e2 : b[k] < a[k] := by omega
         simp [e1, e2]
   · rw [if_neg (by simp only [Bool.and_eq_true, decide_eq_true_eq]; omega)]
     by_cases h3 : k < b.length
     · have : k = a.length := by omega
       subst this
       rw [List.drop_of_length_le (Nat.le_refl _), List.drop_eq_getElem_cons h3]
       simp [cmpL, h3]
     · rw [List.drop_of_length_le (show b.length ≤ k by omega)]
       by_cases h4 : k < a.length
       · rw [List.drop_eq_getElem_cons h4]
         simp [cmpL]; omega
       · rw [List.drop_of_length_le (by omega)]
         simp [cmpL]; omega
theorem s_l4Less_eq (a b : List Int) (ha : a.length < 4294967296) : s_l4Less a b = some (decide (cmpL a b < 0)) := by
 have := s_l4Less_loop a b ha (((a.length : Int) - 0).toNat + 2) 0 (by omega) (by omega) (by omega)
 simpa [s_l4Less] using this
def pFitL (f : Fact) (vals : List Int) : List Int → Nat → Bool
 | [], _ => true
 | x :: r, k => (f.Values[x.toNat]?.getD 0 == vals[k]?.getD 0) && pFitL f vals r (k + 1)
def pFits (m : Method) (vals : List Int) (f : Fact) : Bool := f.Rel == m.Rel && pFitL f vals m.Inputs 0
theorem ix_getD (l : List Int) (x : Int) (h : 0 ≤ x ∧ x < (l.length : Int)) : ix l x = some (l[x.toNat]?.getD 0) := by
 have hlt : x.toNat < l.length := by omega
 unfold ix
 rw [if_pos h.1, List.getElem?_eq_getElem hlt]; rfl
theorem s_l5Fits_loop (vals : List Int) (f : Fact) : ∀ (l : List Int) (k : Nat), (∀ x ∈ l, 0 ≤ x ∧ x < (f.Values.length : Int)) → k + l.length ≤ vals.length → s_l5Fits_L1 vals f l k = some (pFitL f vals l k)
 | [], _, _, _ => rfl
 | x :: r, k, h, hl => by
   simp only [List.length_cons] at hl
   rw [s_l5Fits_L1, ix_getD _ _ (h x (by simp)), ix_getD _ _ ⟨by omega, by omega⟩, Option.bind_some, Option.bind_some, pFitL, Int.toNat_natCast]
   by_cases e : f.Values[x.toNat]?.getD 0 = vals[k]?.getD 0
   · rw [if_neg (by simp [e]), s_l5Fits_loop vals f r (k + 1) (fun y hy => h y (by simp [hy])) (by omega)]; simp [e]
   · rw [if_pos (by simpa using e)]; simp [e]
theorem i_matches_loop (f : Fact) (a : Access) : ∀ (l : List Int) (k : Nat), (∀ x ∈ l, 0 ≤ x ∧ x < (f.Values.length : Int)) → k + l.length ≤ a.Values.length → i_matches_1_L1 f a l k = some (!pFitL f a.Values l k)
 | [], _, _, _ => rfl
 | x :: r, k, h, hl => by
   simp only [List.length_cons] at hl
   rw [i_matches_1_L1, ix_getD _ _ (h x (by simp)), ix_getD _ _ ⟨by omega, by omega⟩, Option.bind_some, Option.bind_some, pFitL, Int.toNat_natCast]
   by_cases e : f.Values[x.toNat]?.getD 0 = a.Values[k]?.getD 0
   · rw [if_neg (by simp [e]), i_matches_loop f a r (k + 1) (fun y hy => h y (by simp [hy])) (by omega)]; simp [e]
   · rw [if_pos (by simpa using e)]; simp [e]
def pFitOK (m : Method) (vals : List Int) (f : Fact) : Prop := (f.Rel = m.Rel → ∀ x ∈ m.Inputs, 0 ≤ x ∧ x < (f.Values.length : Int)) ∧ m.Inputs.length ≤ vals.length
theorem s_l5Fits_eq (m : Method) (vals : List Int) (f : Fact) (h : pFitOK m vals f) : s_l5Fits m vals f = some (pFits m vals f) := by
 unfold s_l5Fits pFits
 by_cases e : f.Rel = m.Rel
 · rw [if_neg (by simp [e]), s_l5Fits_loop vals f m.Inputs 0 (h.1 e) (by have := h.2; omega)]; simp [e]
 · rw [if_pos (by simpa using e)]; simp [e]
theorem i_matches_1_eq (f : Fact) (m : Method) (a : Access) (h : pFitOK m a.Values f) : i_matches_1 f m a = some (!pFits m a.Values f) := by
 unfold i_matches_1 pFits
 by_cases e : f.Rel = m.Rel
 · rw [if_neg (by simp [e]), i_matches_loop f a m.Inputs 0 (h.1 e) (by have := h.2; omega)]; simp [e]
 · rw [if_pos (by simpa using e)]; simp [e]
theorem pFitOK_of {s : List Int} {l : List Method} {a : Access} {f : Fact} (h1 : pAccess s l a = true) (h2 : pFact s f = true) : pFitOK (pMeth l a.Method) a.Values f := by
 simp only [pAccess, pMethods, Bool.and_eq_true, List.all_eq_true] at h1
 obtain ⟨⟨-, -, hm⟩, hi, hv, -⟩ := h1
 have hmm := hm _ (pMeth_ix hi).2
 simp only [pMethod, Bool.and_eq_true, List.all_eq_true] at hmm
 obtain ⟨-, -, -, -, -, hin⟩ := hmm
 simp only [pFact, Bool.and_eq_true] at h2
 obtain ⟨-, hf, -⟩ := h2
 refine ⟨fun e x hx => ?_, by simp at hv; omega⟩
 have := hin x hx
 simp [pIn] at this hf
 rw [hf, e]
 omega
theorem pFacts_all {s : List Int} {l : List Fact} (h : pFacts s l = true) : ∀ f ∈ l, pFact s f = true := by
 unfold pFacts at h
 rw [adjB_and] at h
 simp only [Bool.and_eq_true, List.all_eq_true] at h
 exact h.1.2
theorem i_copyFact_eq (a : Fact) (h : bd_Fact a) : i_copyFact a = some a := by simp [i_copyFact, g_slices_Clone_int_int_eq _ h.1]
theorem i_copyFacts_eq (l : List Fact) (h : bdL bd_Fact l) : i_copyFacts l = some l :=
 copy_all (L := i_copyFacts_L1) (fun _ _ => rfl) (fun x r k c hx hc => by rw [i_copyFacts_L1, i_copyFact_eq x hx, Option.bind_some, app1 hc, Option.bind_some]) l h
theorem i_matches_eq (s : List Int) (l : List Method) (facts : List Fact) (a : Access) (h1 : pAccess s l a = true) (h2 : ∀ f ∈ facts, pFact s f = true) (hb : bdL bd_Fact facts) : i_matches l facts a = some (facts.filter (pFits (pMeth l a.Method) a.Values)) := by
 have hi : pIn 0 ((l.length : Int) - 1) a.Method = true := by
   simp only [pAccess, Bool.and_eq_true] at h1
   exact h1.2.1
 rw [i_matches, (pMeth_ix hi).1, Option.bind_some, i_copyFacts_eq facts hb, Option.bind_some, g_slices_DeleteFunc_impl_Fact_impl_Fact_imatches1,
   delL_of (p := fun f => !pFits (pMeth l a.Method) a.Values f) (fun f hf => i_matches_1_eq f _ a (pFitOK_of h1 (h2 f hf)))]
 simp
theorem s_l7Logged_eq (log : List Access) (a : Access) : s_l7Logged log a = some (log.any fun x => pSameAccess x a) :=
 any_loop (L := s_l7Logged_L1 a) (f := fun x => s_l5Same x a) (fun _ => rfl) (fun _ _ _ => rfl) log 0 (fun x _ => s_l5Same_eq x a)
theorem g_slices_ContainsFunc_impl_Access_impl_Access_ihasAccess1_eq (l : List Access) (a : Access) : g_slices_ContainsFunc_impl_Access_impl_Access_ihasAccess1 l a = some (l.any fun x => pSameAccess x a) := by
 unfold g_slices_ContainsFunc_impl_Access_impl_Access_ihasAccess1 g_slices_IndexFunc_impl_Access_impl_Access_ihasAccess1
 rw [index_loop (L := g_slices_IndexFunc_impl_Access_impl_Access_ihasAccess1_L1 a) (f := fun x => i_hasAccess_1 x a) (p := fun x => pSameAccess x a) (fun k => rfl) (fun x r k => rfl) l 0 (fun x hx => by rw [i_hasAccess_1, i_sameAccess_eq]; rfl), Option.bind_some, ixF_neg]
theorem i_hasAccess_eq (log : List Access) (a : Access) : i_hasAccess log a = some (log.any fun x => pSameAccess x a) := by
 rw [i_hasAccess, g_slices_ContainsFunc_impl_Access_impl_Access_ihasAccess1_eq]; rfl
theorem s_l2One_eq (r : Int) (v : List Int) (h : v.length < 4294967296) : s_l2One r v = some { Rel := r, Values := v } := by simp [s_l2One, app_nil h]
theorem s_l5Matches_eq (m : Method) (vals : List Int) (facts : List Fact) (hf : ∀ f ∈ facts, pFitOK m vals f) (hb : bdL bd_Fact facts) : s_l5Matches m vals facts = some (facts.filter (pFits m vals)) := by
 have := filter_loop (L := s_l5Matches_L1 m vals) (P := fun f => pFitOK m vals f ∧ bd_Fact f) (p := pFits m vals) (fun _ _ => rfl) (fun x r k c hx hc => by
   rw [s_l5Matches_L1, s_l5Fits_eq _ _ _ hx.1, Option.bind_some]
   cases pFits m vals x <;> simp [s_l2One_eq _ _ hx.2.1, app1 hc]) facts 0 [] (fun x hx => ⟨hf x hx, hb.2 x hx⟩) (by simpa using hb.1)
 simpa [s_l5Matches] using this
theorem i_copyTuples_eq (l : List (List Int)) (h : bdL (bdL bdAny) l) : i_copyTuples l = some l :=
 copy_all (L := i_copyTuples_L1) (fun _ _ => rfl) (fun x r k c hx hc => by rw [i_copyTuples_L1, g_slices_Clone_int_int_eq _ hx.1, Option.bind_some, app1 hc, Option.bind_some]) l h
theorem s_l2Copy_eq (l : List Fact) (h : bdL bd_Fact l) : s_l2Copy l = some l :=
 copy_all (L := s_l2Copy_L1) (fun _ _ => rfl) (fun x r k c hx hc => by rw [s_l2Copy_L1, s_l2One_eq _ _ hx.1, Option.bind_some, app1 hc, Option.bind_some]) l h
theorem s_l8Log_eq (l : List Access) (h : bdL bd_Access l) : s_l8Log l = some l :=
 copy_all (L := s_l8Log_L1) (fun _ _ => rfl) (fun x r k c hx hc => by rw [s_l8Log_L1, s_l8Access_eq _ _ hx.1, Option.bind_some, app1 hc, Option.bind_some]) l h
theorem cmpI_anti (x y : Int) : cmpI y x = -cmpI x y := by
 unfold cmpI
 repeat' split
 all_goals omega
theorem cmpL_anti : ∀ (a b : List Int), cmpL b a = -cmpL a b
 | [], [] => rfl
 | [], _ :: _ => rfl
 | _ :: _, [] => rfl
 | x :: a, y :: b => by
   simp only [cmpL, cmpI_anti x y, cmpL_anti a b]
   by_cases h : cmpI x y = 0
   · simp [h]
   · rw [if_pos (by simp only [bne_iff_ne]; omega), if_pos (by simpa using h)]
theorem pCmpFact_anti (a b : Fact) : pCmpFact b a = -pCmpFact a b := by
 unfold pCmpFact
 rw [cmpI_anti a.Rel b.Rel, cmpL_anti a.Values b.Values]
 by_cases h : cmpI a.Rel b.Rel = 0
 · simp [h]
 · rw [if_pos (by simp only [bne_iff_ne]; omega), if_pos (by simpa using h)]
def pHasF (l : List Fact) (f : Fact) : Bool := l.any fun x => pCmpFact x f == 0
theorem s_HasFact_eq (l : List Fact) (f : Fact) (h : bdL bd_Fact l) : s_HasFact l f = some (pHasF l f) := by
 have hx : ∀ x ∈ l, x.Values.length < 4294967296 := fun x hx => (h.2 x hx).1
 clear h
 unfold s_HasFact
 generalize 0 = k
 induction l generalizing k with
 | nil => rfl
 | cons x l ih =>
   unfold s_HasFact_L1
   rw [s_CompareFacts_eq x f (hx x (by simp)), Option.bind_some]
   by_cases h : pCmpFact x f = 0
   · rw [if_pos (by simpa using h)]; simp [pHasF, h]
   · rw [if_neg (by simpa using h), ih (fun y hy => hx y (by simp [hy]))]; simp [pHasF, h]
theorem g_slices_ContainsFunc_impl_Fact_impl_Fact_iHasFact1_eq (l : List Fact) (f : Fact) : g_slices_ContainsFunc_impl_Fact_impl_Fact_iHasFact1 l f = some (pHasF l f) := by
 unfold g_slices_ContainsFunc_impl_Fact_impl_Fact_iHasFact1 g_slices_IndexFunc_impl_Fact_impl_Fact_iHasFact1
 rw [index_loop (L := g_slices_IndexFunc_impl_Fact_impl_Fact_iHasFact1_L1 f) (f := fun x => i_HasFact_1 x f) (p := fun x => pCmpFact x f == 0) (fun k => rfl) (fun x r k => rfl) l 0 (fun x hx => by rw [i_HasFact_1, i_CompareFacts_eq]; rfl), Option.bind_some, ixF_neg]
 rfl
theorem i_HasFact_eq (l : List Fact) (f : Fact) : i_HasFact l f = some (pHasF l f) := by
 rw [i_HasFact, g_slices_ContainsFunc_impl_Fact_impl_Fact_iHasFact1_eq]; rfl
def pInsF (f : Fact) : List Fact → List Fact
 | [] => [f]
 | x :: l => if 0 < pCmpFact x f then f :: x :: l else x :: pInsF f l
theorem pInsF_len (f : Fact) : ∀ l : List Fact, (pInsF f l).length = l.length + 1
 | [] => rfl
 | x :: l => by
   unfold pInsF
   split
   · rfl
   · simp [pInsF_len f l]
theorem pInsF_mem {f y : Fact} : ∀ {l : List Fact}, y ∈ pInsF f l → y = f ∨ y ∈ l
 | [], h => by simp [pInsF] at h; exact .inl h
 | x :: l, h => by
   unfold pInsF at h
   split at h
   · simp at h; simp [h]
   · rcases List.mem_cons.1 h with h | h
     · simp [h]
     · rcases pInsF_mem h with h | h <;> simp [h]
theorem pInsF_ix (f : Fact) : ∀ (l : List Fact) (k : Nat), (ixF (fun x => decide (0 < pCmpFact x f)) l k = -1 ∧ pInsF f l = l ++ [f]) ∨ ∃ j : Nat, j < l.length ∧ ixF (fun x => decide (0 < pCmpFact x f)) l k = ((k + j : Nat) : Int) ∧ pInsF f l = l.take j ++ f :: l.drop j
 | [], k => .inl ⟨rfl, rfl⟩
 | x :: l, k => by
   unfold ixF pInsF
   by_cases h : 0 < pCmpFact x f
   · rw [if_pos h, if_pos (by simpa using h)]
     exact .inr ⟨0, by simp, by simp, by simp⟩
   · rw [if_neg h, if_neg (by simpa using h)]
     rcases pInsF_ix f l (k + 1) with ⟨h1, h2⟩ | ⟨j, h1, h2, h3⟩
     · exact .inl ⟨h1, by rw [h2]; rfl⟩
     · exact .inr ⟨j + 1, by simp; omega, by rw [h2]; congr 1; omega, by rw [h3]; rfl⟩
def pAddF (l : List Fact) (f : Fact) : List Fact := if pHasF l f then l else pInsF f l
theorem pAddF_len (l : List Fact) (f : Fact) : (pAddF l f).length ≤ l.length + 1 := by
 unfold pAddF
 split
 · omega
 · rw [pInsF_len]; exact Nat.le_refl _
theorem pAddF_mem {l : List Fact} {f y : Fact} (h : y ∈ pAddF l f) : y = f ∨ y ∈ l := by
 unfold pAddF at h
 split at h
 · exact .inr h
 · exact pInsF_mem h
theorem i_added_eq (l : List Fact) (f : Fact) (hl : l.length + 1 < 4294967296) (hf : bd_Fact f) : i_added l f = some (pAddF l f) := by
 unfold i_added pAddF
 rw [i_HasFact_eq, Option.bind_some]
 cases hh : pHasF l f
 · rw [if_neg (by simp), if_neg (by simp)]
   have hix : g_slices_IndexFunc_impl_Fact_impl_Fact_iadded1 l f = some (ixF (fun x => decide (0 < pCmpFact x f)) l 0) :=
     index_loop (L := g_slices_IndexFunc_impl_Fact_impl_Fact_iadded1_L1 f) (f := fun x => i_added_1 x f) (p := fun x => decide (0 < pCmpFact x f)) (fun k => rfl) (fun x r k => rfl) l 0 (fun x hx => by rw [i_added_1, i_CompareFacts_eq]; rfl)
   rw [hix, Option.bind_some]
   rcases pInsF_ix f l 0 with ⟨h1, h2⟩ | ⟨j, h1, h2, h3⟩
   · rw [h1, if_pos (by decide), i_copyFact_eq f hf, Option.bind_some, g_slices_Insert_impl_Fact_impl_Fact, h2]
     rw [if_pos ⟨by omega, by omega, hl⟩, Option.bind_some, Int.toNat_natCast, List.take_length, List.drop_length]
   · rw [h2, if_neg (by simp only [decide_eq_true_eq]; omega), i_copyFact_eq f hf, Option.bind_some, g_slices_Insert_impl_Fact_impl_Fact, h3]
     rw [if_pos ⟨by omega, by omega, hl⟩, Option.bind_some, Int.toNat_natCast, Nat.zero_add]
 · rw [if_pos rfl, if_pos rfl]
theorem s_AddFact_L1_done (f : Fact) : ∀ (l : List Fact) (k : Nat) (c : List Fact), (∀ x ∈ l, bd_Fact x) → c.length + l.length < 4294967296 → s_AddFact_L1 f l k c true = some (c ++ l)
 | [], k, c, _, _ => by simp [s_AddFact_L1]
 | x :: l, k, c, hx, h => by
   simp only [List.length_cons] at h
   unfold s_AddFact_L1
   rw [Bool.not_true, cond_false, Option.bind_some]
   dsimp only
   rw [if_neg (by simp), s_l2One_eq _ _ (hx x (by simp)).1, Option.bind_some, app_ok (by simp; omega), Option.bind_some, Option.bind_some]
   dsimp only
   rw [s_AddFact_L1_done f l _ _ (fun y hy => hx y (by simp [hy])) (by simp; omega)]
   simp
theorem s_AddFact_L1_eq (f : Fact) (hf : bd_Fact f) : ∀ (l : List Fact) (k : Nat) (c : List Fact) (b : Bool), (∀ x ∈ l, bd_Fact x) → c.length + l.length + 1 < 4294967296 → s_AddFact_L1 f l k c b = some (if b then c ++ l else c ++ pInsF f l)
 | [], k, c, b, _, h => by
   unfold s_AddFact_L1
   cases b
   · rw [if_pos (show (!false) = true from rfl), s_l2One_eq _ _ hf.1, Option.bind_some, app_ok (by simp at h ⊢; omega), if_neg (by simp)]; rfl
   · simp
 | x :: l, k, c, b, hx, h => by
   simp only [List.length_cons] at h
   have hx1 := hx x (by simp)
   have hx2 : ∀ y ∈ l, bd_Fact y := fun y hy => hx y (by simp [hy])
   unfold s_AddFact_L1
   cases b
   · rw [Bool.not_false, cond_true, s_CompareFacts_eq f x hf.1, Option.bind_some, Option.bind_some]
     dsimp only
     have ha := pCmpFact_anti f x
     by_cases hc : 0 < pCmpFact x f
     · rw [if_pos (by simp only [decide_eq_true_eq]; omega), s_l2One_eq _ _ hf.1, Option.bind_some, app_ok (by simp; omega), Option.bind_some, s_l2One_eq _ _ hx1.1, Option.bind_some, app_ok (by simp; omega), Option.bind_some, Option.bind_some]
       dsimp only
       rw [s_AddFact_L1_done f l _ _ hx2 (by simp; omega), if_neg (by simp)]
       simp [pInsF, hc]
     · rw [if_neg (by simp only [decide_eq_true_eq]; omega), s_l2One_eq _ _ hx1.1, Option.bind_some, app_ok (by simp; omega), Option.bind_some, Option.bind_some]
       dsimp only
       rw [s_AddFact_L1_eq f hf l _ _ _ hx2 (by simp; omega), if_neg (by simp), if_neg (by simp)]
       simp [pInsF, hc]
   · rw [if_pos rfl]
     exact s_AddFact_L1_done f (x :: l) k c hx (by simp; omega)
theorem s_AddFact_eq (l : List Fact) (f : Fact) (hb : bdL bd_Fact l) (hl : l.length + 1 < 4294967296) (hf : bd_Fact f) : s_AddFact l f = some (pAddF l f) := by
 unfold s_AddFact pAddF
 rw [s_HasFact_eq l f hb, Option.bind_some, s_AddFact_L1_eq f hf l 0 [] _ hb.2 (by simpa using hl), List.nil_append, List.nil_append]
theorem compactU_spec {zs : List Int} (h : zs.Pairwise (· ≤ ·)) : ∀ m, m ≤ zs.length →
   (Lib.compactUpTo zs.toArray m).Pairwise (· < ·) ∧ (∀ x, x ∈ Lib.compactUpTo zs.toArray m ↔ x ∈ zs.take m) ∧ (∀ x ∈ Lib.compactUpTo zs.toArray m, ∀ y, zs[m]? = some y → x ≤ y) := by
 intro m
 induction m with
 | zero => intro _; simp [Lib.compactUpTo]
 | succ m ih =>
   intro hm
   obtain ⟨i1, i2, i3⟩ := ih (by omega)
   have hlt : m < zs.length := by omega
   have hg : zs.toArray[m]! = zs[m] := by simp [hlt]
   have hnext : ∀ x, x ∈ zs.take (m + 1) → ∀ y, zs[m + 1]? = some y → x ≤ y := by
     intro x hx y hy
     obtain ⟨j, hj, rfl⟩ := List.mem_iff_getElem.1 hx
     obtain ⟨hy1, rfl⟩ := List.getElem?_eq_some_iff.1 hy
     rw [List.getElem_take]
     simp only [List.length_take] at hj
     exact List.pairwise_iff_getElem.1 h j (m + 1) (by omega) hy1 (by omega)
   rw [Lib.compactUpTo_succ, hg]
   have htake : zs.take (m + 1) = zs.take m ++ [zs[m]] := by rw [List.take_succ_eq_append_getElem hlt]
   by_cases hk : Lib.keeps zs.toArray m = true
   · rw [if_pos hk]
     have hlow : ∀ x ∈ Lib.compactUpTo zs.toArray m, x < zs[m] := by
       intro x hx
       have hm0 : m ≠ 0 := by
         intro e; subst e; simp [Lib.compactUpTo] at hx
       have hpl : m - 1 < zs.length := by omega
       have hpm : zs.toArray[m - 1]! = zs[m - 1] := by simp [hpl]
       have hne : zs[m] ≠ zs[m - 1] := by
         simp only [Lib.keeps, decide_eq_true_eq, hg, hpm] at hk
         rcases hk with h0 | h0
         · exact absurd h0 hm0
         · exact h0
       have hx1 := (i2 x).1 hx
       obtain ⟨j, hj, rfl⟩ := List.mem_iff_getElem.1 hx1
       rw [List.getElem_take] at *
       simp only [List.length_take] at hj
       have a1 : zs[j] ≤ zs[m - 1] := by
         rcases Nat.lt_or_ge j (m - 1) with h1 | h1
         · exact List.pairwise_iff_getElem.1 h j (m - 1) (by omega) hpl h1
         · have : j = m - 1 := by omega
           subst this; exact Int.le_refl _
       have a2 : zs[m - 1] ≤ zs[m] := List.pairwise_iff_getElem.1 h (m - 1) m hpl hlt (by omega)
       omega
     refine ⟨?_, ?_, ?_⟩
     · rw [List.pairwise_append]
       exact ⟨i1, by simp, fun a ha b hb => by simp at hb; subst hb; exact hlow a ha⟩
     · intro x; rw [htake, List.mem_append, List.mem_append, i2]
     · intro x hx y hy
       apply hnext x _ y hy
       rw [htake, List.mem_append, ← i2, ← List.mem_append]; exact hx
   · rw [if_neg hk, List.append_nil]
     have hm0 : m ≠ 0 := fun e => hk (by simp [Lib.keeps, e])
     have hpl : m - 1 < zs.length := by omega
     have hpm : zs.toArray[m - 1]! = zs[m - 1] := by simp [hpl]
     have he : zs[m] = zs[m - 1] := by
       simp only [Lib.keeps, decide_eq_true_eq, hg, hpm] at hk
       exact Classical.byContradiction fun hc => hk (.inr hc)
     have hin : zs[m] ∈ zs.take m := by
       rw [he]
       exact List.mem_iff_getElem.2 ⟨m - 1, by simp; omega, by rw [List.getElem_take]⟩
     have hiff : ∀ x, x ∈ zs.take (m + 1) ↔ x ∈ zs.take m := by
       intro x; rw [htake, List.mem_append, List.mem_singleton]
       exact ⟨fun h => h.elim id fun h => h ▸ hin, .inl⟩
     refine ⟨i1, fun x => by rw [i2, hiff], fun x hx y hy => hnext x ((hiff x).2 ((i2 x).1 hx)) y hy⟩
theorem compact_spec {zs : List Int} (h : zs.Pairwise (· ≤ ·)) : (Lib.compact zs).Pairwise (· < ·) ∧ ∀ x, x ∈ Lib.compact zs ↔ x ∈ zs := by
 obtain ⟨h1, h2, -⟩ := compactU_spec h zs.length (Nat.le_refl _)
 exact ⟨h1, fun x => by rw [Lib.compact, h2, List.take_length]⟩
theorem ss_ext : ∀ {a b : List Int}, a.Pairwise (· < ·) → b.Pairwise (· < ·) → (∀ x, x ∈ a ↔ x ∈ b) → a = b
 | [], [], _, _, _ => rfl
 | [], y :: b, _, _, h => absurd ((h y).2 (by simp)) (by simp)
 | x :: a, [], _, _, h => absurd ((h x).1 (by simp)) (by simp)
 | x :: a, y :: b, ha, hb, h => by
   rw [List.pairwise_cons] at ha hb
   have e : x = y := by
     have h1 := (h x).1 (by simp)
     have h2 := (h y).2 (by simp)
     rw [List.mem_cons] at h1 h2
     rcases h1 with h1 | h1
     · exact h1
     · rcases h2 with h2 | h2
       · exact h2.symm
       · have := hb.1 x h1; have := ha.1 y h2; omega
   subst e
   rw [ss_ext ha.2 hb.2 fun z => ?_]
   constructor
   · intro hz
     have h1 := (h z).1 (by simp [hz])
     have := ha.1 z hz
     rcases List.mem_cons.1 h1 with h1 | h1
     · omega
     · exact h1
   · intro hz
     have h1 := (h z).2 (by simp [hz])
     have := hb.1 z hz
     rcases List.mem_cons.1 h1 with h1 | h1
     · omega
     · exact h1
def pIns (x : Int) : List Int → List Int
 | [] => [x]
 | y :: l => if x < y then x :: y :: l else y :: pIns x l
theorem pIns_mem {x : Int} : ∀ {l : List Int} {y : Int}, y ∈ pIns x l ↔ y = x ∨ y ∈ l
 | [], y => by simp [pIns]
 | z :: l, y => by
   unfold pIns
   split
   · simp
   · rw [List.mem_cons, pIns_mem, List.mem_cons]
     constructor <;> rintro (h | h | h) <;> simp [h]
theorem pIns_ss {x : Int} : ∀ {l : List Int}, l.Pairwise (· < ·) → x ∉ l → (pIns x l).Pairwise (· < ·)
 | [], _, _ => by simp [pIns]
 | z :: l, h, hn => by
   unfold pIns
   rw [List.mem_cons, not_or] at hn
   rw [List.pairwise_cons] at h
   split
   · rename_i hx
     rw [List.pairwise_cons, List.pairwise_cons]
     refine ⟨fun a ha => ?_, h⟩
     rcases List.mem_cons.1 ha with rfl | ha
     · exact hx
     · have := h.1 a ha; omega
   · rename_i hx
     rw [List.pairwise_cons]
     refine ⟨fun a ha => ?_, pIns_ss h.2 hn.2⟩
     rcases pIns_mem.1 ha with rfl | ha
     · omega
     · exact h.1 a ha
theorem pIns_len {x : Int} : ∀ {l : List Int}, (pIns x l).length = l.length + 1
 | [] => rfl
 | z :: l => by
   unfold pIns
   split
   · rfl
   · simp [pIns_len]
def pPut (l : List Int) (x : Int) : List Int := if x ∈ l then l else pIns x l
theorem pPut_mem {l : List Int} {x y : Int} : y ∈ pPut l x ↔ y = x ∨ y ∈ l := by
 unfold pPut
 split
 · rename_i h; exact ⟨.inr, fun h' => h'.elim (fun e => e ▸ h) id⟩
 · exact pIns_mem
theorem pPut_ss {l : List Int} {x : Int} (h : l.Pairwise (· < ·)) : (pPut l x).Pairwise (· < ·) := by
 unfold pPut
 split
 · exact h
 · exact pIns_ss h (by assumption)
theorem pPut_len {l : List Int} {x : Int} : (pPut l x).length ≤ l.length + 1 := by
 unfold pPut
 split
 · omega
 · rw [pIns_len]; exact Nat.le_refl _
theorem puts_mem {y : Int} : ∀ {v l : List Int}, y ∈ v.foldl pPut l ↔ y ∈ l ∨ y ∈ v
 | [], l => by simp
 | x :: v, l => by
   rw [List.foldl_cons, puts_mem, pPut_mem, List.mem_cons]
   constructor
   · rintro ((h | h) | h) <;> simp [h]
   · rintro (h | h | h) <;> simp [h]
theorem puts_ss : ∀ {v l : List Int}, l.Pairwise (· < ·) → (v.foldl pPut l).Pairwise (· < ·)
 | [], _, h => h
 | x :: v, l, h => puts_ss (v := v) (pPut_ss h)
theorem puts_len : ∀ {v l : List Int}, (v.foldl pPut l).length ≤ l.length + v.length
 | [], _ => Nat.le_refl _
 | x :: v, l => by
   have h1 := puts_len (v := v) (l := pPut l x)
   have h2 := pPut_len (l := l) (x := x)
   simp only [List.foldl_cons, List.length_cons]; omega
theorem puts_sort (v : List Int) : v.foldl pPut [] = Lib.compact (v.mergeSort fun x y => decide (x ≤ y)) := by
 have hs : (v.mergeSort fun x y => decide (x ≤ y)).Pairwise (· ≤ ·) := by
   have := List.pairwise_mergeSort (le := fun x y : Int => decide (x ≤ y)) (fun a b c h1 h2 => by simp only [decide_eq_true_eq] at *; omega) (fun a b => by simp only [Bool.or_eq_true, decide_eq_true_eq]; omega) v
   exact this.imp fun h => by simpa using h
 obtain ⟨c1, c2⟩ := compact_spec hs
 exact ss_ext (puts_ss (by simp)) c1 fun x => by rw [puts_mem, c2, List.mem_mergeSort]; simp
theorem s_l2Has_eq (x : Int) (l : List Int) : s_l2Has l x = some (decide (x ∈ l)) := by
 unfold s_l2Has
 generalize 0 = k
 induction l generalizing k with
 | nil => rfl
 | cons y l ih =>
   unfold s_l2Has_L1
   by_cases h : y = x
   · subst h; simp
   · rw [if_neg (by simpa using h), ih]
     congr 1
     simp only [List.mem_cons, decide_eq_decide]
     exact ⟨.inr, fun h' => h'.elim (fun e => absurd e.symm h) id⟩
theorem s_l3Put_L1_eq (l : List Int) (x : Int) (hl : l.length < 4294967296) : ∀ (m i : Nat) (c : List Int) (b : Bool), i ≤ l.length → l.length - i < m → c.length + (l.length - i) + (bif b then 0 else 1) < 4294967296 → s_l3Put_L1 l x m c b (i : Int) = some (if b then c ++ l.drop i else c ++ pIns x (l.drop i))
 | 0, _, _, _, _, hm, _ => by omega
 | m + 1, i, c, b, hi, hm, h => by
   unfold s_l3Put_L1
   by_cases hlt : i < l.length
   · obtain ⟨y, t, hg, hd, ht⟩ : ∃ y t, ix l (i : Int) = some y ∧ l.drop i = y :: t ∧ l.drop (i + 1) = t := ⟨_, _, by rw [ix_nat, List.getElem?_eq_getElem hlt], List.drop_eq_getElem_cons hlt, rfl⟩
     have hw : IntKind.i64.wrap ((i : Int) + 1) = ((i + 1 : Nat) : Int) := by rw [wrap_in (by omega) (by omega)]; rfl
     rw [if_pos (by simp only [decide_eq_true_eq]; omega)]
     simp only [hg, Option.bind_some, hw]
     cases b
     · simp only [cond_false] at h
       by_cases hx : x < y
       · simp only [Bool.not_false, cond_true, hx, decide_true, if_true, Option.bind_some]
         rw [app_ok (by simp; omega), Option.bind_some, app_ok (by simp; omega), Option.bind_some, Option.bind_some]
         dsimp only
         rw [s_l3Put_L1_eq l x hl m (i + 1) _ _ hlt (by omega) (by simp; omega), ht, hd]
         simp [pIns, hx]
       · simp only [Bool.not_false, cond_true, hx, decide_false, Bool.false_eq_true, if_false, Option.bind_some]
         rw [app_ok (by simp; omega), Option.bind_some, Option.bind_some]
         dsimp only
         rw [s_l3Put_L1_eq l x hl m (i + 1) _ _ hlt (by omega) (by simp; omega), ht, hd]
         simp [pIns, hx]
     · simp only [cond_true] at h
       simp only [Bool.not_true, cond_false, Bool.false_eq_true, if_false, Option.bind_some]
       rw [app_ok (by simp; omega), Option.bind_some, Option.bind_some]
       dsimp only
       rw [s_l3Put_L1_eq l x hl m (i + 1) _ _ hlt (by omega) (by simp; omega), ht, hd]
       simp
   · have hd : l.drop i = [] := List.drop_eq_nil_of_le (by omega)
     rw [if_neg (by simp only [decide_eq_true_eq]; omega), hd]
     cases b
     · simp only [cond_false] at h
       rw [if_pos (show (!false) = true from rfl), app_ok (by simp; omega), if_neg (by simp)]; rfl
     · simp
theorem s_l3Put_eq (l : List Int) (x : Int) (h : l.length + 1 < 4294967296) : s_l3Put l x = some (pPut l x) := by
 unfold s_l3Put pPut
 rw [s_l2Has_eq, Option.bind_some]
 by_cases hx : x ∈ l
 · rw [if_pos (by simpa using hx), if_pos hx]
 · rw [if_neg (by simpa using hx), if_neg hx]
   have := s_l3Put_L1_eq l x (by omega) (((l.length : Int) - 0).toNat + 2) 0 [] false (by omega) (by omega) (by simpa using h)
   rw [show ((0 : Nat) : Int) = 0 from rfl] at this
   rw [this]
   simp
theorem cmpI_lt {x y : Int} : cmpI x y < 0 ↔ x < y := by unfold cmpI; split <;> (try split) <;> omega
theorem cmpI_gt {x y : Int} : 0 < cmpI x y ↔ y < x := by unfold cmpI; split <;> (try split) <;> omega
theorem cmpI_zero {x y : Int} : cmpI x y = 0 ↔ x = y := by unfold cmpI; split <;> (try split) <;> omega
theorem cmpL_zero : ∀ {a b : List Int}, cmpL a b = 0 ↔ a = b
 | [], [] => by simp [cmpL]
 | [], _ :: _ => by simp [cmpL]
 | _ :: _, [] => by simp [cmpL]
 | x :: a, y :: b => by
   unfold cmpL
   by_cases h : cmpI x y = 0
   · rw [if_neg (by simpa using h), cmpL_zero, cmpI_zero.1 h]; simp
   · rw [if_pos (by simpa using h)]
     constructor
     · intro h'; exact absurd h' h
     · intro h'; exact absurd (cmpI_zero.2 (List.cons.inj h').1) h
theorem cmpL_swap : ∀ {a b : List Int}, 0 < cmpL a b ↔ cmpL b a < 0
 | [], [] => by simp [cmpL]
 | [], _ :: _ => by simp [cmpL]
 | _ :: _, [] => by simp [cmpL]
 | x :: a, y :: b => by
   unfold cmpL
   by_cases h : cmpI x y = 0
   · have h2 := cmpI_zero.1 h
     subst h2
     rw [if_neg (by simpa using h), if_neg (by simpa using h)]; exact cmpL_swap
   · rw [if_pos (by simpa using h), if_pos (by have : ¬ cmpI y x = 0 := fun e => h (by rw [cmpI_zero] at *; exact e.symm)
                                               simpa using this), cmpI_gt, cmpI_lt]
theorem cmpL_trans : ∀ {a b c : List Int}, cmpL a b < 0 → cmpL b c < 0 → cmpL a c < 0
 | [], _, [], h1, h2 => by
   rename_i b
   cases b <;> simp [cmpL] at h1 h2
 | [], _, _ :: _, _, _ => by simp [cmpL]
 | _ :: _, [], _, h1, _ => by simp [cmpL] at h1
 | _ :: _, _ :: _, [], _, h2 => by simp [cmpL] at h2
 | x :: a, y :: b, z :: c, h1, h2 => by
   unfold cmpL at *
   by_cases e1 : cmpI x y = 0
   · have := cmpI_zero.1 e1
     subst this
     rw [if_neg (by simpa using e1)] at h1
     by_cases e2 : cmpI x z = 0
     · have := cmpI_zero.1 e2
       subst this
       rw [if_neg (by simpa using e1)] at h2 ⊢
       exact cmpL_trans h1 h2
     · rw [if_pos (by simpa using e2)] at h2 ⊢
       exact h2
   · rw [if_pos (by simpa using e1)] at h1
     by_cases e2 : cmpI y z = 0
     · have := cmpI_zero.1 e2
       subst this
       rw [if_pos (by simpa using e1)]; exact h1
     · rw [if_pos (by simpa using e2)] at h2
       rw [cmpI_lt] at h1 h2
       have : cmpI x z < 0 := cmpI_lt.2 (by omega)
       rw [if_pos (by simp; omega)]; exact this
theorem pCmpFact_L (a b : Fact) : pCmpFact a b = cmpL (a.Rel :: a.Values) (b.Rel :: b.Values) := rfl
theorem pCmpFact_zero {a b : Fact} : pCmpFact a b = 0 ↔ a = b := by
 rw [pCmpFact_L, cmpL_zero]
 constructor
 · intro h; cases a; cases b; simp at h; simp [h]
 · rintro rfl; rfl
theorem pCmpFact_swap {a b : Fact} : 0 < pCmpFact a b ↔ pCmpFact b a < 0 := by rw [pCmpFact_L, pCmpFact_L, cmpL_swap]
theorem pCmpFact_trans {a b c : Fact} : pCmpFact a b < 0 → pCmpFact b c < 0 → pCmpFact a c < 0 := by
 rw [pCmpFact_L, pCmpFact_L, pCmpFact_L]; exact cmpL_trans
def fLt (a b : Fact) : Prop := pCmpFact a b < 0
theorem pHasF_mem {l : List Fact} {f : Fact} : pHasF l f = true ↔ f ∈ l := by
 simp only [pHasF, List.any_eq_true, beq_iff_eq, pCmpFact_zero]
 constructor
 · rintro ⟨x, h, rfl⟩; exact h
 · intro h; exact ⟨f, h, rfl⟩
theorem pInsF_iff {f y : Fact} : ∀ {l : List Fact}, y ∈ pInsF f l ↔ y = f ∨ y ∈ l
 | [] => by simp [pInsF]
 | x :: l => by
   unfold pInsF
   split
   · simp
   · rw [List.mem_cons, pInsF_iff, List.mem_cons]
     constructor <;> rintro (h | h | h) <;> simp [h]
theorem pInsF_pw {f : Fact} : ∀ {l : List Fact}, l.Pairwise fLt → f ∉ l → (pInsF f l).Pairwise fLt
 | [], _, _ => by simp [pInsF]
 | x :: l, h, hn => by
   unfold pInsF
   rw [List.mem_cons, not_or] at hn
   rw [List.pairwise_cons] at h
   split
   · rename_i hx
     have hx' := pCmpFact_swap.1 hx
     rw [List.pairwise_cons, List.pairwise_cons]
     refine ⟨fun a ha => ?_, h⟩
     rcases List.mem_cons.1 ha with rfl | ha
     · exact hx'
     · exact pCmpFact_trans hx' (h.1 a ha)
   · rename_i hx
     rw [List.pairwise_cons]
     refine ⟨fun a ha => ?_, pInsF_pw h.2 hn.2⟩
     rcases pInsF_iff.1 ha with rfl | ha
     · have : pCmpFact x a ≠ 0 := fun e => hn.1 (pCmpFact_zero.1 e).symm
       show pCmpFact x a < 0
       omega
     · exact h.1 a ha
theorem pAddF_iff {l : List Fact} {f y : Fact} : y ∈ pAddF l f ↔ y = f ∨ y ∈ l := by
 unfold pAddF
 split
 · rename_i h
   rw [pHasF_mem] at h
   exact ⟨.inr, fun h' => h'.elim (fun e => e ▸ h) id⟩
 · exact pInsF_iff
theorem pAddF_pw {l : List Fact} {f : Fact} (h : l.Pairwise fLt) : (pAddF l f).Pairwise fLt := by
 unfold pAddF
 split
 · exact h
 · rename_i hn
   exact pInsF_pw h fun hm => hn (pHasF_mem.2 hm)
theorem pw_len : ∀ {a b : List Fact}, a.Pairwise fLt → (∀ x ∈ a, x ∈ b) → a.length ≤ b.length
 | [], _, _, _ => Nat.zero_le _
 | x :: a, b, h, hs => by
   rw [List.pairwise_cons] at h
   have hx := hs x (by simp)
   have h2 := pw_len (a := a) (b := b.filter fun y => !(pCmpFact y x == 0)) h.2 fun y hy => by
     have hne : ¬ pCmpFact y x = 0 := fun e => by
       have := h.1 y hy
       rw [pCmpFact_zero.1 e] at this
       have z : pCmpFact x x = 0 := pCmpFact_zero.2 rfl
       unfold fLt at this; omega
     exact List.mem_filter.2 ⟨hs y (by simp [hy]), by simpa using hne⟩
   have h3 : (b.filter fun y => !(pCmpFact y x == 0)).length < b.length := List.length_filter_lt_length_iff_exists.2 ⟨x, hx, by simp [pCmpFact_zero]⟩
   simp only [List.length_cons]; omega
theorem adj_pw {p : Fact → Bool} : ∀ (o : Option Fact) (l : List Fact), adjB p (fun y x => decide (0 ≤ pCmpFact y x)) o l = true ↔ (∀ x ∈ l, p x = true) ∧ (∀ y, o = some y → ∀ x ∈ l, fLt y x) ∧ l.Pairwise fLt
 | o, [] => by cases o <;> simp [adjB]
 | none, x :: l => by
   rw [adjB, Bool.and_eq_true, adj_pw (some x) l, List.pairwise_cons]
   simp only [List.mem_cons, forall_eq_or_imp, reduceCtorEq, false_implies, implies_true, true_and, Option.some.injEq, forall_eq']
   exact ⟨fun ⟨a, b, c, d⟩ => ⟨⟨a, b⟩, c, d⟩, fun ⟨⟨a, b⟩, c, d⟩ => ⟨a, b, c, d⟩⟩
 | some y, x :: l => by
   rw [adjB, Bool.and_eq_true, Bool.and_eq_true, adj_pw (some x) l, List.pairwise_cons]
   simp only [List.mem_cons, forall_eq_or_imp, Option.some.injEq, forall_eq', Bool.not_eq_true', decide_eq_false_iff_not, Int.not_le]
   constructor
   · rintro ⟨⟨a, b⟩, c, d, e⟩
     exact ⟨⟨a, c⟩, ⟨b, fun z hz => pCmpFact_trans b (d z hz)⟩, d, e⟩
   · rintro ⟨⟨a, c⟩, ⟨b, _⟩, d, e⟩
     exact ⟨⟨a, b⟩, c, d, e⟩
theorem pFacts_iff {s : List Int} {l : List Fact} : pFacts s l = true ↔ (∀ f ∈ l, pFact s f = true) ∧ l.Pairwise fLt ∧ pSchema s = true ∧ l.length ≤ 24 := by
 rw [pFacts, Bool.and_eq_true, adj_pw, Bool.and_eq_true, decide_eq_true_eq]
 simp only [reduceCtorEq, false_implies, implies_true, true_and]
 constructor
 · rintro ⟨⟨a, b⟩, c, d⟩; exact ⟨a, b, c, by omega⟩
 · rintro ⟨a, b, c, d⟩; exact ⟨⟨a, b⟩, c, by omega⟩
theorem pw_facts {s : List Int} {a b : List Fact} (hb : pFacts s b = true) (hp : a.Pairwise fLt) (hs : ∀ x ∈ a, x ∈ b) : pFacts s a = true := by
 rw [pFacts_iff] at *
 have := pw_len hp hs
 exact ⟨fun f hf => hb.1 f (hs f hf), hp, hb.2.2.1, by omega⟩
def pLists (v : List Int) : Nat → List (List Int)
 | 0 => [[]]
 | n + 1 => (pLists v n).flatMap fun l => v.map fun x => l ++ [x]
theorem pLists_mem {v : List Int} : ∀ {n : Nat} {x : List Int}, x ∈ pLists v n → x.length = n ∧ ∀ y ∈ x, y ∈ v
 | 0, x, h => by simp only [pLists, List.mem_singleton] at h; subst h; simp
 | n + 1, x, h => by
   simp only [pLists, List.mem_flatMap, List.mem_map] at h
   obtain ⟨l, hl, y, hy, rfl⟩ := h
   obtain ⟨h1, h2⟩ := pLists_mem hl
   refine ⟨by simp [h1], fun z hz => ?_⟩
   rw [List.mem_append, List.mem_singleton] at hz
   rcases hz with hz | rfl
   · exact h2 z hz
   · exact hy
theorem flat_len {α β : Type} (f : α → List β) (c : Nat) (hf : ∀ x, (f x).length = c) : ∀ l : List α, (l.flatMap f).length = l.length * c
 | [] => by simp
 | x :: l => by rw [List.flatMap_cons, List.length_append, hf, flat_len f c hf l, List.length_cons, Nat.succ_mul]; omega
theorem pLists_len (v : List Int) : ∀ n, (pLists v n).length = v.length ^ n
 | 0 => rfl
 | n + 1 => by rw [pLists, flat_len _ v.length (by simp), pLists_len v n, Nat.pow_succ]
theorem pLists_len3 {v : List Int} {n : Nat} (hv : v.length ≤ 10) (hn : n ≤ 3) : (pLists v n).length ≤ 1000 := by
 rw [pLists_len]
 calc v.length ^ n ≤ 10 ^ n := Nat.pow_le_pow_left hv n
   _ ≤ 10 ^ 3 := Nat.pow_le_pow_right (by omega) hn
theorem asc_len {v : List Int} (h : v.Pairwise (· < ·)) (lo : Int) (n : Nat) (hb : ∀ x ∈ v, lo ≤ x ∧ x < lo + n) : v.length ≤ n := by
 induction v generalizing lo n with
 | nil => simp
 | cons x v ih =>
   rw [List.pairwise_cons] at h
   have hx := hb x (by simp)
   have := ih h.2 (x + 1) (n - (x + 1 - lo).toNat) (fun y hy => by
     have a := h.1 y hy
     have b := hb y (by simp [hy])
     omega)
   simp only [List.length_cons]; omega
def pLogd (log : List Access) (a : Access) : Bool := log.any fun x => pSameAccess x a
def pOpenM (vs : List Int) (log : List Access) (k : Nat) (m : Method) : List Access :=
 if m.Limit != 0 then [] else ((pLists vs m.Inputs.length).filter fun v => !pLogd log { Method := (k : Int), Values := v }).map fun v => ({ Method := (k : Int), Values := v } : Access)
def pOpen (vs : List Int) (log : List Access) : List Method → Nat → List Access
 | [], _ => []
 | m :: l, k => pOpenM vs log k m ++ pOpen vs log l (k + 1)
theorem pOpenM_len {vs : List Int} {log : List Access} {k : Nat} {m : Method} (hv : vs.length ≤ 10) (hm : m.Inputs.length ≤ 3) : (pOpenM vs log k m).length ≤ 1000 := by
 unfold pOpenM
 split
 · simp
 · rw [List.length_map]; exact Nat.le_trans (List.length_filter_le ..) (pLists_len3 hv hm)
theorem pOpen_len {vs : List Int} {log : List Access} (hv : vs.length ≤ 10) : ∀ {l : List Method} {k : Nat}, (∀ m ∈ l, m.Inputs.length ≤ 3) → (pOpen vs log l k).length ≤ 1000 * l.length
 | [], _, _ => by simp [pOpen]
 | m :: l, k, h => by
   rw [pOpen, List.length_append, List.length_cons]
   have h1 := pOpenM_len (vs := vs) (log := log) (k := k) hv (h m (by simp))
   have h2 := pOpen_len (log := log) hv (l := l) (k := k + 1) fun x hx => h x (by simp [hx])
   omega
theorem pOpen_mem {vs : List Int} {log : List Access} {a : Access} : ∀ {l : List Method} {k : Nat}, a ∈ pOpen vs log l k → ∃ (j : Nat) (m : Method), l[j]? = some m ∧ a.Method = ((k + j : Nat) : Int) ∧ a.Values.length = m.Inputs.length ∧ ∀ y ∈ a.Values, y ∈ vs
 | [], _, h => by simp [pOpen] at h
 | m :: l, k, h => by
   rw [pOpen, List.mem_append] at h
   rcases h with h | h
   · unfold pOpenM at h
     split at h
     · simp at h
     · obtain ⟨v, hv, rfl⟩ := List.mem_map.1 h
       obtain ⟨h1, h2⟩ := pLists_mem (List.mem_filter.1 hv).1
       exact ⟨0, m, rfl, rfl, h1, h2⟩
   · obtain ⟨j, x, h1, h2, h3, h4⟩ := pOpen_mem h
     exact ⟨j + 1, x, by simpa using h1, by rw [h2]; congr 1; omega, h3, h4⟩
theorem adj_asc : ∀ (o : Option Int) (l : List Int), adjB (fun _ => true) (fun y x => decide (x ≤ y)) o l = true ↔ (∀ y, o = some y → ∀ x ∈ l, y < x) ∧ l.Pairwise (· < ·)
 | o, [] => by cases o <;> simp [adjB]
 | none, x :: l => by
   rw [adjB, Bool.true_and, adj_asc (some x) l, List.pairwise_cons]
   simp
 | some y, x :: l => by
   rw [adjB, Bool.and_eq_true, Bool.and_eq_true, adj_asc (some x) l, List.pairwise_cons]
   simp only [List.mem_cons, forall_eq_or_imp, Option.some.injEq, forall_eq', Bool.not_eq_true', decide_eq_false_iff_not, Int.not_le, true_and]
   constructor
   · rintro ⟨b, d, e⟩
     exact ⟨⟨b, fun z hz => Int.lt_trans b (d z hz)⟩, d, e⟩
   · rintro ⟨⟨b, _⟩, d, e⟩
     exact ⟨b, d, e⟩
theorem pMethod_ins {s : List Int} {m : Method} (h : pMethod s m = true) : m.Inputs.length ≤ 3 := by
 simp only [pMethod, Bool.and_eq_true, List.all_eq_true] at h
 obtain ⟨h1, -, -, -, h2, h3⟩ := h
 have h4 := ((adj_asc none _).1 h2).2
 have h5 := pAr_ix h1
 refine asc_len h4 0 3 fun x hx => ?_
 have := h3 x hx
 simp only [pIn, Bool.and_eq_true, decide_eq_true_eq] at this
 omega
theorem pOpen_acc {s : List Int} {l : List Method} {vs : List Int} {log : List Access} (hl : pMethods s l = true) (hv : ∀ v ∈ vs, 0 ≤ v ∧ v ≤ 9) {a : Access} (h : a ∈ pOpen vs log l 0) : pAccess s l a = true := by
 obtain ⟨j, m, h1, h2, h3, h4⟩ := pOpen_mem h
 have hj : j < l.length := (List.getElem?_eq_some_iff.1 h1).1
 have hi : pIn 0 ((l.length : Int) - 1) a.Method = true := by rw [h2]; simp only [pIn, Bool.and_eq_true, decide_eq_true_eq]; omega
 have hm : pMeth l a.Method = m := by
   unfold pMeth
   rw [h2, Nat.zero_add, ix_nat, h1]; rfl
 simp only [pAccess, Bool.and_eq_true]
 refine ⟨hl, hi, ?_, ?_⟩
 · rw [hm, h3]; simp
 · rw [List.all_eq_true]
   intro y hy
   have := hv y (h4 y hy)
   simp only [pIn, Bool.and_eq_true, decide_eq_true_eq]; omega
def pGot (l : List Method) (facts : List Fact) (a : Access) : List Fact := facts.filter (pFits (pMeth l a.Method) a.Values)
def pTellF (l : List Method) (facts : List Fact) (fs : List Fact) (a : Access) : List Fact := (pGot l facts a).foldl pAddF fs
def pPuts (vs : List Int) (f : Fact) : List Int := f.Values.foldl pPut vs
def pTellV (l : List Method) (facts : List Fact) (vs : List Int) (a : Access) : List Int := (pGot l facts a).foldl pPuts vs
def pTold (l : List Method) (facts : List Fact) (r : Reached) : Reached :=
 let o := pOpen r.Values r.Log l 0
 { Facts := o.foldl (pTellF l facts) r.Facts, Values := o.foldl (pTellV l facts) r.Values, Log := r.Log ++ o, Rounds := r.Rounds + (if o = [] then 0 else 1) }
structure RInv (s : List Int) (l : List Method) (facts : List Fact) (n : Nat) (r : Reached) : Prop where
 pw : r.Facts.Pairwise fLt
 sub : ∀ f ∈ r.Facts, f ∈ facts
 asc : r.Values.Pairwise (· < ·)
 vals : ∀ v ∈ r.Values, 0 ≤ v ∧ v ≤ 9
 loglen : r.Log.length ≤ 5000 * n
 log : ∀ a ∈ r.Log, pAccess s l a = true
 rounds : r.Rounds = (n : Int)
theorem addFs_inv {facts : List Fact} : ∀ {g fs : List Fact}, (∀ f ∈ g, f ∈ facts) → fs.Pairwise fLt → (∀ f ∈ fs, f ∈ facts) → (g.foldl pAddF fs).Pairwise fLt ∧ ∀ f ∈ g.foldl pAddF fs, f ∈ facts
 | [], _, _, h1, h2 => ⟨h1, h2⟩
 | x :: g, fs, hg, h1, h2 => by
   rw [List.foldl_cons]
   refine addFs_inv (fun f hf => hg f (by simp [hf])) (pAddF_pw h1) fun f hf => ?_
   rcases pAddF_iff.1 hf with rfl | hf
   · exact hg f (by simp)
   · exact h2 f hf
def VOk (vs : List Int) : Prop := vs.Pairwise (· < ·) ∧ ∀ v ∈ vs, 0 ≤ v ∧ v ≤ 9
theorem VOk_len {vs : List Int} (h : VOk vs) : vs.length ≤ 10 := asc_len h.1 0 10 fun x hx => by have := h.2 x hx; omega
theorem pPuts_ok {vs : List Int} {f : Fact} (h : VOk vs) (hf : ∀ v ∈ f.Values, 0 ≤ v ∧ v ≤ 9) : VOk (pPuts vs f) :=
 ⟨puts_ss h.1, fun v hv => by
   rcases puts_mem.1 hv with hv | hv
   · exact h.2 v hv
   · exact hf v hv⟩
theorem pPutss_ok : ∀ {g : List Fact} {vs : List Int}, VOk vs → (∀ f ∈ g, ∀ v ∈ f.Values, 0 ≤ v ∧ v ≤ 9) → VOk (g.foldl pPuts vs)
 | [], _, h, _ => h
 | x :: g, vs, h, hg => pPutss_ok (g := g) (pPuts_ok h (hg x (by simp))) fun f hf => hg f (by simp [hf])
theorem pFact_vals {s : List Int} {f : Fact} (h : pFact s f = true) : f.Values.length ≤ 3 ∧ ∀ v ∈ f.Values, 0 ≤ v ∧ v ≤ 9 := by
 simp only [pFact, Bool.and_eq_true, beq_iff_eq] at h
 obtain ⟨h1, h2, h3⟩ := h
 have := pAr_ix h1
 refine ⟨by omega, fun v hv => ?_⟩
 have := List.all_eq_true.1 h3 v hv
 simp only [pIn, Bool.and_eq_true, decide_eq_true_eq] at this
 omega
theorem tellF_inv {l : List Method} {facts : List Fact} : ∀ {o : List Access} {fs : List Fact}, fs.Pairwise fLt → (∀ f ∈ fs, f ∈ facts) → (o.foldl (pTellF l facts) fs).Pairwise fLt ∧ ∀ f ∈ o.foldl (pTellF l facts) fs, f ∈ facts
 | [], _, h1, h2 => ⟨h1, h2⟩
 | a :: o, fs, h1, h2 => by
   have := addFs_inv (facts := facts) (g := pGot l facts a) (fs := fs) (fun f hf => (List.mem_filter.1 hf).1) h1 h2
   rw [List.foldl_cons]
   exact tellF_inv this.1 this.2
theorem tellV_ok {s : List Int} {l : List Method} {facts : List Fact} (hf : ∀ f ∈ facts, pFact s f = true) : ∀ {o : List Access} {vs : List Int}, VOk vs → VOk (o.foldl (pTellV l facts) vs)
 | [], _, h => h
 | a :: o, vs, h => by
   rw [List.foldl_cons]
   exact tellV_ok hf (pPutss_ok h fun f hg => (pFact_vals (hf f (List.mem_filter.1 hg).1)).2)
theorem pTold_inv {s : List Int} {l : List Method} {facts : List Fact} {n : Nat} {r : Reached} (hl : pMethods s l = true) (hf : pFacts s facts = true) (h : RInv s l facts n r) (ho : pOpen r.Values r.Log l 0 ≠ []) : RInv s l facts (n + 1) (pTold l facts r) := by
 have h5 : l.length ≤ 5 := by
   simp only [pMethods, Bool.and_eq_true, decide_eq_true_eq] at hl; omega
 have hm : ∀ m ∈ l, m.Inputs.length ≤ 3 := fun m hm => by
   simp only [pMethods, Bool.and_eq_true] at hl
   exact pMethod_ins (List.all_eq_true.1 hl.2.2 m hm)
 have hF := tellF_inv (l := l) (o := pOpen r.Values r.Log l 0) h.pw h.sub
 have hV := tellV_ok (l := l) (pFacts_all hf) (o := pOpen r.Values r.Log l 0) ⟨h.asc, h.vals⟩
 refine ⟨hF.1, hF.2, hV.1, hV.2, ?_, ?_, ?_⟩
 · show (r.Log ++ _).length ≤ _
   have := pOpen_len (vs := r.Values) (log := r.Log) (VOk_len ⟨h.asc, h.vals⟩) (l := l) (k := 0) hm
   have := h.loglen
   rw [List.length_append]; omega
 · intro a ha
   rcases List.mem_append.1 ha with ha | ha
   · exact h.log a ha
   · exact pOpen_acc hl h.vals ha
 · show r.Rounds + _ = _
   rw [if_neg ho, h.rounds]; omega
theorem i_isValue_eq (n : Int) : i_isValue n = some (pIn 0 9 n) := rfl
theorem s_l8Lists_L5_eq (C : List (List Int)) (j : Int) (x : List Int) (hx : ix C j = some x) (hl : x.length + 1 < 4294967296) : ∀ (l : List Int) (i : Nat) (c : List (List Int)), c.length + l.length < 4294967296 → s_l8Lists_L5 C j l i c = some (c ++ l.map fun y => x ++ [y])
 | [], i, c, _ => by simp [s_l8Lists_L5]
 | y :: l, i, c, h => by
   simp only [List.length_cons] at h
   unfold s_l8Lists_L5
   rw [hx, Option.bind_some, app_nil (by omega), Option.bind_some, app_ok (by simp; omega), Option.bind_some, app_ok (by simp; omega), Option.bind_some, s_l8Lists_L5_eq C j x hx hl l _ _ (by simp; omega)]
   simp
theorem i_lists_L4_eq (x : List Int) (hl : x.length + 1 < 4294967296) : ∀ (l : List Int) (i : Nat) (c : List (List Int)), c.length + l.length < 4294967296 → i_lists_L4 x l i c = some (c ++ l.map fun y => x ++ [y])
 | [], i, c, _ => by simp [i_lists_L4]
 | y :: l, i, c, h => by
   simp only [List.length_cons] at h
   unfold i_lists_L4
   rw [g_slices_Clone_int_int_eq x (by omega), Option.bind_some, app_ok (by simp; omega), Option.bind_some, app_ok (by simp; omega), Option.bind_some, i_lists_L4_eq x hl l _ _ (by simp; omega)]
   simp
theorem s_l8Lists_L2_eq (v : List Int) (C : List (List Int)) (hC : ∀ x ∈ C, x.length + 1 < 4294967296) (hb : C.length < 4294967296) : ∀ (m i : Nat) (c : List (List Int)), i ≤ C.length → C.length - i < m → c.length + (C.length - i) * v.length < 4294967296 → s_l8Lists_L2 v m C c (i : Int) = some (c ++ (C.drop i).flatMap fun l => v.map fun x => l ++ [x]) := by
 intro m
 induction m with
 | zero => intro i c _ h _; omega
 | succ m ih =>
   intro i c hi hm hc
   unfold s_l8Lists_L2
   by_cases hlt : i < C.length
   · have e : C.length - i = (C.length - (i + 1)) + 1 := by omega
     rw [e, Nat.add_mul, Nat.one_mul] at hc
     rw [if_pos (by simpa using hlt), s_l8Lists_L5_eq C (i : Int) C[i] (by rw [ix_nat, List.getElem?_eq_getElem hlt]) (hC _ (List.getElem_mem hlt)) v 0 c (by omega), Option.bind_some]
     dsimp only
     rw [show IntKind.i64.wrap ((i : Int) + 1) = ((i + 1 : Nat) : Int) from by rw [wrap_in (by omega) (by omega)]; rfl, ih (i + 1) _ (by omega) (by omega) (by simp; omega), List.drop_eq_getElem_cons hlt, List.flatMap_cons, List.append_assoc]
   · rw [if_neg (by simpa using hlt), List.drop_eq_nil_of_le (by omega)]; simp
theorem i_lists_L2_eq (v : List Int) : ∀ (l : List (List Int)) (i : Nat) (c : List (List Int)), (∀ x ∈ l, x.length + 1 < 4294967296) → c.length + l.length * v.length < 4294967296 → i_lists_L2 v l i c = some (c ++ l.flatMap fun l => v.map fun x => l ++ [x])
 | [], i, c, _, _ => by simp [i_lists_L2]
 | x :: l, i, c, hx, h => by
   simp only [List.length_cons, Nat.add_mul, Nat.one_mul] at h
   unfold i_lists_L2
   rw [i_lists_L4_eq x (hx x (by simp)) v 0 c (by omega), Option.bind_some]
   dsimp only
   rw [i_lists_L2_eq v l _ _ (fun y hy => hx y (by simp [hy])) (by simp; omega), List.flatMap_cons, List.append_assoc]
theorem pLists_mul {v : List Int} {n : Nat} (hv : v.length ≤ 10) (hn : n ≤ 3) : (pLists v n).length * v.length ≤ 10000 := by
 have := pLists_len3 (v := v) hv hn
 calc (pLists v n).length * v.length ≤ 1000 * 10 := Nat.mul_le_mul this hv
   _ = 10000 := rfl
theorem s_l8Lists_eq (v : List Int) (n : Nat) (hv : v.length ≤ 10) (hn : n ≤ 3) : s_l8Lists v (n : Int) = some (pLists v n) := by
 have key : ∀ (m i : Nat), i ≤ n → n - i < m → s_l8Lists_L1 v (n : Int) m (pLists v i) (i : Int) = some (pLists v n) := by
   intro m
   induction m with
   | zero => intro i _ h; omega
   | succ m ih =>
     intro i hi hm
     unfold s_l8Lists_L1
     by_cases hlt : i < n
     · have h1 := pLists_mul (v := v) (n := i) hv (by omega)
       have h2 := pLists_len3 (v := v) (n := i) hv (by omega)
       rw [if_pos (by simpa using hlt), show (((pLists v i).length : Int) - 0).toNat + 2 = (pLists v i).length + 2 by omega, show (0 : Int) = ((0 : Nat) : Int) from rfl,
         s_l8Lists_L2_eq v _ (fun x hx => by have := (pLists_mem hx).1; omega) (by omega) _ 0 [] (by omega) (by omega) (by simp; omega), Option.bind_some]
       dsimp only
       rw [show IntKind.i64.wrap ((i : Int) + 1) = ((i + 1 : Nat) : Int) from by rw [wrap_in (by omega) (by omega)]; rfl, List.nil_append, List.drop_zero]
       exact ih (i + 1) (by omega) (by omega)
     · rw [if_neg (by simpa using hlt)]
       have : i = n := by omega
       rw [this]
 have := key (((n : Int) - 0).toNat + 2) 0 (by omega) (by omega)
 exact this
theorem i_lists_eq (v : List Int) (n : Nat) (hv : v.length ≤ 10) (hn : n ≤ 3) : i_lists v (n : Int) = some (pLists v n) := by
 have key : ∀ (m i : Nat), i ≤ n → n - i < m → i_lists_L1 v (n : Int) m (pLists v i) (i : Int) = some (pLists v n) := by
   intro m
   induction m with
   | zero => intro i _ h; omega
   | succ m ih =>
     intro i hi hm
     unfold i_lists_L1
     by_cases hlt : i < n
     · have h1 := pLists_mul (v := v) (n := i) hv (by omega)
       have h2 := pLists_len3 (v := v) (n := i) hv (by omega)
       rw [if_pos (by simpa using hlt), i_lists_L2_eq v _ 0 [] (fun x hx => by have := (pLists_mem hx).1; omega) (by simp; omega), Option.bind_some]
       dsimp only
       rw [show IntKind.i64.wrap ((i : Int) + 1) = ((i + 1 : Nat) : Int) from by rw [wrap_in (by omega) (by omega)]; rfl, List.nil_append]
       exact ih (i + 1) (by omega) (by omega)
     · rw [if_neg (by simpa using hlt)]
       have : i = n := by omega
       rw [this]
 have := key (((n : Int) - 0).toNat + 2) 0 (by omega) (by omega)
 exact this
theorem s_logd (log : List Access) (a : Access) : s_l7Logged log a = some (pLogd log a) := s_l7Logged_eq log a
theorem i_logd (l : List Access) (a : Access) : i_hasAccess l a = some (pLogd l a) := i_hasAccess_eq l a
theorem s_l8Open_L2_eq (r : Reached) (k : Nat) (l : List (List Int)) (c : List Access) (hl : ∀ x ∈ l, x.length < 4294967296) (hc : c.length + l.length < 4294967296) : s_l8Open_L2 r k l 0 c = some (c ++ (l.filter fun v => !pLogd r.Log { Method := (k : Int), Values := v }).map fun v => ({ Method := (k : Int), Values := v } : Access)) :=
 fm_loop (L := s_l8Open_L2 r k) (P := fun x => x.length < 4294967296) (p := fun v => !pLogd r.Log { Method := (k : Int), Values := v }) (g := fun v => ({ Method := (k : Int), Values := v } : Access)) (fun _ _ => rfl) (fun x t i c hx hc => by
   rw [s_l8Open_L2, s_l8Access_eq _ _ hx, Option.bind_some, s_logd, Option.bind_some]
   cases pLogd r.Log { Method := (k : Int), Values := x }
   · simp [app1 hc]
   · simp) l 0 c hl hc
theorem i_Reached_open_L2_eq (r : Reached) (k : Nat) (l : List (List Int)) (c : List Access) (hc : c.length + l.length < 4294967296) : i_Reached_open_L2 r k l 0 c = some (c ++ (l.filter fun v => !pLogd r.Log { Method := (k : Int), Values := v }).map fun v => ({ Method := (k : Int), Values := v } : Access)) :=
 fm_loop (L := i_Reached_open_L2 r k) (P := fun _ => True) (p := fun v => !pLogd r.Log { Method := (k : Int), Values := v }) (g := fun v => ({ Method := (k : Int), Values := v } : Access)) (fun _ _ => rfl) (fun x t i c hx hc => by
   rw [i_Reached_open_L2, i_logd, Option.bind_some]
   cases pLogd r.Log { Method := (k : Int), Values := x }
   · simp [app1 hc]
   · simp) l 0 c (fun _ _ => trivial) hc
theorem s_l8Open_L1_eq (r : Reached) (hv : r.Values.length ≤ 10) : ∀ (l : List Method) (k : Nat) (c : List Access), (∀ m ∈ l, m.Inputs.length ≤ 3) → c.length + 1000 * l.length < 4294967296 → s_l8Open_L1 r l k c = some (c ++ pOpen r.Values r.Log l k)
 | [], k, c, _, _ => by simp [s_l8Open_L1, pOpen]
 | m :: l, k, c, hm, hc => by
   simp only [List.length_cons] at hc
   have h3 := hm m (by simp)
   have e : (if ((m.Limit : Int) != 0) then some c else (s_l8Lists r.Values (m.Inputs.length : Int)).bind fun r25 => s_l8Open_L2 r k r25 0 c) = some (c ++ pOpenM r.Values r.Log k m) := by
     unfold pOpenM
     split
     · simp
     · have := pLists_len3 (v := r.Values) hv h3
       rw [s_l8Lists_eq _ _ hv h3, Option.bind_some, s_l8Open_L2_eq r k _ c (fun x hx => by have := (pLists_mem hx).1; omega) (by omega)]
   have h4 := pOpenM_len (vs := r.Values) (log := r.Log) (k := k) hv h3
   unfold s_l8Open_L1
   rw [e, Option.bind_some]
   dsimp only
   rw [s_l8Open_L1_eq r hv l _ _ (fun x hx => hm x (by simp [hx])) (by simp; omega), pOpen, List.append_assoc]
theorem i_Reached_open_L1_eq (r : Reached) (hv : r.Values.length ≤ 10) : ∀ (l : List Method) (k : Nat) (c : List Access), (∀ m ∈ l, m.Inputs.length ≤ 3) → c.length + 1000 * l.length < 4294967296 → i_Reached_open_L1 r l k c = some (c ++ pOpen r.Values r.Log l k)
 | [], k, c, _, _ => by simp [i_Reached_open_L1, pOpen]
 | m :: l, k, c, hm, hc => by
   simp only [List.length_cons] at hc
   have h3 := hm m (by simp)
   have e : (if ((m.Limit : Int) != 0) then some c else (i_lists r.Values (m.Inputs.length : Int)).bind fun r25 => i_Reached_open_L2 r k r25 0 c) = some (c ++ pOpenM r.Values r.Log k m) := by
     unfold pOpenM
     split
     · simp
     · have := pLists_len3 (v := r.Values) hv h3
       rw [i_lists_eq _ _ hv h3, Option.bind_some, i_Reached_open_L2_eq r k _ c (by omega)]
   have h4 := pOpenM_len (vs := r.Values) (log := r.Log) (k := k) hv h3
   unfold i_Reached_open_L1
   rw [e, Option.bind_some]
   dsimp only
   rw [i_Reached_open_L1_eq r hv l _ _ (fun x hx => hm x (by simp [hx])) (by simp; omega), pOpen, List.append_assoc]
theorem pMethods_ins {s : List Int} {l : List Method} (hl : pMethods s l = true) : l.length ≤ 5 ∧ ∀ m ∈ l, m.Inputs.length ≤ 3 := by
 simp only [pMethods, Bool.and_eq_true, decide_eq_true_eq] at hl
 exact ⟨by omega, fun m hm => pMethod_ins (List.all_eq_true.1 hl.2.2 m hm)⟩
theorem s_l8Open_eq {s : List Int} (l : List Method) (r : Reached) (hl : pMethods s l = true) (hv : r.Values.length ≤ 10) : s_l8Open l r = some (pOpen r.Values r.Log l 0) := by
 obtain ⟨h1, h2⟩ := pMethods_ins hl
 rw [s_l8Open, s_l8Open_L1_eq r hv l 0 [] h2 (by simp; omega), List.nil_append]
theorem i_Reached_open_eq {s : List Int} (l : List Method) (r : Reached) (hl : pMethods s l = true) (hv : r.Values.length ≤ 10) : i_Reached_open r l = some (pOpen r.Values r.Log l 0) := by
 obtain ⟨h1, h2⟩ := pMethods_ins hl
 rw [i_Reached_open, i_Reached_open_L1_eq r hv l 0 [] h2 (by simp; omega), List.nil_append]
theorem g_slices_Concat2_eq (a b : List Int) (h : a.length + b.length < 4294967296) : g_slices_Concat_int_int [a, b] = some (a ++ b) := by
 unfold g_slices_Concat_int_int g_slices_Concat_int_int_L1
 rw [wrap_in (by omega) (by omega), if_neg (by simp only [decide_eq_true_eq]; omega), Option.bind_some]
 dsimp only
 unfold g_slices_Concat_int_int_L1
 rw [wrap_in (by omega) (by omega), if_neg (by simp only [decide_eq_true_eq]; omega), Option.bind_some]
 dsimp only
 unfold g_slices_Concat_int_int_L1 g_slices_Grow_int_int_nil
 rw [if_pos (by omega), Option.bind_some]
 unfold g_slices_Concat_int_int_L2
 rw [app_nil (by omega), Option.bind_some]
 unfold g_slices_Concat_int_int_L2
 rw [app_ok (by omega), Option.bind_some]
 rfl
theorem i_withValues_L1_eq (R : List Int) (hR : R.length < 4294967296) : ∀ (m i : Nat) (c : List Int), i ≤ R.length → R.length - i < m → c.length + (R.length - i) < 4294967296 → i_withValues_L1 R m c (i : Int) = some (Lib.compact ((c ++ (R.drop i).filter (pIn 0 9)).mergeSort fun x y => decide (x ≤ y))) := by
 intro m
 induction m with
 | zero => intro i c _ h _; omega
 | succ m ih =>
   intro i c hi hm hc
   unfold i_withValues_L1
   by_cases hlt : i < R.length
   · rw [if_pos (by simpa using hlt), ix_nat, List.getElem?_eq_getElem hlt, Option.bind_some, i_isValue_eq, Option.bind_some, List.drop_eq_getElem_cons hlt, List.filter_cons]
     cases hp : pIn 0 9 R[i]
     · rw [if_neg (by simp), Option.bind_some, if_neg (by simp)]
       dsimp only
       rw [show IntKind.i64.wrap ((i : Int) + 1) = ((i + 1 : Nat) : Int) from by rw [wrap_in (by omega) (by omega)]; rfl, ih (i + 1) _ (by omega) (by omega) (by omega)]
     · rw [if_pos rfl, app_ok (by simp; omega), Option.bind_some, Option.bind_some, if_pos rfl]
       dsimp only
       rw [show IntKind.i64.wrap ((i : Int) + 1) = ((i + 1 : Nat) : Int) from by rw [wrap_in (by omega) (by omega)]; rfl, ih (i + 1) _ (by omega) (by omega) (by simp; omega)]
       simp
   · rw [if_neg (by simpa using hlt), List.drop_eq_nil_of_le (by omega)]
     simp [g_slices_Sort_int_int, g_slices_Compact_int_int]
theorem i_withValues_eq (a b : List Int) (h : a.length + b.length < 4294967296) : i_withValues a b = some (((a ++ b).filter (pIn 0 9)).foldl pPut []) := by
 unfold i_withValues
 rw [g_slices_Concat2_eq a b h, Option.bind_some, show (((a ++ b).length : Int) - 0).toNat + 2 = (a ++ b).length + 2 by omega, show (0 : Int) = ((0 : Nat) : Int) from rfl,
   i_withValues_L1_eq (a ++ b) (by simp; omega) _ 0 [] (by omega) (by omega) (by simp; omega), puts_sort]
 simp
theorem puts_asc {v : List Int} (h : v.Pairwise (· < ·)) : v.foldl pPut [] = v :=
 ss_ext (puts_ss (by simp)) h fun x => by rw [puts_mem]; simp
theorem i_withValues_vok {vs b : List Int} (h : VOk vs) (hb : ∀ v ∈ b, 0 ≤ v ∧ v ≤ 9) (hl : b.length < 1000000) : i_withValues vs b = some (b.foldl pPut vs) := by
 have := VOk_len h
 have e : ∀ l : List Int, (∀ v ∈ l, 0 ≤ v ∧ v ≤ 9) → l.filter (pIn 0 9) = l := fun l hl => List.filter_eq_self.2 fun v hv => by
   have := hl v hv
   simp only [pIn, Bool.and_eq_true, decide_eq_true_eq]; omega
 rw [i_withValues_eq vs b (by omega), e (vs ++ b) (fun v hv => (List.mem_append.1 hv).elim (h.2 v) (hb v)), List.foldl_append, puts_asc h.1]
theorem s_l8Step_L24_eq (f : Fact) (F : List Fact) (hf : f.Values.length < 1000000) : ∀ (m i : Nat) (c : List Int), i ≤ f.Values.length → f.Values.length - i < m → c.length + (f.Values.length - i) < 4294967295 → s_l8Step_L24 f F m c (i : Int) = some (F, (f.Values.drop i).foldl pPut c) := by
 intro m
 induction m with
 | zero => intro i c _ h _; omega
 | succ m ih =>
   intro i c hi hm hc
   unfold s_l8Step_L24
   by_cases hlt : i < f.Values.length
   · have := pPut_len (l := c) (x := f.Values[i])
     rw [if_pos (by simpa using hlt), ix_nat, List.getElem?_eq_getElem hlt, Option.bind_some, s_l3Put_eq _ _ (by omega), Option.bind_some, show IntKind.i64.wrap ((i : Int) + 1) = ((i + 1 : Nat) : Int) from by rw [wrap_in (by omega) (by omega)]; rfl,
       ih (i + 1) _ (by omega) (by omega) (by omega), List.drop_eq_getElem_cons hlt, List.foldl_cons]
   · rw [if_neg (by simpa using hlt), List.drop_eq_nil_of_le (by omega)]; rfl
theorem bd_FactOf {s : List Int} {f : Fact} (h : pFact s f = true) : bd_Fact f := bdL_flat _ (by have := (pFact_vals h).1; omega)
theorem bdL_Facts {s : List Int} {l : List Fact} (h : ∀ f ∈ l, pFact s f = true) (hl : l.length < 4294967296) : bdL bd_Fact l := ⟨hl, fun f hf => bd_FactOf (h f hf)⟩
theorem s_l8Step_L21_eq {s : List Int} (z : List Access) : ∀ (g : List Fact) (k : Nat) (fs : List Fact) (vs : List Int), (∀ f ∈ g, pFact s f = true) → (∀ f ∈ fs, pFact s f = true) → VOk vs → fs.length + g.length < 1000000 → s_l8Step_L21 z g k fs vs = some (g.foldl pAddF fs, g.foldl pPuts vs, z)
 | [], k, fs, vs, _, _, _, _ => rfl
 | f :: g, k, fs, vs, hg, hfs, hv, hl => by
   simp only [List.length_cons] at hl
   have hf := hg f (by simp)
   have h1 := pFact_vals hf
   have h2 := VOk_len hv
   have h3 := pAddF_len fs f
   unfold s_l8Step_L21
   rw [s_AddFact_eq fs f (bdL_Facts hfs (by omega)) (by omega) (bd_FactOf hf), Option.bind_some, show ((f.Values.length : Int) - 0).toNat + 2 = f.Values.length + 2 by omega, show (0 : Int) = ((0 : Nat) : Int) from rfl,
     s_l8Step_L24_eq f _ (by omega) _ 0 vs (by omega) (by omega) (by omega), Option.bind_some]
   dsimp only
   rw [List.drop_zero, show f.Values.foldl pPut vs = pPuts vs f from rfl, s_l8Step_L21_eq (s := s) z g _ _ _ (fun x hx => hg x (by simp [hx])) (fun x hx => (pAddF_iff.1 hx).elim (fun e => e ▸ hf) (hfs x)) (pPuts_ok hv h1.2) (by omega)]
   rfl
theorem i_Reached_told_L4_eq {s : List Int} (z : List Access) : ∀ (g : List Fact) (k : Nat) (fs : List Fact) (vs : List Int), (∀ f ∈ g, pFact s f = true) → (∀ f ∈ fs, pFact s f = true) → VOk vs → fs.length + g.length < 1000000 → i_Reached_told_L4 z g k fs vs = some (g.foldl pAddF fs, g.foldl pPuts vs, z)
 | [], k, fs, vs, _, _, _, _ => rfl
 | f :: g, k, fs, vs, hg, hfs, hv, hl => by
   simp only [List.length_cons] at hl
   have hf := hg f (by simp)
   have h1 := pFact_vals hf
   have h3 := pAddF_len fs f
   unfold i_Reached_told_L4
   rw [i_added_eq fs f (by omega) (bd_FactOf hf), Option.bind_some, i_withValues_vok hv h1.2 (by omega), Option.bind_some, show f.Values.foldl pPut vs = pPuts vs f from rfl,
     i_Reached_told_L4_eq (s := s) z g _ _ _ (fun x hx => hg x (by simp [hx])) (fun x hx => (pAddF_iff.1 hx).elim (fun e => e ▸ hf) (hfs x)) (pPuts_ok hv h1.2) (by omega)]
   rfl
theorem pAccess_ix {s : List Int} {l : List Method} {a : Access} (h : pAccess s l a = true) : ix l a.Method = some (pMeth l a.Method) := by
 simp only [pAccess, Bool.and_eq_true] at h
 exact (pMeth_ix h.2.1).1
theorem pGot_ok {s : List Int} {l : List Method} {facts : List Fact} (hf : pFacts s facts = true) (a : Access) : (∀ f ∈ pGot l facts a, pFact s f = true) ∧ (pGot l facts a).length ≤ 24 ∧ ∀ f ∈ pGot l facts a, f ∈ facts :=
 ⟨fun f h => pFacts_all hf f (List.mem_filter.1 h).1, Nat.le_trans (List.length_filter_le ..) (pFacts_iff.1 hf).2.2.2, fun f h => (List.mem_filter.1 h).1⟩
theorem s_l8Step_L1_eq {s : List Int} {l : List Method} {facts : List Fact} (r r3 : Reached) (r7 : List Access) (hf : pFacts s facts = true) : ∀ (o : List Access) (k : Nat) (fs : List Fact) (vs : List Int) (log : List Access), (∀ a ∈ o, pAccess s l a = true) → fs.Pairwise fLt → (∀ f ∈ fs, f ∈ facts) → VOk vs → log.length + o.length < 4294967296 →
   s_l8Step_L1 l facts r r3 r7 o k fs vs log = s_l8Step_L1 l facts r r3 r7 [] 0 (o.foldl (pTellF l facts) fs) (o.foldl (pTellV l facts) vs) (log ++ o)
 | [], k, fs, vs, log, _, _, _, _, _ => by rw [List.append_nil]; rfl
 | a :: o, k, fs, vs, log, ha, h1, h2, hv, hl => by
   simp only [List.length_cons] at hl
   have haa := ha a (by simp)
   obtain ⟨g1, g2, g3⟩ := pGot_ok (l := l) hf a
   have g4 := pw_facts hf h1 h2
   have g5 := (pFacts_iff.1 g4).2.2.2
   have hF := addFs_inv (facts := facts) g3 h1 h2
   have e : s_l5Matches (pMeth l a.Method) a.Values facts = some (pGot l facts a) := s_l5Matches_eq _ _ _ (fun f hf' => pFitOK_of haa (pFacts_all hf f hf')) (bdL_Facts (pFacts_all hf) (by have := (pFacts_iff.1 hf).2.2.2; omega))
   conv => lhs; rw [s_l8Step_L1, app1 (by omega), Option.bind_some, pAccess_ix haa, Option.bind_some, e, Option.bind_some, s_l8Step_L21_eq (s := s) _ _ _ _ _ g1 (pFacts_all g4) hv (by omega), Option.bind_some]
   dsimp only
   rw [s_l8Step_L1_eq r r3 r7 hf o _ _ _ _ (fun x hx => ha x (by simp [hx])) hF.1 hF.2 (pPutss_ok hv fun f hf' => (pFact_vals (g1 f hf')).2) (by simp; omega), List.append_assoc]
   rfl
theorem i_Reached_told_L1_eq {s : List Int} {l : List Method} {facts : List Fact} (r : Reached) (r1 : List Access) (hf : pFacts s facts = true) : ∀ (o : List Access) (k : Nat) (fs : List Fact) (vs : List Int) (log : List Access), (∀ a ∈ o, pAccess s l a = true) → fs.Pairwise fLt → (∀ f ∈ fs, f ∈ facts) → VOk vs → log.length + o.length < 4294967296 →
   i_Reached_told_L1 r l facts r1 o k fs vs log = i_Reached_told_L1 r l facts r1 [] 0 (o.foldl (pTellF l facts) fs) (o.foldl (pTellV l facts) vs) (log ++ o)
 | [], k, fs, vs, log, _, _, _, _, _ => by rw [List.append_nil]; rfl
 | a :: o, k, fs, vs, log, ha, h1, h2, hv, hl => by
   simp only [List.length_cons] at hl
   have haa := ha a (by simp)
   obtain ⟨g1, g2, g3⟩ := pGot_ok (l := l) hf a
   have g4 := pw_facts hf h1 h2
   have g5 := (pFacts_iff.1 g4).2.2.2
   have hF := addFs_inv (facts := facts) g3 h1 h2
   have e : i_matches l facts a = some (pGot l facts a) := i_matches_eq s l facts a haa (pFacts_all hf) (bdL_Facts (pFacts_all hf) (by have := (pFacts_iff.1 hf).2.2.2; omega))
   conv => lhs; rw [i_Reached_told_L1, app1 (by omega), Option.bind_some, e, Option.bind_some, i_Reached_told_L4_eq (s := s) _ _ _ _ _ g1 (pFacts_all g4) hv (by omega), Option.bind_some]
   dsimp only
   rw [i_Reached_told_L1_eq r r1 hf o _ _ _ _ (fun x hx => ha x (by simp [hx])) hF.1 hF.2 (pPutss_ok hv fun f hf' => (pFact_vals (g1 f hf')).2) (by simp; omega), List.append_assoc]
   rfl
theorem acc_bd {s : List Int} {l : List Method} {a : Access} (h : pAccess s l a = true) : bd_Access a := by
 simp only [pAccess, Bool.and_eq_true, beq_iff_eq] at h
 obtain ⟨h1, h2, h3, -⟩ := h
 have := (pMethods_ins h1).2 _ (pMeth_ix h2).2
 exact bdL_flat _ (by omega)
theorem RInv_log {s : List Int} {l : List Method} {facts : List Fact} {n : Nat} {r : Reached} (h : RInv s l facts n r) (hn : n ≤ 100) : bdL bd_Access r.Log := ⟨by have := h.loglen; omega, fun a ha => acc_bd (h.log a ha)⟩
theorem s_l8Copy_eq {s : List Int} {l : List Method} {facts : List Fact} {n : Nat} {r : Reached} (hf : pFacts s facts = true) (h : RInv s l facts n r) (hn : n ≤ 100) : s_l8Copy r = some r := by
 have h1 := pw_facts hf h.pw h.sub
 have h2 := VOk_len ⟨h.asc, h.vals⟩
 have h3 := (pFacts_iff.1 h1).2.2.2
 unfold s_l8Copy
 rw [s_l2Copy_eq _ (bdL_Facts (pFacts_all h1) (by omega)), Option.bind_some, app_nil (by omega), Option.bind_some, s_l8Log_eq _ (RInv_log h hn), Option.bind_some]
theorem pOpen_acc2 {s : List Int} {l : List Method} {facts : List Fact} {n : Nat} {r : Reached} (hl : pMethods s l = true) (h : RInv s l facts n r) : ∀ a ∈ pOpen r.Values r.Log l 0, pAccess s l a = true := fun a ha => pOpen_acc hl h.vals ha
theorem pOpen_len2 {s : List Int} {l : List Method} {facts : List Fact} {n : Nat} {r : Reached} (hl : pMethods s l = true) (h : RInv s l facts n r) : (pOpen r.Values r.Log l 0).length ≤ 5000 := by
 obtain ⟨h1, h2⟩ := pMethods_ins hl
 have := pOpen_len (vs := r.Values) (log := r.Log) (VOk_len ⟨h.asc, h.vals⟩) (l := l) (k := 0) h2
 omega
theorem s_l8Step_eq {s : List Int} {l : List Method} {facts : List Fact} {n : Nat} {r : Reached} (hl : pMethods s l = true) (hf : pFacts s facts = true) (h : RInv s l facts n r) (hn : n ≤ 100) : s_l8Step l facts r = some (pTold l facts r, !(pOpen r.Values r.Log l 0).isEmpty) := by
 have h4 := pOpen_len2 hl h
 have h5 := h.loglen
 have h6 := h.rounds
 unfold s_l8Step
 rw [s_l8Copy_eq hf h hn, Option.bind_some, s_l8Open_eq l r hl (VOk_len ⟨h.asc, h.vals⟩), Option.bind_some, s_l8Step_L1_eq r r _ hf _ _ _ _ _ (pOpen_acc2 hl h) h.pw h.sub ⟨h.asc, h.vals⟩ (by omega)]
 rw [s_l8Step_L1, pTold]
 cases ho : pOpen r.Values r.Log l 0 with
 | nil => simp
 | cons a o =>
   rw [if_neg (by simp only [List.length_cons, beq_iff_eq]; omega), if_neg (by simp), wrap_in (by omega) (by omega)]
   rfl
theorem i_told_eq {s : List Int} {l : List Method} {facts : List Fact} {n : Nat} {r : Reached} (hl : pMethods s l = true) (hf : pFacts s facts = true) (h : RInv s l facts n r) (hn : n ≤ 100) : i_Reached_told r l facts = some (!(pOpen r.Values r.Log l 0).isEmpty, pTold l facts r) := by
 have h4 := pOpen_len2 hl h
 have h5 := h.loglen
 have h6 := h.rounds
 unfold i_Reached_told
 rw [i_Reached_open_eq l r hl (VOk_len ⟨h.asc, h.vals⟩), Option.bind_some]
 try dsimp only
 rw [i_Reached_told_L1_eq r _ hf _ _ _ _ _ (pOpen_acc2 hl h) h.pw h.sub ⟨h.asc, h.vals⟩ (by omega)]
 rw [i_Reached_told_L1, pTold]
 cases ho : pOpen r.Values r.Log l 0 with
 | nil =>
   simp only [List.length_nil, i_bit]
   rw [if_neg (by simp), Option.bind_some, wrap_in (by omega) (by omega)]
   simp
 | cons a o =>
   simp only [i_bit]
   rw [if_pos (by simp), Option.bind_some, if_neg (by simp), wrap_in (by omega) (by omega)]
   congr 2
   simp
theorem s_l8Values_eq (v : List Int) (h : VOk v) : s_l8Values v = some true := by
 have hl := VOk_len h
 have hp : ∀ x ∈ v, pIn 0 9 x = true := fun x hx => by
   have := h.2 x hx
   simp only [pIn, Bool.and_eq_true, decide_eq_true_eq]; omega
 have := adj_loop (L := s_l8Values_L1 v) (P := fun _ => True) (p := pIn 0 9) (q := fun y x => decide (x ≤ y)) (e := true) v (fun _ _ => trivial) (by omega) (fun _ => rfl) (fun x r _ => by
     rw [s_l8Values_L1]
     simp only [Option.bind_some, s_l1In_eq, dec_zero]
     cases pIn 0 9 x <;> rfl) (fun x r k y _ _ hy hk => by
     rw [s_l8Values_L1]
     simp only [Option.bind_some, dec_succ, ix_prev _ k hk, hy, s_l1In_eq, cond_true]
     cases pIn 0 9 x <;> cases decide (x ≤ y) <;> rfl)
 rw [s_l8Values, this, adjB_and, (adj_asc none v).2 ⟨fun y hy => by simp at hy, h.1⟩, List.all_eq_true.2 hp]
 rfl
theorem s_StepReach_eq {s : List Int} {l : List Method} {facts : List Fact} {n : Nat} {r : Reached} (hs : s.length < 4294967296) (hml : bdL bd_Method l) (hl : pMethods s l = true) (hf : pFacts s facts = true) (h : RInv s l facts n r) (hn : n ≤ 100) : s_StepReach s l facts r = some (pTold l facts r, !(pOpen r.Values r.Log l 0).isEmpty) := by
 have h1 := pw_facts hf h.pw h.sub
 have h3 := (pFacts_iff.1 h1).2.2.2
 have h4 := (pFacts_iff.1 hf).2.2.2
 have h6 := h.rounds
 unfold s_StepReach
 rw [s_AreMethods_eq s l hs hml, Option.bind_some, hl, s_AreFacts_eq s facts hs (bdL_Facts (pFacts_all hf) (by omega)), Option.bind_some, hf, s_l8Values_eq _ ⟨h.asc, h.vals⟩, Option.bind_some, s_AreFacts_eq s _ hs (bdL_Facts (pFacts_all h1) (by omega)), Option.bind_some, h1, s_l1In_eq, Option.bind_some,
   show pIn 0 100 r.Rounds = true from by simp only [pIn, Bool.and_eq_true, decide_eq_true_eq]; omega, s_l8Step_eq hl hf h hn]
 rfl
def pReach (l : List Method) (facts : List Fact) : Nat → Reached → Reached
 | 0, r => r
 | n + 1, r => if pOpen r.Values r.Log l 0 = [] then r else pReach l facts n (pTold l facts r)
theorem pTold_nil {l : List Method} {facts : List Fact} {r : Reached} (h : pOpen r.Values r.Log l 0 = []) : pTold l facts r = r := by
 simp [pTold, h]
theorem s_ReachAll_L1_eq {s : List Int} {l : List Method} {facts : List Fact} (hs : s.length < 4294967296) (hml : bdL bd_Method l) (hl : pMethods s l = true) (hf : pFacts s facts = true) : ∀ (m i : Nat) (r : Reached), RInv s l facts i r → i ≤ 40 → 40 - i < m → s_ReachAll_L1 s l facts m r.Facts r.Values r.Log r.Rounds (i : Int) = some (pReach l facts (40 - i) r) := by
 intro m
 induction m with
 | zero => intro i r _ _ h; omega
 | succ m ih =>
   intro i r h hi hm
   unfold s_ReachAll_L1
   by_cases hlt : i < 40
   · rw [if_pos (by simp only [decide_eq_true_eq]; omega), s_StepReach_eq hs hml hl hf h (by omega), Option.bind_some, show 40 - i = (40 - (i + 1)) + 1 by omega, pReach]
     dsimp only
     by_cases ho : pOpen r.Values r.Log l 0 = []
     · rw [if_pos (by simp [ho]), if_pos ho]
     · have := ih (i + 1) (pTold l facts r) (pTold_inv hl hf h ho) (by omega) (by omega)
       rw [if_neg (by simp [ho]), if_neg ho, show IntKind.i64.wrap ((i : Int) + 1) = ((i + 1 : Nat) : Int) from by rw [wrap_in (by omega) (by omega)]; rfl, this]
   · rw [if_neg (by simp only [decide_eq_true_eq]; omega), show 40 - i = 0 by omega, pReach]
theorem i_reach_L1_eq {s : List Int} {l : List Method} {facts : List Fact} (hl : pMethods s l = true) (hf : pFacts s facts = true) : ∀ (m i : Nat) (r : Reached), RInv s l facts i r → i ≤ 40 → 40 - i < m → i_reach_L1 l facts m r.Facts r.Values r.Log r.Rounds (i : Int) = some (pReach l facts (40 - i) r) := by
 intro m
 induction m with
 | zero => intro i r _ _ h; omega
 | succ m ih =>
   intro i r h hi hm
   unfold i_reach_L1
   by_cases hlt : i < 40
   · rw [if_pos (by simp only [decide_eq_true_eq]; omega), i_told_eq hl hf h (by omega), Option.bind_some, show 40 - i = (40 - (i + 1)) + 1 by omega, pReach]
     dsimp only
     by_cases ho : pOpen r.Values r.Log l 0 = []
     · rw [if_pos (by simp [ho]), if_pos ho, pTold_nil ho]
     · have := ih (i + 1) (pTold l facts r) (pTold_inv hl hf h ho) (by omega) (by omega)
       rw [if_neg (by simp [ho]), if_neg ho, show IntKind.i64.wrap ((i : Int) + 1) = ((i + 1 : Nat) : Int) from by rw [wrap_in (by omega) (by omega)]; rfl, this]
   · rw [if_neg (by simp only [decide_eq_true_eq]; omega), show 40 - i = 0 by omega, pReach]
def pStart (seeds : List Int) : Reached := { Facts := [], Values := (seeds.filter (pIn 0 9)).foldl pPut [], Log := [], Rounds := 0 }
theorem s_StartReach_L1_eq : ∀ (l : List Int) (k : Nat) (vs : List Int), vs.length + l.length < 4294967295 → s_StartReach_L1 l k vs = some ({ Facts := [], Values := (l.filter (pIn 0 9)).foldl pPut vs, Log := [], Rounds := 0 } : Reached)
 | [], k, vs, _ => rfl
 | x :: l, k, vs, h => by
   simp only [List.length_cons] at h
   have := pPut_len (l := vs) (x := x)
   unfold s_StartReach_L1
   rw [s_l1In_eq, Option.bind_some, List.filter_cons]
   cases hp : pIn 0 9 x
   · rw [if_neg (by simp), Option.bind_some, if_neg (by simp)]
     dsimp only
     rw [s_StartReach_L1_eq l _ _ (by omega)]
   · rw [if_pos rfl, s_l3Put_eq _ _ (by omega), Option.bind_some, Option.bind_some, if_pos rfl]
     dsimp only
     rw [s_StartReach_L1_eq l _ _ (by omega), List.foldl_cons]
theorem s_StartReach_eq (seeds : List Int) (h : seeds.length < 4294967295) : s_StartReach seeds = some (pStart seeds) := by
 rw [s_StartReach, s_StartReach_L1_eq _ _ _ (by simpa using h)]; rfl
theorem i_StartReach_eq (seeds : List Int) (h : seeds.length < 4294967295) : i_StartReach seeds = some (pStart seeds) := by
 rw [i_StartReach, i_withValues_eq _ _ (by simp; omega), Option.bind_some, List.append_nil]; rfl
theorem pStart_inv (s : List Int) (l : List Method) (facts : List Fact) (seeds : List Int) : RInv s l facts 0 (pStart seeds) :=
 ⟨by simp [pStart], by simp [pStart], puts_ss (by simp), fun v hv => by
   have h1 := (puts_mem.1 hv).resolve_left (by simp)
   have h2 := (List.mem_filter.1 h1).2
   simp only [pIn, Bool.and_eq_true, decide_eq_true_eq] at h2
   exact h2, by simp [pStart], by simp [pStart], rfl⟩
theorem s_ReachAll_eq {s : List Int} {l : List Method} {facts : List Fact} (seeds : List Int) (hs : s.length < 4294967296) (hml : bdL bd_Method l) (hl : pMethods s l = true) (hf : pFacts s facts = true) (h : seeds.length < 4294967295) : s_ReachAll s l facts seeds = some (pReach l facts 40 (pStart seeds)) := by
 rw [s_ReachAll, s_StartReach_eq seeds h, Option.bind_some]
 exact s_ReachAll_L1_eq hs hml hl hf _ 0 _ (pStart_inv s l facts seeds) (by omega) (by decide)
theorem i_reach_eq {s : List Int} {l : List Method} {facts : List Fact} (seeds : List Int) (hl : pMethods s l = true) (hf : pFacts s facts = true) (h : seeds.length < 4294967295) : i_reach l facts seeds = some (pReach l facts 40 (pStart seeds)) := by
 rw [i_reach, i_StartReach_eq seeds h, Option.bind_some]
 exact i_reach_L1_eq hl hf _ 0 _ (pStart_inv s l facts seeds) (by omega) (by decide)
theorem pReach_inv {s : List Int} {l : List Method} {facts : List Fact} (hl : pMethods s l = true) (hf : pFacts s facts = true) : ∀ (n i : Nat) (r : Reached), RInv s l facts i r → ∃ j, j ≤ i + n ∧ RInv s l facts j (pReach l facts n r)
 | 0, i, r, h => ⟨i, by omega, h⟩
 | n + 1, i, r, h => by
   unfold pReach
   split
   · exact ⟨i, by omega, h⟩
   · rename_i ho
     obtain ⟨j, h1, h2⟩ := pReach_inv hl hf n (i + 1) _ (pTold_inv hl hf h ho)
     exact ⟨j, by omega, h2⟩
theorem s_IsVar_eq (t : Int) : s_IsVar t = some (pIn 10 17 t) := rfl
theorem i_IsVar_eq (t : Int) : i_IsVar t = some (pIn 10 17 t) := rfl
def pTerm (t : Int) : Bool := pIn 0 9 t || pIn 10 17 t
theorem s_IsTerm_eq (t : Int) : s_IsTerm t = some (pTerm t) := by
 rw [s_IsTerm, s_l1In_eq, Option.bind_some, s_IsVar_eq, pTerm]
 cases pIn 0 9 t <;> rfl
theorem i_IsTerm_eq (t : Int) : i_IsTerm t = some (pTerm t) := by
 rw [i_IsTerm, i_isValue_eq, Option.bind_some, i_IsVar_eq, pTerm]
 cases pIn 0 9 t <;> rfl
theorem i_areTerms_eq (l : List Int) : i_areTerms l = some (l.all pTerm) := by
 unfold i_areTerms g_slices_ContainsFunc_int_int_iareTerms1 g_slices_IndexFunc_int_int_iareTerms1
 rw [index_loop (L := g_slices_IndexFunc_int_int_iareTerms1_L1) (f := i_areTerms_1) (p := fun x => !pTerm x) (fun k => rfl) (fun x r k => rfl) l 0 (fun x _ => by rw [i_areTerms_1, i_IsTerm_eq]; rfl), Option.bind_some, ixF_neg, Option.bind_some]
 simp [List.all_eq_not_any_not]
def pAtom (s : List Int) (a : Atom) : Bool := pHasRel s a.Rel && (((a.Terms.length : Int) == pAr s a.Rel) && a.Terms.all pTerm)
theorem s_IsAtom_eq (s : List Int) (a : Atom) (hs : s.length < 4294967296) : s_IsAtom s a = some (pAtom s a) := by
 have hL : s_IsAtom_L1 a.Terms 0 = some (a.Terms.all pTerm) := by
   have := all_loop (L := s_IsAtom_L1) (f := s_IsTerm) (p := pTerm) (e := true) (fun k => rfl) (fun x r k => rfl) a.Terms 0 (fun x _ => s_IsTerm_eq x)
   rw [this]; simp
 unfold s_IsAtom pAtom
 rw [s_IsSchema_eq, Option.bind_some]
 cases h1 : pSchema s
 · simp [pHasRel, h1]
 rw [s_l1In_eq, Option.bind_some, wrap_in (by omega) (by omega)]
 cases h2 : pIn 0 ((s.length : Int) - 1) a.Rel
 · simp [pHasRel, h1, h2]
 have hh : pHasRel s a.Rel = true := by simp [pHasRel, h1, h2]
 rw [(pAr_ix hh).1, hL, hh]
 by_cases e : (a.Terms.length : Int) = pAr s a.Rel
 · simp [e]
 · simp [e]
theorem i_IsAtom_eq (s : List Int) (a : Atom) (hs : s.length < 4294967296) : i_IsAtom s a = some (pAtom s a) := by
 unfold i_IsAtom pAtom
 rw [i_hasRel_eq _ _ hs, Option.bind_some]
 cases hh : pHasRel s a.Rel
 · rfl
 rw [(pAr_ix hh).1, i_areTerms_eq]
 cases e : ((a.Terms.length : Int) == pAr s a.Rel) <;> simp [e]
def pTermsP (p : Int → Bool) (l : List Atom) : List Int := ((l.flatMap (·.Terms)).filter p).foldl pPut []
def tmsN (l : List Atom) : Nat := (l.flatMap (·.Terms)).length
theorem puts_len2 {p : Int → Bool} {v l : List Int} : ((v.filter p).foldl pPut l).length ≤ l.length + v.length := by
 have h1 := puts_len (v := v.filter p) (l := l)
 have h2 := List.length_filter_le p v
 omega
theorem s_VarsOf_L3_eq (x : Atom) (hx : x.Terms.length < 4294967296) : ∀ (m i : Nat) (c : List Int), i ≤ x.Terms.length → x.Terms.length - i < m → c.length + (x.Terms.length - i) < 4294967295 → s_VarsOf_L3 x m c (i : Int) = some (((x.Terms.drop i).filter (pIn 10 17)).foldl pPut c) := by
 intro m
 induction m with
 | zero => intro i c _ h _; omega
 | succ m ih =>
   intro i c hi hm hc
   unfold s_VarsOf_L3
   by_cases hlt : i < x.Terms.length
   · rw [if_pos (by simpa using hlt), ix_nat, List.getElem?_eq_getElem hlt, Option.bind_some, s_IsVar_eq, Option.bind_some, List.drop_eq_getElem_cons hlt, List.filter_cons]
     cases hp : (pIn 10 17) x.Terms[i]
     · rw [if_neg (by simp), Option.bind_some, if_neg (by simp)]
       dsimp only
       rw [show IntKind.i64.wrap ((i : Int) + 1) = ((i + 1 : Nat) : Int) from by rw [wrap_in (by omega) (by omega)]; rfl, ih (i + 1) _ (by omega) (by omega) (by omega)]
     · have := pPut_len (l := c) (x := x.Terms[i])
       rw [if_pos rfl, Option.bind_some, s_l3Put_eq _ _ (by omega), Option.bind_some, Option.bind_some, if_pos rfl]
       dsimp only
       rw [show IntKind.i64.wrap ((i : Int) + 1) = ((i + 1 : Nat) : Int) from by rw [wrap_in (by omega) (by omega)]; rfl, ih (i + 1) _ (by omega) (by omega) (by omega), List.foldl_cons]
   · rw [if_neg (by simpa using hlt), List.drop_eq_nil_of_le (by omega)]; rfl
theorem s_VarsOf_L1_eq : ∀ (l : List Atom) (k : Nat) (c : List Int), c.length + tmsN l < 4294967295 → s_VarsOf_L1 l k c = some (((l.flatMap (·.Terms)).filter (pIn 10 17)).foldl pPut c)
 | [], k, c, _ => rfl
 | a :: l, k, c, h => by
   simp only [tmsN, List.flatMap_cons, List.length_append] at h
   have := puts_len2 (p := (pIn 10 17)) (v := a.Terms) (l := c)
   unfold s_VarsOf_L1
   have e : s_VarsOf_L3 a (a.Terms.length + 2) c 0 = some (((a.Terms.drop 0).filter (pIn 10 17)).foldl pPut c) := s_VarsOf_L3_eq a (by omega) _ 0 c (by omega) (by omega) (by omega)
   rw [show ((a.Terms.length : Int) - 0).toNat + 2 = a.Terms.length + 2 by omega, e, Option.bind_some]
   dsimp only
   rw [List.drop_zero, s_VarsOf_L1_eq l _ _ (by simp only [tmsN]; omega), List.flatMap_cons, List.filter_append, List.foldl_append]
theorem s_VarsOf_eq (q : Query) (h : tmsN q.Atoms < 4294967295) : s_VarsOf q = some (pTermsP (pIn 10 17) q.Atoms) := by
 rw [s_VarsOf, s_VarsOf_L1_eq _ _ _ (by simpa using h)]; rfl
theorem s_ConstantsOf_L3_eq (x : Atom) (hx : x.Terms.length < 4294967296) : ∀ (m i : Nat) (c : List Int), i ≤ x.Terms.length → x.Terms.length - i < m → c.length + (x.Terms.length - i) < 4294967295 → s_ConstantsOf_L3 x m c (i : Int) = some (((x.Terms.drop i).filter (pIn 0 9)).foldl pPut c) := by
 intro m
 induction m with
 | zero => intro i c _ h _; omega
 | succ m ih =>
   intro i c hi hm hc
   unfold s_ConstantsOf_L3
   by_cases hlt : i < x.Terms.length
   · rw [if_pos (by simpa using hlt), ix_nat, List.getElem?_eq_getElem hlt, Option.bind_some, s_l1In_eq, Option.bind_some, List.drop_eq_getElem_cons hlt, List.filter_cons]
     cases hp : (pIn 0 9) x.Terms[i]
     · rw [if_neg (by simp), Option.bind_some, if_neg (by simp)]
       dsimp only
       rw [show IntKind.i64.wrap ((i : Int) + 1) = ((i + 1 : Nat) : Int) from by rw [wrap_in (by omega) (by omega)]; rfl, ih (i + 1) _ (by omega) (by omega) (by omega)]
     · have := pPut_len (l := c) (x := x.Terms[i])
       rw [if_pos rfl, Option.bind_some, s_l3Put_eq _ _ (by omega), Option.bind_some, Option.bind_some, if_pos rfl]
       dsimp only
       rw [show IntKind.i64.wrap ((i : Int) + 1) = ((i + 1 : Nat) : Int) from by rw [wrap_in (by omega) (by omega)]; rfl, ih (i + 1) _ (by omega) (by omega) (by omega), List.foldl_cons]
   · rw [if_neg (by simpa using hlt), List.drop_eq_nil_of_le (by omega)]; rfl
theorem s_ConstantsOf_L1_eq : ∀ (l : List Atom) (k : Nat) (c : List Int), c.length + tmsN l < 4294967295 → s_ConstantsOf_L1 l k c = some (((l.flatMap (·.Terms)).filter (pIn 0 9)).foldl pPut c)
 | [], k, c, _ => rfl
 | a :: l, k, c, h => by
   simp only [tmsN, List.flatMap_cons, List.length_append] at h
   have := puts_len2 (p := (pIn 0 9)) (v := a.Terms) (l := c)
   unfold s_ConstantsOf_L1
   have e : s_ConstantsOf_L3 a (a.Terms.length + 2) c 0 = some (((a.Terms.drop 0).filter (pIn 0 9)).foldl pPut c) := s_ConstantsOf_L3_eq a (by omega) _ 0 c (by omega) (by omega) (by omega)
   rw [show ((a.Terms.length : Int) - 0).toNat + 2 = a.Terms.length + 2 by omega, e, Option.bind_some]
   dsimp only
   rw [List.drop_zero, s_ConstantsOf_L1_eq l _ _ (by simp only [tmsN]; omega), List.flatMap_cons, List.filter_append, List.foldl_append]
theorem s_ConstantsOf_eq (q : Query) (h : tmsN q.Atoms < 4294967295) : s_ConstantsOf q = some (pTermsP (pIn 0 9) q.Atoms) := by
 rw [s_ConstantsOf, s_ConstantsOf_L1_eq _ _ _ (by simpa using h)]; rfl
theorem i_termsOf_iIsVar_L2_eq (l : List Int) (c : List Int) (h : c.length + l.length < 4294967296) : i_termsOf_iIsVar_L2 l 0 c = some (c ++ l.filter (pIn 10 17)) := by
 have := fm_loop (L := i_termsOf_iIsVar_L2) (P := fun _ => True) (p := (pIn 10 17)) (g := fun x : Int => x) (fun _ _ => rfl) (fun x r k c _ hc => by
   rw [i_termsOf_iIsVar_L2, i_IsVar_eq, Option.bind_some]
   cases (pIn 10 17) x
   · rw [if_neg (by simp), if_neg (by simp)]; rfl
   · rw [if_pos rfl, app1 hc, if_pos rfl]; rfl) l 0 c (fun _ _ => trivial) h
 rw [this, List.map_id']
theorem i_termsOf_iIsVar_L1_eq : ∀ (l : List Atom) (k : Nat) (c : List Int), c.length + tmsN l < 4294967296 → i_termsOf_iIsVar_L1 l k c = some (Lib.compact ((c ++ (l.flatMap (·.Terms)).filter (pIn 10 17)).mergeSort fun x y => decide (x ≤ y)))
 | [], k, c, _ => by simp [i_termsOf_iIsVar_L1, g_slices_Sort_int_int, g_slices_Compact_int_int]
 | a :: l, k, c, h => by
   simp only [tmsN, List.flatMap_cons, List.length_append] at h
   have := List.length_filter_le (pIn 10 17) a.Terms
   unfold i_termsOf_iIsVar_L1
   rw [i_termsOf_iIsVar_L2_eq a.Terms c (by omega), Option.bind_some]
   dsimp only
   rw [i_termsOf_iIsVar_L1_eq l _ _ (by simp only [tmsN, List.length_append]; omega), List.flatMap_cons, List.filter_append, List.append_assoc]
theorem i_VarsOf_eq (q : Query) (h : tmsN q.Atoms < 4294967295) : i_VarsOf q = some (pTermsP (pIn 10 17) q.Atoms) := by
 rw [i_VarsOf, i_termsOf_iIsVar, i_termsOf_iIsVar_L1_eq _ _ _ (by simp; omega), Option.bind_some, List.nil_append, pTermsP, puts_sort]
theorem i_termsOf_iisValue_L2_eq (l : List Int) (c : List Int) (h : c.length + l.length < 4294967296) : i_termsOf_iisValue_L2 l 0 c = some (c ++ l.filter (pIn 0 9)) := by
 have := fm_loop (L := i_termsOf_iisValue_L2) (P := fun _ => True) (p := (pIn 0 9)) (g := fun x : Int => x) (fun _ _ => rfl) (fun x r k c _ hc => by
   rw [i_termsOf_iisValue_L2, i_isValue_eq, Option.bind_some]
   cases (pIn 0 9) x
   · rw [if_neg (by simp), if_neg (by simp)]; rfl
   · rw [if_pos rfl, app1 hc, if_pos rfl]; rfl) l 0 c (fun _ _ => trivial) h
 rw [this, List.map_id']
theorem i_termsOf_iisValue_L1_eq : ∀ (l : List Atom) (k : Nat) (c : List Int), c.length + tmsN l < 4294967296 → i_termsOf_iisValue_L1 l k c = some (Lib.compact ((c ++ (l.flatMap (·.Terms)).filter (pIn 0 9)).mergeSort fun x y => decide (x ≤ y)))
 | [], k, c, _ => by simp [i_termsOf_iisValue_L1, g_slices_Sort_int_int, g_slices_Compact_int_int]
 | a :: l, k, c, h => by
   simp only [tmsN, List.flatMap_cons, List.length_append] at h
   have := List.length_filter_le (pIn 0 9) a.Terms
   unfold i_termsOf_iisValue_L1
   rw [i_termsOf_iisValue_L2_eq a.Terms c (by omega), Option.bind_some]
   dsimp only
   rw [i_termsOf_iisValue_L1_eq l _ _ (by simp only [tmsN, List.length_append]; omega), List.flatMap_cons, List.filter_append, List.append_assoc]
theorem i_ConstantsOf_eq (q : Query) (h : tmsN q.Atoms < 4294967295) : i_ConstantsOf q = some (pTermsP (pIn 0 9) q.Atoms) := by
 rw [i_ConstantsOf, i_termsOf_iisValue, i_termsOf_iisValue_L1_eq _ _ _ (by simp; omega), Option.bind_some, List.nil_append, pTermsP, puts_sort]
theorem g_slices_Index_int_int_eq (l : List Int) (v : Int) : g_slices_Index_int_int l v = some (ixF (fun x => v == x) l 0) := by
 rw [g_slices_Index_int_int]
 exact index_loop (L := g_slices_Index_int_int_L1 v) (f := fun x => some (v == x)) (p := fun x => v == x) (fun _ => rfl) (fun _ _ _ => rfl) l 0 (fun _ _ => rfl)
theorem g_slices_Contains_int_int_eq (l : List Int) (v : Int) : g_slices_Contains_int_int l v = some (decide (v ∈ l)) := by
 rw [g_slices_Contains_int_int, g_slices_Index_int_int_eq, Option.bind_some, ixF_neg]
 congr 1
 rw [Bool.eq_iff_iff]
 simp
def pQuery (s : List Int) (q : Query) : Bool := q.Atoms.all (pAtom s) && (q.Head.all (fun t => decide (t ∈ pTermsP (pIn 10 17) q.Atoms)) && (pSchema s && (pIn 1 4 (q.Atoms.length : Int) && decide ((q.Head.length : Int) ≤ 3))))
theorem s_IsQuery_L2_eq (s : List Int) (q : Query) (v : List Int) : ∀ (l : List Int) (k : Nat), s_IsQuery_L2 s q v l k = some (l.all (fun t => decide (t ∈ v)) && (pSchema s && (pIn 1 4 (q.Atoms.length : Int) && decide ((q.Head.length : Int) ≤ 3)))) := by
 intro l
 induction l with
 | nil =>
   intro k
   rw [s_IsQuery_L2, s_IsSchema_eq, Option.bind_some, s_l1In_eq]
   cases pSchema s <;> cases pIn 1 4 (q.Atoms.length : Int) <;> rfl
 | cons x l ih =>
   intro k
   rw [s_IsQuery_L2, s_l2Has_eq, Option.bind_some, ih, List.all_cons]
   cases decide (x ∈ v) <;> rfl
theorem s_IsQuery_eq (s : List Int) (q : Query) (hs : s.length < 4294967296) (h : tmsN q.Atoms < 4294967295) : s_IsQuery s q = some (pQuery s q) := by
 have key : ∀ (l : List Atom) (k : Nat), s_IsQuery_L1 s q l k = some (l.all (pAtom s) && (q.Head.all (fun t => decide (t ∈ pTermsP (pIn 10 17) q.Atoms)) && (pSchema s && (pIn 1 4 (q.Atoms.length : Int) && decide ((q.Head.length : Int) ≤ 3))))) := by
   intro l
   induction l with
   | nil =>
     intro k
     rw [s_IsQuery_L1, s_VarsOf_eq q h, Option.bind_some, s_IsQuery_L2_eq]
     simp
   | cons x l ih =>
     intro k
     rw [s_IsQuery_L1, s_IsAtom_eq s x hs, Option.bind_some, ih, List.all_cons]
     cases pAtom s x <;> rfl
 rw [s_IsQuery, key]; rfl
theorem i_IsQuery_eq (s : List Int) (q : Query) (hs : s.length < 4294967296) (h : tmsN q.Atoms < 4294967295) : i_IsQuery s q = some (pQuery s q) := by
 have h1 : g_slices_ContainsFunc_impl_Atom_impl_Atom_iIsQuery1 q.Atoms s = some (q.Atoms.any fun a => !pAtom s a) := by
   unfold g_slices_ContainsFunc_impl_Atom_impl_Atom_iIsQuery1 g_slices_IndexFunc_impl_Atom_impl_Atom_iIsQuery1
   rw [index_loop (L := g_slices_IndexFunc_impl_Atom_impl_Atom_iIsQuery1_L1 s) (f := fun a => i_IsQuery_1 a s) (p := fun a => !pAtom s a) (fun k => rfl) (fun x r k => rfl) q.Atoms 0 (fun x _ => by rw [i_IsQuery_1, i_IsAtom_eq s x hs]; rfl), Option.bind_some, ixF_neg]
 have h2 : g_slices_ContainsFunc_int_int_ihasHead1 q.Head (pTermsP (pIn 10 17) q.Atoms) = some (q.Head.any fun t => !decide (t ∈ pTermsP (pIn 10 17) q.Atoms)) := by
   unfold g_slices_ContainsFunc_int_int_ihasHead1 g_slices_IndexFunc_int_int_ihasHead1
   rw [index_loop (L := g_slices_IndexFunc_int_int_ihasHead1_L1 _) (f := fun t => i_hasHead_1 t (pTermsP (pIn 10 17) q.Atoms)) (p := fun t => !decide (t ∈ pTermsP (pIn 10 17) q.Atoms)) (fun k => rfl) (fun x r k => rfl) q.Head 0 (fun x _ => by rw [i_hasHead_1, g_slices_Contains_int_int_eq]; rfl), Option.bind_some, ixF_neg]
 unfold i_IsQuery pQuery
 rw [i_IsSchema_eq, Option.bind_some, i_within_eq, Option.bind_some, h1, Option.bind_some, i_hasHead, i_VarsOf_eq q h, Option.bind_some, h2]
 have e1 : (q.Atoms.any fun a => !pAtom s a) = !(q.Atoms.all (pAtom s)) := by simp [List.all_eq_not_any_not]
 have e2 : (q.Head.any fun t => !decide (t ∈ pTermsP (pIn 10 17) q.Atoms)) = !(q.Head.all fun t => decide (t ∈ pTermsP (pIn 10 17) q.Atoms)) := by simp [List.all_eq_not_any_not]
 rw [e1, e2]
 cases pSchema s <;> cases pIn 1 4 (q.Atoms.length : Int) <;> cases q.Atoms.all (pAtom s) <;> cases decide ((q.Head.length : Int) ≤ 3) <;> cases (q.Head.all fun t => decide (t ∈ pTermsP (pIn 10 17) q.Atoms)) <;> rfl
theorem s_l6Fine_eq (s : List Int) (l : List Method) (q : Query) (hs : s.length < 4294967296) (hl : bdL bd_Method l) (h : tmsN q.Atoms < 4294967295) : s_l6Fine s l q = some (pMethods s l && pQuery s q) := by
 rw [s_l6Fine, s_AreMethods_eq s l hs hl, Option.bind_some, s_IsQuery_eq s q hs h]
 cases pMethods s l <;> rfl
theorem i_areAsked_eq (s : List Int) (l : List Method) (q : Query) (hs : s.length < 4294967296) (hl : bdL bd_Method l) (h : tmsN q.Atoms < 4294967295) : i_areAsked s l q = some (pMethods s l && pQuery s q) := by
 rw [i_areAsked, i_AreMethods_eq s l hs hl, Option.bind_some, i_IsQuery_eq s q hs h]
 cases pMethods s l <;> rfl
def pLook : List Int → List Int → Int → Option Int
 | v :: vs, x :: xs, t => if v = t then some x else pLook vs xs t
 | _, _, _ => none
theorem pLook_nil (vs : List Int) (t : Int) : pLook vs [] t = none := by cases vs <;> rfl
theorem s_ValueOf_L1_eq (b : Binding) (t : Int) (hv : b.Vars.length < 4294967296) : ∀ (m i : Nat), i ≤ b.Vars.length → b.Vars.length - i < m → s_ValueOf_L1 b t m (i : Int) = some ((pLook (b.Vars.drop i) (b.Values.drop i) t).getD (-1)) := by
 intro m
 induction m with
 | zero => intro i _ h; omega
 | succ m ih =>
   intro i hi hm
   unfold s_ValueOf_L1
   by_cases h1 : i < b.Vars.length
   · by_cases h2 : i < b.Values.length
     · rw [if_pos (by simp; omega), ix_nat, List.getElem?_eq_getElem h1, Option.bind_some, ix_nat, List.getElem?_eq_getElem h2, Option.bind_some, List.drop_eq_getElem_cons h1, List.drop_eq_getElem_cons h2, pLook]
       by_cases e : b.Vars[i] = t
       · rw [if_pos (by simpa using e), if_pos e]; rfl
       · rw [if_neg (by simpa using e), if_neg e, show IntKind.i64.wrap ((i : Int) + 1) = ((i + 1 : Nat) : Int) from by rw [wrap_in (by omega) (by omega)]; rfl, ih (i + 1) (by omega) (by omega)]
     · rw [if_neg (by simp; omega), List.drop_eq_nil_of_le (show b.Values.length ≤ i by omega), pLook_nil]; rfl
   · rw [if_neg (by simp; omega), List.drop_eq_nil_of_le (by omega)]; rfl
theorem s_l4Bound_L1_eq (b : Binding) (t : Int) (hv : b.Vars.length < 4294967296) : ∀ (m i : Nat), i ≤ b.Vars.length → b.Vars.length - i < m → s_l4Bound_L1 b t m (i : Int) = some (pLook (b.Vars.drop i) (b.Values.drop i) t).isSome := by
 intro m
 induction m with
 | zero => intro i _ h; omega
 | succ m ih =>
   intro i hi hm
   unfold s_l4Bound_L1
   by_cases h1 : i < b.Vars.length
   · by_cases h2 : i < b.Values.length
     · rw [if_pos (by simp; omega), ix_nat, List.getElem?_eq_getElem h1, Option.bind_some, List.drop_eq_getElem_cons h1, List.drop_eq_getElem_cons h2, pLook]
       by_cases e : b.Vars[i] = t
       · rw [if_pos (by simpa using e), if_pos e]; rfl
       · rw [if_neg (by simpa using e), if_neg e, show IntKind.i64.wrap ((i : Int) + 1) = ((i + 1 : Nat) : Int) from by rw [wrap_in (by omega) (by omega)]; rfl, ih (i + 1) (by omega) (by omega)]
     · rw [if_neg (by simp; omega), List.drop_eq_nil_of_le (show b.Values.length ≤ i by omega), pLook_nil]; rfl
   · rw [if_neg (by simp; omega), List.drop_eq_nil_of_le (by omega)]; rfl
def pVal (vs xs : List Int) (t : Int) : Int := if pIn 10 17 t then (pLook vs xs t).getD (-1) else t
theorem s_ValueOf_eq (b : Binding) (t : Int) (hv : b.Vars.length < 4294967296) : s_ValueOf b t = some (pVal b.Vars b.Values t) := by
 unfold s_ValueOf pVal
 rw [s_IsVar_eq, Option.bind_some]
 cases pIn 10 17 t
 · simp
 · rw [if_neg (by simp), if_pos rfl, show ((b.Vars.length : Int) - 0).toNat + 2 = b.Vars.length + 2 by omega, show (0 : Int) = ((0 : Nat) : Int) from rfl, s_ValueOf_L1_eq b t hv _ 0 (by omega) (by omega)]
   rfl
theorem s_l4Bound_eq (b : Binding) (t : Int) (hv : b.Vars.length < 4294967296) : s_l4Bound b t = some (pLook b.Vars b.Values t).isSome := by
 unfold s_l4Bound
 rw [show ((b.Vars.length : Int) - 0).toNat + 2 = b.Vars.length + 2 by omega, show (0 : Int) = ((0 : Nat) : Int) from rfl, s_l4Bound_L1_eq b t hv _ 0 (by omega) (by omega)]
 rfl
theorem pLook_ix (t : Int) : ∀ (vs xs : List Int) (k : Nat), vs.length = xs.length → (ixF (fun x => t == x) vs k = -1 ∧ pLook vs xs t = none) ∨ ∃ j : Nat, j < vs.length ∧ ixF (fun x => t == x) vs k = ((k + j : Nat) : Int) ∧ ∃ y, xs[j]? = some y ∧ pLook vs xs t = some y
 | [], xs, k, _ => .inl ⟨rfl, rfl⟩
 | v :: vs, [], k, h => by simp at h
 | v :: vs, x :: xs, k, h => by
   unfold ixF pLook
   by_cases e : v = t
   · subst e
     rw [if_pos (by simp), if_pos rfl]
     exact .inr ⟨0, by simp, by simp, x, rfl, rfl⟩
   · rw [if_neg (by simp; exact fun h => e h.symm), if_neg e]
     rcases pLook_ix t vs xs (k + 1) (by simpa using h) with ⟨h1, h2⟩ | ⟨j, h1, h2, y, h3, h4⟩
     · exact .inl ⟨h1, h2⟩
     · exact .inr ⟨j + 1, by simp; omega, by rw [h2]; congr 1; omega, y, by simpa using h3, h4⟩
theorem i_entry_eq (b : Binding) (t : Int) (h : b.Vars.length = b.Values.length) : i_Binding_entry b t = some (ixF (fun x => t == x) b.Vars 0) := by
 unfold i_Binding_entry
 rw [if_neg (by omega), chk, if_pos (by simp), Option.bind_some, g_slices_Index_int_int_eq, Option.bind_some]
 congr 2
 rw [show ((b.Vars.length : Int)).toNat = b.Vars.length by omega, List.take_length]
theorem i_ValueOf_eq (b : Binding) (t : Int) (h : b.Vars.length = b.Values.length) : i_ValueOf b t = some (pVal b.Vars b.Values t) := by
 unfold i_ValueOf pVal
 rw [i_IsVar_eq, Option.bind_some]
 cases pIn 10 17 t
 · simp
 · rw [if_neg (by simp), if_pos rfl, i_entry_eq b t h, Option.bind_some]
   rcases pLook_ix t b.Vars b.Values 0 h with ⟨h1, h2⟩ | ⟨j, h1, h2, y, h3, h4⟩
   · rw [h1, h2, if_pos (by decide)]; rfl
   · rw [h2, h4, if_neg (by simp), Nat.zero_add, ix_nat, h3]; rfl
theorem pLook_new {t x : Int} : ∀ {vs xs : List Int}, vs.length = xs.length → pLook vs xs t = none → pLook (vs ++ [t]) (xs ++ [x]) t = some x
 | [], [], _, _ => by simp [pLook]
 | v :: vs, [], h, _ => by simp at h
 | [], x :: xs, h, _ => by simp at h
 | v :: vs, y :: xs, h, hn => by
   unfold pLook at hn
   split at hn
   · simp at hn
   · rename_i e
     rw [List.cons_append, List.cons_append, pLook, if_neg e]
     exact pLook_new (by simpa using h) hn
def pMatchL (fv : List Int) : List Int → Nat → List Int → List Int → Option (List Int × List Int)
 | [], _, vs, xs => some (vs, xs)
 | t :: r, k, vs, xs =>
   if pIn 10 17 t && !(pLook vs xs t).isSome then pMatchL fv r (k + 1) (vs ++ [t]) (xs ++ [fv[k]?.getD 0])
   else if pVal vs xs t != fv[k]?.getD 0 then none else pMatchL fv r (k + 1) vs xs
def pRes : Option (List Int × List Int) → Binding × Bool
 | some p => ({ Vars := p.1, Values := p.2 }, true)
 | none => ({ Vars := [], Values := [] }, false)
theorem s_MatchAtom_L1_eq (f : Fact) : ∀ (l : List Int) (k : Nat) (vs xs : List Int), k + l.length ≤ f.Values.length → vs.length = xs.length → vs.length + l.length < 4294967295 → s_MatchAtom_L1 f l k vs xs = some (pRes (pMatchL f.Values l k vs xs))
 | [], k, vs, xs, _, _, _ => rfl
 | t :: l, k, vs, xs, hk, he, hb => by
   simp only [List.length_cons] at hk hb
   have hlt : k < f.Values.length := by omega
   have e1 : s_ValueOf { Vars := vs, Values := xs } t = some (pVal vs xs t) := s_ValueOf_eq _ _ (by show vs.length < _; omega)
   have e2 : s_l4Bound { Vars := vs, Values := xs } t = some (pLook vs xs t).isSome := s_l4Bound_eq _ _ (by show vs.length < _; omega)
   have e3 : s_l4Bind { Vars := vs, Values := xs } t f.Values[k] = some { Vars := vs ++ [t], Values := xs ++ [f.Values[k]] } := by
     simp only [s_l4Bind]
     rw [app_nil (by omega), Option.bind_some, app_ok (by simp; omega), Option.bind_some, app_nil (by omega), Option.bind_some, app_ok (by simp; omega), Option.bind_some]
   have ih1 := s_MatchAtom_L1_eq f l (k + 1) vs xs (by omega) he (by omega)
   have ih2 := s_MatchAtom_L1_eq f l (k + 1) (vs ++ [t]) (xs ++ [f.Values[k]]) (by omega) (by simp [he]) (by simp; omega)
   unfold s_MatchAtom_L1 pMatchL
   rw [e1, Option.bind_some, s_IsVar_eq, Option.bind_some, e2, ix_nat, List.getElem?_eq_getElem hlt]
   rcases Bool.eq_false_or_eq_true (pIn 10 17 t) with h1 | h1 <;> rcases Bool.eq_false_or_eq_true (pLook vs xs t).isSome with h3 | h3 <;> by_cases h2 : pVal vs xs t = f.Values[k] <;> simp [h1, h2, h3, e3, ih1, ih2] <;> rfl
theorem i_MatchAtom_L1_eq (f : Fact) : ∀ (l : List Int) (k : Nat) (vs xs : List Int), k + l.length ≤ f.Values.length → vs.length = xs.length → vs.length + l.length < 4294967295 → i_MatchAtom_L1 f l k vs xs = some (pRes (pMatchL f.Values l k vs xs))
 | [], k, vs, xs, _, _, _ => rfl
 | t :: l, k, vs, xs, hk, he, hb => by
   simp only [List.length_cons] at hk hb
   have hlt : k < f.Values.length := by omega
   have hd : (decide (ixF (fun x => t == x) vs 0 < 0)) = !(pLook vs xs t).isSome := by
     rcases pLook_ix t vs xs 0 he with ⟨h1, h2⟩ | ⟨j, h1, h2, y, h3, h4⟩
     · rw [h1, h2]; rfl
     · rw [h2, h4]; simp
   have e1 : i_ValueOf { Vars := vs, Values := xs } t = some (pVal vs xs t) := i_ValueOf_eq _ t he
   have e2 : i_Binding_entry { Vars := vs, Values := xs } t = some (ixF (fun x => t == x) vs 0) := i_entry_eq _ t he
   have e4 : app vs [t] = some (vs ++ [t]) := app_ok (by simp; omega)
   have e5 : app xs [f.Values[k]] = some (xs ++ [f.Values[k]]) := app_ok (by simp; omega)
   have e6 : i_ValueOf { Vars := vs ++ [t], Values := xs ++ [f.Values[k]] } t = some (pVal (vs ++ [t]) (xs ++ [f.Values[k]]) t) := i_ValueOf_eq _ t (by simp [he])
   have ih1 := i_MatchAtom_L1_eq f l (k + 1) vs xs (by omega) he (by omega)
   have ih2 := i_MatchAtom_L1_eq f l (k + 1) (vs ++ [t]) (xs ++ [f.Values[k]]) (by omega) (by simp [he]) (by simp; omega)
   unfold i_MatchAtom_L1 pMatchL
   rw [i_IsVar_eq, Option.bind_some, e2, ix_nat, List.getElem?_eq_getElem hlt]
   by_cases h3 : (pLook vs xs t).isSome = true
   · rcases Bool.eq_false_or_eq_true (pIn 10 17 t) with h1 | h1 <;> by_cases h2 : pVal vs xs t = f.Values[k] <;> simp [h1, h2, h3, hd, e1, ih1] <;> rfl
   · have hn : pLook vs xs t = none := by simpa using h3
     by_cases h1 : pIn 10 17 t = true
     · have hv : pVal (vs ++ [t]) (xs ++ [f.Values[k]]) t = f.Values[k] := by rw [pVal, h1, if_pos rfl, pLook_new he hn]; rfl
       simp [h1, hn, hd, e4, e5, e6, hv, ih2]
     · rw [Bool.not_eq_true] at h1
       by_cases h2 : pVal vs xs t = f.Values[k] <;> simp [h1, h2, hn, hd, e1, ih1] <;> rfl
def pMatch (b : Binding) (a : Atom) (f : Fact) : Option (List Int × List Int) :=
 if (a.Rel != f.Rel) || (((a.Terms.length : Int) != (f.Values.length : Int)) || ((b.Vars.length : Int) != (b.Values.length : Int))) then none else pMatchL f.Values a.Terms 0 b.Vars b.Values
def BOk (n : Nat) (b : Binding) : Prop := b.Vars.length = b.Values.length ∧ b.Vars.length ≤ n
theorem s_MatchAtom_eq (b : Binding) (a : Atom) (f : Fact) {n : Nat} (hb : BOk n b) (hn : n + a.Terms.length < 4294967295) : s_MatchAtom b a f = some (pRes (pMatch b a f)) := by
 unfold s_MatchAtom pMatch
 rw [s_l4Copy, app_nil (by have := hb.2; omega), Option.bind_some, app_nil (by have := hb.1; have := hb.2; omega), Option.bind_some, Option.bind_some]
 dsimp only
 split
 · rfl
 · rename_i h
   simp only [Bool.or_eq_true, bne_iff_ne, ne_eq, not_or, Decidable.not_not] at h
   exact s_MatchAtom_L1_eq f a.Terms 0 _ _ (by omega) hb.1 (by have := hb.2; show b.Vars.length + _ < _; omega)
theorem i_MatchAtom_eq (b : Binding) (a : Atom) (f : Fact) {n : Nat} (hb : BOk n b) (hn : n + a.Terms.length < 4294967295) : i_MatchAtom b a f = some (pRes (pMatch b a f)) := by
 unfold i_MatchAtom pMatch
 split
 · rfl
 · rename_i h
   simp only [Bool.or_eq_true, bne_iff_ne, ne_eq, not_or, Decidable.not_not] at h
   rw [i_copyBinding, g_slices_Clone_int_int_eq _ (by have := hb.2; omega), Option.bind_some, g_slices_Clone_int_int_eq _ (by have := hb.1; have := hb.2; omega), Option.bind_some, Option.bind_some]
   exact i_MatchAtom_L1_eq f a.Terms 0 _ _ (by omega) hb.1 (by have := hb.2; show b.Vars.length + _ < _; omega)
def pExt (a : Atom) (facts : List Fact) (b : Binding) : List Binding := facts.filterMap fun f => (pMatch b a f).map fun p => ({ Vars := p.1, Values := p.2 } : Binding)
theorem pExt_len (a : Atom) (facts : List Fact) (b : Binding) : (pExt a facts b).length ≤ facts.length := List.length_filterMap_le ..
theorem s_l4Extend_L2_eq (a : Atom) (b : Binding) {n : Nat} (hb : BOk n b) (hn : n + a.Terms.length < 4294967295) : ∀ (l : List Fact) (k : Nat) (c : List Binding), c.length + l.length < 4294967296 → s_l4Extend_L2 a b l k c = some (c ++ pExt a l b)
 | [], k, c, _ => by simp [s_l4Extend_L2, pExt]
 | f :: l, k, c, h => by
   simp only [List.length_cons] at h
   unfold s_l4Extend_L2
   rw [s_MatchAtom_eq b a f hb hn, Option.bind_some, pExt, List.filterMap_cons]
   cases hp : pMatch b a f with
   | none =>
     simp only [pRes, Bool.false_eq_true, if_false, Option.bind_some, Option.map_none]
     rw [s_l4Extend_L2_eq a b hb hn l _ _ (by omega)]; rfl
   | some p =>
     simp only [pRes, eq_self, if_true, Option.map_some]
     rw [app1 (by omega), Option.bind_some, Option.bind_some]
     rw [s_l4Extend_L2_eq a b hb hn l _ _ (by simp; omega), List.append_assoc]; rfl
theorem s_l4Extend_L1_eq (a : Atom) (facts : List Fact) {n : Nat} (hn : n + a.Terms.length < 4294967295) : ∀ (l : List Binding) (k : Nat) (c : List Binding), (∀ b ∈ l, BOk n b) → c.length + l.length * facts.length < 4294967296 → s_l4Extend_L1 a facts l k c = some (c ++ l.flatMap (pExt a facts))
 | [], k, c, _, _ => by simp [s_l4Extend_L1]
 | b :: l, k, c, hb, h => by
   simp only [List.length_cons, Nat.succ_mul] at h
   have := pExt_len a facts b
   unfold s_l4Extend_L1
   rw [s_l4Extend_L2_eq a b (hb b (by simp)) hn facts 0 c (by omega), Option.bind_some]
   dsimp only
   rw [s_l4Extend_L1_eq a facts hn l _ _ (fun x hx => hb x (by simp [hx])) (by simp; omega), List.flatMap_cons, List.append_assoc]
theorem i_matchAll_L2_eq (a : Atom) (b : Binding) {n : Nat} (hb : BOk n b) (hn : n + a.Terms.length < 4294967295) : ∀ (l : List Fact) (k : Nat) (c : List Binding), c.length + l.length < 4294967296 → i_matchAll_L2 a b l k c = some (c ++ pExt a l b)
 | [], k, c, _ => by simp [i_matchAll_L2, pExt]
 | f :: l, k, c, h => by
   simp only [List.length_cons] at h
   unfold i_matchAll_L2
   rw [i_MatchAtom_eq b a f hb hn, Option.bind_some, pExt, List.filterMap_cons]
   cases hp : pMatch b a f with
   | none =>
     simp only [pRes, Bool.false_eq_true, if_false, Option.bind_some, Option.map_none]
     rw [i_matchAll_L2_eq a b hb hn l _ _ (by omega)]; rfl
   | some p =>
     simp only [pRes, eq_self, if_true, Option.map_some]
     rw [app1 (by omega), Option.bind_some, Option.bind_some]
     rw [i_matchAll_L2_eq a b hb hn l _ _ (by simp; omega), List.append_assoc]; rfl
theorem i_matchAll_L1_eq (a : Atom) (facts : List Fact) {n : Nat} (hn : n + a.Terms.length < 4294967295) : ∀ (l : List Binding) (k : Nat) (c : List Binding), (∀ b ∈ l, BOk n b) → c.length + l.length * facts.length < 4294967296 → i_matchAll_L1 a facts l k c = some (c ++ l.flatMap (pExt a facts))
 | [], k, c, _, _ => by simp [i_matchAll_L1]
 | b :: l, k, c, hb, h => by
   simp only [List.length_cons, Nat.succ_mul] at h
   have := pExt_len a facts b
   unfold i_matchAll_L1
   rw [i_matchAll_L2_eq a b (hb b (by simp)) hn facts 0 c (by omega), Option.bind_some]
   dsimp only
   rw [i_matchAll_L1_eq a facts hn l _ _ (fun x hx => hb x (by simp [hx])) (by simp; omega), List.flatMap_cons, List.append_assoc]
theorem pMatchL_len {fv : List Int} : ∀ {l : List Int} {k : Nat} {vs xs : List Int} {p : List Int × List Int}, pMatchL fv l k vs xs = some p → vs.length = xs.length → p.1.length = p.2.length ∧ p.1.length ≤ vs.length + l.length
 | [], k, vs, xs, p, h, he => by
   simp only [pMatchL, Option.some.injEq] at h
   subst h; exact ⟨he, by simp⟩
 | t :: l, k, vs, xs, p, h, he => by
   unfold pMatchL at h
   split at h
   · have := pMatchL_len h (by simp [he])
     simp only [List.length_append, List.length_cons, List.length_nil] at this ⊢
     exact ⟨this.1, by omega⟩
   · split at h
     · simp at h
     · have := pMatchL_len h he
       simp only [List.length_cons]
       exact ⟨this.1, by omega⟩
theorem pExt_ok {a : Atom} {facts : List Fact} {b x : Binding} {n : Nat} (hb : BOk n b) (h : x ∈ pExt a facts b) : BOk (n + a.Terms.length) x := by
 simp only [pExt, List.mem_filterMap, Option.map_eq_some_iff] at h
 obtain ⟨f, -, p, hp, rfl⟩ := h
 unfold pMatch at hp
 split at hp
 · simp at hp
 · have := pMatchL_len hp hb.1
   exact ⟨this.1, by show p.1.length ≤ _; have := hb.2; omega⟩
def pBinds (facts : List Fact) : List Atom → List Binding → List Binding
 | [], l => l
 | a :: r, l => pBinds facts r (l.flatMap (pExt a facts))
theorem flat_le {α β : Type} (f : α → List β) (c : Nat) (hf : ∀ x, (f x).length ≤ c) : ∀ l : List α, (l.flatMap f).length ≤ l.length * c
 | [] => by simp
 | x :: l => by
   have h1 := hf x
   have h2 := flat_le f c hf l
   rw [List.flatMap_cons, List.length_append, List.length_cons, Nat.succ_mul]; omega
theorem pBinds_len {facts : List Fact} (hf : facts.length ≤ 24) : ∀ {l : List Atom} {c : List Binding}, (pBinds facts l c).length ≤ c.length * 24 ^ l.length
 | [], c => by simp [pBinds]
 | a :: l, c => by
   have h1 := pBinds_len hf (l := l) (c := c.flatMap (pExt a facts))
   have h2 := flat_le (pExt a facts) 24 (fun b => Nat.le_trans (pExt_len a facts b) hf) c
   unfold pBinds
   calc _ ≤ _ := h1
     _ ≤ (c.length * 24) * 24 ^ l.length := Nat.mul_le_mul_right _ h2
     _ = c.length * 24 ^ (a :: l).length := by rw [List.length_cons, Nat.pow_succ, Nat.mul_assoc, Nat.mul_comm 24]
theorem s_BindingsOf_L1_eq (facts : List Fact) (hf : facts.length ≤ 24) : ∀ (l : List Atom) (k n : Nat) (c : List Binding), l.length ≤ 4 → (∀ a ∈ l, a.Terms.length ≤ 3) → (∀ b ∈ c, BOk n b) → n + 3 * l.length ≤ 1000 → c.length * 24 ^ l.length ≤ 24 ^ 4 → s_BindingsOf_L1 facts l k c = some (pBinds facts l c)
 | [], k, n, c, _, _, _, _, _ => rfl
 | a :: l, k, n, c, hl, ha, hb, hn, hc => by
   have ha3 := ha a (by simp)
   rw [List.length_cons, Nat.pow_succ, Nat.mul_comm (24 ^ l.length) 24, ← Nat.mul_assoc] at hc
   have hp : 0 < 24 ^ l.length := Nat.pow_pos (by omega)
   have h1 : c.length * 24 ≤ 24 ^ 4 := Nat.le_trans (Nat.le_mul_of_pos_right _ hp) hc
   have h2 : c.length * facts.length ≤ c.length * 24 := Nat.mul_le_mul_left _ hf
   have h3 := flat_le (pExt a facts) 24 (fun b => Nat.le_trans (pExt_len a facts b) hf) c
   unfold s_BindingsOf_L1 pBinds
   rw [s_l4Extend, s_l4Extend_L1_eq a facts (n := n) (by simp at hn; omega) c 0 [] hb (by simp; omega), Option.bind_some, List.nil_append]
   exact s_BindingsOf_L1_eq facts hf l (k + 1) (n + a.Terms.length) _ (by simp at hl; omega) (fun x hx => ha x (by simp [hx])) (fun x hx => by
     obtain ⟨b, hb1, hb2⟩ := List.mem_flatMap.1 hx
     exact pExt_ok (hb b hb1) hb2) (by simp at hn; omega) (Nat.le_trans (Nat.mul_le_mul_right _ h3) hc)
theorem i_BindingsOf_L1_eq (facts : List Fact) (hf : facts.length ≤ 24) : ∀ (l : List Atom) (k n : Nat) (c : List Binding), l.length ≤ 4 → (∀ a ∈ l, a.Terms.length ≤ 3) → (∀ b ∈ c, BOk n b) → n + 3 * l.length ≤ 1000 → c.length * 24 ^ l.length ≤ 24 ^ 4 → i_BindingsOf_L1 facts l k c = some (pBinds facts l c)
 | [], k, n, c, _, _, _, _, _ => rfl
 | a :: l, k, n, c, hl, ha, hb, hn, hc => by
   have ha3 := ha a (by simp)
   rw [List.length_cons, Nat.pow_succ, Nat.mul_comm (24 ^ l.length) 24, ← Nat.mul_assoc] at hc
   have hp : 0 < 24 ^ l.length := Nat.pow_pos (by omega)
   have h1 : c.length * 24 ≤ 24 ^ 4 := Nat.le_trans (Nat.le_mul_of_pos_right _ hp) hc
   have h2 : c.length * facts.length ≤ c.length * 24 := Nat.mul_le_mul_left _ hf
   have h3 := flat_le (pExt a facts) 24 (fun b => Nat.le_trans (pExt_len a facts b) hf) c
   unfold i_BindingsOf_L1 pBinds
   rw [i_matchAll, i_matchAll_L1_eq a facts (n := n) (by simp at hn; omega) c 0 [] hb (by simp; omega), Option.bind_some, List.nil_append]
   exact i_BindingsOf_L1_eq facts hf l (k + 1) (n + a.Terms.length) _ (by simp at hl; omega) (fun x hx => ha x (by simp [hx])) (fun x hx => by
     obtain ⟨b, hb1, hb2⟩ := List.mem_flatMap.1 hx
     exact pExt_ok (hb b hb1) hb2) (by simp at hn; omega) (Nat.le_trans (Nat.mul_le_mul_right _ h3) hc)
theorem pQuery_shape {s : List Int} {q : Query} (h : pQuery s q = true) : q.Atoms.length ≤ 4 ∧ (∀ a ∈ q.Atoms, a.Terms.length ≤ 3) ∧ q.Head.length ≤ 3 := by
 simp only [pQuery, Bool.and_eq_true, List.all_eq_true, decide_eq_true_eq] at h
 obtain ⟨h1, -, -, h2, h3⟩ := h
 simp only [pIn, Bool.and_eq_true, decide_eq_true_eq] at h2
 refine ⟨by omega, fun a ha => ?_, by omega⟩
 have := h1 a ha
 simp only [pAtom, Bool.and_eq_true, beq_iff_eq] at this
 have h4 := pAr_ix this.1
 omega
def pBindsOf (q : Query) (facts : List Fact) : List Binding := pBinds facts q.Atoms [{ Vars := [], Values := [] }]
theorem s_BindingsOf_eq {s : List Int} {q : Query} {facts : List Fact} (hq : pQuery s q = true) (hf : facts.length ≤ 24) : s_BindingsOf q facts = some (pBindsOf q facts) := by
 obtain ⟨h1, h2, -⟩ := pQuery_shape hq
 rw [s_BindingsOf, s_BindingsOf_L1_eq facts hf q.Atoms 0 0 _ h1 h2 (fun b hb => by simp at hb; subst hb; exact ⟨rfl, by simp⟩) (by omega) (by
   simp only [List.length_cons, List.length_nil, Nat.zero_add, Nat.one_mul]
   exact Nat.pow_le_pow_right (by omega) h1)]
 rfl
theorem i_BindingsOf_eq {s : List Int} {q : Query} {facts : List Fact} (hq : pQuery s q = true) (hf : facts.length ≤ 24) : i_BindingsOf q facts = some (pBindsOf q facts) := by
 obtain ⟨h1, h2, -⟩ := pQuery_shape hq
 rw [i_BindingsOf, i_BindingsOf_L1_eq facts hf q.Atoms 0 0 _ h1 h2 (fun b hb => by simp at hb; subst hb; exact ⟨rfl, by simp⟩) (by omega) (by
   simp only [List.length_cons, List.length_nil, Nat.zero_add, Nat.one_mul]
   exact Nat.pow_le_pow_right (by omega) h1)]
 rfl
theorem pBindsOf_len {s : List Int} {q : Query} {facts : List Fact} (hq : pQuery s q = true) (hf : facts.length ≤ 24) : (pBindsOf q facts).length ≤ 331776 := by
 have h1 := (pQuery_shape hq).1
 have h2 := pBinds_len hf (l := q.Atoms) (c := [{ Vars := [], Values := [] }])
 have h3 : 24 ^ q.Atoms.length ≤ 24 ^ 4 := Nat.pow_le_pow_right (by omega) h1
 simp only [List.length_cons, List.length_nil, Nat.zero_add, Nat.one_mul] at h2
 have : (24 : Nat) ^ 4 = 331776 := rfl
 unfold pBindsOf; omega
theorem pBinds_ok {facts : List Fact} : ∀ {l : List Atom} {n : Nat} {c : List Binding}, (∀ b ∈ c, BOk n b) → ∀ b ∈ pBinds facts l c, BOk (n + tmsN l) b
 | [], n, c, h, b, hb => by simpa [tmsN] using h b hb
 | a :: l, n, c, h, b, hb => by
   have := pBinds_ok (l := l) (n := n + a.Terms.length) (c := c.flatMap (pExt a facts)) (fun x hx => by
     obtain ⟨b, hb1, hb2⟩ := List.mem_flatMap.1 hx
     exact pExt_ok (h b hb1) hb2) b hb
   have e : n + tmsN (a :: l) = n + a.Terms.length + tmsN l := by simp only [tmsN, List.flatMap_cons, List.length_append]; omega
   rw [e]; exact this
theorem tmsN_le : ∀ {l : List Atom}, (∀ a ∈ l, a.Terms.length ≤ 3) → tmsN l ≤ 3 * l.length
 | [], _ => by simp [tmsN]
 | a :: l, h => by
   have h1 := h a (by simp)
   have h2 := tmsN_le (l := l) fun x hx => h x (by simp [hx])
   simp only [tmsN, List.flatMap_cons, List.length_append, List.length_cons] at *; omega
theorem pBindsOf_ok {s : List Int} {q : Query} {facts : List Fact} (hq : pQuery s q = true) : ∀ b ∈ pBindsOf q facts, BOk 12 b := fun b hb => by
 obtain ⟨h1, h2, -⟩ := pQuery_shape hq
 have h3 := tmsN_le h2
 have := pBinds_ok (n := 0) (fun b hb => by simp at hb; subst hb; exact ⟨rfl, by simp⟩) b hb
 exact ⟨this.1, by have := this.2; omega⟩
def pTuple (q : Query) (b : Binding) : List Int := q.Head.map (pVal b.Vars b.Values)
def pHasT (l : List (List Int)) (t : List Int) : Bool := l.any fun x => pIntsEq x t
def pInsT (t : List Int) : List (List Int) → List (List Int)
 | [] => [t]
 | x :: l => if 0 < cmpL x t then t :: x :: l else x :: pInsT t l
theorem pInsT_len (t : List Int) : ∀ l : List (List Int), (pInsT t l).length = l.length + 1
 | [] => rfl
 | x :: l => by
   unfold pInsT
   split
   · rfl
   · simp [pInsT_len t l]
theorem pInsT_mem {t y : List Int} : ∀ {l : List (List Int)}, y ∈ pInsT t l → y = t ∨ y ∈ l
 | [], h => by simp [pInsT] at h; exact .inl h
 | x :: l, h => by
   unfold pInsT at h
   split at h
   · simp at h; simp [h]
   · rcases List.mem_cons.1 h with h | h
     · simp [h]
     · rcases pInsT_mem h with h | h <;> simp [h]
theorem pInsT_ix (t : List Int) : ∀ (l : List (List Int)) (k : Nat), (ixF (fun x => decide (0 < cmpL x t)) l k = -1 ∧ pInsT t l = l ++ [t]) ∨ ∃ j : Nat, j < l.length ∧ ixF (fun x => decide (0 < cmpL x t)) l k = ((k + j : Nat) : Int) ∧ pInsT t l = l.take j ++ t :: l.drop j
 | [], k => .inl ⟨rfl, rfl⟩
 | x :: l, k => by
   unfold ixF pInsT
   by_cases h : 0 < cmpL x t
   · rw [if_pos h, if_pos (by simpa using h)]
     exact .inr ⟨0, by simp, by simp, by simp⟩
   · rw [if_neg h, if_neg (by simpa using h)]
     rcases pInsT_ix t l (k + 1) with ⟨h1, h2⟩ | ⟨j, h1, h2, h3⟩
     · exact .inl ⟨h1, by rw [h2]; rfl⟩
     · exact .inr ⟨j + 1, by simp; omega, by rw [h2]; congr 1; omega, by rw [h3]; rfl⟩
def pAddT (l : List (List Int)) (t : List Int) : List (List Int) := if pHasT l t then l else pInsT t l
theorem pAddT_len (l : List (List Int)) (t : List Int) : (pAddT l t).length ≤ l.length + 1 := by
 unfold pAddT
 split
 · omega
 · rw [pInsT_len]; exact Nat.le_refl _
theorem pAddT_mem {l : List (List Int)} {t y : List Int} (h : y ∈ pAddT l t) : y = t ∨ y ∈ l := by
 unfold pAddT at h
 split at h
 · exact .inr h
 · exact pInsT_mem h
theorem i_hasTuple_eq (l : List (List Int)) (t : List Int) : i_hasTuple l t = some (pHasT l t) := by
 unfold i_hasTuple g_slices_ContainsFunc_int_int_ihasTuple1 g_slices_IndexFunc_int_int_ihasTuple1
 rw [index_loop (L := g_slices_IndexFunc_int_int_ihasTuple1_L1 t) (f := fun x => i_hasTuple_1 x t) (p := fun x => pIntsEq x t) (fun k => rfl) (fun x r k => rfl) l 0 (fun x _ => by rw [i_hasTuple_1, g_slices_Equal_int_int_eq]; rfl), Option.bind_some, ixF_neg]
 rfl
theorem i_addedTuple_eq (l : List (List Int)) (t : List Int) (hl : l.length + 1 < 4294967296) (ht : t.length < 4294967296) : i_addedTuple l t = some (pAddT l t) := by
 unfold i_addedTuple pAddT
 rw [i_hasTuple_eq, Option.bind_some]
 cases hh : pHasT l t
 · rw [if_neg (by simp), if_neg (by simp)]
   have hix : g_slices_IndexFunc_int_int_iaddedTuple1 l t = some (ixF (fun x => decide (0 < cmpL x t)) l 0) :=
     index_loop (L := g_slices_IndexFunc_int_int_iaddedTuple1_L1 t) (f := fun x => i_addedTuple_1 x t) (p := fun x => decide (0 < cmpL x t)) (fun k => rfl) (fun x r k => rfl) l 0 (fun x hx => by rw [i_addedTuple_1, g_slices_Compare_eq]; rfl)
   rw [hix, Option.bind_some]
   rcases pInsT_ix t l 0 with ⟨h1, h2⟩ | ⟨j, h1, h2, h3⟩
   · rw [h1, if_pos (by decide), g_slices_Clone_int_int_eq t ht, Option.bind_some, g_slices_Insert_int_int, h2]
     try dsimp only
     rw [if_pos ⟨by omega, by omega, hl⟩, Option.bind_some, Int.toNat_natCast, List.take_length, List.drop_length]
   · rw [h2, if_neg (by simp only [decide_eq_true_eq]; omega), g_slices_Clone_int_int_eq t ht, Option.bind_some, g_slices_Insert_int_int, h3]
     try dsimp only
     rw [if_pos ⟨by omega, by omega, hl⟩, Option.bind_some, Int.toNat_natCast, Nat.zero_add]
 · rw [if_pos rfl, if_pos rfl]
theorem s_AddTuple_L2_done (t : List Int) : ∀ (l : List (List Int)) (k : Nat) (c : List (List Int)), (∀ x ∈ l, x.length < 4294967296) → c.length + l.length < 4294967296 → s_AddTuple_L2 t l k c true = some (c ++ l)
 | [], k, c, _, _ => by simp [s_AddTuple_L2]
 | x :: l, k, c, hx, h => by
   simp only [List.length_cons] at h
   unfold s_AddTuple_L2
   simp only [Bool.not_true, cond_false, Option.bind_some]
   rw [if_neg (by simp), app_nil (hx x (by simp)), Option.bind_some, app1 (by omega), Option.bind_some, Option.bind_some]
   try dsimp only
   rw [s_AddTuple_L2_done t l _ _ (fun y hy => hx y (by simp [hy])) (by simp; omega)]
   simp
theorem s_AddTuple_L2_eq (t : List Int) (ht : t.length < 4294967296) : ∀ (l : List (List Int)) (k : Nat) (c : List (List Int)) (b : Bool), (∀ x ∈ l, x.length < 4294967296) → c.length + l.length + 1 < 4294967296 → s_AddTuple_L2 t l k c b = some (if b then c ++ l else c ++ pInsT t l)
 | [], k, c, b, _, h => by
   unfold s_AddTuple_L2
   cases b
   · rw [if_pos (by rfl), app_nil ht, Option.bind_some, app1 (by simp at h; omega), Option.bind_some, if_neg (by simp)]; rfl
   · simp
 | x :: l, k, c, b, hx, h => by
   simp only [List.length_cons] at h
   have hx1 := hx x (by simp)
   cases b
   · unfold s_AddTuple_L2
     simp only [Bool.not_false, cond_true]
     rw [s_l4Less_eq _ _ ht, Option.bind_some, Option.bind_some]
     try dsimp only
     by_cases hlt : cmpL t x < 0
     · rw [if_pos (by simpa using hlt), app_nil ht, Option.bind_some, app1 (by omega), Option.bind_some, app_nil hx1, Option.bind_some, app1 (by simp; omega), Option.bind_some, Option.bind_some]
       try dsimp only
       rw [s_AddTuple_L2_done t l _ _ (fun y hy => hx y (by simp [hy])) (by simp; omega), if_neg (by simp), pInsT, if_pos (cmpL_swap.2 hlt)]
       simp
     · rw [if_neg (by simpa using hlt), app_nil hx1, Option.bind_some, app1 (by omega), Option.bind_some, Option.bind_some]
       try dsimp only
       rw [s_AddTuple_L2_eq t ht l _ _ _ (fun y hy => hx y (by simp [hy])) (by simp; omega), if_neg (by simp), if_neg (by simp), pInsT, if_neg (fun h => hlt (cmpL_swap.1 h))]
       simp
   · rw [s_AddTuple_L2_done t (x :: l) k c hx (by simp; omega), if_pos rfl]
theorem s_AddTuple_eq (l : List (List Int)) (t : List Int) (hx : ∀ x ∈ l, x.length < 4294967296) (hl : l.length + 1 < 4294967296) (ht : t.length < 4294967296) : s_AddTuple l t = some (pAddT l t) := by
 have key : ∀ (r : List (List Int)) (k : Nat) (b : Bool), s_AddTuple_L1 l t r k b = s_AddTuple_L2 t l 0 [] (b || r.any fun x => pIntsEq x t) := by
   intro r
   induction r with
   | nil => intro k b; rw [s_AddTuple_L1]; simp
   | cons x r ih =>
     intro k b
     rw [s_AddTuple_L1, s_l2Ints_eq, Option.bind_some]
     cases b
     · simp only [cond_false, Option.bind_some, Bool.false_or, List.any_cons]
       rw [ih]; rfl
     · simp only [cond_true, Option.bind_some, Bool.true_or]
       rw [ih]; simp
 rw [s_AddTuple, key, Bool.false_or, s_AddTuple_L2_eq t ht l 0 [] _ hx (by simpa using hl), pAddT, pHasT]
 split <;> simp
def pTuples (q : Query) (l : List Binding) : List (List Int) := l.foldl (fun c b => pAddT c (pTuple q b)) []
theorem s_l4Tuples_L2_eq (c0 : List (List Int)) (b : Binding) (hb : b.Vars.length < 4294967296) : ∀ (l : List Int) (k : Nat) (c : List Int), c.length + l.length < 4294967296 → s_l4Tuples_L2 c0 b l k c = s_AddTuple c0 (c ++ l.map (pVal b.Vars b.Values))
 | [], k, c, _ => by
   rw [s_l4Tuples_L2, List.map_nil, List.append_nil]
   cases s_AddTuple c0 c <;> rfl
 | t :: l, k, c, h => by
   simp only [List.length_cons] at h
   rw [s_l4Tuples_L2, s_ValueOf_eq b t hb, Option.bind_some, app1 (by omega), Option.bind_some, s_l4Tuples_L2_eq c0 b hb l _ _ (by simp; omega), List.map_cons, List.append_assoc]
   rfl
theorem s_l4Tuples_L1_eq (q : Query) (hq : q.Head.length ≤ 3) : ∀ (l : List Binding) (k : Nat) (c : List (List Int)), (∀ b ∈ l, BOk 12 b) → (∀ x ∈ c, x.length ≤ 3) → c.length + l.length < 4294967295 → s_l4Tuples_L1 q l k c = some (l.foldl (fun c b => pAddT c (pTuple q b)) c)
 | [], k, c, _, _, _ => rfl
 | b :: l, k, c, hb, hc, h => by
   simp only [List.length_cons] at h
   have h1 := hb b (by simp)
   have h2 : (pTuple q b).length ≤ 3 := by simpa [pTuple] using hq
   have h3 := pAddT_len c (pTuple q b)
   unfold s_l4Tuples_L1
   rw [s_l4Tuples_L2_eq c b (by have := h1.2; omega) q.Head 0 [] (by simp; omega), List.nil_append, show q.Head.map (pVal b.Vars b.Values) = pTuple q b from rfl, s_AddTuple_eq c _ (fun x hx => by have := hc x hx; omega) (by omega) (by omega), Option.bind_some]
   dsimp only
   rw [s_l4Tuples_L1_eq q hq l _ _ (fun x hx => hb x (by simp [hx])) (fun x hx => (pAddT_mem hx).elim (fun e => e ▸ h2) (hc x)) (by omega), List.foldl_cons]
theorem i_TupleOf_L1_eq (b : Binding) (hb : b.Vars.length = b.Values.length) : ∀ (l : List Int) (k : Nat) (c : List Int), c.length + l.length < 4294967296 → i_TupleOf_L1 b l k c = some (c ++ l.map (pVal b.Vars b.Values))
 | [], k, c, _ => by simp [i_TupleOf_L1]
 | t :: l, k, c, h => by
   simp only [List.length_cons] at h
   rw [i_TupleOf_L1, i_ValueOf_eq b t hb, Option.bind_some, app1 (by omega), Option.bind_some, i_TupleOf_L1_eq b hb l _ _ (by simp; omega), List.map_cons, List.append_assoc]
   rfl
theorem i_TupleOf_eq (q : Query) (b : Binding) (hb : b.Vars.length = b.Values.length) (hq : q.Head.length ≤ 3) : i_TupleOf q b = some (pTuple q b) := by
 rw [i_TupleOf, i_TupleOf_L1_eq b hb _ _ _ (by simp; omega), List.nil_append]; rfl
theorem i_tuplesOf_L1_eq (q : Query) (hq : q.Head.length ≤ 3) : ∀ (l : List Binding) (k : Nat) (c : List (List Int)), (∀ b ∈ l, BOk 12 b) → c.length + l.length < 4294967295 → i_tuplesOf_L1 q l k c = some (l.foldl (fun c b => pAddT c (pTuple q b)) c)
 | [], k, c, _, _ => rfl
 | b :: l, k, c, hb, h => by
   simp only [List.length_cons] at h
   have h1 := hb b (by simp)
   have h2 : (pTuple q b).length ≤ 3 := by simpa [pTuple] using hq
   have h3 := pAddT_len c (pTuple q b)
   unfold i_tuplesOf_L1
   rw [i_TupleOf_eq q b h1.1 hq, Option.bind_some, i_addedTuple_eq c _ (by omega) (by omega), Option.bind_some,
     i_tuplesOf_L1_eq q hq l _ _ (fun x hx => hb x (by simp [hx])) (by omega), List.foldl_cons]
def pAns (q : Query) (facts : List Fact) : List (List Int) := pTuples q (pBindsOf q facts)
theorem pTuples_fold {q : Query} (hq : q.Head.length ≤ 3) : ∀ {l : List Binding} {c : List (List Int)}, (∀ x ∈ c, x.length ≤ 3) → (l.foldl (fun c b => pAddT c (pTuple q b)) c).length ≤ c.length + l.length ∧ ∀ x ∈ l.foldl (fun c b => pAddT c (pTuple q b)) c, x.length ≤ 3
 | [], c, h => ⟨by simp, h⟩
 | b :: l, c, h => by
   have h2 : (pTuple q b).length ≤ 3 := by simpa [pTuple] using hq
   have h3 := pAddT_len c (pTuple q b)
   have := pTuples_fold hq (l := l) (c := pAddT c (pTuple q b)) fun x hx => (pAddT_mem hx).elim (fun e => e ▸ h2) (h x)
   rw [List.foldl_cons]
   exact ⟨by simp only [List.length_cons]; omega, this.2⟩
theorem pAns_ok {s : List Int} {q : Query} {facts : List Fact} (hq : pQuery s q = true) (hf : facts.length ≤ 24) : (pAns q facts).length ≤ 331776 ∧ ∀ x ∈ pAns q facts, x.length ≤ 3 := by
 have h1 := pTuples_fold (pQuery_shape hq).2.2 (l := pBindsOf q facts) (c := []) (by simp)
 have h2 := pBindsOf_len hq hf
 exact ⟨by unfold pAns pTuples; have := h1.1; simp only [List.length_nil] at this; omega, h1.2⟩
theorem i_answers_eq {s : List Int} {q : Query} {facts : List Fact} (hq : pQuery s q = true) (hf : facts.length ≤ 24) : i_answers q facts = some (pAns q facts) := by
 have h2 := pBindsOf_len hq hf
 rw [i_answers, i_BindingsOf_eq hq hf, Option.bind_some, i_tuplesOf, i_tuplesOf_L1_eq q (pQuery_shape hq).2.2 _ _ _ (pBindsOf_ok hq) (by simp; omega)]
 rfl
theorem s_AnswersOf_eq (s : List Int) (q : Query) (facts : List Fact) (hs : s.length < 4294967296) (hfb : bdL bd_Fact facts) (ht : tmsN q.Atoms < 4294967295) : s_AnswersOf s q facts = some (if pQuery s q && pFacts s facts then pAns q facts else []) := by
 unfold s_AnswersOf
 rw [s_IsQuery_eq s q hs ht, Option.bind_some]
 cases hq : pQuery s q
 · simp
 rw [s_AreFacts_eq s facts hs hfb, Option.bind_some]
 cases hf : pFacts s facts
 · simp
 have hf' := (pFacts_iff.1 hf).2.2.2
 have h2 := pBindsOf_len hq hf'
 simp only [Bool.not_true, cond_false, Option.bind_some, Bool.and_self]
 rw [if_neg (by simp), if_true, s_BindingsOf_eq hq hf', Option.bind_some, s_l4Tuples, s_l4Tuples_L1_eq q (pQuery_shape hq).2.2 _ _ _ (pBindsOf_ok hq) (by simp) (by simp; omega)]
 rfl
def pMax (s : List Int) (l : List Method) (q : Query) (facts : List Fact) : List (List Int) := if pMethods s l && pQuery s q && pFacts s facts then pAns q (pReach l facts 40 (pStart (pTermsP (pIn 0 9) q.Atoms))).Facts else []
theorem pTermsP_len {p : Int → Bool} {l : List Atom} : (pTermsP p l).length ≤ tmsN l := by
 have := puts_len2 (p := p) (v := l.flatMap (·.Terms)) (l := [])
 simpa [pTermsP, tmsN] using this
theorem reach_facts {s : List Int} {l : List Method} {facts : List Fact} (hl : pMethods s l = true) (hf : pFacts s facts = true) (seeds : List Int) : pFacts s (pReach l facts 40 (pStart seeds)).Facts = true ∧ (pReach l facts 40 (pStart seeds)).Facts.length ≤ 24 ∧ bdL bd_Fact (pReach l facts 40 (pStart seeds)).Facts := by
 obtain ⟨j, -, hi⟩ := pReach_inv hl hf 40 0 _ (pStart_inv s l facts seeds)
 have h1 := pw_facts hf hi.pw hi.sub
 have h2 := (pFacts_iff.1 h1).2.2.2
 exact ⟨h1, h2, bdL_Facts (pFacts_all h1) (by omega)⟩
theorem s_MaximalAnswers_eq (s : List Int) (l : List Method) (q : Query) (facts : List Fact) (hs : s.length < 4294967296) (hml : bdL bd_Method l) (hfb : bdL bd_Fact facts) (ht : tmsN q.Atoms < 4294967295) : s_MaximalAnswers s l q facts = some (pMax s l q facts) := by
 unfold s_MaximalAnswers pMax
 rw [s_l6Fine_eq s l q hs hml ht, Option.bind_some]
 cases hl : pMethods s l
 · rfl
 cases hq : pQuery s q
 · rfl
 rw [s_AreFacts_eq s facts hs hfb]
 cases hf : pFacts s facts
 · rfl
 obtain ⟨r1, r2, r3⟩ := reach_facts hl hf (pTermsP (pIn 0 9) q.Atoms)
 have hc := pTermsP_len (p := pIn 0 9) (l := q.Atoms)
 simp only [Bool.and_self, Bool.not_true, cond_false, Option.bind_some]
 rw [if_neg (by simp), if_true, s_ConstantsOf_eq q ht, Option.bind_some, s_ReachAll_eq _ hs hml hl hf (by omega), Option.bind_some, s_AnswersOf_eq s q _ hs r3 ht, Option.bind_some, hq, r1]
 rfl
theorem i_MaximalAnswers_eq (s : List Int) (l : List Method) (q : Query) (facts : List Fact) (hs : s.length < 4294967296) (hml : bdL bd_Method l) (hfb : bdL bd_Fact facts) (ht : tmsN q.Atoms < 4294967295) : i_MaximalAnswers s l q facts = some (pMax s l q facts) := by
 unfold i_MaximalAnswers pMax
 rw [i_areAsked_eq s l q hs hml ht, Option.bind_some]
 cases hl : pMethods s l
 · rfl
 cases hq : pQuery s q
 · rfl
 rw [i_AreFacts_eq s facts hs hfb]
 cases hf : pFacts s facts
 · rfl
 obtain ⟨r1, r2, r3⟩ := reach_facts hl hf (pTermsP (pIn 0 9) q.Atoms)
 have hc := pTermsP_len (p := pIn 0 9) (l := q.Atoms)
 simp only [Bool.and_self, Bool.not_true, cond_false, Option.bind_some]
 rw [if_neg (by simp), if_true, i_ConstantsOf_eq q ht, Option.bind_some, i_reach_eq _ hl hf (by omega), Option.bind_some, i_answers_eq hq r2]
 rfl
theorem fLt_irr {a : Fact} : ¬ fLt a a := by
 unfold fLt; rw [pCmpFact_zero.2 rfl]; decide
theorem fLt_asy {a b : Fact} (h1 : fLt a b) (h2 : fLt b a) : False := fLt_irr (pCmpFact_trans h1 h2)
theorem fs_ext : ∀ {a b : List Fact}, a.Pairwise fLt → b.Pairwise fLt → (∀ x, x ∈ a ↔ x ∈ b) → a = b
 | [], [], _, _, _ => rfl
 | [], y :: b, _, _, h => absurd ((h y).2 (by simp)) (by simp)
 | x :: a, [], _, _, h => absurd ((h x).1 (by simp)) (by simp)
 | x :: a, y :: b, ha, hb, h => by
   rw [List.pairwise_cons] at ha hb
   have e : x = y := by
     have h1 := (h x).1 (by simp)
     have h2 := (h y).2 (by simp)
     rw [List.mem_cons] at h1 h2
     rcases h1 with h1 | h1
     · exact h1
     · rcases h2 with h2 | h2
       · exact h2.symm
       · exact (fLt_asy (hb.1 x h1) (ha.1 y h2)).elim
   subst e
   rw [fs_ext ha.2 hb.2 fun z => ?_]
   constructor
   · intro hz
     have h1 := (h z).1 (by simp [hz])
     rcases List.mem_cons.1 h1 with rfl | h1
     · exact (fLt_irr (ha.1 z hz)).elim
     · exact h1
   · intro hz
     have h1 := (h z).2 (by simp [hz])
     rcases List.mem_cons.1 h1 with rfl | h1
     · exact (fLt_irr (hb.1 z hz)).elim
     · exact h1
theorem addFs_mem {y : Fact} : ∀ {l c : List Fact}, y ∈ l.foldl pAddF c ↔ y ∈ c ∨ y ∈ l
 | [], c => by simp
 | x :: l, c => by
   rw [List.foldl_cons, addFs_mem, pAddF_iff, List.mem_cons]
   constructor
   · rintro ((h | h) | h)
     · exact .inr (.inl h)
     · exact .inl h
     · exact .inr (.inr h)
   · rintro (h | h | h)
     · exact .inl (.inr h)
     · exact .inl (.inl h)
     · exact .inr h
def pReachAll (s : List Int) (l : List Method) (facts : List Fact) (seeds : List Int) : Reached := if pMethods s l && pFacts s facts then pReach l facts 40 (pStart seeds) else pStart seeds
theorem s_l8Copy_start (seeds : List Int) : s_l8Copy (pStart seeds) = some (pStart seeds) := by
 have h1 := pStart_inv [] [] [] seeds
 have h2 := VOk_len ⟨h1.asc, h1.vals⟩
 have h3 : bdL bd_Fact (pStart seeds).Facts := ⟨by simp [pStart], by simp [pStart]⟩
 have h4 : bdL bd_Access (pStart seeds).Log := ⟨by simp [pStart], by simp [pStart]⟩
 unfold s_l8Copy
 rw [s_l2Copy_eq _ h3, Option.bind_some, app_nil (by omega), Option.bind_some, s_l8Log_eq _ h4, Option.bind_some]
theorem s_StepReach_bad {s : List Int} {l : List Method} {facts : List Fact} {seeds : List Int} (hs : s.length < 4294967296) (hml : bdL bd_Method l) (hfl : bdL bd_Fact facts) (h : (pMethods s l && pFacts s facts) = false) : s_StepReach s l facts (pStart seeds) = some (pStart seeds, false) := by
 unfold s_StepReach
 rw [s_AreMethods_eq s l hs hml, Option.bind_some]
 cases hl : pMethods s l
 · simp [s_l8Copy_start]
 · have hf : pFacts s facts = false := by simpa [hl] using h
   rw [s_AreFacts_eq s facts hs hfl, Option.bind_some, hf]
   simp [s_l8Copy_start]
theorem s_ReachAll_all (s : List Int) (l : List Method) (facts : List Fact) (seeds : List Int) (hs : s.length < 4294967296) (hml : bdL bd_Method l) (hfl : bdL bd_Fact facts) (h : seeds.length < 4294967295) : s_ReachAll s l facts seeds = some (pReachAll s l facts seeds) := by
 unfold pReachAll
 cases hb : pMethods s l && pFacts s facts
 · rw [s_ReachAll, s_StartReach_eq seeds h, Option.bind_some, show (((40 : Int) - 0).toNat + 2) = 41 + 1 from rfl, s_ReachAll_L1, if_pos (by decide)]
   show (s_StepReach s l facts (pStart seeds)).bind _ = _
   rw [s_StepReach_bad hs hml hfl hb]
   rfl
 · rw [Bool.and_eq_true] at hb
   rw [s_ReachAll_eq seeds hs hml hb.1 hb.2 h]
   rfl
theorem pIntsEq_iff (a b : List Int) : pIntsEq a b = decide (a = b) := by
 unfold pIntsEq
 induction a generalizing b with
 | nil => cases b <;> simp [eqF]
 | cons x a ih =>
   cases b with
   | nil => simp [eqF]
   | cons y b =>
     rw [eqF, ih]
     by_cases h : x = y <;> simp [h]
def pLost (s : List Int) (l : List Method) (q : Query) (facts : List Fact) : List (List Int) := if pMethods s l then (if pQuery s q && pFacts s facts then pAns q facts else []).filter fun t => !pHasT (pMax s l q facts) t else []
theorem s_LostAnswers_L4_eq (A : List (List Int)) (c : List (List Int)) (i : Nat) (t : List Int) (hi : A[i]? = some t) (hc : c.length + 1 < 4294967296) : ∀ (r : List (List Int)) (k : Nat) (b : Bool), s_LostAnswers_L4 A c (i : Int) r k b = some (if b || pHasT r t then c else c ++ [t])
 | [], k, b => by
   rw [s_LostAnswers_L4, ix_nat, hi, Option.bind_some]
   cases b
   · rw [if_pos (by rfl), app1 hc]; simp [pHasT]
   · simp
 | x :: r, k, b => by
   rw [s_LostAnswers_L4, ix_nat, hi, Option.bind_some, s_l2Ints_eq]
   cases b
   · simp only [cond_false, Option.bind_some, Bool.false_or]
     rw [s_LostAnswers_L4_eq A c i t hi hc r]
     have e : eqF (fun x y => x == y) t x = pIntsEq x t := by
       show pIntsEq t x = pIntsEq x t
       rw [pIntsEq_iff, pIntsEq_iff]
       exact decide_eq_decide.2 ⟨Eq.symm, Eq.symm⟩
     rw [e, pHasT, pHasT, List.any_cons]
   · simp only [cond_true, Option.bind_some, Bool.true_or]
     rw [s_LostAnswers_L4_eq A c i t hi hc r]
     simp
theorem s_LostAnswers_L1_eq (s : List Int) (l : List Method) (A M : List (List Int)) (hs : s.length < 4294967296) (hml : bdL bd_Method l) (hA : A.length < 1000000) : ∀ (m i : Nat) (c : List (List Int)), i ≤ A.length → A.length - i < m → c.length ≤ i → s_LostAnswers_L1 s l A M m c (i : Int) = some (if pMethods s l then c ++ (A.drop i).filter (fun t => !pHasT M t) else c) := by
 intro m
 induction m with
 | zero => intro i c _ h _; omega
 | succ m ih =>
   intro i c hi hm hc
   unfold s_LostAnswers_L1
   rw [s_AreMethods_eq s l hs hml]
   by_cases hlt : i < A.length
   · rw [show (decide ((i : Int) < (A.length : Int))) = true from by simpa using hlt]
     cases hp : pMethods s l
     · rfl
     · simp only [cond_true, Option.bind_some]
       rw [if_true, s_LostAnswers_L4_eq A c i A[i] (List.getElem?_eq_getElem hlt) (by omega), Option.bind_some, Bool.false_or, List.drop_eq_getElem_cons hlt, List.filter_cons]
       try dsimp only
       rw [show IntKind.i64.wrap ((i : Int) + 1) = ((i + 1 : Nat) : Int) from by rw [wrap_in (by omega) (by omega)]; rfl, ih (i + 1) _ (by omega) (by omega) (by split <;> (try simp only [List.length_append, List.length_cons, List.length_nil]) <;> omega), hp]
       cases pHasT M A[i] <;> simp
   · rw [show (decide ((i : Int) < (A.length : Int))) = false from by simpa using hlt, List.drop_eq_nil_of_le (by omega)]
     simp
theorem s_LostAnswers_eq (s : List Int) (l : List Method) (q : Query) (facts : List Fact) (hs : s.length < 4294967296) (hml : bdL bd_Method l) (hfb : bdL bd_Fact facts) (ht : tmsN q.Atoms < 4294967295) : s_LostAnswers s l q facts = some (pLost s l q facts) := by
 have hA : (if pQuery s q && pFacts s facts then pAns q facts else []).length < 1000000 := by
   split
   · rename_i h
     simp only [Bool.and_eq_true] at h
     have := (pAns_ok h.1 (pFacts_iff.1 h.2).2.2.2).1
     omega
   · simp
 rw [s_LostAnswers, s_AnswersOf_eq s q facts hs hfb ht, Option.bind_some, s_MaximalAnswers_eq s l q facts hs hml hfb ht, Option.bind_some, show (((if pQuery s q && pFacts s facts then pAns q facts else []).length : Int) - 0).toNat + 2 = (if pQuery s q && pFacts s facts then pAns q facts else []).length + 2 by omega, show (0 : Int) = ((0 : Nat) : Int) from rfl,
   s_LostAnswers_L1_eq s l _ _ hs hml hA _ 0 [] (by omega) (by omega) (by simp)]
 rfl
theorem i_AnswersOf_eq (s : List Int) (q : Query) (facts : List Fact) (hs : s.length < 4294967296) (hfb : bdL bd_Fact facts) (ht : tmsN q.Atoms < 4294967295) : i_AnswersOf s q facts = some (if pQuery s q && pFacts s facts then pAns q facts else []) := by
 unfold i_AnswersOf
 rw [i_IsQuery_eq s q hs ht, Option.bind_some]
 cases hq : pQuery s q
 · rfl
 rw [i_AreFacts_eq s facts hs hfb]
 cases hf : pFacts s facts
 · rfl
 simp only [Bool.not_true, cond_false, Option.bind_some, Bool.and_self]
 rw [if_neg (by simp), if_true, i_answers_eq hq (pFacts_iff.1 hf).2.2.2]
 rfl
theorem i_without_eq (a b : List (List Int)) (h : bdL (bdL bdAny) a) : i_without a b = some (a.filter fun t => !pHasT b t) := by
 rw [i_without, i_copyTuples_eq a h, Option.bind_some, g_slices_DeleteFunc_int_int_iwithout1,
   delL_of (p := fun t => pHasT b t) (fun t _ => by rw [i_without_1, i_hasTuple_eq]; rfl)]
 rfl
theorem i_LostAnswers_eq (s : List Int) (l : List Method) (q : Query) (facts : List Fact) (hs : s.length < 4294967296) (hml : bdL bd_Method l) (hfb : bdL bd_Fact facts) (ht : tmsN q.Atoms < 4294967295) : i_LostAnswers s l q facts = some (pLost s l q facts) := by
 unfold i_LostAnswers pLost
 rw [i_AreMethods_eq s l hs hml, Option.bind_some]
 cases hl : pMethods s l
 · rfl
 have hA : bdL (bdL bdAny) (if pQuery s q && pFacts s facts then pAns q facts else []) := by
   split
   · rename_i h
     simp only [Bool.and_eq_true] at h
     have := pAns_ok h.1 (pFacts_iff.1 h.2).2.2.2
     exact ⟨by have := this.1; omega, fun x hx => bdL_flat x (by have := this.2 x hx; omega)⟩
   · exact bdL_nil
 rw [if_neg (by simp), i_AnswersOf_eq s q facts hs hfb ht, Option.bind_some, i_MaximalAnswers_eq s l q facts hs hml hfb ht, Option.bind_some, i_without_eq _ _ hA]
 rfl
theorem s_l3Atom_eq (r : Int) (t : List Int) (h : t.length < 4294967296) : s_l3Atom r t = some { Rel := r, Terms := t } := by
 rw [s_l3Atom, app_nil h]; rfl
def Ok {α : Type} (o : Option α) (P : α → Prop) : Prop := ∃ a, o = some a ∧ P a
theorem Ok.bind {α β : Type} {o : Option α} {g : α → Option β} {P : α → Prop} {Q : β → Prop} (h : Ok o P) (hg : ∀ a, P a → Ok (g a) Q) : Ok (o.bind g) Q := by
 obtain ⟨a, rfl, ha⟩ := h; exact hg a ha
theorem Ok.pure {α : Type} {a : α} {P : α → Prop} (h : P a) : Ok (some a) P := ⟨a, rfl, h⟩
theorem Ok.eqb {α β : Type} {o : Option α} {a : α} {g : α → Option β} {Q : β → Prop} (h : o = some a) (hg : Ok (g a) Q) : Ok (o.bind g) Q := by
 subst h; exact hg
theorem Ok.weak {α : Type} {o : Option α} {P Q : α → Prop} (h : Ok o P) (hq : ∀ a, P a → Q a) : Ok o Q := by
 obtain ⟨a, e, ha⟩ := h; exact ⟨a, e, hq a ha⟩
def CurI (b : List UInt8) (i : Int) : Prop := 0 ≤ i ∧ i ≤ (b.length : Int) ∧ b.length ≤ 1048576
theorem s_l1New_L1_dr (code : List UInt8) (hc : code.length ≤ 1048576) : ∀ (m : Nat) (h : Int) (i : Nat), i ≤ code.length → code.length - i < m → Ok (s_l1New_L1 code m h (i : Int)) fun c => c.b = code ∧ CurI code c.i
 | 0, _, _, _, hm => by omega
 | m + 1, h, i, hi, hm => by
   unfold s_l1New_L1
   split
   · rename_i hlt
     simp only [Bool.and_eq_true, decide_eq_true_eq] at hlt
     have h1 : i < code.length := by omega
     refine Ok.eqb (a := code[i]) (by rw [ix_nat, List.getElem?_eq_getElem h1]) ?_
     rw [show IntKind.i64.wrap ((i : Int) + 1) = ((i + 1 : Nat) : Int) from by rw [wrap_in (by omega) (by omega)]; rfl]
     exact s_l1New_L1_dr code hc m _ (i + 1) h1 (by omega)
   · exact .pure ⟨rfl, by show (0 : Int) ≤ 0; omega, by show (0 : Int) ≤ _; omega, hc⟩
theorem s_l1New_dr (code : List UInt8) (hc : code.length ≤ 1048576) : Ok (s_l1New code) fun c => c.b = code ∧ CurI code c.i :=
 s_l1New_L1_dr code hc _ _ 0 (by omega) (by omega)
theorem andI255 (x : Int) : 0 ≤ andI .i64 x 255 ∧ andI .i64 x 255 ≤ 255 := by
 unfold andI
 have h : (BitVec.ofInt (IntKind.bits .i64) x &&& BitVec.ofInt (IntKind.bits .i64) 255).toNat ≤ 255 := by
   rw [BitVec.toNat_and]
   exact Nat.le_trans Nat.and_le_right (by decide)
 rw [wrap_in (by omega) (by omega)]
 omega
theorem s_l1Byte_dr {c : l1Cur} (h : CurI c.b c.i) : Ok (s_l1Byte c) fun p => (0 ≤ p.1 ∧ p.1 ≤ 255) ∧ CurI c.b p.2.i := by
 obtain ⟨h1, h2, h3⟩ := h
 unfold s_l1Byte
 refine Ok.eqb rfl (Ok.eqb rfl ?_)
 split
 · rename_i hlt
   simp only [decide_eq_true_eq] at hlt
   refine Ok.eqb (a := c.b[c.i.toNat]'(by omega)) (by rw [ix, if_pos h1, List.getElem?_eq_getElem]) (.pure ⟨andI255 _, ?_⟩)
   show CurI _ (IntKind.i64.wrap (c.i + 1))
   rw [wrap_in (by omega) (by omega)]
   exact ⟨by omega, by omega, h3⟩
 · exact .pure ⟨andI255 _, h1, h2, h3⟩
theorem remI_ok {x n : Int} (hx : 0 ≤ x) (hn : 0 < n) : Ok (remI x n) fun r => 0 ≤ r ∧ r < n := by
 unfold remI
 rw [if_neg (by omega)]
 exact .pure ⟨Int.tmod_nonneg _ hx, Int.tmod_lt_of_pos _ hn⟩
theorem s_l1Below_dr {c : l1Cur} (n : Int) (h : CurI c.b c.i) : Ok (s_l1Below c n) fun p => ((n ≤ 0 ∧ p.1 = 0) ∨ (0 ≤ p.1 ∧ p.1 < n)) ∧ CurI c.b p.2.i := by
 unfold s_l1Below
 split
 · rename_i hn
   simp only [decide_eq_true_eq] at hn
   exact .pure ⟨.inl ⟨hn, rfl⟩, h⟩
 rename_i hn
 simp only [decide_eq_true_eq] at hn
 split
 · refine (s_l1Byte_dr h).bind fun r1 h1 => ?_
   exact (remI_ok h1.1.1 (by omega)).bind fun x hx => .pure ⟨.inr hx, h1.2⟩
 · refine (s_l1Byte_dr h).bind fun r1 h1 => ?_
   refine (s_l1Byte_dr (c := { b := c.b, i := r1.2.i, h := r1.2.h }) h1.2).bind fun r2 h2 => ?_
   refine (s_l1Byte_dr (c := { b := c.b, i := r2.2.i, h := r2.2.h }) h2.2).bind fun r3 h3 => ?_
   refine (s_l1Byte_dr (c := { b := c.b, i := r3.2.i, h := r3.2.h }) h3.2).bind fun r4 h4 => ?_
   have b1 := h1.1; have b2 := h2.1; have b3 := h3.1; have b4 := h4.1
   rw [wrap_in (n := r1.1 * 16777216) (by omega) (by omega), wrap_in (n := r2.1 * 65536) (by omega) (by omega), wrap_in (n := r3.1 * 256) (by omega) (by omega), wrap_in (n := r1.1 * 16777216 + r2.1 * 65536) (by omega) (by omega), wrap_in (n := r1.1 * 16777216 + r2.1 * 65536 + r3.1 * 256) (by omega) (by omega), wrap_in (by omega) (by omega)]
   exact (remI_ok (by omega) (by omega)).bind fun x hx => .pure ⟨.inr hx, h4.2⟩
theorem s_l1Once_dr {c : l1Cur} (n : Int) (h : CurI c.b c.i) : Ok (s_l1Once c n) fun p => CurI c.b p.2.i :=
 (s_l1Below_dr n h).bind fun _ hr => .pure hr.2
theorem s_l1PickInt_dr {c : l1Cur} (l : List Int) (hl : 0 < l.length) (h : CurI c.b c.i) : Ok (s_l1PickInt c l) fun p => p.1 ∈ l ∧ CurI c.b p.2.i := by
 refine (s_l1Below_dr (l.length : Int) h).bind fun r hr => ?_
 have h1 : r.1.toNat < l.length := by omega
 refine Ok.eqb (a := l[r.1.toNat]) (by rw [ix, if_pos (by omega), List.getElem?_eq_getElem h1]) (.pure ⟨List.getElem_mem h1, hr.2⟩)
def SchOk (s : List Int) : Prop := 1 ≤ s.length ∧ s.length ≤ 3 ∧ ∀ x ∈ s, 1 ≤ x ∧ x ≤ 3
theorem s_l2Schema_L1_dr (c : l1Cur) : ∀ (m : Nat) (i h : Int) (acc : List Int) (n : Int), CurI c.b i → 0 ≤ n → n < m → (acc.length : Int) + n ≤ 3 → 1 ≤ (acc.length : Int) + n → (∀ x ∈ acc, 1 ≤ x ∧ x ≤ 3) → Ok (s_l2Schema_L1 c m i h acc n) fun p => SchOk p.1 ∧ CurI c.b p.2.i
 | 0, _, _, _, _, _, _, hm, _, _, _ => by omega
 | m + 1, i, h, acc, n, hi, h0, hm, h3, h1, ha => by
   unfold s_l2Schema_L1
   split
   · rename_i hn
     simp only [decide_eq_true_eq] at hn
     refine Ok.bind (P := fun o => CurI c.b o.1 ∧ ∃ x, o.2.2 = acc ++ [x] ∧ 1 ≤ x ∧ x ≤ 3) ?_ ?_
     · refine (s_l1Below_dr (c := { b := c.b, i := i, h := h }) 2 hi).bind fun r hr => ?_
       refine (s_l1Once_dr (c := { b := c.b, i := r.2.i, h := r.2.h }) 4 hr.2).bind fun q hq => ?_
       split
       · exact Ok.eqb (app1 (by omega)) (.pure ⟨hq, 3, rfl, by (try dsimp only); omega, by (try dsimp only); omega⟩)
       · have := hr.1
         exact Ok.eqb (app1 (by omega)) (.pure ⟨hq, _, rfl, by rw [wrap_in (by (try dsimp only); omega) (by (try dsimp only); omega)]; omega, by rw [wrap_in (by (try dsimp only); omega) (by (try dsimp only); omega)]; omega⟩)
     · rintro ⟨i', h', acc'⟩ ⟨o1, x, o2, o3, o4⟩
       obtain rfl : acc' = acc ++ [x] := o2
       dsimp only
       rw [wrap_in (by omega) (by omega)]
       refine s_l2Schema_L1_dr c m i' h' _ _ o1 (by omega) (by omega) (by simp; omega) (by simp; omega) fun y hy => ?_
       rcases List.mem_append.1 hy with hy | hy
       · exact ha y hy
       · simp only [List.mem_singleton] at hy; omega
   · rename_i hn
     simp only [decide_eq_true_eq] at hn
     exact .pure ⟨⟨by (try dsimp only); omega, by (try dsimp only); omega, ha⟩, hi⟩
theorem s_l2Schema_dr {c : l1Cur} (h : CurI c.b c.i) : Ok (s_l2Schema c) fun p => SchOk p.1 ∧ CurI c.b p.2.i := by
 refine (s_l1Below_dr 3 h).bind fun r hr => ?_
 have := hr.1
 rw [wrap_in (by omega) (by omega)]
 exact s_l2Schema_L1_dr c _ _ _ _ _ hr.2 (by omega) (by omega) (by simp; omega) (by simp; omega) (by simp)
theorem sch_ix {s : List Int} (hs : SchOk s) {r : Int} (h0 : 0 ≤ r) (h1 : r < (s.length : Int)) : ∃ x, ix s r = some x ∧ 1 ≤ x ∧ x ≤ 3 := by
 have h2 : r.toNat < s.length := by omega
 exact ⟨s[r.toNat], by rw [ix, if_pos h0, List.getElem?_eq_getElem h2], hs.2.2 _ (List.getElem_mem h2)⟩
theorem s_l5Method_L1_dr (c : l1Cur) (s : List Int) (r2 r6 r9 r12 : Int × l1Cur) {x : Int} (hx : ix s r2.1 = some x) (hx3 : x ≤ 3) : ∀ (m : Nat) (i h : Int) (acc : List Int) (k : Int), CurI c.b i → 0 ≤ k → k ≤ 3 → 3 - k < m → (acc.length : Int) ≤ k → Ok (s_l5Method_L1 c s r2 r6 r9 r12 m i h acc k) fun p => p.1.Inputs.length ≤ 3 ∧ CurI c.b p.2.i
 | 0, _, _, _, _, _, _, hm, _, _ => by omega
 | m + 1, i, h, acc, k, hi, h0, h3, hm, ha => by
   unfold s_l5Method_L1
   refine Ok.eqb hx ?_
   split
   · rename_i hn
     simp only [decide_eq_true_eq] at hn
     refine Ok.bind (P := fun o => CurI c.b o.1 ∧ o.2.2.length ≤ acc.length + 1) ?_ ?_
     · refine (s_l1Once_dr (c := { b := c.b, i := i, h := h }) 3 hi).bind fun q hq => ?_
       split
       · exact Ok.eqb (app1 (by omega)) (.pure ⟨hq, by simp⟩)
       · exact .pure ⟨hq, by simp⟩
     · rintro ⟨i', h', acc'⟩ ⟨o1, o2⟩
       dsimp only at o1 o2 ⊢
       rw [wrap_in (by omega) (by omega)]
       exact s_l5Method_L1_dr c s r2 r6 r9 r12 hx hx3 m i' h' acc' (k + 1) o1 (by omega) (by omega) (by omega) (by omega)
   · exact .pure ⟨by show acc.length ≤ 3; omega, hi⟩
theorem s_l5Method_dr {c : l1Cur} {s : List Int} (hs : SchOk s) (h : CurI c.b c.i) : Ok (s_l5Method 20 c s) fun p => p.1.Inputs.length ≤ 3 ∧ CurI c.b p.2.i := by
 have hl := hs.1
 refine (s_l1Below_dr (s.length : Int) h).bind fun r2 h2 => ?_
 refine (s_l1PickInt_dr (c := { b := c.b, i := r2.2.i, h := r2.2.h }) [0, 0, 0, 1, 2] (by decide) h2.2).bind fun r6 h6 => ?_
 refine (s_l1Below_dr (c := { b := c.b, i := r6.2.i, h := r6.2.h }) 5 h6.2).bind fun r9 h9 => ?_
 refine (s_l1Below_dr (c := { b := c.b, i := r9.2.i, h := r9.2.h }) 6 h9.2).bind fun r12 h12 => ?_
 have := h2.1
 obtain ⟨x, e, -, hx⟩ := sch_ix hs (r := r2.1) (by omega) (by omega)
 exact s_l5Method_L1_dr c s r2 r6 r9 r12 e hx _ _ _ _ _ h12.2 (by omega) (by omega) (by decide) (by simp)
theorem bd_MethodOf {m : Method} (h : m.Inputs.length ≤ 100) : bd_Method m := bdL_flat _ (by omega)
theorem bd_snoc {α : Type} {p : α → Prop} {l : List α} {x : α} (h : bdL p l) (hl : l.length ≤ 1000) (hx : p x) : bdL p (l ++ [x]) := ⟨by simp; omega, fun y hy => by
 rcases List.mem_append.1 hy with hy | hy
 · exact h.2 y hy
 · rw [List.mem_singleton] at hy; exact hy ▸ hx⟩
theorem s_l5Methods_L1_dr (c : l1Cur) {s : List Int} (hs : SchOk s) : ∀ (m : Nat) (i h : Int) (acc : List Method) (n : Int), CurI c.b i → 0 ≤ n → n < m → (acc.length : Int) + n ≤ 4 → bdL bd_Method acc → Ok (s_l5Methods_L1 c s 20 m i h acc n) fun p => (p.1.length ≤ 4 ∧ bdL bd_Method p.1) ∧ CurI c.b p.2.i
 | 0, _, _, _, _, _, _, hm, _, _ => by omega
 | m + 1, i, h, acc, n, hi, h0, hm, h4, ha => by
   unfold s_l5Methods_L1
   split
   · rename_i hn
     simp only [decide_eq_true_eq] at hn
     refine (s_l5Method_dr (c := { b := c.b, i := i, h := h }) hs hi).bind fun r hr => ?_
     refine Ok.eqb (app1 (by omega)) ?_
     rw [wrap_in (by omega) (by omega)]
     exact s_l5Methods_L1_dr c hs m _ _ _ _ hr.2 (by omega) (by omega) (by simp; omega) (bd_snoc ha (by omega) (bd_MethodOf (by omega)))
   · rename_i hn
     simp only [decide_eq_true_eq] at hn
     exact .pure ⟨⟨by (try dsimp only); omega, ha⟩, hi⟩
theorem s_l5Methods_dr {c : l1Cur} {s : List Int} (hs : SchOk s) (h : CurI c.b c.i) : Ok (s_l5Methods 20 c s) fun p => (p.1.length ≤ 4 ∧ bdL bd_Method p.1) ∧ CurI c.b p.2.i := by
 refine (s_l1Below_dr 4 h).bind fun r hr => ?_
 have := hr.1
 rw [wrap_in (by omega) (by omega)]
 exact s_l5Methods_L1_dr c hs _ _ _ _ _ hr.2 (by omega) (by omega) (by simp; omega) bdL_nil
theorem s_l2Fact_L1_dr (c : l1Cur) (s : List Int) (w : Int) (hw : 0 < w) (r2 : Int × l1Cur) {x : Int} (hx : ix s r2.1 = some x) (hx1 : 1 ≤ x) (hx3 : x ≤ 3) : ∀ (m : Nat) (i h : Int) (acc : List Int) (k : Int), CurI c.b i → 0 ≤ k → k ≤ 3 → k ≤ x → 3 - k < m → (acc.length : Int) = k → Ok (s_l2Fact_L1 c s w r2 m i h acc k) fun p => (1 ≤ p.1.Values.length ∧ p.1.Values.length ≤ 3) ∧ CurI c.b p.2.i
 | 0, _, _, _, _, _, _, hm, _, _, _ => by omega
 | m + 1, i, h, acc, k, hi, h0, h3, hkx, hm, ha => by
   unfold s_l2Fact_L1
   refine Ok.eqb hx ?_
   split
   · rename_i hn
     simp only [decide_eq_true_eq] at hn
     refine (s_l1Below_dr (c := { b := c.b, i := i, h := h }) w hi).bind fun r hr => ?_
     refine Ok.eqb (app1 (by omega)) ?_
     rw [wrap_in (by omega) (by omega)]
     exact s_l2Fact_L1_dr c s w hw r2 hx hx1 hx3 m _ _ _ (k + 1) hr.2 (by omega) (by omega) (by omega) (by omega) (by simp; omega)
   · rename_i hn
     simp only [decide_eq_true_eq] at hn
     exact .pure ⟨⟨by show 1 ≤ acc.length; omega, by show acc.length ≤ 3; omega⟩, hi⟩
theorem s_l2Fact_dr {c : l1Cur} {s : List Int} (hs : SchOk s) (w : Int) (hw : 0 < w) (h : CurI c.b c.i) : Ok (s_l2Fact 20 c s w) fun p => (1 ≤ p.1.Values.length ∧ p.1.Values.length ≤ 3) ∧ CurI c.b p.2.i := by
 have hl := hs.1
 refine (s_l1Below_dr (s.length : Int) h).bind fun r2 h2 => ?_
 have := h2.1
 obtain ⟨x, e, h1, hx⟩ := sch_ix hs (r := r2.1) (by omega) (by omega)
 exact s_l2Fact_L1_dr c s w hw r2 e h1 hx _ _ _ _ _ h2.2 (by omega) (by omega) (by omega) (by decide) (by simp)
theorem bd_FactLen {f : Fact} (h : f.Values.length ≤ 100) : bd_Fact f := bdL_flat _ (by omega)
theorem bdL_addF {l : List Fact} {f : Fact} (h : bdL bd_Fact l) (hl : l.length ≤ 1000) (hf : bd_Fact f) : bdL bd_Fact (pAddF l f) := ⟨by have := pAddF_len l f; omega, fun y hy => by
 rcases pAddF_mem hy with rfl | hy
 · exact hf
 · exact h.2 y hy⟩
theorem s_l2Facts_L1_dr (c : l1Cur) {s : List Int} (hs : SchOk s) {M : Nat} (hM : M ≤ 500) : ∀ (m : Nat) (i h : Int) (acc : List Fact) (n : Int), CurI c.b i → 0 ≤ n → n < m → (acc.length : Int) + n ≤ M → bdL bd_Fact acc → Ok (s_l2Facts_L1 c s 20 m i h acc n) fun p => (p.1.length ≤ M ∧ bdL bd_Fact p.1) ∧ CurI c.b p.2.i
 | 0, _, _, _, _, _, _, hm, _, _ => by omega
 | m + 1, i, h, acc, n, hi, h0, hm, h4, ha => by
   unfold s_l2Facts_L1
   split
   · rename_i hn
     simp only [decide_eq_true_eq] at hn
     refine (s_l2Fact_dr (c := { b := c.b, i := i, h := h }) hs 4 (by decide) hi).bind fun r hr => ?_
     have hb : bd_Fact r.1 := bd_FactLen (by omega)
     refine Ok.eqb (s_AddFact_eq acc r.1 ha (by omega) hb) ?_
     have := pAddF_len acc r.1
     rw [wrap_in (by omega) (by omega)]
     exact s_l2Facts_L1_dr c hs hM m _ _ _ _ hr.2 (by omega) (by omega) (by omega) (bdL_addF ha (by omega) hb)
   · rename_i hn
     simp only [decide_eq_true_eq] at hn
     exact .pure ⟨⟨by (try dsimp only); omega, ha⟩, hi⟩
theorem s_l2Facts_dr {c : l1Cur} {s : List Int} (hs : SchOk s) {M : Nat} (hM : M ≤ 500) (h : CurI c.b c.i) : Ok (s_l2Facts 20 c s (M : Int)) fun p => (p.1.length ≤ M ∧ bdL bd_Fact p.1) ∧ CurI c.b p.2.i := by
 unfold s_l2Facts
 rw [wrap_in (by omega) (by omega)]
 refine (s_l1Below_dr _ h).bind fun r hr => ?_
 have := hr.1
 exact s_l2Facts_L1_dr c hs hM _ _ _ _ _ hr.2 (by omega) (by omega) (by simp; omega) bdL_nil
theorem SchOk_of {s : List Int} (h : pSchema s = true) : SchOk s := by
 simp only [pSchema, in13, Bool.and_eq_true, List.all_eq_true, decide_eq_true_eq] at h
 exact ⟨by omega, by omega, h.2⟩
theorem s_l5AnyMethod_dr {c : l1Cur} (s : List Int) (h : CurI c.b c.i) : Ok (s_l5AnyMethod 20 c s) fun p => p.1.Inputs.length ≤ 4 ∧ CurI c.b p.2.i := by
 unfold s_l5AnyMethod
 refine Ok.eqb (s_IsSchema_eq s) ?_
 have key : ∀ (m : Method) (c' : l1Cur), m.Inputs.length ≤ 3 → CurI c'.b c'.i → c'.b = c.b → Ok ((s_l1Below c' 10).bind fun r9 =>
   if ((r9.1 : Int) == 0) then (
     (s_l1PickInt ({ b := c.b, i := r9.2.i, h := r9.2.h } : l1Cur) ([(-1), 9, 10] : List Int)).bind fun r13 =>
     some (({ Rel := m.Rel, Inputs := m.Inputs, Limit := r13.1, Cost := m.Cost, Quota := m.Quota } : Method), ({ b := c.b, i := r13.2.i, h := r13.2.h } : l1Cur)))
   else (
     if ((r9.1 : Int) == 1) then (
       (s_l1Below ({ b := c.b, i := r9.2.i, h := r9.2.h } : l1Cur) 5).bind fun r16 =>
       (app m.Inputs ([(IntKind.i64.wrap (r16.1 - 1))] : List Int)).bind fun z20 =>
       some (({ Rel := m.Rel, Inputs := z20, Limit := m.Limit, Cost := m.Cost, Quota := m.Quota } : Method), ({ b := c.b, i := r16.2.i, h := r16.2.h } : l1Cur)))
     else (
       if ((r9.1 : Int) == 2) then (
         (s_l1PickInt ({ b := c.b, i := r9.2.i, h := r9.2.h } : l1Cur) ([0, 99, 100] : List Int)).bind fun r24 =>
         some (({ Rel := m.Rel, Inputs := m.Inputs, Limit := m.Limit, Cost := m.Cost, Quota := r24.1 } : Method), ({ b := c.b, i := r24.2.i, h := r24.2.h } : l1Cur)))
       else (
         if ((r9.1 : Int) == 3) then (
           (s_l1PickInt ({ b := c.b, i := r9.2.i, h := r9.2.h } : l1Cur) ([(-1), 99, 100] : List Int)).bind fun r28 =>
           some (({ Rel := m.Rel, Inputs := m.Inputs, Limit := m.Limit, Cost := r28.1, Quota := m.Quota } : Method), ({ b := c.b, i := r28.2.i, h := r28.2.h } : l1Cur)))
         else (
           some (m, ({ b := c.b, i := r9.2.i, h := r9.2.h } : l1Cur))))))) fun p => p.1.Inputs.length ≤ 4 ∧ CurI c.b p.2.i := by
   intro m c' hm hc he
   refine (s_l1Below_dr 10 hc).bind fun r9 h9 => ?_
   rw [he] at h9
   split
   · exact (s_l1PickInt_dr (c := { b := c.b, i := r9.2.i, h := r9.2.h }) _ (by decide) h9.2).bind fun r hr => .pure ⟨Nat.le_succ_of_le hm, hr.2⟩
   split
   · refine (s_l1Below_dr (c := { b := c.b, i := r9.2.i, h := r9.2.h }) 5 h9.2).bind fun r hr => ?_
     exact Ok.eqb (app1 (by omega)) (.pure ⟨by simp; omega, hr.2⟩)
   split
   · exact (s_l1PickInt_dr (c := { b := c.b, i := r9.2.i, h := r9.2.h }) _ (by decide) h9.2).bind fun r hr => .pure ⟨Nat.le_succ_of_le hm, hr.2⟩
   split
   · exact (s_l1PickInt_dr (c := { b := c.b, i := r9.2.i, h := r9.2.h }) _ (by decide) h9.2).bind fun r hr => .pure ⟨Nat.le_succ_of_le hm, hr.2⟩
   · exact .pure ⟨Nat.le_succ_of_le hm, h9.2⟩
 cases hsc : pSchema s
 · rw [if_neg (by simp)]
   exact key { Rel := 0, Inputs := [], Limit := 0, Cost := 0, Quota := 1 } c (by simp) h rfl
 · rw [if_pos rfl]
   refine (s_l5Method_dr (SchOk_of hsc) h).bind fun r6 h6 => ?_
   exact key r6.1 { b := c.b, i := r6.2.i, h := r6.2.h } h6.1 h6.2 rfl
theorem s_l2AnyFact_dr {c : l1Cur} (s : List Int) (h : CurI c.b c.i) : Ok (s_l2AnyFact 20 c s) fun p => p.1.Values.length ≤ 4 ∧ CurI c.b p.2.i := by
 unfold s_l2AnyFact
 refine Ok.eqb (s_IsSchema_eq s) ?_
 cases hsc : pSchema s
 · rw [if_neg (by simp)]
   refine (s_l1Below_dr 8 h).bind fun r9 h9 => ?_
   split
   · exact (s_l1Below_dr (c := { b := c.b, i := r9.2.i, h := r9.2.h }) 5 h9.2).bind fun r hr => .pure ⟨by simp, hr.2⟩
   split
   · refine (s_l1PickInt_dr (c := { b := c.b, i := r9.2.i, h := r9.2.h }) _ (by decide) h9.2).bind fun r hr => ?_
     exact Ok.eqb rfl (Ok.eqb rfl (.pure ⟨by simp, hr.2⟩))
   split
   · exact Ok.eqb (app1 (by decide)) (.pure ⟨by simp, h9.2⟩)
   · exact .pure ⟨by simp, h9.2⟩
 · rw [if_pos rfl]
   refine (s_l2Fact_dr (SchOk_of hsc) 10 (by decide) h).bind fun r7 h7 => ?_
   obtain ⟨v1, v2⟩ := h7.1
   refine (s_l1Below_dr (c := { b := c.b, i := r7.2.i, h := r7.2.h }) 8 h7.2).bind fun r9 h9 => ?_
   split
   · exact (s_l1Below_dr (c := { b := c.b, i := r9.2.i, h := r9.2.h }) 5 h9.2).bind fun r hr => .pure ⟨Nat.le_succ_of_le v2, hr.2⟩
   split
   · refine (s_l1PickInt_dr (c := { b := c.b, i := r9.2.i, h := r9.2.h }) _ (by decide) h9.2).bind fun r hr => ?_
     exact Ok.eqb (chk_true (by simp; omega)) (Ok.eqb rfl (.pure ⟨by simp; omega, hr.2⟩))
   split
   · exact Ok.eqb (app1 (by omega)) (.pure ⟨by simp; omega, h9.2⟩)
   · exact .pure ⟨Nat.le_succ_of_le v2, h9.2⟩
theorem s_l2AnyFacts_dr {c : l1Cur} (s : List Int) (h : CurI c.b c.i) : Ok (s_l2AnyFacts 20 c s) fun p => (p.1.length ≤ 9 ∧ bdL bd_Fact p.1) ∧ CurI c.b p.2.i := by
 unfold s_l2AnyFacts
 refine Ok.eqb (s_IsSchema_eq s) ?_
 cases hsc : pSchema s
 · rw [if_neg (by simp)]
   refine (s_l1Once_dr 10 h).bind fun r9 h9 => ?_
   split
   · refine (s_l2AnyFact_dr (c := { b := c.b, i := r9.2.i, h := r9.2.h }) s h9).bind fun r hr => ?_
     exact Ok.eqb (app1 (by decide)) (.pure ⟨⟨by simp, bd_snoc bdL_nil (by simp) (bd_FactLen (by (try dsimp only); omega))⟩, hr.2⟩)
   · exact .pure ⟨⟨by simp, bdL_nil⟩, h9⟩
 · rw [if_pos rfl]
   refine (s_l2Facts_dr (SchOk_of hsc) (M := 8) (by decide) h).bind fun r5 h5 => ?_
   refine (s_l1Once_dr (c := { b := c.b, i := r5.2.i, h := r5.2.h }) 10 h5.2).bind fun r9 h9 => ?_
   have := h5.1.1
   split
   · refine (s_l2AnyFact_dr (c := { b := c.b, i := r9.2.i, h := r9.2.h }) s h9).bind fun r hr => ?_
     exact Ok.eqb (app1 (by omega)) (.pure ⟨⟨by simp; omega, bd_snoc h5.1.2 (by (try dsimp only); omega) (bd_FactLen (by (try dsimp only); omega))⟩, hr.2⟩)
   · exact .pure ⟨⟨by (try dsimp only); omega, h5.1.2⟩, h9⟩
theorem s_l2AnySchema_dr {c : l1Cur} (h : CurI c.b c.i) : Ok (s_l2AnySchema c) fun p => p.1.length ≤ 4 ∧ CurI c.b p.2.i := by
 refine (s_l2Schema_dr h).bind fun r1 h1 => ?_
 have := h1.1.2.1
 refine (s_l1Once_dr (c := { b := c.b, i := r1.2.i, h := r1.2.h }) 14 h1.2).bind fun r4 h4 => ?_
 split
 · refine (s_l1PickInt_dr (c := { b := c.b, i := r4.2.i, h := r4.2.h }) _ (by decide) h4).bind fun r hr => ?_
   exact Ok.eqb (app1 (by omega)) (.pure ⟨by simp; omega, hr.2⟩)
 · exact .pure ⟨by (try dsimp only); omega, h4⟩
theorem pIntsEq_tt : ∀ {a b : List Int}, pIntsEq a b = true ↔ a = b
 | [], [] => by simp [pIntsEq, eqF]
 | [], _ :: _ => by simp [pIntsEq, eqF]
 | _ :: _, [] => by simp [pIntsEq, eqF]
 | x :: a, y :: b => by
   have h := pIntsEq_tt (a := a) (b := b)
   simp only [pIntsEq] at h
   simp [pIntsEq, eqF, h]
theorem pSameAccess_tt {a b : Access} : pSameAccess a b = true ↔ a = b := by
 cases a; cases b; simp [pSameAccess, pIntsEq_tt]
theorem pLogd_tt {log : List Access} {a : Access} : pLogd log a = true ↔ a ∈ log := by
 simp [pLogd, List.any_eq_true, pSameAccess_tt]
theorem pOpen_iff {vs : List Int} {log : List Access} {a : Access} : ∀ {l : List Method} {k : Nat}, a ∈ pOpen vs log l k ↔ ∃ (j : Nat) (m : Method), l[j]? = some m ∧ m.Limit = 0 ∧ a.Method = ((k + j : Nat) : Int) ∧ a.Values ∈ pLists vs m.Inputs.length ∧ a ∉ log
 | [], k => by simp [pOpen]
 | m :: l, k => by
   rw [pOpen, List.mem_append, pOpen_iff]
   constructor
   · rintro (h | ⟨j, x, h1, h2, h3, h4, h5⟩)
     · unfold pOpenM at h
       split at h
       · simp at h
       · rename_i hm
         obtain ⟨v, hv, rfl⟩ := List.mem_map.1 h
         obtain ⟨h1, h2⟩ := List.mem_filter.1 hv
         refine ⟨0, m, rfl, by simpa using hm, rfl, h1, fun h => ?_⟩
         rw [pLogd_tt.2 h] at h2; simp at h2
     · exact ⟨j + 1, x, by simpa using h1, h2, by rw [h3]; congr 1; omega, h4, h5⟩
   · rintro ⟨j, x, h1, h2, h3, h4, h5⟩
     cases j with
     | zero =>
       left
       simp only [List.getElem?_cons_zero, Option.some.injEq] at h1
       subst h1
       unfold pOpenM
       rw [if_neg (by simp [h2])]
       have e : ({ Method := (k : Int), Values := a.Values } : Access) = a := by cases a; simp at h3 ⊢; exact h3.symm
       refine List.mem_map.2 ⟨a.Values, List.mem_filter.2 ⟨h4, ?_⟩, e⟩
       rw [e]
       cases hb : pLogd log a
       · rfl
       · exact absurd (pLogd_tt.1 hb) h5
     | succ j => exact .inr ⟨j, x, by simpa using h1, h2, by rw [h3]; congr 1; omega, h4, h5⟩
theorem pLists_nd {v : List Int} (h : v.Nodup) : ∀ n, (pLists v n).Nodup
 | 0 => by simp [pLists]
 | n + 1 => by
   rw [pLists]
   unfold List.Nodup
   rw [List.pairwise_flatMap]
   refine ⟨fun a _ => ?_, ?_⟩
   · rw [List.pairwise_map]
     exact h.imp fun hn e => hn (by simpa using e)
   · refine (pLists_nd h n).imp fun hn x hx y hy e => hn ?_
     obtain ⟨p, -, rfl⟩ := List.mem_map.1 hx
     obtain ⟨q, -, rfl⟩ := List.mem_map.1 hy
     exact (List.append_inj' e rfl).1
theorem pOpen_nd {vs : List Int} {log : List Access} (h : vs.Nodup) : ∀ {l : List Method} {k : Nat}, (pOpen vs log l k).Nodup
 | [], _ => by simp [pOpen]
 | m :: l, k => by
   rw [pOpen]
   unfold List.Nodup
   rw [List.pairwise_append]
   refine ⟨?_, pOpen_nd h, fun a ha b hb e => ?_⟩
   · unfold pOpenM
     split
     · simp
     · rw [List.pairwise_map]
       exact ((pLists_nd h _).filter _).imp fun hn e => hn (by simpa using e)
   · subst e
     obtain ⟨j, x, -, -, h3, -⟩ := pOpen_iff.1 hb
     unfold pOpenM at ha
     split at ha
     · simp at ha
     · obtain ⟨v, -, rfl⟩ := List.mem_map.1 ha
       simp at h3
       omega
theorem tellF_mem {l : List Method} {facts : List Fact} {y : Fact} : ∀ {o : List Access} {fs : List Fact}, y ∈ o.foldl (pTellF l facts) fs ↔ y ∈ fs ∨ ∃ a ∈ o, y ∈ pGot l facts a
 | [], _ => by simp
 | a :: o, fs => by
   rw [List.foldl_cons, tellF_mem, pTellF, addFs_mem]
   simp only [List.mem_cons, exists_eq_or_imp, or_assoc]
theorem putss_mem {v : Int} : ∀ {g : List Fact} {vs : List Int}, v ∈ g.foldl pPuts vs ↔ v ∈ vs ∨ ∃ f ∈ g, v ∈ f.Values
 | [], _ => by simp
 | x :: g, vs => by
   rw [List.foldl_cons, putss_mem, pPuts, puts_mem]
   simp only [List.mem_cons, exists_eq_or_imp, or_assoc]
theorem tellV_mem {l : List Method} {facts : List Fact} {v : Int} : ∀ {o : List Access} {vs : List Int}, v ∈ o.foldl (pTellV l facts) vs ↔ v ∈ vs ∨ ∃ a ∈ o, ∃ f ∈ pGot l facts a, v ∈ f.Values
 | [], _ => by simp
 | a :: o, vs => by
   rw [List.foldl_cons, tellV_mem, pTellV, putss_mem]
   simp only [List.mem_cons, exists_eq_or_imp, or_assoc]
structure CInv (l : List Method) (facts : List Fact) (r : Reached) : Prop where
 nd : r.Log.Nodup
 fx : ∀ f, f ∈ r.Facts ↔ ∃ a ∈ r.Log, f ∈ pGot l facts a
 fv : ∀ f ∈ r.Facts, ∀ v ∈ f.Values, v ∈ r.Values
theorem asc_nd {v : List Int} (h : v.Pairwise (· < ·)) : v.Nodup := h.imp fun h e => by omega
theorem pTold_cinv {l : List Method} {facts : List Fact} {r : Reached} (ha : r.Values.Pairwise (· < ·)) (h : CInv l facts r) : CInv l facts (pTold l facts r) := by
 have hx : ∀ f, f ∈ (pTold l facts r).Facts ↔ ∃ a ∈ (pTold l facts r).Log, f ∈ pGot l facts a := fun f => by
   show f ∈ List.foldl _ _ _ ↔ ∃ a ∈ r.Log ++ _, _
   rw [tellF_mem, h.fx f]
   simp only [List.mem_append]
   constructor
   · rintro (⟨a, h1, h2⟩ | ⟨a, h1, h2⟩)
     · exact ⟨a, .inl h1, h2⟩
     · exact ⟨a, .inr h1, h2⟩
   · rintro ⟨a, h1 | h1, h2⟩
     · exact .inl ⟨a, h1, h2⟩
     · exact .inr ⟨a, h1, h2⟩
 refine ⟨?_, hx, fun f hf v hv => ?_⟩
 · show (r.Log ++ _).Nodup
   rw [List.nodup_append]
   refine ⟨h.nd, pOpen_nd (asc_nd ha), fun a h1 b h2 e => ?_⟩
   subst e
   obtain ⟨j, m, -, -, -, -, h5⟩ := pOpen_iff.1 h2
   exact h5 h1
 · show v ∈ List.foldl _ _ _
   rw [tellV_mem]
   have hf' : f ∈ List.foldl (pTellF l facts) r.Facts (pOpen r.Values r.Log l 0) := hf
   rw [tellF_mem] at hf'
   rcases hf' with h1 | ⟨a, h1, h2⟩
   · exact .inl (h.fv f h1 v hv)
   · exact .inr ⟨a, h1, f, h2, hv⟩
theorem pStart_cinv (l : List Method) (facts : List Fact) (seeds : List Int) : CInv l facts (pStart seeds) := ⟨by simp [pStart], by simp [pStart], by simp [pStart]⟩
theorem pReach_cinv {s : List Int} {l : List Method} {facts : List Fact} (hl : pMethods s l = true) (hf : pFacts s facts = true) : ∀ (n i : Nat) (r : Reached), RInv s l facts i r → CInv l facts r → CInv l facts (pReach l facts n r)
 | 0, _, _, _, h => h
 | n + 1, i, r, hi, h => by
   unfold pReach
   split
   · exact h
   · rename_i ho
     exact pReach_cinv hl hf n _ _ (pTold_inv hl hf hi ho) (pTold_cinv hi.asc h)
theorem pReach_log {l : List Method} {facts : List Fact} {a : Access} : ∀ (n : Nat) (r : Reached), a ∈ r.Log → a ∈ (pReach l facts n r).Log
 | 0, _, h => h
 | n + 1, r, h => by
   unfold pReach
   split
   · exact h
   · exact pReach_log n _ (List.mem_append_left _ h)
theorem fold_congr {α β : Type} {f g : β → α → β} : ∀ {o : List α}, (∀ a ∈ o, ∀ b, f b a = g b a) → ∀ b, o.foldl f b = o.foldl g b
 | [], _, _ => rfl
 | a :: o, h, b => by rw [List.foldl_cons, List.foldl_cons, h a (by simp), fold_congr fun x hx => h x (by simp [hx])]
theorem pReach_same {l : List Method} {facts F : List Fact} : ∀ (n : Nat) (r : Reached), (∀ a ∈ (pReach l facts n r).Log, pGot l F a = pGot l facts a) → pReach l F n r = pReach l facts n r
 | 0, _, _ => rfl
 | n + 1, r, h => by
   unfold pReach at h ⊢
   split
   · rfl
   · rename_i ho
     rw [if_neg ho] at h
     have ht : pTold l F r = pTold l facts r := by
       have hg : ∀ a ∈ pOpen r.Values r.Log l 0, pGot l F a = pGot l facts a := fun a ha => h a (pReach_log n _ (List.mem_append_right _ ha))
       unfold pTold
       show (Reached.mk _ _ _ _) = Reached.mk _ _ _ _
       rw [fold_congr (f := pTellF l F) (g := pTellF l facts) (fun a ha b => by rw [pTellF, pTellF, hg a ha]), fold_congr (f := pTellV l F) (g := pTellV l facts) (fun a ha b => by rw [pTellV, pTellV, hg a ha])]
     rw [ht]
     exact pReach_same n _ h
theorem pw_filter {p : Fact → Bool} {a : List Fact} (h : a.Pairwise fLt) : (a.filter p).Pairwise fLt := h.filter _
theorem pReach_own {s : List Int} {l : List Method} {facts : List Fact} (hl : pMethods s l = true) (hf : pFacts s facts = true) (seeds : List Int) : pReach l (pReach l facts 40 (pStart seeds)).Facts 40 (pStart seeds) = pReach l facts 40 (pStart seeds) := by
 obtain ⟨j, -, hi⟩ := pReach_inv hl hf 40 0 _ (pStart_inv s l facts seeds)
 have hc := pReach_cinv hl hf 40 0 _ (pStart_inv s l facts seeds) (pStart_cinv l facts seeds)
 refine pReach_same 40 _ fun a ha => fs_ext (pw_filter hi.pw) (pw_filter (pFacts_iff.1 hf).2.1) fun x => ?_
 unfold pGot
 rw [List.mem_filter, List.mem_filter]
 exact ⟨fun ⟨h1, h2⟩ => ⟨hi.sub x h1, h2⟩, fun ⟨h1, h2⟩ => ⟨(hc.fx x).2 ⟨a, ha, List.mem_filter.2 ⟨h1, h2⟩⟩, h2⟩⟩
theorem eqF_iff {α : Type} {p : α → α → Bool} (h : ∀ x y, p x y = true ↔ x = y) : ∀ {a b : List α}, eqF p a b = true ↔ a = b
 | [], [] => by simp [eqF]
 | [], _ :: _ => by simp [eqF]
 | _ :: _, [] => by simp [eqF]
 | x :: a, y :: b => by simp [eqF, h, eqF_iff h (a := a) (b := b)]
theorem l_sameInts_eq (a b : List Int) : l_sameInts a b = some (pIntsEq a b) :=
 eqf_fun (L := l_sameInts_L1) (f := fun x y => some (x == y)) (fun _ _ => rfl) (fun _ _ => rfl) (fun b x r k y h => by rw [l_sameInts_L1, ix_nat, h]; rfl) a b (fun _ _ _ _ => rfl)
def StOk (r : Reached) : Prop := bdL bd_Fact r.Facts ∧ r.Values.length < 4294967296 ∧ bdL bd_Access r.Log
theorem RInv_st {s : List Int} {l : List Method} {facts : List Fact} {n : Nat} {r : Reached} (hf : pFacts s facts = true) (h : RInv s l facts n r) (hn : n ≤ 100) : StOk r := by
 have h1 := pw_facts hf h.pw h.sub
 have h2 := VOk_len ⟨h.asc, h.vals⟩
 have h3 := (pFacts_iff.1 h1).2.2.2
 exact ⟨bdL_Facts (pFacts_all h1) (by omega), by omega, RInv_log h hn⟩
theorem pHasT_mem2 {l : List (List Int)} {t : List Int} : pHasT l t = true ↔ t ∈ l := by
 simp only [pHasT, List.any_eq_true, pIntsEq_iff, decide_eq_true_eq]
 constructor
 · rintro ⟨x, h, rfl⟩; exact h
 · intro h; exact ⟨t, h, rfl⟩
def tLt (a b : List Int) : Prop := cmpL a b < 0
theorem pInsT_iff {f y : List Int} : ∀ {l : List (List Int)}, y ∈ pInsT f l ↔ y = f ∨ y ∈ l
 | [] => by simp [pInsT]
 | x :: l => by
   unfold pInsT
   split
   · simp
   · rw [List.mem_cons, pInsT_iff, List.mem_cons]
     constructor <;> rintro (h | h | h) <;> simp [h]
theorem pInsT_pw {f : List Int} : ∀ {l : List (List Int)}, l.Pairwise tLt → f ∉ l → (pInsT f l).Pairwise tLt
 | [], _, _ => by simp [pInsT]
 | x :: l, h, hn => by
   unfold pInsT
   rw [List.mem_cons, not_or] at hn
   rw [List.pairwise_cons] at h
   split
   · rename_i hx
     have hx' := cmpL_swap.1 hx
     rw [List.pairwise_cons, List.pairwise_cons]
     refine ⟨fun a ha => ?_, h⟩
     rcases List.mem_cons.1 ha with rfl | ha
     · exact hx'
     · exact cmpL_trans hx' (h.1 a ha)
   · rename_i hx
     rw [List.pairwise_cons]
     refine ⟨fun a ha => ?_, pInsT_pw h.2 hn.2⟩
     rcases pInsT_iff.1 ha with rfl | ha
     · have : cmpL x a ≠ 0 := fun e => hn.1 (cmpL_zero.1 e).symm
       show cmpL x a < 0
       omega
     · exact h.1 a ha
theorem pAddT_pw {l : List (List Int)} {t : List Int} (h : l.Pairwise tLt) : (pAddT l t).Pairwise tLt := by
 unfold pAddT
 split
 · exact h
 · rename_i hn; exact pInsT_pw h fun hm => hn (pHasT_mem2.2 hm)
theorem pAddT_iff {l : List (List Int)} {t y : List Int} : y ∈ pAddT l t ↔ y = t ∨ y ∈ l := by
 unfold pAddT
 split
 · rename_i h
   have := pHasT_mem2.1 h
   constructor
   · exact .inr
   · rintro (rfl | h)
     · exact this
     · exact h
 · exact pInsT_iff
def TOk (t : Int) : Prop := (0 ≤ t ∧ t ≤ 3) ∨ (10 ≤ t ∧ t ≤ 13) ∨ t = -1 ∨ t = 9 ∨ t = 15 ∨ t = 17 ∨ t = 18
def AtOk (a : Atom) : Prop := 1 ≤ a.Terms.length ∧ a.Terms.length ≤ 3 ∧ ∀ t ∈ a.Terms, TOk t
def QuOk (M : Nat) (q : Query) : Prop := 1 ≤ q.Atoms.length ∧ q.Atoms.length ≤ M ∧ (∀ a ∈ q.Atoms, AtOk a) ∧ q.Head.length ≤ 3
theorem QuOk.tms {M : Nat} {q : Query} (h : QuOk M q) (hM : M ≤ 1000) : tmsN q.Atoms < 4294967295 := by
 have := tmsN_le (l := q.Atoms) fun a ha => (h.2.2.1 a ha).2.1
 have := h.2.1
 omega
theorem QuOk.weak {M N : Nat} {q : Query} (h : QuOk M q) (hM : M ≤ N) : QuOk N q := ⟨h.1, Nat.le_trans h.2.1 hM, h.2.2⟩
theorem mem_snoc {α : Type} {P : α → Prop} {l : List α} {x : α} (h : ∀ y ∈ l, P y) (hx : P x) : ∀ y ∈ l ++ [x], P y := fun y hy => by
 rcases List.mem_append.1 hy with hy | hy
 · exact h y hy
 · rw [List.mem_singleton] at hy; exact hy ▸ hx
theorem s_l3Query_L3_dr (c : l1Cur) (s : List Int) (A : List Atom) (r2 : Int × l1Cur) {x : Int} (hx : ix s r2.1 = some x) (hx1 : 1 ≤ x) (hx3 : x ≤ 3) (hA : A.length ≤ 10) : ∀ (m : Nat) (i h : Int) (acc : List Int) (k : Int), CurI c.b i → 0 ≤ k → k ≤ 3 → k ≤ x → 3 - k < m → (acc.length : Int) = k → (∀ t ∈ acc, TOk t) → Ok (s_l3Query_L3 c s A r2 m i h acc k) fun p => CurI c.b p.1 ∧ ∃ a, p.2.2 = A ++ [a] ∧ AtOk a
 | 0, _, _, _, _, _, _, hm, _, _, _, _ => by omega
 | m + 1, i, h, acc, k, hi, h0, h3, hkx, hm, ha, hT => by
   unfold s_l3Query_L3
   refine Ok.eqb hx ?_
   split
   · rename_i hn
     simp only [decide_eq_true_eq] at hn
     refine Ok.bind (P := fun o => CurI c.b o.1 ∧ ∃ t, o.2.2 = acc ++ [t] ∧ TOk t) ?_ ?_
     · refine (s_l1Below_dr (c := { b := c.b, i := i, h := h }) 4 hi).bind fun r hr => ?_
       refine (s_l1Once_dr (c := { b := c.b, i := r.2.i, h := r.2.h }) 4 hr.2).bind fun q hq => ?_
       have hr1 := hr.1
       split
       · refine (s_l1Below_dr (c := { b := c.b, i := q.2.i, h := q.2.h }) 4 hq).bind fun r2 hr2 => ?_
         have hr3 := hr2.1
         exact Ok.eqb (app1 (by omega)) (.pure ⟨hr2.2, _, rfl, .inl (by (try dsimp only); omega)⟩)
       · refine Ok.eqb (app1 (by omega)) (.pure ⟨hq, _, rfl, .inr (.inl ?_)⟩)
         rw [wrap_in (by omega) (by omega)]; omega
     · rintro ⟨i', h', acc'⟩ ⟨o1, t, o2, o3⟩
       obtain rfl : acc' = acc ++ [t] := o2
       dsimp only
       rw [wrap_in (by omega) (by omega)]
       exact s_l3Query_L3_dr c s A r2 hx hx1 hx3 hA m i' h' _ _ o1 (by omega) (by omega) (by omega) (by omega) (by simp; omega) (mem_snoc hT o3)
   · rename_i hn
     simp only [decide_eq_true_eq] at hn
     exact Ok.eqb (app1 (by omega)) (.pure ⟨hi, _, rfl, by show 1 ≤ acc.length; omega, by show acc.length ≤ 3; omega, hT⟩)
theorem s_l3Query_L4_dr (c : l1Cur) (A : List Atom) (V : List Int) (hV : V.length ≤ 1000) : ∀ (m : Nat) (i h : Int) (acc : List Int) (k : Nat), CurI c.b i → k ≤ V.length → V.length - k < m → acc.length ≤ 2 → Ok (s_l3Query_L4 c A m i h acc V (k : Int)) fun p => (p.1.Atoms = A ∧ p.1.Head.length ≤ 2) ∧ CurI c.b p.2.i
 | 0, _, _, _, _, _, _, hm, _ => by omega
 | m + 1, i, h, acc, k, hi, hk, hm, ha => by
   unfold s_l3Query_L4
   split
   · rename_i hn
     simp only [Bool.and_eq_true, decide_eq_true_eq] at hn
     have hk' : k < V.length := by omega
     refine Ok.bind (P := fun o => CurI c.b o.1 ∧ o.2.2.length ≤ acc.length + 1) ?_ ?_
     · refine (s_l1Once_dr (c := { b := c.b, i := i, h := h }) 2 hi).bind fun q hq => ?_
       split
       · refine Ok.eqb (a := V[k]) (by rw [ix_nat, List.getElem?_eq_getElem hk']) ?_
         exact Ok.eqb (app1 (by omega)) (.pure ⟨hq, by simp⟩)
       · exact .pure ⟨hq, by simp⟩
     · rintro ⟨i', h', acc'⟩ ⟨o1, o2⟩
       dsimp only at o1 o2 ⊢
       rw [show IntKind.i64.wrap ((k : Int) + 1) = ((k + 1 : Nat) : Int) from by rw [wrap_in (by omega) (by omega)]; rfl]
       exact s_l3Query_L4_dr c A V hV m i' h' acc' (k + 1) o1 hk' (by omega) (by omega)
   · exact .pure ⟨⟨rfl, ha⟩, hi⟩
theorem s_l3Query_L1_dr (c : l1Cur) {s : List Int} (hs : SchOk s) : ∀ (m : Nat) (i h : Int) (A : List Atom) (n : Int), CurI c.b i → 0 ≤ n → n < m → (A.length : Int) + n ≤ 3 → 1 ≤ (A.length : Int) + n → (∀ a ∈ A, AtOk a) → Ok (s_l3Query_L1 c s 20 m i h A n) fun p => (QuOk 3 p.1 ∧ p.1.Head.length ≤ 2) ∧ CurI c.b p.2.i
 | 0, _, _, _, _, _, _, hm, _, _, _ => by omega
 | m + 1, i, h, A, n, hi, h0, hm, h3, h1, hA => by
   unfold s_l3Query_L1
   split
   · rename_i hn
     simp only [decide_eq_true_eq] at hn
     refine Ok.bind (P := fun o => CurI c.b o.1 ∧ ∃ a, o.2.2 = A ++ [a] ∧ AtOk a) ?_ ?_
     · refine (s_l1Below_dr (c := { b := c.b, i := i, h := h }) (s.length : Int) hi).bind fun r hr => ?_
       have hr1 := hr.1
       have hs1 := hs.1
       obtain ⟨x, e, x1, x3⟩ := sch_ix hs (r := r.1) (by omega) (by omega)
       exact s_l3Query_L3_dr c s A r e x1 x3 (by omega) _ _ _ _ _ hr.2 (by omega) (by omega) (by omega) (by decide) (by simp) (by simp)
     · rintro ⟨i', h', A'⟩ ⟨o1, a, o2, o3⟩
       obtain rfl : A' = A ++ [a] := o2
       dsimp only
       rw [wrap_in (by omega) (by omega)]
       exact s_l3Query_L1_dr c hs m i' h' _ _ o1 (by omega) (by omega) (by simp; omega) (by simp; omega) (mem_snoc hA o3)
   · rename_i hn
     simp only [decide_eq_true_eq] at hn
     have ht := tmsN_le (l := A) fun a ha => (hA a ha).2.1
     refine Ok.eqb (s_VarsOf_eq _ (by show tmsN A < _; omega)) ?_
     have hl := pTermsP_len (p := pIn 10 17) (l := A)
     refine (s_l3Query_L4_dr c A _ (by show (pTermsP (pIn 10 17) A).length ≤ 1000; omega) _ _ _ _ 0 hi (by omega) (by (try dsimp only); omega) (by simp)).weak fun p hp => ⟨⟨⟨by rw [hp.1.1]; omega, by rw [hp.1.1]; omega, by rw [hp.1.1]; exact hA, by have := hp.1.2; omega⟩, hp.1.2⟩, hp.2⟩
theorem s_l3Query_dr {c : l1Cur} {s : List Int} (hs : SchOk s) (h : CurI c.b c.i) : Ok (s_l3Query 20 c s) fun p => (QuOk 3 p.1 ∧ p.1.Head.length ≤ 2) ∧ CurI c.b p.2.i := by
 refine (s_l1Below_dr 3 h).bind fun r hr => ?_
 have := hr.1
 rw [wrap_in (by omega) (by omega)]
 exact s_l3Query_L1_dr c hs _ _ _ _ _ hr.2 (by omega) (by omega) (by simp; omega) (by simp; omega) (by simp)
theorem AtOk.set {a : Atom} {t r : Int} (h : AtOk a) (ht : TOk t) : AtOk { Rel := r, Terms := a.Terms.set (0 : Int).toNat t } := ⟨by simpa using h.1, by simpa using h.2.1, fun y hy => by
 rcases List.mem_or_eq_of_mem_set hy with hy | rfl
 · exact h.2.2 y hy
 · exact ht⟩
theorem QuOk.set {M : Nat} {q : Query} {a : Atom} (h : QuOk M q) (ha : AtOk a) : QuOk M { Head := q.Head, Atoms := q.Atoms.set (0 : Int).toNat a } := ⟨by simpa using h.1, by simpa using h.2.1, fun y hy => by
 rcases List.mem_or_eq_of_mem_set hy with hy | rfl
 · exact h.2.2.1 y hy
 · exact ha, h.2.2.2⟩
theorem qu_at {M : Nat} {q : Query} (h : QuOk M q) : ∃ a, ix q.Atoms 0 = some a ∧ AtOk a := by
 have h1 : 0 < q.Atoms.length := h.1
 exact ⟨q.Atoms[0], by rw [show (0 : Int) = ((0 : Nat) : Int) from rfl, ix_nat, List.getElem?_eq_getElem h1], h.2.2.1 _ (List.getElem_mem h1)⟩
theorem s_l3Any_dr {c : l1Cur} (s : List Int) (h : CurI c.b c.i) : Ok (s_l3Any 20 c s) fun p => QuOk 3 p.1 ∧ CurI c.b p.2.i := by
 unfold s_l3Any
 refine Ok.eqb (s_IsSchema_eq s) ?_
 have key : ∀ (q : Query) (c' : l1Cur), QuOk 3 q → q.Head.length ≤ 2 → CurI c'.b c'.i → c'.b = c.b → Ok ((s_l1Below c' 14).bind fun r11 =>
   if ((r11.1 : Int) == 0) then (
     (s_l1PickInt ({ b := c.b, i := r11.2.i, h := r11.2.h } : l1Cur) ([17, 18, 3, (-1)] : List Int)).bind fun r15 =>
     (app q.Head ([r15.1] : List Int)).bind fun z19 =>
     some (({ Head := z19, Atoms := q.Atoms } : Query), ({ b := c.b, i := r15.2.i, h := r15.2.h } : l1Cur)))
   else (
     if ((r11.1 : Int) == 1) then (
       (ix q.Atoms 0).bind fun x22 =>
       (s_l1PickInt ({ b := c.b, i := r11.2.i, h := r11.2.h } : l1Cur) ([(-1), 9, 17, 18] : List Int)).bind fun r37 =>
       (chk (decide (0 ≤ 0) && decide (0 < (x22.Terms.length : Int)))).bind fun u43 =>
       (some (x22.Terms.set (0 : Int).toNat r37.1)).bind fun z45 =>
       (some (q.Atoms.set (0 : Int).toNat ({ Rel := x22.Rel, Terms := z45 } : Atom))).bind fun z48 =>
       some (({ Head := q.Head, Atoms := z48 } : Query), ({ b := c.b, i := r37.2.i, h := r37.2.h } : l1Cur)))
     else (
       if ((r11.1 : Int) == 2) then (
         (s_l1Below ({ b := c.b, i := r11.2.i, h := r11.2.h } : l1Cur) 5).bind fun r50 =>
         (ix q.Atoms 0).bind fun x56 =>
         (some (q.Atoms.set (0 : Int).toNat { x56 with Rel := (IntKind.i64.wrap (r50.1 - 1)) })).bind fun z60 =>
         some (({ Head := q.Head, Atoms := z60 } : Query), ({ b := c.b, i := r50.2.i, h := r50.2.h } : l1Cur)))
       else (
         some (q, ({ b := c.b, i := r11.2.i, h := r11.2.h } : l1Cur)))))) fun p => QuOk 3 p.1 ∧ CurI c.b p.2.i := by
   intro q c' hq hh hc he
   refine (s_l1Below_dr 14 hc).bind fun r9 h9 => ?_
   rw [he] at h9
   obtain ⟨a, ea, ha⟩ := qu_at hq
   split
   · refine (s_l1PickInt_dr (c := { b := c.b, i := r9.2.i, h := r9.2.h }) _ (by decide) h9.2).bind fun r hr => ?_
     exact Ok.eqb (app1 (by omega)) (.pure ⟨⟨hq.1, hq.2.1, hq.2.2.1, by simp; omega⟩, hr.2⟩)
   split
   · refine Ok.eqb ea ?_
     refine (s_l1PickInt_dr (c := { b := c.b, i := r9.2.i, h := r9.2.h }) _ (by decide) h9.2).bind fun r hr => ?_
     have h1 := ha.1
     refine Ok.eqb (chk_true (by simp; omega)) (Ok.eqb rfl (Ok.eqb rfl (.pure ⟨hq.set (ha.set ?_), hr.2⟩)))
     have h2 := hr.1
     simp only [List.mem_cons, List.not_mem_nil, or_false] at h2
     unfold TOk; omega
   split
   · refine (s_l1Below_dr (c := { b := c.b, i := r9.2.i, h := r9.2.h }) 5 h9.2).bind fun r hr => ?_
     exact Ok.eqb ea (Ok.eqb rfl (.pure ⟨hq.set (a := { a with Rel := _ }) ha, hr.2⟩))
   · exact .pure ⟨hq, h9.2⟩
 cases hsc : pSchema s
 · rw [if_neg (by simp)]
   exact key { Head := [], Atoms := [{ Rel := 0, Terms := [10] }] } c ⟨by simp, by simp, fun a ha => by
     simp only [List.mem_singleton] at ha; subst ha
     exact ⟨by simp, by simp, fun t ht => by simp only [List.mem_singleton] at ht; subst ht; unfold TOk; omega⟩, by simp⟩ (by simp) h rfl
 · rw [if_pos rfl]
   refine (s_l3Query_dr (SchOk_of hsc) h).bind fun r6 h6 => ?_
   exact key r6.1 { b := c.b, i := r6.2.i, h := r6.2.h } h6.1.1 h6.1.2 h6.2 rfl
theorem s_l9Rich_dr {c : l1Cur} {s : List Int} (hs : SchOk s) (h : CurI c.b c.i) : Ok (s_l9Rich 20 c s) fun p => QuOk 4 p.1 ∧ CurI c.b p.2.i := by
 refine (s_l3Query_dr hs h).bind fun r2 h2 => ?_
 obtain ⟨⟨hq, hh⟩, hi⟩ := h2
 refine Ok.bind (P := fun o => CurI c.b o.1) ?_ ?_
 · cases decide ((r2.1.Atoms.length : Int) < 4)
   · exact .pure hi
   · exact (s_l1Once_dr (c := { b := c.b, i := r2.2.i, h := r2.2.h }) 2 hi).bind fun q hq => .pure hq
 · rintro ⟨i', h', b⟩ o1
   dsimp only at o1 ⊢
   split
   · obtain ⟨a, ea, ha⟩ := qu_at hq
     have h1 := ha.1
     have h2 := ha.2.1
     have h3 := hq.2.1
     refine Ok.eqb ea (Ok.eqb (s_l3Atom_eq _ _ (by omega)) (Ok.eqb (chk_true (by simp; omega)) (Ok.eqb rfl (Ok.eqb (app1 (by omega)) (.pure ⟨⟨by simp, by simp; omega, mem_snoc hq.2.2.1 (ha.set (by unfold TOk; omega)), hq.2.2.2⟩, o1⟩)))))
   · exact .pure ⟨hq.weak (by decide), o1⟩
def MlOk (l : List Method) : Prop := l.length ≤ 5 ∧ bdL bd_Method l
theorem s_l6Draw_dr {c : l1Cur} (h : CurI c.b c.i) : Ok (s_l6Draw 20 c) fun p => (p.1.length ≤ 4 ∧ MlOk p.2.1 ∧ QuOk 3 p.2.2.1) ∧ CurI c.b p.2.2.2.i := by
 refine (s_l2Schema_dr h).bind fun r2 h2 => ?_
 have hs := h2.1.2.1
 refine (s_l5Methods_dr (c := { b := c.b, i := r2.2.i, h := r2.2.h }) h2.1 h2.2).bind fun r5 h5 => ?_
 have hm := h5.1.1
 refine (s_l3Query_dr (c := { b := c.b, i := r5.2.i, h := r5.2.h }) h2.1 h5.2).bind fun r8 h8 => ?_
 refine (s_l1Below_dr (c := { b := c.b, i := r8.2.i, h := r8.2.h }) 20 h8.2).bind fun r9 h9 => ?_
 split
 · refine (s_l5AnyMethod_dr (c := { b := c.b, i := r9.2.i, h := r9.2.h }) r2.1 h9.2).bind fun r hr => ?_
   exact Ok.eqb (app1 (by omega)) (.pure ⟨⟨by (try dsimp only); omega, ⟨by simp; omega, bd_snoc h5.1.2 (by omega) (bd_MethodOf (by omega))⟩, h8.1.1⟩, hr.2⟩)
 split
 · exact (s_l3Any_dr (c := { b := c.b, i := r9.2.i, h := r9.2.h }) r2.1 h9.2).bind fun r hr => .pure ⟨⟨by (try dsimp only); omega, ⟨by (try dsimp only); omega, h5.1.2⟩, hr.1⟩, hr.2⟩
 split
 · exact (s_l2AnySchema_dr (c := { b := c.b, i := r9.2.i, h := r9.2.h }) h9.2).bind fun r hr => .pure ⟨⟨hr.1, ⟨by (try dsimp only); omega, h5.1.2⟩, h8.1.1⟩, hr.2⟩
 · exact .pure ⟨⟨by (try dsimp only); omega, ⟨by (try dsimp only); omega, h5.1.2⟩, h8.1.1⟩, h9.2⟩
theorem s_l10Draw_dr {c : l1Cur} (h : CurI c.b c.i) : Ok (s_l10Draw 20 c) fun p => (p.1.length ≤ 4 ∧ MlOk p.2.1 ∧ QuOk 4 p.2.2.1) ∧ CurI c.b p.2.2.2.i := by
 refine (s_l6Draw_dr h).bind fun r2 h2 => ?_
 obtain ⟨⟨d1, d2, d3⟩, hi⟩ := h2
 refine Ok.bind (P := fun o => CurI c.b o.1 ∧ (o.2.2 = true → SchOk r2.1)) ?_ ?_
 · refine Ok.eqb (s_IsSchema_eq r2.1) ?_
   cases hsc : pSchema r2.1
   · exact .pure ⟨hi, by simp⟩
   · exact (s_l1Once_dr (c := { b := c.b, i := r2.2.2.2.i, h := r2.2.2.2.h }) 3 hi).bind fun q hq => .pure ⟨hq, fun _ => SchOk_of hsc⟩
 · rintro ⟨i', h', b⟩ ⟨o1, o2⟩
   dsimp only at o1 o2 ⊢
   split
   · rename_i hb
     exact (s_l9Rich_dr (c := { b := c.b, i := i', h := h' }) (o2 hb) o1).bind fun r hr => .pure ⟨⟨d1, d2, hr.1⟩, hr.2⟩
   · exact .pure ⟨⟨d1, d2, d3.weak (by decide)⟩, o1⟩
def FaOk (s : List Int) (l : List Method) (q : Query) (facts : List Fact) : Prop := s.length ≤ 4 ∧ MlOk l ∧ QuOk 4 q ∧ facts.length ≤ 9 ∧ bdL bd_Fact facts
theorem s_DrawFeasibleAnswers_dr (code : List UInt8) (hc : code.length ≤ 1048576) : Ok (s_DrawFeasibleAnswers 20 code) fun p => FaOk p.1 p.2.1 p.2.2.1 p.2.2.2 := by
 refine (s_l1New_dr code hc).bind fun r2 h2 => ?_
 have h2' : CurI r2.b r2.i := by rw [h2.1]; exact h2.2
 refine (s_l10Draw_dr h2').bind fun r5 h5 => ?_
 exact (s_l2AnyFacts_dr (c := { b := r2.b, i := r5.2.2.2.i, h := r5.2.2.2.h }) r5.1 h5.2).bind fun r9 h9 => .pure ⟨h5.1.1, h5.1.2.1, h5.1.2.2, h9.1⟩
theorem s_DrawMaximalAnswers_dr (code : List UInt8) (hc : code.length ≤ 1048576) : Ok (s_DrawMaximalAnswers 20 code) fun p => FaOk p.1 p.2.1 p.2.2.1 p.2.2.2 :=
 (s_DrawFeasibleAnswers_dr code hc).bind fun r hr => .pure hr
theorem pExt_mono {a : Atom} {F G : List Fact} (h : ∀ f ∈ F, f ∈ G) {b x : Binding} (hx : x ∈ pExt a F b) : x ∈ pExt a G b := by
 unfold pExt at hx ⊢
 rw [List.mem_filterMap] at hx ⊢
 obtain ⟨f, h1, h2⟩ := hx
 exact ⟨f, h f h1, h2⟩
theorem pBinds_mono {F G : List Fact} (h : ∀ f ∈ F, f ∈ G) : ∀ {l : List Atom} {c d : List Binding}, (∀ b ∈ c, b ∈ d) → ∀ b ∈ pBinds F l c, b ∈ pBinds G l d
 | [], _, _, hc, b, hb => hc b hb
 | a :: l, c, d, hc, b, hb => pBinds_mono h (l := l) (fun x hx => by
   rw [List.mem_flatMap] at hx ⊢
   obtain ⟨y, h1, h2⟩ := hx
   exact ⟨y, hc y h1, pExt_mono h h2⟩) b hb
theorem pTup_mem {q : Query} {t : List Int} : ∀ {l : List Binding} {c : List (List Int)}, t ∈ l.foldl (fun c b => pAddT c (pTuple q b)) c ↔ t ∈ c ∨ ∃ b ∈ l, t = pTuple q b
 | [], _ => by simp
 | x :: l, c => by
   rw [List.foldl_cons, pTup_mem, pAddT_iff]
   simp only [List.mem_cons, exists_eq_or_imp]
   constructor
   · rintro ((h | h) | h)
     · exact .inr (.inl h)
     · exact .inl h
     · exact .inr (.inr h)
   · rintro (h | h | h)
     · exact .inl (.inr h)
     · exact .inl (.inl h)
     · exact .inr h
theorem pAns_mem {q : Query} {F : List Fact} {t : List Int} : t ∈ pAns q F ↔ ∃ b ∈ pBindsOf q F, t = pTuple q b := by
 unfold pAns pTuples
 rw [pTup_mem]; simp
theorem pTup_pw {q : Query} : ∀ {l : List Binding} {c : List (List Int)}, c.Pairwise tLt → (l.foldl (fun c b => pAddT c (pTuple q b)) c).Pairwise tLt
 | [], _, h => h
 | x :: l, c, h => by rw [List.foldl_cons]; exact pTup_pw (pAddT_pw h)
theorem pAns_pw (q : Query) (F : List Fact) : (pAns q F).Pairwise tLt := pTup_pw List.Pairwise.nil
theorem tLt_ne {a b : List Int} (h : tLt a b) : a ≠ b := fun e => by
 subst e
 have : cmpL a a = 0 := cmpL_zero.2 rfl
 unfold tLt at h; omega
theorem pAns_nd (q : Query) (F : List Fact) : (pAns q F).Nodup := (pAns_pw q F).imp tLt_ne
theorem pAns_mono {q : Query} {F G : List Fact} (h : ∀ f ∈ F, f ∈ G) : ∀ t ∈ pAns q F, t ∈ pAns q G := fun t ht => by
 rw [pAns_mem] at ht ⊢
 obtain ⟨b, h1, h2⟩ := ht
 exact ⟨b, pBinds_mono h (fun _ h => h) b h1, h2⟩
theorem nd_le {α : Type} [DecidableEq α] : ∀ {a b : List α}, a.Nodup → (∀ x ∈ a, x ∈ b) → a.length ≤ b.length
 | [], _, _, _ => Nat.zero_le _
 | x :: a, b, hn, h => by
   unfold List.Nodup at hn
   rw [List.pairwise_cons] at hn
   have hx := h x (by simp)
   have h2 := nd_le (a := a) (b := b.erase x) hn.2 fun y hy => (List.mem_erase_of_ne (fun e => hn.1 y hy e.symm)).2 (h y (by simp [hy]))
   rw [List.length_erase_of_mem hx] at h2
   have := List.length_pos_of_mem hx
   simp only [List.length_cons]; omega
theorem filt_len {α : Type} (p : α → Bool) : ∀ l : List α, (l.filter p).length + (l.filter fun x => !p x).length = l.length
 | [] => rfl
 | x :: l => by
   have := filt_len p l
   rw [List.filter_cons, List.filter_cons]
   cases h : p x <;> simp <;> omega
theorem nd_split {a b : List (List Int)} (ha : a.Nodup) (hb : b.Nodup) (h : ∀ x ∈ a, x ∈ b) : a.length + (b.filter fun t => !pHasT a t).length = b.length := by
 have h1 : a.length = (b.filter fun t => pHasT a t).length := Nat.le_antisymm
   (nd_le ha fun x hx => List.mem_filter.2 ⟨h x hx, pHasT_mem2.2 hx⟩)
   (nd_le (hb.filter _) fun x hx => pHasT_mem2.1 (List.mem_filter.1 hx).2)
 have h2 := filt_len (fun t => pHasT a t) b
 omega
theorem l_within_L2_eq (x : List Int) : ∀ (b : List (List Int)) (k : Nat) (f : Bool), l_within_L2 x b k f = some (if f || b.any (fun y => pIntsEq x y) then .inr () else .inl false)
 | [], k, f => by cases f <;> rfl
 | y :: b, k, f => by
   unfold l_within_L2
   cases f
   · simp only [cond_false, l_sameInts_eq, Option.bind_some]
     rw [l_within_L2_eq x b, List.any_cons, Bool.false_or]
   · simp only [cond_true, Option.bind_some]
     rw [l_within_L2_eq x b]; simp
theorem l_within_eq (b : List (List Int)) : ∀ (a : List (List Int)) (k : Nat), (∀ x ∈ a, x ∈ b) → l_within_L1 b a k = some true
 | [], _, _ => rfl
 | x :: a, k, h => by
   unfold l_within_L1
   have : b.any (fun y => pIntsEq x y) = true := List.any_eq_true.2 ⟨x, h x (by simp), pIntsEq_tt.2 rfl⟩
   rw [l_within_L2_eq, this, Option.bind_some]
   exact l_within_eq b a _ fun y hy => h y (by simp [hy])
theorem pSameTuples_self (a : List (List Int)) : pSameTuples a a = true := (eqF_iff (p := pIntsEq) (fun _ _ => pIntsEq_tt)).2 rfl
theorem law_fnMaximals {code : List UInt8} {W : Prop} (_ : W) : ∃ fuel, l_FnMaximals fuel code = some true := by
 refine ⟨20, ?_⟩
 unfold l_FnMaximals l_big
 rw [Option.bind_some]
 by_cases hc : (1048576 : Int) < (code.length : Int)
 · rw [if_pos (by simpa using hc)]
 rw [if_neg (by simpa using hc)]
 obtain ⟨⟨s, l, q, facts⟩, e4, d1, ⟨d2, d3⟩, d4, d5, d6⟩ := s_DrawMaximalAnswers_dr code (by omega)
 rw [e4, Option.bind_some]
 dsimp only at d1 d2 d3 d4 d5 d6 ⊢
 have hs : s.length < 4294967296 := by omega
 have ht := d4.tms (by decide)
 rw [i_MaximalAnswers_eq s l q facts hs d3 d6 ht, Option.bind_some, i_LostAnswers_eq s l q facts hs d3 d6 ht, Option.bind_some, s_MaximalAnswers_eq s l q facts hs d3 d6 ht, Option.bind_some, s_SameTuples_eq, Option.bind_some, pSameTuples_self, s_LostAnswers_eq s l q facts hs d3 d6 ht, Option.bind_some, s_SameTuples_eq, Option.bind_some, pSameTuples_self]
 simp only [Bool.not_true, cond_false, Option.bind_some, Bool.false_eq_true, if_false]
 rw [s_AreMethods_eq s l hs d3, Option.bind_some]
 cases hl : pMethods s l
 · simp [pMax, hl]
 rw [s_IsQuery_eq s q hs ht, Option.bind_some]
 cases hq : pQuery s q
 · simp [pMax, hq]
 rw [s_AreFacts_eq s facts hs d6, Option.bind_some]
 cases hf : pFacts s facts
 · simp [pMax, hf]
 simp only [Bool.not_true, cond_false, Option.bind_some, Bool.false_eq_true, if_false]
 have hcl : (pTermsP (pIn 0 9) q.Atoms).length ≤ tmsN q.Atoms := pTermsP_len
 rw [s_AnswersOf_eq s q facts hs d6 ht, Option.bind_some, hq, hf, s_ConstantsOf_eq q ht, Option.bind_some, s_ReachAll_all s l facts _ hs d3 d6 (by omega), Option.bind_some]
 have hR : pReachAll s l facts (pTermsP (pIn 0 9) q.Atoms) = pReach l facts 40 (pStart (pTermsP (pIn 0 9) q.Atoms)) := by unfold pReachAll; rw [hl, hf]; rfl
 have hM : pMax s l q facts = pAns q (pReach l facts 40 (pStart (pTermsP (pIn 0 9) q.Atoms))).Facts := by unfold pMax; rw [hl, hq, hf]; rfl
 obtain ⟨n, hn, hi⟩ := pReach_inv hl hf 40 0 _ (pStart_inv s l facts (pTermsP (pIn 0 9) q.Atoms))
 have hst := RInv_st hf hi (by omega)
 have hWf := pw_facts hf hi.pw hi.sub
 have how := pReach_own hl hf (pTermsP (pIn 0 9) q.Atoms)
 have hM2 : pMax s l q (pReach l facts 40 (pStart (pTermsP (pIn 0 9) q.Atoms))).Facts = pAns q (pReach l facts 40 (pStart (pTermsP (pIn 0 9) q.Atoms))).Facts := by
   unfold pMax; rw [hl, hq, hWf, how]; rfl
 have hL : pLost s l q facts = (pAns q facts).filter fun t => !pHasT (pMax s l q facts) t := by unfold pLost; rw [hl, hq, hf]; rfl
 rw [hR]
 rw [hM] at hL
 obtain ⟨w, hw⟩ : ∃ w, pReach l facts 40 (pStart (pTermsP (pIn 0 9) q.Atoms)) = w := ⟨_, rfl⟩
 rw [hw] at hM hM2 hL hi hst hWf ⊢
 have hmono := pAns_mono (q := q) hi.sub
 have hlen := nd_split (pAns_nd q w.Facts) (pAns_nd q facts) hmono
 have hb := pAns_ok hq (pFacts_iff.1 hf).2.2.2
 rw [hM, hL]
 have e1 : l_within (pAns q w.Facts) (pAns q facts) = some true := l_within_eq _ _ 0 hmono
 have e2 : l_within ((pAns q facts).filter fun t => !pHasT (pAns q w.Facts) t) (pAns q facts) = some true := l_within_eq _ _ 0 fun x hx => (List.mem_filter.1 hx).1
 have e3 : ((IntKind.i64.wrap (((pAns q w.Facts).length : Int) + (((pAns q facts).filter fun t => !pHasT (pAns q w.Facts) t).length : Int)) : Int) == ((pAns q facts).length : Int)) = true := by
   have := hb.1
   rw [wrap_in (by omega) (by omega), beq_iff_eq]; omega
 simp only [Bool.and_self, if_true, e1, e2, e3, Option.bind_some, cond_true, i_AnswersOf_eq s q w.Facts hs hst.1 ht, hq, hWf, s_SameTuples_eq, pSameTuples_self, i_MaximalAnswers_eq s l q w.Facts hs d3 hst.1 ht, hM2]
end Go.Proofs.YtndckmfbndmkhabGreat
/-
 The row FnMaximals.
-/
set_option maxRecDepth 100000
namespace Go.Proofs.YtndckmfbndmkhabGreat.fnMaximals
open Go Go.Fw Go.ChangeShapes Go.WideShapes Go.ChangeAt Go.RowKit
theorem own : ownKnob Tryz.prog.godebug = none := by kernel_rfl
theorem laidOut : laidOutB Tryz.prog = true := by kernel_rfl
set_option maxRecDepth 100000 in
theorem lifted (os : Os) (started : os.Started) (H : Type) (enc : TypeId × Value → H) :
   ReturnsInHanded {} Tryz.checked os 4 .any (Rows.fnMaximalsSpec.pre6 enc Tryz.prog Tryz.f4 Rows.fnMaximalsRow.domain false) (Rows.fnMaximalsSpec.post enc Tryz.prog Tryz.f4 false true false false) := by
 refine returnsInHanded_of_change_sized (C := Tryz.checked) own started (by kernel_rfl) Tryz.func4
   (ChangeSpec.witness6 (enc := enc) (C := Tryz.checked) false ⟨#[], #[.slice none 0 0], []⟩ 16 (by kernel_rfl) (by kernel_rfl) (by kernel_rfl) (by kernel_rfl)) ?_
 intro W base args ds gs before hval hW _ hwt _
 have hW' := hW
 obtain ⟨p, q, hA0, hV, rfl, hfz, hnd⟩ := hW
 obtain ⟨rfl, rfl⟩ := trodVars_none hV
 have hA : DataW.TrodAll enc Tryz.prog W 0 (fun _ => true) true [22] args.toList ds p := hA0
 have hw : ∀ n ∈ DataW.weightsEach Tryz.prog [22] ds, n ≤ reachBytes := fun n hn => by
   have := List.all_eq_true.1 hwt n (by rw [List.append_nil]; exact hn)
   simpa using this
 obtain ⟨v0, vs0, d0, ds0, p0, ρ0, H0, av0, a0, e0, rfl, hA0, hw0, r0, f0, u0, i0, rv0, q0, w0⟩ := opn_arg hA hw (Opn.slice (s := 1) (by kernel_rfl) (by kernel_rfl) (by decide) (Nat.lt_of_lt_of_le (by decide) (Nat.le_of_eq (show 1 = _ from by kernel_rfl))) (Opn.u8 (by kernel_rfl))) (fun H v a h => by obtain ⟨_, _, rfl⟩ := RdS.len h; kernel_rfl) (r := .any) (base := base) (fun v h => hval 0 22 v rfl (arg_at h)) (Rel.nil _ W trivial) Frn.nil
 obtain ⟨en, rfl⟩ := opn_none hA0
 subst en
 obtain ⟨sa0, sm0, rfl⟩ := RdS.len q0
 have hargs : RelVs ρ0 [(.slice sa0 a0.length sm0)] args.toList := by
   rw [e0]
   exact (.cons _ _ _ _ rv0 .nil)
 obtain ⟨fuel, hlaw⟩ := law_fnMaximals w0
 refine ((l_FnMaximals_ok fuel a0 ⟨sa0, _, sm0⟩ true hlaw) H0 [] (Ctx.dup (Ctx.start _) q0 rfl) ρ0 W args r0 hargs).mono ?_
 rintro e w' ⟨v, r, ρ', H', rfl, h1, h2, h3, x, h5, -⟩
 have h6 : r = .bool true := h5
 subst h6
 refine ⟨_, rfl, ?_⟩
 rw [h1.bool_inv]
 refine law_post hW' rfl laidOut (by kernel_rfl) rfl (by kernel_rfl) (fun d => ?_) (h3.below f0)
 by_cases hd : d = [d0]
 · subst hd; exact .inl ⟨rfl, rfl, rfl⟩
 · exact .inr (by simpa using hd)
theorem named : Tryz.pinned.checked.prog.funcNamed Rows.fnMaximalsRow.func = some 4 := by kernel_rfl
set_option maxHeartbeats 10000000 in
theorem closed : joinedFacts Tryz.pinned.checked.prog 4 Tryz.f4 Rows.fnMaximalsSpec Rows.fnMaximalsRow = true := by
 simp only [joinedFacts, Bool.and_eq_true]
 repeat' refine And.intro ?_ ?_
 all_goals (as_aux_lemma => kernel_rfl)
theorem over : Rows.fnMaximalsRow.holds Tryz.pinned (OpenSpec.ofChange Rows.fnMaximalsSpec) :=
 OpenClaim.holds_of_wide 4 Tryz.f4 rfl rfl rfl rfl rfl rfl rfl ⟨rfl, rfl, rfl, rfl, rfl⟩ rfl rfl rfl rfl rfl named Tryz.func4 closed
   (of_decide_eq_true (by kernel_rfl)) (by unfold Func.isWrapper; first | (rw [if_pos (by decide +kernel)]; kernel_rfl) | (rw [if_neg (by decide +kernel)]; exact ⟨rfl, rfl⟩))
   (fun os started H enc _ => lifted os started H enc)
theorem proved : Rows.FnMaximalsSaid := over
end Go.Proofs.YtndckmfbndmkhabGreat.fnMaximals
