/-
  FnExactWhyReached: the plain law and the row: for all arguments.
-/
import Derived.Test.YtopbakibjfoccaaGreatWhyReachedG1
import Derived.Test.YtopbakibjfoccaaGreatFcWhyReached
import Derived.Test.YtopbakibjfoccaaGreatRows
import Derived.WalkKit
import Derived.KernelRfl
/-
 Plain laws of the helpers. Written by a program.
-/
set_option maxRecDepth 100000
set_option maxHeartbeats 4000000
set_option linter.unusedVariables false
namespace Go.Proofs.YtopbakibjfoccaaGreat
open Go Go.Fw
def bd_Fact (a : Fact) : Prop := (bdL bdAny) a.Values
def bd_Access (a : Access) : Prop := (bdL bdAny) a.Values
theorem sz_IntS : Sz l_szIntS (fun a : List Int => a.length) (wfSl wfInt) := sz_flat (fun _ _ => rfl)
def tot_Method (a : Method) : Nat := a.Inputs.length
theorem sz_Method : Sz l_szMethod tot_Method wf61 := by
 intro a ⟨w_Rel, w_Inputs, w_Limit, w_Cost, w_Quota⟩ left hl hm
 unfold l_szMethod
 have ht : tot_Method a = a.Inputs.length := rfl
 obtain ⟨n1, e1, h1⟩ := sz_IntS a.Inputs w_Inputs _ hl hm
 rw [e1, Option.bind_some]
 try dsimp only at h1
 rcases h1 with ⟨rfl, p1⟩ | p1
 rotate_left
 · rw [if_pos (by simpa using p1)]; exact ⟨-1, rfl, .inr (by omega)⟩
 rw [if_neg (by simp only [decide_eq_true_eq]; omega)]
 exact ⟨_, rfl, .inl ⟨by rw [ht] <;> omega, p1⟩⟩
theorem sz_MethodS : Sz l_szMethodS (totL tot_Method) (wfSl wf61) := sz_slice sz_Method (fun _ _ => rfl) (fun _ _ _ _ => rfl) (fun _ _ => rfl)
def tot_Fact (a : Fact) : Nat := a.Values.length
theorem sz_Fact : Sz l_szFact tot_Fact wf26 := by
 intro a ⟨w_Rel, w_Values⟩ left hl hm
 unfold l_szFact
 have ht : tot_Fact a = a.Values.length := rfl
 obtain ⟨n1, e1, h1⟩ := sz_IntS a.Values w_Values _ hl hm
 rw [e1, Option.bind_some]
 try dsimp only at h1
 rcases h1 with ⟨rfl, p1⟩ | p1
 rotate_left
 · rw [if_pos (by simpa using p1)]; exact ⟨-1, rfl, .inr (by omega)⟩
 rw [if_neg (by simp only [decide_eq_true_eq]; omega)]
 exact ⟨_, rfl, .inl ⟨by rw [ht] <;> omega, p1⟩⟩
theorem sz_FactS : Sz l_szFactS (totL tot_Fact) (wfSl wf26) := sz_slice sz_Fact (fun _ _ => rfl) (fun _ _ _ _ => rfl) (fun _ _ => rfl)
theorem to_IntS : ∀ (a : List Int), (bdL bdAny) a → l_toIntS a = some a :=
 to_slice (fun _ => rfl) (fun _ _ => rfl) (fun x r k c hx hk => by
   rw [l_toIntS_L1]
   simp [chk, hk])
def bd_Method (a : Method) : Prop := (bdL bdAny) a.Inputs
theorem to_Method (a : Method) (h : bd_Method a) : l_toMethod a = some a := by
 have b_a_Inputs : (bdL bdAny) a.Inputs := h
 simp (disch := assumption) only [l_toMethod, to_IntS, Option.bind_some]
theorem to_MethodS : ∀ (a : List Method), (bdL bd_Method) a → l_toMethodS a = some a :=
 to_slice (fun _ => rfl) (fun _ _ => rfl) (fun x r k c hx hk => by
   rw [l_toMethodS_L1]
   rw [to_Method _ hx]
   simp [chk, hk])
theorem to_Fact (a : Fact) (h : bd_Fact a) : l_toFact a = some a := by
 have b_a_Values : (bdL bdAny) a.Values := h
 simp (disch := assumption) only [l_toFact, to_IntS, Option.bind_some]
theorem to_FactS : ∀ (a : List Fact), (bdL bd_Fact) a → l_toFactS a = some a :=
 to_slice (fun _ => rfl) (fun _ _ => rfl) (fun x r k c hx hk => by
   rw [l_toFactS_L1]
   rw [to_Fact _ hx]
   simp [chk, hk])
theorem eq_IntS : ∀ (a : List Int), l_eqIntS a a = some true :=
 eq_slice (fun _ _ => rfl) (fun _ _ => rfl) (fun b x r k h => by
   rw [l_eqIntS_L1, ix_nat, h]
   simp)
theorem eq_Access (a : Access) : l_eqAccess a a = some true := by simp [l_eqAccess, eq_IntS]
theorem eq_Method (a : Method) : l_eqMethod a a = some true := by simp [l_eqMethod, eq_IntS]
theorem eq_MethodS : ∀ (a : List Method), l_eqMethodS a a = some true :=
 eq_slice (fun _ _ => rfl) (fun _ _ => rfl) (fun b x r k h => by
   rw [l_eqMethodS_L1, ix_nat, h]
   simp [eq_Method])
theorem eq_Fact (a : Fact) : l_eqFact a a = some true := by simp [l_eqFact, eq_IntS]
theorem eq_FactS : ∀ (a : List Fact), l_eqFactS a a = some true :=
 eq_slice (fun _ _ => rfl) (fun _ _ => rfl) (fun b x r k h => by
   rw [l_eqFactS_L1, ix_nat, h]
   simp [eq_Fact])
theorem mark_IntS : ∀ (a : List Int) (k : Int), (bdL bdAny) a → 0 ≤ k → k + (msL (fun _ => 1) a : Int) < 4611686018427387904 → l_markIntS a k = some (k + msL (fun _ => 1) a, mkL (fun _ k => k) (fun _ => 1) k a) :=
 mark_slice (fun _ _ => rfl) (fun m c k j h => by rw [l_markIntS_L1, if_neg (by simp; omega)]) (fun m c k j x e hl hj hp hk hm => by
   rw [l_markIntS_L1, if_pos (by simp; omega)]
   simp (disch := first | omega | assumption | (simp only [List.length_set]; omega)) only [chk_true (show (decide (0 ≤ (j : Int)) && decide ((j : Int) < (c.length : Int))) = true by simp; omega), wrap_in, Int.toNat_natCast, Option.bind_some, Int.natCast_add, Int.cast_ofNat_Int])
def meN_Method (a : Method) : Nat := 1 + msL (fun _ => 1) a.Inputs + 1 + 1 + 1
def meK_Method (a : Method) (k : Int) : Method := { Rel := k, Inputs := mkL (fun _ k => k) (fun _ => 1) (k + 1) a.Inputs, Limit := k + 1 + msL (fun _ => 1) a.Inputs, Cost := k + 1 + msL (fun _ => 1) a.Inputs + 1, Quota := k + 1 + msL (fun _ => 1) a.Inputs + 1 + 1 }
theorem mark_MethodS : ∀ (a : List Method) (k : Int), (bdL bd_Method) a → 0 ≤ k → k + (msL meN_Method a : Int) < 4611686018427387904 → l_markMethodS a k = some (k + msL meN_Method a, mkL meK_Method meN_Method k a) :=
 mark_slice (fun _ _ => rfl) (fun m c k j h => by rw [l_markMethodS_L1, if_neg (by simp; omega)]) (fun m c k j x e hl hj hp hk hm => by
   have e' : ix c (j : Int) = some x := by rw [ix_nat, e]
   have b_x_Inputs : (bdL bdAny) x.Inputs := hp
   simp only [meN_Method, Int.natCast_add, Int.cast_ofNat_Int] at hm ⊢
   rw [l_markMethodS_L1, if_pos (by simp; omega)]
   simp (disch := first | omega | assumption | (simp only [List.length_set]; omega)) only [e', mark_IntS, meK_Method, ix_at, List.set_set, wrap_in, Int.toNat_natCast, Option.bind_some, Int.add_assoc])
def meN_Fact (a : Fact) : Nat := 1 + msL (fun _ => 1) a.Values
def meK_Fact (a : Fact) (k : Int) : Fact := { Rel := k, Values := mkL (fun _ k => k) (fun _ => 1) (k + 1) a.Values }
theorem mark_FactS : ∀ (a : List Fact) (k : Int), (bdL bd_Fact) a → 0 ≤ k → k + (msL meN_Fact a : Int) < 4611686018427387904 → l_markFactS a k = some (k + msL meN_Fact a, mkL meK_Fact meN_Fact k a) :=
 mark_slice (fun _ _ => rfl) (fun m c k j h => by rw [l_markFactS_L1, if_neg (by simp; omega)]) (fun m c k j x e hl hj hp hk hm => by
   have e' : ix c (j : Int) = some x := by rw [ix_nat, e]
   have b_x_Values : (bdL bdAny) x.Values := hp
   simp only [meN_Fact, Int.natCast_add, Int.cast_ofNat_Int] at hm ⊢
   rw [l_markFactS_L1, if_pos (by simp; omega)]
   simp (disch := first | omega | assumption | (simp only [List.length_set]; omega)) only [e', mark_IntS, meK_Fact, ix_at, List.set_set, wrap_in, Int.toNat_natCast, Option.bind_some, Int.add_assoc])
def mtN_Fact (a : Fact) : Nat := msL (fun _ => 1) a.Values
def mtK_Fact (a : Fact) (k : Int) : Fact := { Rel := a.Rel, Values := mkL (fun _ k => k) (fun _ => 1) (k) a.Values }
theorem mark_Fact (a : Fact) (k : Int) (h : bd_Fact a) (hk : 0 ≤ k) (hm : k + (mtN_Fact a : Int) < 4611686018427387904) : l_markFact a k = some (k + mtN_Fact a, mtK_Fact a k) := by
 have b_a_Values : (bdL bdAny) a.Values := h
 simp only [mtN_Fact] at hm ⊢
 simp (disch := first | omega | assumption | (simp only [mtN_Fact, Int.natCast_add, Int.cast_ofNat_Int]; omega)) only [l_markFact, mtK_Fact, mark_IntS, Option.bind_some]
def mtN_Access (a : Access) : Nat := msL (fun _ => 1) a.Values
def mtK_Access (a : Access) (k : Int) : Access := { Method := a.Method, Values := mkL (fun _ k => k) (fun _ => 1) (k) a.Values }
theorem mark_Access (a : Access) (k : Int) (h : bd_Access a) (hk : 0 ≤ k) (hm : k + (mtN_Access a : Int) < 4611686018427387904) : l_markAccess a k = some (k + mtN_Access a, mtK_Access a k) := by
 have b_a_Values : (bdL bdAny) a.Values := h
 simp only [mtN_Access] at hm ⊢
 simp (disch := first | omega | assumption | (simp only [mtN_Access, Int.natCast_add, Int.cast_ofNat_Int]; omega)) only [l_markAccess, mtK_Access, mark_IntS, Option.bind_some]
theorem held_IntS : ∀ (a : List Int) (k : Int), (bdL bdAny) a → 0 ≤ k → k + (msL (fun _ => 1) a : Int) < 4611686018427387904 → l_heldIntS (mkL (fun _ k => k) (fun _ => 1) k a) k = some (k + msL (fun _ => 1) a) :=
 held_slice (fun _ _ => rfl) (fun _ _ => rfl) (fun x r n k hp hk hm => by
   simp (disch := first | omega | assumption) only [l_heldIntS_L1, wrap_in, bne_self_eq_false, Bool.false_eq_true, if_false, Int.cast_ofNat_Int])
theorem held_Access (a : Access) (k : Int) (h : bd_Access a) (hk : 0 ≤ k) (hm : k + (mtN_Access a : Int) < 4611686018427387904) : l_heldAccess (mtK_Access a k) k = some (k + mtN_Access a) := by
 have b_a_Values : (bdL bdAny) a.Values := h
 simp only [mtN_Access] at hm ⊢
 simp only [l_heldAccess, mtK_Access]
 rw [held_IntS a.Values (k) b_a_Values (by omega) (by omega), Option.bind_some, neg_if (by omega)]
 try simp only [Int.add_assoc]
end Go.Proofs.YtopbakibjfoccaaGreat
/-
 Plain laws.
-/
set_option maxRecDepth 100000
set_option linter.unusedVariables false
namespace Go.Proofs.YtopbakibjfoccaaGreat
open Go Go.Fw
theorem s_l2Ints_eq (a b : List Int) : s_l2Ints a b = some (eqF (fun x y => x == y) a b) :=
 eqf_fun (L := s_l2Ints_L1) (f := fun x y => some (x == y)) (fun _ _ => rfl) (fun _ _ => rfl) (fun b x r k y h => by rw [s_l2Ints_L1, ix_nat, h]; rfl) a b (fun _ _ _ _ => rfl)
theorem g_slices_Equal_int_int_eq (a b : List Int) : g_slices_Equal_int_int a b = some (eqF (fun x y => x == y) a b) :=
 eqf_fun (L := g_slices_Equal_int_int_L1) (f := fun x y => some (x == y)) (fun _ _ => rfl) (fun _ _ => rfl) (fun b x r k y h => by rw [g_slices_Equal_int_int_L1, ix_nat, h]; rfl) a b (fun _ _ _ _ => rfl)
def pIntsEq : List Int → List Int → Bool := eqF (fun x y => x == y)
theorem g_cmp_Compare_int_eq (x y : Int) : g_cmp_Compare_int x y = some (cmpI x y) := by
 simp only [g_cmp_Compare_int, g_cmp_isNaN_int, Option.bind_some, cmpI, bne_self_eq_false, Bool.false_eq_true, if_false, decide_eq_true_eq]
 split
 · rfl
 · split <;> rfl
theorem g_slices_Compare_loop (s1 b : List Int) : ∀ (l : List Int) (k : Nat), s1.drop k = l → k ≤ s1.length → g_slices_Compare_int_int_L1 s1 b l k = some (cmpL l (b.drop k))
 | [], k, hd, hk => by
   have h1 : s1.length ≤ k := List.drop_eq_nil_iff.1 hd
   rw [g_slices_Compare_int_int_L1]
   cases hb : b.drop k with
   | nil =>
     have h2 : b.length ≤ k := List.drop_eq_nil_iff.1 hb
     rw [if_neg (by simp; omega)]; rfl
   | cons y t =>
     have h2 : k < b.length := (drop_cons hb).1
     rw [if_pos (by simp; omega)]; rfl
 | x :: r, k, hd, hk => by
   have h1 : k < s1.length := (drop_cons hd).1
   rw [g_slices_Compare_int_int_L1]
   cases hb : b.drop k with
   | nil =>
     have h2 : b.length ≤ k := List.drop_eq_nil_iff.1 hb
     rw [if_pos (by simp; omega)]; rfl
   | cons y t =>
     have h2 : k < b.length := (drop_cons hb).1
     obtain ⟨e1, e2⟩ := get_drop hb
     rw [if_neg (by simp; omega), ix_nat, e1, Option.bind_some, g_cmp_Compare_int_eq, Option.bind_some, cmpL]
     split
     · rfl
     · rw [g_slices_Compare_loop s1 b r (k + 1) (get_drop hd).2 h1, e2]
theorem g_slices_Compare_eq (a b : List Int) : g_slices_Compare_int_int a b = some (cmpL a b) := by
 have := g_slices_Compare_loop a b a 0 rfl (by omega)
 simpa [g_slices_Compare_int_int] using this
theorem g_cmp_Or2_eq (x y : Int) : g_cmp_Or_int [x, y] = some (if x != 0 then x else y) := by
 simp only [g_cmp_Or_int, g_cmp_Or_int_L1]
 split
 · rfl
 · split
   · rfl
   · rename_i h; simp at h; rw [h]
def pCmpFact (a b : Fact) : Int := if cmpI a.Rel b.Rel != 0 then cmpI a.Rel b.Rel else cmpL a.Values b.Values
theorem i_CompareFacts_eq (a b : Fact) : i_CompareFacts a b = some (pCmpFact a b) := by
 simp only [i_CompareFacts, g_cmp_Compare_int_eq, g_slices_Compare_eq, Option.bind_some, g_cmp_Or2_eq, pCmpFact]
theorem s_CompareFacts_loop (a b : Fact) (ha : a.Values.length < 4294967296) : ∀ (m k : Nat), k ≤ a.Values.length → k ≤ b.Values.length → a.Values.length < k + m → s_CompareFacts_L1 a b m k = some (cmpL (a.Values.drop k) (b.Values.drop k))
 | 0, k, h1, _, h2 => by omega
 | m + 1, k, h1, h1', h2 => by
   rw [s_CompareFacts_L1]
   by_cases h : k < a.Values.length ∧ k < b.Values.length
   · rw [if_pos (by simp [h.1, h.2])]
     simp only [ix_nat, List.getElem?_eq_getElem h.1, List.getElem?_eq_getElem h.2, Option.bind_some]
     rw [List.drop_eq_getElem_cons h.1, List.drop_eq_getElem_cons h.2, cmpL, cmpI]
     by_cases e1 : a.Values[k] < b.Values[k]
     · simp [e1]
     · rw [if_neg (by simpa using e1)]
       by_cases e2 : b.Values[k] < a.Values[k]
       · simp [e1, e2]
       · rw [if_neg (by simpa using e2), if_neg e1, if_neg e2, show ((k : Int) + 1) = ((k + 1 : Nat) : Int) from rfl, wrap_nat (by omega), s_CompareFacts_loop a b ha m (k + 1) h.1 h.2 (by omega)]
         simp
   · rw [if_neg (by simp only [Bool.and_eq_true, decide_eq_true_eq]; omega)]
     by_cases h3 : k < b.Values.length
     · have : k = a.Values.length := by omega
       subst this
       rw [if_pos (by simp; omega), List.drop_of_length_le (Nat.le_refl _), List.drop_eq_getElem_cons h3]; rfl
     · rw [List.drop_of_length_le (show b.Values.length ≤ k by omega), if_neg (by simp; omega)]
       by_cases h4 : k < a.Values.length
       · rw [if_pos (by simp; omega), List.drop_eq_getElem_cons h4]; rfl
       · rw [if_neg (by simp; omega), List.drop_of_length_le (by omega)]; rfl
theorem s_CompareFacts_eq (a b : Fact) (ha : a.Values.length < 4294967296) : s_CompareFacts a b = some (pCmpFact a b) := by
 unfold s_CompareFacts pCmpFact cmpI
 by_cases h : a.Rel = b.Rel
 · rw [if_neg (by simp [h])]
   have := s_CompareFacts_loop a b ha (((a.Values.length : Int) - 0).toNat + 2) 0 (by omega) (by omega) (by omega)
   rw [show s_CompareFacts_L1 a b (((a.Values.length : Int) - 0).toNat + 2) 0 = _ from this]
   simp [h]
 · rw [if_pos (by simpa using h)]
   by_cases h2 : a.Rel < b.Rel
   · simp [h2]
   · have : b.Rel < a.Rel := by omega
     simp [h2, this]
def pSameAccess (a b : Access) : Bool := a.Method == b.Method && pIntsEq a.Values b.Values
theorem s_l5Same_eq (a b : Access) : s_l5Same a b = some (pSameAccess a b) := by
 simp only [s_l5Same, s_l2Ints_eq, pSameAccess, pIntsEq, Option.bind_some]
 generalize (a.Method == b.Method) = b1
 cases b1 <;> rfl
theorem i_sameAccess_eq (a b : Access) : i_sameAccess a b = some (pSameAccess a b) := by
 simp only [i_sameAccess, g_slices_Equal_int_int_eq, pSameAccess, pIntsEq, Option.bind_some]
 generalize (a.Method == b.Method) = b1
 cases b1 <;> rfl
theorem g_slices_Clone_int_int_eq (a : List Int) (h : a.length < 4294967296) : g_slices_Clone_int_int a = some a := by simp [g_slices_Clone_int_int, app_nil h]
theorem s_l8Access_eq (m : Int) (v : List Int) (h : v.length < 4294967296) : s_l8Access m v = some { Method := m, Values := v } := by simp [s_l8Access, app_nil h]
theorem ms_MethodS (a : List Method) : msL meN_Method a ≤ 4 * totL tot_Method a := msL_le 4 (fun x => by simp only [meN_Method, msL_one, tot_Method]; omega) a
theorem bd_MethodS (a : List Method) (h : totL tot_Method a < 4294967296) : bdL bd_Method a := bdL_of (f := tot_Method) (fun x hx => bdL_flat _ hx) _ h
def in13 (n : Int) : Bool := decide (1 ≤ n) && decide (n ≤ 3)
def pSchema (s : List Int) : Bool := in13 (s.length : Int) && s.all in13
theorem s_IsSchema_eq (s : List Int) : s_IsSchema s = some (pSchema s) := by
 unfold s_IsSchema
 rw [all_loop (L := s_IsSchema_L1 s) (f := fun n => s_l1In n 1 3) (p := in13) (e := in13 (s.length : Int)) (fun k => by simp [s_IsSchema_L1, s_l1In, in13]) (fun x r k => rfl) s 0 (fun x _ => rfl), pSchema, Bool.and_comm]
theorem g_slices_ContainsFunc_int_int_iIsSchema1_eq (l : List Int) : g_slices_ContainsFunc_int_int_iIsSchema1 l = some (l.any fun x => !in13 x) := by
 unfold g_slices_ContainsFunc_int_int_iIsSchema1 g_slices_IndexFunc_int_int_iIsSchema1
 rw [index_loop (L := g_slices_IndexFunc_int_int_iIsSchema1_L1) (f := fun x => i_IsSchema_1 x) (p := fun x => !in13 x) (fun k => rfl) (fun x r k => rfl) l 0 (fun x hx => rfl), Option.bind_some, ixF_neg]
theorem i_IsSchema_eq (s : List Int) : i_IsSchema s = some (pSchema s) := by
 unfold i_IsSchema
 rw [g_slices_ContainsFunc_int_int_iIsSchema1_eq]
 simp only [i_within, Option.bind_some, pSchema, in13]
 cases hh : (decide (1 ≤ (s.length : Int)) && decide ((s.length : Int) ≤ 3))
 · simp
 · simp [List.all_eq_not_any_not, in13]
theorem pSchema_len {s : List Int} (h : pSchema s = true) : s.length ≤ 3 ∧ ∀ x ∈ s, 1 ≤ x ∧ x ≤ 3 := by
 simp [pSchema, in13] at h
 exact ⟨by omega, h.2⟩
theorem s_l1In_eq (x lo hi : Int) : s_l1In x lo hi = some (pIn lo hi x) := rfl
theorem i_within_eq (x lo hi : Int) : i_within x lo hi = some (pIn lo hi x) := rfl
def pHasRel (s : List Int) (rel : Int) : Bool := pSchema s && pIn 0 ((s.length : Int) - 1) rel
theorem i_hasRel_eq (s : List Int) (rel : Int) (hs : s.length < 4294967296) : i_hasRel s rel = some (pHasRel s rel) := by
 simp only [i_hasRel, i_IsSchema_eq, i_within_eq, Option.bind_some, pHasRel]
 rw [wrap_in (by omega) (by omega)]
 cases pSchema s <;> rfl
theorem pHasRel_ix {s : List Int} {rel : Int} (h : pHasRel s rel = true) : ∃ x, ix s rel = some x ∧ 1 ≤ x ∧ x ≤ 3 := by
 simp only [pHasRel, Bool.and_eq_true] at h
 obtain ⟨x, h1, h2⟩ := pIn_ix h.2
 exact ⟨x, h1, (pSchema_len h.1).2 x (List.mem_of_getElem? h2)⟩
def pAr (s : List Int) (rel : Int) : Int := (ix s rel).getD 0
theorem pAr_ix {s : List Int} {rel : Int} (h : pHasRel s rel = true) : ix s rel = some (pAr s rel) ∧ 1 ≤ pAr s rel ∧ pAr s rel ≤ 3 := by
 obtain ⟨x, h1, h2⟩ := pHasRel_ix h
 unfold pAr
 rw [h1]; exact ⟨rfl, h2⟩
def pMethod (s : List Int) (m : Method) : Bool := pHasRel s m.Rel && (pIn 0 9 m.Limit && (pIn 0 99 m.Cost && (pIn 1 99 m.Quota && (adjB (fun _ => true) (fun y x => decide (x ≤ y)) none m.Inputs && m.Inputs.all (pIn 0 (pAr s m.Rel - 1))))))
theorem s_IsMethod_eq (s : List Int) (m : Method) (hs : s.length < 4294967296) (hm : m.Inputs.length < 4294967296) : s_IsMethod s m = some (pMethod s m) := by
 simp only [s_IsMethod, s_IsSchema_eq, s_l1In_eq, Option.bind_some]
 rw [wrap_in (by omega) (by omega)]
 have hL : pHasRel s m.Rel = true → s_IsMethod_L1 s m m.Inputs 0 = some (adjB (pIn 0 (pAr s m.Rel - 1)) (fun y x => decide (x ≤ y)) none m.Inputs) := fun h => by
   obtain ⟨e1, e2, e3⟩ := pAr_ix h
   have := adj_loop (L := s_IsMethod_L1 s m) (P := fun _ => True) (p := pIn 0 (pAr s m.Rel - 1)) (q := fun y x => decide (x ≤ y)) (e := true) m.Inputs (fun _ _ => trivial) hm (fun _ => rfl) (fun x r _ => by
     rw [s_IsMethod_L1]
     simp only [e1, Option.bind_some, s_l1In_eq, dec_zero]
     rw [wrap_in (by omega) (by omega)]
     cases pIn 0 (pAr s m.Rel - 1) x <;> rfl) (fun x r k y _ _ hy hk => by
     rw [s_IsMethod_L1]
     simp only [e1, Option.bind_some, s_l1In_eq, dec_succ, ix_prev _ k hk, hy]
     rw [wrap_in (by omega) (by omega)]
     cases pIn 0 (pAr s m.Rel - 1) x <;> cases decide (x ≤ y) <;> rfl)
   simpa using this
 unfold pMethod
 cases hh : pHasRel s m.Rel
 · simp only [pHasRel] at hh
   cases h1 : pSchema s
   · rfl
   · rw [h1, Bool.true_and] at hh
     simp [hh]
 · rw [hL hh, adjB_and]
   simp only [pHasRel, Bool.and_eq_true] at hh
   rw [hh.1, hh.2]
   cases pIn 0 9 m.Limit
   · rfl
   cases pIn 0 99 m.Cost
   · rfl
   cases pIn 1 99 m.Quota <;> rfl
theorem i_ascending_eq (l : List Int) (hl : l.length < 4294967296) : i_ascending l = some (adjB (fun _ => true) (fun y x => decide (x ≤ y)) none l) := by
 have := adj_loop (L := i_ascending_L1 l) (P := fun _ => True) (p := fun _ => true) (q := fun y x => decide (x ≤ y)) (e := true) l (fun _ _ => trivial) hl (fun _ => rfl) (fun x r _ => rfl) (fun x r k y _ _ hy hk => by
     rw [i_ascending_L1]
     simp only [Option.bind_some, dec_succ, ix_prev _ k hk, hy, cond_true]
     cases decide (x ≤ y) <;> rfl)
 simpa [i_ascending] using this
theorem g_slices_ContainsFunc_int_int_iMethodfits1_eq (l : List Int) (a1 : Int) (h1 : -1000 ≤ a1 ∧ a1 ≤ 1000) : g_slices_ContainsFunc_int_int_iMethodfits1 l a1 = some (l.any fun x => !pIn 0 (a1 - 1) x) := by
 unfold g_slices_ContainsFunc_int_int_iMethodfits1 g_slices_IndexFunc_int_int_iMethodfits1
 rw [index_loop (L := g_slices_IndexFunc_int_int_iMethodfits1_L1 a1) (f := fun x => i_Method_fits_1 x a1) (p := fun x => !pIn 0 (a1 - 1) x) (fun k => rfl) (fun x r k => rfl) l 0 (fun x hx => by rw [i_Method_fits_1, i_within_eq, wrap_in (by omega) (by omega)]; rfl), Option.bind_some, ixF_neg]
theorem i_isCost_eq (n : Int) : i_isCost n = some (pIn 0 99 n) := rfl
theorem i_IsMethod_eq (s : List Int) (m : Method) (hs : s.length < 4294967296) (hm : m.Inputs.length < 4294967296) : i_IsMethod s m = some (pMethod s m) := by
 simp only [i_IsMethod, i_hasRel_eq _ _ hs, Option.bind_some, pMethod]
 cases hh : pHasRel s m.Rel
 · rfl
 obtain ⟨e1, e2, e3⟩ := pAr_ix hh
 simp only [e1, Option.bind_some, i_Method_fits, i_ascending_eq _ hm, g_slices_ContainsFunc_int_int_iMethodfits1_eq _ _ (show -1000 ≤ pAr s m.Rel ∧ pAr s m.Rel ≤ 1000 by omega), i_within_eq, i_isCost_eq, cond_true, Bool.true_and]
 have e4 : (m.Inputs.any fun x => !pIn 0 (pAr s m.Rel - 1) x) = !(m.Inputs.all (pIn 0 (pAr s m.Rel - 1))) := by simp [List.all_eq_not_any_not]
 rw [e4]
 cases adjB (fun _ => true) (fun y x => decide (x ≤ y)) none m.Inputs <;> cases m.Inputs.all (pIn 0 (pAr s m.Rel - 1)) <;> cases pIn 0 9 m.Limit <;> cases pIn 0 99 m.Cost <;> cases pIn 1 99 m.Quota <;> rfl
def pMethods (s : List Int) (l : List Method) : Bool := pSchema s && (decide ((l.length : Int) ≤ 5) && l.all (pMethod s))
theorem s_AreMethods_eq (s : List Int) (l : List Method) (hs : s.length < 4294967296) (hl : bdL bd_Method l) : s_AreMethods s l = some (pMethods s l) := by
 unfold s_AreMethods
 rw [all_loop (L := s_AreMethods_L1 s l) (f := fun m => s_IsMethod s m) (p := pMethod s) (e := pSchema s && decide ((l.length : Int) ≤ 5)) (fun k => by
   rw [s_AreMethods_L1, s_IsSchema_eq]
   cases pSchema s <;> rfl) (fun x r k => rfl) l 0 (fun x hx => s_IsMethod_eq s x hs (hl.2 x hx).1), pMethods]
 cases pSchema s <;> cases decide ((l.length : Int) ≤ 5) <;> cases l.all (pMethod s) <;> rfl
theorem g_slices_ContainsFunc_impl_Method_impl_Method_iAreMethods1_eq (l : List Method) (s : List Int) (hs : s.length < 4294967296) (hl : bdL bd_Method l) : g_slices_ContainsFunc_impl_Method_impl_Method_iAreMethods1 l s = some (l.any fun x => !pMethod s x) := by
 unfold g_slices_ContainsFunc_impl_Method_impl_Method_iAreMethods1 g_slices_IndexFunc_impl_Method_impl_Method_iAreMethods1
 rw [index_loop (L := g_slices_IndexFunc_impl_Method_impl_Method_iAreMethods1_L1 s) (f := fun x => i_AreMethods_1 x s) (p := fun x => !pMethod s x) (fun k => rfl) (fun x r k => rfl) l 0 (fun x hx => by rw [i_AreMethods_1, i_IsMethod_eq s x hs (hl.2 x hx).1]; rfl), Option.bind_some, ixF_neg]
theorem i_AreMethods_eq (s : List Int) (l : List Method) (hs : s.length < 4294967296) (hl : bdL bd_Method l) : i_AreMethods s l = some (pMethods s l) := by
 simp only [i_AreMethods, i_IsSchema_eq, Option.bind_some, g_slices_ContainsFunc_impl_Method_impl_Method_iAreMethods1_eq l s hs hl, pMethods, List.all_eq_not_any_not]
 cases pSchema s <;> cases decide ((l.length : Int) ≤ 5) <;> rfl
theorem g_slices_ContainsFunc_int_int_iareValues1_eq (l : List Int) : g_slices_ContainsFunc_int_int_iareValues1 l = some (l.any fun x => !pIn 0 9 x) := by
 unfold g_slices_ContainsFunc_int_int_iareValues1 g_slices_IndexFunc_int_int_iareValues1
 rw [index_loop (L := g_slices_IndexFunc_int_int_iareValues1_L1) (f := fun x => i_areValues_1 x) (p := fun x => !pIn 0 9 x) (fun k => rfl) (fun x r k => rfl) l 0 (fun x hx => rfl), Option.bind_some, ixF_neg]
theorem i_areValues_eq (l : List Int) : i_areValues l = some (l.all (pIn 0 9)) := by
 simp only [i_areValues, g_slices_ContainsFunc_int_int_iareValues1_eq, Option.bind_some, List.all_eq_not_any_not]
def pFact (s : List Int) (f : Fact) : Bool := pHasRel s f.Rel && (((f.Values.length : Int) == pAr s f.Rel) && f.Values.all (pIn 0 9))
theorem s_IsFact_eq (s : List Int) (f : Fact) (hs : s.length < 4294967296) : s_IsFact s f = some (pFact s f) := by
 simp only [s_IsFact, s_IsSchema_eq, s_l1In_eq, Option.bind_some]
 rw [wrap_in (by omega) (by omega)]
 have hL : s_IsFact_L1 f.Values 0 = some (f.Values.all (pIn 0 9)) := by
   have := all_loop (L := s_IsFact_L1) (f := fun x => some (pIn 0 9 x)) (p := pIn 0 9) (e := true) (fun _ => rfl) (fun x r' k => rfl) f.Values 0 (fun _ _ => rfl)
   simpa using this
 unfold pFact
 cases hF : pHasRel s f.Rel
 · simp only [pHasRel] at hF
   cases h1 : pSchema s
   · rfl
   · rw [h1, Bool.true_and] at hF
     simp [hF]
 · obtain ⟨e1, -⟩ := pAr_ix hF
   rw [hL, e1]
   simp only [pHasRel, Bool.and_eq_true] at hF
   simp only [hF, Bool.not_true, cond_false, Option.bind_some, bne]
   cases ((f.Values.length : Int) == pAr s f.Rel) <;> rfl
theorem i_IsFact_eq (s : List Int) (f : Fact) (hs : s.length < 4294967296) : i_IsFact s f = some (pFact s f) := by
 simp only [i_IsFact, i_hasRel_eq _ _ hs, Option.bind_some, pFact]
 cases hF : pHasRel s f.Rel
 · rfl
 obtain ⟨e1, -⟩ := pAr_ix hF
 simp only [e1, Option.bind_some, i_areValues_eq, cond_true, Bool.true_and]
 cases ((f.Values.length : Int) == pAr s f.Rel) <;> rfl
def pFacts (s : List Int) (l : List Fact) : Bool := adjB (pFact s) (fun y x => decide (0 ≤ pCmpFact y x)) none l && (pSchema s && decide ((l.length : Int) ≤ 24))
theorem s_AreFacts_eq (s : List Int) (l : List Fact) (hs : s.length < 4294967296) (hl : bdL bd_Fact l) : s_AreFacts s l = some (pFacts s l) :=
 adj_loop (L := s_AreFacts_L1 s l) (P := bd_Fact) (p := pFact s) (q := fun y x => decide (0 ≤ pCmpFact y x)) l hl.2 hl.1 (fun _ => by
   rw [s_AreFacts_L1, s_IsSchema_eq]
   cases pSchema s <;> rfl) (fun x r _ => by
   rw [s_AreFacts_L1, s_IsFact_eq s x hs]
   simp only [Option.bind_some, dec_zero]
   cases pFact s x <;> rfl) (fun x r k y _ hy hy2 hk => by
   rw [s_AreFacts_L1, s_IsFact_eq s x hs]
   simp only [Option.bind_some, dec_succ, ix_prev _ k hk, hy2, s_CompareFacts_eq y x hy.1]
   cases pFact s x <;> cases decide (0 ≤ pCmpFact y x) <;> rfl)
theorem i_AreFacts_eq (s : List Int) (l : List Fact) (hs : s.length < 4294967296) (hl : bdL bd_Fact l) : i_AreFacts s l = some (pFacts s l) :=
 adj_loop (L := i_AreFacts_L1 s l) (P := bd_Fact) (p := pFact s) (q := fun y x => decide (0 ≤ pCmpFact y x)) l hl.2 hl.1 (fun _ => by
   rw [i_AreFacts_L1, i_IsSchema_eq]
   cases pSchema s <;> rfl) (fun x r _ => by
   rw [i_AreFacts_L1, i_IsFact_eq s x hs]
   simp only [Option.bind_some, dec_zero]
   cases pFact s x <;> rfl) (fun x r k y _ hy hy2 hk => by
   rw [i_AreFacts_L1, i_IsFact_eq s x hs]
   simp only [Option.bind_some, dec_succ, ix_prev _ k hk, hy2, i_CompareFacts_eq y x]
   cases pFact s x <;> cases decide (0 ≤ pCmpFact y x) <;> rfl)
def pMeth (l : List Method) (m : Int) : Method := (ix l m).getD ⟨0, [], 0, 0, 0⟩
theorem pMeth_ix {l : List Method} {m : Int} (h : pIn 0 ((l.length : Int) - 1) m = true) : ix l m = some (pMeth l m) ∧ pMeth l m ∈ l := by
 obtain ⟨x, h1, h2⟩ := pIn_ix h
 unfold pMeth
 rw [h1]; exact ⟨rfl, List.mem_of_getElem? h2⟩
def pAccess (s : List Int) (l : List Method) (a : Access) : Bool := pMethods s l && (pIn 0 ((l.length : Int) - 1) a.Method && (((a.Values.length : Int) == ((pMeth l a.Method).Inputs.length : Int)) && a.Values.all (pIn 0 9)))
theorem s_IsAccess_eq (s : List Int) (l : List Method) (a : Access) (hs : s.length < 4294967296) (hl : bdL bd_Method l) : s_IsAccess s l a = some (pAccess s l a) := by
 have h1 := hl.1
 have hL : s_IsAccess_L1 a.Values 0 = some (a.Values.all (pIn 0 9)) := by
   have := all_loop (L := s_IsAccess_L1) (f := fun x => some (pIn 0 9 x)) (p := pIn 0 9) (e := true) (fun _ => rfl) (fun x r' k => rfl) a.Values 0 (fun _ _ => rfl)
   simpa using this
 simp only [s_IsAccess, s_AreMethods_eq s l hs hl, s_l1In_eq, Option.bind_some, pAccess, hL]
 rw [wrap_in (by omega) (by omega)]
 cases pMethods s l
 · rfl
 cases hm : pIn 0 ((l.length : Int) - 1) a.Method
 · rfl
 rw [(pMeth_ix hm).1]
 simp only [Option.bind_some, Bool.not_true, cond_false, bne]
 cases ((a.Values.length : Int) == ((pMeth l a.Method).Inputs.length : Int)) <;> rfl
def pFitL (f : Fact) (vals : List Int) : List Int → Nat → Bool
 | [], _ => true
 | x :: r, k => (f.Values[x.toNat]?.getD 0 == vals[k]?.getD 0) && pFitL f vals r (k + 1)
def pFits (m : Method) (vals : List Int) (f : Fact) : Bool := f.Rel == m.Rel && pFitL f vals m.Inputs 0
theorem ix_getD (l : List Int) (x : Int) (h : 0 ≤ x ∧ x < (l.length : Int)) : ix l x = some (l[x.toNat]?.getD 0) := by
 have hlt : x.toNat < l.length := by omega
 unfold ix
 rw [if_pos h.1, List.getElem?_eq_getElem hlt]; rfl
theorem s_l5Fits_loop (vals : List Int) (f : Fact) : ∀ (l : List Int) (k : Nat), (∀ x ∈ l, 0 ≤ x ∧ x < (f.Values.length : Int)) → k + l.length ≤ vals.length → s_l5Fits_L1 vals f l k = some (pFitL f vals l k)
 | [], _, _, _ => rfl
 | x :: r, k, h, hl => by
   simp only [List.length_cons] at hl
   rw [s_l5Fits_L1, ix_getD _ _ (h x (by simp)), ix_getD _ _ ⟨by omega, by omega⟩, Option.bind_some, Option.bind_some, pFitL, Int.toNat_natCast]
   by_cases e : f.Values[x.toNat]?.getD 0 = vals[k]?.getD 0
   · rw [if_neg (by simp [e]), s_l5Fits_loop vals f r (k + 1) (fun y hy => h y (by simp [hy])) (by omega)]; simp [e]
   · rw [if_pos (by simpa using e)]; simp [e]
theorem i_matches_loop (f : Fact) (a : Access) : ∀ (l : List Int) (k : Nat), (∀ x ∈ l, 0 ≤ x ∧ x < (f.Values.length : Int)) → k + l.length ≤ a.Values.length → i_matches_1_L1 f a l k = some (!pFitL f a.Values l k)
 | [], _, _, _ => rfl
 | x :: r, k, h, hl => by
   simp only [List.length_cons] at hl
   rw [i_matches_1_L1, ix_getD _ _ (h x (by simp)), ix_getD _ _ ⟨by omega, by omega⟩, Option.bind_some, Option.bind_some, pFitL, Int.toNat_natCast]
   by_cases e : f.Values[x.toNat]?.getD 0 = a.Values[k]?.getD 0
   · rw [if_neg (by simp [e]), i_matches_loop f a r (k + 1) (fun y hy => h y (by simp [hy])) (by omega)]; simp [e]
   · rw [if_pos (by simpa using e)]; simp [e]
def pFitOK (m : Method) (vals : List Int) (f : Fact) : Prop := (f.Rel = m.Rel → ∀ x ∈ m.Inputs, 0 ≤ x ∧ x < (f.Values.length : Int)) ∧ m.Inputs.length ≤ vals.length
theorem s_l5Fits_eq (m : Method) (vals : List Int) (f : Fact) (h : pFitOK m vals f) : s_l5Fits m vals f = some (pFits m vals f) := by
 unfold s_l5Fits pFits
 by_cases e : f.Rel = m.Rel
 · rw [if_neg (by simp [e]), s_l5Fits_loop vals f m.Inputs 0 (h.1 e) (by have := h.2; omega)]; simp [e]
 · rw [if_pos (by simpa using e)]; simp [e]
theorem i_matches_1_eq (f : Fact) (m : Method) (a : Access) (h : pFitOK m a.Values f) : i_matches_1 f m a = some (!pFits m a.Values f) := by
 unfold i_matches_1 pFits
 by_cases e : f.Rel = m.Rel
 · rw [if_neg (by simp [e]), i_matches_loop f a m.Inputs 0 (h.1 e) (by have := h.2; omega)]; simp [e]
 · rw [if_pos (by simpa using e)]; simp [e]
theorem pFitOK_of {s : List Int} {l : List Method} {a : Access} {f : Fact} (h1 : pAccess s l a = true) (h2 : pFact s f = true) : pFitOK (pMeth l a.Method) a.Values f := by
 simp only [pAccess, pMethods, Bool.and_eq_true, List.all_eq_true] at h1
 obtain ⟨⟨-, -, hm⟩, hi, hv, -⟩ := h1
 have hmm := hm _ (pMeth_ix hi).2
 simp only [pMethod, Bool.and_eq_true, List.all_eq_true] at hmm
 obtain ⟨-, -, -, -, -, hin⟩ := hmm
 simp only [pFact, Bool.and_eq_true] at h2
 obtain ⟨-, hf, -⟩ := h2
 refine ⟨fun e x hx => ?_, by simp at hv; omega⟩
 have := hin x hx
 simp [pIn] at this hf
 rw [hf, e]
 omega
theorem pFacts_all {s : List Int} {l : List Fact} (h : pFacts s l = true) : ∀ f ∈ l, pFact s f = true := by
 unfold pFacts at h
 rw [adjB_and] at h
 simp only [Bool.and_eq_true, List.all_eq_true] at h
 exact h.1.2
theorem i_copyFact_eq (a : Fact) (h : bd_Fact a) : i_copyFact a = some a := by simp [i_copyFact, g_slices_Clone_int_int_eq _ h.1]
theorem i_copyFacts_eq (l : List Fact) (h : bdL bd_Fact l) : i_copyFacts l = some l :=
 copy_all (L := i_copyFacts_L1) (fun _ _ => rfl) (fun x r k c hx hc => by rw [i_copyFacts_L1, i_copyFact_eq x hx, Option.bind_some, app1 hc, Option.bind_some]) l h
theorem i_matches_eq (s : List Int) (l : List Method) (facts : List Fact) (a : Access) (h1 : pAccess s l a = true) (h2 : ∀ f ∈ facts, pFact s f = true) (hb : bdL bd_Fact facts) : i_matches l facts a = some (facts.filter (pFits (pMeth l a.Method) a.Values)) := by
 have hi : pIn 0 ((l.length : Int) - 1) a.Method = true := by
   simp only [pAccess, Bool.and_eq_true] at h1
   exact h1.2.1
 rw [i_matches, (pMeth_ix hi).1, Option.bind_some, i_copyFacts_eq facts hb, Option.bind_some, g_slices_DeleteFunc_impl_Fact_impl_Fact_imatches1,
   delL_of (p := fun f => !pFits (pMeth l a.Method) a.Values f) (fun f hf => i_matches_1_eq f _ a (pFitOK_of h1 (h2 f hf)))]
 simp
theorem s_l7Logged_eq (log : List Access) (a : Access) : s_l7Logged log a = some (log.any fun x => pSameAccess x a) :=
 any_loop (L := s_l7Logged_L1 a) (f := fun x => s_l5Same x a) (fun _ => rfl) (fun _ _ _ => rfl) log 0 (fun x _ => s_l5Same_eq x a)
theorem g_slices_ContainsFunc_impl_Access_impl_Access_ihasAccess1_eq (l : List Access) (a : Access) : g_slices_ContainsFunc_impl_Access_impl_Access_ihasAccess1 l a = some (l.any fun x => pSameAccess x a) := by
 unfold g_slices_ContainsFunc_impl_Access_impl_Access_ihasAccess1 g_slices_IndexFunc_impl_Access_impl_Access_ihasAccess1
 rw [index_loop (L := g_slices_IndexFunc_impl_Access_impl_Access_ihasAccess1_L1 a) (f := fun x => i_hasAccess_1 x a) (p := fun x => pSameAccess x a) (fun k => rfl) (fun x r k => rfl) l 0 (fun x hx => by rw [i_hasAccess_1, i_sameAccess_eq]; rfl), Option.bind_some, ixF_neg]
theorem i_hasAccess_eq (log : List Access) (a : Access) : i_hasAccess log a = some (log.any fun x => pSameAccess x a) := by
 rw [i_hasAccess, g_slices_ContainsFunc_impl_Access_impl_Access_ihasAccess1_eq]; rfl
theorem s_l2One_eq (r : Int) (v : List Int) (h : v.length < 4294967296) : s_l2One r v = some { Rel := r, Values := v } := by simp [s_l2One, app_nil h]
theorem s_l5Matches_eq (m : Method) (vals : List Int) (facts : List Fact) (hf : ∀ f ∈ facts, pFitOK m vals f) (hb : bdL bd_Fact facts) : s_l5Matches m vals facts = some (facts.filter (pFits m vals)) := by
 have := filter_loop (L := s_l5Matches_L1 m vals) (P := fun f => pFitOK m vals f ∧ bd_Fact f) (p := pFits m vals) (fun _ _ => rfl) (fun x r k c hx hc => by
   rw [s_l5Matches_L1, s_l5Fits_eq _ _ _ hx.1, Option.bind_some]
   cases pFits m vals x <;> simp [s_l2One_eq _ _ hx.2.1, app1 hc]) facts 0 [] (fun x hx => ⟨hf x hx, hb.2 x hx⟩) (by simpa using hb.1)
 simpa [s_l5Matches] using this
theorem s_l2Copy_eq (l : List Fact) (h : bdL bd_Fact l) : s_l2Copy l = some l :=
 copy_all (L := s_l2Copy_L1) (fun _ _ => rfl) (fun x r k c hx hc => by rw [s_l2Copy_L1, s_l2One_eq _ _ hx.1, Option.bind_some, app1 hc, Option.bind_some]) l h
theorem s_l8Log_eq (l : List Access) (h : bdL bd_Access l) : s_l8Log l = some l :=
 copy_all (L := s_l8Log_L1) (fun _ _ => rfl) (fun x r k c hx hc => by rw [s_l8Log_L1, s_l8Access_eq _ _ hx.1, Option.bind_some, app1 hc, Option.bind_some]) l h
theorem cmpI_anti (x y : Int) : cmpI y x = -cmpI x y := by
 unfold cmpI
 repeat' split
 all_goals omega
theorem cmpL_anti : ∀ (a b : List Int), cmpL b a = -cmpL a b
 | [], [] => rfl
 | [], _ :: _ => rfl
 | _ :: _, [] => rfl
 | x :: a, y :: b => by
   simp only [cmpL, cmpI_anti x y, cmpL_anti a b]
   by_cases h : cmpI x y = 0
   · simp [h]
   · rw [if_pos (by simp only [bne_iff_ne]; omega), if_pos (by simpa using h)]
theorem pCmpFact_anti (a b : Fact) : pCmpFact b a = -pCmpFact a b := by
 unfold pCmpFact
 rw [cmpI_anti a.Rel b.Rel, cmpL_anti a.Values b.Values]
 by_cases h : cmpI a.Rel b.Rel = 0
 · simp [h]
 · rw [if_pos (by simp only [bne_iff_ne]; omega), if_pos (by simpa using h)]
def pHasF (l : List Fact) (f : Fact) : Bool := l.any fun x => pCmpFact x f == 0
theorem s_HasFact_eq (l : List Fact) (f : Fact) (h : bdL bd_Fact l) : s_HasFact l f = some (pHasF l f) := by
 have hx : ∀ x ∈ l, x.Values.length < 4294967296 := fun x hx => (h.2 x hx).1
 clear h
 unfold s_HasFact
 generalize 0 = k
 induction l generalizing k with
 | nil => rfl
 | cons x l ih =>
   unfold s_HasFact_L1
   rw [s_CompareFacts_eq x f (hx x (by simp)), Option.bind_some]
   by_cases h : pCmpFact x f = 0
   · rw [if_pos (by simpa using h)]; simp [pHasF, h]
   · rw [if_neg (by simpa using h), ih (fun y hy => hx y (by simp [hy]))]; simp [pHasF, h]
theorem g_slices_ContainsFunc_impl_Fact_impl_Fact_iHasFact1_eq (l : List Fact) (f : Fact) : g_slices_ContainsFunc_impl_Fact_impl_Fact_iHasFact1 l f = some (pHasF l f) := by
 unfold g_slices_ContainsFunc_impl_Fact_impl_Fact_iHasFact1 g_slices_IndexFunc_impl_Fact_impl_Fact_iHasFact1
 rw [index_loop (L := g_slices_IndexFunc_impl_Fact_impl_Fact_iHasFact1_L1 f) (f := fun x => i_HasFact_1 x f) (p := fun x => pCmpFact x f == 0) (fun k => rfl) (fun x r k => rfl) l 0 (fun x hx => by rw [i_HasFact_1, i_CompareFacts_eq]; rfl), Option.bind_some, ixF_neg]
 rfl
theorem i_HasFact_eq (l : List Fact) (f : Fact) : i_HasFact l f = some (pHasF l f) := by
 rw [i_HasFact, g_slices_ContainsFunc_impl_Fact_impl_Fact_iHasFact1_eq]; rfl
def pInsF (f : Fact) : List Fact → List Fact
 | [] => [f]
 | x :: l => if 0 < pCmpFact x f then f :: x :: l else x :: pInsF f l
theorem pInsF_len (f : Fact) : ∀ l : List Fact, (pInsF f l).length = l.length + 1
 | [] => rfl
 | x :: l => by
   unfold pInsF
   split
   · rfl
   · simp [pInsF_len f l]
theorem pInsF_ix (f : Fact) : ∀ (l : List Fact) (k : Nat), (ixF (fun x => decide (0 < pCmpFact x f)) l k = -1 ∧ pInsF f l = l ++ [f]) ∨ ∃ j : Nat, j < l.length ∧ ixF (fun x => decide (0 < pCmpFact x f)) l k = ((k + j : Nat) : Int) ∧ pInsF f l = l.take j ++ f :: l.drop j
 | [], k => .inl ⟨rfl, rfl⟩
 | x :: l, k => by
   unfold ixF pInsF
   by_cases h : 0 < pCmpFact x f
   · rw [if_pos h, if_pos (by simpa using h)]
     exact .inr ⟨0, by simp, by simp, by simp⟩
   · rw [if_neg h, if_neg (by simpa using h)]
     rcases pInsF_ix f l (k + 1) with ⟨h1, h2⟩ | ⟨j, h1, h2, h3⟩
     · exact .inl ⟨h1, by rw [h2]; rfl⟩
     · exact .inr ⟨j + 1, by simp; omega, by rw [h2]; congr 1; omega, by rw [h3]; rfl⟩
def pAddF (l : List Fact) (f : Fact) : List Fact := if pHasF l f then l else pInsF f l
theorem pAddF_len (l : List Fact) (f : Fact) : (pAddF l f).length ≤ l.length + 1 := by
 unfold pAddF
 split
 · omega
 · rw [pInsF_len]; exact Nat.le_refl _
theorem i_added_eq (l : List Fact) (f : Fact) (hl : l.length + 1 < 4294967296) (hf : bd_Fact f) : i_added l f = some (pAddF l f) := by
 unfold i_added pAddF
 rw [i_HasFact_eq, Option.bind_some]
 cases hh : pHasF l f
 · rw [if_neg (by simp), if_neg (by simp)]
   have hix : g_slices_IndexFunc_impl_Fact_impl_Fact_iadded1 l f = some (ixF (fun x => decide (0 < pCmpFact x f)) l 0) :=
     index_loop (L := g_slices_IndexFunc_impl_Fact_impl_Fact_iadded1_L1 f) (f := fun x => i_added_1 x f) (p := fun x => decide (0 < pCmpFact x f)) (fun k => rfl) (fun x r k => rfl) l 0 (fun x hx => by rw [i_added_1, i_CompareFacts_eq]; rfl)
   rw [hix, Option.bind_some]
   rcases pInsF_ix f l 0 with ⟨h1, h2⟩ | ⟨j, h1, h2, h3⟩
   · rw [h1, if_pos (by decide), i_copyFact_eq f hf, Option.bind_some, g_slices_Insert_impl_Fact_impl_Fact, h2]
     rw [if_pos ⟨by omega, by omega, hl⟩, Option.bind_some, Int.toNat_natCast, List.take_length, List.drop_length]
   · rw [h2, if_neg (by simp only [decide_eq_true_eq]; omega), i_copyFact_eq f hf, Option.bind_some, g_slices_Insert_impl_Fact_impl_Fact, h3]
     rw [if_pos ⟨by omega, by omega, hl⟩, Option.bind_some, Int.toNat_natCast, Nat.zero_add]
 · rw [if_pos rfl, if_pos rfl]
theorem s_AddFact_L1_done (f : Fact) : ∀ (l : List Fact) (k : Nat) (c : List Fact), (∀ x ∈ l, bd_Fact x) → c.length + l.length < 4294967296 → s_AddFact_L1 f l k c true = some (c ++ l)
 | [], k, c, _, _ => by simp [s_AddFact_L1]
 | x :: l, k, c, hx, h => by
   simp only [List.length_cons] at h
   unfold s_AddFact_L1
   rw [Bool.not_true, cond_false, Option.bind_some]
   dsimp only
   rw [if_neg (by simp), s_l2One_eq _ _ (hx x (by simp)).1, Option.bind_some, app_ok (by simp; omega), Option.bind_some, Option.bind_some]
   dsimp only
   rw [s_AddFact_L1_done f l _ _ (fun y hy => hx y (by simp [hy])) (by simp; omega)]
   simp
theorem s_AddFact_L1_eq (f : Fact) (hf : bd_Fact f) : ∀ (l : List Fact) (k : Nat) (c : List Fact) (b : Bool), (∀ x ∈ l, bd_Fact x) → c.length + l.length + 1 < 4294967296 → s_AddFact_L1 f l k c b = some (if b then c ++ l else c ++ pInsF f l)
 | [], k, c, b, _, h => by
   unfold s_AddFact_L1
   cases b
   · rw [if_pos (show (!false) = true from rfl), s_l2One_eq _ _ hf.1, Option.bind_some, app_ok (by simp at h ⊢; omega), if_neg (by simp)]; rfl
   · simp
 | x :: l, k, c, b, hx, h => by
   simp only [List.length_cons] at h
   have hx1 := hx x (by simp)
   have hx2 : ∀ y ∈ l, bd_Fact y := fun y hy => hx y (by simp [hy])
   unfold s_AddFact_L1
   cases b
   · rw [Bool.not_false, cond_true, s_CompareFacts_eq f x hf.1, Option.bind_some, Option.bind_some]
     dsimp only
     have ha := pCmpFact_anti f x
     by_cases hc : 0 < pCmpFact x f
     · rw [if_pos (by simp only [decide_eq_true_eq]; omega), s_l2One_eq _ _ hf.1, Option.bind_some, app_ok (by simp; omega), Option.bind_some, s_l2One_eq _ _ hx1.1, Option.bind_some, app_ok (by simp; omega), Option.bind_some, Option.bind_some]
       dsimp only
       rw [s_AddFact_L1_done f l _ _ hx2 (by simp; omega), if_neg (by simp)]
       simp [pInsF, hc]
     · rw [if_neg (by simp only [decide_eq_true_eq]; omega), s_l2One_eq _ _ hx1.1, Option.bind_some, app_ok (by simp; omega), Option.bind_some, Option.bind_some]
       dsimp only
       rw [s_AddFact_L1_eq f hf l _ _ _ hx2 (by simp; omega), if_neg (by simp), if_neg (by simp)]
       simp [pInsF, hc]
   · rw [if_pos rfl]
     exact s_AddFact_L1_done f (x :: l) k c hx (by simp; omega)
theorem s_AddFact_eq (l : List Fact) (f : Fact) (hb : bdL bd_Fact l) (hl : l.length + 1 < 4294967296) (hf : bd_Fact f) : s_AddFact l f = some (pAddF l f) := by
 unfold s_AddFact pAddF
 rw [s_HasFact_eq l f hb, Option.bind_some, s_AddFact_L1_eq f hf l 0 [] _ hb.2 (by simpa using hl), List.nil_append, List.nil_append]
theorem compactU_spec {zs : List Int} (h : zs.Pairwise (· ≤ ·)) : ∀ m, m ≤ zs.length →
   (Lib.compactUpTo zs.toArray m).Pairwise (· < ·) ∧ (∀ x, x ∈ Lib.compactUpTo zs.toArray m ↔ x ∈ zs.take m) ∧ (∀ x ∈ Lib.compactUpTo zs.toArray m, ∀ y, zs[m]? = some y → x ≤ y) := by
 intro m
 induction m with
 | zero => intro _; simp [Lib.compactUpTo]
 | succ m ih =>
   intro hm
   obtain ⟨i1, i2, i3⟩ := ih (by omega)
   have hlt : m < zs.length := by omega
   have hg : zs.toArray[m]! = zs[m] := by simp [hlt]
   have hnext : ∀ x, x ∈ zs.take (m + 1) → ∀ y, zs[m + 1]? = some y → x ≤ y := by
     intro x hx y hy
     obtain ⟨j, hj, rfl⟩ := List.mem_iff_getElem.1 hx
     obtain ⟨hy1, rfl⟩ := List.getElem?_eq_some_iff.1 hy
     rw [List.getElem_take]
     simp only [List.length_take] at hj
     exact List.pairwise_iff_getElem.1 h j (m + 1) (by omega) hy1 (by omega)
   rw [Lib.compactUpTo_succ, hg]
   have htake : zs.take (m + 1) = zs.take m ++ [zs[m]] := by rw [List.take_succ_eq_append_getElem hlt]
   by_cases hk : Lib.keeps zs.toArray m = true
   · rw [if_pos hk]
     have hlow : ∀ x ∈ Lib.compactUpTo zs.toArray m, x < zs[m] := by
       intro x hx
       have hm0 : m ≠ 0 := by
         intro e; subst e; simp [Lib.compactUpTo] at hx
       have hpl : m - 1 < zs.length := by omega
       have hpm : zs.toArray[m - 1]! = zs[m - 1] := by simp [hpl]
       have hne : zs[m] ≠ zs[m - 1] := by
         simp only [Lib.keeps, decide_eq_true_eq, hg, hpm] at hk
         rcases hk with h0 | h0
         · exact absurd h0 hm0
         · exact h0
       have hx1 := (i2 x).1 hx
       obtain ⟨j, hj, rfl⟩ := List.mem_iff_getElem.1 hx1
       rw [List.getElem_take] at *
       simp only [List.length_take] at hj
       have a1 : zs[j] ≤ zs[m - 1] := by
         rcases Nat.lt_or_ge j (m - 1) with h1 | h1
         · exact List.pairwise_iff_getElem.1 h j (m - 1) (by omega) hpl h1
         · have : j = m - 1 := by omega
           subst this; exact Int.le_refl _
       have a2 : zs[m - 1] ≤ zs[m] := List.pairwise_iff_getElem.1 h (m - 1) m hpl hlt (by omega)
       omega
     refine ⟨?_, ?_, ?_⟩
     · rw [List.pairwise_append]
       exact ⟨i1, by simp, fun a ha b hb => by simp at hb; subst hb; exact hlow a ha⟩
     · intro x; rw [htake, List.mem_append, List.mem_append, i2]
     · intro x hx y hy
       apply hnext x _ y hy
       rw [htake, List.mem_append, ← i2, ← List.mem_append]; exact hx
   · rw [if_neg hk, List.append_nil]
     have hm0 : m ≠ 0 := fun e => hk (by simp [Lib.keeps, e])
     have hpl : m - 1 < zs.length := by omega
     have hpm : zs.toArray[m - 1]! = zs[m - 1] := by simp [hpl]
     have he : zs[m] = zs[m - 1] := by
       simp only [Lib.keeps, decide_eq_true_eq, hg, hpm] at hk
       exact Classical.byContradiction fun hc => hk (.inr hc)
     have hin : zs[m] ∈ zs.take m := by
       rw [he]
       exact List.mem_iff_getElem.2 ⟨m - 1, by simp; omega, by rw [List.getElem_take]⟩
     have hiff : ∀ x, x ∈ zs.take (m + 1) ↔ x ∈ zs.take m := by
       intro x; rw [htake, List.mem_append, List.mem_singleton]
       exact ⟨fun h => h.elim id fun h => h ▸ hin, .inl⟩
     refine ⟨i1, fun x => by rw [i2, hiff], fun x hx y hy => hnext x ((hiff x).2 ((i2 x).1 hx)) y hy⟩
theorem compact_spec {zs : List Int} (h : zs.Pairwise (· ≤ ·)) : (Lib.compact zs).Pairwise (· < ·) ∧ ∀ x, x ∈ Lib.compact zs ↔ x ∈ zs := by
 obtain ⟨h1, h2, -⟩ := compactU_spec h zs.length (Nat.le_refl _)
 exact ⟨h1, fun x => by rw [Lib.compact, h2, List.take_length]⟩
theorem ss_ext : ∀ {a b : List Int}, a.Pairwise (· < ·) → b.Pairwise (· < ·) → (∀ x, x ∈ a ↔ x ∈ b) → a = b
 | [], [], _, _, _ => rfl
 | [], y :: b, _, _, h => absurd ((h y).2 (by simp)) (by simp)
 | x :: a, [], _, _, h => absurd ((h x).1 (by simp)) (by simp)
 | x :: a, y :: b, ha, hb, h => by
   rw [List.pairwise_cons] at ha hb
   have e : x = y := by
     have h1 := (h x).1 (by simp)
     have h2 := (h y).2 (by simp)
     rw [List.mem_cons] at h1 h2
     rcases h1 with h1 | h1
     · exact h1
     · rcases h2 with h2 | h2
       · exact h2.symm
       · have := hb.1 x h1; have := ha.1 y h2; omega
   subst e
   rw [ss_ext ha.2 hb.2 fun z => ?_]
   constructor
   · intro hz
     have h1 := (h z).1 (by simp [hz])
     have := ha.1 z hz
     rcases List.mem_cons.1 h1 with h1 | h1
     · omega
     · exact h1
   · intro hz
     have h1 := (h z).2 (by simp [hz])
     have := hb.1 z hz
     rcases List.mem_cons.1 h1 with h1 | h1
     · omega
     · exact h1
def pIns (x : Int) : List Int → List Int
 | [] => [x]
 | y :: l => if x < y then x :: y :: l else y :: pIns x l
theorem pIns_mem {x : Int} : ∀ {l : List Int} {y : Int}, y ∈ pIns x l ↔ y = x ∨ y ∈ l
 | [], y => by simp [pIns]
 | z :: l, y => by
   unfold pIns
   split
   · simp
   · rw [List.mem_cons, pIns_mem, List.mem_cons]
     constructor <;> rintro (h | h | h) <;> simp [h]
theorem pIns_ss {x : Int} : ∀ {l : List Int}, l.Pairwise (· < ·) → x ∉ l → (pIns x l).Pairwise (· < ·)
 | [], _, _ => by simp [pIns]
 | z :: l, h, hn => by
   unfold pIns
   rw [List.mem_cons, not_or] at hn
   rw [List.pairwise_cons] at h
   split
   · rename_i hx
     rw [List.pairwise_cons, List.pairwise_cons]
     refine ⟨fun a ha => ?_, h⟩
     rcases List.mem_cons.1 ha with rfl | ha
     · exact hx
     · have := h.1 a ha; omega
   · rename_i hx
     rw [List.pairwise_cons]
     refine ⟨fun a ha => ?_, pIns_ss h.2 hn.2⟩
     rcases pIns_mem.1 ha with rfl | ha
     · omega
     · exact h.1 a ha
theorem pIns_len {x : Int} : ∀ {l : List Int}, (pIns x l).length = l.length + 1
 | [] => rfl
 | z :: l => by
   unfold pIns
   split
   · rfl
   · simp [pIns_len]
def pPut (l : List Int) (x : Int) : List Int := if x ∈ l then l else pIns x l
theorem pPut_mem {l : List Int} {x y : Int} : y ∈ pPut l x ↔ y = x ∨ y ∈ l := by
 unfold pPut
 split
 · rename_i h; exact ⟨.inr, fun h' => h'.elim (fun e => e ▸ h) id⟩
 · exact pIns_mem
theorem pPut_ss {l : List Int} {x : Int} (h : l.Pairwise (· < ·)) : (pPut l x).Pairwise (· < ·) := by
 unfold pPut
 split
 · exact h
 · exact pIns_ss h (by assumption)
theorem pPut_len {l : List Int} {x : Int} : (pPut l x).length ≤ l.length + 1 := by
 unfold pPut
 split
 · omega
 · rw [pIns_len]; exact Nat.le_refl _
theorem puts_mem {y : Int} : ∀ {v l : List Int}, y ∈ v.foldl pPut l ↔ y ∈ l ∨ y ∈ v
 | [], l => by simp
 | x :: v, l => by
   rw [List.foldl_cons, puts_mem, pPut_mem, List.mem_cons]
   constructor
   · rintro ((h | h) | h) <;> simp [h]
   · rintro (h | h | h) <;> simp [h]
theorem puts_ss : ∀ {v l : List Int}, l.Pairwise (· < ·) → (v.foldl pPut l).Pairwise (· < ·)
 | [], _, h => h
 | x :: v, l, h => puts_ss (v := v) (pPut_ss h)
theorem puts_sort (v : List Int) : v.foldl pPut [] = Lib.compact (v.mergeSort fun x y => decide (x ≤ y)) := by
 have hs : (v.mergeSort fun x y => decide (x ≤ y)).Pairwise (· ≤ ·) := by
   have := List.pairwise_mergeSort (le := fun x y : Int => decide (x ≤ y)) (fun a b c h1 h2 => by simp only [decide_eq_true_eq] at *; omega) (fun a b => by simp only [Bool.or_eq_true, decide_eq_true_eq]; omega) v
   exact this.imp fun h => by simpa using h
 obtain ⟨c1, c2⟩ := compact_spec hs
 exact ss_ext (puts_ss (by simp)) c1 fun x => by rw [puts_mem, c2, List.mem_mergeSort]; simp
theorem s_l2Has_eq (x : Int) (l : List Int) : s_l2Has l x = some (decide (x ∈ l)) := by
 unfold s_l2Has
 generalize 0 = k
 induction l generalizing k with
 | nil => rfl
 | cons y l ih =>
   unfold s_l2Has_L1
   by_cases h : y = x
   · subst h; simp
   · rw [if_neg (by simpa using h), ih]
     congr 1
     simp only [List.mem_cons, decide_eq_decide]
     exact ⟨.inr, fun h' => h'.elim (fun e => absurd e.symm h) id⟩
theorem s_l3Put_L1_eq (x : Int) : ∀ (l : List Int) (k : Nat) (c : List Int) (b : Bool), c.length + l.length + (bif b then 0 else 1) < 4294967296 → s_l3Put_L1 x l k c b = some (if b then c ++ l else c ++ pIns x l)
 | [], k, c, b, h => by
   unfold s_l3Put_L1
   cases b
   · simp only [cond_false, List.length_nil] at h
     rw [if_pos (show (!false) = true from rfl), app_ok (by simp; omega), if_neg (by simp)]; rfl
   · simp
 | y :: l, k, c, b, h => by
   simp only [List.length_cons] at h
   unfold s_l3Put_L1
   cases b
   · simp only [cond_false] at h
     by_cases hx : x < y
     · rw [if_pos (by simpa using hx), app_ok (by simp; omega), Option.bind_some, app_ok (by simp; omega), Option.bind_some, Option.bind_some]
       dsimp only
       rw [s_l3Put_L1_eq x l _ _ _ (by simp; omega), if_pos rfl, if_neg (by simp)]
       simp [pIns, hx]
     · rw [if_neg (by simpa using hx), app_ok (by simp; omega), Option.bind_some, Option.bind_some]
       dsimp only
       rw [s_l3Put_L1_eq x l _ _ _ (by simp; omega), if_neg (by simp), if_neg (by simp)]
       simp [pIns, hx]
   · simp only [cond_true] at h
     rw [if_neg (by simp), app_ok (by simp; omega), Option.bind_some, Option.bind_some]
     dsimp only
     rw [s_l3Put_L1_eq x l _ _ _ (by simp; omega), if_pos rfl, if_pos rfl]
     simp
theorem s_l3Put_eq (l : List Int) (x : Int) (h : l.length + 1 < 4294967296) : s_l3Put l x = some (pPut l x) := by
 unfold s_l3Put pPut
 rw [s_l2Has_eq, Option.bind_some]
 by_cases hx : x ∈ l
 · rw [if_pos (by simpa using hx), if_pos hx]
 · rw [if_neg (by simpa using hx), if_neg hx, s_l3Put_L1_eq x l 0 [] false (by simpa using h)]
   rfl
theorem cmpI_lt {x y : Int} : cmpI x y < 0 ↔ x < y := by unfold cmpI; split <;> (try split) <;> omega
theorem cmpI_gt {x y : Int} : 0 < cmpI x y ↔ y < x := by unfold cmpI; split <;> (try split) <;> omega
theorem cmpI_zero {x y : Int} : cmpI x y = 0 ↔ x = y := by unfold cmpI; split <;> (try split) <;> omega
theorem cmpL_zero : ∀ {a b : List Int}, cmpL a b = 0 ↔ a = b
 | [], [] => by simp [cmpL]
 | [], _ :: _ => by simp [cmpL]
 | _ :: _, [] => by simp [cmpL]
 | x :: a, y :: b => by
   unfold cmpL
   by_cases h : cmpI x y = 0
   · rw [if_neg (by simpa using h), cmpL_zero, cmpI_zero.1 h]; simp
   · rw [if_pos (by simpa using h)]
     constructor
     · intro h'; exact absurd h' h
     · intro h'; exact absurd (cmpI_zero.2 (List.cons.inj h').1) h
theorem cmpL_swap : ∀ {a b : List Int}, 0 < cmpL a b ↔ cmpL b a < 0
 | [], [] => by simp [cmpL]
 | [], _ :: _ => by simp [cmpL]
 | _ :: _, [] => by simp [cmpL]
 | x :: a, y :: b => by
   unfold cmpL
   by_cases h : cmpI x y = 0
   · have h2 := cmpI_zero.1 h
     subst h2
     rw [if_neg (by simpa using h), if_neg (by simpa using h)]; exact cmpL_swap
   · rw [if_pos (by simpa using h), if_pos (by have : ¬ cmpI y x = 0 := fun e => h (by rw [cmpI_zero] at *; exact e.symm)
                                               simpa using this), cmpI_gt, cmpI_lt]
theorem cmpL_trans : ∀ {a b c : List Int}, cmpL a b < 0 → cmpL b c < 0 → cmpL a c < 0
 | [], _, [], h1, h2 => by
   rename_i b
   cases b <;> simp [cmpL] at h1 h2
 | [], _, _ :: _, _, _ => by simp [cmpL]
 | _ :: _, [], _, h1, _ => by simp [cmpL] at h1
 | _ :: _, _ :: _, [], _, h2 => by simp [cmpL] at h2
 | x :: a, y :: b, z :: c, h1, h2 => by
   unfold cmpL at *
   by_cases e1 : cmpI x y = 0
   · have := cmpI_zero.1 e1
     subst this
     rw [if_neg (by simpa using e1)] at h1
     by_cases e2 : cmpI x z = 0
     · have := cmpI_zero.1 e2
       subst this
       rw [if_neg (by simpa using e1)] at h2 ⊢
       exact cmpL_trans h1 h2
     · rw [if_pos (by simpa using e2)] at h2 ⊢
       exact h2
   · rw [if_pos (by simpa using e1)] at h1
     by_cases e2 : cmpI y z = 0
     · have := cmpI_zero.1 e2
       subst this
       rw [if_pos (by simpa using e1)]; exact h1
     · rw [if_pos (by simpa using e2)] at h2
       rw [cmpI_lt] at h1 h2
       have : cmpI x z < 0 := cmpI_lt.2 (by omega)
       rw [if_pos (by simp; omega)]; exact this
theorem pCmpFact_L (a b : Fact) : pCmpFact a b = cmpL (a.Rel :: a.Values) (b.Rel :: b.Values) := rfl
theorem pCmpFact_zero {a b : Fact} : pCmpFact a b = 0 ↔ a = b := by
 rw [pCmpFact_L, cmpL_zero]
 constructor
 · intro h; cases a; cases b; simp at h; simp [h]
 · rintro rfl; rfl
theorem pCmpFact_swap {a b : Fact} : 0 < pCmpFact a b ↔ pCmpFact b a < 0 := by rw [pCmpFact_L, pCmpFact_L, cmpL_swap]
theorem pCmpFact_trans {a b c : Fact} : pCmpFact a b < 0 → pCmpFact b c < 0 → pCmpFact a c < 0 := by
 rw [pCmpFact_L, pCmpFact_L, pCmpFact_L]; exact cmpL_trans
def fLt (a b : Fact) : Prop := pCmpFact a b < 0
theorem pHasF_mem {l : List Fact} {f : Fact} : pHasF l f = true ↔ f ∈ l := by
 simp only [pHasF, List.any_eq_true, beq_iff_eq, pCmpFact_zero]
 constructor
 · rintro ⟨x, h, rfl⟩; exact h
 · intro h; exact ⟨f, h, rfl⟩
theorem pInsF_iff {f y : Fact} : ∀ {l : List Fact}, y ∈ pInsF f l ↔ y = f ∨ y ∈ l
 | [] => by simp [pInsF]
 | x :: l => by
   unfold pInsF
   split
   · simp
   · rw [List.mem_cons, pInsF_iff, List.mem_cons]
     constructor <;> rintro (h | h | h) <;> simp [h]
theorem pInsF_pw {f : Fact} : ∀ {l : List Fact}, l.Pairwise fLt → f ∉ l → (pInsF f l).Pairwise fLt
 | [], _, _ => by simp [pInsF]
 | x :: l, h, hn => by
   unfold pInsF
   rw [List.mem_cons, not_or] at hn
   rw [List.pairwise_cons] at h
   split
   · rename_i hx
     have hx' := pCmpFact_swap.1 hx
     rw [List.pairwise_cons, List.pairwise_cons]
     refine ⟨fun a ha => ?_, h⟩
     rcases List.mem_cons.1 ha with rfl | ha
     · exact hx'
     · exact pCmpFact_trans hx' (h.1 a ha)
   · rename_i hx
     rw [List.pairwise_cons]
     refine ⟨fun a ha => ?_, pInsF_pw h.2 hn.2⟩
     rcases pInsF_iff.1 ha with rfl | ha
     · have : pCmpFact x a ≠ 0 := fun e => hn.1 (pCmpFact_zero.1 e).symm
       show pCmpFact x a < 0
       omega
     · exact h.1 a ha
theorem pAddF_iff {l : List Fact} {f y : Fact} : y ∈ pAddF l f ↔ y = f ∨ y ∈ l := by
 unfold pAddF
 split
 · rename_i h
   rw [pHasF_mem] at h
   exact ⟨.inr, fun h' => h'.elim (fun e => e ▸ h) id⟩
 · exact pInsF_iff
theorem pAddF_pw {l : List Fact} {f : Fact} (h : l.Pairwise fLt) : (pAddF l f).Pairwise fLt := by
 unfold pAddF
 split
 · exact h
 · rename_i hn
   exact pInsF_pw h fun hm => hn (pHasF_mem.2 hm)
theorem pw_len : ∀ {a b : List Fact}, a.Pairwise fLt → (∀ x ∈ a, x ∈ b) → a.length ≤ b.length
 | [], _, _, _ => Nat.zero_le _
 | x :: a, b, h, hs => by
   rw [List.pairwise_cons] at h
   have hx := hs x (by simp)
   have h2 := pw_len (a := a) (b := b.filter fun y => !(pCmpFact y x == 0)) h.2 fun y hy => by
     have hne : ¬ pCmpFact y x = 0 := fun e => by
       have := h.1 y hy
       rw [pCmpFact_zero.1 e] at this
       have z : pCmpFact x x = 0 := pCmpFact_zero.2 rfl
       unfold fLt at this; omega
     exact List.mem_filter.2 ⟨hs y (by simp [hy]), by simpa using hne⟩
   have h3 : (b.filter fun y => !(pCmpFact y x == 0)).length < b.length := List.length_filter_lt_length_iff_exists.2 ⟨x, hx, by simp [pCmpFact_zero]⟩
   simp only [List.length_cons]; omega
theorem adj_pw {p : Fact → Bool} : ∀ (o : Option Fact) (l : List Fact), adjB p (fun y x => decide (0 ≤ pCmpFact y x)) o l = true ↔ (∀ x ∈ l, p x = true) ∧ (∀ y, o = some y → ∀ x ∈ l, fLt y x) ∧ l.Pairwise fLt
 | o, [] => by cases o <;> simp [adjB]
 | none, x :: l => by
   rw [adjB, Bool.and_eq_true, adj_pw (some x) l, List.pairwise_cons]
   simp only [List.mem_cons, forall_eq_or_imp, reduceCtorEq, false_implies, implies_true, true_and, Option.some.injEq, forall_eq']
   exact ⟨fun ⟨a, b, c, d⟩ => ⟨⟨a, b⟩, c, d⟩, fun ⟨⟨a, b⟩, c, d⟩ => ⟨a, b, c, d⟩⟩
 | some y, x :: l => by
   rw [adjB, Bool.and_eq_true, Bool.and_eq_true, adj_pw (some x) l, List.pairwise_cons]
   simp only [List.mem_cons, forall_eq_or_imp, Option.some.injEq, forall_eq', Bool.not_eq_true', decide_eq_false_iff_not, Int.not_le]
   constructor
   · rintro ⟨⟨a, b⟩, c, d, e⟩
     exact ⟨⟨a, c⟩, ⟨b, fun z hz => pCmpFact_trans b (d z hz)⟩, d, e⟩
   · rintro ⟨⟨a, c⟩, ⟨b, _⟩, d, e⟩
     exact ⟨⟨a, b⟩, c, d, e⟩
theorem pFacts_iff {s : List Int} {l : List Fact} : pFacts s l = true ↔ (∀ f ∈ l, pFact s f = true) ∧ l.Pairwise fLt ∧ pSchema s = true ∧ l.length ≤ 24 := by
 rw [pFacts, Bool.and_eq_true, adj_pw, Bool.and_eq_true, decide_eq_true_eq]
 simp only [reduceCtorEq, false_implies, implies_true, true_and]
 constructor
 · rintro ⟨⟨a, b⟩, c, d⟩; exact ⟨a, b, c, by omega⟩
 · rintro ⟨a, b, c, d⟩; exact ⟨⟨a, b⟩, c, by omega⟩
theorem pw_facts {s : List Int} {a b : List Fact} (hb : pFacts s b = true) (hp : a.Pairwise fLt) (hs : ∀ x ∈ a, x ∈ b) : pFacts s a = true := by
 rw [pFacts_iff] at *
 have := pw_len hp hs
 exact ⟨fun f hf => hb.1 f (hs f hf), hp, hb.2.2.1, by omega⟩
def pLists (v : List Int) : Nat → List (List Int)
 | 0 => [[]]
 | n + 1 => (pLists v n).flatMap fun l => v.map fun x => l ++ [x]
theorem pLists_mem {v : List Int} : ∀ {n : Nat} {x : List Int}, x ∈ pLists v n → x.length = n ∧ ∀ y ∈ x, y ∈ v
 | 0, x, h => by simp only [pLists, List.mem_singleton] at h; subst h; simp
 | n + 1, x, h => by
   simp only [pLists, List.mem_flatMap, List.mem_map] at h
   obtain ⟨l, hl, y, hy, rfl⟩ := h
   obtain ⟨h1, h2⟩ := pLists_mem hl
   refine ⟨by simp [h1], fun z hz => ?_⟩
   rw [List.mem_append, List.mem_singleton] at hz
   rcases hz with hz | rfl
   · exact h2 z hz
   · exact hy
theorem flat_len {α β : Type} (f : α → List β) (c : Nat) (hf : ∀ x, (f x).length = c) : ∀ l : List α, (l.flatMap f).length = l.length * c
 | [] => by simp
 | x :: l => by rw [List.flatMap_cons, List.length_append, hf, flat_len f c hf l, List.length_cons, Nat.succ_mul]; omega
theorem pLists_len (v : List Int) : ∀ n, (pLists v n).length = v.length ^ n
 | 0 => rfl
 | n + 1 => by rw [pLists, flat_len _ v.length (by simp), pLists_len v n, Nat.pow_succ]
theorem pLists_len3 {v : List Int} {n : Nat} (hv : v.length ≤ 10) (hn : n ≤ 3) : (pLists v n).length ≤ 1000 := by
 rw [pLists_len]
 calc v.length ^ n ≤ 10 ^ n := Nat.pow_le_pow_left hv n
   _ ≤ 10 ^ 3 := Nat.pow_le_pow_right (by omega) hn
theorem asc_len {v : List Int} (h : v.Pairwise (· < ·)) (lo : Int) (n : Nat) (hb : ∀ x ∈ v, lo ≤ x ∧ x < lo + n) : v.length ≤ n := by
 induction v generalizing lo n with
 | nil => simp
 | cons x v ih =>
   rw [List.pairwise_cons] at h
   have hx := hb x (by simp)
   have := ih h.2 (x + 1) (n - (x + 1 - lo).toNat) (fun y hy => by
     have a := h.1 y hy
     have b := hb y (by simp [hy])
     omega)
   simp only [List.length_cons]; omega
def pLogd (log : List Access) (a : Access) : Bool := log.any fun x => pSameAccess x a
def pOpenM (vs : List Int) (log : List Access) (k : Nat) (m : Method) : List Access :=
 if m.Limit != 0 then [] else ((pLists vs m.Inputs.length).filter fun v => !pLogd log { Method := (k : Int), Values := v }).map fun v => ({ Method := (k : Int), Values := v } : Access)
def pOpen (vs : List Int) (log : List Access) : List Method → Nat → List Access
 | [], _ => []
 | m :: l, k => pOpenM vs log k m ++ pOpen vs log l (k + 1)
theorem pOpenM_len {vs : List Int} {log : List Access} {k : Nat} {m : Method} (hv : vs.length ≤ 10) (hm : m.Inputs.length ≤ 3) : (pOpenM vs log k m).length ≤ 1000 := by
 unfold pOpenM
 split
 · simp
 · rw [List.length_map]; exact Nat.le_trans (List.length_filter_le ..) (pLists_len3 hv hm)
theorem pOpen_len {vs : List Int} {log : List Access} (hv : vs.length ≤ 10) : ∀ {l : List Method} {k : Nat}, (∀ m ∈ l, m.Inputs.length ≤ 3) → (pOpen vs log l k).length ≤ 1000 * l.length
 | [], _, _ => by simp [pOpen]
 | m :: l, k, h => by
   rw [pOpen, List.length_append, List.length_cons]
   have h1 := pOpenM_len (vs := vs) (log := log) (k := k) hv (h m (by simp))
   have h2 := pOpen_len (log := log) hv (l := l) (k := k + 1) fun x hx => h x (by simp [hx])
   omega
theorem pOpen_mem {vs : List Int} {log : List Access} {a : Access} : ∀ {l : List Method} {k : Nat}, a ∈ pOpen vs log l k → ∃ (j : Nat) (m : Method), l[j]? = some m ∧ a.Method = ((k + j : Nat) : Int) ∧ a.Values.length = m.Inputs.length ∧ ∀ y ∈ a.Values, y ∈ vs
 | [], _, h => by simp [pOpen] at h
 | m :: l, k, h => by
   rw [pOpen, List.mem_append] at h
   rcases h with h | h
   · unfold pOpenM at h
     split at h
     · simp at h
     · obtain ⟨v, hv, rfl⟩ := List.mem_map.1 h
       obtain ⟨h1, h2⟩ := pLists_mem (List.mem_filter.1 hv).1
       exact ⟨0, m, rfl, rfl, h1, h2⟩
   · obtain ⟨j, x, h1, h2, h3, h4⟩ := pOpen_mem h
     exact ⟨j + 1, x, by simpa using h1, by rw [h2]; congr 1; omega, h3, h4⟩
theorem adj_asc : ∀ (o : Option Int) (l : List Int), adjB (fun _ => true) (fun y x => decide (x ≤ y)) o l = true ↔ (∀ y, o = some y → ∀ x ∈ l, y < x) ∧ l.Pairwise (· < ·)
 | o, [] => by cases o <;> simp [adjB]
 | none, x :: l => by
   rw [adjB, Bool.true_and, adj_asc (some x) l, List.pairwise_cons]
   simp
 | some y, x :: l => by
   rw [adjB, Bool.and_eq_true, Bool.and_eq_true, adj_asc (some x) l, List.pairwise_cons]
   simp only [List.mem_cons, forall_eq_or_imp, Option.some.injEq, forall_eq', Bool.not_eq_true', decide_eq_false_iff_not, Int.not_le, true_and]
   constructor
   · rintro ⟨b, d, e⟩
     exact ⟨⟨b, fun z hz => Int.lt_trans b (d z hz)⟩, d, e⟩
   · rintro ⟨⟨b, _⟩, d, e⟩
     exact ⟨b, d, e⟩
theorem pMethod_ins {s : List Int} {m : Method} (h : pMethod s m = true) : m.Inputs.length ≤ 3 := by
 simp only [pMethod, Bool.and_eq_true, List.all_eq_true] at h
 obtain ⟨h1, -, -, -, h2, h3⟩ := h
 have h4 := ((adj_asc none _).1 h2).2
 have h5 := pAr_ix h1
 refine asc_len h4 0 3 fun x hx => ?_
 have := h3 x hx
 simp only [pIn, Bool.and_eq_true, decide_eq_true_eq] at this
 omega
theorem pOpen_acc {s : List Int} {l : List Method} {vs : List Int} {log : List Access} (hl : pMethods s l = true) (hv : ∀ v ∈ vs, 0 ≤ v ∧ v ≤ 9) {a : Access} (h : a ∈ pOpen vs log l 0) : pAccess s l a = true := by
 obtain ⟨j, m, h1, h2, h3, h4⟩ := pOpen_mem h
 have hj : j < l.length := (List.getElem?_eq_some_iff.1 h1).1
 have hi : pIn 0 ((l.length : Int) - 1) a.Method = true := by rw [h2]; simp only [pIn, Bool.and_eq_true, decide_eq_true_eq]; omega
 have hm : pMeth l a.Method = m := by
   unfold pMeth
   rw [h2, Nat.zero_add, ix_nat, h1]; rfl
 simp only [pAccess, Bool.and_eq_true]
 refine ⟨hl, hi, ?_, ?_⟩
 · rw [hm, h3]; simp
 · rw [List.all_eq_true]
   intro y hy
   have := hv y (h4 y hy)
   simp only [pIn, Bool.and_eq_true, decide_eq_true_eq]; omega
def pGot (l : List Method) (facts : List Fact) (a : Access) : List Fact := facts.filter (pFits (pMeth l a.Method) a.Values)
def pTellF (l : List Method) (facts : List Fact) (fs : List Fact) (a : Access) : List Fact := (pGot l facts a).foldl pAddF fs
def pPuts (vs : List Int) (f : Fact) : List Int := f.Values.foldl pPut vs
def pTellV (l : List Method) (facts : List Fact) (vs : List Int) (a : Access) : List Int := (pGot l facts a).foldl pPuts vs
def pTold (l : List Method) (facts : List Fact) (r : Reached) : Reached :=
 let o := pOpen r.Values r.Log l 0
 { Facts := o.foldl (pTellF l facts) r.Facts, Values := o.foldl (pTellV l facts) r.Values, Log := r.Log ++ o, Rounds := r.Rounds + (if o = [] then 0 else 1) }
structure RInv (s : List Int) (l : List Method) (facts : List Fact) (n : Nat) (r : Reached) : Prop where
 pw : r.Facts.Pairwise fLt
 sub : ∀ f ∈ r.Facts, f ∈ facts
 asc : r.Values.Pairwise (· < ·)
 vals : ∀ v ∈ r.Values, 0 ≤ v ∧ v ≤ 9
 loglen : r.Log.length ≤ 5000 * n
 log : ∀ a ∈ r.Log, pAccess s l a = true
 rounds : r.Rounds = (n : Int)
theorem addFs_inv {facts : List Fact} : ∀ {g fs : List Fact}, (∀ f ∈ g, f ∈ facts) → fs.Pairwise fLt → (∀ f ∈ fs, f ∈ facts) → (g.foldl pAddF fs).Pairwise fLt ∧ ∀ f ∈ g.foldl pAddF fs, f ∈ facts
 | [], _, _, h1, h2 => ⟨h1, h2⟩
 | x :: g, fs, hg, h1, h2 => by
   rw [List.foldl_cons]
   refine addFs_inv (fun f hf => hg f (by simp [hf])) (pAddF_pw h1) fun f hf => ?_
   rcases pAddF_iff.1 hf with rfl | hf
   · exact hg f (by simp)
   · exact h2 f hf
def VOk (vs : List Int) : Prop := vs.Pairwise (· < ·) ∧ ∀ v ∈ vs, 0 ≤ v ∧ v ≤ 9
theorem VOk_len {vs : List Int} (h : VOk vs) : vs.length ≤ 10 := asc_len h.1 0 10 fun x hx => by have := h.2 x hx; omega
theorem pPuts_ok {vs : List Int} {f : Fact} (h : VOk vs) (hf : ∀ v ∈ f.Values, 0 ≤ v ∧ v ≤ 9) : VOk (pPuts vs f) :=
 ⟨puts_ss h.1, fun v hv => by
   rcases puts_mem.1 hv with hv | hv
   · exact h.2 v hv
   · exact hf v hv⟩
theorem pPutss_ok : ∀ {g : List Fact} {vs : List Int}, VOk vs → (∀ f ∈ g, ∀ v ∈ f.Values, 0 ≤ v ∧ v ≤ 9) → VOk (g.foldl pPuts vs)
 | [], _, h, _ => h
 | x :: g, vs, h, hg => pPutss_ok (g := g) (pPuts_ok h (hg x (by simp))) fun f hf => hg f (by simp [hf])
theorem pFact_vals {s : List Int} {f : Fact} (h : pFact s f = true) : f.Values.length ≤ 3 ∧ ∀ v ∈ f.Values, 0 ≤ v ∧ v ≤ 9 := by
 simp only [pFact, Bool.and_eq_true, beq_iff_eq] at h
 obtain ⟨h1, h2, h3⟩ := h
 have := pAr_ix h1
 refine ⟨by omega, fun v hv => ?_⟩
 have := List.all_eq_true.1 h3 v hv
 simp only [pIn, Bool.and_eq_true, decide_eq_true_eq] at this
 omega
theorem tellF_inv {l : List Method} {facts : List Fact} : ∀ {o : List Access} {fs : List Fact}, fs.Pairwise fLt → (∀ f ∈ fs, f ∈ facts) → (o.foldl (pTellF l facts) fs).Pairwise fLt ∧ ∀ f ∈ o.foldl (pTellF l facts) fs, f ∈ facts
 | [], _, h1, h2 => ⟨h1, h2⟩
 | a :: o, fs, h1, h2 => by
   have := addFs_inv (facts := facts) (g := pGot l facts a) (fs := fs) (fun f hf => (List.mem_filter.1 hf).1) h1 h2
   rw [List.foldl_cons]
   exact tellF_inv this.1 this.2
theorem tellV_ok {s : List Int} {l : List Method} {facts : List Fact} (hf : ∀ f ∈ facts, pFact s f = true) : ∀ {o : List Access} {vs : List Int}, VOk vs → VOk (o.foldl (pTellV l facts) vs)
 | [], _, h => h
 | a :: o, vs, h => by
   rw [List.foldl_cons]
   exact tellV_ok hf (pPutss_ok h fun f hg => (pFact_vals (hf f (List.mem_filter.1 hg).1)).2)
theorem pTold_inv {s : List Int} {l : List Method} {facts : List Fact} {n : Nat} {r : Reached} (hl : pMethods s l = true) (hf : pFacts s facts = true) (h : RInv s l facts n r) (ho : pOpen r.Values r.Log l 0 ≠ []) : RInv s l facts (n + 1) (pTold l facts r) := by
 have h5 : l.length ≤ 5 := by
   simp only [pMethods, Bool.and_eq_true, decide_eq_true_eq] at hl; omega
 have hm : ∀ m ∈ l, m.Inputs.length ≤ 3 := fun m hm => by
   simp only [pMethods, Bool.and_eq_true] at hl
   exact pMethod_ins (List.all_eq_true.1 hl.2.2 m hm)
 have hF := tellF_inv (l := l) (o := pOpen r.Values r.Log l 0) h.pw h.sub
 have hV := tellV_ok (l := l) (pFacts_all hf) (o := pOpen r.Values r.Log l 0) ⟨h.asc, h.vals⟩
 refine ⟨hF.1, hF.2, hV.1, hV.2, ?_, ?_, ?_⟩
 · show (r.Log ++ _).length ≤ _
   have := pOpen_len (vs := r.Values) (log := r.Log) (VOk_len ⟨h.asc, h.vals⟩) (l := l) (k := 0) hm
   have := h.loglen
   rw [List.length_append]; omega
 · intro a ha
   rcases List.mem_append.1 ha with ha | ha
   · exact h.log a ha
   · exact pOpen_acc hl h.vals ha
 · show r.Rounds + _ = _
   rw [if_neg ho, h.rounds]; omega
theorem i_isValue_eq (n : Int) : i_isValue n = some (pIn 0 9 n) := rfl
theorem bd_FactS (a : List Fact) (h : totL tot_Fact a < 4294967296) : bdL bd_Fact a := bdL_of (f := tot_Fact) (fun x hx => bdL_flat _ hx) _ h
theorem s_l8Lists_L5_eq (C : List (List Int)) (j : Int) (x : List Int) (hx : ix C j = some x) (hl : x.length + 1 < 4294967296) : ∀ (l : List Int) (i : Nat) (c : List (List Int)), c.length + l.length < 4294967296 → s_l8Lists_L5 C j l i c = some (c ++ l.map fun y => x ++ [y])
 | [], i, c, _ => by simp [s_l8Lists_L5]
 | y :: l, i, c, h => by
   simp only [List.length_cons] at h
   unfold s_l8Lists_L5
   rw [hx, Option.bind_some, app_nil (by omega), Option.bind_some, app_ok (by simp; omega), Option.bind_some, app_ok (by simp; omega), Option.bind_some, s_l8Lists_L5_eq C j x hx hl l _ _ (by simp; omega)]
   simp
theorem i_lists_L4_eq (x : List Int) (hl : x.length + 1 < 4294967296) : ∀ (l : List Int) (i : Nat) (c : List (List Int)), c.length + l.length < 4294967296 → i_lists_L4 x l i c = some (c ++ l.map fun y => x ++ [y])
 | [], i, c, _ => by simp [i_lists_L4]
 | y :: l, i, c, h => by
   simp only [List.length_cons] at h
   unfold i_lists_L4
   rw [g_slices_Clone_int_int_eq x (by omega), Option.bind_some, app_ok (by simp; omega), Option.bind_some, app_ok (by simp; omega), Option.bind_some, i_lists_L4_eq x hl l _ _ (by simp; omega)]
   simp
theorem s_l8Lists_L2_eq (v : List Int) (C : List (List Int)) (hC : ∀ x ∈ C, x.length + 1 < 4294967296) (hb : C.length < 4294967296) : ∀ (m i : Nat) (c : List (List Int)), i ≤ C.length → C.length - i < m → c.length + (C.length - i) * v.length < 4294967296 → s_l8Lists_L2 v m C c (i : Int) = some (c ++ (C.drop i).flatMap fun l => v.map fun x => l ++ [x]) := by
 intro m
 induction m with
 | zero => intro i c _ h _; omega
 | succ m ih =>
   intro i c hi hm hc
   unfold s_l8Lists_L2
   by_cases hlt : i < C.length
   · have e : C.length - i = (C.length - (i + 1)) + 1 := by omega
     rw [e, Nat.add_mul, Nat.one_mul] at hc
     rw [if_pos (by simpa using hlt), s_l8Lists_L5_eq C (i : Int) C[i] (by rw [ix_nat, List.getElem?_eq_getElem hlt]) (hC _ (List.getElem_mem hlt)) v 0 c (by omega), Option.bind_some]
     dsimp only
     rw [show IntKind.i64.wrap ((i : Int) + 1) = ((i + 1 : Nat) : Int) from by rw [wrap_in (by omega) (by omega)]; rfl, ih (i + 1) _ (by omega) (by omega) (by simp; omega), List.drop_eq_getElem_cons hlt, List.flatMap_cons, List.append_assoc]
   · rw [if_neg (by simpa using hlt), List.drop_eq_nil_of_le (by omega)]; simp
theorem i_lists_L2_eq (v : List Int) : ∀ (l : List (List Int)) (i : Nat) (c : List (List Int)), (∀ x ∈ l, x.length + 1 < 4294967296) → c.length + l.length * v.length < 4294967296 → i_lists_L2 v l i c = some (c ++ l.flatMap fun l => v.map fun x => l ++ [x])
 | [], i, c, _, _ => by simp [i_lists_L2]
 | x :: l, i, c, hx, h => by
   simp only [List.length_cons, Nat.add_mul, Nat.one_mul] at h
   unfold i_lists_L2
   rw [i_lists_L4_eq x (hx x (by simp)) v 0 c (by omega), Option.bind_some]
   dsimp only
   rw [i_lists_L2_eq v l _ _ (fun y hy => hx y (by simp [hy])) (by simp; omega), List.flatMap_cons, List.append_assoc]
theorem pLists_mul {v : List Int} {n : Nat} (hv : v.length ≤ 10) (hn : n ≤ 3) : (pLists v n).length * v.length ≤ 10000 := by
 have := pLists_len3 (v := v) hv hn
 calc (pLists v n).length * v.length ≤ 1000 * 10 := Nat.mul_le_mul this hv
   _ = 10000 := rfl
theorem s_l8Lists_eq (v : List Int) (n : Nat) (hv : v.length ≤ 10) (hn : n ≤ 3) : s_l8Lists v (n : Int) = some (pLists v n) := by
 have key : ∀ (m i : Nat), i ≤ n → n - i < m → s_l8Lists_L1 v (n : Int) m (pLists v i) (i : Int) = some (pLists v n) := by
   intro m
   induction m with
   | zero => intro i _ h; omega
   | succ m ih =>
     intro i hi hm
     unfold s_l8Lists_L1
     by_cases hlt : i < n
     · have h1 := pLists_mul (v := v) (n := i) hv (by omega)
       have h2 := pLists_len3 (v := v) (n := i) hv (by omega)
       rw [if_pos (by simpa using hlt), show (((pLists v i).length : Int) - 0).toNat + 2 = (pLists v i).length + 2 by omega, show (0 : Int) = ((0 : Nat) : Int) from rfl,
         s_l8Lists_L2_eq v _ (fun x hx => by have := (pLists_mem hx).1; omega) (by omega) _ 0 [] (by omega) (by omega) (by simp; omega), Option.bind_some]
       dsimp only
       rw [show IntKind.i64.wrap ((i : Int) + 1) = ((i + 1 : Nat) : Int) from by rw [wrap_in (by omega) (by omega)]; rfl, List.nil_append, List.drop_zero]
       exact ih (i + 1) (by omega) (by omega)
     · rw [if_neg (by simpa using hlt)]
       have : i = n := by omega
       rw [this]
 have := key (((n : Int) - 0).toNat + 2) 0 (by omega) (by omega)
 exact this
theorem i_lists_eq (v : List Int) (n : Nat) (hv : v.length ≤ 10) (hn : n ≤ 3) : i_lists v (n : Int) = some (pLists v n) := by
 have key : ∀ (m i : Nat), i ≤ n → n - i < m → i_lists_L1 v (n : Int) m (pLists v i) (i : Int) = some (pLists v n) := by
   intro m
   induction m with
   | zero => intro i _ h; omega
   | succ m ih =>
     intro i hi hm
     unfold i_lists_L1
     by_cases hlt : i < n
     · have h1 := pLists_mul (v := v) (n := i) hv (by omega)
       have h2 := pLists_len3 (v := v) (n := i) hv (by omega)
       rw [if_pos (by simpa using hlt), i_lists_L2_eq v _ 0 [] (fun x hx => by have := (pLists_mem hx).1; omega) (by simp; omega), Option.bind_some]
       dsimp only
       rw [show IntKind.i64.wrap ((i : Int) + 1) = ((i + 1 : Nat) : Int) from by rw [wrap_in (by omega) (by omega)]; rfl, List.nil_append]
       exact ih (i + 1) (by omega) (by omega)
     · rw [if_neg (by simpa using hlt)]
       have : i = n := by omega
       rw [this]
 have := key (((n : Int) - 0).toNat + 2) 0 (by omega) (by omega)
 exact this
theorem s_logd (log : List Access) (a : Access) : s_l7Logged log a = some (pLogd log a) := s_l7Logged_eq log a
theorem i_logd (l : List Access) (a : Access) : i_hasAccess l a = some (pLogd l a) := i_hasAccess_eq l a
theorem s_l8Open_L2_eq (r : Reached) (k : Nat) (l : List (List Int)) (c : List Access) (hl : ∀ x ∈ l, x.length < 4294967296) (hc : c.length + l.length < 4294967296) : s_l8Open_L2 r k l 0 c = some (c ++ (l.filter fun v => !pLogd r.Log { Method := (k : Int), Values := v }).map fun v => ({ Method := (k : Int), Values := v } : Access)) :=
 fm_loop (L := s_l8Open_L2 r k) (P := fun x => x.length < 4294967296) (p := fun v => !pLogd r.Log { Method := (k : Int), Values := v }) (g := fun v => ({ Method := (k : Int), Values := v } : Access)) (fun _ _ => rfl) (fun x t i c hx hc => by
   rw [s_l8Open_L2, s_l8Access_eq _ _ hx, Option.bind_some, s_logd, Option.bind_some]
   cases pLogd r.Log { Method := (k : Int), Values := x }
   · simp [app1 hc]
   · simp) l 0 c hl hc
theorem i_Reached_open_L2_eq (r : Reached) (k : Nat) (l : List (List Int)) (c : List Access) (hc : c.length + l.length < 4294967296) : i_Reached_open_L2 r k l 0 c = some (c ++ (l.filter fun v => !pLogd r.Log { Method := (k : Int), Values := v }).map fun v => ({ Method := (k : Int), Values := v } : Access)) :=
 fm_loop (L := i_Reached_open_L2 r k) (P := fun _ => True) (p := fun v => !pLogd r.Log { Method := (k : Int), Values := v }) (g := fun v => ({ Method := (k : Int), Values := v } : Access)) (fun _ _ => rfl) (fun x t i c hx hc => by
   rw [i_Reached_open_L2, i_logd, Option.bind_some]
   cases pLogd r.Log { Method := (k : Int), Values := x }
   · simp [app1 hc]
   · simp) l 0 c (fun _ _ => trivial) hc
theorem s_l8Open_L1_eq (r : Reached) (hv : r.Values.length ≤ 10) : ∀ (l : List Method) (k : Nat) (c : List Access), (∀ m ∈ l, m.Inputs.length ≤ 3) → c.length + 1000 * l.length < 4294967296 → s_l8Open_L1 r l k c = some (c ++ pOpen r.Values r.Log l k)
 | [], k, c, _, _ => by simp [s_l8Open_L1, pOpen]
 | m :: l, k, c, hm, hc => by
   simp only [List.length_cons] at hc
   have h3 := hm m (by simp)
   have e : (if ((m.Limit : Int) != 0) then some c else (s_l8Lists r.Values (m.Inputs.length : Int)).bind fun r25 => s_l8Open_L2 r k r25 0 c) = some (c ++ pOpenM r.Values r.Log k m) := by
     unfold pOpenM
     split
     · simp
     · have := pLists_len3 (v := r.Values) hv h3
       rw [s_l8Lists_eq _ _ hv h3, Option.bind_some, s_l8Open_L2_eq r k _ c (fun x hx => by have := (pLists_mem hx).1; omega) (by omega)]
   have h4 := pOpenM_len (vs := r.Values) (log := r.Log) (k := k) hv h3
   unfold s_l8Open_L1
   rw [e, Option.bind_some]
   dsimp only
   rw [s_l8Open_L1_eq r hv l _ _ (fun x hx => hm x (by simp [hx])) (by simp; omega), pOpen, List.append_assoc]
theorem i_Reached_open_L1_eq (r : Reached) (hv : r.Values.length ≤ 10) : ∀ (l : List Method) (k : Nat) (c : List Access), (∀ m ∈ l, m.Inputs.length ≤ 3) → c.length + 1000 * l.length < 4294967296 → i_Reached_open_L1 r l k c = some (c ++ pOpen r.Values r.Log l k, r)
 | [], k, c, _, _ => by simp [i_Reached_open_L1, pOpen]
 | m :: l, k, c, hm, hc => by
   simp only [List.length_cons] at hc
   have h3 := hm m (by simp)
   have e : (if ((m.Limit : Int) != 0) then some c else (i_lists r.Values (m.Inputs.length : Int)).bind fun r25 => i_Reached_open_L2 r k r25 0 c) = some (c ++ pOpenM r.Values r.Log k m) := by
     unfold pOpenM
     split
     · simp
     · have := pLists_len3 (v := r.Values) hv h3
       rw [i_lists_eq _ _ hv h3, Option.bind_some, i_Reached_open_L2_eq r k _ c (by omega)]
   have h4 := pOpenM_len (vs := r.Values) (log := r.Log) (k := k) hv h3
   unfold i_Reached_open_L1
   rw [e, Option.bind_some]
   dsimp only
   rw [i_Reached_open_L1_eq r hv l _ _ (fun x hx => hm x (by simp [hx])) (by simp; omega), pOpen, List.append_assoc]
theorem pMethods_ins {s : List Int} {l : List Method} (hl : pMethods s l = true) : l.length ≤ 5 ∧ ∀ m ∈ l, m.Inputs.length ≤ 3 := by
 simp only [pMethods, Bool.and_eq_true, decide_eq_true_eq] at hl
 exact ⟨by omega, fun m hm => pMethod_ins (List.all_eq_true.1 hl.2.2 m hm)⟩
theorem s_l8Open_eq {s : List Int} (l : List Method) (r : Reached) (hl : pMethods s l = true) (hv : r.Values.length ≤ 10) : s_l8Open l r = some (pOpen r.Values r.Log l 0) := by
 obtain ⟨h1, h2⟩ := pMethods_ins hl
 rw [s_l8Open, s_l8Open_L1_eq r hv l 0 [] h2 (by simp; omega), List.nil_append]
theorem i_Reached_open_eq {s : List Int} (l : List Method) (r : Reached) (hl : pMethods s l = true) (hv : r.Values.length ≤ 10) : i_Reached_open r l = some (pOpen r.Values r.Log l 0, r) := by
 obtain ⟨h1, h2⟩ := pMethods_ins hl
 rw [i_Reached_open, i_Reached_open_L1_eq r hv l 0 [] h2 (by simp; omega), List.nil_append]
theorem g_slices_Concat2_eq (a b : List Int) (h : a.length + b.length < 4294967296) : g_slices_Concat_int_int [a, b] = some (a ++ b) := by
 unfold g_slices_Concat_int_int g_slices_Concat_int_int_L1
 rw [wrap_in (by omega) (by omega), if_neg (by simp only [decide_eq_true_eq]; omega), Option.bind_some]
 dsimp only
 unfold g_slices_Concat_int_int_L1
 rw [wrap_in (by omega) (by omega), if_neg (by simp only [decide_eq_true_eq]; omega), Option.bind_some]
 dsimp only
 unfold g_slices_Concat_int_int_L1 g_slices_Grow_int_int_nil
 rw [if_pos (by omega), Option.bind_some]
 unfold g_slices_Concat_int_int_L2
 rw [app_nil (by omega), Option.bind_some]
 unfold g_slices_Concat_int_int_L2
 rw [app_ok (by omega), Option.bind_some]
 rfl
theorem i_withValues_L1_eq (R : List Int) (hR : R.length < 4294967296) : ∀ (m i : Nat) (c : List Int), i ≤ R.length → R.length - i < m → c.length + (R.length - i) < 4294967296 → i_withValues_L1 R m c (i : Int) = some (Lib.compact ((c ++ (R.drop i).filter (pIn 0 9)).mergeSort fun x y => decide (x ≤ y))) := by
 intro m
 induction m with
 | zero => intro i c _ h _; omega
 | succ m ih =>
   intro i c hi hm hc
   unfold i_withValues_L1
   by_cases hlt : i < R.length
   · rw [if_pos (by simpa using hlt), ix_nat, List.getElem?_eq_getElem hlt, Option.bind_some, i_isValue_eq, Option.bind_some, List.drop_eq_getElem_cons hlt, List.filter_cons]
     cases hp : pIn 0 9 R[i]
     · rw [if_neg (by simp), Option.bind_some, if_neg (by simp)]
       dsimp only
       rw [show IntKind.i64.wrap ((i : Int) + 1) = ((i + 1 : Nat) : Int) from by rw [wrap_in (by omega) (by omega)]; rfl, ih (i + 1) _ (by omega) (by omega) (by omega)]
     · rw [if_pos rfl, app_ok (by simp; omega), Option.bind_some, Option.bind_some, if_pos rfl]
       dsimp only
       rw [show IntKind.i64.wrap ((i : Int) + 1) = ((i + 1 : Nat) : Int) from by rw [wrap_in (by omega) (by omega)]; rfl, ih (i + 1) _ (by omega) (by omega) (by simp; omega)]
       simp
   · rw [if_neg (by simpa using hlt), List.drop_eq_nil_of_le (by omega)]
     simp [g_slices_Sort_int_int, g_slices_Compact_int_int]
theorem i_withValues_eq (a b : List Int) (h : a.length + b.length < 4294967296) : i_withValues a b = some (((a ++ b).filter (pIn 0 9)).foldl pPut []) := by
 unfold i_withValues
 rw [g_slices_Concat2_eq a b h, Option.bind_some, show (((a ++ b).length : Int) - 0).toNat + 2 = (a ++ b).length + 2 by omega, show (0 : Int) = ((0 : Nat) : Int) from rfl,
   i_withValues_L1_eq (a ++ b) (by simp; omega) _ 0 [] (by omega) (by omega) (by simp; omega), puts_sort]
 simp
theorem puts_asc {v : List Int} (h : v.Pairwise (· < ·)) : v.foldl pPut [] = v :=
 ss_ext (puts_ss (by simp)) h fun x => by rw [puts_mem]; simp
theorem i_withValues_vok {vs b : List Int} (h : VOk vs) (hb : ∀ v ∈ b, 0 ≤ v ∧ v ≤ 9) (hl : b.length < 1000000) : i_withValues vs b = some (b.foldl pPut vs) := by
 have := VOk_len h
 have e : ∀ l : List Int, (∀ v ∈ l, 0 ≤ v ∧ v ≤ 9) → l.filter (pIn 0 9) = l := fun l hl => List.filter_eq_self.2 fun v hv => by
   have := hl v hv
   simp only [pIn, Bool.and_eq_true, decide_eq_true_eq]; omega
 rw [i_withValues_eq vs b (by omega), e (vs ++ b) (fun v hv => (List.mem_append.1 hv).elim (h.2 v) (hb v)), List.foldl_append, puts_asc h.1]
theorem s_l8Step_L24_eq (f : Fact) (F : List Fact) (hf : f.Values.length < 1000000) : ∀ (m i : Nat) (c : List Int), i ≤ f.Values.length → f.Values.length - i < m → c.length + (f.Values.length - i) < 4294967295 → s_l8Step_L24 f F m c (i : Int) = some (F, (f.Values.drop i).foldl pPut c) := by
 intro m
 induction m with
 | zero => intro i c _ h _; omega
 | succ m ih =>
   intro i c hi hm hc
   unfold s_l8Step_L24
   by_cases hlt : i < f.Values.length
   · have := pPut_len (l := c) (x := f.Values[i])
     rw [if_pos (by simpa using hlt), ix_nat, List.getElem?_eq_getElem hlt, Option.bind_some, s_l3Put_eq _ _ (by omega), Option.bind_some, show IntKind.i64.wrap ((i : Int) + 1) = ((i + 1 : Nat) : Int) from by rw [wrap_in (by omega) (by omega)]; rfl,
       ih (i + 1) _ (by omega) (by omega) (by omega), List.drop_eq_getElem_cons hlt, List.foldl_cons]
   · rw [if_neg (by simpa using hlt), List.drop_eq_nil_of_le (by omega)]; rfl
theorem bd_FactOf {s : List Int} {f : Fact} (h : pFact s f = true) : bd_Fact f := bdL_flat _ (by have := (pFact_vals h).1; omega)
theorem bdL_Facts {s : List Int} {l : List Fact} (h : ∀ f ∈ l, pFact s f = true) (hl : l.length < 4294967296) : bdL bd_Fact l := ⟨hl, fun f hf => bd_FactOf (h f hf)⟩
theorem s_l8Step_L21_eq {s : List Int} (z : List Access) : ∀ (g : List Fact) (k : Nat) (fs : List Fact) (vs : List Int), (∀ f ∈ g, pFact s f = true) → (∀ f ∈ fs, pFact s f = true) → VOk vs → fs.length + g.length < 1000000 → s_l8Step_L21 z g k fs vs = some (g.foldl pAddF fs, g.foldl pPuts vs, z)
 | [], k, fs, vs, _, _, _, _ => rfl
 | f :: g, k, fs, vs, hg, hfs, hv, hl => by
   simp only [List.length_cons] at hl
   have hf := hg f (by simp)
   have h1 := pFact_vals hf
   have h2 := VOk_len hv
   have h3 := pAddF_len fs f
   unfold s_l8Step_L21
   rw [s_AddFact_eq fs f (bdL_Facts hfs (by omega)) (by omega) (bd_FactOf hf), Option.bind_some, show ((f.Values.length : Int) - 0).toNat + 2 = f.Values.length + 2 by omega, show (0 : Int) = ((0 : Nat) : Int) from rfl,
     s_l8Step_L24_eq f _ (by omega) _ 0 vs (by omega) (by omega) (by omega), Option.bind_some]
   dsimp only
   rw [List.drop_zero, show f.Values.foldl pPut vs = pPuts vs f from rfl, s_l8Step_L21_eq (s := s) z g _ _ _ (fun x hx => hg x (by simp [hx])) (fun x hx => (pAddF_iff.1 hx).elim (fun e => e ▸ hf) (hfs x)) (pPuts_ok hv h1.2) (by omega)]
   rfl
theorem i_Reached_told_L4_eq {s : List Int} (z : List Access) : ∀ (g : List Fact) (k : Nat) (fs : List Fact) (vs : List Int), (∀ f ∈ g, pFact s f = true) → (∀ f ∈ fs, pFact s f = true) → VOk vs → fs.length + g.length < 1000000 → i_Reached_told_L4 z g k fs vs = some (g.foldl pAddF fs, g.foldl pPuts vs, z)
 | [], k, fs, vs, _, _, _, _ => rfl
 | f :: g, k, fs, vs, hg, hfs, hv, hl => by
   simp only [List.length_cons] at hl
   have hf := hg f (by simp)
   have h1 := pFact_vals hf
   have h3 := pAddF_len fs f
   unfold i_Reached_told_L4
   rw [i_added_eq fs f (by omega) (bd_FactOf hf), Option.bind_some, i_withValues_vok hv h1.2 (by omega), Option.bind_some, show f.Values.foldl pPut vs = pPuts vs f from rfl,
     i_Reached_told_L4_eq (s := s) z g _ _ _ (fun x hx => hg x (by simp [hx])) (fun x hx => (pAddF_iff.1 hx).elim (fun e => e ▸ hf) (hfs x)) (pPuts_ok hv h1.2) (by omega)]
   rfl
theorem pAccess_ix {s : List Int} {l : List Method} {a : Access} (h : pAccess s l a = true) : ix l a.Method = some (pMeth l a.Method) := by
 simp only [pAccess, Bool.and_eq_true] at h
 exact (pMeth_ix h.2.1).1
theorem pGot_ok {s : List Int} {l : List Method} {facts : List Fact} (hf : pFacts s facts = true) (a : Access) : (∀ f ∈ pGot l facts a, pFact s f = true) ∧ (pGot l facts a).length ≤ 24 ∧ ∀ f ∈ pGot l facts a, f ∈ facts :=
 ⟨fun f h => pFacts_all hf f (List.mem_filter.1 h).1, Nat.le_trans (List.length_filter_le ..) (pFacts_iff.1 hf).2.2.2, fun f h => (List.mem_filter.1 h).1⟩
theorem s_l8Step_L1_eq {s : List Int} {l : List Method} {facts : List Fact} (r r3 : Reached) (r7 : List Access) (hf : pFacts s facts = true) : ∀ (o : List Access) (k : Nat) (fs : List Fact) (vs : List Int) (log : List Access), (∀ a ∈ o, pAccess s l a = true) → fs.Pairwise fLt → (∀ f ∈ fs, f ∈ facts) → VOk vs → log.length + o.length < 4294967296 →
   s_l8Step_L1 l facts r r3 r7 o k fs vs log = s_l8Step_L1 l facts r r3 r7 [] 0 (o.foldl (pTellF l facts) fs) (o.foldl (pTellV l facts) vs) (log ++ o)
 | [], k, fs, vs, log, _, _, _, _, _ => by rw [List.append_nil]; rfl
 | a :: o, k, fs, vs, log, ha, h1, h2, hv, hl => by
   simp only [List.length_cons] at hl
   have haa := ha a (by simp)
   obtain ⟨g1, g2, g3⟩ := pGot_ok (l := l) hf a
   have g4 := pw_facts hf h1 h2
   have g5 := (pFacts_iff.1 g4).2.2.2
   have hF := addFs_inv (facts := facts) g3 h1 h2
   have e : s_l5Matches (pMeth l a.Method) a.Values facts = some (pGot l facts a) := s_l5Matches_eq _ _ _ (fun f hf' => pFitOK_of haa (pFacts_all hf f hf')) (bdL_Facts (pFacts_all hf) (by have := (pFacts_iff.1 hf).2.2.2; omega))
   conv => lhs; rw [s_l8Step_L1, app1 (by omega), Option.bind_some, pAccess_ix haa, Option.bind_some, e, Option.bind_some, s_l8Step_L21_eq (s := s) _ _ _ _ _ g1 (pFacts_all g4) hv (by omega), Option.bind_some]
   dsimp only
   rw [s_l8Step_L1_eq r r3 r7 hf o _ _ _ _ (fun x hx => ha x (by simp [hx])) hF.1 hF.2 (pPutss_ok hv fun f hf' => (pFact_vals (g1 f hf')).2) (by simp; omega), List.append_assoc]
   rfl
theorem i_Reached_told_L1_eq {s : List Int} {l : List Method} {facts : List Fact} (r : Reached) (r1 : List Access × Reached) (hf : pFacts s facts = true) : ∀ (o : List Access) (k : Nat) (fs : List Fact) (vs : List Int) (log : List Access), (∀ a ∈ o, pAccess s l a = true) → fs.Pairwise fLt → (∀ f ∈ fs, f ∈ facts) → VOk vs → log.length + o.length < 4294967296 →
   i_Reached_told_L1 r l facts r1 o k fs vs log = i_Reached_told_L1 r l facts r1 [] 0 (o.foldl (pTellF l facts) fs) (o.foldl (pTellV l facts) vs) (log ++ o)
 | [], k, fs, vs, log, _, _, _, _, _ => by rw [List.append_nil]; rfl
 | a :: o, k, fs, vs, log, ha, h1, h2, hv, hl => by
   simp only [List.length_cons] at hl
   have haa := ha a (by simp)
   obtain ⟨g1, g2, g3⟩ := pGot_ok (l := l) hf a
   have g4 := pw_facts hf h1 h2
   have g5 := (pFacts_iff.1 g4).2.2.2
   have hF := addFs_inv (facts := facts) g3 h1 h2
   have e : i_matches l facts a = some (pGot l facts a) := i_matches_eq s l facts a haa (pFacts_all hf) (bdL_Facts (pFacts_all hf) (by have := (pFacts_iff.1 hf).2.2.2; omega))
   conv => lhs; rw [i_Reached_told_L1, app1 (by omega), Option.bind_some, e, Option.bind_some, i_Reached_told_L4_eq (s := s) _ _ _ _ _ g1 (pFacts_all g4) hv (by omega), Option.bind_some]
   dsimp only
   rw [i_Reached_told_L1_eq r r1 hf o _ _ _ _ (fun x hx => ha x (by simp [hx])) hF.1 hF.2 (pPutss_ok hv fun f hf' => (pFact_vals (g1 f hf')).2) (by simp; omega), List.append_assoc]
   rfl
theorem acc_bd {s : List Int} {l : List Method} {a : Access} (h : pAccess s l a = true) : bd_Access a := by
 simp only [pAccess, Bool.and_eq_true, beq_iff_eq] at h
 obtain ⟨h1, h2, h3, -⟩ := h
 have := (pMethods_ins h1).2 _ (pMeth_ix h2).2
 exact bdL_flat _ (by omega)
theorem RInv_log {s : List Int} {l : List Method} {facts : List Fact} {n : Nat} {r : Reached} (h : RInv s l facts n r) (hn : n ≤ 100) : bdL bd_Access r.Log := ⟨by have := h.loglen; omega, fun a ha => acc_bd (h.log a ha)⟩
theorem s_l8Copy_eq {s : List Int} {l : List Method} {facts : List Fact} {n : Nat} {r : Reached} (hf : pFacts s facts = true) (h : RInv s l facts n r) (hn : n ≤ 100) : s_l8Copy r = some r := by
 have h1 := pw_facts hf h.pw h.sub
 have h2 := VOk_len ⟨h.asc, h.vals⟩
 have h3 := (pFacts_iff.1 h1).2.2.2
 unfold s_l8Copy
 rw [s_l2Copy_eq _ (bdL_Facts (pFacts_all h1) (by omega)), Option.bind_some, app_nil (by omega), Option.bind_some, s_l8Log_eq _ (RInv_log h hn), Option.bind_some]
theorem pOpen_acc2 {s : List Int} {l : List Method} {facts : List Fact} {n : Nat} {r : Reached} (hl : pMethods s l = true) (h : RInv s l facts n r) : ∀ a ∈ pOpen r.Values r.Log l 0, pAccess s l a = true := fun a ha => pOpen_acc hl h.vals ha
theorem pOpen_len2 {s : List Int} {l : List Method} {facts : List Fact} {n : Nat} {r : Reached} (hl : pMethods s l = true) (h : RInv s l facts n r) : (pOpen r.Values r.Log l 0).length ≤ 5000 := by
 obtain ⟨h1, h2⟩ := pMethods_ins hl
 have := pOpen_len (vs := r.Values) (log := r.Log) (VOk_len ⟨h.asc, h.vals⟩) (l := l) (k := 0) h2
 omega
theorem s_l8Step_eq {s : List Int} {l : List Method} {facts : List Fact} {n : Nat} {r : Reached} (hl : pMethods s l = true) (hf : pFacts s facts = true) (h : RInv s l facts n r) (hn : n ≤ 100) : s_l8Step l facts r = some (pTold l facts r, !(pOpen r.Values r.Log l 0).isEmpty) := by
 have h4 := pOpen_len2 hl h
 have h5 := h.loglen
 have h6 := h.rounds
 unfold s_l8Step
 rw [s_l8Copy_eq hf h hn, Option.bind_some, s_l8Open_eq l r hl (VOk_len ⟨h.asc, h.vals⟩), Option.bind_some, s_l8Step_L1_eq r r _ hf _ _ _ _ _ (pOpen_acc2 hl h) h.pw h.sub ⟨h.asc, h.vals⟩ (by omega)]
 rw [s_l8Step_L1, pTold]
 cases ho : pOpen r.Values r.Log l 0 with
 | nil => simp
 | cons a o =>
   rw [if_neg (by simp only [List.length_cons, beq_iff_eq]; omega), if_neg (by simp), wrap_in (by omega) (by omega)]
   rfl
theorem i_told_eq {s : List Int} {l : List Method} {facts : List Fact} {n : Nat} {r : Reached} (hl : pMethods s l = true) (hf : pFacts s facts = true) (h : RInv s l facts n r) (hn : n ≤ 100) : i_Reached_told r l facts = some (!(pOpen r.Values r.Log l 0).isEmpty, pTold l facts r) := by
 have h4 := pOpen_len2 hl h
 have h5 := h.loglen
 have h6 := h.rounds
 unfold i_Reached_told
 rw [i_Reached_open_eq l r hl (VOk_len ⟨h.asc, h.vals⟩), Option.bind_some]
 dsimp only
 rw [i_Reached_told_L1_eq r _ hf _ _ _ _ _ (pOpen_acc2 hl h) h.pw h.sub ⟨h.asc, h.vals⟩ (by omega)]
 rw [i_Reached_told_L1, pTold]
 cases ho : pOpen r.Values r.Log l 0 with
 | nil =>
   simp only [List.length_nil, i_bit]
   rw [if_neg (by simp), Option.bind_some, wrap_in (by omega) (by omega)]
   simp
 | cons a o =>
   simp only [i_bit]
   rw [if_pos (by simp), Option.bind_some, if_neg (by simp), wrap_in (by omega) (by omega)]
   congr 2
   simp
theorem s_l8Values_eq (v : List Int) (h : VOk v) : s_l8Values v = some true := by
 have hl := VOk_len h
 have hp : ∀ x ∈ v, pIn 0 9 x = true := fun x hx => by
   have := h.2 x hx
   simp only [pIn, Bool.and_eq_true, decide_eq_true_eq]; omega
 have := adj_loop (L := s_l8Values_L1 v) (P := fun _ => True) (p := pIn 0 9) (q := fun y x => decide (x ≤ y)) (e := true) v (fun _ _ => trivial) (by omega) (fun _ => rfl) (fun x r _ => by
     rw [s_l8Values_L1]
     simp only [Option.bind_some, s_l1In_eq, dec_zero]
     cases pIn 0 9 x <;> rfl) (fun x r k y _ _ hy hk => by
     rw [s_l8Values_L1]
     simp only [Option.bind_some, dec_succ, ix_prev _ k hk, hy, s_l1In_eq, cond_true]
     cases pIn 0 9 x <;> cases decide (x ≤ y) <;> rfl)
 rw [s_l8Values, this, adjB_and, (adj_asc none v).2 ⟨fun y hy => by simp at hy, h.1⟩, List.all_eq_true.2 hp]
 rfl
theorem s_StepReach_eq {s : List Int} {l : List Method} {facts : List Fact} {n : Nat} {r : Reached} (hs : s.length < 4294967296) (hml : bdL bd_Method l) (hl : pMethods s l = true) (hf : pFacts s facts = true) (h : RInv s l facts n r) (hn : n ≤ 100) : s_StepReach s l facts r = some (pTold l facts r, !(pOpen r.Values r.Log l 0).isEmpty) := by
 have h1 := pw_facts hf h.pw h.sub
 have h3 := (pFacts_iff.1 h1).2.2.2
 have h4 := (pFacts_iff.1 hf).2.2.2
 have h6 := h.rounds
 unfold s_StepReach
 rw [s_AreMethods_eq s l hs hml, Option.bind_some, hl, s_AreFacts_eq s facts hs (bdL_Facts (pFacts_all hf) (by omega)), Option.bind_some, hf, s_l8Values_eq _ ⟨h.asc, h.vals⟩, Option.bind_some, s_AreFacts_eq s _ hs (bdL_Facts (pFacts_all h1) (by omega)), Option.bind_some, h1, s_l1In_eq, Option.bind_some,
   show pIn 0 100 r.Rounds = true from by simp only [pIn, Bool.and_eq_true, decide_eq_true_eq]; omega, s_l8Step_eq hl hf h hn]
 rfl
def pReach (l : List Method) (facts : List Fact) : Nat → Reached → Reached
 | 0, r => r
 | n + 1, r => if pOpen r.Values r.Log l 0 = [] then r else pReach l facts n (pTold l facts r)
theorem pTold_nil {l : List Method} {facts : List Fact} {r : Reached} (h : pOpen r.Values r.Log l 0 = []) : pTold l facts r = r := by
 simp [pTold, h]
theorem s_ReachAll_L1_eq {s : List Int} {l : List Method} {facts : List Fact} (hs : s.length < 4294967296) (hml : bdL bd_Method l) (hl : pMethods s l = true) (hf : pFacts s facts = true) : ∀ (m i : Nat) (r : Reached), RInv s l facts i r → i ≤ 40 → 40 - i < m → s_ReachAll_L1 s l facts m r.Facts r.Values r.Log r.Rounds (i : Int) = some (pReach l facts (40 - i) r) := by
 intro m
 induction m with
 | zero => intro i r _ _ h; omega
 | succ m ih =>
   intro i r h hi hm
   unfold s_ReachAll_L1
   by_cases hlt : i < 40
   · rw [if_pos (by simp only [decide_eq_true_eq]; omega), s_StepReach_eq hs hml hl hf h (by omega), Option.bind_some, show 40 - i = (40 - (i + 1)) + 1 by omega, pReach]
     dsimp only
     by_cases ho : pOpen r.Values r.Log l 0 = []
     · rw [if_pos (by simp [ho]), if_pos ho]
     · have := ih (i + 1) (pTold l facts r) (pTold_inv hl hf h ho) (by omega) (by omega)
       rw [if_neg (by simp [ho]), if_neg ho, show IntKind.i64.wrap ((i : Int) + 1) = ((i + 1 : Nat) : Int) from by rw [wrap_in (by omega) (by omega)]; rfl, this]
   · rw [if_neg (by simp only [decide_eq_true_eq]; omega), show 40 - i = 0 by omega, pReach]
theorem i_reach_L1_eq {s : List Int} {l : List Method} {facts : List Fact} (hl : pMethods s l = true) (hf : pFacts s facts = true) : ∀ (m i : Nat) (r : Reached), RInv s l facts i r → i ≤ 40 → 40 - i < m → i_reach_L1 l facts m r.Facts r.Values r.Log r.Rounds (i : Int) = some (pReach l facts (40 - i) r) := by
 intro m
 induction m with
 | zero => intro i r _ _ h; omega
 | succ m ih =>
   intro i r h hi hm
   unfold i_reach_L1
   by_cases hlt : i < 40
   · rw [if_pos (by simp only [decide_eq_true_eq]; omega), i_told_eq hl hf h (by omega), Option.bind_some, show 40 - i = (40 - (i + 1)) + 1 by omega, pReach]
     dsimp only
     by_cases ho : pOpen r.Values r.Log l 0 = []
     · rw [if_pos (by simp [ho]), if_pos ho, pTold_nil ho]
     · have := ih (i + 1) (pTold l facts r) (pTold_inv hl hf h ho) (by omega) (by omega)
       rw [if_neg (by simp [ho]), if_neg ho, show IntKind.i64.wrap ((i : Int) + 1) = ((i + 1 : Nat) : Int) from by rw [wrap_in (by omega) (by omega)]; rfl, this]
   · rw [if_neg (by simp only [decide_eq_true_eq]; omega), show 40 - i = 0 by omega, pReach]
def pStart (seeds : List Int) : Reached := { Facts := [], Values := (seeds.filter (pIn 0 9)).foldl pPut [], Log := [], Rounds := 0 }
theorem s_StartReach_L1_eq : ∀ (l : List Int) (k : Nat) (vs : List Int), vs.length + l.length < 4294967295 → s_StartReach_L1 l k vs = some ({ Facts := [], Values := (l.filter (pIn 0 9)).foldl pPut vs, Log := [], Rounds := 0 } : Reached)
 | [], k, vs, _ => rfl
 | x :: l, k, vs, h => by
   simp only [List.length_cons] at h
   have := pPut_len (l := vs) (x := x)
   unfold s_StartReach_L1
   rw [s_l1In_eq, Option.bind_some, List.filter_cons]
   cases hp : pIn 0 9 x
   · rw [if_neg (by simp), Option.bind_some, if_neg (by simp)]
     dsimp only
     rw [s_StartReach_L1_eq l _ _ (by omega)]
   · rw [if_pos rfl, s_l3Put_eq _ _ (by omega), Option.bind_some, Option.bind_some, if_pos rfl]
     dsimp only
     rw [s_StartReach_L1_eq l _ _ (by omega), List.foldl_cons]
theorem s_StartReach_eq (seeds : List Int) (h : seeds.length < 4294967295) : s_StartReach seeds = some (pStart seeds) := by
 rw [s_StartReach, s_StartReach_L1_eq _ _ _ (by simpa using h)]; rfl
theorem i_StartReach_eq (seeds : List Int) (h : seeds.length < 4294967295) : i_StartReach seeds = some (pStart seeds) := by
 rw [i_StartReach, i_withValues_eq _ _ (by simp; omega), Option.bind_some, List.append_nil]; rfl
theorem pStart_inv (s : List Int) (l : List Method) (facts : List Fact) (seeds : List Int) : RInv s l facts 0 (pStart seeds) :=
 ⟨by simp [pStart], by simp [pStart], puts_ss (by simp), fun v hv => by
   have h1 := (puts_mem.1 hv).resolve_left (by simp)
   have h2 := (List.mem_filter.1 h1).2
   simp only [pIn, Bool.and_eq_true, decide_eq_true_eq] at h2
   exact h2, by simp [pStart], by simp [pStart], rfl⟩
theorem s_ReachAll_eq {s : List Int} {l : List Method} {facts : List Fact} (seeds : List Int) (hs : s.length < 4294967296) (hml : bdL bd_Method l) (hl : pMethods s l = true) (hf : pFacts s facts = true) (h : seeds.length < 4294967295) : s_ReachAll s l facts seeds = some (pReach l facts 40 (pStart seeds)) := by
 rw [s_ReachAll, s_StartReach_eq seeds h, Option.bind_some]
 exact s_ReachAll_L1_eq hs hml hl hf _ 0 _ (pStart_inv s l facts seeds) (by omega) (by decide)
theorem i_reach_eq {s : List Int} {l : List Method} {facts : List Fact} (seeds : List Int) (hl : pMethods s l = true) (hf : pFacts s facts = true) (h : seeds.length < 4294967295) : i_reach l facts seeds = some (pReach l facts 40 (pStart seeds)) := by
 rw [i_reach, i_StartReach_eq seeds h, Option.bind_some]
 exact i_reach_L1_eq hl hf _ 0 _ (pStart_inv s l facts seeds) (by omega) (by decide)
theorem pReach_inv {s : List Int} {l : List Method} {facts : List Fact} (hl : pMethods s l = true) (hf : pFacts s facts = true) : ∀ (n i : Nat) (r : Reached), RInv s l facts i r → ∃ j, j ≤ i + n ∧ RInv s l facts j (pReach l facts n r)
 | 0, i, r, h => ⟨i, by omega, h⟩
 | n + 1, i, r, h => by
   unfold pReach
   split
   · exact ⟨i, by omega, h⟩
   · rename_i ho
     obtain ⟨j, h1, h2⟩ := pReach_inv hl hf n (i + 1) _ (pTold_inv hl hf h ho)
     exact ⟨j, by omega, h2⟩
theorem ms_FactS (a : List Fact) : msL meN_Fact a ≤ 2 * totL tot_Fact a := msL_le 2 (fun x => by simp only [meN_Fact, msL_one, tot_Fact]; omega) a
def pReachAll (s : List Int) (l : List Method) (facts : List Fact) (seeds : List Int) : Reached := if pMethods s l && pFacts s facts then pReach l facts 40 (pStart seeds) else pStart seeds
theorem s_l8Copy_start (seeds : List Int) : s_l8Copy (pStart seeds) = some (pStart seeds) := by
 have h1 := pStart_inv [] [] [] seeds
 have h2 := VOk_len ⟨h1.asc, h1.vals⟩
 have h3 : bdL bd_Fact (pStart seeds).Facts := ⟨by simp [pStart], by simp [pStart]⟩
 have h4 : bdL bd_Access (pStart seeds).Log := ⟨by simp [pStart], by simp [pStart]⟩
 unfold s_l8Copy
 rw [s_l2Copy_eq _ h3, Option.bind_some, app_nil (by omega), Option.bind_some, s_l8Log_eq _ h4, Option.bind_some]
theorem s_StepReach_bad {s : List Int} {l : List Method} {facts : List Fact} {seeds : List Int} (hs : s.length < 4294967296) (hml : bdL bd_Method l) (hfl : bdL bd_Fact facts) (h : (pMethods s l && pFacts s facts) = false) : s_StepReach s l facts (pStart seeds) = some (pStart seeds, false) := by
 unfold s_StepReach
 rw [s_AreMethods_eq s l hs hml, Option.bind_some]
 cases hl : pMethods s l
 · simp [s_l8Copy_start]
 · have hf : pFacts s facts = false := by simpa [hl] using h
   rw [s_AreFacts_eq s facts hs hfl, Option.bind_some, hf]
   simp [s_l8Copy_start]
theorem s_ReachAll_all (s : List Int) (l : List Method) (facts : List Fact) (seeds : List Int) (hs : s.length < 4294967296) (hml : bdL bd_Method l) (hfl : bdL bd_Fact facts) (h : seeds.length < 4294967295) : s_ReachAll s l facts seeds = some (pReachAll s l facts seeds) := by
 unfold pReachAll
 cases hb : pMethods s l && pFacts s facts
 · rw [s_ReachAll, s_StartReach_eq seeds h, Option.bind_some, show (((40 : Int) - 0).toNat + 2) = 41 + 1 from rfl, s_ReachAll_L1, if_pos (by decide)]
   show (s_StepReach s l facts (pStart seeds)).bind _ = _
   rw [s_StepReach_bad hs hml hfl hb]
   rfl
 · rw [Bool.and_eq_true] at hb
   rw [s_ReachAll_eq seeds hs hml hb.1 hb.2 h]
   rfl
def pWhy (l : List Method) (facts : List Fact) (f : Fact) : List Access → Access × Bool
 | [] => ({ Method := 0, Values := [] }, false)
 | a :: r => if pHasF (pGot l facts a) f then (a, true) else pWhy l facts f r
theorem pWhy_bd (l : List Method) (facts : List Fact) (f : Fact) : ∀ o : List Access, (∀ a ∈ o, bd_Access a) → bd_Access (pWhy l facts f o).1
 | [], _ => bdL_flat _ (by simp [pWhy])
 | a :: r, h => by
   unfold pWhy
   split
   · exact h a (by simp)
   · exact pWhy_bd l facts f r fun x hx => h x (by simp [hx])
theorem i_WhyReached_L1_eq {s : List Int} {l : List Method} {facts : List Fact} (f : Fact) (hf : pFacts s facts = true) : ∀ (o : List Access) (k : Nat), (∀ a ∈ o, pAccess s l a = true) → i_WhyReached_L1 l facts f o k = some (pWhy l facts f o)
 | [], k, _ => rfl
 | a :: o, k, ha => by
   have haa := ha a (by simp)
   have e : i_matches l facts a = some (pGot l facts a) := i_matches_eq s l facts a haa (pFacts_all hf) (bdL_Facts (pFacts_all hf) (by have := (pFacts_iff.1 hf).2.2.2; omega))
   rw [i_WhyReached_L1, e, Option.bind_some, i_HasFact_eq, Option.bind_some, i_WhyReached_L1_eq f hf o _ (fun x hx => ha x (by simp [hx])), pWhy]
   cases pHasF (pGot l facts a) f <;> rfl
theorem s_MatchesOf_eq {s : List Int} {l : List Method} {facts : List Fact} {a : Access} (hs : s.length < 4294967296) (hml : bdL bd_Method l) (hf : pFacts s facts = true) (ha : pAccess s l a = true) : s_MatchesOf s l facts a = some (pGot l facts a) := by
 have hb : bdL bd_Fact facts := bdL_Facts (pFacts_all hf) (by have := (pFacts_iff.1 hf).2.2.2; omega)
 have e : s_l5Matches (pMeth l a.Method) a.Values facts = some (pGot l facts a) := s_l5Matches_eq _ _ _ (fun f hf' => pFitOK_of ha (pFacts_all hf f hf')) hb
 unfold s_MatchesOf
 rw [s_IsAccess_eq s l a hs hml, Option.bind_some, ha, s_AreFacts_eq s facts hs hb, Option.bind_some, hf]
 simp [pAccess_ix ha, e]
theorem s_WhyReached_L1_eq {s : List Int} {l : List Method} {facts : List Fact} (f : Fact) (hs : s.length < 4294967296) (hml : bdL bd_Method l) (hf : pFacts s facts = true) : ∀ (o : List Access) (k : Nat), (∀ a ∈ o, pAccess s l a = true) → s_WhyReached_L1 s l facts f o k = some (pWhy l facts f o)
 | [], k, _ => rfl
 | a :: o, k, ha => by
   have haa := ha a (by simp)
   have h1 := (acc_bd haa).1
   obtain ⟨g1, g2, g3⟩ := pGot_ok (l := l) hf a
   rw [s_WhyReached_L1, s_MatchesOf_eq hs hml hf haa, Option.bind_some, s_HasFact_eq _ _ (bdL_Facts g1 (by omega)), Option.bind_some, s_WhyReached_L1_eq f hs hml hf o _ (fun x hx => ha x (by simp [hx])), pWhy, s_l8Access_eq _ _ h1, Option.bind_some]
   cases pHasF (pGot l facts a) f <;> rfl
def pWhyR (s : List Int) (l : List Method) (facts : List Fact) (seeds : List Int) (f : Fact) : Access × Bool := if pMethods s l && pFacts s facts then pWhy l facts f (pReach l facts 40 (pStart seeds)).Log else ({ Method := 0, Values := [] }, false)
theorem s_WhyReached_eq (s : List Int) (l : List Method) (facts : List Fact) (seeds : List Int) (f : Fact) (hs : s.length < 4294967296) (hml : bdL bd_Method l) (hfl : bdL bd_Fact facts) (h : seeds.length < 4294967295) : s_WhyReached s l facts seeds f = some (pWhyR s l facts seeds f) := by
 unfold s_WhyReached
 rw [s_ReachAll_all s l facts seeds hs hml hfl h, Option.bind_some]
 unfold pWhyR pReachAll
 cases hb : pMethods s l && pFacts s facts
 · rfl
 · rw [Bool.and_eq_true] at hb
   obtain ⟨j, hj, hi⟩ := pReach_inv hb.1 hb.2 40 0 _ (pStart_inv s l facts seeds)
   rw [if_pos rfl, if_pos rfl]
   exact s_WhyReached_L1_eq f hs hml hb.2 _ 0 hi.log
theorem i_WhyReached_eq (s : List Int) (l : List Method) (facts : List Fact) (seeds : List Int) (f : Fact) (hs : s.length < 4294967296) (hml : bdL bd_Method l) (hfl : bdL bd_Fact facts) (h : seeds.length < 4294967295) : i_WhyReached s l facts seeds f = some (pWhyR s l facts seeds f) := by
 unfold i_WhyReached pWhyR
 rw [i_AreMethods_eq s l hs hml, Option.bind_some]
 cases hl : pMethods s l
 · simp
 rw [i_AreFacts_eq s facts hs hfl, Option.bind_some]
 cases hf : pFacts s facts
 · simp
 obtain ⟨j, hj, hi⟩ := pReach_inv hl hf 40 0 _ (pStart_inv s l facts seeds)
 simp [i_reach_eq seeds hl hf h, i_WhyReached_L1_eq f hf _ 0 hi.log]
theorem pWhyR_bd (s : List Int) (l : List Method) (facts : List Fact) (seeds : List Int) (f : Fact) : bd_Access (pWhyR s l facts seeds f).1 := by
 unfold pWhyR
 cases hb : pMethods s l && pFacts s facts
 · exact bdL_flat _ (by simp)
 · rw [Bool.and_eq_true] at hb
   obtain ⟨j, hj, hi⟩ := pReach_inv hb.1 hb.2 40 0 _ (pStart_inv s l facts seeds)
   rw [if_pos rfl]
   exact pWhy_bd _ _ _ _ fun a ha => acc_bd (hi.log a ha)
theorem law_fnExactWhyReached {s : List Int} {l : List Method} {facts : List Fact} {seeds : List Int} {f : Fact} (ws : wfSl wfInt s) (wl : wfSl wf61 l) (wf : wfSl wf26 facts) (wd : wfSl wfInt seeds) (wg : wf26 f) : l_FnExactWhyReached s l facts seeds f = some true := by
 unfold l_FnExactWhyReached
 by_cases h : (1048576 : Int) < (s.length : Int)
 · rw [if_pos (by simpa using h)]
 rw [if_neg (by simpa using h)]
 by_cases h' : (1048576 : Int) < (seeds.length : Int)
 · rw [if_pos (by simpa using h')]
 rw [if_neg (by simpa using h')]
 obtain ⟨n1, e1, h1⟩ := sz_MethodS l wl 1048576 (by omega) (by omega)
 rw [e1, Option.bind_some]
 try dsimp only at h1
 rcases h1 with ⟨rfl, p1⟩ | p1
 rotate_left
 · rw [if_pos (by simpa using p1)]
 rw [if_neg (by simp only [decide_eq_true_eq]; omega)]
 obtain ⟨n2, e2, h2⟩ := sz_FactS facts wf _ p1 (by omega)
 rw [e2, Option.bind_some]
 try dsimp only at h2
 rcases h2 with ⟨rfl, p2⟩ | p2
 rotate_left
 · rw [if_pos (by simpa using p2)]
 rw [if_neg (by simp only [decide_eq_true_eq]; omega)]
 obtain ⟨n3, e3, h3⟩ := sz_Fact f wg _ p2 (by omega)
 rw [e3, Option.bind_some]
 try dsimp only at h3
 rcases h3 with ⟨rfl, p3⟩ | p3
 rotate_left
 · rw [if_pos (by simpa using p3)]
 rw [if_neg (by simp only [decide_eq_true_eq]; omega)]
 have p4 := p3
 simp only [tot_Fact] at p4
 have b0 : bdL bdAny s := bdL_flat s (by omega)
 have b1 := bd_MethodS l (by omega)
 have b2 := bd_FactS facts (by omega)
 have b3 : bdL bdAny seeds := bdL_flat seeds (by omega)
 have b4 : bd_Fact f := bdL_flat _ (by omega)
 have eS := s_WhyReached_eq s l facts seeds f (by omega) b1 b2 (by omega)
 have eI := i_WhyReached_eq s l facts seeds f (by omega) b1 b2 (by omega)
 have o1 := pWhyR_bd s l facts seeds f
 generalize pWhyR s l facts seeds f = R at eS eI o1
 have o2 : mtN_Access R.1 < 4294967296 := by simp only [mtN_Access, msL_one]; exact o1.1
 have m0 := msL_one s
 have m1 := ms_MethodS l
 have m2 := ms_FactS facts
 have m3 := msL_one seeds
 have m4 : mtN_Fact f = f.Values.length := by simp only [mtN_Fact, msL_one]
 have k0 := mark_IntS s 1 b0 (by omega) (by omega)
 have k1 := mark_MethodS l (1 + msL (fun _ => 1) s) b1 (by omega) (by omega)
 have k2 := mark_FactS facts (1 + msL (fun _ => 1) s + msL meN_Method l) b2 (by omega) (by omega)
 have k3 := mark_IntS seeds (1 + msL (fun _ => 1) s + msL meN_Method l + msL meN_Fact facts) b3 (by omega) (by omega)
 have k4 := mark_Fact f (1 + msL (fun _ => 1) s + msL meN_Method l + msL meN_Fact facts + msL (fun _ => 1) seeds) b4 (by omega) (by omega)
 have k5 := mark_Access R.1 1 o1 (by omega) (by omega)
 have k6 := held_Access R.1 1 o1 (by omega) (by omega)
 have k7 : ({ Method := R.1.Method, Values := (mtK_Access R.1 1).Values } : Access) = mtK_Access R.1 1 := rfl
 simp only [to_IntS s b0, to_IntS seeds b3, to_MethodS l b1, to_FactS facts b2, to_Fact f b4, eS, eI, eq_IntS, eq_MethodS, eq_FactS, eq_Fact, eq_Access, k0, k1, k2, k3, k4, k5, k6, k7, Option.bind_some, Bool.not_true, Bool.false_eq_true, if_false, neg_dec2 (show (0 : Int) ≤ 1 + (msL (fun _ => 1) s : Int) + (msL meN_Method l : Int) + (msL meN_Fact facts : Int) + (msL (fun _ => 1) seeds : Int) + (mtN_Fact f : Int) by omega), neg_dec2 (show (0 : Int) ≤ 1 + (mtN_Access R.1 : Int) by omega), cond_false, bne_self_eq_false, beq_self_eq_true]
end Go.Proofs.YtopbakibjfoccaaGreat
/-
 The row FnExactWhyReached.
-/
set_option maxRecDepth 100000
namespace Go.Proofs.YtopbakibjfoccaaGreat.fnExactWhyReached
open Go Go.Fw Go.ChangeShapes Go.WideShapes Go.ChangeAt Go.RowKit
theorem own : ownKnob Tryz.prog.godebug = none := by kernel_rfl
theorem laidOut : laidOutB Tryz.prog = true := by kernel_rfl
set_option maxRecDepth 100000 in
theorem lifted (os : Os) (started : os.Started) (H : Type) (enc : TypeId × Value → H) :
   ReturnsInHanded {} Tryz.checked os 3 .any (Rows.fnExactWhyReachedSpec.pre6 enc Tryz.prog Tryz.f3 Rows.fnExactWhyReachedRow.domain false) (Rows.fnExactWhyReachedSpec.post enc Tryz.prog Tryz.f3 false true false false) := by
 refine returnsInHanded_of_change_sized (C := Tryz.checked) own started (by kernel_rfl) Tryz.func3
   (ChangeSpec.witness6 (enc := enc) (C := Tryz.checked) false ⟨#[], #[.slice none 0 0, .slice none 0 0, .slice none 0 0, .slice none 0 0, .agg #[.int .i64 0, .slice none 0 0]], []⟩ 16 (by kernel_rfl) (by kernel_rfl) (by kernel_rfl) (by kernel_rfl)) ?_
 intro W base args ds gs before hval hW _ hwt _
 have hW' := hW
 obtain ⟨p, q, hA0, hV, rfl, hfz, hnd⟩ := hW
 obtain ⟨rfl, rfl⟩ := trodVars_none hV
 have hA : DataW.TrodAll enc Tryz.prog W 0 (fun _ => true) true [22, 23, 24, 22, 26] args.toList ds p := hA0
 have hw : ∀ n ∈ DataW.weightsEach Tryz.prog [22, 23, 24, 22, 26] ds, n ≤ reachBytes := fun n hn => by
   have := List.all_eq_true.1 hwt n (by rw [List.append_nil]; exact hn)
   simpa using this
 obtain ⟨v0, vs0, d0, ds0, p0, ρ0, H0, av0, a0, e0, rfl, hA0, hw0, r0, f0, u0, i0, rv0, q0, w0⟩ := opn_arg hA hw (Opn.slice (s := 1) (by kernel_rfl) (by kernel_rfl) (by decide) (Nat.lt_of_lt_of_le (by decide) (Nat.le_of_eq (show 8 = _ from by kernel_rfl))) (Opn.int (by kernel_rfl))) (fun H v a h => by obtain ⟨_, _, rfl⟩ := RdS.len h; kernel_rfl) (r := .any) (base := base) (fun v h => hval 0 22 v rfl (arg_at h)) (Rel.nil _ W trivial) Frn.nil
 obtain ⟨v1, vs1, d1, ds1, p1, ρ1, H1, av1, a1, e1, rfl, hA1, hw1, r1, f1, u1, i1, rv1, q1, w1⟩ := opn_arg hA0 hw0 (Opn.slice (s := 5) (by kernel_rfl) (by kernel_rfl) (by decide) (Nat.lt_of_lt_of_le (by decide) (Nat.le_of_eq (show 56 = _ from by kernel_rfl))) op61) (fun H v a h => by obtain ⟨_, _, rfl⟩ := RdS.len h; kernel_rfl) (r := .any) (base := base) (fun v h => hval 1 23 v rfl (arg_at (by rw [e0]; exact h))) r0 f0
 obtain ⟨v2, vs2, d2, ds2, p2, ρ2, H2, av2, a2, e2, rfl, hA2, hw2, r2, f2, u2, i2, rv2, q2, w2⟩ := opn_arg hA1 hw1 (Opn.slice (s := 2) (by kernel_rfl) (by kernel_rfl) (by decide) (Nat.lt_of_lt_of_le (by decide) (Nat.le_of_eq (show 32 = _ from by kernel_rfl))) op26) (fun H v a h => by obtain ⟨_, _, rfl⟩ := RdS.len h; kernel_rfl) (r := .any) (base := base) (fun v h => hval 2 24 v rfl (arg_at (by rw [e0, e1]; exact h))) r1 f1
 obtain ⟨v3, vs3, d3, ds3, p3, ρ3, H3, av3, a3, e3, rfl, hA3, hw3, r3, f3, u3, i3, rv3, q3, w3⟩ := opn_arg hA2 hw2 (Opn.slice (s := 1) (by kernel_rfl) (by kernel_rfl) (by decide) (Nat.lt_of_lt_of_le (by decide) (Nat.le_of_eq (show 8 = _ from by kernel_rfl))) (Opn.int (by kernel_rfl))) (fun H v a h => by obtain ⟨_, _, rfl⟩ := RdS.len h; kernel_rfl) (r := .any) (base := base) (fun v h => hval 3 22 v rfl (arg_at (by rw [e0, e1, e2]; exact h))) r2 f2
 obtain ⟨v4, vs4, d4, ds4, p4, ρ4, H4, av4, a4, e4, rfl, hA4, hw4, r4, f4, u4, i4, rv4, q4, w4⟩ := opn_arg hA3 hw3 op26 sh26 (r := .any) (base := base) (fun v h => hval 4 26 v rfl (arg_at (by rw [e0, e1, e2, e3]; exact h))) r3 f3
 obtain ⟨en, rfl⟩ := opn_none hA4
 subst en
 obtain ⟨sa0, sm0, rfl⟩ := RdS.len q0
 obtain ⟨sa1, sm1, rfl⟩ := RdS.len q1
 obtain ⟨sa2, sm2, rfl⟩ := RdS.len q2
 obtain ⟨sa3, sm3, rfl⟩ := RdS.len q3
 obtain ⟨xav4_0, rfl, gav4_0⟩ := q4
 have hargs : RelVs ρ4 [(.slice sa0 a0.length sm0), (.slice sa1 a1.length sm1), (.slice sa2 a2.length sm2), (.slice sa3 a3.length sm3), (.agg [(.int .i64 a4.Rel), xav4_0.v].toArray)] args.toList := by
   rw [e0, e1, e2, e3, e4]
   exact (.cons _ _ _ _ (rv0.up (((u1.trans u2).trans u3).trans u4)) (.cons _ _ _ _ (rv1.up ((u2.trans u3).trans u4)) (.cons _ _ _ _ (rv2.up (u3.trans u4)) (.cons _ _ _ _ (rv3.up u4) (.cons _ _ _ _ rv4 .nil)))))
 have hlaw := law_fnExactWhyReached w0 w1 w2 w3 w4
 refine ((l_FnExactWhyReached_ok a0 ⟨sa0, _, sm0⟩ a1 ⟨sa1, _, sm1⟩ a2 ⟨sa2, _, sm2⟩ a3 ⟨sa3, _, sm3⟩ a4 xav4_0 true hlaw) H4 [] (Ctx.dup (Ctx.dup (Ctx.dup (Ctx.dup (Ctx.dup (Ctx.start _) gav4_0 rfl) (Mono.up q3 i4) rfl) (Mono.up q2 (i3.trans i4)) rfl) (Mono.up q1 ((i2.trans i3).trans i4)) rfl) (Mono.up q0 (((i1.trans i2).trans i3).trans i4)) rfl) ρ4 W args r4 hargs).mono ?_
 rintro e w' ⟨v, r, ρ', H', rfl, h1, h2, h3, x, h5, -⟩
 have h6 : r = .bool true := h5
 subst h6
 refine ⟨_, rfl, ?_⟩
 rw [h1.bool_inv]
 refine law_post hW' rfl laidOut (by kernel_rfl) rfl (by kernel_rfl) (fun d => ?_) (h3.below f4)
 by_cases hd : d = [d0, d1, d2, d3, d4]
 · subst hd; exact .inl ⟨rfl, rfl, rfl⟩
 · exact .inr (by simpa using hd)
theorem named : Tryz.pinned.checked.prog.funcNamed Rows.fnExactWhyReachedRow.func = some 3 := by kernel_rfl
set_option maxHeartbeats 10000000 in
theorem closed : joinedFacts Tryz.pinned.checked.prog 3 Tryz.f3 Rows.fnExactWhyReachedSpec Rows.fnExactWhyReachedRow = true := by
 simp only [joinedFacts, Bool.and_eq_true]
 repeat' refine And.intro ?_ ?_
 all_goals (as_aux_lemma => kernel_rfl)
theorem over : Rows.fnExactWhyReachedRow.holds Tryz.pinned (OpenSpec.ofChange Rows.fnExactWhyReachedSpec) :=
 OpenClaim.holds_of_wide 3 Tryz.f3 rfl rfl rfl rfl rfl rfl rfl ⟨rfl, rfl, rfl, rfl, rfl⟩ rfl rfl rfl rfl rfl named Tryz.func3 closed
   (of_decide_eq_true (by kernel_rfl)) (by unfold Func.isWrapper; first | (rw [if_pos (by decide +kernel)]; kernel_rfl) | (rw [if_neg (by decide +kernel)]; exact ⟨rfl, rfl⟩))
   (fun os started H enc _ => lifted os started H enc)
theorem proved : Rows.FnExactWhyReachedSaid := over
end Go.Proofs.YtopbakibjfoccaaGreat.fnExactWhyReached
