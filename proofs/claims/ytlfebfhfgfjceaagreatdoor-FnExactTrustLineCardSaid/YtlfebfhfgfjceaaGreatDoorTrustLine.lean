/-
  FnExactTrustLine: the plain law and the row: for all arguments.
-/
import Derived.Test.YtlfebfhfgfjceaaGreatDoorTrustLineG2
import Derived.Test.YtlfebfhfgfjceaaGreatDoorFcTrustLine
import Derived.Test.YtlfebfhfgfjceaaGreatDoorRows
import Derived.Test.YtlfebfhfgfjceaaGreatDoorTie
import Derived.Test.YtlfebfhfgfjceaaGreatDoorCards
import Derived.LaidMore
import Derived.OpenShut
import Derived.Stop.Joined
import Derived.Stop.LaidErr
import Derived.SevenTiedAt
import Derived.Lib.LaidTab
import Derived.WalkKit
import Derived.KernelRfl
/-
 Plain laws of the helpers. Written by a program.
-/
set_option maxRecDepth 100000
set_option maxHeartbeats 4000000
set_option linter.unusedVariables false
namespace Go.Proofs.YtlfebfhfgfjceaaGreatDoor
open Go Go.Fw
def bd_Access (a : Access) : Prop := (bdL bdAny) a.Values
def bd_Fact (a : Fact) : Prop := (bdL bdAny) a.Values
theorem sz_IntS : Sz l_szIntS (fun a : List Int => a.length) (wfSl wfInt) := sz_flat (fun _ _ => rfl)
def tot_Method (a : Method) : Nat := a.Inputs.length
theorem sz_Method : Sz l_szMethod tot_Method wf74 := by
 intro a ⟨w_Rel, w_Inputs, w_Limit, w_Cost, w_Quota⟩ left hl hm
 unfold l_szMethod
 have ht : tot_Method a = a.Inputs.length := rfl
 obtain ⟨n1, e1, h1⟩ := sz_IntS a.Inputs w_Inputs _ hl hm
 rw [e1, Option.bind_some]
 try dsimp only at h1
 rcases h1 with ⟨rfl, p1⟩ | p1
 rotate_left
 · rw [if_pos (by simpa using p1)]; exact ⟨-1, rfl, .inr (by omega)⟩
 rw [if_neg (by simp only [decide_eq_true_eq]; omega)]
 exact ⟨_, rfl, .inl ⟨by rw [ht] <;> omega, p1⟩⟩
theorem sz_MethodS : Sz l_szMethodS (totL tot_Method) (wfSl wf74) := sz_slice sz_Method (fun _ _ => rfl) (fun _ _ _ _ => rfl) (fun _ _ => rfl)
def tot_Access (a : Access) : Nat := a.Values.length
theorem sz_Access : Sz l_szAccess tot_Access wf77 := by
 intro a ⟨w_Method, w_Values⟩ left hl hm
 unfold l_szAccess
 have ht : tot_Access a = a.Values.length := rfl
 obtain ⟨n1, e1, h1⟩ := sz_IntS a.Values w_Values _ hl hm
 rw [e1, Option.bind_some]
 try dsimp only at h1
 rcases h1 with ⟨rfl, p1⟩ | p1
 rotate_left
 · rw [if_pos (by simpa using p1)]; exact ⟨-1, rfl, .inr (by omega)⟩
 rw [if_neg (by simp only [decide_eq_true_eq]; omega)]
 exact ⟨_, rfl, .inl ⟨by rw [ht] <;> omega, p1⟩⟩
def tot_Fact (a : Fact) : Nat := a.Values.length
theorem sz_Fact : Sz l_szFact tot_Fact wf123 := by
 intro a ⟨w_Rel, w_Values⟩ left hl hm
 unfold l_szFact
 have ht : tot_Fact a = a.Values.length := rfl
 obtain ⟨n1, e1, h1⟩ := sz_IntS a.Values w_Values _ hl hm
 rw [e1, Option.bind_some]
 try dsimp only at h1
 rcases h1 with ⟨rfl, p1⟩ | p1
 rotate_left
 · rw [if_pos (by simpa using p1)]; exact ⟨-1, rfl, .inr (by omega)⟩
 rw [if_neg (by simp only [decide_eq_true_eq]; omega)]
 exact ⟨_, rfl, .inl ⟨by rw [ht] <;> omega, p1⟩⟩
theorem sz_FactS : Sz l_szFactS (totL tot_Fact) (wfSl wf123) := sz_slice sz_Fact (fun _ _ => rfl) (fun _ _ _ _ => rfl) (fun _ _ => rfl)
def tot_Told (a : Told) : Nat := tot_Access a.Access + (totL tot_Fact) a.Facts
theorem sz_Told : Sz l_szTold tot_Told wf79 := by
 intro a ⟨w_Access, w_Facts⟩ left hl hm
 unfold l_szTold
 have ht : tot_Told a = tot_Access a.Access + (totL tot_Fact) a.Facts := rfl
 obtain ⟨n1, e1, h1⟩ := sz_Access a.Access w_Access _ hl hm
 rw [e1, Option.bind_some]
 try dsimp only at h1
 rcases h1 with ⟨rfl, p1⟩ | p1
 rotate_left
 · rw [if_pos (by simpa using p1)]; exact ⟨-1, rfl, .inr (by omega)⟩
 rw [if_neg (by simp only [decide_eq_true_eq]; omega)]
 obtain ⟨n2, e2, h2⟩ := sz_FactS a.Facts w_Facts _ p1 (by omega)
 rw [e2, Option.bind_some]
 try dsimp only at h2
 rcases h2 with ⟨rfl, p2⟩ | p2
 rotate_left
 · rw [if_pos (by simpa using p2)]; exact ⟨-1, rfl, .inr (by omega)⟩
 rw [if_neg (by simp only [decide_eq_true_eq]; omega)]
 exact ⟨_, rfl, .inl ⟨by rw [ht] <;> omega, p2⟩⟩
theorem sz_ToldS : Sz l_szToldS (totL tot_Told) (wfSl wf79) := sz_slice sz_Told (fun _ _ => rfl) (fun _ _ _ _ => rfl) (fun _ _ => rfl)
theorem to_IntS : ∀ (a : List Int), (bdL bdAny) a → l_toIntS a = some a :=
 to_slice (fun _ => rfl) (fun _ _ => rfl) (fun x r k c hx hk => by
   rw [l_toIntS_L1]
   simp [chk, hk])
def bd_Method (a : Method) : Prop := (bdL bdAny) a.Inputs
theorem to_Method (a : Method) (h : bd_Method a) : l_toMethod a = some a := by
 have b_a_Inputs : (bdL bdAny) a.Inputs := h
 simp (disch := assumption) only [l_toMethod, to_IntS, Option.bind_some]
theorem to_MethodS : ∀ (a : List Method), (bdL bd_Method) a → l_toMethodS a = some a :=
 to_slice (fun _ => rfl) (fun _ _ => rfl) (fun x r k c hx hk => by
   rw [l_toMethodS_L1]
   rw [to_Method _ hx]
   simp [chk, hk])
theorem to_Access (a : Access) (h : bd_Access a) : l_toAccess a = some a := by
 have b_a_Values : (bdL bdAny) a.Values := h
 simp (disch := assumption) only [l_toAccess, to_IntS, Option.bind_some]
theorem to_Fact (a : Fact) (h : bd_Fact a) : l_toFact a = some a := by
 have b_a_Values : (bdL bdAny) a.Values := h
 simp (disch := assumption) only [l_toFact, to_IntS, Option.bind_some]
theorem to_FactS : ∀ (a : List Fact), (bdL bd_Fact) a → l_toFactS a = some a :=
 to_slice (fun _ => rfl) (fun _ _ => rfl) (fun x r k c hx hk => by
   rw [l_toFactS_L1]
   rw [to_Fact _ hx]
   simp [chk, hk])
def bd_Told (a : Told) : Prop := bd_Access a.Access ∧ (bdL bd_Fact) a.Facts
theorem to_Told (a : Told) (h : bd_Told a) : l_toTold a = some a := by
 have b_a_Access : bd_Access a.Access := h.1
 have b_a_Access_Values : (bdL bdAny) a.Access.Values := b_a_Access
 have b_a_Facts : (bdL bd_Fact) a.Facts := h.2
 simp (disch := assumption) only [l_toTold, to_Access, to_FactS, Option.bind_some]
theorem to_ToldS : ∀ (a : List Told), (bdL bd_Told) a → l_toToldS a = some a :=
 to_slice (fun _ => rfl) (fun _ _ => rfl) (fun x r k c hx hk => by
   rw [l_toToldS_L1]
   rw [to_Told _ hx]
   simp [chk, hk])
theorem eq_IntS : ∀ (a : List Int), l_eqIntS a a = some true :=
 eq_slice (fun _ _ => rfl) (fun _ _ => rfl) (fun b x r k h => by
   rw [l_eqIntS_L1, ix_nat, h]
   simp)
theorem eq_Method (a : Method) : l_eqMethod a a = some true := by simp [l_eqMethod, eq_IntS]
theorem eq_MethodS : ∀ (a : List Method), l_eqMethodS a a = some true :=
 eq_slice (fun _ _ => rfl) (fun _ _ => rfl) (fun b x r k h => by
   rw [l_eqMethodS_L1, ix_nat, h]
   simp [eq_Method])
theorem eq_Access (a : Access) : l_eqAccess a a = some true := by simp [l_eqAccess, eq_IntS]
theorem eq_Fact (a : Fact) : l_eqFact a a = some true := by simp [l_eqFact, eq_IntS]
theorem eq_FactS : ∀ (a : List Fact), l_eqFactS a a = some true :=
 eq_slice (fun _ _ => rfl) (fun _ _ => rfl) (fun b x r k h => by
   rw [l_eqFactS_L1, ix_nat, h]
   simp [eq_Fact])
theorem eq_Told (a : Told) : l_eqTold a a = some true := by simp [l_eqTold, eq_Access, eq_FactS]
theorem eq_ToldS : ∀ (a : List Told), l_eqToldS a a = some true :=
 eq_slice (fun _ _ => rfl) (fun _ _ => rfl) (fun b x r k h => by
   rw [l_eqToldS_L1, ix_nat, h]
   simp [eq_Told])
end Go.Proofs.YtlfebfhfgfjceaaGreatDoor
/-
 Plain laws.
-/
set_option maxRecDepth 100000
set_option linter.unusedVariables false
namespace Go.Proofs.YtlfebfhfgfjceaaGreatDoor
open Go Go.Fw
theorem s_l2Ints_eq (a b : List Int) : s_l2Ints a b = some (eqF (fun x y => x == y) a b) :=
 eqf_fun (L := s_l2Ints_L1) (f := fun x y => some (x == y)) (fun _ _ => rfl) (fun _ _ => rfl) (fun b x r k y h => by rw [s_l2Ints_L1, ix_nat, h]; rfl) a b (fun _ _ _ _ => rfl)
theorem g_slices_Equal_int_int_eq (a b : List Int) : g_slices_Equal_int_int a b = some (eqF (fun x y => x == y) a b) :=
 eqf_fun (L := g_slices_Equal_int_int_L1) (f := fun x y => some (x == y)) (fun _ _ => rfl) (fun _ _ => rfl) (fun b x r k y h => by rw [g_slices_Equal_int_int_L1, ix_nat, h]; rfl) a b (fun _ _ _ _ => rfl)
def pIntsEq : List Int → List Int → Bool := eqF (fun x y => x == y)
theorem g_cmp_Compare_int_eq (x y : Int) : g_cmp_Compare_int x y = some (cmpI x y) := by
 simp only [g_cmp_Compare_int, g_cmp_isNaN_int, Option.bind_some, cmpI, bne_self_eq_false, Bool.false_eq_true, if_false, decide_eq_true_eq]
 split
 · rfl
 · split <;> rfl
theorem g_slices_Compare_loop (s1 b : List Int) : ∀ (l : List Int) (k : Nat), s1.drop k = l → k ≤ s1.length → g_slices_Compare_int_int_L1 s1 b l k = some (cmpL l (b.drop k))
 | [], k, hd, hk => by
   have h1 : s1.length ≤ k := List.drop_eq_nil_iff.1 hd
   rw [g_slices_Compare_int_int_L1]
   cases hb : b.drop k with
   | nil =>
     have h2 : b.length ≤ k := List.drop_eq_nil_iff.1 hb
     rw [if_neg (by simp; omega)]; rfl
   | cons y t =>
     have h2 : k < b.length := (drop_cons hb).1
     rw [if_pos (by simp; omega)]; rfl
 | x :: r, k, hd, hk => by
   have h1 : k < s1.length := (drop_cons hd).1
   rw [g_slices_Compare_int_int_L1]
   cases hb : b.drop k with
   | nil =>
     have h2 : b.length ≤ k := List.drop_eq_nil_iff.1 hb
     rw [if_pos (by simp; omega)]; rfl
   | cons y t =>
     have h2 : k < b.length := (drop_cons hb).1
     obtain ⟨e1, e2⟩ := get_drop hb
     rw [if_neg (by simp; omega), ix_nat, e1, Option.bind_some, g_cmp_Compare_int_eq, Option.bind_some, cmpL]
     split
     · rfl
     · rw [g_slices_Compare_loop s1 b r (k + 1) (get_drop hd).2 h1, e2]
theorem g_slices_Compare_eq (a b : List Int) : g_slices_Compare_int_int a b = some (cmpL a b) := by
 have := g_slices_Compare_loop a b a 0 rfl (by omega)
 simpa [g_slices_Compare_int_int] using this
theorem g_cmp_Or2_eq (x y : Int) : g_cmp_Or_int [x, y] = some (if x != 0 then x else y) := by
 simp only [g_cmp_Or_int, g_cmp_Or_int_L1]
 split
 · rfl
 · split
   · rfl
   · rename_i h; simp at h; rw [h]
def pCmpFact (a b : Fact) : Int := if cmpI a.Rel b.Rel != 0 then cmpI a.Rel b.Rel else cmpL a.Values b.Values
theorem i_CompareFacts_eq (a b : Fact) : i_CompareFacts a b = some (pCmpFact a b) := by
 simp only [i_CompareFacts, g_cmp_Compare_int_eq, g_slices_Compare_eq, Option.bind_some, g_cmp_Or2_eq, pCmpFact]
theorem s_CompareFacts_loop (a b : Fact) (ha : a.Values.length < 4294967296) : ∀ (m k : Nat), k ≤ a.Values.length → k ≤ b.Values.length → a.Values.length < k + m → s_CompareFacts_L1 a b m k = some (cmpL (a.Values.drop k) (b.Values.drop k))
 | 0, k, h1, _, h2 => by omega
 | m + 1, k, h1, h1', h2 => by
   rw [s_CompareFacts_L1]
   by_cases h : k < a.Values.length ∧ k < b.Values.length
   · rw [if_pos (by simp [h.1, h.2])]
     simp only [ix_nat, List.getElem?_eq_getElem h.1, List.getElem?_eq_getElem h.2, Option.bind_some]
     rw [List.drop_eq_getElem_cons h.1, List.drop_eq_getElem_cons h.2, cmpL, cmpI]
     by_cases e1 : a.Values[k] < b.Values[k]
     · simp [e1]
     · rw [if_neg (by simpa using e1)]
       by_cases e2 : b.Values[k] < a.Values[k]
       · simp [e1, e2]
       · rw [if_neg (by simpa using e2), if_neg e1, if_neg e2, show ((k : Int) + 1) = ((k + 1 : Nat) : Int) from rfl, wrap_nat (by omega), s_CompareFacts_loop a b ha m (k + 1) h.1 h.2 (by omega)]
         simp
   · rw [if_neg (by simp only [Bool.and_eq_true, decide_eq_true_eq]; omega)]
     by_cases h3 : k < b.Values.length
     · have : k = a.Values.length := by omega
       subst this
       rw [if_pos (by simp; omega), List.drop_of_length_le (Nat.le_refl _), List.drop_eq_getElem_cons h3]; rfl
     · rw [List.drop_of_length_le (show b.Values.length ≤ k by omega), if_neg (by simp; omega)]
       by_cases h4 : k < a.Values.length
       · rw [if_pos (by simp; omega), List.drop_eq_getElem_cons h4]; rfl
       · rw [if_neg (by simp; omega), List.drop_of_length_le (by omega)]; rfl
theorem s_CompareFacts_eq (a b : Fact) (ha : a.Values.length < 4294967296) : s_CompareFacts a b = some (pCmpFact a b) := by
 unfold s_CompareFacts pCmpFact cmpI
 by_cases h : a.Rel = b.Rel
 · rw [if_neg (by simp [h])]
   have := s_CompareFacts_loop a b ha (((a.Values.length : Int) - 0).toNat + 2) 0 (by omega) (by omega) (by omega)
   rw [show s_CompareFacts_L1 a b (((a.Values.length : Int) - 0).toNat + 2) 0 = _ from this]
   simp [h]
 · rw [if_pos (by simpa using h)]
   by_cases h2 : a.Rel < b.Rel
   · simp [h2]
   · have : b.Rel < a.Rel := by omega
     simp [h2, this]
theorem g_slices_Clone_int_int_eq (a : List Int) (h : a.length < 4294967296) : g_slices_Clone_int_int a = some a := by simp [g_slices_Clone_int_int, app_nil h]
theorem i_copyAccess_eq (a : Access) (h : bd_Access a) : i_copyAccess a = some a := by simp [i_copyAccess, g_slices_Clone_int_int_eq _ h.1]
theorem s_l8Access_eq (m : Int) (v : List Int) (h : v.length < 4294967296) : s_l8Access m v = some { Method := m, Values := v } := by simp [s_l8Access, app_nil h]
theorem bd_MethodS (a : List Method) (h : totL tot_Method a < 4294967296) : bdL bd_Method a := bdL_of (f := tot_Method) (fun x hx => bdL_flat _ hx) _ h
def in13 (n : Int) : Bool := decide (1 ≤ n) && decide (n ≤ 3)
def pSchema (s : List Int) : Bool := in13 (s.length : Int) && s.all in13
theorem s_IsSchema_eq (s : List Int) : s_IsSchema s = some (pSchema s) := by
 unfold s_IsSchema
 rw [all_loop (L := s_IsSchema_L1 s) (f := fun n => s_l1In n 1 3) (p := in13) (e := in13 (s.length : Int)) (fun k => by simp [s_IsSchema_L1, s_l1In, in13]) (fun x r k => rfl) s 0 (fun x _ => rfl), pSchema, Bool.and_comm]
theorem g_slices_ContainsFunc_int_int_iIsSchema1_eq (l : List Int) : g_slices_ContainsFunc_int_int_iIsSchema1 l = some (l.any fun x => !in13 x) := by
 unfold g_slices_ContainsFunc_int_int_iIsSchema1 g_slices_IndexFunc_int_int_iIsSchema1
 rw [index_loop (L := g_slices_IndexFunc_int_int_iIsSchema1_L1) (f := fun x => i_IsSchema_1 x) (p := fun x => !in13 x) (fun k => rfl) (fun x r k => rfl) l 0 (fun x hx => rfl), Option.bind_some, ixF_neg]
theorem i_IsSchema_eq (s : List Int) : i_IsSchema s = some (pSchema s) := by
 unfold i_IsSchema
 rw [g_slices_ContainsFunc_int_int_iIsSchema1_eq]
 simp only [i_within, Option.bind_some, pSchema, in13]
 cases hh : (decide (1 ≤ (s.length : Int)) && decide ((s.length : Int) ≤ 3))
 · simp
 · simp [List.all_eq_not_any_not, in13]
theorem pSchema_len {s : List Int} (h : pSchema s = true) : s.length ≤ 3 ∧ ∀ x ∈ s, 1 ≤ x ∧ x ≤ 3 := by
 simp [pSchema, in13] at h
 exact ⟨by omega, h.2⟩
theorem s_l1In_eq (x lo hi : Int) : s_l1In x lo hi = some (pIn lo hi x) := rfl
theorem i_within_eq (x lo hi : Int) : i_within x lo hi = some (pIn lo hi x) := rfl
def pHasRel (s : List Int) (rel : Int) : Bool := pSchema s && pIn 0 ((s.length : Int) - 1) rel
theorem i_hasRel_eq (s : List Int) (rel : Int) (hs : s.length < 4294967296) : i_hasRel s rel = some (pHasRel s rel) := by
 simp only [i_hasRel, i_IsSchema_eq, i_within_eq, Option.bind_some, pHasRel]
 rw [wrap_in (by omega) (by omega)]
 cases pSchema s <;> rfl
theorem pHasRel_ix {s : List Int} {rel : Int} (h : pHasRel s rel = true) : ∃ x, ix s rel = some x ∧ 1 ≤ x ∧ x ≤ 3 := by
 simp only [pHasRel, Bool.and_eq_true] at h
 obtain ⟨x, h1, h2⟩ := pIn_ix h.2
 exact ⟨x, h1, (pSchema_len h.1).2 x (List.mem_of_getElem? h2)⟩
def pAr (s : List Int) (rel : Int) : Int := (ix s rel).getD 0
theorem pAr_ix {s : List Int} {rel : Int} (h : pHasRel s rel = true) : ix s rel = some (pAr s rel) ∧ 1 ≤ pAr s rel ∧ pAr s rel ≤ 3 := by
 obtain ⟨x, h1, h2⟩ := pHasRel_ix h
 unfold pAr
 rw [h1]; exact ⟨rfl, h2⟩
def pMethod (s : List Int) (m : Method) : Bool := pHasRel s m.Rel && (pIn 0 9 m.Limit && (pIn 0 99 m.Cost && (pIn 1 99 m.Quota && (adjB (fun _ => true) (fun y x => decide (x ≤ y)) none m.Inputs && m.Inputs.all (pIn 0 (pAr s m.Rel - 1))))))
theorem s_IsMethod_eq (s : List Int) (m : Method) (hs : s.length < 4294967296) (hm : m.Inputs.length < 4294967296) : s_IsMethod s m = some (pMethod s m) := by
 simp only [s_IsMethod, s_IsSchema_eq, s_l1In_eq, Option.bind_some]
 rw [wrap_in (by omega) (by omega)]
 have hL : pHasRel s m.Rel = true → s_IsMethod_L1 s m m.Inputs 0 = some (adjB (pIn 0 (pAr s m.Rel - 1)) (fun y x => decide (x ≤ y)) none m.Inputs) := fun h => by
   obtain ⟨e1, e2, e3⟩ := pAr_ix h
   have := adj_loop (L := s_IsMethod_L1 s m) (P := fun _ => True) (p := pIn 0 (pAr s m.Rel - 1)) (q := fun y x => decide (x ≤ y)) (e := true) m.Inputs (fun _ _ => trivial) hm (fun _ => rfl) (fun x r _ => by
     rw [s_IsMethod_L1]
     simp only [e1, Option.bind_some, s_l1In_eq, dec_zero]
     rw [wrap_in (by omega) (by omega)]
     cases pIn 0 (pAr s m.Rel - 1) x <;> rfl) (fun x r k y _ _ hy hk => by
     rw [s_IsMethod_L1]
     simp only [e1, Option.bind_some, s_l1In_eq, dec_succ, ix_prev _ k hk, hy]
     rw [wrap_in (by omega) (by omega)]
     cases pIn 0 (pAr s m.Rel - 1) x <;> cases decide (x ≤ y) <;> rfl)
   simpa using this
 unfold pMethod
 cases hh : pHasRel s m.Rel
 · simp only [pHasRel] at hh
   cases h1 : pSchema s
   · rfl
   · rw [h1, Bool.true_and] at hh
     simp [hh]
 · rw [hL hh, adjB_and]
   simp only [pHasRel, Bool.and_eq_true] at hh
   rw [hh.1, hh.2]
   cases pIn 0 9 m.Limit
   · rfl
   cases pIn 0 99 m.Cost
   · rfl
   cases pIn 1 99 m.Quota <;> rfl
theorem i_ascending_eq (l : List Int) (hl : l.length < 4294967296) : i_ascending l = some (adjB (fun _ => true) (fun y x => decide (x ≤ y)) none l) := by
 have := adj_loop (L := i_ascending_L1 l) (P := fun _ => True) (p := fun _ => true) (q := fun y x => decide (x ≤ y)) (e := true) l (fun _ _ => trivial) hl (fun _ => rfl) (fun x r _ => rfl) (fun x r k y _ _ hy hk => by
     rw [i_ascending_L1]
     simp only [Option.bind_some, dec_succ, ix_prev _ k hk, hy, cond_true]
     cases decide (x ≤ y) <;> rfl)
 simpa [i_ascending] using this
theorem g_slices_ContainsFunc_int_int_iMethodfits1_eq (l : List Int) (a1 : Int) (h1 : -1000 ≤ a1 ∧ a1 ≤ 1000) : g_slices_ContainsFunc_int_int_iMethodfits1 l a1 = some (l.any fun x => !pIn 0 (a1 - 1) x) := by
 unfold g_slices_ContainsFunc_int_int_iMethodfits1 g_slices_IndexFunc_int_int_iMethodfits1
 rw [index_loop (L := g_slices_IndexFunc_int_int_iMethodfits1_L1 a1) (f := fun x => i_Method_fits_1 x a1) (p := fun x => !pIn 0 (a1 - 1) x) (fun k => rfl) (fun x r k => rfl) l 0 (fun x hx => by rw [i_Method_fits_1, i_within_eq, wrap_in (by omega) (by omega)]; rfl), Option.bind_some, ixF_neg]
theorem i_isCost_eq (n : Int) : i_isCost n = some (pIn 0 99 n) := rfl
theorem i_IsMethod_eq (s : List Int) (m : Method) (hs : s.length < 4294967296) (hm : m.Inputs.length < 4294967296) : i_IsMethod s m = some (pMethod s m) := by
 simp only [i_IsMethod, i_hasRel_eq _ _ hs, Option.bind_some, pMethod]
 cases hh : pHasRel s m.Rel
 · rfl
 obtain ⟨e1, e2, e3⟩ := pAr_ix hh
 simp only [e1, Option.bind_some, i_Method_fits, i_ascending_eq _ hm, g_slices_ContainsFunc_int_int_iMethodfits1_eq _ _ (show -1000 ≤ pAr s m.Rel ∧ pAr s m.Rel ≤ 1000 by omega), i_within_eq, i_isCost_eq, cond_true, Bool.true_and]
 have e4 : (m.Inputs.any fun x => !pIn 0 (pAr s m.Rel - 1) x) = !(m.Inputs.all (pIn 0 (pAr s m.Rel - 1))) := by simp [List.all_eq_not_any_not]
 rw [e4]
 cases adjB (fun _ => true) (fun y x => decide (x ≤ y)) none m.Inputs <;> cases m.Inputs.all (pIn 0 (pAr s m.Rel - 1)) <;> cases pIn 0 9 m.Limit <;> cases pIn 0 99 m.Cost <;> cases pIn 1 99 m.Quota <;> rfl
def pMethods (s : List Int) (l : List Method) : Bool := pSchema s && (decide ((l.length : Int) ≤ 5) && l.all (pMethod s))
theorem s_AreMethods_eq (s : List Int) (l : List Method) (hs : s.length < 4294967296) (hl : bdL bd_Method l) : s_AreMethods s l = some (pMethods s l) := by
 unfold s_AreMethods
 rw [all_loop (L := s_AreMethods_L1 s l) (f := fun m => s_IsMethod s m) (p := pMethod s) (e := pSchema s && decide ((l.length : Int) ≤ 5)) (fun k => by
   rw [s_AreMethods_L1, s_IsSchema_eq]
   cases pSchema s <;> rfl) (fun x r k => rfl) l 0 (fun x hx => s_IsMethod_eq s x hs (hl.2 x hx).1), pMethods]
 cases pSchema s <;> cases decide ((l.length : Int) ≤ 5) <;> cases l.all (pMethod s) <;> rfl
theorem g_slices_ContainsFunc_impl_Method_impl_Method_iAreMethods1_eq (l : List Method) (s : List Int) (hs : s.length < 4294967296) (hl : bdL bd_Method l) : g_slices_ContainsFunc_impl_Method_impl_Method_iAreMethods1 l s = some (l.any fun x => !pMethod s x) := by
 unfold g_slices_ContainsFunc_impl_Method_impl_Method_iAreMethods1 g_slices_IndexFunc_impl_Method_impl_Method_iAreMethods1
 rw [index_loop (L := g_slices_IndexFunc_impl_Method_impl_Method_iAreMethods1_L1 s) (f := fun x => i_AreMethods_1 x s) (p := fun x => !pMethod s x) (fun k => rfl) (fun x r k => rfl) l 0 (fun x hx => by rw [i_AreMethods_1, i_IsMethod_eq s x hs (hl.2 x hx).1]; rfl), Option.bind_some, ixF_neg]
theorem i_AreMethods_eq (s : List Int) (l : List Method) (hs : s.length < 4294967296) (hl : bdL bd_Method l) : i_AreMethods s l = some (pMethods s l) := by
 simp only [i_AreMethods, i_IsSchema_eq, Option.bind_some, g_slices_ContainsFunc_impl_Method_impl_Method_iAreMethods1_eq l s hs hl, pMethods, List.all_eq_not_any_not]
 cases pSchema s <;> cases decide ((l.length : Int) ≤ 5) <;> rfl
theorem g_slices_ContainsFunc_int_int_iareValues1_eq (l : List Int) : g_slices_ContainsFunc_int_int_iareValues1 l = some (l.any fun x => !pIn 0 9 x) := by
 unfold g_slices_ContainsFunc_int_int_iareValues1 g_slices_IndexFunc_int_int_iareValues1
 rw [index_loop (L := g_slices_IndexFunc_int_int_iareValues1_L1) (f := fun x => i_areValues_1 x) (p := fun x => !pIn 0 9 x) (fun k => rfl) (fun x r k => rfl) l 0 (fun x hx => rfl), Option.bind_some, ixF_neg]
theorem i_areValues_eq (l : List Int) : i_areValues l = some (l.all (pIn 0 9)) := by
 simp only [i_areValues, g_slices_ContainsFunc_int_int_iareValues1_eq, Option.bind_some, List.all_eq_not_any_not]
def pFact (s : List Int) (f : Fact) : Bool := pHasRel s f.Rel && (((f.Values.length : Int) == pAr s f.Rel) && f.Values.all (pIn 0 9))
theorem s_IsFact_eq (s : List Int) (f : Fact) (hs : s.length < 4294967296) : s_IsFact s f = some (pFact s f) := by
 simp only [s_IsFact, s_IsSchema_eq, s_l1In_eq, Option.bind_some]
 rw [wrap_in (by omega) (by omega)]
 have hL : s_IsFact_L1 f.Values 0 = some (f.Values.all (pIn 0 9)) := by
   have := all_loop (L := s_IsFact_L1) (f := fun x => some (pIn 0 9 x)) (p := pIn 0 9) (e := true) (fun _ => rfl) (fun x r' k => rfl) f.Values 0 (fun _ _ => rfl)
   simpa using this
 unfold pFact
 cases hF : pHasRel s f.Rel
 · simp only [pHasRel] at hF
   cases h1 : pSchema s
   · rfl
   · rw [h1, Bool.true_and] at hF
     simp [hF]
 · obtain ⟨e1, -⟩ := pAr_ix hF
   rw [hL, e1]
   simp only [pHasRel, Bool.and_eq_true] at hF
   simp only [hF, Bool.not_true, cond_false, Option.bind_some, bne]
   cases ((f.Values.length : Int) == pAr s f.Rel) <;> rfl
theorem i_IsFact_eq (s : List Int) (f : Fact) (hs : s.length < 4294967296) : i_IsFact s f = some (pFact s f) := by
 simp only [i_IsFact, i_hasRel_eq _ _ hs, Option.bind_some, pFact]
 cases hF : pHasRel s f.Rel
 · rfl
 obtain ⟨e1, -⟩ := pAr_ix hF
 simp only [e1, Option.bind_some, i_areValues_eq, cond_true, Bool.true_and]
 cases ((f.Values.length : Int) == pAr s f.Rel) <;> rfl
def pFacts (s : List Int) (l : List Fact) : Bool := adjB (pFact s) (fun y x => decide (0 ≤ pCmpFact y x)) none l && (pSchema s && decide ((l.length : Int) ≤ 24))
theorem s_AreFacts_eq (s : List Int) (l : List Fact) (hs : s.length < 4294967296) (hl : bdL bd_Fact l) : s_AreFacts s l = some (pFacts s l) :=
 adj_loop (L := s_AreFacts_L1 s l) (P := bd_Fact) (p := pFact s) (q := fun y x => decide (0 ≤ pCmpFact y x)) l hl.2 hl.1 (fun _ => by
   rw [s_AreFacts_L1, s_IsSchema_eq]
   cases pSchema s <;> rfl) (fun x r _ => by
   rw [s_AreFacts_L1, s_IsFact_eq s x hs]
   simp only [Option.bind_some, dec_zero]
   cases pFact s x <;> rfl) (fun x r k y _ hy hy2 hk => by
   rw [s_AreFacts_L1, s_IsFact_eq s x hs]
   simp only [Option.bind_some, dec_succ, ix_prev _ k hk, hy2, s_CompareFacts_eq y x hy.1]
   cases pFact s x <;> cases decide (0 ≤ pCmpFact y x) <;> rfl)
theorem i_AreFacts_eq (s : List Int) (l : List Fact) (hs : s.length < 4294967296) (hl : bdL bd_Fact l) : i_AreFacts s l = some (pFacts s l) :=
 adj_loop (L := i_AreFacts_L1 s l) (P := bd_Fact) (p := pFact s) (q := fun y x => decide (0 ≤ pCmpFact y x)) l hl.2 hl.1 (fun _ => by
   rw [i_AreFacts_L1, i_IsSchema_eq]
   cases pSchema s <;> rfl) (fun x r _ => by
   rw [i_AreFacts_L1, i_IsFact_eq s x hs]
   simp only [Option.bind_some, dec_zero]
   cases pFact s x <;> rfl) (fun x r k y _ hy hy2 hk => by
   rw [i_AreFacts_L1, i_IsFact_eq s x hs]
   simp only [Option.bind_some, dec_succ, ix_prev _ k hk, hy2, i_CompareFacts_eq y x]
   cases pFact s x <;> cases decide (0 ≤ pCmpFact y x) <;> rfl)
def pMeth (l : List Method) (m : Int) : Method := (ix l m).getD ⟨0, [], 0, 0, 0⟩
theorem pMeth_ix {l : List Method} {m : Int} (h : pIn 0 ((l.length : Int) - 1) m = true) : ix l m = some (pMeth l m) ∧ pMeth l m ∈ l := by
 obtain ⟨x, h1, h2⟩ := pIn_ix h
 unfold pMeth
 rw [h1]; exact ⟨rfl, List.mem_of_getElem? h2⟩
def pAccess (s : List Int) (l : List Method) (a : Access) : Bool := pMethods s l && (pIn 0 ((l.length : Int) - 1) a.Method && (((a.Values.length : Int) == ((pMeth l a.Method).Inputs.length : Int)) && a.Values.all (pIn 0 9)))
theorem s_IsAccess_eq (s : List Int) (l : List Method) (a : Access) (hs : s.length < 4294967296) (hl : bdL bd_Method l) : s_IsAccess s l a = some (pAccess s l a) := by
 have h1 := hl.1
 have hL : s_IsAccess_L1 a.Values 0 = some (a.Values.all (pIn 0 9)) := by
   have := all_loop (L := s_IsAccess_L1) (f := fun x => some (pIn 0 9 x)) (p := pIn 0 9) (e := true) (fun _ => rfl) (fun x r' k => rfl) a.Values 0 (fun _ _ => rfl)
   simpa using this
 simp only [s_IsAccess, s_AreMethods_eq s l hs hl, s_l1In_eq, Option.bind_some, pAccess, hL]
 rw [wrap_in (by omega) (by omega)]
 cases pMethods s l
 · rfl
 cases hm : pIn 0 ((l.length : Int) - 1) a.Method
 · rfl
 rw [(pMeth_ix hm).1]
 simp only [Option.bind_some, Bool.not_true, cond_false, bne]
 cases ((a.Values.length : Int) == ((pMeth l a.Method).Inputs.length : Int)) <;> rfl
theorem i_IsAccess_eq (s : List Int) (l : List Method) (a : Access) (hs : s.length < 4294967296) (hl : bdL bd_Method l) : i_IsAccess s l a = some (pAccess s l a) := by
 have h1 := hl.1
 simp only [i_IsAccess, i_AreMethods_eq s l hs hl, i_within_eq, Option.bind_some, pAccess, i_areValues_eq]
 rw [wrap_in (by omega) (by omega)]
 cases pMethods s l
 · rfl
 cases hm : pIn 0 ((l.length : Int) - 1) a.Method
 · rfl
 rw [(pMeth_ix hm).1]
 simp only [Option.bind_some, cond_true]
 cases ((a.Values.length : Int) == ((pMeth l a.Method).Inputs.length : Int)) <;> rfl
theorem s_l4Less_loop (a b : List Int) (ha : a.length < 4294967296) : ∀ (m k : Nat), k ≤ a.length → k ≤ b.length → a.length < k + m → s_l4Less_L1 a b m k = some (decide (cmpL (a.drop k) (b.drop k) < 0))
 | 0, k, h1, _, h2 => by omega
 | m + 1, k, h1, h1', h2 => by
   rw [s_l4Less_L1]
   by_cases h : k < a.length ∧ k < b.length
   · rw [if_pos (by simp [h.1, h.2])]
     simp only [ix_nat, List.getElem?_eq_getElem h.1, List.getElem?_eq_getElem h.2, Option.bind_some]
     rw [List.drop_eq_getElem_cons h.1, List.drop_eq_getElem_cons h.2, cmpL, cmpI]
     by_cases e : a[k] = b[k]
     · rw [if_neg (by simp [e]), show ((k : Int) + 1) = ((k + 1 : Nat) : Int) from rfl, wrap_nat (by omega), s_l4Less_loop a b ha m (k + 1) h.1 h.2 (by omega)]
       simp [e]
     · rw [if_pos (by simpa using e)]
       by_cases e1 : a[k] < b[k]
       · simp [e1]
       · have e2 : b[k] < a[k] := by omega
         simp [e1, e2]
   · rw [if_neg (by simp only [Bool.and_eq_true, decide_eq_true_eq]; omega)]
     by_cases h3 : k < b.length
     · have : k = a.length := by omega
       subst this
       rw [List.drop_of_length_le (Nat.le_refl _), List.drop_eq_getElem_cons h3]
       simp [cmpL, h3]
     · rw [List.drop_of_length_le (show b.length ≤ k by omega)]
       by_cases h4 : k < a.length
       · rw [List.drop_eq_getElem_cons h4]
         simp [cmpL]; omega
       · rw [List.drop_of_length_le (by omega)]
         simp [cmpL]; omega
theorem s_l4Less_eq (a b : List Int) (ha : a.length < 4294967296) : s_l4Less a b = some (decide (cmpL a b < 0)) := by
 have := s_l4Less_loop a b ha (((a.length : Int) - 0).toNat + 2) 0 (by omega) (by omega) (by omega)
 simpa [s_l4Less] using this
def pFitL (f : Fact) (vals : List Int) : List Int → Nat → Bool
 | [], _ => true
 | x :: r, k => (f.Values[x.toNat]?.getD 0 == vals[k]?.getD 0) && pFitL f vals r (k + 1)
def pFits (m : Method) (vals : List Int) (f : Fact) : Bool := f.Rel == m.Rel && pFitL f vals m.Inputs 0
theorem ix_getD (l : List Int) (x : Int) (h : 0 ≤ x ∧ x < (l.length : Int)) : ix l x = some (l[x.toNat]?.getD 0) := by
 have hlt : x.toNat < l.length := by omega
 unfold ix
 rw [if_pos h.1, List.getElem?_eq_getElem hlt]; rfl
theorem s_l5Fits_loop (vals : List Int) (f : Fact) : ∀ (l : List Int) (k : Nat), (∀ x ∈ l, 0 ≤ x ∧ x < (f.Values.length : Int)) → k + l.length ≤ vals.length → s_l5Fits_L1 vals f l k = some (pFitL f vals l k)
 | [], _, _, _ => rfl
 | x :: r, k, h, hl => by
   simp only [List.length_cons] at hl
   rw [s_l5Fits_L1, ix_getD _ _ (h x (by simp)), ix_getD _ _ ⟨by omega, by omega⟩, Option.bind_some, Option.bind_some, pFitL, Int.toNat_natCast]
   by_cases e : f.Values[x.toNat]?.getD 0 = vals[k]?.getD 0
   · rw [if_neg (by simp [e]), s_l5Fits_loop vals f r (k + 1) (fun y hy => h y (by simp [hy])) (by omega)]; simp [e]
   · rw [if_pos (by simpa using e)]; simp [e]
theorem i_matches_loop (f : Fact) (a : Access) : ∀ (l : List Int) (k : Nat), (∀ x ∈ l, 0 ≤ x ∧ x < (f.Values.length : Int)) → k + l.length ≤ a.Values.length → i_matches_1_L1 f a l k = some (!pFitL f a.Values l k)
 | [], _, _, _ => rfl
 | x :: r, k, h, hl => by
   simp only [List.length_cons] at hl
   rw [i_matches_1_L1, ix_getD _ _ (h x (by simp)), ix_getD _ _ ⟨by omega, by omega⟩, Option.bind_some, Option.bind_some, pFitL, Int.toNat_natCast]
   by_cases e : f.Values[x.toNat]?.getD 0 = a.Values[k]?.getD 0
   · rw [if_neg (by simp [e]), i_matches_loop f a r (k + 1) (fun y hy => h y (by simp [hy])) (by omega)]; simp [e]
   · rw [if_pos (by simpa using e)]; simp [e]
def pFitOK (m : Method) (vals : List Int) (f : Fact) : Prop := (f.Rel = m.Rel → ∀ x ∈ m.Inputs, 0 ≤ x ∧ x < (f.Values.length : Int)) ∧ m.Inputs.length ≤ vals.length
theorem s_l5Fits_eq (m : Method) (vals : List Int) (f : Fact) (h : pFitOK m vals f) : s_l5Fits m vals f = some (pFits m vals f) := by
 unfold s_l5Fits pFits
 by_cases e : f.Rel = m.Rel
 · rw [if_neg (by simp [e]), s_l5Fits_loop vals f m.Inputs 0 (h.1 e) (by have := h.2; omega)]; simp [e]
 · rw [if_pos (by simpa using e)]; simp [e]
theorem i_matches_1_eq (f : Fact) (m : Method) (a : Access) (h : pFitOK m a.Values f) : i_matches_1 f m a = some (!pFits m a.Values f) := by
 unfold i_matches_1 pFits
 by_cases e : f.Rel = m.Rel
 · rw [if_neg (by simp [e]), i_matches_loop f a m.Inputs 0 (h.1 e) (by have := h.2; omega)]; simp [e]
 · rw [if_pos (by simpa using e)]; simp [e]
theorem pFitOK_of {s : List Int} {l : List Method} {a : Access} {f : Fact} (h1 : pAccess s l a = true) (h2 : pFact s f = true) : pFitOK (pMeth l a.Method) a.Values f := by
 simp only [pAccess, pMethods, Bool.and_eq_true, List.all_eq_true] at h1
 obtain ⟨⟨-, -, hm⟩, hi, hv, -⟩ := h1
 have hmm := hm _ (pMeth_ix hi).2
 simp only [pMethod, Bool.and_eq_true, List.all_eq_true] at hmm
 obtain ⟨-, -, -, -, -, hin⟩ := hmm
 simp only [pFact, Bool.and_eq_true] at h2
 obtain ⟨-, hf, -⟩ := h2
 refine ⟨fun e x hx => ?_, by simp at hv; omega⟩
 have := hin x hx
 simp [pIn] at this hf
 rw [hf, e]
 omega
theorem pFacts_all {s : List Int} {l : List Fact} (h : pFacts s l = true) : ∀ f ∈ l, pFact s f = true := by
 unfold pFacts at h
 rw [adjB_and] at h
 simp only [Bool.and_eq_true, List.all_eq_true] at h
 exact h.1.2
theorem i_copyFact_eq (a : Fact) (h : bd_Fact a) : i_copyFact a = some a := by simp [i_copyFact, g_slices_Clone_int_int_eq _ h.1]
theorem i_copyFacts_eq (l : List Fact) (h : bdL bd_Fact l) : i_copyFacts l = some l :=
 copy_all (L := i_copyFacts_L1) (fun _ _ => rfl) (fun x r k c hx hc => by rw [i_copyFacts_L1, i_copyFact_eq x hx, Option.bind_some, app1 hc, Option.bind_some]) l h
theorem i_matches_eq (s : List Int) (l : List Method) (facts : List Fact) (a : Access) (h1 : pAccess s l a = true) (h2 : ∀ f ∈ facts, pFact s f = true) (hb : bdL bd_Fact facts) : i_matches l facts a = some (facts.filter (pFits (pMeth l a.Method) a.Values)) := by
 have hi : pIn 0 ((l.length : Int) - 1) a.Method = true := by
   simp only [pAccess, Bool.and_eq_true] at h1
   exact h1.2.1
 rw [i_matches, (pMeth_ix hi).1, Option.bind_some, i_copyFacts_eq facts hb, Option.bind_some, g_slices_DeleteFunc_impl_Fact_impl_Fact_imatches1,
   delL_of (p := fun f => !pFits (pMeth l a.Method) a.Values f) (fun f hf => i_matches_1_eq f _ a (pFitOK_of h1 (h2 f hf)))]
 simp
theorem s_l2One_eq (r : Int) (v : List Int) (h : v.length < 4294967296) : s_l2One r v = some { Rel := r, Values := v } := by simp [s_l2One, app_nil h]
theorem s_l2Copy_eq (l : List Fact) (h : bdL bd_Fact l) : s_l2Copy l = some l :=
 copy_all (L := s_l2Copy_L1) (fun _ _ => rfl) (fun x r k c hx hc => by rw [s_l2Copy_L1, s_l2One_eq _ _ hx.1, Option.bind_some, app1 hc, Option.bind_some]) l h
theorem cmpI_anti (x y : Int) : cmpI y x = -cmpI x y := by
 unfold cmpI
 repeat' split
 all_goals omega
theorem cmpL_anti : ∀ (a b : List Int), cmpL b a = -cmpL a b
 | [], [] => rfl
 | [], _ :: _ => rfl
 | _ :: _, [] => rfl
 | x :: a, y :: b => by
   simp only [cmpL, cmpI_anti x y, cmpL_anti a b]
   by_cases h : cmpI x y = 0
   · simp [h]
   · rw [if_pos (by simp only [bne_iff_ne]; omega), if_pos (by simpa using h)]
theorem pCmpFact_anti (a b : Fact) : pCmpFact b a = -pCmpFact a b := by
 unfold pCmpFact
 rw [cmpI_anti a.Rel b.Rel, cmpL_anti a.Values b.Values]
 by_cases h : cmpI a.Rel b.Rel = 0
 · simp [h]
 · rw [if_pos (by simp only [bne_iff_ne]; omega), if_pos (by simpa using h)]
def pHasF (l : List Fact) (f : Fact) : Bool := l.any fun x => pCmpFact x f == 0
theorem s_HasFact_eq (l : List Fact) (f : Fact) (h : bdL bd_Fact l) : s_HasFact l f = some (pHasF l f) := by
 have hx : ∀ x ∈ l, x.Values.length < 4294967296 := fun x hx => (h.2 x hx).1
 clear h
 unfold s_HasFact
 generalize 0 = k
 induction l generalizing k with
 | nil => rfl
 | cons x l ih =>
   unfold s_HasFact_L1
   rw [s_CompareFacts_eq x f (hx x (by simp)), Option.bind_some]
   by_cases h : pCmpFact x f = 0
   · rw [if_pos (by simpa using h)]; simp [pHasF, h]
   · rw [if_neg (by simpa using h), ih (fun y hy => hx y (by simp [hy]))]; simp [pHasF, h]
theorem g_slices_ContainsFunc_impl_Fact_impl_Fact_iHasFact1_eq (l : List Fact) (f : Fact) : g_slices_ContainsFunc_impl_Fact_impl_Fact_iHasFact1 l f = some (pHasF l f) := by
 unfold g_slices_ContainsFunc_impl_Fact_impl_Fact_iHasFact1 g_slices_IndexFunc_impl_Fact_impl_Fact_iHasFact1
 rw [index_loop (L := g_slices_IndexFunc_impl_Fact_impl_Fact_iHasFact1_L1 f) (f := fun x => i_HasFact_1 x f) (p := fun x => pCmpFact x f == 0) (fun k => rfl) (fun x r k => rfl) l 0 (fun x hx => by rw [i_HasFact_1, i_CompareFacts_eq]; rfl), Option.bind_some, ixF_neg]
 rfl
theorem i_HasFact_eq (l : List Fact) (f : Fact) : i_HasFact l f = some (pHasF l f) := by
 rw [i_HasFact, g_slices_ContainsFunc_impl_Fact_impl_Fact_iHasFact1_eq]; rfl
def pInsF (f : Fact) : List Fact → List Fact
 | [] => [f]
 | x :: l => if 0 < pCmpFact x f then f :: x :: l else x :: pInsF f l
theorem pInsF_len (f : Fact) : ∀ l : List Fact, (pInsF f l).length = l.length + 1
 | [] => rfl
 | x :: l => by
   unfold pInsF
   split
   · rfl
   · simp [pInsF_len f l]
theorem pInsF_mem {f y : Fact} : ∀ {l : List Fact}, y ∈ pInsF f l → y = f ∨ y ∈ l
 | [], h => by simp [pInsF] at h; exact .inl h
 | x :: l, h => by
   unfold pInsF at h
   split at h
   · simp at h; simp [h]
   · rcases List.mem_cons.1 h with h | h
     · simp [h]
     · rcases pInsF_mem h with h | h <;> simp [h]
theorem pInsF_ix (f : Fact) : ∀ (l : List Fact) (k : Nat), (ixF (fun x => decide (0 < pCmpFact x f)) l k = -1 ∧ pInsF f l = l ++ [f]) ∨ ∃ j : Nat, j < l.length ∧ ixF (fun x => decide (0 < pCmpFact x f)) l k = ((k + j : Nat) : Int) ∧ pInsF f l = l.take j ++ f :: l.drop j
 | [], k => .inl ⟨rfl, rfl⟩
 | x :: l, k => by
   unfold ixF pInsF
   by_cases h : 0 < pCmpFact x f
   · rw [if_pos h, if_pos (by simpa using h)]
     exact .inr ⟨0, by simp, by simp, by simp⟩
   · rw [if_neg h, if_neg (by simpa using h)]
     rcases pInsF_ix f l (k + 1) with ⟨h1, h2⟩ | ⟨j, h1, h2, h3⟩
     · exact .inl ⟨h1, by rw [h2]; rfl⟩
     · exact .inr ⟨j + 1, by simp; omega, by rw [h2]; congr 1; omega, by rw [h3]; rfl⟩
def pAddF (l : List Fact) (f : Fact) : List Fact := if pHasF l f then l else pInsF f l
theorem pAddF_len (l : List Fact) (f : Fact) : (pAddF l f).length ≤ l.length + 1 := by
 unfold pAddF
 split
 · omega
 · rw [pInsF_len]; exact Nat.le_refl _
theorem pAddF_mem {l : List Fact} {f y : Fact} (h : y ∈ pAddF l f) : y = f ∨ y ∈ l := by
 unfold pAddF at h
 split at h
 · exact .inr h
 · exact pInsF_mem h
theorem i_added_eq (l : List Fact) (f : Fact) (hl : l.length + 1 < 4294967296) (hf : bd_Fact f) : i_added l f = some (pAddF l f) := by
 unfold i_added pAddF
 rw [i_HasFact_eq, Option.bind_some]
 cases hh : pHasF l f
 · rw [if_neg (by simp), if_neg (by simp)]
   have hix : g_slices_IndexFunc_impl_Fact_impl_Fact_iadded1 l f = some (ixF (fun x => decide (0 < pCmpFact x f)) l 0) :=
     index_loop (L := g_slices_IndexFunc_impl_Fact_impl_Fact_iadded1_L1 f) (f := fun x => i_added_1 x f) (p := fun x => decide (0 < pCmpFact x f)) (fun k => rfl) (fun x r k => rfl) l 0 (fun x hx => by rw [i_added_1, i_CompareFacts_eq]; rfl)
   rw [hix, Option.bind_some]
   rcases pInsF_ix f l 0 with ⟨h1, h2⟩ | ⟨j, h1, h2, h3⟩
   · rw [h1, if_pos (by decide), i_copyFact_eq f hf, Option.bind_some, g_slices_Insert_impl_Fact_impl_Fact, h2]
     rw [if_pos ⟨by omega, by omega, hl⟩, Option.bind_some, Int.toNat_natCast, List.take_length, List.drop_length]
   · rw [h2, if_neg (by simp only [decide_eq_true_eq]; omega), i_copyFact_eq f hf, Option.bind_some, g_slices_Insert_impl_Fact_impl_Fact, h3]
     rw [if_pos ⟨by omega, by omega, hl⟩, Option.bind_some, Int.toNat_natCast, Nat.zero_add]
 · rw [if_pos rfl, if_pos rfl]
theorem s_AddFact_L1_done (f : Fact) : ∀ (l : List Fact) (k : Nat) (c : List Fact), (∀ x ∈ l, bd_Fact x) → c.length + l.length < 4294967296 → s_AddFact_L1 f l k c true = some (c ++ l)
 | [], k, c, _, _ => by simp [s_AddFact_L1]
 | x :: l, k, c, hx, h => by
   simp only [List.length_cons] at h
   unfold s_AddFact_L1
   rw [Bool.not_true, cond_false, Option.bind_some]
   dsimp only
   rw [if_neg (by simp), s_l2One_eq _ _ (hx x (by simp)).1, Option.bind_some, app_ok (by simp; omega), Option.bind_some, Option.bind_some]
   dsimp only
   rw [s_AddFact_L1_done f l _ _ (fun y hy => hx y (by simp [hy])) (by simp; omega)]
   simp
theorem s_AddFact_L1_eq (f : Fact) (hf : bd_Fact f) : ∀ (l : List Fact) (k : Nat) (c : List Fact) (b : Bool), (∀ x ∈ l, bd_Fact x) → c.length + l.length + 1 < 4294967296 → s_AddFact_L1 f l k c b = some (if b then c ++ l else c ++ pInsF f l)
 | [], k, c, b, _, h => by
   unfold s_AddFact_L1
   cases b
   · rw [if_pos (show (!false) = true from rfl), s_l2One_eq _ _ hf.1, Option.bind_some, app_ok (by simp at h ⊢; omega), if_neg (by simp)]; rfl
   · simp
 | x :: l, k, c, b, hx, h => by
   simp only [List.length_cons] at h
   have hx1 := hx x (by simp)
   have hx2 : ∀ y ∈ l, bd_Fact y := fun y hy => hx y (by simp [hy])
   unfold s_AddFact_L1
   cases b
   · rw [Bool.not_false, cond_true, s_CompareFacts_eq f x hf.1, Option.bind_some, Option.bind_some]
     dsimp only
     have ha := pCmpFact_anti f x
     by_cases hc : 0 < pCmpFact x f
     · rw [if_pos (by simp only [decide_eq_true_eq]; omega), s_l2One_eq _ _ hf.1, Option.bind_some, app_ok (by simp; omega), Option.bind_some, s_l2One_eq _ _ hx1.1, Option.bind_some, app_ok (by simp; omega), Option.bind_some, Option.bind_some]
       dsimp only
       rw [s_AddFact_L1_done f l _ _ hx2 (by simp; omega), if_neg (by simp)]
       simp [pInsF, hc]
     · rw [if_neg (by simp only [decide_eq_true_eq]; omega), s_l2One_eq _ _ hx1.1, Option.bind_some, app_ok (by simp; omega), Option.bind_some, Option.bind_some]
       dsimp only
       rw [s_AddFact_L1_eq f hf l _ _ _ hx2 (by simp; omega), if_neg (by simp), if_neg (by simp)]
       simp [pInsF, hc]
   · rw [if_pos rfl]
     exact s_AddFact_L1_done f (x :: l) k c hx (by simp; omega)
theorem s_AddFact_eq (l : List Fact) (f : Fact) (hb : bdL bd_Fact l) (hl : l.length + 1 < 4294967296) (hf : bd_Fact f) : s_AddFact l f = some (pAddF l f) := by
 unfold s_AddFact pAddF
 rw [s_HasFact_eq l f hb, Option.bind_some, s_AddFact_L1_eq f hf l 0 [] _ hb.2 (by simpa using hl), List.nil_append, List.nil_append]
def pDig (n : Int) : List UInt8 := [UInt8.ofNat (48 + n.toNat)]
theorem s_FormatInt_eq {K : Nat} (hK : 2 ≤ K) (n : Int) (h : 0 ≤ n ∧ n ≤ 9) : s_FormatInt K n = some (pDig n) := by
 obtain ⟨k, rfl⟩ : ∃ k, K = k + 2 := ⟨K - 2, by omega⟩
 obtain ⟨h0, h1⟩ := h
 have : n = 0 ∨ n = 1 ∨ n = 2 ∨ n = 3 ∨ n = 4 ∨ n = 5 ∨ n = 6 ∨ n = 7 ∨ n = 8 ∨ n = 9 := by omega
 rcases this with rfl | rfl | rfl | rfl | rfl | rfl | rfl | rfl | rfl | rfl <;> rfl
theorem itoa_dig (n : Int) (h : 0 ≤ n ∧ n ≤ 9) : Lib.itoa n = pDig n := by
 unfold Lib.itoa pDig
 rw [if_neg (by omega), Lib.decDigits, dif_pos (by omega)]
theorem i_FormatInt_eq (n : Int) (h : 0 ≤ n ∧ n ≤ 9) : i_FormatInt n = some (pDig n) := by
 rw [i_FormatInt, g_strconv_Itoa, if_pos (by omega), itoa_dig n h]; rfl
theorem join_cons2 (x y : List UInt8) (l : List (List UInt8)) (sep : List UInt8) : Lib.join (x :: y :: l) sep = x ++ (sep ++ Lib.join (y :: l) sep) := by
 simp [Lib.join, List.intercalate, List.intersperse]
theorem join_one (x : List UInt8) (sep : List UInt8) : Lib.join [x] sep = x := by
 simp [Lib.join, List.intercalate, List.intersperse]
def pTail (sep : List UInt8) (l : List (List UInt8)) : List UInt8 := l.flatMap fun x => sep ++ x
theorem join_tail (x : List UInt8) (sep : List UInt8) : ∀ l : List (List UInt8), Lib.join (x :: l) sep = x ++ pTail sep l
 | [] => by rw [join_one]; simp [pTail]
 | y :: l => by rw [join_cons2, join_tail y sep l]; simp [pTail]
theorem pTail_len (sep : List UInt8) (n : Nat) : ∀ l : List (List UInt8), (∀ x ∈ l, x.length ≤ n) → (pTail sep l).length ≤ (sep.length + n) * l.length
 | [], _ => by simp [pTail]
 | x :: l, h => by
   have h1 := pTail_len sep n l fun y hy => h y (by simp [hy])
   have h2 := h x (by simp)
   simp only [pTail, List.flatMap_cons, List.length_append, List.length_cons, Nat.mul_succ] at *
   omega
theorem s_l2List_L1_eq {K : Nat} (hK : 2 ≤ K) : ∀ (l : List Int) (k : Nat) (c : List UInt8), 0 < k → (∀ x ∈ l, 0 ≤ x ∧ x ≤ 9) → c.length + 2 * l.length < 4294967296 → s_l2List_L1 K l k c = some (c ++ pTail [44] (l.map pDig))
 | [], k, c, _, _, _ => by simp [s_l2List_L1, pTail]
 | x :: l, k, c, hk, h, hl => by
   simp only [List.length_cons] at hl
   have e1 : cat c [44] = some (c ++ [44]) := by unfold cat; rw [if_pos (by simp; omega)]
   have e2 : cat (c ++ [44]) (pDig x) = some (c ++ [44] ++ pDig x) := by unfold cat; rw [if_pos (by simp [pDig]; omega)]
   unfold s_l2List_L1
   rw [if_pos (by simpa using hk), e1, Option.bind_some, s_FormatInt_eq hK x (h x (by simp)), Option.bind_some, e2, Option.bind_some, Option.bind_some]
   dsimp only
   rw [s_l2List_L1_eq hK l _ _ (by omega) (fun y hy => h y (by simp [hy])) (by simp [pDig]; omega)]
   simp [pTail]
theorem s_l2List_eq {K : Nat} (hK : 2 ≤ K) (l : List Int) (h : ∀ x ∈ l, 0 ≤ x ∧ x ≤ 9) (hl : l.length ≤ 3) : s_l2List K l = some (Lib.join (l.map pDig) [44]) := by
 unfold s_l2List
 cases l with
 | nil => rfl
 | cons x l =>
   simp only [List.length_cons] at hl
   have e2 : cat [] (pDig x) = some (pDig x) := by unfold cat; rw [if_pos (by simp [pDig])]; rfl
   unfold s_l2List_L1
   rw [if_neg (by simp), s_FormatInt_eq hK x (h x (by simp)), Option.bind_some, e2, Option.bind_some, Option.bind_some]
   dsimp only
   rw [s_l2List_L1_eq hK l _ _ (by omega) (fun y hy => h y (by simp [hy])) (by simp [pDig]; omega), List.map_cons, join_tail]
theorem i_joined_L1_eq : ∀ (l : List Int) (k : Nat) (c : List (List UInt8)), (∀ x ∈ l, 0 ≤ x ∧ x ≤ 9) → c.length + l.length ≤ 3 → (∀ x ∈ c, x.length ≤ 1) → i_joined_L1 [44] l k c = some (Lib.join (c ++ l.map pDig) [44])
 | [], k, c, _, hl, hc => by
   have hj : (Lib.join c [44]).length ≤ 10 := by
     cases c with
     | nil => simp [Lib.join, List.intercalate]
     | cons x c =>
       rw [join_tail, List.length_append]
       have h1 := pTail_len [44] 1 c fun y hy => hc y (by simp [hy])
       have h2 := hc x (by simp)
       simp only [List.length_cons, List.length_nil] at h1 hl
       omega
   simp only [List.length_nil, Nat.add_zero] at hl
   unfold i_joined_L1
   rw [g_strings_Join, if_pos ⟨by omega, by omega⟩]
   simp
 | x :: l, k, c, h, hl, hc => by
   simp only [List.length_cons] at hl
   unfold i_joined_L1
   rw [i_FormatInt_eq x (h x (by simp)), Option.bind_some, app_ok (by simp; omega), Option.bind_some, i_joined_L1_eq l _ _ (fun y hy => h y (by simp [hy])) (by simp; omega) (fun y hy => by
     rcases List.mem_append.1 hy with hy | hy
     · exact hc y hy
     · rw [List.mem_singleton.1 hy]; simp [pDig])]
   simp
theorem i_joined_eq (l : List Int) (h : ∀ x ∈ l, 0 ≤ x ∧ x ≤ 9) (hl : l.length ≤ 3) : i_joined l [44] = some (Lib.join (l.map pDig) [44]) := by
 rw [i_joined, i_joined_L1_eq l 0 [] h (by simpa using hl) (by simp)]; rfl
theorem join_digs (l : List Int) (hl : l.length ≤ 3) : (Lib.join (l.map pDig) [44]).length ≤ 7 := by
 cases l with
 | nil => simp [Lib.join, List.intercalate]
 | cons x l =>
   rw [List.map_cons, join_tail, List.length_append]
   have h1 := pTail_len [44] 1 (l.map pDig) fun y hy => by
     obtain ⟨z, -, rfl⟩ := List.mem_map.1 hy
     simp [pDig]
   simp only [List.length_cons, List.length_nil, List.length_map] at h1 hl
   have : (pDig x).length = 1 := rfl
   omega
theorem pIn9_vals {l : List Int} (h : l.all (pIn 0 9) = true) : ∀ x ∈ l, 0 ≤ x ∧ x ≤ 9 := by
 simpa only [List.all_eq_true, pIn, Bool.and_eq_true, decide_eq_true_eq] using h
theorem decDigits_rec (u : Nat) : Lib.decDigits u = if u < 10 then [UInt8.ofNat (48 + u)] else Lib.decDigits (u / 10) ++ [UInt8.ofNat (48 + u % 10)] := by
 rw [Lib.decDigits]
 by_cases h : u < 10
 · rw [dif_pos h, if_pos h]
 · rw [dif_neg h, if_neg h]
theorem decDigits_len : ∀ (m u : Nat), u < 10 ^ (m + 1) → (Lib.decDigits u).length ≤ m + 1
 | 0, u, h => by rw [decDigits_rec, if_pos (by simpa using h)]; simp
 | m + 1, u, h => by
   rw [decDigits_rec]
   split
   · simp
   · have := decDigits_len m (u / 10) (by rw [Nat.pow_succ] at h; omega)
     rw [List.length_append, List.length_singleton]; omega
theorem itoa_len (n : Int) (h : -9223372036854775808 ≤ n ∧ n ≤ 9223372036854775807) : (Lib.itoa n).length ≤ 20 := by
 unfold Lib.itoa
 split
 · have := decDigits_len 18 n.natAbs (by omega)
   rw [List.length_cons]; omega
 · have := decDigits_len 18 n.toNat (by omega)
   omega
theorem s_FormatInt_L1_gen : ∀ (m u : Nat) (n : Int) (c : List UInt8), n.natAbs = u → u < 10 ^ m → -9223372036854775808 ≤ n ∧ n ≤ 9223372036854775807 → c.length + m < 4294967296 → s_FormatInt_L1 (m + 1) n c = some ((if u = 0 then [] else Lib.decDigits u) ++ c)
 | 0, u, n, c, hu, h, _, _ => by
   have h0 : n = 0 := by simp at h; omega
   subst h0
   have : u = 0 := by simpa using hu.symm
   subst this
   unfold s_FormatInt_L1
   rw [if_neg (by simp)]; rfl
 | m + 1, u, n, c, hu, h, hr, hc => by
   by_cases h0 : u = 0
   · have hn : n = 0 := by omega
     subst hn
     subst h0
     unfold s_FormatInt_L1
     rw [if_neg (by simp)]; rfl
   · have hn : n ≠ 0 := by omega
     have hc1 : ∀ b : UInt8, cat [b] c = some (b :: c) := fun b => by unfold cat; rw [if_pos (by simp; omega)]; rfl
     have hd : n.tdiv 10 = if n < 0 then -((u / 10 : Nat) : Int) else ((u / 10 : Nat) : Int) := by
       split
       · have : n = -(u : Int) := by omega
         rw [this, Int.neg_tdiv]; rfl
       · have : n = (u : Int) := by omega
         rw [this]; rfl
     have hm : n.tmod 10 = if n < 0 then -((u % 10 : Nat) : Int) else ((u % 10 : Nat) : Int) := by
       split
       · have : n = -(u : Int) := by omega
         rw [this, Int.neg_tmod]; rfl
       · have : n = (u : Int) := by omega
         rw [this]; rfl
     have hw : IntKind.i64.wrap (n.tdiv 10) = n.tdiv 10 := wrap_in (by rw [hd]; split <;> omega) (by rw [hd]; split <;> omega)
     have hu8 : ∀ r : Nat, r < 10 → u8of (IntKind.i64.wrap (48 + (r : Int))) = UInt8.ofNat (48 + r) := by
       intro r hr
       have : r = 0 ∨ r = 1 ∨ r = 2 ∨ r = 3 ∨ r = 4 ∨ r = 5 ∨ r = 6 ∨ r = 7 ∨ r = 8 ∨ r = 9 := by omega
       rcases this with rfl | rfl | rfl | rfl | rfl | rfl | rfl | rfl | rfl | rfl <;> decide
     have hlt : u % 10 < 10 := Nat.mod_lt _ (by omega)
     have hgo := s_FormatInt_L1_gen m (u / 10) (n.tdiv 10) (UInt8.ofNat (48 + u % 10) :: c) (by rw [hd]; split <;> omega) (by rw [Nat.pow_succ] at h; omega) (by rw [hd]; split <;> omega) (by simp; omega)
     have hfin : ((if u / 10 = 0 then [] else Lib.decDigits (u / 10)) ++ UInt8.ofNat (48 + u % 10) :: c) = (if u = 0 then [] else Lib.decDigits u) ++ c := by
       rw [if_neg h0, decDigits_rec u]
       by_cases h9 : u < 10
       · rw [if_pos h9, if_pos (by omega), Nat.mod_eq_of_lt h9]; rfl
       · rw [if_neg h9, if_neg (by omega)]; simp
     rw [hfin] at hgo
     unfold s_FormatInt_L1
     rw [if_pos (by simpa using hn), hw, hm]
     by_cases hneg : n < 0
     · rw [if_pos hneg]
       by_cases hz : u % 10 = 0
       · rw [if_neg (by simp only [decide_eq_true_eq]; omega), show -((u % 10 : Nat) : Int) = ((u % 10 : Nat) : Int) from by omega, hu8 _ hlt, hc1, Option.bind_some]
         exact hgo
       · rw [if_pos (by simp only [decide_eq_true_eq]; omega), show IntKind.i64.wrap (- -((u % 10 : Nat) : Int)) = ((u % 10 : Nat) : Int) from by rw [Int.neg_neg]; exact wrap_in (by omega) (by omega), hu8 _ hlt, hc1, Option.bind_some]
         exact hgo
     · rw [if_neg hneg, if_neg (by simp only [decide_eq_true_eq]; omega), hu8 _ hlt, hc1, Option.bind_some]
       exact hgo
theorem s_FormatInt_gen (k : Nat) (n : Int) (hr : -9223372036854775808 ≤ n ∧ n ≤ 9223372036854775807) (hk : 19 ≤ k) (hk2 : k < 1000) : s_FormatInt (k + 1) n = some (Lib.itoa n) := by
 unfold s_FormatInt Lib.itoa
 by_cases h0 : n = 0
 · subst h0
   rw [if_pos (by decide), if_neg (by decide), show Int.toNat 0 = 0 from rfl, decDigits_rec]; rfl
 · rw [if_neg (by simpa using h0), s_FormatInt_L1_gen k n.natAbs n [] rfl (Nat.lt_of_lt_of_le (show n.natAbs < 10 ^ 19 by omega) (Nat.pow_le_pow_right (by decide) hk)) hr (by simp; omega), Option.bind_some, if_neg (show ¬ n.natAbs = 0 by omega), List.append_nil]
   dsimp only
   by_cases hneg : n < 0
   · have := decDigits_len 18 n.natAbs (by omega)
     rw [if_pos (by simpa using hneg), if_pos hneg]
     unfold cat
     rw [if_pos (by simp; omega)]; rfl
   · rw [if_neg (by simpa using hneg), if_neg hneg, show n.natAbs = n.toNat from by omega]
theorem i_FormatInt_gen (n : Int) (hr : -9223372036854775808 ≤ n ∧ n ≤ 9223372036854775807) : i_FormatInt n = some (Lib.itoa n) := by
 rw [i_FormatInt, g_strconv_Itoa, if_pos hr]; rfl
theorem cat_sm {a b : List UInt8} (h : a.length + b.length < 4294967296) : cat a b = some (a ++ b) := by unfold cat; rw [if_pos (by omega)]
def pNums (l : List Int) : List (List UInt8) := l.map Lib.itoa
def InR (l : List Int) : Prop := ∀ x ∈ l, -9223372036854775808 ≤ x ∧ x ≤ 9223372036854775807
theorem join_len (sep : List UInt8) : ∀ l : List (List UInt8), (Lib.join l sep).length ≤ (l.map List.length).sum + sep.length * l.length
 | [] => by simp [Lib.join, List.intercalate]
 | [x] => by rw [join_one]; simp
 | x :: y :: l => by
   have := join_len sep (y :: l)
   rw [join_cons2]
   simp only [List.length_append, List.map_cons, List.sum_cons, List.length_cons, Nat.mul_succ] at *
   omega
theorem pNums_sum : ∀ l : List Int, InR l → ((pNums l).map List.length).sum ≤ 20 * l.length
 | [], _ => by simp [pNums]
 | x :: l, h => by
   have h1 := pNums_sum l fun y hy => h y (by simp [hy])
   have h2 := itoa_len x (h x (by simp))
   simp only [pNums, List.map_cons, List.sum_cons, List.length_cons] at *
   omega
theorem pNums_join (l : List Int) (h : InR l) : (Lib.join (pNums l) [44]).length ≤ 21 * l.length := by
 have h1 := join_len [44] (pNums l)
 have h2 := pNums_sum l h
 have h3 : (pNums l).length = l.length := by simp [pNums]
 simp only [List.length_singleton] at h1
 omega
theorem i_joined_L1_gen : ∀ (l : List Int) (k : Nat) (c : List (List UInt8)), InR l → c.length + l.length ≤ 1048576 → (c.map List.length).sum ≤ 20 * c.length → i_joined_L1 [44] l k c = some (Lib.join (c ++ pNums l) [44])
 | [], k, c, _, hl, hc => by
   have hj := join_len [44] c
   simp only [List.length_singleton, List.length_nil, Nat.add_zero] at hj hl
   unfold i_joined_L1
   rw [g_strings_Join, if_pos ⟨by omega, by omega⟩]
   simp [pNums]
 | x :: l, k, c, h, hl, hc => by
   simp only [List.length_cons] at hl
   have hx := itoa_len x (h x (by simp))
   unfold i_joined_L1
   rw [i_FormatInt_gen x (h x (by simp)), Option.bind_some, app_ok (by simp; omega), Option.bind_some, i_joined_L1_gen l _ _ (fun y hy => h y (by simp [hy])) (by simp; omega) (by simp; omega)]
   simp [pNums]
theorem i_joined_gen (l : List Int) (h : InR l) (hl : l.length ≤ 1048576) : i_joined l [44] = some (Lib.join (pNums l) [44]) := by
 rw [i_joined, i_joined_L1_gen l 0 [] h (by simpa using hl) (by simp)]; rfl
def pFactOK (f : Fact) : Bool := pIn 0 2 f.Rel && (pIn 1 3 (f.Values.length : Int) && f.Values.all (pIn 0 9))
def pFmtF (f : Fact) : List UInt8 := if pFactOK f then [114] ++ pDig f.Rel ++ [40] ++ Lib.join (f.Values.map pDig) [44] ++ [41] else []
theorem pFmtF_cats {m v : List UInt8} (hm : m.length ≤ 1) (hv : v.length ≤ 7) : (((cat [114] m).bind fun x => (cat x [40]).bind fun y => (cat y v).bind fun z => (cat z [41]).bind fun u => some u) : Option (List UInt8)) = some ([114] ++ m ++ [40] ++ v ++ [41]) := by
 rw [cat_sm (by simp; omega), Option.bind_some, cat_sm (by simp; omega), Option.bind_some, cat_sm (by simp; omega), Option.bind_some, cat_sm (by simp; omega), Option.bind_some]
theorem s_FormatFact_L1_eq {K : Nat} (hK : 2 ≤ K) (a : Fact) (hm : 0 ≤ a.Rel ∧ a.Rel ≤ 2) (hl : a.Values.length ≤ 3) : ∀ (l : List Int) (k : Nat), (l.all (pIn 0 9) = true → ∀ x ∈ a.Values, 0 ≤ x ∧ x ≤ 9) → s_FormatFact_L1 a K l k = some (if l.all (pIn 0 9) then [114] ++ pDig a.Rel ++ [40] ++ Lib.join (a.Values.map pDig) [44] ++ [41] else [])
 | [], k, hv => by
   have hv' := hv rfl
   unfold s_FormatFact_L1
   rw [s_FormatInt_eq hK _ (by omega), Option.bind_some, s_l2List_eq hK a.Values hv' hl]
   simp only [Option.bind_some]
   rw [if_pos (by rfl)]
   exact pFmtF_cats (by simp [pDig]) (join_digs a.Values hl)
 | x :: l, k, hv => by
   unfold s_FormatFact_L1
   rw [s_l1In_eq, Option.bind_some]
   cases h : pIn 0 9 x
   · simp [h]
   · rw [if_neg (by simp), s_FormatFact_L1_eq hK a hm hl l _ (fun h' => hv (by simp [h, h']))]; simp [h]
theorem s_FormatFact_eq {K : Nat} (hK : 2 ≤ K) (a : Fact) : s_FormatFact K a = some (pFmtF a) := by
 unfold s_FormatFact pFmtF pFactOK
 rw [s_l1In_eq, Option.bind_some]
 cases h1 : pIn 0 2 a.Rel
 · rfl
 rw [s_l1In_eq, Option.bind_some]
 cases h2 : pIn 1 3 (a.Values.length : Int)
 · rfl
 have hm : 0 ≤ a.Rel ∧ a.Rel ≤ 2 := by simpa only [pIn, Bool.and_eq_true, decide_eq_true_eq] using h1
 have hn : 1 ≤ (a.Values.length : Int) ∧ (a.Values.length : Int) ≤ 3 := by simpa only [pIn, Bool.and_eq_true, decide_eq_true_eq] using h2
 simp only [Bool.not_true, cond_false, Option.bind_some, Bool.false_eq_true, if_false, Bool.true_and]
 exact s_FormatFact_L1_eq hK a hm (by omega) a.Values 0 pIn9_vals
theorem i_FormatFact_eq (a : Fact) : i_FormatFact a = some (pFmtF a) := by
 unfold i_FormatFact pFmtF pFactOK i_isRel
 rw [i_within_eq, Option.bind_some, Option.bind_some]
 cases h1 : pIn 0 2 a.Rel
 · rfl
 rw [i_within_eq, Option.bind_some]
 cases h2 : pIn 1 3 (a.Values.length : Int)
 · rfl
 have hm : 0 ≤ a.Rel ∧ a.Rel ≤ 2 := by simpa only [pIn, Bool.and_eq_true, decide_eq_true_eq] using h1
 have hn : 1 ≤ (a.Values.length : Int) ∧ (a.Values.length : Int) ≤ 3 := by simpa only [pIn, Bool.and_eq_true, decide_eq_true_eq] using h2
 simp only [Bool.not_true, cond_false, i_areValues_eq, Option.bind_some, Bool.true_and]
 cases h3 : a.Values.all (pIn 0 9)
 · rfl
 · simp only [Bool.not_true, Bool.false_eq_true, if_false, if_true]
   rw [i_FormatInt_eq _ (by omega), Option.bind_some, i_joined_eq a.Values (pIn9_vals h3) (by omega)]
   simp only [Option.bind_some]
   exact pFmtF_cats (by simp [pDig]) (join_digs a.Values (by omega))
theorem pFmtF_len (a : Fact) : (pFmtF a).length ≤ 11 := by
 unfold pFmtF
 split
 · rename_i h
   simp only [pFactOK, Bool.and_eq_true, pIn, decide_eq_true_eq] at h
   have := join_digs a.Values (by omega)
   simp [pDig]; omega
 · simp
def pFactsT (l : List Fact) : List UInt8 := if Lib.join (l.map pFmtF) [32] = [] then [110, 111, 110, 101] else Lib.join (l.map pFmtF) [32]
theorem pFmtFs_sum : ∀ l : List Fact, ((l.map pFmtF).map List.length).sum ≤ 11 * l.length
 | [] => by simp
 | f :: l => by
   have h1 := pFmtFs_sum l
   have h2 := pFmtF_len f
   simp only [List.map_cons, List.sum_cons, List.length_cons] at *
   omega
theorem pFactsT_len (l : List Fact) : (pFactsT l).length ≤ 12 * l.length + 4 := by
 have h1 := join_len [32] (l.map pFmtF)
 have h2 := pFmtFs_sum l
 simp only [List.length_singleton, List.length_map] at h1
 unfold pFactsT
 split
 · simp
 · omega
theorem s_l36Facts_L1_eq {K : Nat} (hK : 2 ≤ K) : ∀ (l : List Fact) (k : Nat) (c : List UInt8), 0 < k → c.length + 12 * l.length < 4294967296 → s_l36Facts_L1 K l k c = some (if c ++ pTail [32] (l.map pFmtF) = [] then [110, 111, 110, 101] else c ++ pTail [32] (l.map pFmtF))
 | [], k, c, _, _ => by
   unfold s_l36Facts_L1
   by_cases hc : c = []
   · subst hc; rfl
   · rw [if_neg (by simpa using hc), if_neg (by simp [hc])]; simp [pTail]
 | f :: l, k, c, hk, hl => by
   simp only [List.length_cons] at hl
   have hf := pFmtF_len f
   unfold s_l36Facts_L1
   rw [if_pos (by simpa using hk), cat_sm (by simp; omega), Option.bind_some, s_FormatFact_eq hK, Option.bind_some, cat_sm (by simp; omega), Option.bind_some, Option.bind_some]
   dsimp only
   rw [s_l36Facts_L1_eq hK l _ _ (by omega) (by simp; omega)]
   simp [pTail]
theorem s_l36Facts_eq {K : Nat} (hK : 2 ≤ K) (l : List Fact) (hl : l.length ≤ 1048576) : s_l36Facts K l = some (pFactsT l) := by
 unfold s_l36Facts pFactsT
 cases l with
 | nil => rfl
 | cons f l =>
   simp only [List.length_cons] at hl
   have hf := pFmtF_len f
   unfold s_l36Facts_L1
   rw [if_neg (by simp), s_FormatFact_eq hK, Option.bind_some, cat_sm (by simp; omega), Option.bind_some, Option.bind_some, List.nil_append]
   dsimp only
   rw [s_l36Facts_L1_eq hK l _ _ (by omega) (by omega), List.map_cons, join_tail]
theorem i_factsText_L1_eq : ∀ (l : List Fact) (k : Nat) (c : List (List UInt8)), c.length + l.length ≤ 1048576 → (c.map List.length).sum ≤ 11 * c.length → i_factsText_L1 l k c = some (if Lib.join (c ++ l.map pFmtF) [32] = [] then [110, 111, 110, 101] else Lib.join (c ++ l.map pFmtF) [32])
 | [], k, c, hl, hc => by
   have hj := join_len [32] c
   simp only [List.length_singleton, List.length_nil, Nat.add_zero] at hj hl
   unfold i_factsText_L1
   rw [g_strings_Join, if_pos ⟨by omega, by omega⟩, Option.bind_some, List.map_nil, List.append_nil]
   by_cases h : Lib.join c [32] = []
   · rw [if_pos (by simpa using h), if_pos h]
   · rw [if_neg (by simpa using h), if_neg h]
 | f :: l, k, c, hl, hc => by
   simp only [List.length_cons] at hl
   have hf := pFmtF_len f
   unfold i_factsText_L1
   rw [i_FormatFact_eq, Option.bind_some, app_ok (by simp; omega), Option.bind_some, i_factsText_L1_eq l _ _ (by simp; omega) (by simp; omega)]
   simp
theorem i_factsText_eq (l : List Fact) (hl : l.length ≤ 1048576) : i_factsText l = some (pFactsT l) := by
 unfold i_factsText pFactsT
 rw [i_factsText_L1_eq l 0 [] (by simpa using hl) (by simp), List.nil_append]
theorem s_l2Has_eq (x : Int) (l : List Int) : s_l2Has l x = some (decide (x ∈ l)) := by
 unfold s_l2Has
 generalize 0 = k
 induction l generalizing k with
 | nil => rfl
 | cons y l ih =>
   unfold s_l2Has_L1
   by_cases h : y = x
   · subst h; simp
   · rw [if_neg (by simpa using h), ih]
     congr 1
     simp only [List.mem_cons, decide_eq_decide]
     exact ⟨.inr, fun h' => h'.elim (fun e => absurd e.symm h) id⟩
theorem cmpI_lt {x y : Int} : cmpI x y < 0 ↔ x < y := by unfold cmpI; split <;> (try split) <;> omega
theorem cmpI_gt {x y : Int} : 0 < cmpI x y ↔ y < x := by unfold cmpI; split <;> (try split) <;> omega
theorem cmpI_zero {x y : Int} : cmpI x y = 0 ↔ x = y := by unfold cmpI; split <;> (try split) <;> omega
theorem cmpL_zero : ∀ {a b : List Int}, cmpL a b = 0 ↔ a = b
 | [], [] => by simp [cmpL]
 | [], _ :: _ => by simp [cmpL]
 | _ :: _, [] => by simp [cmpL]
 | x :: a, y :: b => by
   unfold cmpL
   by_cases h : cmpI x y = 0
   · rw [if_neg (by simpa using h), cmpL_zero, cmpI_zero.1 h]; simp
   · rw [if_pos (by simpa using h)]
     constructor
     · intro h'; exact absurd h' h
     · intro h'; exact absurd (cmpI_zero.2 (List.cons.inj h').1) h
theorem cmpL_swap : ∀ {a b : List Int}, 0 < cmpL a b ↔ cmpL b a < 0
 | [], [] => by simp [cmpL]
 | [], _ :: _ => by simp [cmpL]
 | _ :: _, [] => by simp [cmpL]
 | x :: a, y :: b => by
   unfold cmpL
   by_cases h : cmpI x y = 0
   · have h2 := cmpI_zero.1 h
     subst h2
     rw [if_neg (by simpa using h), if_neg (by simpa using h)]; exact cmpL_swap
   · rw [if_pos (by simpa using h), if_pos (by have : ¬ cmpI y x = 0 := fun e => h (by rw [cmpI_zero] at *; exact e.symm)
                                               simpa using this), cmpI_gt, cmpI_lt]
theorem cmpL_trans : ∀ {a b c : List Int}, cmpL a b < 0 → cmpL b c < 0 → cmpL a c < 0
 | [], _, [], h1, h2 => by
   rename_i b
   cases b <;> simp [cmpL] at h1 h2
 | [], _, _ :: _, _, _ => by simp [cmpL]
 | _ :: _, [], _, h1, _ => by simp [cmpL] at h1
 | _ :: _, _ :: _, [], _, h2 => by simp [cmpL] at h2
 | x :: a, y :: b, z :: c, h1, h2 => by
   unfold cmpL at *
   by_cases e1 : cmpI x y = 0
   · have := cmpI_zero.1 e1
     subst this
     rw [if_neg (by simpa using e1)] at h1
     by_cases e2 : cmpI x z = 0
     · have := cmpI_zero.1 e2
       subst this
       rw [if_neg (by simpa using e1)] at h2 ⊢
       exact cmpL_trans h1 h2
     · rw [if_pos (by simpa using e2)] at h2 ⊢
       exact h2
   · rw [if_pos (by simpa using e1)] at h1
     by_cases e2 : cmpI y z = 0
     · have := cmpI_zero.1 e2
       subst this
       rw [if_pos (by simpa using e1)]; exact h1
     · rw [if_pos (by simpa using e2)] at h2
       rw [cmpI_lt] at h1 h2
       have : cmpI x z < 0 := cmpI_lt.2 (by omega)
       rw [if_pos (by simp; omega)]; exact this
theorem pCmpFact_L (a b : Fact) : pCmpFact a b = cmpL (a.Rel :: a.Values) (b.Rel :: b.Values) := rfl
theorem pCmpFact_zero {a b : Fact} : pCmpFact a b = 0 ↔ a = b := by
 rw [pCmpFact_L, cmpL_zero]
 constructor
 · intro h; cases a; cases b; simp at h; simp [h]
 · rintro rfl; rfl
theorem pCmpFact_swap {a b : Fact} : 0 < pCmpFact a b ↔ pCmpFact b a < 0 := by rw [pCmpFact_L, pCmpFact_L, cmpL_swap]
theorem pCmpFact_trans {a b c : Fact} : pCmpFact a b < 0 → pCmpFact b c < 0 → pCmpFact a c < 0 := by
 rw [pCmpFact_L, pCmpFact_L, pCmpFact_L]; exact cmpL_trans
def fLt (a b : Fact) : Prop := pCmpFact a b < 0
theorem pHasF_mem {l : List Fact} {f : Fact} : pHasF l f = true ↔ f ∈ l := by
 simp only [pHasF, List.any_eq_true, beq_iff_eq, pCmpFact_zero]
 constructor
 · rintro ⟨x, h, rfl⟩; exact h
 · intro h; exact ⟨f, h, rfl⟩
theorem pInsF_iff {f y : Fact} : ∀ {l : List Fact}, y ∈ pInsF f l ↔ y = f ∨ y ∈ l
 | [] => by simp [pInsF]
 | x :: l => by
   unfold pInsF
   split
   · simp
   · rw [List.mem_cons, pInsF_iff, List.mem_cons]
     constructor <;> rintro (h | h | h) <;> simp [h]
theorem pInsF_pw {f : Fact} : ∀ {l : List Fact}, l.Pairwise fLt → f ∉ l → (pInsF f l).Pairwise fLt
 | [], _, _ => by simp [pInsF]
 | x :: l, h, hn => by
   unfold pInsF
   rw [List.mem_cons, not_or] at hn
   rw [List.pairwise_cons] at h
   split
   · rename_i hx
     have hx' := pCmpFact_swap.1 hx
     rw [List.pairwise_cons, List.pairwise_cons]
     refine ⟨fun a ha => ?_, h⟩
     rcases List.mem_cons.1 ha with rfl | ha
     · exact hx'
     · exact pCmpFact_trans hx' (h.1 a ha)
   · rename_i hx
     rw [List.pairwise_cons]
     refine ⟨fun a ha => ?_, pInsF_pw h.2 hn.2⟩
     rcases pInsF_iff.1 ha with rfl | ha
     · have : pCmpFact x a ≠ 0 := fun e => hn.1 (pCmpFact_zero.1 e).symm
       show pCmpFact x a < 0
       omega
     · exact h.1 a ha
theorem pAddF_iff {l : List Fact} {f y : Fact} : y ∈ pAddF l f ↔ y = f ∨ y ∈ l := by
 unfold pAddF
 split
 · rename_i h
   rw [pHasF_mem] at h
   exact ⟨.inr, fun h' => h'.elim (fun e => e ▸ h) id⟩
 · exact pInsF_iff
theorem pAddF_pw {l : List Fact} {f : Fact} (h : l.Pairwise fLt) : (pAddF l f).Pairwise fLt := by
 unfold pAddF
 split
 · exact h
 · rename_i hn
   exact pInsF_pw h fun hm => hn (pHasF_mem.2 hm)
theorem pFact_vals {s : List Int} {f : Fact} (h : pFact s f = true) : f.Values.length ≤ 3 ∧ ∀ v ∈ f.Values, 0 ≤ v ∧ v ≤ 9 := by
 simp only [pFact, Bool.and_eq_true, beq_iff_eq] at h
 obtain ⟨h1, h2, h3⟩ := h
 have := pAr_ix h1
 refine ⟨by omega, fun v hv => ?_⟩
 have := List.all_eq_true.1 h3 v hv
 simp only [pIn, Bool.and_eq_true, decide_eq_true_eq] at this
 omega
theorem bd_FactS (a : List Fact) (h : totL tot_Fact a < 4294967296) : bdL bd_Fact a := bdL_of (f := tot_Fact) (fun x hx => bdL_flat _ hx) _ h
theorem bd_FactOf {s : List Int} {f : Fact} (h : pFact s f = true) : bd_Fact f := bdL_flat _ (by have := (pFact_vals h).1; omega)
theorem bdL_Facts {s : List Int} {l : List Fact} (h : ∀ f ∈ l, pFact s f = true) (hl : l.length < 4294967296) : bdL bd_Fact l := ⟨hl, fun f hf => bd_FactOf (h f hf)⟩
theorem addFs_len : ∀ {g fs : List Fact}, (g.foldl pAddF fs).length ≤ fs.length + g.length
 | [], _ => by simp
 | x :: g, fs => by
   rw [List.foldl_cons]
   have h1 := addFs_len (g := g) (fs := pAddF fs x)
   have h2 := pAddF_len fs x
   simp only [List.length_cons]; omega
theorem pAccess_ix {s : List Int} {l : List Method} {a : Access} (h : pAccess s l a = true) : ix l a.Method = some (pMeth l a.Method) := by
 simp only [pAccess, Bool.and_eq_true] at h
 exact (pMeth_ix h.2.1).1
theorem g_slices_Index_int_int_eq (l : List Int) (v : Int) : g_slices_Index_int_int l v = some (ixF (fun x => v == x) l 0) := by
 rw [g_slices_Index_int_int]
 exact index_loop (L := g_slices_Index_int_int_L1 v) (f := fun x => some (v == x)) (p := fun x => v == x) (fun _ => rfl) (fun _ _ _ => rfl) l 0 (fun _ _ => rfl)
theorem g_slices_Contains_int_int_eq (l : List Int) (v : Int) : g_slices_Contains_int_int l v = some (decide (v ∈ l)) := by
 rw [g_slices_Contains_int_int, g_slices_Index_int_int_eq, Option.bind_some, ixF_neg]
 congr 1
 rw [Bool.eq_iff_iff]
 simp
def pHasT (l : List (List Int)) (t : List Int) : Bool := l.any fun x => pIntsEq x t
def pInsT (t : List Int) : List (List Int) → List (List Int)
 | [] => [t]
 | x :: l => if 0 < cmpL x t then t :: x :: l else x :: pInsT t l
theorem pInsT_len (t : List Int) : ∀ l : List (List Int), (pInsT t l).length = l.length + 1
 | [] => rfl
 | x :: l => by
   unfold pInsT
   split
   · rfl
   · simp [pInsT_len t l]
theorem pInsT_mem {t y : List Int} : ∀ {l : List (List Int)}, y ∈ pInsT t l → y = t ∨ y ∈ l
 | [], h => by simp [pInsT] at h; exact .inl h
 | x :: l, h => by
   unfold pInsT at h
   split at h
   · simp at h; simp [h]
   · rcases List.mem_cons.1 h with h | h
     · simp [h]
     · rcases pInsT_mem h with h | h <;> simp [h]
theorem pInsT_ix (t : List Int) : ∀ (l : List (List Int)) (k : Nat), (ixF (fun x => decide (0 < cmpL x t)) l k = -1 ∧ pInsT t l = l ++ [t]) ∨ ∃ j : Nat, j < l.length ∧ ixF (fun x => decide (0 < cmpL x t)) l k = ((k + j : Nat) : Int) ∧ pInsT t l = l.take j ++ t :: l.drop j
 | [], k => .inl ⟨rfl, rfl⟩
 | x :: l, k => by
   unfold ixF pInsT
   by_cases h : 0 < cmpL x t
   · rw [if_pos h, if_pos (by simpa using h)]
     exact .inr ⟨0, by simp, by simp, by simp⟩
   · rw [if_neg h, if_neg (by simpa using h)]
     rcases pInsT_ix t l (k + 1) with ⟨h1, h2⟩ | ⟨j, h1, h2, h3⟩
     · exact .inl ⟨h1, by rw [h2]; rfl⟩
     · exact .inr ⟨j + 1, by simp; omega, by rw [h2]; congr 1; omega, by rw [h3]; rfl⟩
def pAddT (l : List (List Int)) (t : List Int) : List (List Int) := if pHasT l t then l else pInsT t l
theorem pAddT_len (l : List (List Int)) (t : List Int) : (pAddT l t).length ≤ l.length + 1 := by
 unfold pAddT
 split
 · omega
 · rw [pInsT_len]; exact Nat.le_refl _
theorem pAddT_mem {l : List (List Int)} {t y : List Int} (h : y ∈ pAddT l t) : y = t ∨ y ∈ l := by
 unfold pAddT at h
 split at h
 · exact .inr h
 · exact pInsT_mem h
theorem i_hasTuple_eq (l : List (List Int)) (t : List Int) : i_hasTuple l t = some (pHasT l t) := by
 unfold i_hasTuple g_slices_ContainsFunc_int_int_ihasTuple1 g_slices_IndexFunc_int_int_ihasTuple1
 rw [index_loop (L := g_slices_IndexFunc_int_int_ihasTuple1_L1 t) (f := fun x => i_hasTuple_1 x t) (p := fun x => pIntsEq x t) (fun k => rfl) (fun x r k => rfl) l 0 (fun x _ => by rw [i_hasTuple_1, g_slices_Equal_int_int_eq]; rfl), Option.bind_some, ixF_neg]
 rfl
theorem i_addedTuple_eq (l : List (List Int)) (t : List Int) (hl : l.length + 1 < 4294967296) (ht : t.length < 4294967296) : i_addedTuple l t = some (pAddT l t) := by
 unfold i_addedTuple pAddT
 rw [i_hasTuple_eq, Option.bind_some]
 cases hh : pHasT l t
 · rw [if_neg (by simp), if_neg (by simp)]
   have hix : g_slices_IndexFunc_int_int_iaddedTuple1 l t = some (ixF (fun x => decide (0 < cmpL x t)) l 0) :=
     index_loop (L := g_slices_IndexFunc_int_int_iaddedTuple1_L1 t) (f := fun x => i_addedTuple_1 x t) (p := fun x => decide (0 < cmpL x t)) (fun k => rfl) (fun x r k => rfl) l 0 (fun x hx => by rw [i_addedTuple_1, g_slices_Compare_eq]; rfl)
   rw [hix, Option.bind_some]
   rcases pInsT_ix t l 0 with ⟨h1, h2⟩ | ⟨j, h1, h2, h3⟩
   · rw [h1, if_pos (by decide), g_slices_Clone_int_int_eq t ht, Option.bind_some, g_slices_Insert_int_int, h2]
     try dsimp only
     rw [if_pos ⟨by omega, by omega, hl⟩, Option.bind_some, Int.toNat_natCast, List.take_length, List.drop_length]
   · rw [h2, if_neg (by simp only [decide_eq_true_eq]; omega), g_slices_Clone_int_int_eq t ht, Option.bind_some, g_slices_Insert_int_int, h3]
     try dsimp only
     rw [if_pos ⟨by omega, by omega, hl⟩, Option.bind_some, Int.toNat_natCast, Nat.zero_add]
 · rw [if_pos rfl, if_pos rfl]
theorem s_AddTuple_L2_done (t : List Int) : ∀ (l : List (List Int)) (k : Nat) (c : List (List Int)), (∀ x ∈ l, x.length < 4294967296) → c.length + l.length < 4294967296 → s_AddTuple_L2 t l k c true = some (c ++ l)
 | [], k, c, _, _ => by simp [s_AddTuple_L2]
 | x :: l, k, c, hx, h => by
   simp only [List.length_cons] at h
   unfold s_AddTuple_L2
   simp only [Bool.not_true, cond_false, Option.bind_some]
   rw [if_neg (by simp), app_nil (hx x (by simp)), Option.bind_some, app1 (by omega), Option.bind_some, Option.bind_some]
   try dsimp only
   rw [s_AddTuple_L2_done t l _ _ (fun y hy => hx y (by simp [hy])) (by simp; omega)]
   simp
theorem s_AddTuple_L2_eq (t : List Int) (ht : t.length < 4294967296) : ∀ (l : List (List Int)) (k : Nat) (c : List (List Int)) (b : Bool), (∀ x ∈ l, x.length < 4294967296) → c.length + l.length + 1 < 4294967296 → s_AddTuple_L2 t l k c b = some (if b then c ++ l else c ++ pInsT t l)
 | [], k, c, b, _, h => by
   unfold s_AddTuple_L2
   cases b
   · rw [if_pos (by rfl), app_nil ht, Option.bind_some, app1 (by simp at h; omega), Option.bind_some, if_neg (by simp)]; rfl
   · simp
 | x :: l, k, c, b, hx, h => by
   simp only [List.length_cons] at h
   have hx1 := hx x (by simp)
   cases b
   · unfold s_AddTuple_L2
     simp only [Bool.not_false, cond_true]
     rw [s_l4Less_eq _ _ ht, Option.bind_some, Option.bind_some]
     try dsimp only
     by_cases hlt : cmpL t x < 0
     · rw [if_pos (by simpa using hlt), app_nil ht, Option.bind_some, app1 (by omega), Option.bind_some, app_nil hx1, Option.bind_some, app1 (by simp; omega), Option.bind_some, Option.bind_some]
       try dsimp only
       rw [s_AddTuple_L2_done t l _ _ (fun y hy => hx y (by simp [hy])) (by simp; omega), if_neg (by simp), pInsT, if_pos (cmpL_swap.2 hlt)]
       simp
     · rw [if_neg (by simpa using hlt), app_nil hx1, Option.bind_some, app1 (by omega), Option.bind_some, Option.bind_some]
       try dsimp only
       rw [s_AddTuple_L2_eq t ht l _ _ _ (fun y hy => hx y (by simp [hy])) (by simp; omega), if_neg (by simp), if_neg (by simp), pInsT, if_neg (fun h => hlt (cmpL_swap.1 h))]
       simp
   · rw [s_AddTuple_L2_done t (x :: l) k c hx (by simp; omega), if_pos rfl]
theorem s_AddTuple_eq (l : List (List Int)) (t : List Int) (hx : ∀ x ∈ l, x.length < 4294967296) (hl : l.length + 1 < 4294967296) (ht : t.length < 4294967296) : s_AddTuple l t = some (pAddT l t) := by
 have key : ∀ (r : List (List Int)) (k : Nat) (b : Bool), s_AddTuple_L1 l t r k b = s_AddTuple_L2 t l 0 [] (b || r.any fun x => pIntsEq x t) := by
   intro r
   induction r with
   | nil => intro k b; rw [s_AddTuple_L1]; simp
   | cons x r ih =>
     intro k b
     rw [s_AddTuple_L1, s_l2Ints_eq, Option.bind_some]
     cases b
     · simp only [cond_false, Option.bind_some, Bool.false_or, List.any_cons]
       rw [ih]; rfl
     · simp only [cond_true, Option.bind_some, Bool.true_or]
       rw [ih]; simp
 rw [s_AddTuple, key, Bool.false_or, s_AddTuple_L2_eq t ht l 0 [] _ hx (by simpa using hl), pAddT, pHasT]
 split <;> simp
theorem fLt_irr {a : Fact} : ¬ fLt a a := by
 unfold fLt; rw [pCmpFact_zero.2 rfl]; decide
theorem fLt_asy {a b : Fact} (h1 : fLt a b) (h2 : fLt b a) : False := fLt_irr (pCmpFact_trans h1 h2)
theorem fs_ext : ∀ {a b : List Fact}, a.Pairwise fLt → b.Pairwise fLt → (∀ x, x ∈ a ↔ x ∈ b) → a = b
 | [], [], _, _, _ => rfl
 | [], y :: b, _, _, h => absurd ((h y).2 (by simp)) (by simp)
 | x :: a, [], _, _, h => absurd ((h x).1 (by simp)) (by simp)
 | x :: a, y :: b, ha, hb, h => by
   rw [List.pairwise_cons] at ha hb
   have e : x = y := by
     have h1 := (h x).1 (by simp)
     have h2 := (h y).2 (by simp)
     rw [List.mem_cons] at h1 h2
     rcases h1 with h1 | h1
     · exact h1
     · rcases h2 with h2 | h2
       · exact h2.symm
       · exact (fLt_asy (hb.1 x h1) (ha.1 y h2)).elim
   subst e
   rw [fs_ext ha.2 hb.2 fun z => ?_]
   constructor
   · intro hz
     have h1 := (h z).1 (by simp [hz])
     rcases List.mem_cons.1 h1 with rfl | h1
     · exact (fLt_irr (ha.1 z hz)).elim
     · exact h1
   · intro hz
     have h1 := (h z).2 (by simp [hz])
     rcases List.mem_cons.1 h1 with rfl | h1
     · exact (fLt_irr (hb.1 z hz)).elim
     · exact h1
theorem addFs_mem {y : Fact} : ∀ {l c : List Fact}, y ∈ l.foldl pAddF c ↔ y ∈ c ∨ y ∈ l
 | [], c => by simp
 | x :: l, c => by
   rw [List.foldl_cons, addFs_mem, pAddF_iff, List.mem_cons]
   constructor
   · rintro ((h | h) | h)
     · exact .inr (.inl h)
     · exact .inl h
     · exact .inr (.inr h)
   · rintro (h | h | h)
     · exact .inl (.inr h)
     · exact .inl (.inl h)
     · exact .inr h
theorem addFs_pw : ∀ {l c : List Fact}, c.Pairwise fLt → (l.foldl pAddF c).Pairwise fLt
 | [], _, h => h
 | x :: l, c, h => by rw [List.foldl_cons]; exact addFs_pw (pAddF_pw h)
def pTolds (s : List Int) (l : List Method) (t : Told) : Bool := pAccess s l t.Access && pFacts s t.Facts
def pLim (m : Method) (n : Int) : Bool := m.Limit == 0 || decide (n < m.Limit)
def pFS (s : List Int) (l : List Method) (t : Told) : Bool := pTolds s l t && (t.Facts.all (pFits (pMeth l t.Access.Method) t.Access.Values) && ((pMeth l t.Access.Method).Limit == 0 || decide ((t.Facts.length : Int) ≤ (pMeth l t.Access.Method).Limit)))
theorem s_IsTold_eq {s : List Int} {l : List Method} {t : Told} (hs : s.length < 4294967296) (hml : bdL bd_Method l) (ht : bd_Told t) : s_IsTold s l t = some (pTolds s l t) := by
 rw [s_IsTold, s_IsAccess_eq s l _ hs hml, Option.bind_some, pTolds]
 cases pAccess s l t.Access
 · rfl
 · rw [s_AreFacts_eq s t.Facts hs ht.2]; rfl
theorem i_IsTold_eq {s : List Int} {l : List Method} {t : Told} (hs : s.length < 4294967296) (hml : bdL bd_Method l) (ht : bd_Told t) : i_IsTold s l t = some (pTolds s l t) := by
 rw [i_IsTold, i_IsAccess_eq s l _ hs hml, Option.bind_some, pTolds]
 cases pAccess s l t.Access
 · rfl
 · rw [i_AreFacts_eq s t.Facts hs ht.2]; rfl
theorem s_FitsSelf_eq {s : List Int} {l : List Method} {t : Told} (hs : s.length < 4294967296) (hml : bdL bd_Method l) (ht : bd_Told t) : s_FitsSelf s l t = some (pFS s l t) := by
 rw [s_FitsSelf, s_IsTold_eq hs hml ht, Option.bind_some, pFS]
 cases h : pTolds s l t
 · rfl
 · simp only [pTolds, Bool.and_eq_true] at h
   rw [if_neg (by simp), pAccess_ix h.1, Option.bind_some]
   exact all_loop (L := s_FitsSelf_L1 t (pMeth l t.Access.Method)) (f := fun f => s_l5Fits (pMeth l t.Access.Method) t.Access.Values f) (p := pFits (pMeth l t.Access.Method) t.Access.Values) (fun _ => rfl) (fun _ _ _ => rfl) t.Facts 0 fun f hf => s_l5Fits_eq _ _ _ (pFitOK_of h.1 (pFacts_all h.2 f hf))
theorem filter_all {α : Type} {p : α → Bool} : ∀ (l : List α), (((l.filter p).length : Int) == (l.length : Int)) = l.all p := by
 intro l
 have h := List.length_filter_eq_length_iff (p := p) (l := l)
 rw [Bool.eq_iff_iff, beq_iff_eq, List.all_eq_true]
 constructor
 · intro e; exact h.1 (by omega)
 · intro e; have := h.2 e; omega
theorem i_FitsSelf_eq {s : List Int} {l : List Method} {t : Told} (hs : s.length < 4294967296) (hml : bdL bd_Method l) (ht : bd_Told t) : i_FitsSelf s l t = some (pFS s l t) := by
 rw [i_FitsSelf, i_IsTold_eq hs hml ht, Option.bind_some, pFS]
 cases h : pTolds s l t
 · rfl
 · simp only [pTolds, Bool.and_eq_true] at h
   rw [if_neg (by simp), pAccess_ix h.1, Option.bind_some, i_matches_eq s l t.Facts t.Access h.1 (pFacts_all h.2) ht.2, Option.bind_some, filter_all]
   cases t.Facts.all (pFits (pMeth l t.Access.Method) t.Access.Values)
   · rfl
   · cases ((pMeth l t.Access.Method).Limit == 0) <;> rfl
def pDen (l : List Method) (b : Told) (f : Fact) : Bool := pFits (pMeth l b.Access.Method) b.Access.Values f && (!pHasF b.Facts f && ((pMeth l b.Access.Method).Limit == 0 || decide ((b.Facts.length : Int) < (pMeth l b.Access.Method).Limit)))
def pDis (s : List Int) (l : List Method) (a b : Told) : Bool := pFS s l a && (pFS s l b && (a.Facts.any (pDen l b) || b.Facts.any (pDen l a)))
theorem pFS_told {s : List Int} {l : List Method} {t : Told} (h : pFS s l t = true) : pAccess s l t.Access = true ∧ pFacts s t.Facts = true := by
 simp only [pFS, pTolds, Bool.and_eq_true] at h
 exact h.1
theorem s_l28Lacks_eq {s : List Int} {l : List Method} {a b : Told} (ha : pFS s l a = true) (hb : pFS s l b = true) (hbb : bd_Told b) : s_l28Lacks l a b = some (a.Facts.any (pDen l b)) := by
 obtain ⟨a1, a2⟩ := pFS_told ha
 obtain ⟨b1, b2⟩ := pFS_told hb
 rw [s_l28Lacks, pAccess_ix b1, Option.bind_some]
 have key : ∀ (r : List Fact) (k : Nat), (∀ f ∈ r, pFact s f = true) → s_l28Lacks_L1 b (pMeth l b.Access.Method) r k = some (r.any (pDen l b)) := by
   intro r
   induction r with
   | nil => intro k _; rfl
   | cons f r ih =>
     intro k hr
     have ih' := ih (k + 1) fun x hx => hr x (by simp [hx])
     rw [s_l28Lacks_L1, s_l5Fits_eq _ _ _ (pFitOK_of b1 (hr f (by simp))), Option.bind_some, List.any_cons, pDen]
     cases pFits (pMeth l b.Access.Method) b.Access.Values f
     · simpa using ih'
     · rw [s_HasFact_eq b.Facts f hbb.2, Option.bind_some]
       cases pHasF b.Facts f
       · cases h0 : ((pMeth l b.Access.Method).Limit == 0)
         · cases decide ((b.Facts.length : Int) < (pMeth l b.Access.Method).Limit)
           · simpa using ih'
           · rfl
         · rfl
       · simpa using ih'
 exact key a.Facts 0 (pFacts_all a2)
theorem i_denies_eq {s : List Int} {l : List Method} {b : Told} {f : Fact} (hb : pFS s l b = true) (hf : pFact s f = true) : i_Told_denies b l f = some (pDen l b f) := by
 obtain ⟨b1, b2⟩ := pFS_told hb
 rw [i_Told_denies, pAccess_ix b1, Option.bind_some, i_matches_eq s l [f] b.Access b1 (fun x hx => by obtain rfl := List.mem_singleton.1 hx; exact hf) (bdL_Facts (s := s) (fun x hx => by obtain rfl := List.mem_singleton.1 hx; exact hf) (by simp)), Option.bind_some, pDen, List.filter_cons, List.filter_nil]
 cases pFits (pMeth l b.Access.Method) b.Access.Values f
 · rfl
 · simp only [if_true, List.length_singleton]
   rw [i_HasFact_eq]
   cases pHasF b.Facts f
   · cases ((pMeth l b.Access.Method).Limit == 0) <;> rfl
   · rfl
theorem s_Disagree_eq {s : List Int} {l : List Method} {a b : Told} (hs : s.length < 4294967296) (hml : bdL bd_Method l) (ha : bd_Told a) (hb : bd_Told b) : s_Disagree s l a b = some (pDis s l a b) := by
 rw [s_Disagree, s_FitsSelf_eq hs hml ha, Option.bind_some, pDis]
 cases h1 : pFS s l a
 · rfl
 · rw [s_FitsSelf_eq hs hml hb]
   cases h2 : pFS s l b
   · rfl
   · simp only [cond_true, Option.bind_some, Bool.true_and]
     rw [s_l28Lacks_eq h1 h2 hb, Option.bind_some]
     cases a.Facts.any (pDen l b)
     · rw [s_l28Lacks_eq h2 h1 ha]; rfl
     · rfl
theorem i_Disagree_eq {s : List Int} {l : List Method} {a b : Told} (hs : s.length < 4294967296) (hml : bdL bd_Method l) (ha : bd_Told a) (hb : bd_Told b) : i_Disagree s l a b = some (pDis s l a b) := by
 rw [i_Disagree, i_FitsSelf_eq hs hml ha, Option.bind_some, pDis]
 cases h1 : pFS s l a
 · rfl
 · rw [i_FitsSelf_eq hs hml hb]
   cases h2 : pFS s l b
   · rfl
   · have e1 : g_slices_ContainsFunc_impl_Fact_impl_Fact_iDisagree1 a.Facts b l = some (a.Facts.any (pDen l b)) := by
       unfold g_slices_ContainsFunc_impl_Fact_impl_Fact_iDisagree1 g_slices_IndexFunc_impl_Fact_impl_Fact_iDisagree1
       rw [index_loop (L := g_slices_IndexFunc_impl_Fact_impl_Fact_iDisagree1_L1 b l) (f := fun f => i_Disagree_1 f b l) (p := pDen l b) (fun _ => rfl) (fun _ _ _ => rfl) a.Facts 0 (fun f hf => by
         rw [i_Disagree_1, i_denies_eq h2 (pFacts_all (pFS_told h1).2 f hf)]; rfl), Option.bind_some, ixF_neg]
     have e2 : g_slices_ContainsFunc_impl_Fact_impl_Fact_iDisagree2 b.Facts a l = some (b.Facts.any (pDen l a)) := by
       unfold g_slices_ContainsFunc_impl_Fact_impl_Fact_iDisagree2 g_slices_IndexFunc_impl_Fact_impl_Fact_iDisagree2
       rw [index_loop (L := g_slices_IndexFunc_impl_Fact_impl_Fact_iDisagree2_L1 a l) (f := fun f => i_Disagree_2 f a l) (p := pDen l a) (fun _ => rfl) (fun _ _ _ => rfl) b.Facts 0 (fun f hf => by
         rw [i_Disagree_2, i_denies_eq h1 (pFacts_all (pFS_told h2).2 f hf)]; rfl), Option.bind_some, ixF_neg]
     simp only [cond_true, Option.bind_some, Bool.true_and]
     rw [e1, Option.bind_some]
     cases a.Facts.any (pDen l b)
     · rw [e2]; rfl
     · rfl
def pConf (s : List Int) (l : List Method) (list : List Told) : List Told → Nat → Bool
 | [], _ => false
 | t :: r, k => !pFS s l t || ((list.take k).any (fun x => pDis s l x t) || pConf s l list r (k + 1))
theorem s_FirstConflict_L2_eq {s : List Int} {l : List Method} {list : List Told} {t : Told} (hs : s.length < 4294967296) (hml : bdL bd_Method l) (hb : ∀ x ∈ list, bd_Told x) (ht : bd_Told t) {k : Nat} (hk : k ≤ list.length) (hn : list.length < 4294967296) : ∀ (m i : Nat), i ≤ k → k - i < m →
   (((list.take k).drop i).any (fun x => pDis s l x t) = true ∧ ∃ j : Int, s_FirstConflict_L2 s l list k t m (i : Int) = some (.inl (j, (k : Int), true))) ∨ (((list.take k).drop i).any (fun x => pDis s l x t) = false ∧ s_FirstConflict_L2 s l list k t m (i : Int) = some (.inr ())) := by
 intro m
 induction m with
 | zero => intro i _ h; omega
 | succ m ih =>
   intro i hi hm
   unfold s_FirstConflict_L2
   by_cases hlt : i < k
   · have hil : i < (list.take k).length := by rw [List.length_take]; omega
     have e : (list.take k)[i] = list[i] := by simp
     rw [if_pos (by simpa using hlt), ix_nat, List.getElem?_eq_getElem (show i < list.length by omega), Option.bind_some, s_Disagree_eq hs hml (hb _ (List.getElem_mem _)) ht, Option.bind_some, List.drop_eq_getElem_cons hil, List.any_cons, e]
     cases pDis s l list[i] t
     · have hw : IntKind.i64.wrap ((i : Int) + 1) = ((i + 1 : Nat) : Int) := by rw [wrap_in (by omega) (by omega)]; rfl
       rw [if_neg (by simp), hw, Bool.false_or]
       exact ih (i + 1) (by omega) (by omega)
     · exact .inl ⟨rfl, _, rfl⟩
   · rw [if_neg (by simpa using hlt), List.drop_eq_nil_of_le (by rw [List.length_take]; omega)]
     exact .inr ⟨rfl, rfl⟩
theorem s_FirstConflict_eq {s : List Int} {l : List Method} {list : List Told} (hs : s.length < 4294967296) (hml : bdL bd_Method l) (hb : ∀ x ∈ list, bd_Told x) (hn : list.length < 4294967296) : ∃ a b, s_FirstConflict s l list = some (a, b, pConf s l list list 0) := by
 have key : ∀ (r : List Told) (k : Nat), (∀ x ∈ r, bd_Told x) → k + r.length ≤ list.length → ∃ a b, s_FirstConflict_L1 s l list r k = some (a, b, pConf s l list r k) := by
   intro r
   induction r with
   | nil => intro k _ _; exact ⟨_, _, rfl⟩
   | cons t r ih =>
     intro k hr hk
     simp only [List.length_cons] at hk
     rw [s_FirstConflict_L1, s_FitsSelf_eq hs hml (hr t (by simp)), Option.bind_some, pConf]
     cases pFS s l t
     · exact ⟨_, _, rfl⟩
     · rw [if_neg (by simp)]
       rcases s_FirstConflict_L2_eq hs hml hb (hr t (by simp)) (k := k) (by omega) hn (((k : Int) - 0).toNat + 2) 0 (by omega) (by omega) with ⟨h1, j, h2⟩ | ⟨h1, h2⟩
       · rw [List.drop_zero] at h1
         refine ⟨j, (k : Int), ?_⟩
         have h2' : s_FirstConflict_L2 s l list k t (((k : Int) - 0).toNat + 2) 0 = _ := h2
         rw [h2', h1]; rfl
       · rw [List.drop_zero] at h1
         have h2' : s_FirstConflict_L2 s l list k t (((k : Int) - 0).toNat + 2) 0 = _ := h2
         rw [h2', h1]
         exact ih (k + 1) (fun x hx => hr x (by simp [hx])) (by omega)
 exact key list 0 hb (by omega)
theorem i_FirstConflict_eq {s : List Int} {l : List Method} {list : List Told} (hs : s.length < 4294967296) (hml : bdL bd_Method l) (hb : ∀ x ∈ list, bd_Told x) (hn : list.length < 4294967296) : ∃ a b, i_FirstConflict s l list = some (a, b, pConf s l list list 0) := by
 have key : ∀ (r : List Told) (k : Nat), (∀ x ∈ r, bd_Told x) → k + r.length ≤ list.length → ∃ a b, i_FirstConflict_L1 s l list r k = some (a, b, pConf s l list r k) := by
   intro r
   induction r with
   | nil => intro k _ _; exact ⟨_, _, rfl⟩
   | cons t r ih =>
     intro k hr hk
     simp only [List.length_cons] at hk
     have ht := hr t (by simp)
     rw [i_FirstConflict_L1, i_FitsSelf_eq hs hml ht, Option.bind_some, pConf]
     cases pFS s l t
     · exact ⟨_, _, rfl⟩
     · have e : g_slices_IndexFunc_impl_Told_impl_Told_iFirstConflict1 (list.take k) s l t = some (ixF (fun x => pDis s l x t) (list.take k) 0) :=
         index_loop (L := g_slices_IndexFunc_impl_Told_impl_Told_iFirstConflict1_L1 s l t) (f := fun x => i_FirstConflict_1 x s l t) (p := fun x => pDis s l x t) (fun _ => rfl) (fun _ _ _ => rfl) (list.take k) 0 fun x hx => by
           rw [i_FirstConflict_1, i_Disagree_eq hs hml (hb x (List.mem_of_mem_take hx)) ht]; rfl
       have hc : chk (decide (0 ≤ (k : Int)) && decide ((k : Int) ≤ (list.length : Int))) = some () := by
         unfold chk; rw [if_pos (by simp; omega)]
       rw [if_neg (by simp), hc, Option.bind_some, Int.toNat_natCast, e, Option.bind_some, ixF_neg]
       cases (list.take k).any (fun x => pDis s l x t)
       · rw [if_neg (by simp)]
         simpa using ih (k + 1) (fun x hx => hr x (by simp [hx])) (by omega)
       · exact ⟨_, _, rfl⟩
 exact key list 0 hb (by omega)
def pCons (s : List Int) (l : List Method) (list : List Told) : Bool := pMethods s l && !pConf s l list list 0
theorem s_IsConsistent_eq {s : List Int} {l : List Method} {list : List Told} (hs : s.length < 4294967296) (hml : bdL bd_Method l) (hb : ∀ x ∈ list, bd_Told x) (hn : list.length < 4294967296) : s_IsConsistent s l list = some (pCons s l list) := by
 obtain ⟨a, b, e⟩ := s_FirstConflict_eq hs hml hb hn
 rw [s_IsConsistent, e, Option.bind_some, s_AreMethods_eq s l hs hml, Option.bind_some, pCons]
 cases pMethods s l <;> rfl
theorem i_IsConsistent_eq {s : List Int} {l : List Method} {list : List Told} (hs : s.length < 4294967296) (hml : bdL bd_Method l) (hb : ∀ x ∈ list, bd_Told x) (hn : list.length < 4294967296) : i_IsConsistent s l list = some (pCons s l list) := by
 obtain ⟨a, b, e⟩ := i_FirstConflict_eq hs hml hb hn
 rw [i_IsConsistent, e, Option.bind_some, i_AreMethods_eq s l hs hml, Option.bind_some, pCons]
 cases pMethods s l <;> rfl
def pWo (x : List Int) : List Told → Nat → List Told
 | [], _ => []
 | t :: r, k => if (k : Int) ∈ x then pWo x r (k + 1) else t :: pWo x r (k + 1)
theorem pWo_sub {x : List Int} : ∀ {l : List Told} {k : Nat}, (pWo x l k).Sublist l
 | [], _ => List.Sublist.refl _
 | a :: l, k => by
   unfold pWo
   split
   · exact (pWo_sub (l := l)).cons a
   · exact (pWo_sub (l := l)).cons_cons a
theorem s_Without_eq (x : List Int) (list : List Told) (hb : bdL bd_Told list) : s_Without list x = some (pWo x list 0) := by
 have key : ∀ (r : List Told) (k : Nat) (c : List Told), (∀ t ∈ r, bd_Told t) → c.length + r.length < 4294967296 → s_Without_L1 x r k c = some (c ++ pWo x r k) := by
   intro r
   induction r with
   | nil => intro k c _ _; simp [s_Without_L1, pWo]
   | cons t r ih =>
     intro k c hr hc
     simp only [List.length_cons] at hc
     obtain ⟨h1, h2⟩ := hr t (by simp)
     rw [s_Without_L1, s_l2Has_eq, Option.bind_some, s_l29Told, s_l8Access_eq _ _ h1.1, Option.bind_some, s_l2Copy_eq _ h2, Option.bind_some, Option.bind_some, app1 (by omega), pWo]
     by_cases hm : (k : Int) ∈ x
     · simp only [hm, decide_true, Bool.not_true, Bool.false_eq_true, if_false, if_true, Option.bind_some]
       exact ih (k + 1) c (fun y hy => hr y (by simp [hy])) (by omega)
     · simp only [hm, decide_false, Bool.not_false, if_true, if_false, Option.bind_some]
       rw [ih (k + 1) _ (fun y hy => hr y (by simp [hy])) (by simp; omega), List.append_assoc]; rfl
 rw [s_Without, key list 0 [] hb.2 (by simpa using hb.1)]; rfl
theorem i_Without_eq (x : List Int) (list : List Told) (hb : bdL bd_Told list) : i_Without list x = some (pWo x list 0) := by
 have key : ∀ (r : List Told) (k : Nat) (c : List Told), (∀ t ∈ r, bd_Told t) → c.length + r.length < 4294967296 → i_Without_L1 x r k c = some (c ++ pWo x r k) := by
   intro r
   induction r with
   | nil => intro k c _ _; simp [i_Without_L1, pWo]
   | cons t r ih =>
     intro k c hr hc
     simp only [List.length_cons] at hc
     obtain ⟨h1, h2⟩ := hr t (by simp)
     rw [i_Without_L1, g_slices_Contains_int_int_eq, Option.bind_some, i_copyTold, i_copyAccess_eq _ h1, Option.bind_some, i_copyFacts_eq _ h2, Option.bind_some, Option.bind_some, app1 (by omega), pWo]
     by_cases hm : (k : Int) ∈ x
     · simp only [hm, decide_true, Bool.not_true, Bool.false_eq_true, if_false, if_true, Option.bind_some]
       exact ih (k + 1) c (fun y hy => hr y (by simp [hy])) (by omega)
     · simp only [hm, decide_false, Bool.not_false, if_true, if_false, Option.bind_some]
       rw [ih (k + 1) _ (fun y hy => hr y (by simp [hy])) (by simp; omega), List.append_assoc]; rfl
 rw [i_Without, key list 0 [] hb.2 (by simpa using hb.1)]; rfl
def pB (m i : Int) : Bool := (andI .i64 (m.fdiv (2 ^ min i.toNat (IntKind.bits .i64))) 1) == 1
theorem shr_nat (m : Int) (i : Nat) : shrI .i64 m (i : Int) = some (m.fdiv (2 ^ min (i : Int).toNat (IntKind.bits .i64))) := by
 unfold shrI; rw [if_neg (by omega)]
def pSet (m : Int) : Nat → Nat → List Int
 | 0, _ => []
 | n + 1, k => (if pB m (k : Int) then [(k : Int)] else []) ++ pSet m n (k + 1)
theorem pSet_len (m : Int) : ∀ (n k : Nat), (pSet m n k).length ≤ n
 | 0, _ => by simp [pSet]
 | n + 1, k => by
   have := pSet_len m n (k + 1)
   rw [pSet, List.length_append]; split <;> simp <;> omega
theorem pSet_in (m : Int) : ∀ (n k : Nat), ∀ x ∈ pSet m n k, (k : Int) ≤ x ∧ x < ((k + n : Nat) : Int)
 | 0, _ => by simp [pSet]
 | n + 1, k => by
   intro x hx
   rw [pSet, List.mem_append] at hx
   rcases hx with hx | hx
   · split at hx
     · obtain rfl := List.mem_singleton.1 hx; omega
     · cases hx
   · have := pSet_in m n (k + 1) x hx; omega
theorem s_l15Set_eq (msk : Int) (n : Nat) (hn : n ≤ 8) : s_l15Set msk (n : Int) = some (pSet msk n 0) := by
 have key : ∀ (m i : Nat) (c : List Int), i ≤ n → n - i < m → c.length ≤ i → s_l15Set_L1 msk (n : Int) m c (i : Int) = some (c ++ pSet msk (n - i) i) := by
   intro m
   induction m with
   | zero => intro i c _ h; omega
   | succ m ih =>
     intro i c hi hm hc
     unfold s_l15Set_L1
     by_cases hlt : i < n
     · have hw : IntKind.i64.wrap ((i : Int) + 1) = ((i + 1 : Nat) : Int) := by rw [wrap_in (by omega) (by omega)]; rfl
       rw [if_pos (by simpa using hlt), shr_nat, Option.bind_some, app1 (by omega), hw, show n - i = (n - (i + 1)) + 1 by omega, pSet, pB]
       cases (andI .i64 (msk.fdiv (2 ^ min (i : Int).toNat (IntKind.bits .i64))) 1) == 1
       · simp only [Bool.false_eq_true, if_false, Option.bind_some, List.nil_append]
         exact ih (i + 1) c (by omega) (by omega) (by omega)
       · simp only [if_true, Option.bind_some]
         rw [ih (i + 1) _ (by omega) (by omega) (by simp; omega), List.append_assoc]
     · rw [if_neg (by simpa using hlt), show n - i = 0 by omega, pSet, List.append_nil]
 rw [s_l15Set, show ((n : Int) - 0).toNat + 2 = n + 2 by omega]
 have := key (n + 2) 0 [] (by omega) (by omega) (by simp)
 simpa using this
def pLessS (a b : List Int) : Bool := if (a.length : Int) != (b.length : Int) then decide ((a.length : Int) < (b.length : Int)) else decide (cmpL a b < 0)
theorem s_l15Less_eq (a b : List Int) (ha : a.length < 4294967296) : s_l15Less a b = some (pLessS a b) := by
 rw [s_l15Less, pLessS, s_l4Less_eq a b ha]
 split <;> rfl
theorem shl_pow {n : Nat} (hn : n ≤ 8) : shlI .i64 1 (n : Int) = some (((2 ^ n : Nat) : Int)) ∧ (2 ^ n : Nat) ≤ 256 ∧ 1 ≤ (2 ^ n : Nat) := by
 have : n = 0 ∨ n = 1 ∨ n = 2 ∨ n = 3 ∨ n = 4 ∨ n = 5 ∨ n = 6 ∨ n = 7 ∨ n = 8 := by omega
 rcases this with rfl | rfl | rfl | rfl | rfl | rfl | rfl | rfl | rfl <;> exact ⟨rfl, by decide, by decide⟩
def pOkS (s : List Int) (l : List Method) (list : List Told) (x : List Int) : Bool := pCons s l (pWo x list 0)
def pSmS (is : List Int → Bool) (n : Nat) (b : Option (List Int)) (m : Int) : Option (List Int) := match b with
 | none => if is (pSet m n 0) then some (pSet m n 0) else none
 | some y => if pLessS (pSet m n 0) y && is (pSet m n 0) then some (pSet m n 0) else some y
def pSm (is : List Int → Bool) (n : Nat) : Nat → Nat → Option (List Int) → Option (List Int)
 | 0, _, b => b
 | c + 1, i, b => pSm is n c (i + 1) (pSmS is n b (i : Int))
theorem wo_bd {list : List Told} (hb : bdL bd_Told list) (x : List Int) : bdL bd_Told (pWo x list 0) := ⟨Nat.lt_of_le_of_lt pWo_sub.length_le hb.1, fun t ht => hb.2 t (pWo_sub.subset ht)⟩
theorem s_SmallestRemoval_L1_eq {s : List Int} {l : List Method} {list : List Told} {N : Nat} (hs : s.length < 4294967296) (hml : bdL bd_Method l) (hb : bdL bd_Told list) (h8 : list.length ≤ 8) (e1 : shlI .i64 1 (list.length : Int) = some (N : Int)) (e2 : N ≤ 256) : ∀ (m i : Nat) (b : Option (List Int)), i ≤ N → N - i < m → (∀ y, b = some y → y.length ≤ 8) →
   s_SmallestRemoval_L1 s l list m (b.getD []) b.isSome (i : Int) = some ((pSm (pOkS s l list) list.length (N - i) i b).getD [], (pSm (pOkS s l list) list.length (N - i) i b).isSome) := by
 intro m
 induction m with
 | zero => intro i b _ h; omega
 | succ m ih =>
   intro i b hi hm hy
   unfold s_SmallestRemoval_L1
   rw [e1, Option.bind_some]
   have hl := pSet_len (i : Int) list.length 0
   by_cases hlt : i < N
   · have hw : IntKind.i64.wrap ((i : Int) + 1) = ((i + 1 : Nat) : Int) := by rw [wrap_in (by omega) (by omega)]; rfl
     have hn := ih (i + 1) (pSmS (pOkS s l list) list.length b (i : Int)) (by omega) (by omega) (fun y e => by
       unfold pSmS at e
       rcases b with _ | z <;> simp only at e <;> split at e <;> cases e
       · omega
       · omega
       · exact hy _ rfl)
     have hc : s_IsConsistent s l (pWo (pSet (i : Int) list.length 0) list 0) = some (pOkS s l list (pSet (i : Int) list.length 0)) := s_IsConsistent_eq hs hml (wo_bd hb _).2 (wo_bd hb _).1
     rw [if_pos (by simpa using hlt), s_l15Set_eq _ _ h8, Option.bind_some, hw, show N - i = (N - (i + 1)) + 1 by omega, pSm]
     rcases b with _ | y
     · simp only [Option.isSome_none, cond_false, Option.bind_some, Bool.false_eq_true, if_false, Option.getD_none]
       rw [s_Without_eq _ _ hb, Option.bind_some, hc, Option.bind_some]
       simp only [pSmS] at hn ⊢
       cases hk : pOkS s l list (pSet (i : Int) list.length 0)
       · rw [hk] at hn; exact hn
       · rw [hk] at hn; exact hn
     · simp only [Option.isSome_some, cond_true, Option.getD_some]
       rw [s_l15Less_eq _ _ (by omega), Option.bind_some, Option.bind_some]
       dsimp only
       rw [s_Without_eq _ _ hb, Option.bind_some, hc, Option.bind_some]
       simp only [pSmS] at hn ⊢
       cases hL : pLessS (pSet (i : Int) list.length 0) y
       · rw [hL] at hn
         exact hn
       · cases hk : pOkS s l list (pSet (i : Int) list.length 0)
         · rw [hL, hk] at hn; exact hn
         · rw [hL, hk] at hn; exact hn
   · rw [if_neg (by simpa using hlt), show N - i = 0 by omega, pSm]
theorem i_removals_1_eq {s : List Int} {l : List Method} {list : List Told} (hs : s.length < 4294967296) (hml : bdL bd_Method l) (hb : bdL bd_Told list) (x : List Int) : i_removals_1 x s l list = some (pOkS s l list x) := by
 rw [i_removals_1, i_Without_eq x list hb, Option.bind_some, i_IsConsistent_eq hs hml (wo_bd hb x).2 (wo_bd hb x).1]; rfl
def pSmT (is : List Int → Bool) (x : List Int) (b : Option (List Int)) : Option (List Int) := match b with
 | none => if is x then some x else none
 | some y => if pLessS x y && is x then some x else some y
theorem i_smallest_L2_eq {s : List Int} {l : List Method} {list : List Told} (hs : s.length < 4294967296) (hml : bdL bd_Method l) (hb : bdL bd_Told list) {n : Nat} (hn : n ≤ 8) (b : Option (List Int)) (msk : Int) : ∀ (m i : Nat) (c : List Int), i ≤ n → n - i < m → c.length ≤ i →
   i_smallest_iremovals1_L2 (n : Int) s l list (b.getD []) b.isNone msk m c false (i : Int) = some ((pSmT (pOkS s l list) (c ++ pSet msk (n - i) i) b).getD [], (pSmT (pOkS s l list) (c ++ pSet msk (n - i) i) b).isNone) := by
 intro m
 induction m with
 | zero => intro i c _ h; omega
 | succ m ih =>
   intro i c hi hm hc
   unfold i_smallest_iremovals1_L2
   by_cases hlt : i < n
   · have hw : IntKind.i64.wrap ((i : Int) + 1) = ((i + 1 : Nat) : Int) := by rw [wrap_in (by omega) (by omega)]; rfl
     rw [if_pos (by simpa using hlt), shr_nat, Option.bind_some, app1 (by omega), hw, show n - i = (n - (i + 1)) + 1 by omega, pSet, pB]
     cases (andI .i64 (msk.fdiv (2 ^ min (i : Int).toNat (IntKind.bits .i64))) 1) == 1
     · simp only [Bool.false_eq_true, if_false, Option.bind_some, List.nil_append]
       exact ih (i + 1) c (by omega) (by omega) (by omega)
     · simp only [if_true, Option.bind_some]
       rw [ih (i + 1) _ (by omega) (by omega) (by simp; omega), List.append_assoc]
   · rw [if_neg (by simpa using hlt), show n - i = 0 by omega, pSet, List.append_nil]
     have hr := i_removals_1_eq hs hml hb c
     rcases b with _ | y
     · simp only [Option.isNone_none, cond_true, hr, Option.bind_some, pSmT]
       cases pOkS s l list c <;> rfl
     · simp only [Option.isNone_some, cond_false, Option.getD_some, hr, Option.bind_some, pSmT, pLessS, g_slices_Compare_eq]
       by_cases h1 : c.length = y.length
       · have h2 : ((c.length : Int) != (y.length : Int)) = false := by simp [h1]
         have h3 : decide ((c.length : Int) < (y.length : Int)) = false := by simp [h1]
         have h4 : ((c.length : Int) == (y.length : Int)) = true := by simp [h1]
         simp only [h2, h3, h4, cond_true, cond_false, Bool.false_eq_true, if_false]
         cases decide (cmpL c y < 0)
         · rfl
         · cases pOkS s l list c <;> rfl
       · have h2 : ((c.length : Int) != (y.length : Int)) = true := by simp; omega
         have h4 : ((c.length : Int) == (y.length : Int)) = false := by simp; omega
         simp only [h2, h4, cond_false, if_true]
         cases decide ((c.length : Int) < (y.length : Int))
         · rfl
         · cases pOkS s l list c <;> rfl
theorem i_smallest_eq {s : List Int} {l : List Method} {list : List Told} {N : Nat} (hs : s.length < 4294967296) (hml : bdL bd_Method l) (hb : bdL bd_Told list) (h8 : list.length ≤ 8) (e1 : shlI .i64 1 (list.length : Int) = some (N : Int)) (e2 : N ≤ 256) : i_smallest_iremovals1 (list.length : Int) s l list = some ((pSm (pOkS s l list) list.length N 0 none).getD [], (pSm (pOkS s l list) list.length N 0 none).isSome) := by
 have key : ∀ (m i : Nat) (b : Option (List Int)), i ≤ N → N - i < m → i_smallest_iremovals1_L1 (list.length : Int) s l list (N : Int) m (b.getD []) b.isNone (i : Int) = some ((pSm (pOkS s l list) list.length (N - i) i b).getD [], (pSm (pOkS s l list) list.length (N - i) i b).isSome) := by
   intro m
   induction m with
   | zero => intro i b _ h; omega
   | succ m ih =>
     intro i b hi hm
     unfold i_smallest_iremovals1_L1
     by_cases hlt : i < N
     · have hw : IntKind.i64.wrap ((i : Int) + 1) = ((i + 1 : Nat) : Int) := by rw [wrap_in (by omega) (by omega)]; rfl
       have h0 := i_smallest_L2_eq hs hml hb h8 b (i : Int) (((list.length : Int) - 0).toNat + 2) 0 [] (by omega) (by omega) (by simp)
       have h0' : i_smallest_iremovals1_L2 (list.length : Int) s l list (b.getD []) b.isNone (i : Int) (((list.length : Int) - 0).toNat + 2) [] false 0 = _ := h0
       rw [if_pos (by simpa using hlt), h0', Option.bind_some, hw, show N - i = (N - (i + 1)) + 1 by omega, pSm]
       exact ih (i + 1) (pSmS (pOkS s l list) list.length b (i : Int)) (by omega) (by omega)
     · rw [if_neg (by simpa using hlt), show N - i = 0 by omega, pSm]
       rcases b with _ | y <;> rfl
 rw [i_smallest_iremovals1, e1, Option.bind_some]
 exact key (((N : Int) - 0).toNat + 2) 0 none (by omega) (by omega)
theorem shl_N (list : List Told) (h8 : list.length ≤ 8) : ∃ N : Nat, shlI .i64 1 (list.length : Int) = some (N : Int) ∧ N ≤ 256 ∧ N = 2 ^ list.length := ⟨_, (shl_pow h8).1, (shl_pow h8).2.1, rfl⟩
def pSR (s : List Int) (l : List Method) (list : List Told) : Option (List Int) := if pMethods s l && decide (list.length ≤ 8) then pSm (pOkS s l list) list.length (2 ^ list.length) 0 none else none
theorem s_SmallestRemoval_eq {s : List Int} {l : List Method} {list : List Told} (hs : s.length < 4294967296) (hml : bdL bd_Method l) (hb : bdL bd_Told list) : s_SmallestRemoval 400 s l list = some ((pSR s l list).getD [], (pSR s l list).isSome) := by
 have h1 := hb.1
 rw [s_SmallestRemoval, s_AreMethods_eq s l hs hml, Option.bind_some, pSR]
 cases pMethods s l
 · rfl
 · by_cases h8 : list.length ≤ 8
   · obtain ⟨N, e1, e2, e3⟩ := shl_N list h8
     have hd : decide ((8 : Int) < (list.length : Int)) = false := by simp; omega
     simp only [Bool.not_true, cond_false, hd, Option.bind_some, Bool.false_eq_true, if_false, h8, decide_true, Bool.and_self, if_true]
     have := s_SmallestRemoval_L1_eq hs hml hb h8 e1 e2 400 0 none (by omega) (by omega) (by simp)
     rw [← e3]
     exact this
   · have hd : decide ((8 : Int) < (list.length : Int)) = true := by simp; omega
     simp [hd, h8]
def pRm (is : List Int → Bool) (n : Nat) (y : List Int) : Nat → Nat → List (List Int) → List (List Int)
 | 0, _, c => c
 | k + 1, i, c => pRm is n y k (i + 1) (if ((pSet (i : Int) n 0).length : Int) == (y.length : Int) && is (pSet (i : Int) n 0) then pAddT c (pSet (i : Int) n 0) else c)
def pAll (s : List Int) (l : List Method) (list : List Told) : List (List Int) := match pSR s l list with
 | none => []
 | some y => pRm (pOkS s l list) list.length y (2 ^ list.length) 0 []
theorem pRm_step {is : List Int → Bool} {n i : Nat} {y : List Int} {c : List (List Int)} (hn : n ≤ 8) (hc : ∀ x ∈ c, x.length ≤ 8) : (if ((pSet (i : Int) n 0).length : Int) == (y.length : Int) && is (pSet (i : Int) n 0) then pAddT c (pSet (i : Int) n 0) else c).length ≤ c.length + 1 ∧ ∀ x ∈ (if ((pSet (i : Int) n 0).length : Int) == (y.length : Int) && is (pSet (i : Int) n 0) then pAddT c (pSet (i : Int) n 0) else c), x.length ≤ 8 := by
 have hl := pSet_len (i : Int) n 0
 split
 · refine ⟨pAddT_len _ _, fun x hx => ?_⟩
   rcases pAddT_mem hx with rfl | hx
   · omega
   · exact hc x hx
 · exact ⟨by omega, hc⟩
theorem s_AllRemovals_eq {s : List Int} {l : List Method} {list : List Told} (hs : s.length < 4294967296) (hml : bdL bd_Method l) (hb : bdL bd_Told list) : s_AllRemovals 400 s l list = some (pAll s l list) := by
 rw [s_AllRemovals, s_SmallestRemoval_eq hs hml hb, Option.bind_some, pAll]
 rcases hR : pSR s l list with _ | y
 · unfold s_AllRemovals_L1
   by_cases h8 : list.length ≤ 8
   · obtain ⟨N, e1, e2, e3⟩ := shl_N list h8
     rw [e1, Option.bind_some]
     simp only [Option.isSome_none]
     cases decide ((0 : Int) < (N : Int)) <;> rfl
   · have : shlI .i64 1 (list.length : Int) = some (IntKind.i64.wrap (1 * 2 ^ min (list.length : Int).toNat (IntKind.bits .i64))) := by
       unfold shlI; rw [if_neg (by omega)]
     rw [this, Option.bind_some]
     simp only [Option.isSome_none]
     generalize decide ((0 : Int) < IntKind.i64.wrap (1 * 2 ^ min (list.length : Int).toNat (IntKind.bits .i64))) = bb
     cases bb <;> rfl
 · have h8 : list.length ≤ 8 := by
     unfold pSR at hR
     split at hR
     · rename_i h; simp only [Bool.and_eq_true, decide_eq_true_eq] at h; exact h.2
     · cases hR
   obtain ⟨N, e1, e2, e3⟩ := shl_N list h8
   have key : ∀ (m i : Nat) (c : List (List Int)), i ≤ N → N - i < m → c.length ≤ i → (∀ x ∈ c, x.length ≤ 8) → s_AllRemovals_L1 s l list (y, true) m c (i : Int) = some (pRm (pOkS s l list) list.length y (N - i) i c) := by
     intro m
     induction m with
     | zero => intro i c _ h; omega
     | succ m ih =>
       intro i c hi hm hc hx
       unfold s_AllRemovals_L1
       rw [e1, Option.bind_some]
       have hl := pSet_len (i : Int) list.length 0
       by_cases hlt : i < N
       · have hw : IntKind.i64.wrap ((i : Int) + 1) = ((i + 1 : Nat) : Int) := by rw [wrap_in (by omega) (by omega)]; rfl
         have hd : decide ((i : Int) < (N : Int)) = true := by simpa using hlt
         have hcs : s_IsConsistent s l (pWo (pSet (i : Int) list.length 0) list 0) = some (pOkS s l list (pSet (i : Int) list.length 0)) := s_IsConsistent_eq hs hml (wo_bd hb _).2 (wo_bd hb _).1
         obtain ⟨q1, q2⟩ := pRm_step (is := pOkS s l list) (i := i) (y := y) h8 hx
         have hn := ih (i + 1) _ (by omega) (by omega) (by omega) q2
         rw [hd]
         simp only [cond_true, Option.bind_some, if_true]
         rw [s_l15Set_eq _ _ h8, Option.bind_some, s_Without_eq _ _ hb, hw, show N - i = (N - (i + 1)) + 1 by omega, pRm, ← hn]
         cases hq : (((pSet (i : Int) list.length 0).length : Int) == (y.length : Int))
         · rfl
         · simp only [cond_true, Option.bind_some]
           rw [hcs]
           cases pOkS s l list (pSet (i : Int) list.length 0)
           · rfl
           · simp only [Option.bind_some, Bool.and_self, if_true]
             rw [s_AddTuple_eq c _ (fun x h => by have := hx x h; omega) (by omega) (by omega)]; rfl
       · have hd : decide ((i : Int) < (N : Int)) = false := by simpa using hlt
         rw [hd, show N - i = 0 by omega, pRm]; rfl
   rw [← e3]
   exact key 400 0 [] (by omega) (by omega) (by simp) (by simp)
theorem i_removals_L2_eq {s : List Int} {l : List Method} {list : List Told} (hs : s.length < 4294967296) (hml : bdL bd_Method l) (hb : bdL bd_Told list) (y : List Int) (bo : Bool) (cs : List (List Int)) (hc : cs.length + 1 < 1000) (msk : Int) : ∀ (r : List Told) (k : Nat) (c : List Int), c.length + r.length ≤ 8 →
   i_removals_L2 s l list (y, bo) cs msk r k c = some (if (((c ++ pSet msk r.length k).length : Int) == (y.length : Int)) && pOkS s l list (c ++ pSet msk r.length k) then pAddT cs (c ++ pSet msk r.length k) else cs)
 | [], k, c, h => by
   simp only [List.length_nil, pSet, List.append_nil]
   rw [i_removals_L2, i_removals_1_eq hs hml hb, Option.bind_some]
   dsimp only
   cases ((c.length : Int) == (y.length : Int))
   · rfl
   · cases pOkS s l list c
     · rfl
     · simp only [cond_true, Option.bind_some, if_true, Bool.and_self]
       simp only [List.length_nil] at h
       rw [i_addedTuple_eq cs c (by omega) (by omega)]; rfl
 | t :: r, k, c, h => by
   simp only [List.length_cons] at h
   rw [i_removals_L2, shr_nat, Option.bind_some, app1 (by omega), List.length_cons, pSet, pB]
   cases (andI .i64 (msk.fdiv (2 ^ min (k : Int).toNat (IntKind.bits .i64))) 1) == 1
   · simp only [Bool.false_eq_true, if_false, Option.bind_some, List.nil_append]
     exact i_removals_L2_eq hs hml hb y bo cs hc msk r (k + 1) c (by omega)
   · simp only [if_true, Option.bind_some]
     rw [← List.append_assoc]
     exact i_removals_L2_eq hs hml hb y bo cs hc msk r (k + 1) _ (by simp; omega)
theorem i_removals_eq {s : List Int} {l : List Method} {list : List Told} (hs : s.length < 4294967296) (hml : bdL bd_Method l) (hb : bdL bd_Told list) : i_removals s l list = some (pAll s l list, (pSR s l list).isSome) := by
 rw [i_removals, i_AreMethods_eq s l hs hml, Option.bind_some, pAll]
 cases hm : pMethods s l
 · simp [pSR, hm]
 · by_cases h8 : list.length ≤ 8
   · obtain ⟨N, e1, e2, e3⟩ := shl_N list h8
     have hd : decide ((8 : Int) < (list.length : Int)) = false := by simp; omega
     have hR : pSR s l list = pSm (pOkS s l list) list.length N 0 none := by simp [pSR, hm, h8, e3]
     simp only [Bool.not_true, cond_false, hd, Option.bind_some, Bool.false_eq_true, if_false]
     rw [i_smallest_eq hs hml hb h8 e1 e2, Option.bind_some, hR]
     rcases pSm (pOkS s l list) list.length N 0 none with _ | y
     · rfl
     · simp only [Option.isSome_some, Bool.not_true, Bool.false_eq_true, if_false, Option.getD_some]
       rw [e1, Option.bind_some]
       have key : ∀ (m i : Nat) (c : List (List Int)), i ≤ N → N - i < m → c.length ≤ i → (∀ x ∈ c, x.length ≤ 8) → i_removals_L1 s l list (y, true) (N : Int) m c (i : Int) = some (pRm (pOkS s l list) list.length y (N - i) i c, true) := by
         intro m
         induction m with
         | zero => intro i c _ h; omega
         | succ m ih =>
           intro i c hi hm hc hx
           unfold i_removals_L1
           by_cases hlt : i < N
           · have hw : IntKind.i64.wrap ((i : Int) + 1) = ((i + 1 : Nat) : Int) := by rw [wrap_in (by omega) (by omega)]; rfl
             obtain ⟨q1, q2⟩ := pRm_step (is := pOkS s l list) (i := i) (y := y) h8 hx
             rw [if_pos (by simpa using hlt), i_removals_L2_eq hs hml hb y true c (by omega) (i : Int) list 0 [] (by simpa using h8), Option.bind_some, List.nil_append, hw, show N - i = (N - (i + 1)) + 1 by omega, pRm]
             exact ih (i + 1) _ (by omega) (by omega) (by omega) q2
           · rw [if_neg (by simpa using hlt), show N - i = 0 by omega, pRm]
       rw [← e3]
       exact key (((N : Int) - 0).toNat + 2) 0 [] (by omega) (by omega) (by simp) (by simp)
   · have hd : decide ((8 : Int) < (list.length : Int)) = true := by simp; omega
     simp [hd, h8, pSR]
theorem pIntsEq_iff (a b : List Int) : pIntsEq a b = decide (a = b) := by
 unfold pIntsEq
 induction a generalizing b with
 | nil => cases b <;> simp [eqF]
 | cons x a ih =>
   cases b with
   | nil => simp [eqF]
   | cons y b =>
     rw [eqF, ih]
     by_cases h : x = y <;> simp [h]
theorem pHasT_mem2 {l : List (List Int)} {t : List Int} : pHasT l t = true ↔ t ∈ l := by
 simp only [pHasT, List.any_eq_true, pIntsEq_iff, decide_eq_true_eq]
 constructor
 · rintro ⟨x, h, rfl⟩; exact h
 · intro h; exact ⟨t, h, rfl⟩
def tLt (a b : List Int) : Prop := cmpL a b < 0
theorem pInsT_iff {f y : List Int} : ∀ {l : List (List Int)}, y ∈ pInsT f l ↔ y = f ∨ y ∈ l
 | [] => by simp [pInsT]
 | x :: l => by
   unfold pInsT
   split
   · simp
   · rw [List.mem_cons, pInsT_iff, List.mem_cons]
     constructor <;> rintro (h | h | h) <;> simp [h]
theorem pInsT_pw {f : List Int} : ∀ {l : List (List Int)}, l.Pairwise tLt → f ∉ l → (pInsT f l).Pairwise tLt
 | [], _, _ => by simp [pInsT]
 | x :: l, h, hn => by
   unfold pInsT
   rw [List.mem_cons, not_or] at hn
   rw [List.pairwise_cons] at h
   split
   · rename_i hx
     have hx' := cmpL_swap.1 hx
     rw [List.pairwise_cons, List.pairwise_cons]
     refine ⟨fun a ha => ?_, h⟩
     rcases List.mem_cons.1 ha with rfl | ha
     · exact hx'
     · exact cmpL_trans hx' (h.1 a ha)
   · rename_i hx
     rw [List.pairwise_cons]
     refine ⟨fun a ha => ?_, pInsT_pw h.2 hn.2⟩
     rcases pInsT_iff.1 ha with rfl | ha
     · have : cmpL x a ≠ 0 := fun e => hn.1 (cmpL_zero.1 e).symm
       show cmpL x a < 0
       omega
     · exact h.1 a ha
theorem pAddT_pw {l : List (List Int)} {t : List Int} (h : l.Pairwise tLt) : (pAddT l t).Pairwise tLt := by
 unfold pAddT
 split
 · exact h
 · rename_i hn; exact pInsT_pw h fun hm => hn (pHasT_mem2.2 hm)
theorem pAddT_iff {l : List (List Int)} {t y : List Int} : y ∈ pAddT l t ↔ y = t ∨ y ∈ l := by
 unfold pAddT
 split
 · rename_i h
   have := pHasT_mem2.1 h
   constructor
   · exact .inr
   · rintro (rfl | h)
     · exact this
     · exact h
 · exact pInsT_iff
theorem pRm_pw {is : List Int → Bool} {n : Nat} {y : List Int} : ∀ (k i : Nat) (c : List (List Int)), c.Pairwise tLt → (pRm is n y k i c).Pairwise tLt
 | 0, _, _, h => h
 | k + 1, i, c, h => by
   rw [pRm]
   refine pRm_pw k (i + 1) _ ?_
   split
   · exact pAddT_pw h
   · exact h
theorem pRm_mem {is : List Int → Bool} {n : Nat} {y x : List Int} : ∀ (k i : Nat) (c : List (List Int)), x ∈ pRm is n y k i c ↔ x ∈ c ∨ ∃ j, i ≤ j ∧ j < i + k ∧ x = pSet (j : Int) n 0 ∧ x.length = y.length ∧ is x = true
 | 0, i, c => by
   rw [pRm]
   constructor
   · exact .inl
   · rintro (h | ⟨j, h1, h2, -⟩)
     · exact h
     · omega
 | k + 1, i, c => by
   have hq : ∀ z : List Int, (((z.length : Int) == (y.length : Int)) && is z) = true ↔ z.length = y.length ∧ is z = true := fun z => by
     simp only [Bool.and_eq_true, beq_iff_eq]
     constructor <;> rintro ⟨a, b⟩ <;> exact ⟨by omega, b⟩
   rw [pRm, pRm_mem k (i + 1)]
   constructor
   · rintro (h | ⟨j, h1, h2, h3⟩)
     · split at h
       · rename_i hc
         rcases pAddT_iff.1 h with rfl | h
         · exact .inr ⟨i, by omega, by omega, rfl, (hq _).1 hc⟩
         · exact .inl h
       · exact .inl h
     · exact .inr ⟨j, by omega, by omega, h3⟩
   · rintro (h | ⟨j, h1, h2, h3, h4⟩)
     · left; split
       · exact pAddT_iff.2 (.inr h)
       · exact h
     · by_cases e : j = i
       · subst e
         left
         rw [if_pos ((hq _).2 (h3 ▸ h4))]
         exact pAddT_iff.2 (.inl h3)
       · exact .inr ⟨j, by omega, by omega, h3, h4⟩
theorem pLess_trans {a b c : List Int} (h1 : pLessS a b = true) (h2 : pLessS b c = true) : pLessS a c = true := by
 unfold pLessS at *
 by_cases e1 : a.length = b.length
 · by_cases e2 : b.length = c.length
   · have e3 : a.length = c.length := by omega
     simp only [e1, e2, bne_self_eq_false, Bool.false_eq_true, if_false, decide_eq_true_eq] at *
     exact cmpL_trans h1 h2
   · have b2 : ((b.length : Int) != (c.length : Int)) = true := by simp; omega
     rw [if_pos b2] at h2
     have b3 : ((a.length : Int) != (c.length : Int)) = true := by simp; omega
     rw [if_pos b3]
     simp only [decide_eq_true_eq] at *; omega
 · have b1 : ((a.length : Int) != (b.length : Int)) = true := by simp; omega
   rw [if_pos b1] at h1
   by_cases e2 : b.length = c.length
   · have b3 : ((a.length : Int) != (c.length : Int)) = true := by simp; omega
     rw [if_pos b3]
     simp only [decide_eq_true_eq] at *; omega
   · have b2 : ((b.length : Int) != (c.length : Int)) = true := by simp; omega
     rw [if_pos b2] at h2
     simp only [decide_eq_true_eq] at h1 h2
     have b3 : ((a.length : Int) != (c.length : Int)) = true := by simp; omega
     rw [if_pos b3, decide_eq_true_eq]; omega
theorem pLess_conn {a b : List Int} (h : pLessS a b = false) : a = b ∨ pLessS b a = true := by
 unfold pLessS at *
 by_cases e1 : a.length = b.length
 · have b1 : ((a.length : Int) != (b.length : Int)) = false := by simp [e1]
   have b2 : ((b.length : Int) != (a.length : Int)) = false := by simp [e1]
   rw [if_neg (by rw [b1]; simp)] at h
   rw [if_neg (by rw [b2]; simp)]
   simp only [decide_eq_false_iff_not, decide_eq_true_eq] at *
   by_cases e : cmpL a b = 0
   · exact .inl (cmpL_zero.1 e)
   · exact .inr (cmpL_swap.1 (by omega))
 · have b1 : ((a.length : Int) != (b.length : Int)) = true := by simp; omega
   have b2 : ((b.length : Int) != (a.length : Int)) = true := by simp; omega
   rw [if_pos b1] at h
   rw [if_pos b2]
   simp only [decide_eq_false_iff_not, decide_eq_true_eq] at *
   exact .inr (by omega)
theorem pLess_irr (a : List Int) : pLessS a a = false := by
 unfold pLessS
 rw [if_neg (by simp), decide_eq_false_iff_not, cmpL_zero.2 rfl]; decide
theorem pSm_min {is : List Int → Bool} {n : Nat} : ∀ (k i : Nat) (b : Option (List Int)) {y : List Int}, pSm is n k i b = some y → (b = some y ∨ ∃ j, i ≤ j ∧ j < i + k ∧ y = pSet (j : Int) n 0 ∧ is y = true) ∧ (∀ j, i ≤ j → j < i + k → is (pSet (j : Int) n 0) = true → pLessS (pSet (j : Int) n 0) y = false) ∧ ∀ z, b = some z → pLessS z y = false
 | 0, i, b, y, h => ⟨.inl h, fun j h1 h2 => by omega, fun z hz => by
   rw [pSm] at h; rw [h] at hz; cases hz; exact pLess_irr _⟩
 | k + 1, i, b, y, h => by
   rw [pSm] at h
   obtain ⟨h1, h2, h3⟩ := pSm_min k (i + 1) _ h
   have step : ∀ z, pSmS is n b (i : Int) = some z → (b = some z ∨ z = pSet (i : Int) n 0 ∧ is z = true) ∧ (is (pSet (i : Int) n 0) = true → pLessS (pSet (i : Int) n 0) z = false) ∧ ∀ w, b = some w → pLessS w z = false := by
     intro z hz
     unfold pSmS at hz
     rcases b with _ | w
     · simp only at hz
       split at hz
       · rename_i hi; cases hz; exact ⟨.inr ⟨rfl, hi⟩, fun _ => pLess_irr _, fun w hw => by cases hw⟩
       · cases hz
     · simp only at hz
       split at hz
       · rename_i hi
         simp only [Bool.and_eq_true] at hi
         cases hz
         refine ⟨.inr ⟨rfl, hi.2⟩, fun _ => pLess_irr _, fun w' hw => ?_⟩
         cases hw
         rcases hb : pLessS w (pSet (i : Int) n 0) with _ | _
         · rfl
         · exact absurd (pLess_trans hb hi.1) (by rw [pLess_irr]; simp)
       · rename_i hi
         cases hz
         refine ⟨.inl rfl, fun hs => ?_, fun w' hw => by cases hw; exact pLess_irr _⟩
         rcases hb : pLessS (pSet (i : Int) n 0) z with _ | _
         · rfl
         · exact absurd (by rw [hb, hs]; rfl) hi
   have le_trans : ∀ {a z : List Int}, pLessS a z = false → pLessS z y = false → pLessS a y = false := by
     intro a z q1 q2
     rcases hb : pLessS a y with _ | _
     · rfl
     · rcases pLess_conn q2 with rfl | q2
       · rw [hb] at q1; cases q1
       · rw [pLess_trans hb q2] at q1; cases q1
   rcases hS : pSmS is n b (i : Int) with _ | z
   · have hb : b = none := by
       unfold pSmS at hS
       rcases b with _ | w
       · rfl
       · simp only at hS; split at hS <;> cases hS
     have hi : ¬ is (pSet (i : Int) n 0) = true := fun hi => by
       unfold pSmS at hS; rw [hb] at hS; simp only at hS; rw [if_pos hi] at hS; cases hS
     refine ⟨?_, fun j q1 q2 q3 => ?_, fun z hz => by rw [hb] at hz; cases hz⟩
     · rcases h1 with h1 | ⟨j, q1, q2, q3⟩
       · rw [hS] at h1; cases h1
       · exact .inr ⟨j, by omega, by omega, q3⟩
     · by_cases e : j = i
       · subst e; exact absurd q3 hi
       · exact h2 j (by omega) (by omega) q3
   · obtain ⟨s1, s2, s3⟩ := step z hS
     have hzy := h3 z hS
     refine ⟨?_, fun j q1 q2 q3 => ?_, fun w hw => le_trans (s3 w hw) hzy⟩
     · rcases h1 with h1 | ⟨j, q1, q2, q3⟩
       · rw [hS] at h1; cases h1
         rcases s1 with s1 | ⟨s1, s4⟩
         · exact .inl s1
         · exact .inr ⟨i, by omega, by omega, s1, s4⟩
       · exact .inr ⟨j, by omega, by omega, q3⟩
     · by_cases e : j = i
       · subst e; exact le_trans (s2 q3) hzy
       · exact h2 j (by omega) (by omega) q3
theorem pAll_head {s : List Int} {l : List Method} {list : List Told} {y : List Int} (h : pSR s l list = some y) : ∃ r, pAll s l list = y :: r := by
 have hA : pAll s l list = pRm (pOkS s l list) list.length y (2 ^ list.length) 0 [] := by rw [pAll, h]
 have hm : pSm (pOkS s l list) list.length (2 ^ list.length) 0 none = some y := by
   unfold pSR at h
   split at h
   · exact h
   · cases h
 obtain ⟨h1, h2, -⟩ := pSm_min _ _ _ hm
 have hp := pRm_pw (is := pOkS s l list) (n := list.length) (y := y) (2 ^ list.length) 0 [] List.Pairwise.nil
 have hy : y ∈ pRm (pOkS s l list) list.length y (2 ^ list.length) 0 [] := by
   rw [pRm_mem]
   rcases h1 with h1 | ⟨j, q1, q2, q3, q4⟩
   · cases h1
   · exact .inr ⟨j, q1, q2, q3, rfl, q4⟩
 rw [hA]
 rcases hL : pRm (pOkS s l list) list.length y (2 ^ list.length) 0 [] with _ | ⟨x, r⟩
 · rw [hL] at hy; cases hy
 · rw [hL] at hy hp
   have hx : x ∈ pRm (pOkS s l list) list.length y (2 ^ list.length) 0 [] := by rw [hL]; simp
   rw [pRm_mem] at hx
   rcases hx with hx | ⟨j, q1, q2, q3, q4, q5⟩
   · cases hx
   · have hle : pLessS x y = false := by rw [q3]; exact h2 j q1 q2 (q3 ▸ q5)
     rw [List.pairwise_cons] at hp
     rcases List.mem_cons.1 hy with e | hy'
     · exact ⟨r, by rw [e]⟩
     · have := hp.1 y hy'
       unfold pLessS at hle
       rw [if_neg (by simp [q4]), decide_eq_false_iff_not] at hle
       exact absurd this hle
theorem i_SmallestRemoval_eq {s : List Int} {l : List Method} {list : List Told} (hs : s.length < 4294967296) (hml : bdL bd_Method l) (hb : bdL bd_Told list) : i_SmallestRemoval s l list = some ((pSR s l list).getD [], (pSR s l list).isSome) := by
 rw [i_SmallestRemoval, i_removals_eq hs hml hb, Option.bind_some]
 rcases hR : pSR s l list with _ | y
 · rfl
 · obtain ⟨r, e⟩ := pAll_head hR
   simp [e, ix]
def unN (l : List Told) : Nat := (l.map fun t => t.Facts.length).sum
def pUn (l : List Told) : List Fact := l.foldl (fun c t => t.Facts.foldl pAddF c) []
theorem pWo_un (x : List Int) : ∀ (l : List Told) (k : Nat), unN (pWo x l k) ≤ unN l
 | [], _ => by simp [pWo]
 | t :: l, k => by
   have := pWo_un x l (k + 1)
   unfold pWo
   split <;> simp only [unN, List.map_cons, List.sum_cons] at * <;> omega
theorem addFs_bd : ∀ {l c : List Fact}, bdL bd_Fact c → (∀ f ∈ l, bd_Fact f) → c.length + l.length < 4294967296 → bdL bd_Fact (l.foldl pAddF c)
 | [], c, h, _, _ => h
 | x :: l, c, h, hl, hn => by
   simp only [List.length_cons] at hn
   have h1 := pAddF_len c x
   rw [List.foldl_cons]
   refine addFs_bd ⟨by omega, fun y hy => ?_⟩ (fun f hf => hl f (by simp [hf])) (by omega)
   rcases pAddF_mem hy with rfl | hy
   · exact hl _ (by simp)
   · exact h.2 y hy
theorem s_UnionOf_L2_eq (t : Told) (hb : bdL bd_Fact t.Facts) : ∀ (m i : Nat) (c : List Fact), i ≤ t.Facts.length → t.Facts.length - i < m → c.length + (t.Facts.length - i) < 2000000 → bdL bd_Fact c → s_UnionOf_L2 t m c (i : Int) = some ((t.Facts.drop i).foldl pAddF c) := by
 have hb1 := hb.1
 intro m
 induction m with
 | zero => intro i c _ h; omega
 | succ m ih =>
   intro i c hi hm hc hbc
   unfold s_UnionOf_L2
   by_cases hlt : i < t.Facts.length
   · have hw : IntKind.i64.wrap ((i : Int) + 1) = ((i + 1 : Nat) : Int) := by rw [wrap_in (by omega) (by omega)]; rfl
     have hf := hb.2 t.Facts[i] (List.getElem_mem _)
     have h1 := pAddF_len c t.Facts[i]
     rw [if_pos (by simpa using hlt), ix_nat, List.getElem?_eq_getElem hlt, Option.bind_some, s_AddFact_eq c _ hbc (by omega) hf, Option.bind_some, hw, List.drop_eq_getElem_cons hlt, List.foldl_cons]
     refine ih (i + 1) _ (by omega) (by omega) (by omega) ⟨by omega, fun y hy => ?_⟩
     rcases pAddF_mem hy with rfl | hy
     · exact hf
     · exact hbc.2 y hy
   · rw [if_neg (by simpa using hlt), List.drop_eq_nil_of_le (by omega)]; rfl
theorem pUn_go {L : List Told → Nat → List Fact → Option (List Fact)} (h0 : ∀ k c, L [] k c = some c) (h1 : ∀ t r k c, bd_Told t → c.length + t.Facts.length < 2000000 → bdL bd_Fact c → L (t :: r) k c = L r (k + 1) (t.Facts.foldl pAddF c)) : ∀ (r : List Told) (k : Nat) (c : List Fact), (∀ t ∈ r, bd_Told t) → c.length + unN r < 2000000 → bdL bd_Fact c → L r k c = some (r.foldl (fun c t => t.Facts.foldl pAddF c) c)
 | [], k, c, _, _, _ => h0 k c
 | t :: r, k, c, hr, hn, hc => by
   have e : unN (t :: r) = t.Facts.length + unN r := by simp [unN]
   have ht := hr t (by simp)
   have hl := addFs_len (g := t.Facts) (fs := c)
   rw [h1 t r k c ht (by omega) hc, pUn_go h0 h1 r (k + 1) _ (fun x hx => hr x (by simp [hx])) (by omega) (addFs_bd hc ht.2.2 (by omega))]; rfl
theorem s_UnionOf_eq {list : List Told} (hb : bdL bd_Told list) (hn : unN list < 2000000) : s_UnionOf list = some (pUn list) :=
 pUn_go (L := s_UnionOf_L1) (fun _ _ => rfl) (fun t r k c ht hc hbc => by
   have h := s_UnionOf_L2_eq t ht.2 (((t.Facts.length : Int) - 0).toNat + 2) 0 c (by omega) (by omega) (by omega) hbc
   have h' : s_UnionOf_L2 t (((t.Facts.length : Int) - 0).toNat + 2) c 0 = _ := h
   rw [s_UnionOf_L1, h', Option.bind_some, List.drop_zero]) list 0 [] hb.2 (by simpa using hn) bdL_nil
theorem i_UnionOf_eq {list : List Told} (hb : bdL bd_Told list) (hn : unN list < 2000000) : i_UnionOf list = some (pUn list) :=
 pUn_go (L := i_UnionOf_L1) (fun _ _ => rfl) (fun t r k c ht hc hbc => by
   have key : ∀ (l : List Fact) (k : Nat) (c : List Fact), (∀ f ∈ l, bd_Fact f) → c.length + l.length < 2000000 → i_UnionOf_L2 l k c = some (l.foldl pAddF c) := by
     intro l
     induction l with
     | nil => intro k c _ _; rfl
     | cons x l ih =>
       intro k c hl hn
       simp only [List.length_cons] at hn
       have h1 := pAddF_len c x
       rw [i_UnionOf_L2, i_added_eq c x (by omega) (hl x (by simp)), Option.bind_some, ih _ _ (fun f hf => hl f (by simp [hf])) (by omega)]; rfl
   rw [i_UnionOf_L1, key _ _ _ ht.2.2 hc, Option.bind_some]) list 0 [] hb.2 (by simpa using hn) bdL_nil
theorem pUn_gen : ∀ (l : List Told) (c : List Fact), c.Pairwise fLt → (l.foldl (fun c t => t.Facts.foldl pAddF c) c).Pairwise fLt ∧ (l.foldl (fun c t => t.Facts.foldl pAddF c) c).length ≤ c.length + unN l ∧ ∀ f, f ∈ l.foldl (fun c t => t.Facts.foldl pAddF c) c ↔ f ∈ c ∨ ∃ t ∈ l, f ∈ t.Facts
 | [], c, h => ⟨h, by simp [unN], fun f => by simp⟩
 | t :: l, c, h => by
   obtain ⟨h1, h2, h3⟩ := pUn_gen l (t.Facts.foldl pAddF c) (addFs_pw h)
   have hl := addFs_len (g := t.Facts) (fs := c)
   have e : unN (t :: l) = t.Facts.length + unN l := by simp [unN]
   refine ⟨h1, by rw [List.foldl_cons]; omega, fun f => ?_⟩
   rw [List.foldl_cons, h3, addFs_mem]
   constructor
   · rintro ((h | h) | ⟨t', h, h'⟩)
     · exact .inl h
     · exact .inr ⟨t, by simp, h⟩
     · exact .inr ⟨t', by simp [h], h'⟩
   · rintro (h | ⟨t', h, h'⟩)
     · exact .inl (.inl h)
     · rcases List.mem_cons.1 h with rfl | h
       · exact .inl (.inr h')
       · exact .inr ⟨t', h, h'⟩
theorem pUn_ok (l : List Told) : (pUn l).Pairwise fLt ∧ (pUn l).length ≤ unN l ∧ ∀ f, f ∈ pUn l ↔ ∃ t ∈ l, f ∈ t.Facts := by
 obtain ⟨h1, h2, h3⟩ := pUn_gen l [] List.Pairwise.nil
 exact ⟨h1, by simpa [pUn] using h2, fun f => by rw [pUn, h3]; simp⟩
theorem pUn_bd {list : List Told} (hb : bdL bd_Told list) (hn : unN list < 2000000) : bdL bd_Fact (pUn list) := ⟨by have := (pUn_ok list).2.1; omega, fun f hf => by
 obtain ⟨t, h1, h2⟩ := ((pUn_ok list).2.2 f).1 hf
 exact (hb.2 t h1).2.2 f h2⟩
def pU (list : List Told) (x : List Int) : List Fact := pUn (pWo x list 0)
theorem pU_ok {list : List Told} (hb : bdL bd_Told list) (hn : unN list < 2000000) (x : List Int) : s_UnionOf (pWo x list 0) = some (pU list x) ∧ i_UnionOf (pWo x list 0) = some (pU list x) ∧ bdL bd_Fact (pU list x) ∧ (pU list x).Pairwise fLt ∧ ∀ f ∈ pU list x, f ∈ pUn list := by
 have h1 := wo_bd hb x
 have h2 := pWo_un x list 0
 refine ⟨s_UnionOf_eq h1 (by omega), i_UnionOf_eq h1 (by omega), pUn_bd h1 (by omega), (pUn_ok _).1, fun f hf => ?_⟩
 obtain ⟨t, q1, q2⟩ := ((pUn_ok _).2.2 f).1 hf
 exact ((pUn_ok list).2.2 f).2 ⟨t, pWo_sub.subset q1, q2⟩
def pKeep (list : List Told) (all : List (List Int)) (f : Fact) : Bool := all.all fun x => pHasF (pU list x) f
def pTr (list : List Told) : List (List Int) → List Fact
 | [] => []
 | x :: r => r.foldl (fun c z => c.filter (pHasF (pU list z))) (pU list x)
theorem s_TrustedFacts_L1_eq {list : List Told} (hb : bdL bd_Told list) (hn : unN list < 2000000) : ∀ (r : List (List Int)) (k : Nat) (c : List Fact), 0 < k → c.length < 2000000 → s_TrustedFacts_L1 list r k c = some (r.foldl (fun c z => c.filter (pHasF (pU list z))) c)
 | [], k, c, _, _ => rfl
 | z :: r, k, c, hk, hc => by
   obtain ⟨u1, u2, u3, -, -⟩ := pU_ok hb hn z
   have hf := filter_loop (L := s_TrustedFacts_L4 (pU list z)) (P := fun _ => True) (p := pHasF (pU list z)) (fun _ _ => rfl) (fun x r k c _ hx => by
     rw [s_TrustedFacts_L4, s_HasFact_eq _ _ u3, Option.bind_some, app1 hx]
     split <;> rfl) c 0 [] (fun _ _ => trivial) (by simp; omega)
   have hk' : ((k : Int) == 0) = false := by simp; omega
   have hl := List.length_filter_le (pHasF (pU list z)) c
   rw [s_TrustedFacts_L1, s_Without_eq z list hb, Option.bind_some, u1, Option.bind_some, if_neg (by rw [hk']; simp), hf, Option.bind_some, List.nil_append]
   exact s_TrustedFacts_L1_eq hb hn r (k + 1) _ (by omega) (by omega)
theorem pU_len {list : List Told} (hn : unN list < 2000000) (x : List Int) : (pU list x).length < 2000000 := by
 have h1 := (pUn_ok (pWo x list 0)).2.1
 have h2 := pWo_un x list 0
 unfold pU; omega
theorem s_TrustedFacts_eq {s : List Int} {l : List Method} {list : List Told} (hs : s.length < 4294967296) (hml : bdL bd_Method l) (hb : bdL bd_Told list) (hn : unN list < 2000000) : s_TrustedFacts 400 s l list = some (pTr list (pAll s l list)) := by
 rw [s_TrustedFacts, s_AllRemovals_eq hs hml hb, Option.bind_some]
 rcases pAll s l list with _ | ⟨x, r⟩
 · rfl
 · obtain ⟨u1, -⟩ := pU_ok hb hn x
   rw [s_TrustedFacts_L1, s_Without_eq x list hb, Option.bind_some, u1, Option.bind_some, if_pos (by simp), Option.bind_some]
   exact s_TrustedFacts_L1_eq hb hn r 1 _ (by omega) (pU_len hn x)
theorem filt_gen (list : List Told) : ∀ (r : List (List Int)) (c : List Fact), r.foldl (fun c z => c.filter (pHasF (pU list z))) c = c.filter fun f => r.all fun z => pHasF (pU list z) f
 | [], c => (List.filter_eq_self.2 (by simp)).symm
 | z :: r, c => by
   rw [List.foldl_cons, filt_gen list r, List.filter_filter]
   congr 1
   funext f
   rw [List.all_cons, Bool.and_comm]
theorem pTr_eq {list : List Told} (hb : bdL bd_Told list) (hn : unN list < 2000000) {all : List (List Int)} (h : all ≠ []) : pTr list all = (pUn list).filter (pKeep list all) := by
 rcases all with _ | ⟨x, r⟩
 · exact absurd rfl h
 · obtain ⟨-, -, -, u4, u5⟩ := pU_ok hb hn x
   rw [pTr, filt_gen]
   refine fs_ext (u4.filter _) ((pUn_ok list).1.filter _) fun f => ?_
   rw [List.mem_filter, List.mem_filter, pKeep, List.all_cons, Bool.and_eq_true, pHasF_mem]
   constructor
   · rintro ⟨h1, h2⟩; exact ⟨u5 f h1, h1, h2⟩
   · rintro ⟨h1, h2, h3⟩; exact ⟨h2, h3⟩
theorem i_parted_eq {s : List Int} {l : List Method} {list : List Told} (hs : s.length < 4294967296) (hml : bdL bd_Method l) (hb : bdL bd_Told list) (hn : unN list < 2000000) {y : List Int} (hy : pSR s l list = some y) : i_parted s l list = some ((pUn list).filter (pKeep list (pAll s l list)), (pUn list).filter (fun f => !pKeep list (pAll s l list) f), true) := by
 have hU := (pUn_ok list).2.1
 rw [i_parted, i_removals_eq hs hml hb, hy, Option.bind_some, if_neg (by simp), i_UnionOf_eq hb hn, Option.bind_some]
 generalize pAll s l list = A
 have hany : ∀ f : Fact, g_slices_ContainsFunc_int_int_iparted1 A list f = some (!pKeep list A f) := by
   intro f
   unfold g_slices_ContainsFunc_int_int_iparted1 g_slices_IndexFunc_int_int_iparted1
   rw [index_loop (L := g_slices_IndexFunc_int_int_iparted1_L1 list f) (f := fun x => i_parted_1 x list f) (p := fun x => !pHasF (pU list x) f) (fun _ => rfl) (fun _ _ _ => rfl) A 0 (fun x _ => by
     rw [i_parted_1, i_Without_eq x list hb, Option.bind_some, (pU_ok hb hn x).2.1, Option.bind_some, i_HasFact_eq]; rfl), Option.bind_some, ixF_neg]
   congr 1
   rw [pKeep, List.all_eq_not_any_not, Bool.not_not]
 have key : ∀ (r : List Fact) (k : Nat) (c d : List Fact), c.length + r.length < 4000000 → d.length + r.length < 4000000 → i_parted_L1 list (A, (some y).isSome) r k c d = some (c ++ r.filter (pKeep list A), d ++ r.filter (fun f => !pKeep list A f), true) := by
   intro r
   induction r with
   | nil => intro k c d _ _; simp [i_parted_L1]
   | cons f r ih =>
     intro k c d h1 h2
     simp only [List.length_cons] at h1 h2
     rw [i_parted_L1]
     dsimp only
     rw [hany, Option.bind_some, app1 (by omega), app1 (by omega), List.filter_cons, List.filter_cons]
     cases pKeep list A f
     · simp only [Bool.not_false, if_true, Option.bind_some, Bool.false_eq_true, if_false]
       rw [ih _ _ _ (by omega) (by simp; omega), List.append_assoc]; rfl
     · simp only [Bool.not_true, if_true, Option.bind_some, Bool.false_eq_true, if_false]
       rw [ih _ _ _ (by simp; omega) (by omega), List.append_assoc]; rfl
 rw [key _ _ _ _ (by simp; omega) (by simp; omega)]; rfl
theorem s_DoubtedFacts_eq {s : List Int} {l : List Method} {list : List Told} (hs : s.length < 4294967296) (hml : bdL bd_Method l) (hb : bdL bd_Told list) (hn : unN list < 2000000) {y : List Int} (hy : pSR s l list = some y) : s_DoubtedFacts 400 s l list = some ((pUn list).filter (fun f => !pKeep list (pAll s l list) f)) := by
 have hU := (pUn_ok list).2.1
 have hc : pMethods s l = true ∧ list.length ≤ 8 := by
   unfold pSR at hy
   split at hy
   · rename_i h; simpa only [Bool.and_eq_true, decide_eq_true_eq] using h
   · cases hy
 obtain ⟨r, hA⟩ := pAll_head hy
 have hne : pAll s l list ≠ [] := by rw [hA]; simp
 have ht := pTr_eq hb hn hne
 have htb : bdL bd_Fact (pTr list (pAll s l list)) := by
   rw [ht]
   have := pUn_bd hb hn
   exact ⟨Nat.lt_of_le_of_lt (List.length_filter_le ..) this.1, fun f hf => this.2 f (List.mem_filter.1 hf).1⟩
 rw [s_DoubtedFacts, s_TrustedFacts_eq hs hml hb hn, Option.bind_some, s_UnionOf_eq hb hn, Option.bind_some]
 have hd8 : decide ((list.length : Int) ≤ 8) = true := by simp; omega
 have key : ∀ (m i : Nat) (c : List Fact), i ≤ (pUn list).length → (pUn list).length - i < m → c.length ≤ i → s_DoubtedFacts_L1 s l list (pTr list (pAll s l list)) (pUn list) m c (i : Int) = some (c ++ ((pUn list).drop i).filter fun f => !pHasF (pTr list (pAll s l list)) f) := by
   intro m
   induction m with
   | zero => intro i c _ h; omega
   | succ m ih =>
     intro i c hi hm hc'
     unfold s_DoubtedFacts_L1
     rw [s_AreMethods_eq s l hs hml, hc.1, hd8]
     by_cases hlt : i < (pUn list).length
     · have hw : IntKind.i64.wrap ((i : Int) + 1) = ((i + 1 : Nat) : Int) := by rw [wrap_in (by omega) (by omega)]; rfl
       have hd : decide ((i : Int) < ((pUn list).length : Int)) = true := by simpa using hlt
       simp only [hd, cond_true, Option.bind_some, if_true]
       rw [ix_nat, List.getElem?_eq_getElem hlt, Option.bind_some, s_HasFact_eq _ _ htb, Option.bind_some, Option.bind_some, app1 (by omega), hw, List.drop_eq_getElem_cons hlt, List.filter_cons]
       cases pHasF (pTr list (pAll s l list)) (pUn list)[i]
       · simp only [Bool.not_false, if_true, Option.bind_some]
         rw [ih (i + 1) _ (by omega) (by omega) (by simp; omega), List.append_assoc]; rfl
       · simp only [Bool.not_true, Bool.false_eq_true, if_false, Option.bind_some]
         exact ih (i + 1) c (by omega) (by omega) (by omega)
     · have hd : decide ((i : Int) < ((pUn list).length : Int)) = false := by simpa using hlt
       simp only [hd, cond_false, Option.bind_some, Bool.false_eq_true, if_false]
       rw [List.drop_eq_nil_of_le (by omega)]; simp
 have h0 := key ((((pUn list).length : Int) - 0).toNat + 2) 0 [] (by omega) (by omega) (by simp)
 have h0' : s_DoubtedFacts_L1 s l list (pTr list (pAll s l list)) (pUn list) ((((pUn list).length : Int) - 0).toNat + 2) [] 0 = _ := h0
 rw [h0', List.drop_zero, List.nil_append, ht]
 congr 1
 refine List.filter_congr fun f hf => ?_
 rw [Bool.eq_iff_iff, Bool.not_eq_true', Bool.not_eq_true', ← Bool.not_eq_true, ← Bool.not_eq_true, pHasF_mem, List.mem_filter]
 simp [hf]
theorem s_l2List_L1_400 : ∀ (l : List Int) (k : Nat) (c : List UInt8), 0 < k → InR l → c.length + 21 * l.length < 4294967296 → s_l2List_L1 400 l k c = some (c ++ pTail [44] (pNums l))
 | [], k, c, _, _, _ => by simp [s_l2List_L1, pTail, pNums]
 | x :: l, k, c, hk, h, hl => by
   simp only [List.length_cons] at hl
   have hx := itoa_len x (h x (by simp))
   unfold s_l2List_L1
   rw [if_pos (by simpa using hk), cat_sm (by simp; omega), Option.bind_some, s_FormatInt_gen 399 x (h x (by simp)) (by omega) (by omega), Option.bind_some, cat_sm (by simp; omega), Option.bind_some, Option.bind_some]
   dsimp only
   rw [s_l2List_L1_400 l _ _ (by omega) (fun y hy => h y (by simp [hy])) (by simp; omega)]
   simp [pTail, pNums]
theorem s_l2List_400 (l : List Int) (h : InR l) (hl : l.length ≤ 1048576) : s_l2List 400 l = some (Lib.join (pNums l) [44]) := by
 unfold s_l2List
 cases l with
 | nil => rfl
 | cons x l =>
   simp only [List.length_cons] at hl
   have hx := itoa_len x (h x (by simp))
   unfold s_l2List_L1
   rw [if_neg (by simp), s_FormatInt_gen 399 x (h x (by simp)) (by omega) (by omega), Option.bind_some, cat_sm (by simp; omega), Option.bind_some, Option.bind_some, List.nil_append]
   dsimp only
   rw [s_l2List_L1_400 l _ _ (by omega) (fun y hy => h y (by simp [hy])) (by omega), show pNums (x :: l) = Lib.itoa x :: pNums l from rfl, join_tail]
def pTrustLine (s : List Int) (l : List Method) (list : List Told) : List UInt8 := match pSR s l list with
 | none => []
 | some y => if (y.length : Int) == 0 then [99, 111, 110, 115, 105, 115, 116, 101, 110, 116, 32] ++ pFactsT (pUn list) else
     [100, 114, 111, 112, 32] ++ Lib.join (pNums y) [44] ++ [32, 116, 114, 117, 115, 116, 101, 100, 32] ++ pFactsT ((pUn list).filter (pKeep list (pAll s l list))) ++ [32, 100, 111, 117, 98, 116, 101, 100, 32] ++ pFactsT ((pUn list).filter fun f => !pKeep list (pAll s l list) f)
theorem pSR_in {s : List Int} {l : List Method} {list : List Told} {y : List Int} (h : pSR s l list = some y) : y.length ≤ 8 ∧ InR y := by
 unfold pSR at h
 split at h
 · rename_i hc
   simp only [Bool.and_eq_true, decide_eq_true_eq] at hc
   rcases (pSm_min _ _ _ h).1 with h1 | ⟨j, -, -, rfl, -⟩
   · cases h1
   · have h2 := pSet_len (j : Int) list.length 0
     refine ⟨by omega, fun x hx => ?_⟩
     have := pSet_in (j : Int) list.length 0 x hx
     omega
 · cases h
theorem s_TrustLine_eq {s : List Int} {l : List Method} {list : List Told} (hs : s.length < 4294967296) (hml : bdL bd_Method l) (hb : bdL bd_Told list) (hn : unN list ≤ 1048576) : s_TrustLine 400 s l list = some (pTrustLine s l list) := by
 have hU := (pUn_ok list).2.1
 rw [s_TrustLine, s_SmallestRemoval_eq hs hml hb, Option.bind_some, pTrustLine]
 rcases hy : pSR s l list with _ | y
 · rfl
 · obtain ⟨y1, y2⟩ := pSR_in hy
   obtain ⟨r, hA⟩ := pAll_head hy
   have hne : pAll s l list ≠ [] := by rw [hA]; simp
   have j1 := pNums_join y y2
   have f0 := pFactsT_len (pUn list)
   have f1 := pFactsT_len ((pUn list).filter (pKeep list (pAll s l list)))
   have f2 := pFactsT_len ((pUn list).filter fun f => !pKeep list (pAll s l list) f)
   have g1 := List.length_filter_le (pKeep list (pAll s l list)) (pUn list)
   have g2 := List.length_filter_le (fun f => !pKeep list (pAll s l list) f) (pUn list)
   simp only [Option.isSome_some, Bool.not_true, Bool.false_eq_true, if_false, Option.getD_some]
   rw [s_UnionOf_eq hb (by omega), Option.bind_some, s_l36Facts_eq (by omega) _ (by omega), Option.bind_some, cat_sm (by simp; omega), Option.bind_some, s_l2List_400 y y2 (by omega), Option.bind_some, cat_sm (by simp; omega), Option.bind_some, cat_sm (by simp; omega), Option.bind_some, s_TrustedFacts_eq hs hml hb (by omega), Option.bind_some, pTr_eq hb (by omega) hne, s_l36Facts_eq (by omega) _ (by omega), Option.bind_some, cat_sm (by simp; omega), Option.bind_some, cat_sm (by simp; omega), Option.bind_some, s_DoubtedFacts_eq hs hml hb (by omega) hy, Option.bind_some, s_l36Facts_eq (by omega) _ (by omega), Option.bind_some, cat_sm (by simp; omega), Option.bind_some]
   split <;> rfl
theorem i_TrustLine_eq {s : List Int} {l : List Method} {list : List Told} (hs : s.length < 4294967296) (hml : bdL bd_Method l) (hb : bdL bd_Told list) (hn : unN list ≤ 1048576) : i_TrustLine s l list = some (pTrustLine s l list) := by
 have hU := (pUn_ok list).2.1
 rw [i_TrustLine, i_SmallestRemoval_eq hs hml hb, Option.bind_some, pTrustLine]
 rcases hy : pSR s l list with _ | y
 · rfl
 · obtain ⟨y1, y2⟩ := pSR_in hy
   have j1 := pNums_join y y2
   have f0 := pFactsT_len (pUn list)
   have f1 := pFactsT_len ((pUn list).filter (pKeep list (pAll s l list)))
   have f2 := pFactsT_len ((pUn list).filter fun f => !pKeep list (pAll s l list) f)
   have g1 := List.length_filter_le (pKeep list (pAll s l list)) (pUn list)
   have g2 := List.length_filter_le (fun f => !pKeep list (pAll s l list) f) (pUn list)
   have hp := i_parted_eq hs hml hb (by omega) hy
   have t1 : i_TrustedFacts s l list = some ((pUn list).filter (pKeep list (pAll s l list))) := by rw [i_TrustedFacts, hp]; rfl
   have t2 : i_DoubtedFacts s l list = some ((pUn list).filter fun f => !pKeep list (pAll s l list) f) := by rw [i_DoubtedFacts, hp]; rfl
   simp only [Option.isSome_some, Bool.not_true, Bool.false_eq_true, if_false, Option.getD_some]
   rw [i_UnionOf_eq hb (by omega), Option.bind_some, i_factsText_eq _ (by omega), Option.bind_some, cat_sm (by simp; omega), Option.bind_some, i_joined_gen y y2 (by omega), Option.bind_some, cat_sm (by simp; omega), Option.bind_some, cat_sm (by simp; omega), Option.bind_some, t1, Option.bind_some, i_factsText_eq _ (by omega), Option.bind_some, cat_sm (by simp; omega), Option.bind_some, cat_sm (by simp; omega), Option.bind_some, t2, Option.bind_some, i_factsText_eq _ (by omega), Option.bind_some, cat_sm (by simp; omega), Option.bind_some]
   split <;> rfl
theorem unN_tot : ∀ l : List Told, unN l ≤ totL tot_Told l
 | [] => by simp [unN]
 | t :: l => by
   have := unN_tot l
   simp only [unN, totL, List.map_cons, List.sum_cons, List.length_cons, tot_Told] at *; omega
theorem bd_ToldS (a : List Told) (h : totL tot_Told a < 4294967296) : bdL bd_Told a := bdL_of (f := tot_Told) (fun x hx => by
 unfold tot_Told at hx
 exact ⟨bdL_flat _ (by unfold tot_Access at hx; omega), bd_FactS x.Facts (by omega)⟩) _ h
theorem law_fnExactTrustLine {s : List Int} {l : List Method} {list : List Told} (ws : wfSl wfInt s) (wl : wfSl wf74 l) (wt : wfSl wf79 list) : ∃ fuel, l_FnExactTrustLine fuel s l list = some true := by
 refine ⟨400, ?_⟩
 unfold l_FnExactTrustLine
 by_cases h : (1048576 : Int) < (s.length : Int)
 · rw [if_pos (by simpa using h)]
 rw [if_neg (by simpa using h)]
 obtain ⟨n1, e1, h1⟩ := sz_MethodS l wl 1048576 (by omega) (by omega)
 rw [e1, Option.bind_some]
 try dsimp only at h1
 rcases h1 with ⟨rfl, p1⟩ | p1
 rotate_left
 · rw [if_pos (by simpa using p1)]
 rw [if_neg (by simp only [decide_eq_true_eq]; omega)]
 obtain ⟨n2, e2, h2⟩ := sz_ToldS list wt _ p1 (by omega)
 rw [e2, Option.bind_some]
 try dsimp only at h2
 rcases h2 with ⟨rfl, p2⟩ | p2
 rotate_left
 · rw [if_pos (by simpa using p2)]
 rw [if_neg (by simp only [decide_eq_true_eq]; omega)]
 have b0 : bdL bdAny s := bdL_flat s (by omega)
 have b1 := bd_MethodS l (by omega)
 have b2 := bd_ToldS list (by omega)
 have hn := unN_tot list
 simp [to_IntS s b0, to_MethodS l b1, to_ToldS list b2, s_TrustLine_eq (s := s) (l := l) (list := list) (by omega) b1 b2 (by omega), i_TrustLine_eq (s := s) (l := l) (list := list) (by omega) b1 b2 (by omega), eq_IntS, eq_MethodS, eq_ToldS]
end Go.Proofs.YtlfebfhfgfjceaaGreatDoor
/-
 The row FnExactTrustLine.
-/
set_option maxRecDepth 100000
namespace Go.Proofs.YtlfebfhfgfjceaaGreatDoor.fnExactTrustLine
open Go Go.Fw Go.ChangeShapes Go.WideShapes Go.ChangeAt Go.RowKit
theorem own : ownKnob Tryz.prog.godebug = none := by kernel_rfl
theorem door_met (os : Os) (args : Array Value) : laidMetH Tryz.prog Rows.fnExactTrustLineRow.laid ((World.doorLaid Tryz.prog 400 os).forCall (fun _ _ => 0) ⟨#[], args, []⟩).memory :=
 laidMetH_of_parts3 (fuel := 8) (laidMet_of_run' 8 (by kernel_rfl) (by kernel_rfl)) (by kernel_rfl) (by kernel_rfl)
theorem gTab : Tryz.prog.globalNamed "internal/strconv.uint64pow10" = some 1 := by kernel_rfl
theorem gTabT : (Tryz.prog.globals[1]?).map (·.type) = some 270 := by kernel_rfl
theorem laidOut : laidOutB Tryz.prog = true := by kernel_rfl
set_option maxRecDepth 100000 in
theorem lifted (os : Os) (started : os.Started) (H : Type) (enc : TypeId × Value → H) :
   ReturnsInHanded {} Tryz.checked os 3 .any (fun w args => (Rows.fnExactTrustLineSpec.pre enc Tryz.prog Tryz.f3 [] false w args ∧ laidMetH Tryz.prog Rows.fnExactTrustLineRow.laid w) ∧ sizedMet enc Tryz.prog Tryz.f3 (OpenSpec.ofChange Rows.fnExactTrustLineSpec) false w args) (Rows.fnExactTrustLineSpec.post enc Tryz.prog Tryz.f3 false true false false) := by
 refine returnsInHanded_of_change_and (C := Tryz.checked) (X := fun w _ => laidMetH Tryz.prog Rows.fnExactTrustLineRow.laid w) (fun _ _ _ hh h => h.of_heap hh) own started (by kernel_rfl) Tryz.func3
   (ChangeSpec.witness_shaped (enc := enc) (C := Tryz.checked) (os := os) (X := fun w _ => laidMetH Tryz.prog Rows.fnExactTrustLineRow.laid w) false (World.doorLaid Tryz.prog 400 os) #[.slice none 0 0, .slice none 0 0, .slice none 0 0] 16 rfl (World.shaped_of_RefB (by kernel_rfl) (by kernel_rfl)) (by kernel_rfl) (by kernel_rfl) (by kernel_rfl) (door_met os _)) ?_
 intro W base args ds gs before hval hW _ hwt hL _
 rw [MakeChecks.laidMetH_plain _ _ _ (by kernel_rfl)] at hL
 have htab : Lib.TabIs Tryz.prog W "internal/strconv.uint64pow10" .u64 Lib.pow10Tab := Lib.tabIs_of_head gTab gTabT (show Tryz.prog.underlying 270 = some (.array 20 259) by kernel_rfl) (show Tryz.prog.underlying 259 = some (.int .u64) by kernel_rfl) (by kernel_rfl) (by kernel_rfl) (laidMet.tail (laidMet.tail hL))
 have hW' := hW
 obtain ⟨p, q, hA0, hV, rfl, hfz, hnd⟩ := hW
 obtain ⟨rfl, rfl⟩ := trodVars_none hV
 have hA : DataW.TrodAll enc Tryz.prog W 0 (fun _ => true) true [22, 23, 24] args.toList ds p := hA0
 have hw : ∀ n ∈ DataW.weightsEach Tryz.prog [22, 23, 24] ds, n ≤ reachBytes := fun n hn => by
   have := List.all_eq_true.1 hwt n (by rw [List.append_nil]; exact hn)
   simpa using this
 obtain ⟨v0, vs0, d0, ds0, p0, ρ0, H0, av0, a0, e0, rfl, hA0, hw0, r0, f0, u0, i0, rv0, q0, w0⟩ := opn_arg hA hw (Opn.slice (s := 1) (by kernel_rfl) (by kernel_rfl) (by decide) (Nat.lt_of_lt_of_le (by decide) (Nat.le_of_eq (show 8 = _ from by kernel_rfl))) (Opn.int (by kernel_rfl))) (fun H v a h => by obtain ⟨_, _, rfl⟩ := RdS.len h; kernel_rfl) (r := .any) (base := base) (fun v h => hval 0 22 v rfl (arg_at h)) (Rel.nil _ W htab) Frn.nil
 obtain ⟨v1, vs1, d1, ds1, p1, ρ1, H1, av1, a1, e1, rfl, hA1, hw1, r1, f1, u1, i1, rv1, q1, w1⟩ := opn_arg hA0 hw0 (Opn.slice (s := 5) (by kernel_rfl) (by kernel_rfl) (by decide) (Nat.lt_of_lt_of_le (by decide) (Nat.le_of_eq (show 56 = _ from by kernel_rfl))) op74) (fun H v a h => by obtain ⟨_, _, rfl⟩ := RdS.len h; kernel_rfl) (r := .any) (base := base) (fun v h => hval 1 23 v rfl (arg_at (by rw [e0]; exact h))) r0 f0
 obtain ⟨v2, vs2, d2, ds2, p2, ρ2, H2, av2, a2, e2, rfl, hA2, hw2, r2, f2, u2, i2, rv2, q2, w2⟩ := opn_arg hA1 hw1 (Opn.slice (s := 3) (by kernel_rfl) (by kernel_rfl) (by decide) (Nat.lt_of_lt_of_le (by decide) (Nat.le_of_eq (show 56 = _ from by kernel_rfl))) op79) (fun H v a h => by obtain ⟨_, _, rfl⟩ := RdS.len h; kernel_rfl) (r := .any) (base := base) (fun v h => hval 2 24 v rfl (arg_at (by rw [e0, e1]; exact h))) r1 f1
 obtain ⟨en, rfl⟩ := opn_none hA2
 subst en
 obtain ⟨sa0, sm0, rfl⟩ := RdS.len q0
 obtain ⟨sa1, sm1, rfl⟩ := RdS.len q1
 obtain ⟨sa2, sm2, rfl⟩ := RdS.len q2
 have hargs : RelVs ρ2 [(.slice sa0 a0.length sm0), (.slice sa1 a1.length sm1), (.slice sa2 a2.length sm2)] args.toList := by
   rw [e0, e1, e2]
   exact (.cons _ _ _ _ (rv0.up (u1.trans u2)) (.cons _ _ _ _ (rv1.up u2) (.cons _ _ _ _ rv2 .nil)))
 obtain ⟨fuel, hlaw⟩ := law_fnExactTrustLine w0 w1 w2
 refine ((l_FnExactTrustLine_ok fuel a0 ⟨sa0, _, sm0⟩ a1 ⟨sa1, _, sm1⟩ a2 ⟨sa2, _, sm2⟩ true hlaw) H2 [] (Ctx.dup (Ctx.dup (Ctx.dup (Ctx.start _) q2 rfl) (Mono.up q1 i2) rfl) (Mono.up q0 (i1.trans i2)) rfl) ρ2 W args r2 hargs).mono ?_
 rintro e w' ⟨v, r, ρ', H', rfl, h1, h2, h3, x, h5, -⟩
 have h6 : r = .bool true := h5
 subst h6
 refine ⟨_, rfl, ?_⟩
 rw [h1.bool_inv]
 refine law_post hW' rfl laidOut (by kernel_rfl) rfl (by kernel_rfl) (fun d => ?_) (h3.below f2)
 by_cases hd : d = [d0, d1, d2]
 · subst hd; exact .inl ⟨rfl, rfl, rfl⟩
 · exact .inr (by simpa using hd)
theorem named : Tryz.pinned.checked.prog.funcNamed Rows.fnExactTrustLineRow.func = some 3 := by kernel_rfl
set_option maxHeartbeats 10000000 in
theorem closed : joinedFacts Tryz.pinned.checked.prog 3 Tryz.f3 Rows.fnExactTrustLineSpec Rows.fnExactTrustLineRow = true := by
 simp only [joinedFacts, Bool.and_eq_true]
 repeat' refine And.intro ?_ ?_
 all_goals (as_aux_lemma => kernel_rfl)
theorem over : Rows.fnExactTrustLineRow.holds Tryz.pinned (OpenSpec.ofChange Rows.fnExactTrustLineSpec) :=
 OpenClaim.holds_of_wide 3 Tryz.f3 rfl rfl rfl rfl rfl rfl rfl ⟨rfl, rfl, rfl, rfl, rfl⟩ rfl rfl rfl rfl rfl named Tryz.func3 closed
   (of_decide_eq_true (by kernel_rfl)) (by unfold Func.isWrapper; first | (rw [if_pos (by decide +kernel)]; kernel_rfl) | (rw [if_neg (by decide +kernel)]; exact ⟨rfl, rfl⟩))
   (fun os started H enc _ => lifted os started H enc)
theorem proved : Rows.FnExactTrustLineCardSaid :=
 Claim7.holds_tied_plain_at .later [] [.data, .data, .data] true (true, "d54cbaa12c9e4b88c5520ee59161deea0e52eebd833577f079234e5e0ac98dc9") false
   over (fun _ h => by cases h) (by kernel_rfl) (fun _ h => by cases h) fnExactTrustLine_row_tie rfl ⟨rfl, rfl⟩ (by kernel_rfl) rfl
   (fun f fn hf hfn => by
     obtain rfl : f = 3 := Option.some.inj ((show Tryz.prog.funcNamed "loop.example/g01989/laws.FnExactTrustLine" = some 3 by kernel_rfl).symm.trans hf) |>.symm
     obtain rfl : fn = Tryz.f3 := (Option.some.inj (Tryz.func3.symm.trans hfn)).symm
     exact ⟨by kernel_rfl, fun j t ht => by
       have hm : t ∈ [22, 23, 24] := by simpa using (Array.mem_of_getElem? ht : t ∈ (#[22, 23, 24] : Array TypeId))
       have hall : ([22, 23, 24].all fun u => !Tryz.prog.wantsStandIn u) = true := by kernel_rfl
       exact (show Tryz.prog.wantsStandIn t = false by simpa using List.all_eq_true.1 hall t hm)⟩)
   (by kernel_rfl)
end Go.Proofs.YtlfebfhfgfjceaaGreatDoor.fnExactTrustLine
