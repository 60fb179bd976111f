/-
  FnExactCertificateFor: the plain law and the row: for all arguments.
-/
import Derived.Test.YtlfebfhfgfjceacGreatCertificateForG3
import Derived.Test.YtlfebfhfgfjceacGreatFcCertificateFor
import Derived.Test.YtlfebfhfgfjceacGreatRows
import Derived.WalkKit
import Derived.KernelRfl
/-
 Plain laws of the helpers. Written by a program.
-/
set_option maxRecDepth 100000
set_option maxHeartbeats 4000000
set_option linter.unusedVariables false
namespace Go.Proofs.YtlfebfhfgfjceacGreat
open Go Go.Fw
def bd_Fact (a : Fact) : Prop := (bdL bdAny) a.Values
def bd_Access (a : Access) : Prop := (bdL bdAny) a.Values
theorem sz_IntS : Sz l_szIntS (fun a : List Int => a.length) (wfSl wfInt) := sz_flat (fun _ _ => rfl)
def tot_Method (a : Method) : Nat := a.Inputs.length
theorem sz_Method : Sz l_szMethod tot_Method wf52 := by
 intro a ⟨w_Rel, w_Inputs, w_Limit, w_Cost, w_Quota⟩ left hl hm
 unfold l_szMethod
 have ht : tot_Method a = a.Inputs.length := rfl
 obtain ⟨n1, e1, h1⟩ := sz_IntS a.Inputs w_Inputs _ hl hm
 rw [e1, Option.bind_some]
 try dsimp only at h1
 rcases h1 with ⟨rfl, p1⟩ | p1
 rotate_left
 · rw [if_pos (by simpa using p1)]; exact ⟨-1, rfl, .inr (by omega)⟩
 rw [if_neg (by simp only [decide_eq_true_eq]; omega)]
 exact ⟨_, rfl, .inl ⟨by rw [ht] <;> omega, p1⟩⟩
theorem sz_MethodS : Sz l_szMethodS (totL tot_Method) (wfSl wf52) := sz_slice sz_Method (fun _ _ => rfl) (fun _ _ _ _ => rfl) (fun _ _ => rfl)
def tot_Atom (a : Atom) : Nat := a.Terms.length
theorem sz_Atom : Sz l_szAtom tot_Atom wf76 := by
 intro a ⟨w_Rel, w_Terms⟩ left hl hm
 unfold l_szAtom
 have ht : tot_Atom a = a.Terms.length := rfl
 obtain ⟨n1, e1, h1⟩ := sz_IntS a.Terms w_Terms _ hl hm
 rw [e1, Option.bind_some]
 try dsimp only at h1
 rcases h1 with ⟨rfl, p1⟩ | p1
 rotate_left
 · rw [if_pos (by simpa using p1)]; exact ⟨-1, rfl, .inr (by omega)⟩
 rw [if_neg (by simp only [decide_eq_true_eq]; omega)]
 exact ⟨_, rfl, .inl ⟨by rw [ht] <;> omega, p1⟩⟩
theorem sz_AtomS : Sz l_szAtomS (totL tot_Atom) (wfSl wf76) := sz_slice sz_Atom (fun _ _ => rfl) (fun _ _ _ _ => rfl) (fun _ _ => rfl)
def tot_Query (a : Query) : Nat := a.Head.length + (totL tot_Atom) a.Atoms
theorem sz_Query : Sz l_szQuery tot_Query wf26 := by
 intro a ⟨w_Head, w_Atoms⟩ left hl hm
 unfold l_szQuery
 have ht : tot_Query a = a.Head.length + (totL tot_Atom) a.Atoms := rfl
 obtain ⟨n1, e1, h1⟩ := sz_IntS a.Head w_Head _ hl hm
 rw [e1, Option.bind_some]
 try dsimp only at h1
 rcases h1 with ⟨rfl, p1⟩ | p1
 rotate_left
 · rw [if_pos (by simpa using p1)]; exact ⟨-1, rfl, .inr (by omega)⟩
 rw [if_neg (by simp only [decide_eq_true_eq]; omega)]
 obtain ⟨n2, e2, h2⟩ := sz_AtomS a.Atoms w_Atoms _ p1 (by omega)
 rw [e2, Option.bind_some]
 try dsimp only at h2
 rcases h2 with ⟨rfl, p2⟩ | p2
 rotate_left
 · rw [if_pos (by simpa using p2)]; exact ⟨-1, rfl, .inr (by omega)⟩
 rw [if_neg (by simp only [decide_eq_true_eq]; omega)]
 exact ⟨_, rfl, .inl ⟨by rw [ht] <;> omega, p2⟩⟩
theorem to_IntS : ∀ (a : List Int), (bdL bdAny) a → l_toIntS a = some a :=
 to_slice (fun _ => rfl) (fun _ _ => rfl) (fun x r k c hx hk => by
   rw [l_toIntS_L1]
   simp [chk, hk])
def bd_Method (a : Method) : Prop := (bdL bdAny) a.Inputs
theorem to_Method (a : Method) (h : bd_Method a) : l_toMethod a = some a := by
 have b_a_Inputs : (bdL bdAny) a.Inputs := h
 simp (disch := assumption) only [l_toMethod, to_IntS, Option.bind_some]
theorem to_MethodS : ∀ (a : List Method), (bdL bd_Method) a → l_toMethodS a = some a :=
 to_slice (fun _ => rfl) (fun _ _ => rfl) (fun x r k c hx hk => by
   rw [l_toMethodS_L1]
   rw [to_Method _ hx]
   simp [chk, hk])
def bd_Atom (a : Atom) : Prop := (bdL bdAny) a.Terms
theorem to_Atom (a : Atom) (h : bd_Atom a) : l_toAtom a = some a := by
 have b_a_Terms : (bdL bdAny) a.Terms := h
 simp (disch := assumption) only [l_toAtom, to_IntS, Option.bind_some]
theorem to_AtomS : ∀ (a : List Atom), (bdL bd_Atom) a → l_toAtomS a = some a :=
 to_slice (fun _ => rfl) (fun _ _ => rfl) (fun x r k c hx hk => by
   rw [l_toAtomS_L1]
   rw [to_Atom _ hx]
   simp [chk, hk])
def bd_Query (a : Query) : Prop := (bdL bdAny) a.Head ∧ (bdL bd_Atom) a.Atoms
theorem to_Query (a : Query) (h : bd_Query a) : l_toQuery a = some a := by
 have b_a_Head : (bdL bdAny) a.Head := h.1
 have b_a_Atoms : (bdL bd_Atom) a.Atoms := h.2
 simp (disch := assumption) only [l_toQuery, to_AtomS, to_IntS, Option.bind_some]
theorem eq_IntS : ∀ (a : List Int), l_eqIntS a a = some true :=
 eq_slice (fun _ _ => rfl) (fun _ _ => rfl) (fun b x r k h => by
   rw [l_eqIntS_L1, ix_nat, h]
   simp)
theorem eq_Fact (a : Fact) : l_eqFact a a = some true := by simp [l_eqFact, eq_IntS]
theorem eq_FactS : ∀ (a : List Fact), l_eqFactS a a = some true :=
 eq_slice (fun _ _ => rfl) (fun _ _ => rfl) (fun b x r k h => by
   rw [l_eqFactS_L1, ix_nat, h]
   simp [eq_Fact])
theorem eq_Certificate (a : Certificate) : l_eqCertificate a a = some true := by simp [l_eqCertificate, eq_FactS, eq_IntS]
theorem eq_Method (a : Method) : l_eqMethod a a = some true := by simp [l_eqMethod, eq_IntS]
theorem eq_MethodS : ∀ (a : List Method), l_eqMethodS a a = some true :=
 eq_slice (fun _ _ => rfl) (fun _ _ => rfl) (fun b x r k h => by
   rw [l_eqMethodS_L1, ix_nat, h]
   simp [eq_Method])
theorem eq_Atom (a : Atom) : l_eqAtom a a = some true := by simp [l_eqAtom, eq_IntS]
theorem eq_AtomS : ∀ (a : List Atom), l_eqAtomS a a = some true :=
 eq_slice (fun _ _ => rfl) (fun _ _ => rfl) (fun b x r k h => by
   rw [l_eqAtomS_L1, ix_nat, h]
   simp [eq_Atom])
theorem eq_Query (a : Query) : l_eqQuery a a = some true := by simp [l_eqQuery, eq_AtomS, eq_IntS]
theorem mark_IntS : ∀ (a : List Int) (k : Int), (bdL bdAny) a → 0 ≤ k → k + (msL (fun _ => 1) a : Int) < 4611686018427387904 → l_markIntS a k = some (k + msL (fun _ => 1) a, mkL (fun _ k => k) (fun _ => 1) k a) :=
 mark_slice (fun _ _ => rfl) (fun m c k j h => by rw [l_markIntS_L1, if_neg (by simp; omega)]) (fun m c k j x e hl hj hp hk hm => by
   rw [l_markIntS_L1, if_pos (by simp; omega)]
   simp (disch := first | omega | assumption | (simp only [List.length_set]; omega)) only [chk_true (show (decide (0 ≤ (j : Int)) && decide ((j : Int) < (c.length : Int))) = true by simp; omega), wrap_in, Int.toNat_natCast, Option.bind_some, Int.natCast_add, Int.cast_ofNat_Int])
def meN_Method (a : Method) : Nat := 1 + msL (fun _ => 1) a.Inputs + 1 + 1 + 1
def meK_Method (a : Method) (k : Int) : Method := { Rel := k, Inputs := mkL (fun _ k => k) (fun _ => 1) (k + 1) a.Inputs, Limit := k + 1 + msL (fun _ => 1) a.Inputs, Cost := k + 1 + msL (fun _ => 1) a.Inputs + 1, Quota := k + 1 + msL (fun _ => 1) a.Inputs + 1 + 1 }
theorem mark_MethodS : ∀ (a : List Method) (k : Int), (bdL bd_Method) a → 0 ≤ k → k + (msL meN_Method a : Int) < 4611686018427387904 → l_markMethodS a k = some (k + msL meN_Method a, mkL meK_Method meN_Method k a) :=
 mark_slice (fun _ _ => rfl) (fun m c k j h => by rw [l_markMethodS_L1, if_neg (by simp; omega)]) (fun m c k j x e hl hj hp hk hm => by
   have e' : ix c (j : Int) = some x := by rw [ix_nat, e]
   have b_x_Inputs : (bdL bdAny) x.Inputs := hp
   simp only [meN_Method, Int.natCast_add, Int.cast_ofNat_Int] at hm ⊢
   rw [l_markMethodS_L1, if_pos (by simp; omega)]
   simp (disch := first | omega | assumption | (simp only [List.length_set]; omega)) only [e', mark_IntS, meK_Method, ix_at, List.set_set, wrap_in, Int.toNat_natCast, Option.bind_some, Int.add_assoc])
def meN_Atom (a : Atom) : Nat := 1 + msL (fun _ => 1) a.Terms
def meK_Atom (a : Atom) (k : Int) : Atom := { Rel := k, Terms := mkL (fun _ k => k) (fun _ => 1) (k + 1) a.Terms }
theorem mark_AtomS : ∀ (a : List Atom) (k : Int), (bdL bd_Atom) a → 0 ≤ k → k + (msL meN_Atom a : Int) < 4611686018427387904 → l_markAtomS a k = some (k + msL meN_Atom a, mkL meK_Atom meN_Atom k a) :=
 mark_slice (fun _ _ => rfl) (fun m c k j h => by rw [l_markAtomS_L1, if_neg (by simp; omega)]) (fun m c k j x e hl hj hp hk hm => by
   have e' : ix c (j : Int) = some x := by rw [ix_nat, e]
   have b_x_Terms : (bdL bdAny) x.Terms := hp
   simp only [meN_Atom, Int.natCast_add, Int.cast_ofNat_Int] at hm ⊢
   rw [l_markAtomS_L1, if_pos (by simp; omega)]
   simp (disch := first | omega | assumption | (simp only [List.length_set]; omega)) only [e', mark_IntS, meK_Atom, ix_at, List.set_set, wrap_in, Int.toNat_natCast, Option.bind_some, Int.add_assoc])
def mtN_Query (a : Query) : Nat := msL (fun _ => 1) a.Head + msL meN_Atom a.Atoms
def mtK_Query (a : Query) (k : Int) : Query := { Head := mkL (fun _ k => k) (fun _ => 1) (k) a.Head, Atoms := mkL meK_Atom meN_Atom (k + msL (fun _ => 1) a.Head) a.Atoms }
theorem mark_Query (a : Query) (k : Int) (h : bd_Query a) (hk : 0 ≤ k) (hm : k + (mtN_Query a : Int) < 4611686018427387904) : l_markQuery a k = some (k + mtN_Query a, mtK_Query a k) := by
 have b_a_Head : (bdL bdAny) a.Head := h.1
 have b_a_Atoms : (bdL bd_Atom) a.Atoms := h.2
 simp only [mtN_Query, Int.natCast_add] at hm ⊢
 simp (disch := first | omega | assumption | (simp only [mtN_Query, Int.natCast_add, Int.cast_ofNat_Int]; omega)) only [l_markQuery, mtK_Query, mark_AtomS, mark_IntS, Option.bind_some, Int.add_assoc]
def meN_Fact (a : Fact) : Nat := 1 + msL (fun _ => 1) a.Values
def meK_Fact (a : Fact) (k : Int) : Fact := { Rel := k, Values := mkL (fun _ k => k) (fun _ => 1) (k + 1) a.Values }
theorem mark_FactS : ∀ (a : List Fact) (k : Int), (bdL bd_Fact) a → 0 ≤ k → k + (msL meN_Fact a : Int) < 4611686018427387904 → l_markFactS a k = some (k + msL meN_Fact a, mkL meK_Fact meN_Fact k a) :=
 mark_slice (fun _ _ => rfl) (fun m c k j h => by rw [l_markFactS_L1, if_neg (by simp; omega)]) (fun m c k j x e hl hj hp hk hm => by
   have e' : ix c (j : Int) = some x := by rw [ix_nat, e]
   have b_x_Values : (bdL bdAny) x.Values := hp
   simp only [meN_Fact, Int.natCast_add, Int.cast_ofNat_Int] at hm ⊢
   rw [l_markFactS_L1, if_pos (by simp; omega)]
   simp (disch := first | omega | assumption | (simp only [List.length_set]; omega)) only [e', mark_IntS, meK_Fact, ix_at, List.set_set, wrap_in, Int.toNat_natCast, Option.bind_some, Int.add_assoc])
def mtN_Certificate (a : Certificate) : Nat := msL meN_Fact a.All + msL meN_Fact a.Some + msL (fun _ => 1) a.Tuple
def mtK_Certificate (a : Certificate) (k : Int) : Certificate := { All := mkL meK_Fact meN_Fact (k) a.All, Some := mkL meK_Fact meN_Fact (k + msL meN_Fact a.All) a.Some, Tuple := mkL (fun _ k => k) (fun _ => 1) (k + msL meN_Fact a.All + msL meN_Fact a.Some) a.Tuple }
def bd_Certificate (a : Certificate) : Prop := (bdL bd_Fact) a.All ∧ (bdL bd_Fact) a.Some ∧ (bdL bdAny) a.Tuple
theorem mark_Certificate (a : Certificate) (k : Int) (h : bd_Certificate a) (hk : 0 ≤ k) (hm : k + (mtN_Certificate a : Int) < 4611686018427387904) : l_markCertificate a k = some (k + mtN_Certificate a, mtK_Certificate a k) := by
 have b_a_All : (bdL bd_Fact) a.All := h.1
 have b_a_Some : (bdL bd_Fact) a.Some := h.2.1
 have b_a_Tuple : (bdL bdAny) a.Tuple := h.2.2
 simp only [mtN_Certificate, Int.natCast_add] at hm ⊢
 simp (disch := first | omega | assumption | (simp only [mtN_Certificate, Int.natCast_add, Int.cast_ofNat_Int]; omega)) only [l_markCertificate, mtK_Certificate, mark_FactS, mark_IntS, Option.bind_some, Int.add_assoc]
theorem held_IntS : ∀ (a : List Int) (k : Int), (bdL bdAny) a → 0 ≤ k → k + (msL (fun _ => 1) a : Int) < 4611686018427387904 → l_heldIntS (mkL (fun _ k => k) (fun _ => 1) k a) k = some (k + msL (fun _ => 1) a) :=
 held_slice (fun _ _ => rfl) (fun _ _ => rfl) (fun x r n k hp hk hm => by
   simp (disch := first | omega | assumption) only [l_heldIntS_L1, wrap_in, bne_self_eq_false, Bool.false_eq_true, if_false, Int.cast_ofNat_Int])
theorem held_FactS : ∀ (a : List Fact) (k : Int), (bdL bd_Fact) a → 0 ≤ k → k + (msL meN_Fact a : Int) < 4611686018427387904 → l_heldFactS (mkL meK_Fact meN_Fact k a) k = some (k + msL meN_Fact a) :=
 held_slice (fun _ _ => rfl) (fun _ _ => rfl) (fun x r n k hp hk hm => by
   have b_x_Values : (bdL bdAny) x.Values := hp
   simp only [meN_Fact, Int.natCast_add, Int.cast_ofNat_Int] at hm ⊢
   simp (disch := first | omega | assumption) only [l_heldFactS_L1, meK_Fact, held_IntS, wrap_in, bne_self_eq_false, Bool.false_eq_true, if_false, neg_if, Option.bind_some, Int.add_assoc])
theorem held_Certificate (a : Certificate) (k : Int) (h : bd_Certificate a) (hk : 0 ≤ k) (hm : k + (mtN_Certificate a : Int) < 4611686018427387904) : l_heldCertificate (mtK_Certificate a k) k = some (k + mtN_Certificate a) := by
 have b_a_All : (bdL bd_Fact) a.All := h.1
 have b_a_Some : (bdL bd_Fact) a.Some := h.2.1
 have b_a_Tuple : (bdL bdAny) a.Tuple := h.2.2
 simp only [mtN_Certificate, Int.natCast_add] at hm ⊢
 simp only [l_heldCertificate, mtK_Certificate]
 rw [held_FactS a.All (k) b_a_All (by omega) (by omega), Option.bind_some, neg_if (by omega)]
 rw [held_FactS a.Some (k + msL meN_Fact a.All) b_a_Some (by omega) (by omega), Option.bind_some, neg_if (by omega)]
 rw [held_IntS a.Tuple (k + msL meN_Fact a.All + msL meN_Fact a.Some) b_a_Tuple (by omega) (by omega), Option.bind_some, neg_if (by omega)]
 try simp only [Int.add_assoc]
end Go.Proofs.YtlfebfhfgfjceacGreat
/-
 Plain laws.
-/
set_option maxRecDepth 100000
set_option linter.unusedVariables false
namespace Go.Proofs.YtlfebfhfgfjceacGreat
open Go Go.Fw
theorem s_l2Ints_eq (a b : List Int) : s_l2Ints a b = some (eqF (fun x y => x == y) a b) :=
 eqf_fun (L := s_l2Ints_L1) (f := fun x y => some (x == y)) (fun _ _ => rfl) (fun _ _ => rfl) (fun b x r k y h => by rw [s_l2Ints_L1, ix_nat, h]; rfl) a b (fun _ _ _ _ => rfl)
theorem g_slices_Equal_int_int_eq (a b : List Int) : g_slices_Equal_int_int a b = some (eqF (fun x y => x == y) a b) :=
 eqf_fun (L := g_slices_Equal_int_int_L1) (f := fun x y => some (x == y)) (fun _ _ => rfl) (fun _ _ => rfl) (fun b x r k y h => by rw [g_slices_Equal_int_int_L1, ix_nat, h]; rfl) a b (fun _ _ _ _ => rfl)
def pIntsEq : List Int → List Int → Bool := eqF (fun x y => x == y)
theorem g_cmp_Compare_int_eq (x y : Int) : g_cmp_Compare_int x y = some (cmpI x y) := by
 simp only [g_cmp_Compare_int, g_cmp_isNaN_int, Option.bind_some, cmpI, bne_self_eq_false, Bool.false_eq_true, if_false, decide_eq_true_eq]
 split
 · rfl
 · split <;> rfl
theorem g_slices_Compare_loop (s1 b : List Int) : ∀ (l : List Int) (k : Nat), s1.drop k = l → k ≤ s1.length → g_slices_Compare_int_int_L1 s1 b l k = some (cmpL l (b.drop k))
 | [], k, hd, hk => by
   have h1 : s1.length ≤ k := List.drop_eq_nil_iff.1 hd
   rw [g_slices_Compare_int_int_L1]
   cases hb : b.drop k with
   | nil =>
     have h2 : b.length ≤ k := List.drop_eq_nil_iff.1 hb
     rw [if_neg (by simp; omega)]; rfl
   | cons y t =>
     have h2 : k < b.length := (drop_cons hb).1
     rw [if_pos (by simp; omega)]; rfl
 | x :: r, k, hd, hk => by
   have h1 : k < s1.length := (drop_cons hd).1
   rw [g_slices_Compare_int_int_L1]
   cases hb : b.drop k with
   | nil =>
     have h2 : b.length ≤ k := List.drop_eq_nil_iff.1 hb
     rw [if_pos (by simp; omega)]; rfl
   | cons y t =>
     have h2 : k < b.length := (drop_cons hb).1
     obtain ⟨e1, e2⟩ := get_drop hb
     rw [if_neg (by simp; omega), ix_nat, e1, Option.bind_some, g_cmp_Compare_int_eq, Option.bind_some, cmpL]
     split
     · rfl
     · rw [g_slices_Compare_loop s1 b r (k + 1) (get_drop hd).2 h1, e2]
theorem g_slices_Compare_eq (a b : List Int) : g_slices_Compare_int_int a b = some (cmpL a b) := by
 have := g_slices_Compare_loop a b a 0 rfl (by omega)
 simpa [g_slices_Compare_int_int] using this
theorem g_cmp_Or2_eq (x y : Int) : g_cmp_Or_int [x, y] = some (if x != 0 then x else y) := by
 simp only [g_cmp_Or_int, g_cmp_Or_int_L1]
 split
 · rfl
 · split
   · rfl
   · rename_i h; simp at h; rw [h]
def pCmpFact (a b : Fact) : Int := if cmpI a.Rel b.Rel != 0 then cmpI a.Rel b.Rel else cmpL a.Values b.Values
theorem i_CompareFacts_eq (a b : Fact) : i_CompareFacts a b = some (pCmpFact a b) := by
 simp only [i_CompareFacts, g_cmp_Compare_int_eq, g_slices_Compare_eq, Option.bind_some, g_cmp_Or2_eq, pCmpFact]
theorem s_CompareFacts_loop (a b : Fact) (ha : a.Values.length < 4294967296) : ∀ (m k : Nat), k ≤ a.Values.length → k ≤ b.Values.length → a.Values.length < k + m → s_CompareFacts_L1 a b m k = some (cmpL (a.Values.drop k) (b.Values.drop k))
 | 0, k, h1, _, h2 => by omega
 | m + 1, k, h1, h1', h2 => by
   rw [s_CompareFacts_L1]
   by_cases h : k < a.Values.length ∧ k < b.Values.length
   · rw [if_pos (by simp [h.1, h.2])]
     simp only [ix_nat, List.getElem?_eq_getElem h.1, List.getElem?_eq_getElem h.2, Option.bind_some]
     rw [List.drop_eq_getElem_cons h.1, List.drop_eq_getElem_cons h.2, cmpL, cmpI]
     by_cases e1 : a.Values[k] < b.Values[k]
     · simp [e1]
     · rw [if_neg (by simpa using e1)]
       by_cases e2 : b.Values[k] < a.Values[k]
       · simp [e1, e2]
       · rw [if_neg (by simpa using e2), if_neg e1, if_neg e2, show ((k : Int) + 1) = ((k + 1 : Nat) : Int) from rfl, wrap_nat (by omega), s_CompareFacts_loop a b ha m (k + 1) h.1 h.2 (by omega)]
         simp
   · rw [if_neg (by simp only [Bool.and_eq_true, decide_eq_true_eq]; omega)]
     by_cases h3 : k < b.Values.length
     · have : k = a.Values.length := by omega
       subst this
       rw [if_pos (by simp; omega), List.drop_of_length_le (Nat.le_refl _), List.drop_eq_getElem_cons h3]; rfl
     · rw [List.drop_of_length_le (show b.Values.length ≤ k by omega), if_neg (by simp; omega)]
       by_cases h4 : k < a.Values.length
       · rw [if_pos (by simp; omega), List.drop_eq_getElem_cons h4]; rfl
       · rw [if_neg (by simp; omega), List.drop_of_length_le (by omega)]; rfl
theorem s_CompareFacts_eq (a b : Fact) (ha : a.Values.length < 4294967296) : s_CompareFacts a b = some (pCmpFact a b) := by
 unfold s_CompareFacts pCmpFact cmpI
 by_cases h : a.Rel = b.Rel
 · rw [if_neg (by simp [h])]
   have := s_CompareFacts_loop a b ha (((a.Values.length : Int) - 0).toNat + 2) 0 (by omega) (by omega) (by omega)
   rw [show s_CompareFacts_L1 a b (((a.Values.length : Int) - 0).toNat + 2) 0 = _ from this]
   simp [h]
 · rw [if_pos (by simpa using h)]
   by_cases h2 : a.Rel < b.Rel
   · simp [h2]
   · have : b.Rel < a.Rel := by omega
     simp [h2, this]
def pSameAccess (a b : Access) : Bool := a.Method == b.Method && pIntsEq a.Values b.Values
theorem s_l5Same_eq (a b : Access) : s_l5Same a b = some (pSameAccess a b) := by
 simp only [s_l5Same, s_l2Ints_eq, pSameAccess, pIntsEq, Option.bind_some]
 generalize (a.Method == b.Method) = b1
 cases b1 <;> rfl
theorem i_sameAccess_eq (a b : Access) : i_sameAccess a b = some (pSameAccess a b) := by
 simp only [i_sameAccess, g_slices_Equal_int_int_eq, pSameAccess, pIntsEq, Option.bind_some]
 generalize (a.Method == b.Method) = b1
 cases b1 <;> rfl
theorem g_slices_Clone_int_int_eq (a : List Int) (h : a.length < 4294967296) : g_slices_Clone_int_int a = some a := by simp [g_slices_Clone_int_int, app_nil h]
theorem s_l8Access_eq (m : Int) (v : List Int) (h : v.length < 4294967296) : s_l8Access m v = some { Method := m, Values := v } := by simp [s_l8Access, app_nil h]
theorem ms_MethodS (a : List Method) : msL meN_Method a ≤ 4 * totL tot_Method a := msL_le 4 (fun x => by simp only [meN_Method, msL_one, tot_Method]; omega) a
theorem bd_MethodS (a : List Method) (h : totL tot_Method a < 4294967296) : bdL bd_Method a := bdL_of (f := tot_Method) (fun x hx => bdL_flat _ hx) _ h
def in13 (n : Int) : Bool := decide (1 ≤ n) && decide (n ≤ 3)
def pSchema (s : List Int) : Bool := in13 (s.length : Int) && s.all in13
theorem s_IsSchema_eq (s : List Int) : s_IsSchema s = some (pSchema s) := by
 unfold s_IsSchema
 rw [all_loop (L := s_IsSchema_L1 s) (f := fun n => s_l1In n 1 3) (p := in13) (e := in13 (s.length : Int)) (fun k => by simp [s_IsSchema_L1, s_l1In, in13]) (fun x r k => rfl) s 0 (fun x _ => rfl), pSchema, Bool.and_comm]
theorem g_slices_ContainsFunc_int_int_iIsSchema1_eq (l : List Int) : g_slices_ContainsFunc_int_int_iIsSchema1 l = some (l.any fun x => !in13 x) := by
 unfold g_slices_ContainsFunc_int_int_iIsSchema1 g_slices_IndexFunc_int_int_iIsSchema1
 rw [index_loop (L := g_slices_IndexFunc_int_int_iIsSchema1_L1) (f := fun x => i_IsSchema_1 x) (p := fun x => !in13 x) (fun k => rfl) (fun x r k => rfl) l 0 (fun x hx => rfl), Option.bind_some, ixF_neg]
theorem i_IsSchema_eq (s : List Int) : i_IsSchema s = some (pSchema s) := by
 unfold i_IsSchema
 rw [g_slices_ContainsFunc_int_int_iIsSchema1_eq]
 simp only [i_within, Option.bind_some, pSchema, in13]
 cases hh : (decide (1 ≤ (s.length : Int)) && decide ((s.length : Int) ≤ 3))
 · simp
 · simp [List.all_eq_not_any_not, in13]
theorem pSchema_len {s : List Int} (h : pSchema s = true) : s.length ≤ 3 ∧ ∀ x ∈ s, 1 ≤ x ∧ x ≤ 3 := by
 simp [pSchema, in13] at h
 exact ⟨by omega, h.2⟩
theorem s_l1In_eq (x lo hi : Int) : s_l1In x lo hi = some (pIn lo hi x) := rfl
theorem i_within_eq (x lo hi : Int) : i_within x lo hi = some (pIn lo hi x) := rfl
def pHasRel (s : List Int) (rel : Int) : Bool := pSchema s && pIn 0 ((s.length : Int) - 1) rel
theorem i_hasRel_eq (s : List Int) (rel : Int) (hs : s.length < 4294967296) : i_hasRel s rel = some (pHasRel s rel) := by
 simp only [i_hasRel, i_IsSchema_eq, i_within_eq, Option.bind_some, pHasRel]
 rw [wrap_in (by omega) (by omega)]
 cases pSchema s <;> rfl
theorem pHasRel_ix {s : List Int} {rel : Int} (h : pHasRel s rel = true) : ∃ x, ix s rel = some x ∧ 1 ≤ x ∧ x ≤ 3 := by
 simp only [pHasRel, Bool.and_eq_true] at h
 obtain ⟨x, h1, h2⟩ := pIn_ix h.2
 exact ⟨x, h1, (pSchema_len h.1).2 x (List.mem_of_getElem? h2)⟩
def pAr (s : List Int) (rel : Int) : Int := (ix s rel).getD 0
theorem pAr_ix {s : List Int} {rel : Int} (h : pHasRel s rel = true) : ix s rel = some (pAr s rel) ∧ 1 ≤ pAr s rel ∧ pAr s rel ≤ 3 := by
 obtain ⟨x, h1, h2⟩ := pHasRel_ix h
 unfold pAr
 rw [h1]; exact ⟨rfl, h2⟩
def pMethod (s : List Int) (m : Method) : Bool := pHasRel s m.Rel && (pIn 0 9 m.Limit && (pIn 0 99 m.Cost && (pIn 1 99 m.Quota && (adjB (fun _ => true) (fun y x => decide (x ≤ y)) none m.Inputs && m.Inputs.all (pIn 0 (pAr s m.Rel - 1))))))
theorem s_IsMethod_eq (s : List Int) (m : Method) (hs : s.length < 4294967296) (hm : m.Inputs.length < 4294967296) : s_IsMethod s m = some (pMethod s m) := by
 simp only [s_IsMethod, s_IsSchema_eq, s_l1In_eq, Option.bind_some]
 rw [wrap_in (by omega) (by omega)]
 have hL : pHasRel s m.Rel = true → s_IsMethod_L1 s m m.Inputs 0 = some (adjB (pIn 0 (pAr s m.Rel - 1)) (fun y x => decide (x ≤ y)) none m.Inputs) := fun h => by
   obtain ⟨e1, e2, e3⟩ := pAr_ix h
   have := adj_loop (L := s_IsMethod_L1 s m) (P := fun _ => True) (p := pIn 0 (pAr s m.Rel - 1)) (q := fun y x => decide (x ≤ y)) (e := true) m.Inputs (fun _ _ => trivial) hm (fun _ => rfl) (fun x r _ => by
     rw [s_IsMethod_L1]
     simp only [e1, Option.bind_some, s_l1In_eq, dec_zero]
     rw [wrap_in (by omega) (by omega)]
     cases pIn 0 (pAr s m.Rel - 1) x <;> rfl) (fun x r k y _ _ hy hk => by
     rw [s_IsMethod_L1]
     simp only [e1, Option.bind_some, s_l1In_eq, dec_succ, ix_prev _ k hk, hy]
     rw [wrap_in (by omega) (by omega)]
     cases pIn 0 (pAr s m.Rel - 1) x <;> cases decide (x ≤ y) <;> rfl)
   simpa using this
 unfold pMethod
 cases hh : pHasRel s m.Rel
 · simp only [pHasRel] at hh
   cases h1 : pSchema s
   · rfl
   · rw [h1, Bool.true_and] at hh
     simp [hh]
 · rw [hL hh, adjB_and]
   simp only [pHasRel, Bool.and_eq_true] at hh
   rw [hh.1, hh.2]
   cases pIn 0 9 m.Limit
   · rfl
   cases pIn 0 99 m.Cost
   · rfl
   cases pIn 1 99 m.Quota <;> rfl
theorem i_ascending_eq (l : List Int) (hl : l.length < 4294967296) : i_ascending l = some (adjB (fun _ => true) (fun y x => decide (x ≤ y)) none l) := by
 have := adj_loop (L := i_ascending_L1 l) (P := fun _ => True) (p := fun _ => true) (q := fun y x => decide (x ≤ y)) (e := true) l (fun _ _ => trivial) hl (fun _ => rfl) (fun x r _ => rfl) (fun x r k y _ _ hy hk => by
     rw [i_ascending_L1]
     simp only [Option.bind_some, dec_succ, ix_prev _ k hk, hy, cond_true]
     cases decide (x ≤ y) <;> rfl)
 simpa [i_ascending] using this
theorem g_slices_ContainsFunc_int_int_iMethodfits1_eq (l : List Int) (a1 : Int) (h1 : -1000 ≤ a1 ∧ a1 ≤ 1000) : g_slices_ContainsFunc_int_int_iMethodfits1 l a1 = some (l.any fun x => !pIn 0 (a1 - 1) x) := by
 unfold g_slices_ContainsFunc_int_int_iMethodfits1 g_slices_IndexFunc_int_int_iMethodfits1
 rw [index_loop (L := g_slices_IndexFunc_int_int_iMethodfits1_L1 a1) (f := fun x => i_Method_fits_1 x a1) (p := fun x => !pIn 0 (a1 - 1) x) (fun k => rfl) (fun x r k => rfl) l 0 (fun x hx => by rw [i_Method_fits_1, i_within_eq, wrap_in (by omega) (by omega)]; rfl), Option.bind_some, ixF_neg]
theorem i_isCost_eq (n : Int) : i_isCost n = some (pIn 0 99 n) := rfl
theorem i_IsMethod_eq (s : List Int) (m : Method) (hs : s.length < 4294967296) (hm : m.Inputs.length < 4294967296) : i_IsMethod s m = some (pMethod s m) := by
 simp only [i_IsMethod, i_hasRel_eq _ _ hs, Option.bind_some, pMethod]
 cases hh : pHasRel s m.Rel
 · rfl
 obtain ⟨e1, e2, e3⟩ := pAr_ix hh
 simp only [e1, Option.bind_some, i_Method_fits, i_ascending_eq _ hm, g_slices_ContainsFunc_int_int_iMethodfits1_eq _ _ (show -1000 ≤ pAr s m.Rel ∧ pAr s m.Rel ≤ 1000 by omega), i_within_eq, i_isCost_eq, cond_true, Bool.true_and]
 have e4 : (m.Inputs.any fun x => !pIn 0 (pAr s m.Rel - 1) x) = !(m.Inputs.all (pIn 0 (pAr s m.Rel - 1))) := by simp [List.all_eq_not_any_not]
 rw [e4]
 cases adjB (fun _ => true) (fun y x => decide (x ≤ y)) none m.Inputs <;> cases m.Inputs.all (pIn 0 (pAr s m.Rel - 1)) <;> cases pIn 0 9 m.Limit <;> cases pIn 0 99 m.Cost <;> cases pIn 1 99 m.Quota <;> rfl
def pMethods (s : List Int) (l : List Method) : Bool := pSchema s && (decide ((l.length : Int) ≤ 5) && l.all (pMethod s))
theorem s_AreMethods_eq (s : List Int) (l : List Method) (hs : s.length < 4294967296) (hl : bdL bd_Method l) : s_AreMethods s l = some (pMethods s l) := by
 unfold s_AreMethods
 rw [all_loop (L := s_AreMethods_L1 s l) (f := fun m => s_IsMethod s m) (p := pMethod s) (e := pSchema s && decide ((l.length : Int) ≤ 5)) (fun k => by
   rw [s_AreMethods_L1, s_IsSchema_eq]
   cases pSchema s <;> rfl) (fun x r k => rfl) l 0 (fun x hx => s_IsMethod_eq s x hs (hl.2 x hx).1), pMethods]
 cases pSchema s <;> cases decide ((l.length : Int) ≤ 5) <;> cases l.all (pMethod s) <;> rfl
theorem g_slices_ContainsFunc_impl_Method_impl_Method_iAreMethods1_eq (l : List Method) (s : List Int) (hs : s.length < 4294967296) (hl : bdL bd_Method l) : g_slices_ContainsFunc_impl_Method_impl_Method_iAreMethods1 l s = some (l.any fun x => !pMethod s x) := by
 unfold g_slices_ContainsFunc_impl_Method_impl_Method_iAreMethods1 g_slices_IndexFunc_impl_Method_impl_Method_iAreMethods1
 rw [index_loop (L := g_slices_IndexFunc_impl_Method_impl_Method_iAreMethods1_L1 s) (f := fun x => i_AreMethods_1 x s) (p := fun x => !pMethod s x) (fun k => rfl) (fun x r k => rfl) l 0 (fun x hx => by rw [i_AreMethods_1, i_IsMethod_eq s x hs (hl.2 x hx).1]; rfl), Option.bind_some, ixF_neg]
theorem i_AreMethods_eq (s : List Int) (l : List Method) (hs : s.length < 4294967296) (hl : bdL bd_Method l) : i_AreMethods s l = some (pMethods s l) := by
 simp only [i_AreMethods, i_IsSchema_eq, Option.bind_some, g_slices_ContainsFunc_impl_Method_impl_Method_iAreMethods1_eq l s hs hl, pMethods, List.all_eq_not_any_not]
 cases pSchema s <;> cases decide ((l.length : Int) ≤ 5) <;> rfl
def pFact (s : List Int) (f : Fact) : Bool := pHasRel s f.Rel && (((f.Values.length : Int) == pAr s f.Rel) && f.Values.all (pIn 0 9))
theorem s_IsFact_eq (s : List Int) (f : Fact) (hs : s.length < 4294967296) : s_IsFact s f = some (pFact s f) := by
 simp only [s_IsFact, s_IsSchema_eq, s_l1In_eq, Option.bind_some]
 rw [wrap_in (by omega) (by omega)]
 have hL : s_IsFact_L1 f.Values 0 = some (f.Values.all (pIn 0 9)) := by
   have := all_loop (L := s_IsFact_L1) (f := fun x => some (pIn 0 9 x)) (p := pIn 0 9) (e := true) (fun _ => rfl) (fun x r' k => rfl) f.Values 0 (fun _ _ => rfl)
   simpa using this
 unfold pFact
 cases hF : pHasRel s f.Rel
 · simp only [pHasRel] at hF
   cases h1 : pSchema s
   · rfl
   · rw [h1, Bool.true_and] at hF
     simp [hF]
 · obtain ⟨e1, -⟩ := pAr_ix hF
   rw [hL, e1]
   simp only [pHasRel, Bool.and_eq_true] at hF
   simp only [hF, Bool.not_true, cond_false, Option.bind_some, bne]
   cases ((f.Values.length : Int) == pAr s f.Rel) <;> rfl
def pFacts (s : List Int) (l : List Fact) : Bool := adjB (pFact s) (fun y x => decide (0 ≤ pCmpFact y x)) none l && (pSchema s && decide ((l.length : Int) ≤ 24))
theorem s_AreFacts_eq (s : List Int) (l : List Fact) (hs : s.length < 4294967296) (hl : bdL bd_Fact l) : s_AreFacts s l = some (pFacts s l) :=
 adj_loop (L := s_AreFacts_L1 s l) (P := bd_Fact) (p := pFact s) (q := fun y x => decide (0 ≤ pCmpFact y x)) l hl.2 hl.1 (fun _ => by
   rw [s_AreFacts_L1, s_IsSchema_eq]
   cases pSchema s <;> rfl) (fun x r _ => by
   rw [s_AreFacts_L1, s_IsFact_eq s x hs]
   simp only [Option.bind_some, dec_zero]
   cases pFact s x <;> rfl) (fun x r k y _ hy hy2 hk => by
   rw [s_AreFacts_L1, s_IsFact_eq s x hs]
   simp only [Option.bind_some, dec_succ, ix_prev _ k hk, hy2, s_CompareFacts_eq y x hy.1]
   cases pFact s x <;> cases decide (0 ≤ pCmpFact y x) <;> rfl)
def pMeth (l : List Method) (m : Int) : Method := (ix l m).getD ⟨0, [], 0, 0, 0⟩
theorem pMeth_ix {l : List Method} {m : Int} (h : pIn 0 ((l.length : Int) - 1) m = true) : ix l m = some (pMeth l m) ∧ pMeth l m ∈ l := by
 obtain ⟨x, h1, h2⟩ := pIn_ix h
 unfold pMeth
 rw [h1]; exact ⟨rfl, List.mem_of_getElem? h2⟩
def pAccess (s : List Int) (l : List Method) (a : Access) : Bool := pMethods s l && (pIn 0 ((l.length : Int) - 1) a.Method && (((a.Values.length : Int) == ((pMeth l a.Method).Inputs.length : Int)) && a.Values.all (pIn 0 9)))
def pFitL (f : Fact) (vals : List Int) : List Int → Nat → Bool
 | [], _ => true
 | x :: r, k => (f.Values[x.toNat]?.getD 0 == vals[k]?.getD 0) && pFitL f vals r (k + 1)
def pFits (m : Method) (vals : List Int) (f : Fact) : Bool := f.Rel == m.Rel && pFitL f vals m.Inputs 0
theorem ix_getD (l : List Int) (x : Int) (h : 0 ≤ x ∧ x < (l.length : Int)) : ix l x = some (l[x.toNat]?.getD 0) := by
 have hlt : x.toNat < l.length := by omega
 unfold ix
 rw [if_pos h.1, List.getElem?_eq_getElem hlt]; rfl
theorem s_l5Fits_loop (vals : List Int) (f : Fact) : ∀ (l : List Int) (k : Nat), (∀ x ∈ l, 0 ≤ x ∧ x < (f.Values.length : Int)) → k + l.length ≤ vals.length → s_l5Fits_L1 vals f l k = some (pFitL f vals l k)
 | [], _, _, _ => rfl
 | x :: r, k, h, hl => by
   simp only [List.length_cons] at hl
   rw [s_l5Fits_L1, ix_getD _ _ (h x (by simp)), ix_getD _ _ ⟨by omega, by omega⟩, Option.bind_some, Option.bind_some, pFitL, Int.toNat_natCast]
   by_cases e : f.Values[x.toNat]?.getD 0 = vals[k]?.getD 0
   · rw [if_neg (by simp [e]), s_l5Fits_loop vals f r (k + 1) (fun y hy => h y (by simp [hy])) (by omega)]; simp [e]
   · rw [if_pos (by simpa using e)]; simp [e]
theorem i_matches_loop (f : Fact) (a : Access) : ∀ (l : List Int) (k : Nat), (∀ x ∈ l, 0 ≤ x ∧ x < (f.Values.length : Int)) → k + l.length ≤ a.Values.length → i_matches_1_L1 f a l k = some (!pFitL f a.Values l k)
 | [], _, _, _ => rfl
 | x :: r, k, h, hl => by
   simp only [List.length_cons] at hl
   rw [i_matches_1_L1, ix_getD _ _ (h x (by simp)), ix_getD _ _ ⟨by omega, by omega⟩, Option.bind_some, Option.bind_some, pFitL, Int.toNat_natCast]
   by_cases e : f.Values[x.toNat]?.getD 0 = a.Values[k]?.getD 0
   · rw [if_neg (by simp [e]), i_matches_loop f a r (k + 1) (fun y hy => h y (by simp [hy])) (by omega)]; simp [e]
   · rw [if_pos (by simpa using e)]; simp [e]
def pFitOK (m : Method) (vals : List Int) (f : Fact) : Prop := (f.Rel = m.Rel → ∀ x ∈ m.Inputs, 0 ≤ x ∧ x < (f.Values.length : Int)) ∧ m.Inputs.length ≤ vals.length
theorem s_l5Fits_eq (m : Method) (vals : List Int) (f : Fact) (h : pFitOK m vals f) : s_l5Fits m vals f = some (pFits m vals f) := by
 unfold s_l5Fits pFits
 by_cases e : f.Rel = m.Rel
 · rw [if_neg (by simp [e]), s_l5Fits_loop vals f m.Inputs 0 (h.1 e) (by have := h.2; omega)]; simp [e]
 · rw [if_pos (by simpa using e)]; simp [e]
theorem i_matches_1_eq (f : Fact) (m : Method) (a : Access) (h : pFitOK m a.Values f) : i_matches_1 f m a = some (!pFits m a.Values f) := by
 unfold i_matches_1 pFits
 by_cases e : f.Rel = m.Rel
 · rw [if_neg (by simp [e]), i_matches_loop f a m.Inputs 0 (h.1 e) (by have := h.2; omega)]; simp [e]
 · rw [if_pos (by simpa using e)]; simp [e]
theorem pFitOK_of {s : List Int} {l : List Method} {a : Access} {f : Fact} (h1 : pAccess s l a = true) (h2 : pFact s f = true) : pFitOK (pMeth l a.Method) a.Values f := by
 simp only [pAccess, pMethods, Bool.and_eq_true, List.all_eq_true] at h1
 obtain ⟨⟨-, -, hm⟩, hi, hv, -⟩ := h1
 have hmm := hm _ (pMeth_ix hi).2
 simp only [pMethod, Bool.and_eq_true, List.all_eq_true] at hmm
 obtain ⟨-, -, -, -, -, hin⟩ := hmm
 simp only [pFact, Bool.and_eq_true] at h2
 obtain ⟨-, hf, -⟩ := h2
 refine ⟨fun e x hx => ?_, by simp at hv; omega⟩
 have := hin x hx
 simp [pIn] at this hf
 rw [hf, e]
 omega
theorem pFacts_all {s : List Int} {l : List Fact} (h : pFacts s l = true) : ∀ f ∈ l, pFact s f = true := by
 unfold pFacts at h
 rw [adjB_and] at h
 simp only [Bool.and_eq_true, List.all_eq_true] at h
 exact h.1.2
theorem i_copyFact_eq (a : Fact) (h : bd_Fact a) : i_copyFact a = some a := by simp [i_copyFact, g_slices_Clone_int_int_eq _ h.1]
theorem i_copyFacts_eq (l : List Fact) (h : bdL bd_Fact l) : i_copyFacts l = some l :=
 copy_all (L := i_copyFacts_L1) (fun _ _ => rfl) (fun x r k c hx hc => by rw [i_copyFacts_L1, i_copyFact_eq x hx, Option.bind_some, app1 hc, Option.bind_some]) l h
theorem i_matches_eq (s : List Int) (l : List Method) (facts : List Fact) (a : Access) (h1 : pAccess s l a = true) (h2 : ∀ f ∈ facts, pFact s f = true) (hb : bdL bd_Fact facts) : i_matches l facts a = some (facts.filter (pFits (pMeth l a.Method) a.Values)) := by
 have hi : pIn 0 ((l.length : Int) - 1) a.Method = true := by
   simp only [pAccess, Bool.and_eq_true] at h1
   exact h1.2.1
 rw [i_matches, (pMeth_ix hi).1, Option.bind_some, i_copyFacts_eq facts hb, Option.bind_some, g_slices_DeleteFunc_impl_Fact_impl_Fact_imatches1,
   delL_of (p := fun f => !pFits (pMeth l a.Method) a.Values f) (fun f hf => i_matches_1_eq f _ a (pFitOK_of h1 (h2 f hf)))]
 simp
theorem s_l7Logged_eq (log : List Access) (a : Access) : s_l7Logged log a = some (log.any fun x => pSameAccess x a) :=
 any_loop (L := s_l7Logged_L1 a) (f := fun x => s_l5Same x a) (fun _ => rfl) (fun _ _ _ => rfl) log 0 (fun x _ => s_l5Same_eq x a)
theorem g_slices_ContainsFunc_impl_Access_impl_Access_ihasAccess1_eq (l : List Access) (a : Access) : g_slices_ContainsFunc_impl_Access_impl_Access_ihasAccess1 l a = some (l.any fun x => pSameAccess x a) := by
 unfold g_slices_ContainsFunc_impl_Access_impl_Access_ihasAccess1 g_slices_IndexFunc_impl_Access_impl_Access_ihasAccess1
 rw [index_loop (L := g_slices_IndexFunc_impl_Access_impl_Access_ihasAccess1_L1 a) (f := fun x => i_hasAccess_1 x a) (p := fun x => pSameAccess x a) (fun k => rfl) (fun x r k => rfl) l 0 (fun x hx => by rw [i_hasAccess_1, i_sameAccess_eq]; rfl), Option.bind_some, ixF_neg]
theorem i_hasAccess_eq (log : List Access) (a : Access) : i_hasAccess log a = some (log.any fun x => pSameAccess x a) := by
 rw [i_hasAccess, g_slices_ContainsFunc_impl_Access_impl_Access_ihasAccess1_eq]; rfl
theorem s_l2One_eq (r : Int) (v : List Int) (h : v.length < 4294967296) : s_l2One r v = some { Rel := r, Values := v } := by simp [s_l2One, app_nil h]
theorem s_l5Matches_eq (m : Method) (vals : List Int) (facts : List Fact) (hf : ∀ f ∈ facts, pFitOK m vals f) (hb : bdL bd_Fact facts) : s_l5Matches m vals facts = some (facts.filter (pFits m vals)) := by
 have := filter_loop (L := s_l5Matches_L1 m vals) (P := fun f => pFitOK m vals f ∧ bd_Fact f) (p := pFits m vals) (fun _ _ => rfl) (fun x r k c hx hc => by
   rw [s_l5Matches_L1, s_l5Fits_eq _ _ _ hx.1, Option.bind_some]
   cases pFits m vals x <;> simp [s_l2One_eq _ _ hx.2.1, app1 hc]) facts 0 [] (fun x hx => ⟨hf x hx, hb.2 x hx⟩) (by simpa using hb.1)
 simpa [s_l5Matches] using this
theorem s_l2Copy_eq (l : List Fact) (h : bdL bd_Fact l) : s_l2Copy l = some l :=
 copy_all (L := s_l2Copy_L1) (fun _ _ => rfl) (fun x r k c hx hc => by rw [s_l2Copy_L1, s_l2One_eq _ _ hx.1, Option.bind_some, app1 hc, Option.bind_some]) l h
theorem s_l8Log_eq (l : List Access) (h : bdL bd_Access l) : s_l8Log l = some l :=
 copy_all (L := s_l8Log_L1) (fun _ _ => rfl) (fun x r k c hx hc => by rw [s_l8Log_L1, s_l8Access_eq _ _ hx.1, Option.bind_some, app1 hc, Option.bind_some]) l h
theorem cmpI_anti (x y : Int) : cmpI y x = -cmpI x y := by
 unfold cmpI
 repeat' split
 all_goals omega
theorem cmpL_anti : ∀ (a b : List Int), cmpL b a = -cmpL a b
 | [], [] => rfl
 | [], _ :: _ => rfl
 | _ :: _, [] => rfl
 | x :: a, y :: b => by
   simp only [cmpL, cmpI_anti x y, cmpL_anti a b]
   by_cases h : cmpI x y = 0
   · simp [h]
   · rw [if_pos (by simp only [bne_iff_ne]; omega), if_pos (by simpa using h)]
theorem pCmpFact_anti (a b : Fact) : pCmpFact b a = -pCmpFact a b := by
 unfold pCmpFact
 rw [cmpI_anti a.Rel b.Rel, cmpL_anti a.Values b.Values]
 by_cases h : cmpI a.Rel b.Rel = 0
 · simp [h]
 · rw [if_pos (by simp only [bne_iff_ne]; omega), if_pos (by simpa using h)]
def pHasF (l : List Fact) (f : Fact) : Bool := l.any fun x => pCmpFact x f == 0
theorem s_HasFact_eq (l : List Fact) (f : Fact) (h : bdL bd_Fact l) : s_HasFact l f = some (pHasF l f) := by
 have hx : ∀ x ∈ l, x.Values.length < 4294967296 := fun x hx => (h.2 x hx).1
 clear h
 unfold s_HasFact
 generalize 0 = k
 induction l generalizing k with
 | nil => rfl
 | cons x l ih =>
   unfold s_HasFact_L1
   rw [s_CompareFacts_eq x f (hx x (by simp)), Option.bind_some]
   by_cases h : pCmpFact x f = 0
   · rw [if_pos (by simpa using h)]; simp [pHasF, h]
   · rw [if_neg (by simpa using h), ih (fun y hy => hx y (by simp [hy]))]; simp [pHasF, h]
theorem g_slices_ContainsFunc_impl_Fact_impl_Fact_iHasFact1_eq (l : List Fact) (f : Fact) : g_slices_ContainsFunc_impl_Fact_impl_Fact_iHasFact1 l f = some (pHasF l f) := by
 unfold g_slices_ContainsFunc_impl_Fact_impl_Fact_iHasFact1 g_slices_IndexFunc_impl_Fact_impl_Fact_iHasFact1
 rw [index_loop (L := g_slices_IndexFunc_impl_Fact_impl_Fact_iHasFact1_L1 f) (f := fun x => i_HasFact_1 x f) (p := fun x => pCmpFact x f == 0) (fun k => rfl) (fun x r k => rfl) l 0 (fun x hx => by rw [i_HasFact_1, i_CompareFacts_eq]; rfl), Option.bind_some, ixF_neg]
 rfl
theorem i_HasFact_eq (l : List Fact) (f : Fact) : i_HasFact l f = some (pHasF l f) := by
 rw [i_HasFact, g_slices_ContainsFunc_impl_Fact_impl_Fact_iHasFact1_eq]; rfl
def pInsF (f : Fact) : List Fact → List Fact
 | [] => [f]
 | x :: l => if 0 < pCmpFact x f then f :: x :: l else x :: pInsF f l
theorem pInsF_len (f : Fact) : ∀ l : List Fact, (pInsF f l).length = l.length + 1
 | [] => rfl
 | x :: l => by
   unfold pInsF
   split
   · rfl
   · simp [pInsF_len f l]
theorem pInsF_mem {f y : Fact} : ∀ {l : List Fact}, y ∈ pInsF f l → y = f ∨ y ∈ l
 | [], h => by simp [pInsF] at h; exact .inl h
 | x :: l, h => by
   unfold pInsF at h
   split at h
   · simp at h; simp [h]
   · rcases List.mem_cons.1 h with h | h
     · simp [h]
     · rcases pInsF_mem h with h | h <;> simp [h]
theorem pInsF_ix (f : Fact) : ∀ (l : List Fact) (k : Nat), (ixF (fun x => decide (0 < pCmpFact x f)) l k = -1 ∧ pInsF f l = l ++ [f]) ∨ ∃ j : Nat, j < l.length ∧ ixF (fun x => decide (0 < pCmpFact x f)) l k = ((k + j : Nat) : Int) ∧ pInsF f l = l.take j ++ f :: l.drop j
 | [], k => .inl ⟨rfl, rfl⟩
 | x :: l, k => by
   unfold ixF pInsF
   by_cases h : 0 < pCmpFact x f
   · rw [if_pos h, if_pos (by simpa using h)]
     exact .inr ⟨0, by simp, by simp, by simp⟩
   · rw [if_neg h, if_neg (by simpa using h)]
     rcases pInsF_ix f l (k + 1) with ⟨h1, h2⟩ | ⟨j, h1, h2, h3⟩
     · exact .inl ⟨h1, by rw [h2]; rfl⟩
     · exact .inr ⟨j + 1, by simp; omega, by rw [h2]; congr 1; omega, by rw [h3]; rfl⟩
def pAddF (l : List Fact) (f : Fact) : List Fact := if pHasF l f then l else pInsF f l
theorem pAddF_len (l : List Fact) (f : Fact) : (pAddF l f).length ≤ l.length + 1 := by
 unfold pAddF
 split
 · omega
 · rw [pInsF_len]; exact Nat.le_refl _
theorem pAddF_mem {l : List Fact} {f y : Fact} (h : y ∈ pAddF l f) : y = f ∨ y ∈ l := by
 unfold pAddF at h
 split at h
 · exact .inr h
 · exact pInsF_mem h
theorem i_added_eq (l : List Fact) (f : Fact) (hl : l.length + 1 < 4294967296) (hf : bd_Fact f) : i_added l f = some (pAddF l f) := by
 unfold i_added pAddF
 rw [i_HasFact_eq, Option.bind_some]
 cases hh : pHasF l f
 · rw [if_neg (by simp), if_neg (by simp)]
   have hix : g_slices_IndexFunc_impl_Fact_impl_Fact_iadded1 l f = some (ixF (fun x => decide (0 < pCmpFact x f)) l 0) :=
     index_loop (L := g_slices_IndexFunc_impl_Fact_impl_Fact_iadded1_L1 f) (f := fun x => i_added_1 x f) (p := fun x => decide (0 < pCmpFact x f)) (fun k => rfl) (fun x r k => rfl) l 0 (fun x hx => by rw [i_added_1, i_CompareFacts_eq]; rfl)
   rw [hix, Option.bind_some]
   rcases pInsF_ix f l 0 with ⟨h1, h2⟩ | ⟨j, h1, h2, h3⟩
   · rw [h1, if_pos (by decide), i_copyFact_eq f hf, Option.bind_some, g_slices_Insert_impl_Fact_impl_Fact, h2]
     rw [if_pos ⟨by omega, by omega, hl⟩, Option.bind_some, Int.toNat_natCast, List.take_length, List.drop_length]
   · rw [h2, if_neg (by simp only [decide_eq_true_eq]; omega), i_copyFact_eq f hf, Option.bind_some, g_slices_Insert_impl_Fact_impl_Fact, h3]
     rw [if_pos ⟨by omega, by omega, hl⟩, Option.bind_some, Int.toNat_natCast, Nat.zero_add]
 · rw [if_pos rfl, if_pos rfl]
theorem s_AddFact_L1_done (f : Fact) : ∀ (l : List Fact) (k : Nat) (c : List Fact), (∀ x ∈ l, bd_Fact x) → c.length + l.length < 4294967296 → s_AddFact_L1 f l k c true = some (c ++ l)
 | [], k, c, _, _ => by simp [s_AddFact_L1]
 | x :: l, k, c, hx, h => by
   simp only [List.length_cons] at h
   unfold s_AddFact_L1
   rw [Bool.not_true, cond_false, Option.bind_some]
   dsimp only
   rw [if_neg (by simp), s_l2One_eq _ _ (hx x (by simp)).1, Option.bind_some, app_ok (by simp; omega), Option.bind_some, Option.bind_some]
   dsimp only
   rw [s_AddFact_L1_done f l _ _ (fun y hy => hx y (by simp [hy])) (by simp; omega)]
   simp
theorem s_AddFact_L1_eq (f : Fact) (hf : bd_Fact f) : ∀ (l : List Fact) (k : Nat) (c : List Fact) (b : Bool), (∀ x ∈ l, bd_Fact x) → c.length + l.length + 1 < 4294967296 → s_AddFact_L1 f l k c b = some (if b then c ++ l else c ++ pInsF f l)
 | [], k, c, b, _, h => by
   unfold s_AddFact_L1
   cases b
   · rw [if_pos (show (!false) = true from rfl), s_l2One_eq _ _ hf.1, Option.bind_some, app_ok (by simp at h ⊢; omega), if_neg (by simp)]; rfl
   · simp
 | x :: l, k, c, b, hx, h => by
   simp only [List.length_cons] at h
   have hx1 := hx x (by simp)
   have hx2 : ∀ y ∈ l, bd_Fact y := fun y hy => hx y (by simp [hy])
   unfold s_AddFact_L1
   cases b
   · rw [Bool.not_false, cond_true, s_CompareFacts_eq f x hf.1, Option.bind_some, Option.bind_some]
     dsimp only
     have ha := pCmpFact_anti f x
     by_cases hc : 0 < pCmpFact x f
     · rw [if_pos (by simp only [decide_eq_true_eq]; omega), s_l2One_eq _ _ hf.1, Option.bind_some, app_ok (by simp; omega), Option.bind_some, s_l2One_eq _ _ hx1.1, Option.bind_some, app_ok (by simp; omega), Option.bind_some, Option.bind_some]
       dsimp only
       rw [s_AddFact_L1_done f l _ _ hx2 (by simp; omega), if_neg (by simp)]
       simp [pInsF, hc]
     · rw [if_neg (by simp only [decide_eq_true_eq]; omega), s_l2One_eq _ _ hx1.1, Option.bind_some, app_ok (by simp; omega), Option.bind_some, Option.bind_some]
       dsimp only
       rw [s_AddFact_L1_eq f hf l _ _ _ hx2 (by simp; omega), if_neg (by simp), if_neg (by simp)]
       simp [pInsF, hc]
   · rw [if_pos rfl]
     exact s_AddFact_L1_done f (x :: l) k c hx (by simp; omega)
theorem s_AddFact_eq (l : List Fact) (f : Fact) (hb : bdL bd_Fact l) (hl : l.length + 1 < 4294967296) (hf : bd_Fact f) : s_AddFact l f = some (pAddF l f) := by
 unfold s_AddFact pAddF
 rw [s_HasFact_eq l f hb, Option.bind_some, s_AddFact_L1_eq f hf l 0 [] _ hb.2 (by simpa using hl), List.nil_append, List.nil_append]
theorem compactU_spec {zs : List Int} (h : zs.Pairwise (· ≤ ·)) : ∀ m, m ≤ zs.length →
   (Lib.compactUpTo zs.toArray m).Pairwise (· < ·) ∧ (∀ x, x ∈ Lib.compactUpTo zs.toArray m ↔ x ∈ zs.take m) ∧ (∀ x ∈ Lib.compactUpTo zs.toArray m, ∀ y, zs[m]? = some y → x ≤ y) := by
 intro m
 induction m with
 | zero => intro _; simp [Lib.compactUpTo]
 | succ m ih =>
   intro hm
   obtain ⟨i1, i2, i3⟩ := ih (by omega)
   have hlt : m < zs.length := by omega
   have hg : zs.toArray[m]! = zs[m] := by simp [hlt]
   have hnext : ∀ x, x ∈ zs.take (m + 1) → ∀ y, zs[m + 1]? = some y → x ≤ y := by
     intro x hx y hy
     obtain ⟨j, hj, rfl⟩ := List.mem_iff_getElem.1 hx
     obtain ⟨hy1, rfl⟩ := List.getElem?_eq_some_iff.1 hy
     rw [List.getElem_take]
     simp only [List.length_take] at hj
     exact List.pairwise_iff_getElem.1 h j (m + 1) (by omega) hy1 (by omega)
   rw [Lib.compactUpTo_succ, hg]
   have htake : zs.take (m + 1) = zs.take m ++ [zs[m]] := by rw [List.take_succ_eq_append_getElem hlt]
   by_cases hk : Lib.keeps zs.toArray m = true
   · rw [if_pos hk]
     have hlow : ∀ x ∈ Lib.compactUpTo zs.toArray m, x < zs[m] := by
       intro x hx
       have hm0 : m ≠ 0 := by
         intro e; subst e; simp [Lib.compactUpTo] at hx
       have hpl : m - 1 < zs.length := by omega
       have hpm : zs.toArray[m - 1]! = zs[m - 1] := by simp [hpl]
       have hne : zs[m] ≠ zs[m - 1] := by
         simp only [Lib.keeps, decide_eq_true_eq, hg, hpm] at hk
         rcases hk with h0 | h0
         · exact absurd h0 hm0
         · exact h0
       have hx1 := (i2 x).1 hx
       obtain ⟨j, hj, rfl⟩ := List.mem_iff_getElem.1 hx1
       rw [List.getElem_take] at *
       simp only [List.length_take] at hj
       have a1 : zs[j] ≤ zs[m - 1] := by
         rcases Nat.lt_or_ge j (m - 1) with h1 | h1
         · exact List.pairwise_iff_getElem.1 h j (m - 1) (by omega) hpl h1
         · have : j = m - 1 := by omega
           subst this; exact Int.le_refl _
       have a2 : zs[m - 1] ≤ zs[m] := List.pairwise_iff_getElem.1 h (m - 1) m hpl hlt (by omega)
       omega
     refine ⟨?_, ?_, ?_⟩
     · rw [List.pairwise_append]
       exact ⟨i1, by simp, fun a ha b hb => by simp at hb; subst hb; exact hlow a ha⟩
     · intro x; rw [htake, List.mem_append, List.mem_append, i2]
     · intro x hx y hy
       apply hnext x _ y hy
       rw [htake, List.mem_append, ← i2, ← List.mem_append]; exact hx
   · rw [if_neg hk, List.append_nil]
     have hm0 : m ≠ 0 := fun e => hk (by simp [Lib.keeps, e])
     have hpl : m - 1 < zs.length := by omega
     have hpm : zs.toArray[m - 1]! = zs[m - 1] := by simp [hpl]
     have he : zs[m] = zs[m - 1] := by
       simp only [Lib.keeps, decide_eq_true_eq, hg, hpm] at hk
       exact Classical.byContradiction fun hc => hk (.inr hc)
     have hin : zs[m] ∈ zs.take m := by
       rw [he]
       exact List.mem_iff_getElem.2 ⟨m - 1, by simp; omega, by rw [List.getElem_take]⟩
     have hiff : ∀ x, x ∈ zs.take (m + 1) ↔ x ∈ zs.take m := by
       intro x; rw [htake, List.mem_append, List.mem_singleton]
       exact ⟨fun h => h.elim id fun h => h ▸ hin, .inl⟩
     refine ⟨i1, fun x => by rw [i2, hiff], fun x hx y hy => hnext x ((hiff x).2 ((i2 x).1 hx)) y hy⟩
theorem compact_spec {zs : List Int} (h : zs.Pairwise (· ≤ ·)) : (Lib.compact zs).Pairwise (· < ·) ∧ ∀ x, x ∈ Lib.compact zs ↔ x ∈ zs := by
 obtain ⟨h1, h2, -⟩ := compactU_spec h zs.length (Nat.le_refl _)
 exact ⟨h1, fun x => by rw [Lib.compact, h2, List.take_length]⟩
theorem ss_ext : ∀ {a b : List Int}, a.Pairwise (· < ·) → b.Pairwise (· < ·) → (∀ x, x ∈ a ↔ x ∈ b) → a = b
 | [], [], _, _, _ => rfl
 | [], y :: b, _, _, h => absurd ((h y).2 (by simp)) (by simp)
 | x :: a, [], _, _, h => absurd ((h x).1 (by simp)) (by simp)
 | x :: a, y :: b, ha, hb, h => by
   rw [List.pairwise_cons] at ha hb
   have e : x = y := by
     have h1 := (h x).1 (by simp)
     have h2 := (h y).2 (by simp)
     rw [List.mem_cons] at h1 h2
     rcases h1 with h1 | h1
     · exact h1
     · rcases h2 with h2 | h2
       · exact h2.symm
       · have := hb.1 x h1; have := ha.1 y h2; omega
   subst e
   rw [ss_ext ha.2 hb.2 fun z => ?_]
   constructor
   · intro hz
     have h1 := (h z).1 (by simp [hz])
     have := ha.1 z hz
     rcases List.mem_cons.1 h1 with h1 | h1
     · omega
     · exact h1
   · intro hz
     have h1 := (h z).2 (by simp [hz])
     have := hb.1 z hz
     rcases List.mem_cons.1 h1 with h1 | h1
     · omega
     · exact h1
def pIns (x : Int) : List Int → List Int
 | [] => [x]
 | y :: l => if x < y then x :: y :: l else y :: pIns x l
theorem pIns_mem {x : Int} : ∀ {l : List Int} {y : Int}, y ∈ pIns x l ↔ y = x ∨ y ∈ l
 | [], y => by simp [pIns]
 | z :: l, y => by
   unfold pIns
   split
   · simp
   · rw [List.mem_cons, pIns_mem, List.mem_cons]
     constructor <;> rintro (h | h | h) <;> simp [h]
theorem pIns_ss {x : Int} : ∀ {l : List Int}, l.Pairwise (· < ·) → x ∉ l → (pIns x l).Pairwise (· < ·)
 | [], _, _ => by simp [pIns]
 | z :: l, h, hn => by
   unfold pIns
   rw [List.mem_cons, not_or] at hn
   rw [List.pairwise_cons] at h
   split
   · rename_i hx
     rw [List.pairwise_cons, List.pairwise_cons]
     refine ⟨fun a ha => ?_, h⟩
     rcases List.mem_cons.1 ha with rfl | ha
     · exact hx
     · have := h.1 a ha; omega
   · rename_i hx
     rw [List.pairwise_cons]
     refine ⟨fun a ha => ?_, pIns_ss h.2 hn.2⟩
     rcases pIns_mem.1 ha with rfl | ha
     · omega
     · exact h.1 a ha
theorem pIns_len {x : Int} : ∀ {l : List Int}, (pIns x l).length = l.length + 1
 | [] => rfl
 | z :: l => by
   unfold pIns
   split
   · rfl
   · simp [pIns_len]
def pPut (l : List Int) (x : Int) : List Int := if x ∈ l then l else pIns x l
theorem pPut_mem {l : List Int} {x y : Int} : y ∈ pPut l x ↔ y = x ∨ y ∈ l := by
 unfold pPut
 split
 · rename_i h; exact ⟨.inr, fun h' => h'.elim (fun e => e ▸ h) id⟩
 · exact pIns_mem
theorem pPut_ss {l : List Int} {x : Int} (h : l.Pairwise (· < ·)) : (pPut l x).Pairwise (· < ·) := by
 unfold pPut
 split
 · exact h
 · exact pIns_ss h (by assumption)
theorem pPut_len {l : List Int} {x : Int} : (pPut l x).length ≤ l.length + 1 := by
 unfold pPut
 split
 · omega
 · rw [pIns_len]; exact Nat.le_refl _
theorem puts_mem {y : Int} : ∀ {v l : List Int}, y ∈ v.foldl pPut l ↔ y ∈ l ∨ y ∈ v
 | [], l => by simp
 | x :: v, l => by
   rw [List.foldl_cons, puts_mem, pPut_mem, List.mem_cons]
   constructor
   · rintro ((h | h) | h) <;> simp [h]
   · rintro (h | h | h) <;> simp [h]
theorem puts_ss : ∀ {v l : List Int}, l.Pairwise (· < ·) → (v.foldl pPut l).Pairwise (· < ·)
 | [], _, h => h
 | x :: v, l, h => puts_ss (v := v) (pPut_ss h)
theorem puts_len : ∀ {v l : List Int}, (v.foldl pPut l).length ≤ l.length + v.length
 | [], _ => Nat.le_refl _
 | x :: v, l => by
   have h1 := puts_len (v := v) (l := pPut l x)
   have h2 := pPut_len (l := l) (x := x)
   simp only [List.foldl_cons, List.length_cons]; omega
theorem puts_sort (v : List Int) : v.foldl pPut [] = Lib.compact (v.mergeSort fun x y => decide (x ≤ y)) := by
 have hs : (v.mergeSort fun x y => decide (x ≤ y)).Pairwise (· ≤ ·) := by
   have := List.pairwise_mergeSort (le := fun x y : Int => decide (x ≤ y)) (fun a b c h1 h2 => by simp only [decide_eq_true_eq] at *; omega) (fun a b => by simp only [Bool.or_eq_true, decide_eq_true_eq]; omega) v
   exact this.imp fun h => by simpa using h
 obtain ⟨c1, c2⟩ := compact_spec hs
 exact ss_ext (puts_ss (by simp)) c1 fun x => by rw [puts_mem, c2, List.mem_mergeSort]; simp
theorem s_l2Has_eq (x : Int) (l : List Int) : s_l2Has l x = some (decide (x ∈ l)) := by
 unfold s_l2Has
 generalize 0 = k
 induction l generalizing k with
 | nil => rfl
 | cons y l ih =>
   unfold s_l2Has_L1
   by_cases h : y = x
   · subst h; simp
   · rw [if_neg (by simpa using h), ih]
     congr 1
     simp only [List.mem_cons, decide_eq_decide]
     exact ⟨.inr, fun h' => h'.elim (fun e => absurd e.symm h) id⟩
theorem s_l3Put_L1_eq (x : Int) : ∀ (l : List Int) (k : Nat) (c : List Int) (b : Bool), c.length + l.length + (bif b then 0 else 1) < 4294967296 → s_l3Put_L1 x l k c b = some (if b then c ++ l else c ++ pIns x l)
 | [], k, c, b, h => by
   unfold s_l3Put_L1
   cases b
   · simp only [cond_false, List.length_nil] at h
     rw [if_pos (show (!false) = true from rfl), app_ok (by simp; omega), if_neg (by simp)]; rfl
   · simp
 | y :: l, k, c, b, h => by
   simp only [List.length_cons] at h
   unfold s_l3Put_L1
   cases b
   · simp only [cond_false] at h
     by_cases hx : x < y
     · rw [if_pos (by simpa using hx), app_ok (by simp; omega), Option.bind_some, app_ok (by simp; omega), Option.bind_some, Option.bind_some]
       dsimp only
       rw [s_l3Put_L1_eq x l _ _ _ (by simp; omega), if_pos rfl, if_neg (by simp)]
       simp [pIns, hx]
     · rw [if_neg (by simpa using hx), app_ok (by simp; omega), Option.bind_some, Option.bind_some]
       dsimp only
       rw [s_l3Put_L1_eq x l _ _ _ (by simp; omega), if_neg (by simp), if_neg (by simp)]
       simp [pIns, hx]
   · simp only [cond_true] at h
     rw [if_neg (by simp), app_ok (by simp; omega), Option.bind_some, Option.bind_some]
     dsimp only
     rw [s_l3Put_L1_eq x l _ _ _ (by simp; omega), if_pos rfl, if_pos rfl]
     simp
theorem s_l3Put_eq (l : List Int) (x : Int) (h : l.length + 1 < 4294967296) : s_l3Put l x = some (pPut l x) := by
 unfold s_l3Put pPut
 rw [s_l2Has_eq, Option.bind_some]
 by_cases hx : x ∈ l
 · rw [if_pos (by simpa using hx), if_pos hx]
 · rw [if_neg (by simpa using hx), if_neg hx, s_l3Put_L1_eq x l 0 [] false (by simpa using h)]
   rfl
theorem cmpI_lt {x y : Int} : cmpI x y < 0 ↔ x < y := by unfold cmpI; split <;> (try split) <;> omega
theorem cmpI_gt {x y : Int} : 0 < cmpI x y ↔ y < x := by unfold cmpI; split <;> (try split) <;> omega
theorem cmpI_zero {x y : Int} : cmpI x y = 0 ↔ x = y := by unfold cmpI; split <;> (try split) <;> omega
theorem cmpL_zero : ∀ {a b : List Int}, cmpL a b = 0 ↔ a = b
 | [], [] => by simp [cmpL]
 | [], _ :: _ => by simp [cmpL]
 | _ :: _, [] => by simp [cmpL]
 | x :: a, y :: b => by
   unfold cmpL
   by_cases h : cmpI x y = 0
   · rw [if_neg (by simpa using h), cmpL_zero, cmpI_zero.1 h]; simp
   · rw [if_pos (by simpa using h)]
     constructor
     · intro h'; exact absurd h' h
     · intro h'; exact absurd (cmpI_zero.2 (List.cons.inj h').1) h
theorem cmpL_swap : ∀ {a b : List Int}, 0 < cmpL a b ↔ cmpL b a < 0
 | [], [] => by simp [cmpL]
 | [], _ :: _ => by simp [cmpL]
 | _ :: _, [] => by simp [cmpL]
 | x :: a, y :: b => by
   unfold cmpL
   by_cases h : cmpI x y = 0
   · have h2 := cmpI_zero.1 h
     subst h2
     rw [if_neg (by simpa using h), if_neg (by simpa using h)]; exact cmpL_swap
   · rw [if_pos (by simpa using h), if_pos (by have : ¬ cmpI y x = 0 := fun e => h (by rw [cmpI_zero] at *; exact e.symm)
                                               simpa using this), cmpI_gt, cmpI_lt]
theorem cmpL_trans : ∀ {a b c : List Int}, cmpL a b < 0 → cmpL b c < 0 → cmpL a c < 0
 | [], _, [], h1, h2 => by
   rename_i b
   cases b <;> simp [cmpL] at h1 h2
 | [], _, _ :: _, _, _ => by simp [cmpL]
 | _ :: _, [], _, h1, _ => by simp [cmpL] at h1
 | _ :: _, _ :: _, [], _, h2 => by simp [cmpL] at h2
 | x :: a, y :: b, z :: c, h1, h2 => by
   unfold cmpL at *
   by_cases e1 : cmpI x y = 0
   · have := cmpI_zero.1 e1
     subst this
     rw [if_neg (by simpa using e1)] at h1
     by_cases e2 : cmpI x z = 0
     · have := cmpI_zero.1 e2
       subst this
       rw [if_neg (by simpa using e1)] at h2 ⊢
       exact cmpL_trans h1 h2
     · rw [if_pos (by simpa using e2)] at h2 ⊢
       exact h2
   · rw [if_pos (by simpa using e1)] at h1
     by_cases e2 : cmpI y z = 0
     · have := cmpI_zero.1 e2
       subst this
       rw [if_pos (by simpa using e1)]; exact h1
     · rw [if_pos (by simpa using e2)] at h2
       rw [cmpI_lt] at h1 h2
       have : cmpI x z < 0 := cmpI_lt.2 (by omega)
       rw [if_pos (by simp; omega)]; exact this
theorem pCmpFact_L (a b : Fact) : pCmpFact a b = cmpL (a.Rel :: a.Values) (b.Rel :: b.Values) := rfl
theorem pCmpFact_zero {a b : Fact} : pCmpFact a b = 0 ↔ a = b := by
 rw [pCmpFact_L, cmpL_zero]
 constructor
 · intro h; cases a; cases b; simp at h; simp [h]
 · rintro rfl; rfl
theorem pCmpFact_swap {a b : Fact} : 0 < pCmpFact a b ↔ pCmpFact b a < 0 := by rw [pCmpFact_L, pCmpFact_L, cmpL_swap]
theorem pCmpFact_trans {a b c : Fact} : pCmpFact a b < 0 → pCmpFact b c < 0 → pCmpFact a c < 0 := by
 rw [pCmpFact_L, pCmpFact_L, pCmpFact_L]; exact cmpL_trans
def fLt (a b : Fact) : Prop := pCmpFact a b < 0
theorem pHasF_mem {l : List Fact} {f : Fact} : pHasF l f = true ↔ f ∈ l := by
 simp only [pHasF, List.any_eq_true, beq_iff_eq, pCmpFact_zero]
 constructor
 · rintro ⟨x, h, rfl⟩; exact h
 · intro h; exact ⟨f, h, rfl⟩
theorem pInsF_iff {f y : Fact} : ∀ {l : List Fact}, y ∈ pInsF f l ↔ y = f ∨ y ∈ l
 | [] => by simp [pInsF]
 | x :: l => by
   unfold pInsF
   split
   · simp
   · rw [List.mem_cons, pInsF_iff, List.mem_cons]
     constructor <;> rintro (h | h | h) <;> simp [h]
theorem pInsF_pw {f : Fact} : ∀ {l : List Fact}, l.Pairwise fLt → f ∉ l → (pInsF f l).Pairwise fLt
 | [], _, _ => by simp [pInsF]
 | x :: l, h, hn => by
   unfold pInsF
   rw [List.mem_cons, not_or] at hn
   rw [List.pairwise_cons] at h
   split
   · rename_i hx
     have hx' := pCmpFact_swap.1 hx
     rw [List.pairwise_cons, List.pairwise_cons]
     refine ⟨fun a ha => ?_, h⟩
     rcases List.mem_cons.1 ha with rfl | ha
     · exact hx'
     · exact pCmpFact_trans hx' (h.1 a ha)
   · rename_i hx
     rw [List.pairwise_cons]
     refine ⟨fun a ha => ?_, pInsF_pw h.2 hn.2⟩
     rcases pInsF_iff.1 ha with rfl | ha
     · have : pCmpFact x a ≠ 0 := fun e => hn.1 (pCmpFact_zero.1 e).symm
       show pCmpFact x a < 0
       omega
     · exact h.1 a ha
theorem pAddF_iff {l : List Fact} {f y : Fact} : y ∈ pAddF l f ↔ y = f ∨ y ∈ l := by
 unfold pAddF
 split
 · rename_i h
   rw [pHasF_mem] at h
   exact ⟨.inr, fun h' => h'.elim (fun e => e ▸ h) id⟩
 · exact pInsF_iff
theorem pAddF_pw {l : List Fact} {f : Fact} (h : l.Pairwise fLt) : (pAddF l f).Pairwise fLt := by
 unfold pAddF
 split
 · exact h
 · rename_i hn
   exact pInsF_pw h fun hm => hn (pHasF_mem.2 hm)
theorem pw_len : ∀ {a b : List Fact}, a.Pairwise fLt → (∀ x ∈ a, x ∈ b) → a.length ≤ b.length
 | [], _, _, _ => Nat.zero_le _
 | x :: a, b, h, hs => by
   rw [List.pairwise_cons] at h
   have hx := hs x (by simp)
   have h2 := pw_len (a := a) (b := b.filter fun y => !(pCmpFact y x == 0)) h.2 fun y hy => by
     have hne : ¬ pCmpFact y x = 0 := fun e => by
       have := h.1 y hy
       rw [pCmpFact_zero.1 e] at this
       have z : pCmpFact x x = 0 := pCmpFact_zero.2 rfl
       unfold fLt at this; omega
     exact List.mem_filter.2 ⟨hs y (by simp [hy]), by simpa using hne⟩
   have h3 : (b.filter fun y => !(pCmpFact y x == 0)).length < b.length := List.length_filter_lt_length_iff_exists.2 ⟨x, hx, by simp [pCmpFact_zero]⟩
   simp only [List.length_cons]; omega
theorem adj_pw {p : Fact → Bool} : ∀ (o : Option Fact) (l : List Fact), adjB p (fun y x => decide (0 ≤ pCmpFact y x)) o l = true ↔ (∀ x ∈ l, p x = true) ∧ (∀ y, o = some y → ∀ x ∈ l, fLt y x) ∧ l.Pairwise fLt
 | o, [] => by cases o <;> simp [adjB]
 | none, x :: l => by
   rw [adjB, Bool.and_eq_true, adj_pw (some x) l, List.pairwise_cons]
   simp only [List.mem_cons, forall_eq_or_imp, reduceCtorEq, false_implies, implies_true, true_and, Option.some.injEq, forall_eq']
   exact ⟨fun ⟨a, b, c, d⟩ => ⟨⟨a, b⟩, c, d⟩, fun ⟨⟨a, b⟩, c, d⟩ => ⟨a, b, c, d⟩⟩
 | some y, x :: l => by
   rw [adjB, Bool.and_eq_true, Bool.and_eq_true, adj_pw (some x) l, List.pairwise_cons]
   simp only [List.mem_cons, forall_eq_or_imp, Option.some.injEq, forall_eq', Bool.not_eq_true', decide_eq_false_iff_not, Int.not_le]
   constructor
   · rintro ⟨⟨a, b⟩, c, d, e⟩
     exact ⟨⟨a, c⟩, ⟨b, fun z hz => pCmpFact_trans b (d z hz)⟩, d, e⟩
   · rintro ⟨⟨a, c⟩, ⟨b, _⟩, d, e⟩
     exact ⟨⟨a, b⟩, c, d, e⟩
theorem pFacts_iff {s : List Int} {l : List Fact} : pFacts s l = true ↔ (∀ f ∈ l, pFact s f = true) ∧ l.Pairwise fLt ∧ pSchema s = true ∧ l.length ≤ 24 := by
 rw [pFacts, Bool.and_eq_true, adj_pw, Bool.and_eq_true, decide_eq_true_eq]
 simp only [reduceCtorEq, false_implies, implies_true, true_and]
 constructor
 · rintro ⟨⟨a, b⟩, c, d⟩; exact ⟨a, b, c, by omega⟩
 · rintro ⟨a, b, c, d⟩; exact ⟨⟨a, b⟩, c, by omega⟩
theorem pw_facts {s : List Int} {a b : List Fact} (hb : pFacts s b = true) (hp : a.Pairwise fLt) (hs : ∀ x ∈ a, x ∈ b) : pFacts s a = true := by
 rw [pFacts_iff] at *
 have := pw_len hp hs
 exact ⟨fun f hf => hb.1 f (hs f hf), hp, hb.2.2.1, by omega⟩
def pLists (v : List Int) : Nat → List (List Int)
 | 0 => [[]]
 | n + 1 => (pLists v n).flatMap fun l => v.map fun x => l ++ [x]
theorem pLists_mem {v : List Int} : ∀ {n : Nat} {x : List Int}, x ∈ pLists v n → x.length = n ∧ ∀ y ∈ x, y ∈ v
 | 0, x, h => by simp only [pLists, List.mem_singleton] at h; subst h; simp
 | n + 1, x, h => by
   simp only [pLists, List.mem_flatMap, List.mem_map] at h
   obtain ⟨l, hl, y, hy, rfl⟩ := h
   obtain ⟨h1, h2⟩ := pLists_mem hl
   refine ⟨by simp [h1], fun z hz => ?_⟩
   rw [List.mem_append, List.mem_singleton] at hz
   rcases hz with hz | rfl
   · exact h2 z hz
   · exact hy
theorem flat_len {α β : Type} (f : α → List β) (c : Nat) (hf : ∀ x, (f x).length = c) : ∀ l : List α, (l.flatMap f).length = l.length * c
 | [] => by simp
 | x :: l => by rw [List.flatMap_cons, List.length_append, hf, flat_len f c hf l, List.length_cons, Nat.succ_mul]; omega
theorem pLists_len (v : List Int) : ∀ n, (pLists v n).length = v.length ^ n
 | 0 => rfl
 | n + 1 => by rw [pLists, flat_len _ v.length (by simp), pLists_len v n, Nat.pow_succ]
theorem pLists_len3 {v : List Int} {n : Nat} (hv : v.length ≤ 10) (hn : n ≤ 3) : (pLists v n).length ≤ 1000 := by
 rw [pLists_len]
 calc v.length ^ n ≤ 10 ^ n := Nat.pow_le_pow_left hv n
   _ ≤ 10 ^ 3 := Nat.pow_le_pow_right (by omega) hn
theorem asc_len {v : List Int} (h : v.Pairwise (· < ·)) (lo : Int) (n : Nat) (hb : ∀ x ∈ v, lo ≤ x ∧ x < lo + n) : v.length ≤ n := by
 induction v generalizing lo n with
 | nil => simp
 | cons x v ih =>
   rw [List.pairwise_cons] at h
   have hx := hb x (by simp)
   have := ih h.2 (x + 1) (n - (x + 1 - lo).toNat) (fun y hy => by
     have a := h.1 y hy
     have b := hb y (by simp [hy])
     omega)
   simp only [List.length_cons]; omega
def pLogd (log : List Access) (a : Access) : Bool := log.any fun x => pSameAccess x a
def pOpenM (vs : List Int) (log : List Access) (k : Nat) (m : Method) : List Access :=
 if m.Limit != 0 then [] else ((pLists vs m.Inputs.length).filter fun v => !pLogd log { Method := (k : Int), Values := v }).map fun v => ({ Method := (k : Int), Values := v } : Access)
def pOpen (vs : List Int) (log : List Access) : List Method → Nat → List Access
 | [], _ => []
 | m :: l, k => pOpenM vs log k m ++ pOpen vs log l (k + 1)
theorem pOpenM_len {vs : List Int} {log : List Access} {k : Nat} {m : Method} (hv : vs.length ≤ 10) (hm : m.Inputs.length ≤ 3) : (pOpenM vs log k m).length ≤ 1000 := by
 unfold pOpenM
 split
 · simp
 · rw [List.length_map]; exact Nat.le_trans (List.length_filter_le ..) (pLists_len3 hv hm)
theorem pOpen_len {vs : List Int} {log : List Access} (hv : vs.length ≤ 10) : ∀ {l : List Method} {k : Nat}, (∀ m ∈ l, m.Inputs.length ≤ 3) → (pOpen vs log l k).length ≤ 1000 * l.length
 | [], _, _ => by simp [pOpen]
 | m :: l, k, h => by
   rw [pOpen, List.length_append, List.length_cons]
   have h1 := pOpenM_len (vs := vs) (log := log) (k := k) hv (h m (by simp))
   have h2 := pOpen_len (log := log) hv (l := l) (k := k + 1) fun x hx => h x (by simp [hx])
   omega
theorem pOpen_mem {vs : List Int} {log : List Access} {a : Access} : ∀ {l : List Method} {k : Nat}, a ∈ pOpen vs log l k → ∃ (j : Nat) (m : Method), l[j]? = some m ∧ a.Method = ((k + j : Nat) : Int) ∧ a.Values.length = m.Inputs.length ∧ ∀ y ∈ a.Values, y ∈ vs
 | [], _, h => by simp [pOpen] at h
 | m :: l, k, h => by
   rw [pOpen, List.mem_append] at h
   rcases h with h | h
   · unfold pOpenM at h
     split at h
     · simp at h
     · obtain ⟨v, hv, rfl⟩ := List.mem_map.1 h
       obtain ⟨h1, h2⟩ := pLists_mem (List.mem_filter.1 hv).1
       exact ⟨0, m, rfl, rfl, h1, h2⟩
   · obtain ⟨j, x, h1, h2, h3, h4⟩ := pOpen_mem h
     exact ⟨j + 1, x, by simpa using h1, by rw [h2]; congr 1; omega, h3, h4⟩
theorem adj_asc : ∀ (o : Option Int) (l : List Int), adjB (fun _ => true) (fun y x => decide (x ≤ y)) o l = true ↔ (∀ y, o = some y → ∀ x ∈ l, y < x) ∧ l.Pairwise (· < ·)
 | o, [] => by cases o <;> simp [adjB]
 | none, x :: l => by
   rw [adjB, Bool.true_and, adj_asc (some x) l, List.pairwise_cons]
   simp
 | some y, x :: l => by
   rw [adjB, Bool.and_eq_true, Bool.and_eq_true, adj_asc (some x) l, List.pairwise_cons]
   simp only [List.mem_cons, forall_eq_or_imp, Option.some.injEq, forall_eq', Bool.not_eq_true', decide_eq_false_iff_not, Int.not_le, true_and]
   constructor
   · rintro ⟨b, d, e⟩
     exact ⟨⟨b, fun z hz => Int.lt_trans b (d z hz)⟩, d, e⟩
   · rintro ⟨⟨b, _⟩, d, e⟩
     exact ⟨b, d, e⟩
theorem pMethod_ins {s : List Int} {m : Method} (h : pMethod s m = true) : m.Inputs.length ≤ 3 := by
 simp only [pMethod, Bool.and_eq_true, List.all_eq_true] at h
 obtain ⟨h1, -, -, -, h2, h3⟩ := h
 have h4 := ((adj_asc none _).1 h2).2
 have h5 := pAr_ix h1
 refine asc_len h4 0 3 fun x hx => ?_
 have := h3 x hx
 simp only [pIn, Bool.and_eq_true, decide_eq_true_eq] at this
 omega
theorem pOpen_acc {s : List Int} {l : List Method} {vs : List Int} {log : List Access} (hl : pMethods s l = true) (hv : ∀ v ∈ vs, 0 ≤ v ∧ v ≤ 9) {a : Access} (h : a ∈ pOpen vs log l 0) : pAccess s l a = true := by
 obtain ⟨j, m, h1, h2, h3, h4⟩ := pOpen_mem h
 have hj : j < l.length := (List.getElem?_eq_some_iff.1 h1).1
 have hi : pIn 0 ((l.length : Int) - 1) a.Method = true := by rw [h2]; simp only [pIn, Bool.and_eq_true, decide_eq_true_eq]; omega
 have hm : pMeth l a.Method = m := by
   unfold pMeth
   rw [h2, Nat.zero_add, ix_nat, h1]; rfl
 simp only [pAccess, Bool.and_eq_true]
 refine ⟨hl, hi, ?_, ?_⟩
 · rw [hm, h3]; simp
 · rw [List.all_eq_true]
   intro y hy
   have := hv y (h4 y hy)
   simp only [pIn, Bool.and_eq_true, decide_eq_true_eq]; omega
def pGot (l : List Method) (facts : List Fact) (a : Access) : List Fact := facts.filter (pFits (pMeth l a.Method) a.Values)
def pTellF (l : List Method) (facts : List Fact) (fs : List Fact) (a : Access) : List Fact := (pGot l facts a).foldl pAddF fs
def pPuts (vs : List Int) (f : Fact) : List Int := f.Values.foldl pPut vs
def pTellV (l : List Method) (facts : List Fact) (vs : List Int) (a : Access) : List Int := (pGot l facts a).foldl pPuts vs
def pTold (l : List Method) (facts : List Fact) (r : Reached) : Reached :=
 let o := pOpen r.Values r.Log l 0
 { Facts := o.foldl (pTellF l facts) r.Facts, Values := o.foldl (pTellV l facts) r.Values, Log := r.Log ++ o, Rounds := r.Rounds + (if o = [] then 0 else 1) }
structure RInv (s : List Int) (l : List Method) (facts : List Fact) (n : Nat) (r : Reached) : Prop where
 pw : r.Facts.Pairwise fLt
 sub : ∀ f ∈ r.Facts, f ∈ facts
 asc : r.Values.Pairwise (· < ·)
 vals : ∀ v ∈ r.Values, 0 ≤ v ∧ v ≤ 9
 loglen : r.Log.length ≤ 5000 * n
 log : ∀ a ∈ r.Log, pAccess s l a = true
 rounds : r.Rounds = (n : Int)
theorem addFs_inv {facts : List Fact} : ∀ {g fs : List Fact}, (∀ f ∈ g, f ∈ facts) → fs.Pairwise fLt → (∀ f ∈ fs, f ∈ facts) → (g.foldl pAddF fs).Pairwise fLt ∧ ∀ f ∈ g.foldl pAddF fs, f ∈ facts
 | [], _, _, h1, h2 => ⟨h1, h2⟩
 | x :: g, fs, hg, h1, h2 => by
   rw [List.foldl_cons]
   refine addFs_inv (fun f hf => hg f (by simp [hf])) (pAddF_pw h1) fun f hf => ?_
   rcases pAddF_iff.1 hf with rfl | hf
   · exact hg f (by simp)
   · exact h2 f hf
def VOk (vs : List Int) : Prop := vs.Pairwise (· < ·) ∧ ∀ v ∈ vs, 0 ≤ v ∧ v ≤ 9
theorem VOk_len {vs : List Int} (h : VOk vs) : vs.length ≤ 10 := asc_len h.1 0 10 fun x hx => by have := h.2 x hx; omega
theorem pPuts_ok {vs : List Int} {f : Fact} (h : VOk vs) (hf : ∀ v ∈ f.Values, 0 ≤ v ∧ v ≤ 9) : VOk (pPuts vs f) :=
 ⟨puts_ss h.1, fun v hv => by
   rcases puts_mem.1 hv with hv | hv
   · exact h.2 v hv
   · exact hf v hv⟩
theorem pPutss_ok : ∀ {g : List Fact} {vs : List Int}, VOk vs → (∀ f ∈ g, ∀ v ∈ f.Values, 0 ≤ v ∧ v ≤ 9) → VOk (g.foldl pPuts vs)
 | [], _, h, _ => h
 | x :: g, vs, h, hg => pPutss_ok (g := g) (pPuts_ok h (hg x (by simp))) fun f hf => hg f (by simp [hf])
theorem pFact_vals {s : List Int} {f : Fact} (h : pFact s f = true) : f.Values.length ≤ 3 ∧ ∀ v ∈ f.Values, 0 ≤ v ∧ v ≤ 9 := by
 simp only [pFact, Bool.and_eq_true, beq_iff_eq] at h
 obtain ⟨h1, h2, h3⟩ := h
 have := pAr_ix h1
 refine ⟨by omega, fun v hv => ?_⟩
 have := List.all_eq_true.1 h3 v hv
 simp only [pIn, Bool.and_eq_true, decide_eq_true_eq] at this
 omega
theorem tellF_inv {l : List Method} {facts : List Fact} : ∀ {o : List Access} {fs : List Fact}, fs.Pairwise fLt → (∀ f ∈ fs, f ∈ facts) → (o.foldl (pTellF l facts) fs).Pairwise fLt ∧ ∀ f ∈ o.foldl (pTellF l facts) fs, f ∈ facts
 | [], _, h1, h2 => ⟨h1, h2⟩
 | a :: o, fs, h1, h2 => by
   have := addFs_inv (facts := facts) (g := pGot l facts a) (fs := fs) (fun f hf => (List.mem_filter.1 hf).1) h1 h2
   rw [List.foldl_cons]
   exact tellF_inv this.1 this.2
theorem tellV_ok {s : List Int} {l : List Method} {facts : List Fact} (hf : ∀ f ∈ facts, pFact s f = true) : ∀ {o : List Access} {vs : List Int}, VOk vs → VOk (o.foldl (pTellV l facts) vs)
 | [], _, h => h
 | a :: o, vs, h => by
   rw [List.foldl_cons]
   exact tellV_ok hf (pPutss_ok h fun f hg => (pFact_vals (hf f (List.mem_filter.1 hg).1)).2)
theorem pTold_inv {s : List Int} {l : List Method} {facts : List Fact} {n : Nat} {r : Reached} (hl : pMethods s l = true) (hf : pFacts s facts = true) (h : RInv s l facts n r) (ho : pOpen r.Values r.Log l 0 ≠ []) : RInv s l facts (n + 1) (pTold l facts r) := by
 have h5 : l.length ≤ 5 := by
   simp only [pMethods, Bool.and_eq_true, decide_eq_true_eq] at hl; omega
 have hm : ∀ m ∈ l, m.Inputs.length ≤ 3 := fun m hm => by
   simp only [pMethods, Bool.and_eq_true] at hl
   exact pMethod_ins (List.all_eq_true.1 hl.2.2 m hm)
 have hF := tellF_inv (l := l) (o := pOpen r.Values r.Log l 0) h.pw h.sub
 have hV := tellV_ok (l := l) (pFacts_all hf) (o := pOpen r.Values r.Log l 0) ⟨h.asc, h.vals⟩
 refine ⟨hF.1, hF.2, hV.1, hV.2, ?_, ?_, ?_⟩
 · show (r.Log ++ _).length ≤ _
   have := pOpen_len (vs := r.Values) (log := r.Log) (VOk_len ⟨h.asc, h.vals⟩) (l := l) (k := 0) hm
   have := h.loglen
   rw [List.length_append]; omega
 · intro a ha
   rcases List.mem_append.1 ha with ha | ha
   · exact h.log a ha
   · exact pOpen_acc hl h.vals ha
 · show r.Rounds + _ = _
   rw [if_neg ho, h.rounds]; omega
theorem i_isValue_eq (n : Int) : i_isValue n = some (pIn 0 9 n) := rfl
theorem s_l8Lists_L5_eq (C : List (List Int)) (j : Int) (x : List Int) (hx : ix C j = some x) (hl : x.length + 1 < 4294967296) : ∀ (l : List Int) (i : Nat) (c : List (List Int)), c.length + l.length < 4294967296 → s_l8Lists_L5 C j l i c = some (c ++ l.map fun y => x ++ [y])
 | [], i, c, _ => by simp [s_l8Lists_L5]
 | y :: l, i, c, h => by
   simp only [List.length_cons] at h
   unfold s_l8Lists_L5
   rw [hx, Option.bind_some, app_nil (by omega), Option.bind_some, app_ok (by simp; omega), Option.bind_some, app_ok (by simp; omega), Option.bind_some, s_l8Lists_L5_eq C j x hx hl l _ _ (by simp; omega)]
   simp
theorem i_lists_L4_eq (x : List Int) (hl : x.length + 1 < 4294967296) : ∀ (l : List Int) (i : Nat) (c : List (List Int)), c.length + l.length < 4294967296 → i_lists_L4 x l i c = some (c ++ l.map fun y => x ++ [y])
 | [], i, c, _ => by simp [i_lists_L4]
 | y :: l, i, c, h => by
   simp only [List.length_cons] at h
   unfold i_lists_L4
   rw [g_slices_Clone_int_int_eq x (by omega), Option.bind_some, app_ok (by simp; omega), Option.bind_some, app_ok (by simp; omega), Option.bind_some, i_lists_L4_eq x hl l _ _ (by simp; omega)]
   simp
theorem s_l8Lists_L2_eq (v : List Int) (C : List (List Int)) (hC : ∀ x ∈ C, x.length + 1 < 4294967296) (hb : C.length < 4294967296) : ∀ (m i : Nat) (c : List (List Int)), i ≤ C.length → C.length - i < m → c.length + (C.length - i) * v.length < 4294967296 → s_l8Lists_L2 v m C c (i : Int) = some (c ++ (C.drop i).flatMap fun l => v.map fun x => l ++ [x]) := by
 intro m
 induction m with
 | zero => intro i c _ h _; omega
 | succ m ih =>
   intro i c hi hm hc
   unfold s_l8Lists_L2
   by_cases hlt : i < C.length
   · have e : C.length - i = (C.length - (i + 1)) + 1 := by omega
     rw [e, Nat.add_mul, Nat.one_mul] at hc
     rw [if_pos (by simpa using hlt), s_l8Lists_L5_eq C (i : Int) C[i] (by rw [ix_nat, List.getElem?_eq_getElem hlt]) (hC _ (List.getElem_mem hlt)) v 0 c (by omega), Option.bind_some]
     dsimp only
     rw [show IntKind.i64.wrap ((i : Int) + 1) = ((i + 1 : Nat) : Int) from by rw [wrap_in (by omega) (by omega)]; rfl, ih (i + 1) _ (by omega) (by omega) (by simp; omega), List.drop_eq_getElem_cons hlt, List.flatMap_cons, List.append_assoc]
   · rw [if_neg (by simpa using hlt), List.drop_eq_nil_of_le (by omega)]; simp
theorem i_lists_L2_eq (v : List Int) : ∀ (l : List (List Int)) (i : Nat) (c : List (List Int)), (∀ x ∈ l, x.length + 1 < 4294967296) → c.length + l.length * v.length < 4294967296 → i_lists_L2 v l i c = some (c ++ l.flatMap fun l => v.map fun x => l ++ [x])
 | [], i, c, _, _ => by simp [i_lists_L2]
 | x :: l, i, c, hx, h => by
   simp only [List.length_cons, Nat.add_mul, Nat.one_mul] at h
   unfold i_lists_L2
   rw [i_lists_L4_eq x (hx x (by simp)) v 0 c (by omega), Option.bind_some]
   dsimp only
   rw [i_lists_L2_eq v l _ _ (fun y hy => hx y (by simp [hy])) (by simp; omega), List.flatMap_cons, List.append_assoc]
theorem pLists_mul {v : List Int} {n : Nat} (hv : v.length ≤ 10) (hn : n ≤ 3) : (pLists v n).length * v.length ≤ 10000 := by
 have := pLists_len3 (v := v) hv hn
 calc (pLists v n).length * v.length ≤ 1000 * 10 := Nat.mul_le_mul this hv
   _ = 10000 := rfl
theorem s_l8Lists_eq (v : List Int) (n : Nat) (hv : v.length ≤ 10) (hn : n ≤ 3) : s_l8Lists v (n : Int) = some (pLists v n) := by
 have key : ∀ (m i : Nat), i ≤ n → n - i < m → s_l8Lists_L1 v (n : Int) m (pLists v i) (i : Int) = some (pLists v n) := by
   intro m
   induction m with
   | zero => intro i _ h; omega
   | succ m ih =>
     intro i hi hm
     unfold s_l8Lists_L1
     by_cases hlt : i < n
     · have h1 := pLists_mul (v := v) (n := i) hv (by omega)
       have h2 := pLists_len3 (v := v) (n := i) hv (by omega)
       rw [if_pos (by simpa using hlt), show (((pLists v i).length : Int) - 0).toNat + 2 = (pLists v i).length + 2 by omega, show (0 : Int) = ((0 : Nat) : Int) from rfl,
         s_l8Lists_L2_eq v _ (fun x hx => by have := (pLists_mem hx).1; omega) (by omega) _ 0 [] (by omega) (by omega) (by simp; omega), Option.bind_some]
       dsimp only
       rw [show IntKind.i64.wrap ((i : Int) + 1) = ((i + 1 : Nat) : Int) from by rw [wrap_in (by omega) (by omega)]; rfl, List.nil_append, List.drop_zero]
       exact ih (i + 1) (by omega) (by omega)
     · rw [if_neg (by simpa using hlt)]
       have : i = n := by omega
       rw [this]
 have := key (((n : Int) - 0).toNat + 2) 0 (by omega) (by omega)
 exact this
theorem i_lists_eq (v : List Int) (n : Nat) (hv : v.length ≤ 10) (hn : n ≤ 3) : i_lists v (n : Int) = some (pLists v n) := by
 have key : ∀ (m i : Nat), i ≤ n → n - i < m → i_lists_L1 v (n : Int) m (pLists v i) (i : Int) = some (pLists v n) := by
   intro m
   induction m with
   | zero => intro i _ h; omega
   | succ m ih =>
     intro i hi hm
     unfold i_lists_L1
     by_cases hlt : i < n
     · have h1 := pLists_mul (v := v) (n := i) hv (by omega)
       have h2 := pLists_len3 (v := v) (n := i) hv (by omega)
       rw [if_pos (by simpa using hlt), i_lists_L2_eq v _ 0 [] (fun x hx => by have := (pLists_mem hx).1; omega) (by simp; omega), Option.bind_some]
       dsimp only
       rw [show IntKind.i64.wrap ((i : Int) + 1) = ((i + 1 : Nat) : Int) from by rw [wrap_in (by omega) (by omega)]; rfl, List.nil_append]
       exact ih (i + 1) (by omega) (by omega)
     · rw [if_neg (by simpa using hlt)]
       have : i = n := by omega
       rw [this]
 have := key (((n : Int) - 0).toNat + 2) 0 (by omega) (by omega)
 exact this
theorem s_logd (log : List Access) (a : Access) : s_l7Logged log a = some (pLogd log a) := s_l7Logged_eq log a
theorem i_logd (l : List Access) (a : Access) : i_hasAccess l a = some (pLogd l a) := i_hasAccess_eq l a
theorem s_l8Open_L2_eq (r : Reached) (k : Nat) (l : List (List Int)) (c : List Access) (hl : ∀ x ∈ l, x.length < 4294967296) (hc : c.length + l.length < 4294967296) : s_l8Open_L2 r k l 0 c = some (c ++ (l.filter fun v => !pLogd r.Log { Method := (k : Int), Values := v }).map fun v => ({ Method := (k : Int), Values := v } : Access)) :=
 fm_loop (L := s_l8Open_L2 r k) (P := fun x => x.length < 4294967296) (p := fun v => !pLogd r.Log { Method := (k : Int), Values := v }) (g := fun v => ({ Method := (k : Int), Values := v } : Access)) (fun _ _ => rfl) (fun x t i c hx hc => by
   rw [s_l8Open_L2, s_l8Access_eq _ _ hx, Option.bind_some, s_logd, Option.bind_some]
   cases pLogd r.Log { Method := (k : Int), Values := x }
   · simp [app1 hc]
   · simp) l 0 c hl hc
theorem i_Reached_open_L2_eq (r : Reached) (k : Nat) (l : List (List Int)) (c : List Access) (hc : c.length + l.length < 4294967296) : i_Reached_open_L2 r k l 0 c = some (c ++ (l.filter fun v => !pLogd r.Log { Method := (k : Int), Values := v }).map fun v => ({ Method := (k : Int), Values := v } : Access)) :=
 fm_loop (L := i_Reached_open_L2 r k) (P := fun _ => True) (p := fun v => !pLogd r.Log { Method := (k : Int), Values := v }) (g := fun v => ({ Method := (k : Int), Values := v } : Access)) (fun _ _ => rfl) (fun x t i c hx hc => by
   rw [i_Reached_open_L2, i_logd, Option.bind_some]
   cases pLogd r.Log { Method := (k : Int), Values := x }
   · simp [app1 hc]
   · simp) l 0 c (fun _ _ => trivial) hc
theorem s_l8Open_L1_eq (r : Reached) (hv : r.Values.length ≤ 10) : ∀ (l : List Method) (k : Nat) (c : List Access), (∀ m ∈ l, m.Inputs.length ≤ 3) → c.length + 1000 * l.length < 4294967296 → s_l8Open_L1 r l k c = some (c ++ pOpen r.Values r.Log l k)
 | [], k, c, _, _ => by simp [s_l8Open_L1, pOpen]
 | m :: l, k, c, hm, hc => by
   simp only [List.length_cons] at hc
   have h3 := hm m (by simp)
   have e : (if ((m.Limit : Int) != 0) then some c else (s_l8Lists r.Values (m.Inputs.length : Int)).bind fun r25 => s_l8Open_L2 r k r25 0 c) = some (c ++ pOpenM r.Values r.Log k m) := by
     unfold pOpenM
     split
     · simp
     · have := pLists_len3 (v := r.Values) hv h3
       rw [s_l8Lists_eq _ _ hv h3, Option.bind_some, s_l8Open_L2_eq r k _ c (fun x hx => by have := (pLists_mem hx).1; omega) (by omega)]
   have h4 := pOpenM_len (vs := r.Values) (log := r.Log) (k := k) hv h3
   unfold s_l8Open_L1
   rw [e, Option.bind_some]
   dsimp only
   rw [s_l8Open_L1_eq r hv l _ _ (fun x hx => hm x (by simp [hx])) (by simp; omega), pOpen, List.append_assoc]
theorem i_Reached_open_L1_eq (r : Reached) (hv : r.Values.length ≤ 10) : ∀ (l : List Method) (k : Nat) (c : List Access), (∀ m ∈ l, m.Inputs.length ≤ 3) → c.length + 1000 * l.length < 4294967296 → i_Reached_open_L1 r l k c = some (c ++ pOpen r.Values r.Log l k, r)
 | [], k, c, _, _ => by simp [i_Reached_open_L1, pOpen]
 | m :: l, k, c, hm, hc => by
   simp only [List.length_cons] at hc
   have h3 := hm m (by simp)
   have e : (if ((m.Limit : Int) != 0) then some c else (i_lists r.Values (m.Inputs.length : Int)).bind fun r25 => i_Reached_open_L2 r k r25 0 c) = some (c ++ pOpenM r.Values r.Log k m) := by
     unfold pOpenM
     split
     · simp
     · have := pLists_len3 (v := r.Values) hv h3
       rw [i_lists_eq _ _ hv h3, Option.bind_some, i_Reached_open_L2_eq r k _ c (by omega)]
   have h4 := pOpenM_len (vs := r.Values) (log := r.Log) (k := k) hv h3
   unfold i_Reached_open_L1
   rw [e, Option.bind_some]
   dsimp only
   rw [i_Reached_open_L1_eq r hv l _ _ (fun x hx => hm x (by simp [hx])) (by simp; omega), pOpen, List.append_assoc]
theorem pMethods_ins {s : List Int} {l : List Method} (hl : pMethods s l = true) : l.length ≤ 5 ∧ ∀ m ∈ l, m.Inputs.length ≤ 3 := by
 simp only [pMethods, Bool.and_eq_true, decide_eq_true_eq] at hl
 exact ⟨by omega, fun m hm => pMethod_ins (List.all_eq_true.1 hl.2.2 m hm)⟩
theorem s_l8Open_eq {s : List Int} (l : List Method) (r : Reached) (hl : pMethods s l = true) (hv : r.Values.length ≤ 10) : s_l8Open l r = some (pOpen r.Values r.Log l 0) := by
 obtain ⟨h1, h2⟩ := pMethods_ins hl
 rw [s_l8Open, s_l8Open_L1_eq r hv l 0 [] h2 (by simp; omega), List.nil_append]
theorem i_Reached_open_eq {s : List Int} (l : List Method) (r : Reached) (hl : pMethods s l = true) (hv : r.Values.length ≤ 10) : i_Reached_open r l = some (pOpen r.Values r.Log l 0, r) := by
 obtain ⟨h1, h2⟩ := pMethods_ins hl
 rw [i_Reached_open, i_Reached_open_L1_eq r hv l 0 [] h2 (by simp; omega), List.nil_append]
theorem g_slices_Concat2_eq (a b : List Int) (h : a.length + b.length < 4294967296) : g_slices_Concat_int_int [a, b] = some (a ++ b) := by
 unfold g_slices_Concat_int_int g_slices_Concat_int_int_L1
 rw [wrap_in (by omega) (by omega), if_neg (by simp only [decide_eq_true_eq]; omega), Option.bind_some]
 dsimp only
 unfold g_slices_Concat_int_int_L1
 rw [wrap_in (by omega) (by omega), if_neg (by simp only [decide_eq_true_eq]; omega), Option.bind_some]
 dsimp only
 unfold g_slices_Concat_int_int_L1 g_slices_Grow_int_int_nil
 rw [if_pos (by omega), Option.bind_some]
 unfold g_slices_Concat_int_int_L2
 rw [app_nil (by omega), Option.bind_some]
 unfold g_slices_Concat_int_int_L2
 rw [app_ok (by omega), Option.bind_some]
 rfl
theorem i_withValues_L1_eq (R : List Int) (hR : R.length < 4294967296) : ∀ (m i : Nat) (c : List Int), i ≤ R.length → R.length - i < m → c.length + (R.length - i) < 4294967296 → i_withValues_L1 R m c (i : Int) = some (Lib.compact ((c ++ (R.drop i).filter (pIn 0 9)).mergeSort fun x y => decide (x ≤ y))) := by
 intro m
 induction m with
 | zero => intro i c _ h _; omega
 | succ m ih =>
   intro i c hi hm hc
   unfold i_withValues_L1
   by_cases hlt : i < R.length
   · rw [if_pos (by simpa using hlt), ix_nat, List.getElem?_eq_getElem hlt, Option.bind_some, i_isValue_eq, Option.bind_some, List.drop_eq_getElem_cons hlt, List.filter_cons]
     cases hp : pIn 0 9 R[i]
     · rw [if_neg (by simp), Option.bind_some, if_neg (by simp)]
       dsimp only
       rw [show IntKind.i64.wrap ((i : Int) + 1) = ((i + 1 : Nat) : Int) from by rw [wrap_in (by omega) (by omega)]; rfl, ih (i + 1) _ (by omega) (by omega) (by omega)]
     · rw [if_pos rfl, app_ok (by simp; omega), Option.bind_some, Option.bind_some, if_pos rfl]
       dsimp only
       rw [show IntKind.i64.wrap ((i : Int) + 1) = ((i + 1 : Nat) : Int) from by rw [wrap_in (by omega) (by omega)]; rfl, ih (i + 1) _ (by omega) (by omega) (by simp; omega)]
       simp
   · rw [if_neg (by simpa using hlt), List.drop_eq_nil_of_le (by omega)]
     simp [g_slices_Sort_int_int, g_slices_Compact_int_int]
theorem i_withValues_eq (a b : List Int) (h : a.length + b.length < 4294967296) : i_withValues a b = some (((a ++ b).filter (pIn 0 9)).foldl pPut []) := by
 unfold i_withValues
 rw [g_slices_Concat2_eq a b h, Option.bind_some, show (((a ++ b).length : Int) - 0).toNat + 2 = (a ++ b).length + 2 by omega, show (0 : Int) = ((0 : Nat) : Int) from rfl,
   i_withValues_L1_eq (a ++ b) (by simp; omega) _ 0 [] (by omega) (by omega) (by simp; omega), puts_sort]
 simp
theorem puts_asc {v : List Int} (h : v.Pairwise (· < ·)) : v.foldl pPut [] = v :=
 ss_ext (puts_ss (by simp)) h fun x => by rw [puts_mem]; simp
theorem i_withValues_vok {vs b : List Int} (h : VOk vs) (hb : ∀ v ∈ b, 0 ≤ v ∧ v ≤ 9) (hl : b.length < 1000000) : i_withValues vs b = some (b.foldl pPut vs) := by
 have := VOk_len h
 have e : ∀ l : List Int, (∀ v ∈ l, 0 ≤ v ∧ v ≤ 9) → l.filter (pIn 0 9) = l := fun l hl => List.filter_eq_self.2 fun v hv => by
   have := hl v hv
   simp only [pIn, Bool.and_eq_true, decide_eq_true_eq]; omega
 rw [i_withValues_eq vs b (by omega), e (vs ++ b) (fun v hv => (List.mem_append.1 hv).elim (h.2 v) (hb v)), List.foldl_append, puts_asc h.1]
theorem s_l8Step_L24_eq (f : Fact) (F : List Fact) (hf : f.Values.length < 1000000) : ∀ (m i : Nat) (c : List Int), i ≤ f.Values.length → f.Values.length - i < m → c.length + (f.Values.length - i) < 4294967295 → s_l8Step_L24 f F m c (i : Int) = some (F, (f.Values.drop i).foldl pPut c) := by
 intro m
 induction m with
 | zero => intro i c _ h _; omega
 | succ m ih =>
   intro i c hi hm hc
   unfold s_l8Step_L24
   by_cases hlt : i < f.Values.length
   · have := pPut_len (l := c) (x := f.Values[i])
     rw [if_pos (by simpa using hlt), ix_nat, List.getElem?_eq_getElem hlt, Option.bind_some, s_l3Put_eq _ _ (by omega), Option.bind_some, show IntKind.i64.wrap ((i : Int) + 1) = ((i + 1 : Nat) : Int) from by rw [wrap_in (by omega) (by omega)]; rfl,
       ih (i + 1) _ (by omega) (by omega) (by omega), List.drop_eq_getElem_cons hlt, List.foldl_cons]
   · rw [if_neg (by simpa using hlt), List.drop_eq_nil_of_le (by omega)]; rfl
theorem bd_FactOf {s : List Int} {f : Fact} (h : pFact s f = true) : bd_Fact f := bdL_flat _ (by have := (pFact_vals h).1; omega)
theorem bdL_Facts {s : List Int} {l : List Fact} (h : ∀ f ∈ l, pFact s f = true) (hl : l.length < 4294967296) : bdL bd_Fact l := ⟨hl, fun f hf => bd_FactOf (h f hf)⟩
theorem addFs_len : ∀ {g fs : List Fact}, (g.foldl pAddF fs).length ≤ fs.length + g.length
 | [], _ => by simp
 | x :: g, fs => by
   rw [List.foldl_cons]
   have h1 := addFs_len (g := g) (fs := pAddF fs x)
   have h2 := pAddF_len fs x
   simp only [List.length_cons]; omega
theorem s_l8Step_L21_eq {s : List Int} (z : List Access) : ∀ (g : List Fact) (k : Nat) (fs : List Fact) (vs : List Int), (∀ f ∈ g, pFact s f = true) → (∀ f ∈ fs, pFact s f = true) → VOk vs → fs.length + g.length < 1000000 → s_l8Step_L21 z g k fs vs = some (g.foldl pAddF fs, g.foldl pPuts vs, z)
 | [], k, fs, vs, _, _, _, _ => rfl
 | f :: g, k, fs, vs, hg, hfs, hv, hl => by
   simp only [List.length_cons] at hl
   have hf := hg f (by simp)
   have h1 := pFact_vals hf
   have h2 := VOk_len hv
   have h3 := pAddF_len fs f
   unfold s_l8Step_L21
   rw [s_AddFact_eq fs f (bdL_Facts hfs (by omega)) (by omega) (bd_FactOf hf), Option.bind_some, show ((f.Values.length : Int) - 0).toNat + 2 = f.Values.length + 2 by omega, show (0 : Int) = ((0 : Nat) : Int) from rfl,
     s_l8Step_L24_eq f _ (by omega) _ 0 vs (by omega) (by omega) (by omega), Option.bind_some]
   dsimp only
   rw [List.drop_zero, show f.Values.foldl pPut vs = pPuts vs f from rfl, s_l8Step_L21_eq (s := s) z g _ _ _ (fun x hx => hg x (by simp [hx])) (fun x hx => (pAddF_iff.1 hx).elim (fun e => e ▸ hf) (hfs x)) (pPuts_ok hv h1.2) (by omega)]
   rfl
theorem i_Reached_told_L4_eq {s : List Int} (z : List Access) : ∀ (g : List Fact) (k : Nat) (fs : List Fact) (vs : List Int), (∀ f ∈ g, pFact s f = true) → (∀ f ∈ fs, pFact s f = true) → VOk vs → fs.length + g.length < 1000000 → i_Reached_told_L4 z g k fs vs = some (g.foldl pAddF fs, g.foldl pPuts vs, z)
 | [], k, fs, vs, _, _, _, _ => rfl
 | f :: g, k, fs, vs, hg, hfs, hv, hl => by
   simp only [List.length_cons] at hl
   have hf := hg f (by simp)
   have h1 := pFact_vals hf
   have h3 := pAddF_len fs f
   unfold i_Reached_told_L4
   rw [i_added_eq fs f (by omega) (bd_FactOf hf), Option.bind_some, i_withValues_vok hv h1.2 (by omega), Option.bind_some, show f.Values.foldl pPut vs = pPuts vs f from rfl,
     i_Reached_told_L4_eq (s := s) z g _ _ _ (fun x hx => hg x (by simp [hx])) (fun x hx => (pAddF_iff.1 hx).elim (fun e => e ▸ hf) (hfs x)) (pPuts_ok hv h1.2) (by omega)]
   rfl
theorem pAccess_ix {s : List Int} {l : List Method} {a : Access} (h : pAccess s l a = true) : ix l a.Method = some (pMeth l a.Method) := by
 simp only [pAccess, Bool.and_eq_true] at h
 exact (pMeth_ix h.2.1).1
theorem pGot_ok {s : List Int} {l : List Method} {facts : List Fact} (hf : pFacts s facts = true) (a : Access) : (∀ f ∈ pGot l facts a, pFact s f = true) ∧ (pGot l facts a).length ≤ 24 ∧ ∀ f ∈ pGot l facts a, f ∈ facts :=
 ⟨fun f h => pFacts_all hf f (List.mem_filter.1 h).1, Nat.le_trans (List.length_filter_le ..) (pFacts_iff.1 hf).2.2.2, fun f h => (List.mem_filter.1 h).1⟩
theorem s_l8Step_L1_eq {s : List Int} {l : List Method} {facts : List Fact} (r r3 : Reached) (r7 : List Access) (hf : pFacts s facts = true) : ∀ (o : List Access) (k : Nat) (fs : List Fact) (vs : List Int) (log : List Access), (∀ a ∈ o, pAccess s l a = true) → fs.Pairwise fLt → (∀ f ∈ fs, f ∈ facts) → VOk vs → log.length + o.length < 4294967296 →
   s_l8Step_L1 l facts r r3 r7 o k fs vs log = s_l8Step_L1 l facts r r3 r7 [] 0 (o.foldl (pTellF l facts) fs) (o.foldl (pTellV l facts) vs) (log ++ o)
 | [], k, fs, vs, log, _, _, _, _, _ => by rw [List.append_nil]; rfl
 | a :: o, k, fs, vs, log, ha, h1, h2, hv, hl => by
   simp only [List.length_cons] at hl
   have haa := ha a (by simp)
   obtain ⟨g1, g2, g3⟩ := pGot_ok (l := l) hf a
   have g4 := pw_facts hf h1 h2
   have g5 := (pFacts_iff.1 g4).2.2.2
   have hF := addFs_inv (facts := facts) g3 h1 h2
   have e : s_l5Matches (pMeth l a.Method) a.Values facts = some (pGot l facts a) := s_l5Matches_eq _ _ _ (fun f hf' => pFitOK_of haa (pFacts_all hf f hf')) (bdL_Facts (pFacts_all hf) (by have := (pFacts_iff.1 hf).2.2.2; omega))
   conv => lhs; rw [s_l8Step_L1, app1 (by omega), Option.bind_some, pAccess_ix haa, Option.bind_some, e, Option.bind_some, s_l8Step_L21_eq (s := s) _ _ _ _ _ g1 (pFacts_all g4) hv (by omega), Option.bind_some]
   dsimp only
   rw [s_l8Step_L1_eq r r3 r7 hf o _ _ _ _ (fun x hx => ha x (by simp [hx])) hF.1 hF.2 (pPutss_ok hv fun f hf' => (pFact_vals (g1 f hf')).2) (by simp; omega), List.append_assoc]
   rfl
theorem i_Reached_told_L1_eq {s : List Int} {l : List Method} {facts : List Fact} (r : Reached) (r1 : List Access × Reached) (hf : pFacts s facts = true) : ∀ (o : List Access) (k : Nat) (fs : List Fact) (vs : List Int) (log : List Access), (∀ a ∈ o, pAccess s l a = true) → fs.Pairwise fLt → (∀ f ∈ fs, f ∈ facts) → VOk vs → log.length + o.length < 4294967296 →
   i_Reached_told_L1 r l facts r1 o k fs vs log = i_Reached_told_L1 r l facts r1 [] 0 (o.foldl (pTellF l facts) fs) (o.foldl (pTellV l facts) vs) (log ++ o)
 | [], k, fs, vs, log, _, _, _, _, _ => by rw [List.append_nil]; rfl
 | a :: o, k, fs, vs, log, ha, h1, h2, hv, hl => by
   simp only [List.length_cons] at hl
   have haa := ha a (by simp)
   obtain ⟨g1, g2, g3⟩ := pGot_ok (l := l) hf a
   have g4 := pw_facts hf h1 h2
   have g5 := (pFacts_iff.1 g4).2.2.2
   have hF := addFs_inv (facts := facts) g3 h1 h2
   have e : i_matches l facts a = some (pGot l facts a) := i_matches_eq s l facts a haa (pFacts_all hf) (bdL_Facts (pFacts_all hf) (by have := (pFacts_iff.1 hf).2.2.2; omega))
   conv => lhs; rw [i_Reached_told_L1, app1 (by omega), Option.bind_some, e, Option.bind_some, i_Reached_told_L4_eq (s := s) _ _ _ _ _ g1 (pFacts_all g4) hv (by omega), Option.bind_some]
   dsimp only
   rw [i_Reached_told_L1_eq r r1 hf o _ _ _ _ (fun x hx => ha x (by simp [hx])) hF.1 hF.2 (pPutss_ok hv fun f hf' => (pFact_vals (g1 f hf')).2) (by simp; omega), List.append_assoc]
   rfl
theorem acc_bd {s : List Int} {l : List Method} {a : Access} (h : pAccess s l a = true) : bd_Access a := by
 simp only [pAccess, Bool.and_eq_true, beq_iff_eq] at h
 obtain ⟨h1, h2, h3, -⟩ := h
 have := (pMethods_ins h1).2 _ (pMeth_ix h2).2
 exact bdL_flat _ (by omega)
theorem RInv_log {s : List Int} {l : List Method} {facts : List Fact} {n : Nat} {r : Reached} (h : RInv s l facts n r) (hn : n ≤ 100) : bdL bd_Access r.Log := ⟨by have := h.loglen; omega, fun a ha => acc_bd (h.log a ha)⟩
theorem s_l8Copy_eq {s : List Int} {l : List Method} {facts : List Fact} {n : Nat} {r : Reached} (hf : pFacts s facts = true) (h : RInv s l facts n r) (hn : n ≤ 100) : s_l8Copy r = some r := by
 have h1 := pw_facts hf h.pw h.sub
 have h2 := VOk_len ⟨h.asc, h.vals⟩
 have h3 := (pFacts_iff.1 h1).2.2.2
 unfold s_l8Copy
 rw [s_l2Copy_eq _ (bdL_Facts (pFacts_all h1) (by omega)), Option.bind_some, app_nil (by omega), Option.bind_some, s_l8Log_eq _ (RInv_log h hn), Option.bind_some]
theorem pOpen_acc2 {s : List Int} {l : List Method} {facts : List Fact} {n : Nat} {r : Reached} (hl : pMethods s l = true) (h : RInv s l facts n r) : ∀ a ∈ pOpen r.Values r.Log l 0, pAccess s l a = true := fun a ha => pOpen_acc hl h.vals ha
theorem pOpen_len2 {s : List Int} {l : List Method} {facts : List Fact} {n : Nat} {r : Reached} (hl : pMethods s l = true) (h : RInv s l facts n r) : (pOpen r.Values r.Log l 0).length ≤ 5000 := by
 obtain ⟨h1, h2⟩ := pMethods_ins hl
 have := pOpen_len (vs := r.Values) (log := r.Log) (VOk_len ⟨h.asc, h.vals⟩) (l := l) (k := 0) h2
 omega
theorem s_l8Step_eq {s : List Int} {l : List Method} {facts : List Fact} {n : Nat} {r : Reached} (hl : pMethods s l = true) (hf : pFacts s facts = true) (h : RInv s l facts n r) (hn : n ≤ 100) : s_l8Step l facts r = some (pTold l facts r, !(pOpen r.Values r.Log l 0).isEmpty) := by
 have h4 := pOpen_len2 hl h
 have h5 := h.loglen
 have h6 := h.rounds
 unfold s_l8Step
 rw [s_l8Copy_eq hf h hn, Option.bind_some, s_l8Open_eq l r hl (VOk_len ⟨h.asc, h.vals⟩), Option.bind_some, s_l8Step_L1_eq r r _ hf _ _ _ _ _ (pOpen_acc2 hl h) h.pw h.sub ⟨h.asc, h.vals⟩ (by omega)]
 rw [s_l8Step_L1, pTold]
 cases ho : pOpen r.Values r.Log l 0 with
 | nil => simp
 | cons a o =>
   rw [if_neg (by simp only [List.length_cons, beq_iff_eq]; omega), if_neg (by simp), wrap_in (by omega) (by omega)]
   rfl
theorem i_told_eq {s : List Int} {l : List Method} {facts : List Fact} {n : Nat} {r : Reached} (hl : pMethods s l = true) (hf : pFacts s facts = true) (h : RInv s l facts n r) (hn : n ≤ 100) : i_Reached_told r l facts = some (!(pOpen r.Values r.Log l 0).isEmpty, pTold l facts r) := by
 have h4 := pOpen_len2 hl h
 have h5 := h.loglen
 have h6 := h.rounds
 unfold i_Reached_told
 rw [i_Reached_open_eq l r hl (VOk_len ⟨h.asc, h.vals⟩), Option.bind_some]
 dsimp only
 rw [i_Reached_told_L1_eq r _ hf _ _ _ _ _ (pOpen_acc2 hl h) h.pw h.sub ⟨h.asc, h.vals⟩ (by omega)]
 rw [i_Reached_told_L1, pTold]
 cases ho : pOpen r.Values r.Log l 0 with
 | nil =>
   simp only [List.length_nil, i_bit]
   rw [if_neg (by simp), Option.bind_some, wrap_in (by omega) (by omega)]
   simp
 | cons a o =>
   simp only [i_bit]
   rw [if_pos (by simp), Option.bind_some, if_neg (by simp), wrap_in (by omega) (by omega)]
   congr 2
   simp
theorem s_l8Values_eq (v : List Int) (h : VOk v) : s_l8Values v = some true := by
 have hl := VOk_len h
 have hp : ∀ x ∈ v, pIn 0 9 x = true := fun x hx => by
   have := h.2 x hx
   simp only [pIn, Bool.and_eq_true, decide_eq_true_eq]; omega
 have := adj_loop (L := s_l8Values_L1 v) (P := fun _ => True) (p := pIn 0 9) (q := fun y x => decide (x ≤ y)) (e := true) v (fun _ _ => trivial) (by omega) (fun _ => rfl) (fun x r _ => by
     rw [s_l8Values_L1]
     simp only [Option.bind_some, s_l1In_eq, dec_zero]
     cases pIn 0 9 x <;> rfl) (fun x r k y _ _ hy hk => by
     rw [s_l8Values_L1]
     simp only [Option.bind_some, dec_succ, ix_prev _ k hk, hy, s_l1In_eq, cond_true]
     cases pIn 0 9 x <;> cases decide (x ≤ y) <;> rfl)
 rw [s_l8Values, this, adjB_and, (adj_asc none v).2 ⟨fun y hy => by simp at hy, h.1⟩, List.all_eq_true.2 hp]
 rfl
theorem s_StepReach_eq {s : List Int} {l : List Method} {facts : List Fact} {n : Nat} {r : Reached} (hs : s.length < 4294967296) (hml : bdL bd_Method l) (hl : pMethods s l = true) (hf : pFacts s facts = true) (h : RInv s l facts n r) (hn : n ≤ 100) : s_StepReach s l facts r = some (pTold l facts r, !(pOpen r.Values r.Log l 0).isEmpty) := by
 have h1 := pw_facts hf h.pw h.sub
 have h3 := (pFacts_iff.1 h1).2.2.2
 have h4 := (pFacts_iff.1 hf).2.2.2
 have h6 := h.rounds
 unfold s_StepReach
 rw [s_AreMethods_eq s l hs hml, Option.bind_some, hl, s_AreFacts_eq s facts hs (bdL_Facts (pFacts_all hf) (by omega)), Option.bind_some, hf, s_l8Values_eq _ ⟨h.asc, h.vals⟩, Option.bind_some, s_AreFacts_eq s _ hs (bdL_Facts (pFacts_all h1) (by omega)), Option.bind_some, h1, s_l1In_eq, Option.bind_some,
   show pIn 0 100 r.Rounds = true from by simp only [pIn, Bool.and_eq_true, decide_eq_true_eq]; omega, s_l8Step_eq hl hf h hn]
 rfl
def pReach (l : List Method) (facts : List Fact) : Nat → Reached → Reached
 | 0, r => r
 | n + 1, r => if pOpen r.Values r.Log l 0 = [] then r else pReach l facts n (pTold l facts r)
theorem pTold_nil {l : List Method} {facts : List Fact} {r : Reached} (h : pOpen r.Values r.Log l 0 = []) : pTold l facts r = r := by
 simp [pTold, h]
theorem s_ReachAll_L1_eq {s : List Int} {l : List Method} {facts : List Fact} (hs : s.length < 4294967296) (hml : bdL bd_Method l) (hl : pMethods s l = true) (hf : pFacts s facts = true) : ∀ (m i : Nat) (r : Reached), RInv s l facts i r → i ≤ 40 → 40 - i < m → s_ReachAll_L1 s l facts m r.Facts r.Values r.Log r.Rounds (i : Int) = some (pReach l facts (40 - i) r) := by
 intro m
 induction m with
 | zero => intro i r _ _ h; omega
 | succ m ih =>
   intro i r h hi hm
   unfold s_ReachAll_L1
   by_cases hlt : i < 40
   · rw [if_pos (by simp only [decide_eq_true_eq]; omega), s_StepReach_eq hs hml hl hf h (by omega), Option.bind_some, show 40 - i = (40 - (i + 1)) + 1 by omega, pReach]
     dsimp only
     by_cases ho : pOpen r.Values r.Log l 0 = []
     · rw [if_pos (by simp [ho]), if_pos ho]
     · have := ih (i + 1) (pTold l facts r) (pTold_inv hl hf h ho) (by omega) (by omega)
       rw [if_neg (by simp [ho]), if_neg ho, show IntKind.i64.wrap ((i : Int) + 1) = ((i + 1 : Nat) : Int) from by rw [wrap_in (by omega) (by omega)]; rfl, this]
   · rw [if_neg (by simp only [decide_eq_true_eq]; omega), show 40 - i = 0 by omega, pReach]
theorem i_reach_L1_eq {s : List Int} {l : List Method} {facts : List Fact} (hl : pMethods s l = true) (hf : pFacts s facts = true) : ∀ (m i : Nat) (r : Reached), RInv s l facts i r → i ≤ 40 → 40 - i < m → i_reach_L1 l facts m r.Facts r.Values r.Log r.Rounds (i : Int) = some (pReach l facts (40 - i) r) := by
 intro m
 induction m with
 | zero => intro i r _ _ h; omega
 | succ m ih =>
   intro i r h hi hm
   unfold i_reach_L1
   by_cases hlt : i < 40
   · rw [if_pos (by simp only [decide_eq_true_eq]; omega), i_told_eq hl hf h (by omega), Option.bind_some, show 40 - i = (40 - (i + 1)) + 1 by omega, pReach]
     dsimp only
     by_cases ho : pOpen r.Values r.Log l 0 = []
     · rw [if_pos (by simp [ho]), if_pos ho, pTold_nil ho]
     · have := ih (i + 1) (pTold l facts r) (pTold_inv hl hf h ho) (by omega) (by omega)
       rw [if_neg (by simp [ho]), if_neg ho, show IntKind.i64.wrap ((i : Int) + 1) = ((i + 1 : Nat) : Int) from by rw [wrap_in (by omega) (by omega)]; rfl, this]
   · rw [if_neg (by simp only [decide_eq_true_eq]; omega), show 40 - i = 0 by omega, pReach]
def pStart (seeds : List Int) : Reached := { Facts := [], Values := (seeds.filter (pIn 0 9)).foldl pPut [], Log := [], Rounds := 0 }
theorem s_StartReach_L1_eq : ∀ (l : List Int) (k : Nat) (vs : List Int), vs.length + l.length < 4294967295 → s_StartReach_L1 l k vs = some ({ Facts := [], Values := (l.filter (pIn 0 9)).foldl pPut vs, Log := [], Rounds := 0 } : Reached)
 | [], k, vs, _ => rfl
 | x :: l, k, vs, h => by
   simp only [List.length_cons] at h
   have := pPut_len (l := vs) (x := x)
   unfold s_StartReach_L1
   rw [s_l1In_eq, Option.bind_some, List.filter_cons]
   cases hp : pIn 0 9 x
   · rw [if_neg (by simp), Option.bind_some, if_neg (by simp)]
     dsimp only
     rw [s_StartReach_L1_eq l _ _ (by omega)]
   · rw [if_pos rfl, s_l3Put_eq _ _ (by omega), Option.bind_some, Option.bind_some, if_pos rfl]
     dsimp only
     rw [s_StartReach_L1_eq l _ _ (by omega), List.foldl_cons]
theorem s_StartReach_eq (seeds : List Int) (h : seeds.length < 4294967295) : s_StartReach seeds = some (pStart seeds) := by
 rw [s_StartReach, s_StartReach_L1_eq _ _ _ (by simpa using h)]; rfl
theorem i_StartReach_eq (seeds : List Int) (h : seeds.length < 4294967295) : i_StartReach seeds = some (pStart seeds) := by
 rw [i_StartReach, i_withValues_eq _ _ (by simp; omega), Option.bind_some, List.append_nil]; rfl
theorem pStart_inv (s : List Int) (l : List Method) (facts : List Fact) (seeds : List Int) : RInv s l facts 0 (pStart seeds) :=
 ⟨by simp [pStart], by simp [pStart], puts_ss (by simp), fun v hv => by
   have h1 := (puts_mem.1 hv).resolve_left (by simp)
   have h2 := (List.mem_filter.1 h1).2
   simp only [pIn, Bool.and_eq_true, decide_eq_true_eq] at h2
   exact h2, by simp [pStart], by simp [pStart], rfl⟩
theorem s_ReachAll_eq {s : List Int} {l : List Method} {facts : List Fact} (seeds : List Int) (hs : s.length < 4294967296) (hml : bdL bd_Method l) (hl : pMethods s l = true) (hf : pFacts s facts = true) (h : seeds.length < 4294967295) : s_ReachAll s l facts seeds = some (pReach l facts 40 (pStart seeds)) := by
 rw [s_ReachAll, s_StartReach_eq seeds h, Option.bind_some]
 exact s_ReachAll_L1_eq hs hml hl hf _ 0 _ (pStart_inv s l facts seeds) (by omega) (by decide)
theorem i_reach_eq {s : List Int} {l : List Method} {facts : List Fact} (seeds : List Int) (hl : pMethods s l = true) (hf : pFacts s facts = true) (h : seeds.length < 4294967295) : i_reach l facts seeds = some (pReach l facts 40 (pStart seeds)) := by
 rw [i_reach, i_StartReach_eq seeds h, Option.bind_some]
 exact i_reach_L1_eq hl hf _ 0 _ (pStart_inv s l facts seeds) (by omega) (by decide)
theorem pReach_inv {s : List Int} {l : List Method} {facts : List Fact} (hl : pMethods s l = true) (hf : pFacts s facts = true) : ∀ (n i : Nat) (r : Reached), RInv s l facts i r → ∃ j, j ≤ i + n ∧ RInv s l facts j (pReach l facts n r)
 | 0, i, r, h => ⟨i, by omega, h⟩
 | n + 1, i, r, h => by
   unfold pReach
   split
   · exact ⟨i, by omega, h⟩
   · rename_i ho
     obtain ⟨j, h1, h2⟩ := pReach_inv hl hf n (i + 1) _ (pTold_inv hl hf h ho)
     exact ⟨j, by omega, h2⟩
theorem s_IsVar_eq (t : Int) : s_IsVar t = some (pIn 10 17 t) := rfl
theorem i_IsVar_eq (t : Int) : i_IsVar t = some (pIn 10 17 t) := rfl
def pTerm (t : Int) : Bool := pIn 0 9 t || pIn 10 17 t
theorem s_IsTerm_eq (t : Int) : s_IsTerm t = some (pTerm t) := by
 rw [s_IsTerm, s_l1In_eq, Option.bind_some, s_IsVar_eq, pTerm]
 cases pIn 0 9 t <;> rfl
theorem i_IsTerm_eq (t : Int) : i_IsTerm t = some (pTerm t) := by
 rw [i_IsTerm, i_isValue_eq, Option.bind_some, i_IsVar_eq, pTerm]
 cases pIn 0 9 t <;> rfl
theorem i_areTerms_eq (l : List Int) : i_areTerms l = some (l.all pTerm) := by
 unfold i_areTerms g_slices_ContainsFunc_int_int_iareTerms1 g_slices_IndexFunc_int_int_iareTerms1
 rw [index_loop (L := g_slices_IndexFunc_int_int_iareTerms1_L1) (f := i_areTerms_1) (p := fun x => !pTerm x) (fun k => rfl) (fun x r k => rfl) l 0 (fun x _ => by rw [i_areTerms_1, i_IsTerm_eq]; rfl), Option.bind_some, ixF_neg, Option.bind_some]
 simp [List.all_eq_not_any_not]
def pAtom (s : List Int) (a : Atom) : Bool := pHasRel s a.Rel && (((a.Terms.length : Int) == pAr s a.Rel) && a.Terms.all pTerm)
theorem s_IsAtom_eq (s : List Int) (a : Atom) (hs : s.length < 4294967296) : s_IsAtom s a = some (pAtom s a) := by
 have hL : s_IsAtom_L1 a.Terms 0 = some (a.Terms.all pTerm) := by
   have := all_loop (L := s_IsAtom_L1) (f := s_IsTerm) (p := pTerm) (e := true) (fun k => rfl) (fun x r k => rfl) a.Terms 0 (fun x _ => s_IsTerm_eq x)
   rw [this]; simp
 unfold s_IsAtom pAtom
 rw [s_IsSchema_eq, Option.bind_some]
 cases h1 : pSchema s
 · simp [pHasRel, h1]
 rw [s_l1In_eq, Option.bind_some, wrap_in (by omega) (by omega)]
 cases h2 : pIn 0 ((s.length : Int) - 1) a.Rel
 · simp [pHasRel, h1, h2]
 have hh : pHasRel s a.Rel = true := by simp [pHasRel, h1, h2]
 rw [(pAr_ix hh).1, hL, hh]
 by_cases e : (a.Terms.length : Int) = pAr s a.Rel
 · simp [e]
 · simp [e]
theorem i_IsAtom_eq (s : List Int) (a : Atom) (hs : s.length < 4294967296) : i_IsAtom s a = some (pAtom s a) := by
 unfold i_IsAtom pAtom
 rw [i_hasRel_eq _ _ hs, Option.bind_some]
 cases hh : pHasRel s a.Rel
 · rfl
 rw [(pAr_ix hh).1, i_areTerms_eq]
 cases e : ((a.Terms.length : Int) == pAr s a.Rel) <;> simp [e]
def pTermsP (p : Int → Bool) (l : List Atom) : List Int := ((l.flatMap (·.Terms)).filter p).foldl pPut []
def tmsN (l : List Atom) : Nat := (l.flatMap (·.Terms)).length
theorem puts_len2 {p : Int → Bool} {v l : List Int} : ((v.filter p).foldl pPut l).length ≤ l.length + v.length := by
 have h1 := puts_len (v := v.filter p) (l := l)
 have h2 := List.length_filter_le p v
 omega
theorem s_VarsOf_L3_eq (x : Atom) (hx : x.Terms.length < 4294967296) : ∀ (m i : Nat) (c : List Int), i ≤ x.Terms.length → x.Terms.length - i < m → c.length + (x.Terms.length - i) < 4294967295 → s_VarsOf_L3 x m c (i : Int) = some (((x.Terms.drop i).filter (pIn 10 17)).foldl pPut c) := by
 intro m
 induction m with
 | zero => intro i c _ h _; omega
 | succ m ih =>
   intro i c hi hm hc
   unfold s_VarsOf_L3
   by_cases hlt : i < x.Terms.length
   · rw [if_pos (by simpa using hlt), ix_nat, List.getElem?_eq_getElem hlt, Option.bind_some, s_IsVar_eq, Option.bind_some, List.drop_eq_getElem_cons hlt, List.filter_cons]
     cases hp : (pIn 10 17) x.Terms[i]
     · rw [if_neg (by simp), Option.bind_some, if_neg (by simp)]
       dsimp only
       rw [show IntKind.i64.wrap ((i : Int) + 1) = ((i + 1 : Nat) : Int) from by rw [wrap_in (by omega) (by omega)]; rfl, ih (i + 1) _ (by omega) (by omega) (by omega)]
     · have := pPut_len (l := c) (x := x.Terms[i])
       rw [if_pos rfl, Option.bind_some, s_l3Put_eq _ _ (by omega), Option.bind_some, Option.bind_some, if_pos rfl]
       dsimp only
       rw [show IntKind.i64.wrap ((i : Int) + 1) = ((i + 1 : Nat) : Int) from by rw [wrap_in (by omega) (by omega)]; rfl, ih (i + 1) _ (by omega) (by omega) (by omega), List.foldl_cons]
   · rw [if_neg (by simpa using hlt), List.drop_eq_nil_of_le (by omega)]; rfl
theorem s_VarsOf_L1_eq : ∀ (l : List Atom) (k : Nat) (c : List Int), c.length + tmsN l < 4294967295 → s_VarsOf_L1 l k c = some (((l.flatMap (·.Terms)).filter (pIn 10 17)).foldl pPut c)
 | [], k, c, _ => rfl
 | a :: l, k, c, h => by
   simp only [tmsN, List.flatMap_cons, List.length_append] at h
   have := puts_len2 (p := (pIn 10 17)) (v := a.Terms) (l := c)
   unfold s_VarsOf_L1
   have e : s_VarsOf_L3 a (a.Terms.length + 2) c 0 = some (((a.Terms.drop 0).filter (pIn 10 17)).foldl pPut c) := s_VarsOf_L3_eq a (by omega) _ 0 c (by omega) (by omega) (by omega)
   rw [show ((a.Terms.length : Int) - 0).toNat + 2 = a.Terms.length + 2 by omega, e, Option.bind_some]
   dsimp only
   rw [List.drop_zero, s_VarsOf_L1_eq l _ _ (by simp only [tmsN]; omega), List.flatMap_cons, List.filter_append, List.foldl_append]
theorem s_VarsOf_eq (q : Query) (h : tmsN q.Atoms < 4294967295) : s_VarsOf q = some (pTermsP (pIn 10 17) q.Atoms) := by
 rw [s_VarsOf, s_VarsOf_L1_eq _ _ _ (by simpa using h)]; rfl
theorem s_ConstantsOf_L3_eq (x : Atom) (hx : x.Terms.length < 4294967296) : ∀ (m i : Nat) (c : List Int), i ≤ x.Terms.length → x.Terms.length - i < m → c.length + (x.Terms.length - i) < 4294967295 → s_ConstantsOf_L3 x m c (i : Int) = some (((x.Terms.drop i).filter (pIn 0 9)).foldl pPut c) := by
 intro m
 induction m with
 | zero => intro i c _ h _; omega
 | succ m ih =>
   intro i c hi hm hc
   unfold s_ConstantsOf_L3
   by_cases hlt : i < x.Terms.length
   · rw [if_pos (by simpa using hlt), ix_nat, List.getElem?_eq_getElem hlt, Option.bind_some, s_l1In_eq, Option.bind_some, List.drop_eq_getElem_cons hlt, List.filter_cons]
     cases hp : (pIn 0 9) x.Terms[i]
     · rw [if_neg (by simp), Option.bind_some, if_neg (by simp)]
       dsimp only
       rw [show IntKind.i64.wrap ((i : Int) + 1) = ((i + 1 : Nat) : Int) from by rw [wrap_in (by omega) (by omega)]; rfl, ih (i + 1) _ (by omega) (by omega) (by omega)]
     · have := pPut_len (l := c) (x := x.Terms[i])
       rw [if_pos rfl, Option.bind_some, s_l3Put_eq _ _ (by omega), Option.bind_some, Option.bind_some, if_pos rfl]
       dsimp only
       rw [show IntKind.i64.wrap ((i : Int) + 1) = ((i + 1 : Nat) : Int) from by rw [wrap_in (by omega) (by omega)]; rfl, ih (i + 1) _ (by omega) (by omega) (by omega), List.foldl_cons]
   · rw [if_neg (by simpa using hlt), List.drop_eq_nil_of_le (by omega)]; rfl
theorem s_ConstantsOf_L1_eq : ∀ (l : List Atom) (k : Nat) (c : List Int), c.length + tmsN l < 4294967295 → s_ConstantsOf_L1 l k c = some (((l.flatMap (·.Terms)).filter (pIn 0 9)).foldl pPut c)
 | [], k, c, _ => rfl
 | a :: l, k, c, h => by
   simp only [tmsN, List.flatMap_cons, List.length_append] at h
   have := puts_len2 (p := (pIn 0 9)) (v := a.Terms) (l := c)
   unfold s_ConstantsOf_L1
   have e : s_ConstantsOf_L3 a (a.Terms.length + 2) c 0 = some (((a.Terms.drop 0).filter (pIn 0 9)).foldl pPut c) := s_ConstantsOf_L3_eq a (by omega) _ 0 c (by omega) (by omega) (by omega)
   rw [show ((a.Terms.length : Int) - 0).toNat + 2 = a.Terms.length + 2 by omega, e, Option.bind_some]
   dsimp only
   rw [List.drop_zero, s_ConstantsOf_L1_eq l _ _ (by simp only [tmsN]; omega), List.flatMap_cons, List.filter_append, List.foldl_append]
theorem s_ConstantsOf_eq (q : Query) (h : tmsN q.Atoms < 4294967295) : s_ConstantsOf q = some (pTermsP (pIn 0 9) q.Atoms) := by
 rw [s_ConstantsOf, s_ConstantsOf_L1_eq _ _ _ (by simpa using h)]; rfl
theorem i_termsOf_iIsVar_L2_eq (l : List Int) (c : List Int) (h : c.length + l.length < 4294967296) : i_termsOf_iIsVar_L2 l 0 c = some (c ++ l.filter (pIn 10 17)) := by
 have := fm_loop (L := i_termsOf_iIsVar_L2) (P := fun _ => True) (p := (pIn 10 17)) (g := fun x : Int => x) (fun _ _ => rfl) (fun x r k c _ hc => by
   rw [i_termsOf_iIsVar_L2, i_IsVar_eq, Option.bind_some]
   cases (pIn 10 17) x
   · rw [if_neg (by simp), if_neg (by simp)]; rfl
   · rw [if_pos rfl, app1 hc, if_pos rfl]; rfl) l 0 c (fun _ _ => trivial) h
 rw [this, List.map_id']
theorem i_termsOf_iIsVar_L1_eq : ∀ (l : List Atom) (k : Nat) (c : List Int), c.length + tmsN l < 4294967296 → i_termsOf_iIsVar_L1 l k c = some (Lib.compact ((c ++ (l.flatMap (·.Terms)).filter (pIn 10 17)).mergeSort fun x y => decide (x ≤ y)))
 | [], k, c, _ => by simp [i_termsOf_iIsVar_L1, g_slices_Sort_int_int, g_slices_Compact_int_int]
 | a :: l, k, c, h => by
   simp only [tmsN, List.flatMap_cons, List.length_append] at h
   have := List.length_filter_le (pIn 10 17) a.Terms
   unfold i_termsOf_iIsVar_L1
   rw [i_termsOf_iIsVar_L2_eq a.Terms c (by omega), Option.bind_some]
   dsimp only
   rw [i_termsOf_iIsVar_L1_eq l _ _ (by simp only [tmsN, List.length_append]; omega), List.flatMap_cons, List.filter_append, List.append_assoc]
theorem i_VarsOf_eq (q : Query) (h : tmsN q.Atoms < 4294967295) : i_VarsOf q = some (pTermsP (pIn 10 17) q.Atoms) := by
 rw [i_VarsOf, i_termsOf_iIsVar, i_termsOf_iIsVar_L1_eq _ _ _ (by simp; omega), Option.bind_some, List.nil_append, pTermsP, puts_sort]
theorem i_termsOf_iisValue_L2_eq (l : List Int) (c : List Int) (h : c.length + l.length < 4294967296) : i_termsOf_iisValue_L2 l 0 c = some (c ++ l.filter (pIn 0 9)) := by
 have := fm_loop (L := i_termsOf_iisValue_L2) (P := fun _ => True) (p := (pIn 0 9)) (g := fun x : Int => x) (fun _ _ => rfl) (fun x r k c _ hc => by
   rw [i_termsOf_iisValue_L2, i_isValue_eq, Option.bind_some]
   cases (pIn 0 9) x
   · rw [if_neg (by simp), if_neg (by simp)]; rfl
   · rw [if_pos rfl, app1 hc, if_pos rfl]; rfl) l 0 c (fun _ _ => trivial) h
 rw [this, List.map_id']
theorem i_termsOf_iisValue_L1_eq : ∀ (l : List Atom) (k : Nat) (c : List Int), c.length + tmsN l < 4294967296 → i_termsOf_iisValue_L1 l k c = some (Lib.compact ((c ++ (l.flatMap (·.Terms)).filter (pIn 0 9)).mergeSort fun x y => decide (x ≤ y)))
 | [], k, c, _ => by simp [i_termsOf_iisValue_L1, g_slices_Sort_int_int, g_slices_Compact_int_int]
 | a :: l, k, c, h => by
   simp only [tmsN, List.flatMap_cons, List.length_append] at h
   have := List.length_filter_le (pIn 0 9) a.Terms
   unfold i_termsOf_iisValue_L1
   rw [i_termsOf_iisValue_L2_eq a.Terms c (by omega), Option.bind_some]
   dsimp only
   rw [i_termsOf_iisValue_L1_eq l _ _ (by simp only [tmsN, List.length_append]; omega), List.flatMap_cons, List.filter_append, List.append_assoc]
theorem i_ConstantsOf_eq (q : Query) (h : tmsN q.Atoms < 4294967295) : i_ConstantsOf q = some (pTermsP (pIn 0 9) q.Atoms) := by
 rw [i_ConstantsOf, i_termsOf_iisValue, i_termsOf_iisValue_L1_eq _ _ _ (by simp; omega), Option.bind_some, List.nil_append, pTermsP, puts_sort]
theorem g_slices_Index_int_int_eq (l : List Int) (v : Int) : g_slices_Index_int_int l v = some (ixF (fun x => v == x) l 0) := by
 rw [g_slices_Index_int_int]
 exact index_loop (L := g_slices_Index_int_int_L1 v) (f := fun x => some (v == x)) (p := fun x => v == x) (fun _ => rfl) (fun _ _ _ => rfl) l 0 (fun _ _ => rfl)
theorem g_slices_Contains_int_int_eq (l : List Int) (v : Int) : g_slices_Contains_int_int l v = some (decide (v ∈ l)) := by
 rw [g_slices_Contains_int_int, g_slices_Index_int_int_eq, Option.bind_some, ixF_neg]
 congr 1
 rw [Bool.eq_iff_iff]
 simp
def pQuery (s : List Int) (q : Query) : Bool := q.Atoms.all (pAtom s) && (q.Head.all (fun t => decide (t ∈ pTermsP (pIn 10 17) q.Atoms)) && (pSchema s && (pIn 1 4 (q.Atoms.length : Int) && decide ((q.Head.length : Int) ≤ 3))))
theorem s_IsQuery_L2_eq (s : List Int) (q : Query) (v : List Int) : ∀ (l : List Int) (k : Nat), s_IsQuery_L2 s q v l k = some (l.all (fun t => decide (t ∈ v)) && (pSchema s && (pIn 1 4 (q.Atoms.length : Int) && decide ((q.Head.length : Int) ≤ 3)))) := by
 intro l
 induction l with
 | nil =>
   intro k
   rw [s_IsQuery_L2, s_IsSchema_eq, Option.bind_some, s_l1In_eq]
   cases pSchema s <;> cases pIn 1 4 (q.Atoms.length : Int) <;> rfl
 | cons x l ih =>
   intro k
   rw [s_IsQuery_L2, s_l2Has_eq, Option.bind_some, ih, List.all_cons]
   cases decide (x ∈ v) <;> rfl
theorem s_IsQuery_eq (s : List Int) (q : Query) (hs : s.length < 4294967296) (h : tmsN q.Atoms < 4294967295) : s_IsQuery s q = some (pQuery s q) := by
 have key : ∀ (l : List Atom) (k : Nat), s_IsQuery_L1 s q l k = some (l.all (pAtom s) && (q.Head.all (fun t => decide (t ∈ pTermsP (pIn 10 17) q.Atoms)) && (pSchema s && (pIn 1 4 (q.Atoms.length : Int) && decide ((q.Head.length : Int) ≤ 3))))) := by
   intro l
   induction l with
   | nil =>
     intro k
     rw [s_IsQuery_L1, s_VarsOf_eq q h, Option.bind_some, s_IsQuery_L2_eq]
     simp
   | cons x l ih =>
     intro k
     rw [s_IsQuery_L1, s_IsAtom_eq s x hs, Option.bind_some, ih, List.all_cons]
     cases pAtom s x <;> rfl
 rw [s_IsQuery, key]; rfl
theorem i_IsQuery_eq (s : List Int) (q : Query) (hs : s.length < 4294967296) (h : tmsN q.Atoms < 4294967295) : i_IsQuery s q = some (pQuery s q) := by
 have h1 : g_slices_ContainsFunc_impl_Atom_impl_Atom_iIsQuery1 q.Atoms s = some (q.Atoms.any fun a => !pAtom s a) := by
   unfold g_slices_ContainsFunc_impl_Atom_impl_Atom_iIsQuery1 g_slices_IndexFunc_impl_Atom_impl_Atom_iIsQuery1
   rw [index_loop (L := g_slices_IndexFunc_impl_Atom_impl_Atom_iIsQuery1_L1 s) (f := fun a => i_IsQuery_1 a s) (p := fun a => !pAtom s a) (fun k => rfl) (fun x r k => rfl) q.Atoms 0 (fun x _ => by rw [i_IsQuery_1, i_IsAtom_eq s x hs]; rfl), Option.bind_some, ixF_neg]
 have h2 : g_slices_ContainsFunc_int_int_ihasHead1 q.Head (pTermsP (pIn 10 17) q.Atoms) = some (q.Head.any fun t => !decide (t ∈ pTermsP (pIn 10 17) q.Atoms)) := by
   unfold g_slices_ContainsFunc_int_int_ihasHead1 g_slices_IndexFunc_int_int_ihasHead1
   rw [index_loop (L := g_slices_IndexFunc_int_int_ihasHead1_L1 _) (f := fun t => i_hasHead_1 t (pTermsP (pIn 10 17) q.Atoms)) (p := fun t => !decide (t ∈ pTermsP (pIn 10 17) q.Atoms)) (fun k => rfl) (fun x r k => rfl) q.Head 0 (fun x _ => by rw [i_hasHead_1, g_slices_Contains_int_int_eq]; rfl), Option.bind_some, ixF_neg]
 unfold i_IsQuery pQuery
 rw [i_IsSchema_eq, Option.bind_some, i_within_eq, Option.bind_some, h1, Option.bind_some, i_hasHead, i_VarsOf_eq q h, Option.bind_some, h2]
 have e1 : (q.Atoms.any fun a => !pAtom s a) = !(q.Atoms.all (pAtom s)) := by simp [List.all_eq_not_any_not]
 have e2 : (q.Head.any fun t => !decide (t ∈ pTermsP (pIn 10 17) q.Atoms)) = !(q.Head.all fun t => decide (t ∈ pTermsP (pIn 10 17) q.Atoms)) := by simp [List.all_eq_not_any_not]
 rw [e1, e2]
 cases pSchema s <;> cases pIn 1 4 (q.Atoms.length : Int) <;> cases q.Atoms.all (pAtom s) <;> cases decide ((q.Head.length : Int) ≤ 3) <;> cases (q.Head.all fun t => decide (t ∈ pTermsP (pIn 10 17) q.Atoms)) <;> rfl
theorem s_l6Fine_eq (s : List Int) (l : List Method) (q : Query) (hs : s.length < 4294967296) (hl : bdL bd_Method l) (h : tmsN q.Atoms < 4294967295) : s_l6Fine s l q = some (pMethods s l && pQuery s q) := by
 rw [s_l6Fine, s_AreMethods_eq s l hs hl, Option.bind_some, s_IsQuery_eq s q hs h]
 cases pMethods s l <;> rfl
theorem i_areAsked_eq (s : List Int) (l : List Method) (q : Query) (hs : s.length < 4294967296) (hl : bdL bd_Method l) (h : tmsN q.Atoms < 4294967295) : i_areAsked s l q = some (pMethods s l && pQuery s q) := by
 rw [i_areAsked, i_AreMethods_eq s l hs hl, Option.bind_some, i_IsQuery_eq s q hs h]
 cases pMethods s l <;> rfl
def pLook : List Int → List Int → Int → Option Int
 | v :: vs, x :: xs, t => if v = t then some x else pLook vs xs t
 | _, _, _ => none
theorem pLook_nil (vs : List Int) (t : Int) : pLook vs [] t = none := by cases vs <;> rfl
theorem s_ValueOf_L1_eq (b : Binding) (t : Int) (hv : b.Vars.length < 4294967296) : ∀ (m i : Nat), i ≤ b.Vars.length → b.Vars.length - i < m → s_ValueOf_L1 b t m (i : Int) = some ((pLook (b.Vars.drop i) (b.Values.drop i) t).getD (-1)) := by
 intro m
 induction m with
 | zero => intro i _ h; omega
 | succ m ih =>
   intro i hi hm
   unfold s_ValueOf_L1
   by_cases h1 : i < b.Vars.length
   · by_cases h2 : i < b.Values.length
     · rw [if_pos (by simp; omega), ix_nat, List.getElem?_eq_getElem h1, Option.bind_some, ix_nat, List.getElem?_eq_getElem h2, Option.bind_some, List.drop_eq_getElem_cons h1, List.drop_eq_getElem_cons h2, pLook]
       by_cases e : b.Vars[i] = t
       · rw [if_pos (by simpa using e), if_pos e]; rfl
       · rw [if_neg (by simpa using e), if_neg e, show IntKind.i64.wrap ((i : Int) + 1) = ((i + 1 : Nat) : Int) from by rw [wrap_in (by omega) (by omega)]; rfl, ih (i + 1) (by omega) (by omega)]
     · rw [if_neg (by simp; omega), List.drop_eq_nil_of_le (show b.Values.length ≤ i by omega), pLook_nil]; rfl
   · rw [if_neg (by simp; omega), List.drop_eq_nil_of_le (by omega)]; rfl
theorem s_l4Bound_L1_eq (b : Binding) (t : Int) (hv : b.Vars.length < 4294967296) : ∀ (m i : Nat), i ≤ b.Vars.length → b.Vars.length - i < m → s_l4Bound_L1 b t m (i : Int) = some (pLook (b.Vars.drop i) (b.Values.drop i) t).isSome := by
 intro m
 induction m with
 | zero => intro i _ h; omega
 | succ m ih =>
   intro i hi hm
   unfold s_l4Bound_L1
   by_cases h1 : i < b.Vars.length
   · by_cases h2 : i < b.Values.length
     · rw [if_pos (by simp; omega), ix_nat, List.getElem?_eq_getElem h1, Option.bind_some, List.drop_eq_getElem_cons h1, List.drop_eq_getElem_cons h2, pLook]
       by_cases e : b.Vars[i] = t
       · rw [if_pos (by simpa using e), if_pos e]; rfl
       · rw [if_neg (by simpa using e), if_neg e, show IntKind.i64.wrap ((i : Int) + 1) = ((i + 1 : Nat) : Int) from by rw [wrap_in (by omega) (by omega)]; rfl, ih (i + 1) (by omega) (by omega)]
     · rw [if_neg (by simp; omega), List.drop_eq_nil_of_le (show b.Values.length ≤ i by omega), pLook_nil]; rfl
   · rw [if_neg (by simp; omega), List.drop_eq_nil_of_le (by omega)]; rfl
def pVal (vs xs : List Int) (t : Int) : Int := if pIn 10 17 t then (pLook vs xs t).getD (-1) else t
theorem s_ValueOf_eq (b : Binding) (t : Int) (hv : b.Vars.length < 4294967296) : s_ValueOf b t = some (pVal b.Vars b.Values t) := by
 unfold s_ValueOf pVal
 rw [s_IsVar_eq, Option.bind_some]
 cases pIn 10 17 t
 · simp
 · rw [if_neg (by simp), if_pos rfl, show ((b.Vars.length : Int) - 0).toNat + 2 = b.Vars.length + 2 by omega, show (0 : Int) = ((0 : Nat) : Int) from rfl, s_ValueOf_L1_eq b t hv _ 0 (by omega) (by omega)]
   rfl
theorem s_l4Bound_eq (b : Binding) (t : Int) (hv : b.Vars.length < 4294967296) : s_l4Bound b t = some (pLook b.Vars b.Values t).isSome := by
 unfold s_l4Bound
 rw [show ((b.Vars.length : Int) - 0).toNat + 2 = b.Vars.length + 2 by omega, show (0 : Int) = ((0 : Nat) : Int) from rfl, s_l4Bound_L1_eq b t hv _ 0 (by omega) (by omega)]
 rfl
theorem pLook_ix (t : Int) : ∀ (vs xs : List Int) (k : Nat), vs.length = xs.length → (ixF (fun x => t == x) vs k = -1 ∧ pLook vs xs t = none) ∨ ∃ j : Nat, j < vs.length ∧ ixF (fun x => t == x) vs k = ((k + j : Nat) : Int) ∧ ∃ y, xs[j]? = some y ∧ pLook vs xs t = some y
 | [], xs, k, _ => .inl ⟨rfl, rfl⟩
 | v :: vs, [], k, h => by simp at h
 | v :: vs, x :: xs, k, h => by
   unfold ixF pLook
   by_cases e : v = t
   · subst e
     rw [if_pos (by simp), if_pos rfl]
     exact .inr ⟨0, by simp, by simp, x, rfl, rfl⟩
   · rw [if_neg (by simp; exact fun h => e h.symm), if_neg e]
     rcases pLook_ix t vs xs (k + 1) (by simpa using h) with ⟨h1, h2⟩ | ⟨j, h1, h2, y, h3, h4⟩
     · exact .inl ⟨h1, h2⟩
     · exact .inr ⟨j + 1, by simp; omega, by rw [h2]; congr 1; omega, y, by simpa using h3, h4⟩
theorem i_entry_eq (b : Binding) (t : Int) (h : b.Vars.length = b.Values.length) : i_Binding_entry b t = some (ixF (fun x => t == x) b.Vars 0) := by
 unfold i_Binding_entry
 rw [if_neg (by omega), chk, if_pos (by simp), Option.bind_some, g_slices_Index_int_int_eq, Option.bind_some]
 congr 2
 rw [show ((b.Vars.length : Int)).toNat = b.Vars.length by omega, List.take_length]
theorem i_ValueOf_eq (b : Binding) (t : Int) (h : b.Vars.length = b.Values.length) : i_ValueOf b t = some (pVal b.Vars b.Values t) := by
 unfold i_ValueOf pVal
 rw [i_IsVar_eq, Option.bind_some]
 cases pIn 10 17 t
 · simp
 · rw [if_neg (by simp), if_pos rfl, i_entry_eq b t h, Option.bind_some]
   rcases pLook_ix t b.Vars b.Values 0 h with ⟨h1, h2⟩ | ⟨j, h1, h2, y, h3, h4⟩
   · rw [h1, h2, if_pos (by decide)]; rfl
   · rw [h2, h4, if_neg (by simp), Nat.zero_add, ix_nat, h3]; rfl
theorem pLook_new {t x : Int} : ∀ {vs xs : List Int}, vs.length = xs.length → pLook vs xs t = none → pLook (vs ++ [t]) (xs ++ [x]) t = some x
 | [], [], _, _ => by simp [pLook]
 | v :: vs, [], h, _ => by simp at h
 | [], x :: xs, h, _ => by simp at h
 | v :: vs, y :: xs, h, hn => by
   unfold pLook at hn
   split at hn
   · simp at hn
   · rename_i e
     rw [List.cons_append, List.cons_append, pLook, if_neg e]
     exact pLook_new (by simpa using h) hn
def pMatchL (fv : List Int) : List Int → Nat → List Int → List Int → Option (List Int × List Int)
 | [], _, vs, xs => some (vs, xs)
 | t :: r, k, vs, xs =>
   if pIn 10 17 t && !(pLook vs xs t).isSome then pMatchL fv r (k + 1) (vs ++ [t]) (xs ++ [fv[k]?.getD 0])
   else if pVal vs xs t != fv[k]?.getD 0 then none else pMatchL fv r (k + 1) vs xs
def pRes : Option (List Int × List Int) → Binding × Bool
 | some p => ({ Vars := p.1, Values := p.2 }, true)
 | none => ({ Vars := [], Values := [] }, false)
theorem s_MatchAtom_L1_eq (f : Fact) : ∀ (l : List Int) (k : Nat) (vs xs : List Int), k + l.length ≤ f.Values.length → vs.length = xs.length → vs.length + l.length < 4294967295 → s_MatchAtom_L1 f l k vs xs = some (pRes (pMatchL f.Values l k vs xs))
 | [], k, vs, xs, _, _, _ => rfl
 | t :: l, k, vs, xs, hk, he, hb => by
   simp only [List.length_cons] at hk hb
   have hlt : k < f.Values.length := by omega
   have e1 : s_ValueOf { Vars := vs, Values := xs } t = some (pVal vs xs t) := s_ValueOf_eq _ _ (by show vs.length < _; omega)
   have e2 : s_l4Bound { Vars := vs, Values := xs } t = some (pLook vs xs t).isSome := s_l4Bound_eq _ _ (by show vs.length < _; omega)
   have e3 : s_l4Bind { Vars := vs, Values := xs } t f.Values[k] = some { Vars := vs ++ [t], Values := xs ++ [f.Values[k]] } := by
     simp only [s_l4Bind]
     rw [app_nil (by omega), Option.bind_some, app_ok (by simp; omega), Option.bind_some, app_nil (by omega), Option.bind_some, app_ok (by simp; omega), Option.bind_some]
   have ih1 := s_MatchAtom_L1_eq f l (k + 1) vs xs (by omega) he (by omega)
   have ih2 := s_MatchAtom_L1_eq f l (k + 1) (vs ++ [t]) (xs ++ [f.Values[k]]) (by omega) (by simp [he]) (by simp; omega)
   unfold s_MatchAtom_L1 pMatchL
   rw [e1, Option.bind_some, s_IsVar_eq, Option.bind_some, e2, ix_nat, List.getElem?_eq_getElem hlt]
   rcases Bool.eq_false_or_eq_true (pIn 10 17 t) with h1 | h1 <;> rcases Bool.eq_false_or_eq_true (pLook vs xs t).isSome with h3 | h3 <;> by_cases h2 : pVal vs xs t = f.Values[k] <;> simp [h1, h2, h3, e3, ih1, ih2] <;> rfl
theorem i_MatchAtom_L1_eq (f : Fact) : ∀ (l : List Int) (k : Nat) (vs xs : List Int), k + l.length ≤ f.Values.length → vs.length = xs.length → vs.length + l.length < 4294967295 → i_MatchAtom_L1 f l k vs xs = some (pRes (pMatchL f.Values l k vs xs))
 | [], k, vs, xs, _, _, _ => rfl
 | t :: l, k, vs, xs, hk, he, hb => by
   simp only [List.length_cons] at hk hb
   have hlt : k < f.Values.length := by omega
   have hd : (decide (ixF (fun x => t == x) vs 0 < 0)) = !(pLook vs xs t).isSome := by
     rcases pLook_ix t vs xs 0 he with ⟨h1, h2⟩ | ⟨j, h1, h2, y, h3, h4⟩
     · rw [h1, h2]; rfl
     · rw [h2, h4]; simp
   have e1 : i_ValueOf { Vars := vs, Values := xs } t = some (pVal vs xs t) := i_ValueOf_eq _ t he
   have e2 : i_Binding_entry { Vars := vs, Values := xs } t = some (ixF (fun x => t == x) vs 0) := i_entry_eq _ t he
   have e4 : app vs [t] = some (vs ++ [t]) := app_ok (by simp; omega)
   have e5 : app xs [f.Values[k]] = some (xs ++ [f.Values[k]]) := app_ok (by simp; omega)
   have e6 : i_ValueOf { Vars := vs ++ [t], Values := xs ++ [f.Values[k]] } t = some (pVal (vs ++ [t]) (xs ++ [f.Values[k]]) t) := i_ValueOf_eq _ t (by simp [he])
   have ih1 := i_MatchAtom_L1_eq f l (k + 1) vs xs (by omega) he (by omega)
   have ih2 := i_MatchAtom_L1_eq f l (k + 1) (vs ++ [t]) (xs ++ [f.Values[k]]) (by omega) (by simp [he]) (by simp; omega)
   unfold i_MatchAtom_L1 pMatchL
   rw [i_IsVar_eq, Option.bind_some, e2, ix_nat, List.getElem?_eq_getElem hlt]
   by_cases h3 : (pLook vs xs t).isSome = true
   · rcases Bool.eq_false_or_eq_true (pIn 10 17 t) with h1 | h1 <;> by_cases h2 : pVal vs xs t = f.Values[k] <;> simp [h1, h2, h3, hd, e1, ih1] <;> rfl
   · have hn : pLook vs xs t = none := by simpa using h3
     by_cases h1 : pIn 10 17 t = true
     · have hv : pVal (vs ++ [t]) (xs ++ [f.Values[k]]) t = f.Values[k] := by rw [pVal, h1, if_pos rfl, pLook_new he hn]; rfl
       simp [h1, hn, hd, e4, e5, e6, hv, ih2]
     · rw [Bool.not_eq_true] at h1
       by_cases h2 : pVal vs xs t = f.Values[k] <;> simp [h1, h2, hn, hd, e1, ih1] <;> rfl
def pMatch (b : Binding) (a : Atom) (f : Fact) : Option (List Int × List Int) :=
 if (a.Rel != f.Rel) || (((a.Terms.length : Int) != (f.Values.length : Int)) || ((b.Vars.length : Int) != (b.Values.length : Int))) then none else pMatchL f.Values a.Terms 0 b.Vars b.Values
def BOk (n : Nat) (b : Binding) : Prop := b.Vars.length = b.Values.length ∧ b.Vars.length ≤ n
theorem s_MatchAtom_eq (b : Binding) (a : Atom) (f : Fact) {n : Nat} (hb : BOk n b) (hn : n + a.Terms.length < 4294967295) : s_MatchAtom b a f = some (pRes (pMatch b a f)) := by
 unfold s_MatchAtom pMatch
 rw [s_l4Copy, app_nil (by have := hb.2; omega), Option.bind_some, app_nil (by have := hb.1; have := hb.2; omega), Option.bind_some, Option.bind_some]
 dsimp only
 split
 · rfl
 · rename_i h
   simp only [Bool.or_eq_true, bne_iff_ne, ne_eq, not_or, Decidable.not_not] at h
   exact s_MatchAtom_L1_eq f a.Terms 0 _ _ (by omega) hb.1 (by have := hb.2; show b.Vars.length + _ < _; omega)
theorem i_MatchAtom_eq (b : Binding) (a : Atom) (f : Fact) {n : Nat} (hb : BOk n b) (hn : n + a.Terms.length < 4294967295) : i_MatchAtom b a f = some (pRes (pMatch b a f)) := by
 unfold i_MatchAtom pMatch
 split
 · rfl
 · rename_i h
   simp only [Bool.or_eq_true, bne_iff_ne, ne_eq, not_or, Decidable.not_not] at h
   rw [i_copyBinding, g_slices_Clone_int_int_eq _ (by have := hb.2; omega), Option.bind_some, g_slices_Clone_int_int_eq _ (by have := hb.1; have := hb.2; omega), Option.bind_some, Option.bind_some]
   exact i_MatchAtom_L1_eq f a.Terms 0 _ _ (by omega) hb.1 (by have := hb.2; show b.Vars.length + _ < _; omega)
def pExt (a : Atom) (facts : List Fact) (b : Binding) : List Binding := facts.filterMap fun f => (pMatch b a f).map fun p => ({ Vars := p.1, Values := p.2 } : Binding)
theorem pExt_len (a : Atom) (facts : List Fact) (b : Binding) : (pExt a facts b).length ≤ facts.length := List.length_filterMap_le ..
theorem s_l4Extend_L2_eq (a : Atom) (b : Binding) {n : Nat} (hb : BOk n b) (hn : n + a.Terms.length < 4294967295) : ∀ (l : List Fact) (k : Nat) (c : List Binding), c.length + l.length < 4294967296 → s_l4Extend_L2 a b l k c = some (c ++ pExt a l b)
 | [], k, c, _ => by simp [s_l4Extend_L2, pExt]
 | f :: l, k, c, h => by
   simp only [List.length_cons] at h
   unfold s_l4Extend_L2
   rw [s_MatchAtom_eq b a f hb hn, Option.bind_some, pExt, List.filterMap_cons]
   cases hp : pMatch b a f with
   | none =>
     simp only [pRes, Bool.false_eq_true, if_false, Option.bind_some, Option.map_none]
     rw [s_l4Extend_L2_eq a b hb hn l _ _ (by omega)]; rfl
   | some p =>
     simp only [pRes, eq_self, if_true, Option.map_some]
     rw [app1 (by omega), Option.bind_some, Option.bind_some]
     rw [s_l4Extend_L2_eq a b hb hn l _ _ (by simp; omega), List.append_assoc]; rfl
theorem s_l4Extend_L1_eq (a : Atom) (facts : List Fact) {n : Nat} (hn : n + a.Terms.length < 4294967295) : ∀ (l : List Binding) (k : Nat) (c : List Binding), (∀ b ∈ l, BOk n b) → c.length + l.length * facts.length < 4294967296 → s_l4Extend_L1 a facts l k c = some (c ++ l.flatMap (pExt a facts))
 | [], k, c, _, _ => by simp [s_l4Extend_L1]
 | b :: l, k, c, hb, h => by
   simp only [List.length_cons, Nat.succ_mul] at h
   have := pExt_len a facts b
   unfold s_l4Extend_L1
   rw [s_l4Extend_L2_eq a b (hb b (by simp)) hn facts 0 c (by omega), Option.bind_some]
   dsimp only
   rw [s_l4Extend_L1_eq a facts hn l _ _ (fun x hx => hb x (by simp [hx])) (by simp; omega), List.flatMap_cons, List.append_assoc]
theorem i_matchAll_L2_eq (a : Atom) (b : Binding) {n : Nat} (hb : BOk n b) (hn : n + a.Terms.length < 4294967295) : ∀ (l : List Fact) (k : Nat) (c : List Binding), c.length + l.length < 4294967296 → i_matchAll_L2 a b l k c = some (c ++ pExt a l b)
 | [], k, c, _ => by simp [i_matchAll_L2, pExt]
 | f :: l, k, c, h => by
   simp only [List.length_cons] at h
   unfold i_matchAll_L2
   rw [i_MatchAtom_eq b a f hb hn, Option.bind_some, pExt, List.filterMap_cons]
   cases hp : pMatch b a f with
   | none =>
     simp only [pRes, Bool.false_eq_true, if_false, Option.bind_some, Option.map_none]
     rw [i_matchAll_L2_eq a b hb hn l _ _ (by omega)]; rfl
   | some p =>
     simp only [pRes, eq_self, if_true, Option.map_some]
     rw [app1 (by omega), Option.bind_some, Option.bind_some]
     rw [i_matchAll_L2_eq a b hb hn l _ _ (by simp; omega), List.append_assoc]; rfl
theorem i_matchAll_L1_eq (a : Atom) (facts : List Fact) {n : Nat} (hn : n + a.Terms.length < 4294967295) : ∀ (l : List Binding) (k : Nat) (c : List Binding), (∀ b ∈ l, BOk n b) → c.length + l.length * facts.length < 4294967296 → i_matchAll_L1 a facts l k c = some (c ++ l.flatMap (pExt a facts))
 | [], k, c, _, _ => by simp [i_matchAll_L1]
 | b :: l, k, c, hb, h => by
   simp only [List.length_cons, Nat.succ_mul] at h
   have := pExt_len a facts b
   unfold i_matchAll_L1
   rw [i_matchAll_L2_eq a b (hb b (by simp)) hn facts 0 c (by omega), Option.bind_some]
   dsimp only
   rw [i_matchAll_L1_eq a facts hn l _ _ (fun x hx => hb x (by simp [hx])) (by simp; omega), List.flatMap_cons, List.append_assoc]
theorem pMatchL_len {fv : List Int} : ∀ {l : List Int} {k : Nat} {vs xs : List Int} {p : List Int × List Int}, pMatchL fv l k vs xs = some p → vs.length = xs.length → p.1.length = p.2.length ∧ p.1.length ≤ vs.length + l.length
 | [], k, vs, xs, p, h, he => by
   simp only [pMatchL, Option.some.injEq] at h
   subst h; exact ⟨he, by simp⟩
 | t :: l, k, vs, xs, p, h, he => by
   unfold pMatchL at h
   split at h
   · have := pMatchL_len h (by simp [he])
     simp only [List.length_append, List.length_cons, List.length_nil] at this ⊢
     exact ⟨this.1, by omega⟩
   · split at h
     · simp at h
     · have := pMatchL_len h he
       simp only [List.length_cons]
       exact ⟨this.1, by omega⟩
theorem pExt_ok {a : Atom} {facts : List Fact} {b x : Binding} {n : Nat} (hb : BOk n b) (h : x ∈ pExt a facts b) : BOk (n + a.Terms.length) x := by
 simp only [pExt, List.mem_filterMap, Option.map_eq_some_iff] at h
 obtain ⟨f, -, p, hp, rfl⟩ := h
 unfold pMatch at hp
 split at hp
 · simp at hp
 · have := pMatchL_len hp hb.1
   exact ⟨this.1, by show p.1.length ≤ _; have := hb.2; omega⟩
def pBinds (facts : List Fact) : List Atom → List Binding → List Binding
 | [], l => l
 | a :: r, l => pBinds facts r (l.flatMap (pExt a facts))
theorem flat_le {α β : Type} (f : α → List β) (c : Nat) (hf : ∀ x, (f x).length ≤ c) : ∀ l : List α, (l.flatMap f).length ≤ l.length * c
 | [] => by simp
 | x :: l => by
   have h1 := hf x
   have h2 := flat_le f c hf l
   rw [List.flatMap_cons, List.length_append, List.length_cons, Nat.succ_mul]; omega
theorem s_BindingsOf_L1_eq (facts : List Fact) (hf : facts.length ≤ 24) : ∀ (l : List Atom) (k n : Nat) (c : List Binding), l.length ≤ 4 → (∀ a ∈ l, a.Terms.length ≤ 3) → (∀ b ∈ c, BOk n b) → n + 3 * l.length ≤ 1000 → c.length * 24 ^ l.length ≤ 24 ^ 4 → s_BindingsOf_L1 facts l k c = some (pBinds facts l c)
 | [], k, n, c, _, _, _, _, _ => rfl
 | a :: l, k, n, c, hl, ha, hb, hn, hc => by
   have ha3 := ha a (by simp)
   rw [List.length_cons, Nat.pow_succ, Nat.mul_comm (24 ^ l.length) 24, ← Nat.mul_assoc] at hc
   have hp : 0 < 24 ^ l.length := Nat.pow_pos (by omega)
   have h1 : c.length * 24 ≤ 24 ^ 4 := Nat.le_trans (Nat.le_mul_of_pos_right _ hp) hc
   have h2 : c.length * facts.length ≤ c.length * 24 := Nat.mul_le_mul_left _ hf
   have h3 := flat_le (pExt a facts) 24 (fun b => Nat.le_trans (pExt_len a facts b) hf) c
   unfold s_BindingsOf_L1 pBinds
   rw [s_l4Extend, s_l4Extend_L1_eq a facts (n := n) (by simp at hn; omega) c 0 [] hb (by simp; omega), Option.bind_some, List.nil_append]
   exact s_BindingsOf_L1_eq facts hf l (k + 1) (n + a.Terms.length) _ (by simp at hl; omega) (fun x hx => ha x (by simp [hx])) (fun x hx => by
     obtain ⟨b, hb1, hb2⟩ := List.mem_flatMap.1 hx
     exact pExt_ok (hb b hb1) hb2) (by simp at hn; omega) (Nat.le_trans (Nat.mul_le_mul_right _ h3) hc)
theorem i_BindingsOf_L1_eq (facts : List Fact) (hf : facts.length ≤ 24) : ∀ (l : List Atom) (k n : Nat) (c : List Binding), l.length ≤ 4 → (∀ a ∈ l, a.Terms.length ≤ 3) → (∀ b ∈ c, BOk n b) → n + 3 * l.length ≤ 1000 → c.length * 24 ^ l.length ≤ 24 ^ 4 → i_BindingsOf_L1 facts l k c = some (pBinds facts l c)
 | [], k, n, c, _, _, _, _, _ => rfl
 | a :: l, k, n, c, hl, ha, hb, hn, hc => by
   have ha3 := ha a (by simp)
   rw [List.length_cons, Nat.pow_succ, Nat.mul_comm (24 ^ l.length) 24, ← Nat.mul_assoc] at hc
   have hp : 0 < 24 ^ l.length := Nat.pow_pos (by omega)
   have h1 : c.length * 24 ≤ 24 ^ 4 := Nat.le_trans (Nat.le_mul_of_pos_right _ hp) hc
   have h2 : c.length * facts.length ≤ c.length * 24 := Nat.mul_le_mul_left _ hf
   have h3 := flat_le (pExt a facts) 24 (fun b => Nat.le_trans (pExt_len a facts b) hf) c
   unfold i_BindingsOf_L1 pBinds
   rw [i_matchAll, i_matchAll_L1_eq a facts (n := n) (by simp at hn; omega) c 0 [] hb (by simp; omega), Option.bind_some, List.nil_append]
   exact i_BindingsOf_L1_eq facts hf l (k + 1) (n + a.Terms.length) _ (by simp at hl; omega) (fun x hx => ha x (by simp [hx])) (fun x hx => by
     obtain ⟨b, hb1, hb2⟩ := List.mem_flatMap.1 hx
     exact pExt_ok (hb b hb1) hb2) (by simp at hn; omega) (Nat.le_trans (Nat.mul_le_mul_right _ h3) hc)
theorem pQuery_shape {s : List Int} {q : Query} (h : pQuery s q = true) : q.Atoms.length ≤ 4 ∧ (∀ a ∈ q.Atoms, a.Terms.length ≤ 3) ∧ q.Head.length ≤ 3 := by
 simp only [pQuery, Bool.and_eq_true, List.all_eq_true, decide_eq_true_eq] at h
 obtain ⟨h1, -, -, h2, h3⟩ := h
 simp only [pIn, Bool.and_eq_true, decide_eq_true_eq] at h2
 refine ⟨by omega, fun a ha => ?_, by omega⟩
 have := h1 a ha
 simp only [pAtom, Bool.and_eq_true, beq_iff_eq] at this
 have h4 := pAr_ix this.1
 omega
def pBindsOf (q : Query) (facts : List Fact) : List Binding := pBinds facts q.Atoms [{ Vars := [], Values := [] }]
theorem s_BindingsOf_eq {s : List Int} {q : Query} {facts : List Fact} (hq : pQuery s q = true) (hf : facts.length ≤ 24) : s_BindingsOf q facts = some (pBindsOf q facts) := by
 obtain ⟨h1, h2, -⟩ := pQuery_shape hq
 rw [s_BindingsOf, s_BindingsOf_L1_eq facts hf q.Atoms 0 0 _ h1 h2 (fun b hb => by simp at hb; subst hb; exact ⟨rfl, by simp⟩) (by omega) (by
   simp only [List.length_cons, List.length_nil, Nat.zero_add, Nat.one_mul]
   exact Nat.pow_le_pow_right (by omega) h1)]
 rfl
theorem i_BindingsOf_eq {s : List Int} {q : Query} {facts : List Fact} (hq : pQuery s q = true) (hf : facts.length ≤ 24) : i_BindingsOf q facts = some (pBindsOf q facts) := by
 obtain ⟨h1, h2, -⟩ := pQuery_shape hq
 rw [i_BindingsOf, i_BindingsOf_L1_eq facts hf q.Atoms 0 0 _ h1 h2 (fun b hb => by simp at hb; subst hb; exact ⟨rfl, by simp⟩) (by omega) (by
   simp only [List.length_cons, List.length_nil, Nat.zero_add, Nat.one_mul]
   exact Nat.pow_le_pow_right (by omega) h1)]
 rfl
theorem pBinds_ok {facts : List Fact} : ∀ {l : List Atom} {n : Nat} {c : List Binding}, (∀ b ∈ c, BOk n b) → ∀ b ∈ pBinds facts l c, BOk (n + tmsN l) b
 | [], n, c, h, b, hb => by simpa [tmsN] using h b hb
 | a :: l, n, c, h, b, hb => by
   have := pBinds_ok (l := l) (n := n + a.Terms.length) (c := c.flatMap (pExt a facts)) (fun x hx => by
     obtain ⟨b, hb1, hb2⟩ := List.mem_flatMap.1 hx
     exact pExt_ok (h b hb1) hb2) b hb
   have e : n + tmsN (a :: l) = n + a.Terms.length + tmsN l := by simp only [tmsN, List.flatMap_cons, List.length_append]; omega
   rw [e]; exact this
theorem tmsN_le : ∀ {l : List Atom}, (∀ a ∈ l, a.Terms.length ≤ 3) → tmsN l ≤ 3 * l.length
 | [], _ => by simp [tmsN]
 | a :: l, h => by
   have h1 := h a (by simp)
   have h2 := tmsN_le (l := l) fun x hx => h x (by simp [hx])
   simp only [tmsN, List.flatMap_cons, List.length_append, List.length_cons] at *; omega
theorem pBindsOf_ok {s : List Int} {q : Query} {facts : List Fact} (hq : pQuery s q = true) : ∀ b ∈ pBindsOf q facts, BOk 12 b := fun b hb => by
 obtain ⟨h1, h2, -⟩ := pQuery_shape hq
 have h3 := tmsN_le h2
 have := pBinds_ok (n := 0) (fun b hb => by simp at hb; subst hb; exact ⟨rfl, by simp⟩) b hb
 exact ⟨this.1, by have := this.2; omega⟩
def pTuple (q : Query) (b : Binding) : List Int := q.Head.map (pVal b.Vars b.Values)
theorem i_TupleOf_L1_eq (b : Binding) (hb : b.Vars.length = b.Values.length) : ∀ (l : List Int) (k : Nat) (c : List Int), c.length + l.length < 4294967296 → i_TupleOf_L1 b l k c = some (c ++ l.map (pVal b.Vars b.Values))
 | [], k, c, _ => by simp [i_TupleOf_L1]
 | t :: l, k, c, h => by
   simp only [List.length_cons] at h
   rw [i_TupleOf_L1, i_ValueOf_eq b t hb, Option.bind_some, app1 (by omega), Option.bind_some, i_TupleOf_L1_eq b hb l _ _ (by simp; omega), List.map_cons, List.append_assoc]
   rfl
theorem i_TupleOf_eq (q : Query) (b : Binding) (hb : b.Vars.length = b.Values.length) (hq : q.Head.length ≤ 3) : i_TupleOf q b = some (pTuple q b) := by
 rw [i_TupleOf, i_TupleOf_L1_eq b hb _ _ _ (by simp; omega), List.nil_append]; rfl
theorem tmsN_tot : ∀ l : List Atom, tmsN l ≤ totL tot_Atom l
 | [] => by simp [tmsN]
 | a :: l => by
   have := tmsN_tot l
   simp only [tmsN, List.flatMap_cons, List.length_append, totL, List.map_cons, List.sum_cons, List.length_cons, tot_Atom] at *; omega
theorem bd_QueryT (q : Query) (h : tot_Query q < 4294967296) : bd_Query q := by
 unfold tot_Query at h
 exact ⟨bdL_flat _ (by omega), bdL_of (f := tot_Atom) (fun x hx => bdL_flat _ hx) _ (by omega)⟩
theorem ms_QueryT (q : Query) : mtN_Query q ≤ 2 * tot_Query q := by
 have h1 : msL meN_Atom q.Atoms ≤ 2 * totL tot_Atom q.Atoms := msL_le 2 (fun x => by simp only [meN_Atom, msL_one, tot_Atom]; omega) q.Atoms
 unfold mtN_Query tot_Query
 rw [msL_one]; omega
theorem pTermsP_len {p : Int → Bool} {l : List Atom} : (pTermsP p l).length ≤ tmsN l := by
 have := puts_len2 (p := p) (v := l.flatMap (·.Terms)) (l := [])
 simpa [pTermsP, tmsN] using this
theorem reach_facts {s : List Int} {l : List Method} {facts : List Fact} (hl : pMethods s l = true) (hf : pFacts s facts = true) (seeds : List Int) : pFacts s (pReach l facts 40 (pStart seeds)).Facts = true ∧ (pReach l facts 40 (pStart seeds)).Facts.length ≤ 24 ∧ bdL bd_Fact (pReach l facts 40 (pStart seeds)).Facts := by
 obtain ⟨j, -, hi⟩ := pReach_inv hl hf 40 0 _ (pStart_inv s l facts seeds)
 have h1 := pw_facts hf hi.pw hi.sub
 have h2 := (pFacts_iff.1 h1).2.2.2
 exact ⟨h1, h2, bdL_Facts (pFacts_all h1) (by omega)⟩
def pTm (a : Atom) (i : Int) : Int := (ix a.Terms i).getD 0
def pCanI (a : Atom) (b : List Int) (i : Int) : Bool := pIn 0 ((a.Terms.length : Int) - 1) i && !(pIn 10 17 (pTm a i) && !decide (pTm a i ∈ b))
def pCan (m : Method) (a : Atom) (b : List Int) : Bool := m.Rel == a.Rel && m.Inputs.all (pCanI a b)
theorem pCan_congr {m : Method} {a : Atom} {b b' : List Int} (h : ∀ v, pIn 10 17 v = true → (v ∈ b ↔ v ∈ b')) : pCan m a b = pCan m a b' := by
 have e : pCanI a b = pCanI a b' := by
   funext i
   unfold pCanI
   cases hv : pIn 10 17 (pTm a i)
   · rfl
   · rw [decide_eq_decide.2 (h _ hv)]
 rw [pCan, pCan, e]
theorem s_CanCall_L1_eq (a : Atom) (b : List Int) (ha : a.Terms.length < 4294967296) : ∀ (l : List Int) (k : Nat), s_CanCall_L1 a b l k = some (l.all (pCanI a b))
 | [], k => rfl
 | x :: l, k => by
   rw [s_CanCall_L1, s_l1In_eq, wrap_in (by omega) (by omega), Option.bind_some, List.all_cons, pCanI]
   cases h : pIn 0 ((a.Terms.length : Int) - 1) x
   · simp
   · obtain ⟨y, e1, -⟩ := pIn_ix h
     have e2 : pTm a x = y := by rw [pTm, e1]; rfl
     rw [if_neg (by simp), e1, Option.bind_some, s_IsVar_eq, Option.bind_some, e2]
     cases pIn 10 17 y
     · simpa using s_CanCall_L1_eq a b ha l (k + 1)
     · rw [s_l2Has_eq]
       by_cases hm : y ∈ b
       · simpa [hm] using s_CanCall_L1_eq a b ha l (k + 1)
       · simp [hm]
theorem s_CanCall_eq (m : Method) (a : Atom) (b : List Int) (ha : a.Terms.length < 4294967296) : s_CanCall m a b = some (pCan m a b) := by
 rw [s_CanCall, s_CanCall_L1_eq a b ha, pCan]
 by_cases h : m.Rel = a.Rel
 · simp [h]
 · simp [h]
theorem i_CanCall_1_eq (a : Atom) (b : List Int) (ha : a.Terms.length < 4294967296) (i : Int) : i_CanCall_1 i a b = some (!pCanI a b i) := by
 rw [i_CanCall_1, i_within_eq, wrap_in (by omega) (by omega), Option.bind_some, pCanI]
 cases h : pIn 0 ((a.Terms.length : Int) - 1) i
 · rfl
 · obtain ⟨y, e1, -⟩ := pIn_ix h
   have e2 : pTm a i = y := by rw [pTm, e1]; rfl
   simp only [Bool.not_true, cond_false, e1, Option.bind_some, i_IsVar_eq, e2]
   cases pIn 10 17 y
   · rfl
   · rw [g_slices_Contains_int_int_eq]
     cases decide (y ∈ b) <;> rfl
theorem i_CanCall_eq (m : Method) (a : Atom) (b : List Int) (ha : a.Terms.length < 4294967296) : i_CanCall m a b = some (pCan m a b) := by
 have h1 : g_slices_ContainsFunc_int_int_iCanCall1 m.Inputs a b = some (m.Inputs.any fun i => !pCanI a b i) := by
   unfold g_slices_ContainsFunc_int_int_iCanCall1 g_slices_IndexFunc_int_int_iCanCall1
   rw [index_loop (L := g_slices_IndexFunc_int_int_iCanCall1_L1 a b) (f := fun i => i_CanCall_1 i a b) (p := fun i => !pCanI a b i) (fun k => rfl) (fun x r k => rfl) m.Inputs 0 (fun x _ => i_CanCall_1_eq a b ha x), Option.bind_some, ixF_neg]
 rw [i_CanCall, h1, pCan]
 have e2 : (m.Inputs.any fun i => !pCanI a b i) = !(m.Inputs.all (pCanI a b)) := by simp [List.all_eq_not_any_not]
 rw [e2]
 cases m.Rel == a.Rel <;> cases m.Inputs.all (pCanI a b) <;> rfl
def pFirst (l : List Method) (a : Atom) (b : List Int) : Int := ixF (fun m => pCan m a b) l 0
theorem s_l6First_eq (l : List Method) (a : Atom) (b : List Int) (ha : a.Terms.length < 4294967296) : s_l6First l a b = some (pFirst l a b) :=
 index_loop (L := s_l6First_L1 a b) (f := fun m => s_CanCall m a b) (fun _ => rfl) (fun _ _ _ => rfl) l 0 fun m _ => s_CanCall_eq m a b ha
theorem i_First_eq (l : List Method) (a : Atom) (b : List Int) (ha : a.Terms.length < 4294967296) : g_slices_IndexFunc_impl_Method_impl_Method_igreedyWhere11igreedy1 l a b = some (pFirst l a b) :=
 index_loop (L := g_slices_IndexFunc_impl_Method_impl_Method_igreedyWhere11igreedy1_L1 a b) (f := fun m => i_greedyWhere_1_1 m a b) (fun _ => rfl) (fun _ _ _ => rfl) l 0 fun m _ => by
   rw [i_greedyWhere_1_1, i_CanCall_eq m a b ha, Option.bind_some]
   cases pCan m a b <;> rfl
def pEx (m : Method) : Method := if (m.Limit : Int) != 0 then { m with Rel := -1 } else m
theorem s_l10Exact_eq (l : List Method) (h : l.length < 4294967296) : s_l10Exact l = some (l.map pEx) := by
 have := map_loop (L := s_l10Exact_L1) (P := fun _ => True) (g := pEx) (fun _ _ => rfl) (fun x r k c _ hc => by
   rw [s_l10Exact_L1, app1 hc, app1 hc, pEx]
   split <;> rfl) l 0 [] (fun _ _ => trivial) (by simpa using h)
 simpa [s_l10Exact] using this
theorem i_exactOnly_L1_eq (l : List Method) (hl : l.length < 4294967296) : ∀ (m i : Nat), i ≤ l.length → l.length - i < m → i_exactOnly_L1 l m ((l.take i).map pEx ++ l.drop i) (i : Int) = some (l.map pEx) := by
 intro m
 induction m with
 | zero => intro i _ h; omega
 | succ m ih =>
   intro i hi hm
   unfold i_exactOnly_L1
   by_cases hlt : i < l.length
   · have hx : ((l.take i).map pEx ++ l.drop i)[i]? = some l[i] := by
       rw [List.getElem?_append_right (by simp; omega)]
       simp [hlt, Nat.min_eq_left hi]
     have ht : l.take (i + 1) = l.take i ++ [l[i]] := (List.take_append_getElem hlt).symm
     have hs : ∀ y : Method, y = pEx l[i] → ((l.take i).map pEx ++ l.drop i).set i y = (l.take (i + 1)).map pEx ++ l.drop (i + 1) := by
       rintro y rfl
       rw [List.set_append, if_neg (by simp; omega)]
       simp only [List.length_map, List.length_take, Nat.min_eq_left hi, Nat.sub_self]
       rw [List.drop_eq_getElem_cons hlt, List.set_cons_zero, ht, List.map_append, List.append_assoc]
       rfl
     rw [if_pos (by simpa using hlt), ix_nat, hx, Option.bind_some, Option.bind_some]
     have hw : IntKind.i64.wrap ((i : Int) + 1) = ((i + 1 : Nat) : Int) := by rw [wrap_in (by omega) (by omega)]; rfl
     rw [hw]
     have hn := ih (i + 1) (by omega) (by omega)
     by_cases h0 : (l[i].Limit : Int) != 0
     · rw [if_pos h0]
       simp only [Option.bind_some, Int.toNat_natCast]
       rw [hs _ (by rw [pEx, if_pos h0])]
       exact hn
     · rw [if_neg h0]
       simp only [Option.bind_some]
       have e : (l.take i).map pEx ++ l.drop i = (l.take (i + 1)).map pEx ++ l.drop (i + 1) := by
         rw [List.drop_eq_getElem_cons hlt, ht, List.map_append, List.append_assoc, List.map_cons, pEx, if_neg h0]
         rfl
       rw [e]
       exact hn
   · rw [if_neg (by simpa using hlt), List.drop_eq_nil_of_le (by omega), List.take_of_length_le (by omega), List.append_nil]
theorem i_exactOnly_eq (l : List Method) (hl : l.length < 4294967296) : i_exactOnly l = some (l.map pEx) := by
 rw [i_exactOnly, g_slices_Clone_impl_Method_impl_Method, app_nil hl]
 simp only [Option.bind_some]
 rw [show ((l.length : Int) - 0).toNat + 2 = l.length + 2 by omega]
 exact i_exactOnly_L1_eq l hl (l.length + 2) 0 (by omega) (by omega)
def pNext (l : List Method) (b : List Int) (dn : Nat → Bool) : List Atom → Nat → Option (Nat × Int × Atom)
 | [], _ => none
 | a :: r, k => if decide ((0 : Int) ≤ pFirst l a b) && !dn k then some (k, pFirst l a b, a) else pNext l b dn r (k + 1)
def pBind (b : List Int) (a : Atom) : List Int := (a.Terms.filter (pIn 10 17)).foldl pPut b
abbrev GS := List Step × List Int × List Int
def pGk (s : GS) : Option (Nat × Int × Atom) → GS
 | none => s
 | some (k, m, a) => (s.1 ++ [{ Atom := (k : Int), Method := m }], pBind s.2.1 a, s.2.2 ++ [(k : Int)])
def pGs (l : List Method) (atoms : List Atom) (s : GS) : GS := pGk s (pNext l s.2.1 (fun k => decide ((k : Int) ∈ s.2.2)) atoms 0)
def pG (l : List Method) (atoms : List Atom) : Nat → GS → GS
 | 0, s => s
 | n + 1, s => pG l atoms n (pGs l atoms s)
theorem s_l6Bind_eq (b : List Int) (a : Atom) (h : b.length + a.Terms.length < 4294967295) : s_l6Bind b a = some (pBind b a) := by
 have key : ∀ (l : List Int) (k : Nat) (c : List Int), c.length + l.length < 4294967295 → s_l6Bind_L1 l k c = some ((l.filter (pIn 10 17)).foldl pPut c) := by
   intro l
   induction l with
   | nil => intro k c _; rfl
   | cons x l ih =>
     intro k c hc
     simp only [List.length_cons] at hc
     have := pPut_len (l := c) (x := x)
     rw [s_l6Bind_L1, s_IsVar_eq, Option.bind_some, List.filter_cons]
     cases pIn 10 17 x
     · simpa using ih (k + 1) c (by omega)
     · rw [if_pos rfl, s_l3Put_eq c x (by omega), Option.bind_some, if_pos rfl]
       exact ih (k + 1) _ (by omega)
 rw [s_l6Bind, app_nil (by omega), Option.bind_some, key _ _ _ (by omega)]; rfl
theorem s_l6Greedy_L3_eq (l : List Method) (s : GS) (h1 : s.1.length < 1000) (h2 : s.2.1.length < 1000) (h3 : s.2.2.length < 1000) : ∀ (ats : List Atom) (k : Nat), (∀ a ∈ ats, a.Terms.length ≤ 3) →
   s_l6Greedy_L3 l ats k s.1 s.2.1 s.2.2 = some (pGk s (pNext l s.2.1 (fun k => decide ((k : Int) ∈ s.2.2)) ats k))
 | [], k, _ => rfl
 | a :: ats, k, ha => by
   have h0 := ha a (by simp)
   rw [s_l6Greedy_L3, s_l6First_eq l a _ (by omega), Option.bind_some, pNext]
   cases hd : decide ((0 : Int) ≤ pFirst l a s.2.1)
   · simpa using s_l6Greedy_L3_eq l s h1 h2 h3 ats (k + 1) fun x hx => ha x (by simp [hx])
   · rw [s_l2Has_eq]
     by_cases hm : (k : Int) ∈ s.2.2
     · simpa [hm] using s_l6Greedy_L3_eq l s h1 h2 h3 ats (k + 1) fun x hx => ha x (by simp [hx])
     · simp only [hm, cond_true, Option.bind_some, decide_false, Bool.not_false, if_true, Bool.and_self, pGk, app1 (c := s.1) (x := ({ Atom := (k : Int), Method := pFirst l a s.2.1 } : Step)) (by omega), app1 (c := s.2.2) (x := (k : Int)) (by omega), s_l6Bind_eq s.2.1 a (by omega)]
theorem pBind_len (b : List Int) (a : Atom) : (pBind b a).length ≤ b.length + a.Terms.length := by
 have h1 := puts_len (v := a.Terms.filter (pIn 10 17)) (l := b)
 have h2 := List.length_filter_le (pIn 10 17) a.Terms
 unfold pBind; omega
theorem pNext_mem {l : List Method} {b : List Int} {dn : Nat → Bool} : ∀ {ats : List Atom} {k k' : Nat} {m : Int} {a : Atom}, pNext l b dn ats k = some (k', m, a) → k ≤ k' ∧ ats[k' - k]? = some a ∧ dn k' = false ∧ 0 ≤ m ∧ m = pFirst l a b
 | [], k, k', m, a, h => by simp [pNext] at h
 | x :: ats, k, k', m, a, h => by
   rw [pNext] at h
   split at h
   · rename_i hc
     simp only [Bool.and_eq_true, decide_eq_true_eq, Bool.not_eq_true'] at hc
     simp only [Option.some.injEq, Prod.mk.injEq] at h
     obtain ⟨rfl, rfl, rfl⟩ := h
     exact ⟨Nat.le_refl _, by simp, hc.2, hc.1, rfl⟩
   · obtain ⟨h1, h2, h3⟩ := pNext_mem h
     refine ⟨by omega, ?_, h3⟩
     rw [show k' - k = (k' - (k + 1)) + 1 by omega, List.getElem?_cons_succ, h2]
theorem s_l6Greedy_eq (l : List Method) (q : Query) (h4 : q.Atoms.length ≤ 4) (ha : ∀ a ∈ q.Atoms, a.Terms.length ≤ 3) : s_l6Greedy l q = some (pG l q.Atoms q.Atoms.length ([], [], [])).1 := by
 have key : ∀ (r : List Atom) (k : Nat) (s : GS), s.1.length + r.length ≤ 4 → s.2.1.length + 3 * r.length ≤ 12 → s.2.2.length + r.length ≤ 4 → s_l6Greedy_L1 l q r k s.1 s.2.1 s.2.2 = some (pG l q.Atoms r.length s).1 := by
   intro r
   induction r with
   | nil => intro k s _ _ _; rfl
   | cons x r ih =>
     intro k s h1 h2 h3
     simp only [List.length_cons] at h1 h2 h3
     rw [s_l6Greedy_L1, s_l6Greedy_L3_eq l s (by omega) (by omega) (by omega) q.Atoms 0 ha, Option.bind_some, List.length_cons, pG]
     have hb : (pGs l q.Atoms s).1.length ≤ s.1.length + 1 ∧ (pGs l q.Atoms s).2.1.length ≤ s.2.1.length + 3 ∧ (pGs l q.Atoms s).2.2.length ≤ s.2.2.length + 1 := by
       unfold pGs
       rcases hn : pNext l s.2.1 (fun k => decide ((k : Int) ∈ s.2.2)) q.Atoms 0 with _ | ⟨k', m, a⟩
       · simp only [pGk]; omega
       · have h5 := ha a (List.mem_of_getElem? (pNext_mem hn).2.1)
         have h6 := pBind_len s.2.1 a
         simp only [pGk, List.length_append, List.length_cons, List.length_nil]; omega
     exact ih (k + 1) (pGs l q.Atoms s) (by omega) (by omega) (by omega)
 exact key q.Atoms 0 ([], [], []) (by simpa using h4) (by simp; omega) (by simpa using h4)
theorem pNext_congr {l : List Method} {b b' : List Int} {dn dn' : Nat → Bool} (hb : ∀ v, pIn 10 17 v = true → (v ∈ b ↔ v ∈ b')) : ∀ {ats : List Atom} {k : Nat}, (∀ j, k ≤ j → j < k + ats.length → dn j = dn' j) → pNext l b dn ats k = pNext l b' dn' ats k
 | [], k, _ => rfl
 | a :: ats, k, h => by
   have e : pFirst l a b = pFirst l a b' := by
     unfold pFirst
     rw [show (fun m => pCan m a b) = fun m => pCan m a b' from funext fun m => pCan_congr hb]
   rw [pNext, pNext, e, h k (Nat.le_refl _) (by simp), pNext_congr hb fun j h1 h2 => h j (by omega) (by simp only [List.length_cons]; omega)]
def pNx : Option (Nat × Int × Atom) → Step × Bool
 | none => (({ Atom := 0, Method := 0 } : Step), false)
 | some (k, m, _) => (({ Atom := (k : Int), Method := m } : Step), true)
theorem i_greedyWhere_1_eq (l : List Method) (b : List Int) (dn : List Bool) : ∀ (ats : List Atom) (k : Nat), (∀ a ∈ ats, a.Terms.length ≤ 3) → k + ats.length ≤ dn.length → i_greedyWhere_1_L1 l b dn ats k = some (pNx (pNext l b (fun j => dn[j]?.getD false) ats k))
 | [], k, _, _ => rfl
 | a :: ats, k, ha, hk => by
   simp only [List.length_cons] at hk
   have h0 := ha a (by simp)
   rw [i_greedyWhere_1_L1, i_First_eq l a b (by omega), Option.bind_some, ix_nat, List.getElem?_eq_getElem (show k < dn.length by omega), Option.bind_some, pNext, List.getElem?_eq_getElem (show k < dn.length by omega), Option.getD_some]
   have ih := i_greedyWhere_1_eq l b dn ats (k + 1) (fun x hx => ha x (by simp [hx])) (by omega)
   cases dn[k]
   · cases hd : decide ((0 : Int) ≤ pFirst l a b)
     · simpa using ih
     · rfl
   · simpa using ih
def pDone (n : Nat) (s : GS) : List Bool := (List.range n).map fun k : Nat => decide ((k : Int) ∈ s.2.2)
def pLeft (n : Nat) (s : GS) : Nat := ((List.range n).filter fun k : Nat => !decide ((k : Int) ∈ s.2.2)).length
theorem pDone_at {n k : Nat} {s : GS} (h : k < n) : (pDone n s)[k]? = some (decide ((k : Int) ∈ s.2.2)) := by
 rw [pDone, List.getElem?_map, List.getElem?_range h]; rfl
theorem pDone_set {n k : Nat} {s : GS} {m : Int} {a : Atom} (h : k < n) : (pDone n s).set k true = pDone n (pGk s (some (k, m, a))) := by
 refine List.ext_getElem? fun j => ?_
 rcases Nat.lt_or_ge j n with hj | hj
 · rw [pDone_at hj, List.getElem?_set]
   by_cases e : k = j
   · subst e
     rw [if_pos rfl, if_pos (by simpa [pDone] using h)]
     simp [pGk]
   · rw [if_neg e, pDone_at hj]
     have : ¬ (j : Int) = (k : Int) := by omega
     simp [pGk, this]
 · rw [List.getElem?_eq_none (by simpa [pDone] using hj), List.getElem?_eq_none (by simpa [pDone] using hj)]
theorem pLeft_step {n k : Nat} {s : GS} {m : Int} {a : Atom} (h : k < n) (hk : ¬ (k : Int) ∈ s.2.2) : pLeft n (pGk s (some (k, m, a))) < pLeft n s := by
 unfold pLeft
 have e : ((List.range n).filter fun j : Nat => !decide ((j : Int) ∈ (pGk s (some (k, m, a))).2.2)) = ((List.range n).filter fun j : Nat => !decide ((j : Int) ∈ s.2.2)).filter fun j : Nat => !decide (j = k) := by
   rw [List.filter_filter]
   congr 1
   funext j
   have : ((j : Int) = (k : Int)) ↔ j = k := by omega
   simp [pGk, this, Bool.and_comm]
 rw [e]
 exact List.length_filter_lt_length_iff_exists.2 ⟨k, List.mem_filter.2 ⟨List.mem_range.2 h, by simpa using hk⟩, by simp⟩
theorem pG_stop {l : List Method} {atoms : List Atom} {s : GS} (h : pNext l s.2.1 (fun k => decide ((k : Int) ∈ s.2.2)) atoms 0 = none) : ∀ n, pG l atoms n s = s
 | 0 => rfl
 | n + 1 => by rw [pG, pGs, h]; exact pG_stop h n
theorem pBind_mem {b : List Int} {a : Atom} {v : Int} : v ∈ pBind b a ↔ v ∈ b ∨ (v ∈ a.Terms ∧ pIn 10 17 v = true) := by
 rw [pBind, puts_mem, List.mem_filter]
theorem i_greedy_L1_eq (l : List Method) (atoms : List Atom) (h4 : atoms.length ≤ 4) (ha : ∀ a ∈ atoms, a.Terms.length ≤ 3) : ∀ (m n : Nat) (s : GS) (b' : List Int), (∀ v, pIn 10 17 v = true → (v ∈ s.2.1 ↔ v ∈ b')) → pLeft atoms.length s < m → pLeft atoms.length s ≤ n → s.1.length + pLeft atoms.length s ≤ 4 → b'.length + 3 * pLeft atoms.length s ≤ 12 →
   ∀ x, x = pNx (pNext l s.2.1 (fun k => decide ((k : Int) ∈ s.2.2)) atoms 0) → i_greedyWhere_igreedy1_L1 l atoms m s.1 (pDone atoms.length s) b' x.1.Atom x.1.Method x.2 = some ((pG l atoms n s).1, pDone atoms.length (pG l atoms n s)) := by
 intro m
 induction m with
 | zero => intro n s b' _ h; omega
 | succ m ih =>
   rintro n s b' hb hm hn h1 h2 x rfl
   rcases he : pNext l s.2.1 (fun k => decide ((k : Int) ∈ s.2.2)) atoms 0 with _ | ⟨k, mt, a⟩
   · rw [pG_stop he]; rfl
   · show i_greedyWhere_igreedy1_L1 l atoms (m + 1) s.1 (pDone atoms.length s) b' (k : Int) mt true = _
     obtain ⟨-, e2, e3, e4, -⟩ := pNext_mem he
     have hk : k < atoms.length := by
       rcases Nat.lt_or_ge k atoms.length with h | h
       · exact h
       · rw [List.getElem?_eq_none (by omega)] at e2; cases e2
     have hku : ¬ (k : Int) ∈ s.2.2 := by simpa using e3
     have hs := pLeft_step (m := mt) (a := a) hk hku
     have h5 := ha a (List.mem_of_getElem? e2)
     rw [Nat.sub_zero] at e2
     rw [i_greedyWhere_igreedy1_L1, if_pos rfl, show chk (decide ((0 : Int) ≤ (k : Int)) && decide ((k : Int) < ((pDone atoms.length s).length : Int))) = some () from by
       unfold chk; rw [if_pos (by simp [pDone, hk])], Option.bind_some, Option.bind_some, Int.toNat_natCast, pDone_set (m := mt) (a := a) hk, ix_nat, e2, Option.bind_some, app_ok (by omega), Option.bind_some, app1 (by omega), Option.bind_some]
     have hb2 : ∀ v, pIn 10 17 v = true → (v ∈ (pGk s (some (k, mt, a))).2.1 ↔ v ∈ b' ++ a.Terms) := fun v hv => by
       show v ∈ pBind s.2.1 a ↔ _
       rw [pBind_mem, List.mem_append, hb v hv]
       simp [hv]
     have hq : i_greedyWhere_1 atoms l (b' ++ a.Terms) (pDone atoms.length (pGk s (some (k, mt, a)))) = some (pNx (pNext l (pGk s (some (k, mt, a))).2.1 (fun j => decide ((j : Int) ∈ (pGk s (some (k, mt, a))).2.2)) atoms 0)) := by
       rw [i_greedyWhere_1, i_greedyWhere_1_eq l _ _ atoms 0 ha (by simp [pDone])]
       rw [pNext_congr (b := b' ++ a.Terms) (fun v hv => (hb2 v hv).symm) (dn' := fun j => decide ((j : Int) ∈ (pGk s (some (k, mt, a))).2.2)) fun j _ hj => by
         rw [pDone_at (by omega)]; rfl]
     rw [hq, Option.bind_some]
     obtain ⟨n', rfl⟩ : ∃ n', n = n' + 1 := ⟨n - 1, by omega⟩
     have hg : pG l atoms (n' + 1) s = pG l atoms n' (pGk s (some (k, mt, a))) := by rw [pG, pGs, he]
     rw [hg]
     exact ih n' (pGk s (some (k, mt, a))) (b' ++ a.Terms) hb2 (by omega) (by omega) (by
       have : (pGk s (some (k, mt, a))).1.length = s.1.length + 1 := by simp [pGk]
       omega) (by simp only [List.length_append]; omega) _ rfl
theorem pLeft_le (n : Nat) (s : GS) : pLeft n s ≤ n := by
 have := List.length_filter_le (fun k : Nat => !decide ((k : Int) ∈ s.2.2)) (List.range n)
 rw [List.length_range] at this
 exact this
def pGr (l : List Method) (atoms : List Atom) : GS := pG l atoms atoms.length ([], [], [])
theorem i_greedy_eq (l : List Method) (atoms : List Atom) (h4 : atoms.length ≤ 4) (ha : ∀ a ∈ atoms, a.Terms.length ≤ 3) : i_greedy 20 l atoms = some ((pGr l atoms).1, pDone atoms.length (pGr l atoms)) := by
 have h0 := pLeft_le atoms.length (([], [], []) : GS)
 have hd : List.replicate atoms.length false = pDone atoms.length ([], [], []) := by
   refine List.ext_getElem? fun j => ?_
   rcases Nat.lt_or_ge j atoms.length with hj | hj
   · rw [pDone_at hj]; simp [hj]
   · rw [List.getElem?_eq_none (by simpa using hj), List.getElem?_eq_none (by simpa [pDone] using hj)]
 have hq : i_greedyWhere_1 atoms l ([] : List Int) (pDone atoms.length ([], [], [])) = some (pNx (pNext l ([] : List Int) (fun j => decide ((j : Int) ∈ ([] : List Int))) atoms 0)) := by
   rw [i_greedyWhere_1, i_greedyWhere_1_eq l _ _ atoms 0 ha (by simp [pDone])]
   rw [pNext_congr (b := ([] : List Int)) (fun _ _ => Iff.rfl) (dn' := fun j => decide ((j : Int) ∈ ([] : List Int))) fun j _ hj => by
     rw [pDone_at (by omega)]; rfl]
 rw [i_greedy, i_greedyWhere_igreedy1, mkz_nat _ _ (by omega), Option.bind_some, hd, hq, Option.bind_some,
   i_greedy_L1_eq l atoms h4 ha 20 atoms.length ([], [], []) [] (fun _ _ => Iff.rfl) (by omega) h0 (by simp; omega) (by simp; omega) _ rfl]
 rfl
theorem s_l6Greedy_eq2 (l : List Method) (q : Query) (h4 : q.Atoms.length ≤ 4) (ha : ∀ a ∈ q.Atoms, a.Terms.length ≤ 3) : s_l6Greedy l q = some (pGr l q.Atoms).1 := s_l6Greedy_eq l q h4 ha
def pSel (u : List Int) : List Atom → Nat → List Atom
 | [], _ => []
 | a :: r, k => if (k : Int) ∈ u then a :: pSel u r (k + 1) else pSel u r (k + 1)
theorem pSel_sub {u : List Int} : ∀ {l : List Atom} {k : Nat}, (pSel u l k).Sublist l
 | [], _ => List.Sublist.refl _
 | a :: l, k => by
   unfold pSel
   split
   · exact (pSel_sub (l := l)).cons_cons a
   · exact (pSel_sub (l := l)).cons a
theorem pG_inv {l : List Method} {atoms : List Atom} : ∀ (n : Nat) {s : GS}, (s.1.map fun t => t.Atom) = s.2.2 → s.2.2.Nodup → ((pG l atoms n s).1.map fun t => t.Atom) = (pG l atoms n s).2.2 ∧ (pG l atoms n s).2.2.Nodup
 | 0, s, h1, h2 => ⟨h1, h2⟩
 | n + 1, s, h1, h2 => by
   rw [pG, pGs]
   rcases he : pNext l s.2.1 (fun k => decide ((k : Int) ∈ s.2.2)) atoms 0 with _ | ⟨k, mt, a⟩
   · exact pG_inv n h1 h2
   · have e3 := (pNext_mem he).2.2.1
     refine pG_inv n ?_ ?_
     · simp [pGk, h1]
     · have : ¬ (k : Int) ∈ s.2.2 := by simpa using e3
       show (s.2.2 ++ [(k : Int)]).Nodup
       refine List.nodup_append.2 ⟨h2, by simp, fun x hx y hy => ?_⟩
       obtain rfl : y = (k : Int) := by simpa using hy
       rintro rfl
       exact this hx
theorem steps_one (x : Atom) (k : Int) : ∀ (l : List Step), (l.map fun t => t.Atom).Nodup → ((l.filter fun t => t.Atom == k).map fun _ => x) = if k ∈ (l.map fun t => t.Atom) then [x] else []
 | [], _ => rfl
 | t :: l, h => by
   simp only [List.map_cons, List.nodup_cons] at h
   have ih := steps_one x k l h.2
   rw [List.filter_cons]
   by_cases e : t.Atom = k
   · subst e
     rw [if_neg h.1] at ih
     rw [if_pos (by simp), List.map_cons, ih, if_pos (by simp)]
   · rw [if_neg (by simpa using e), ih]
     have e' : ¬ k = t.Atom := fun h => e h.symm
     simp [e']
theorem s_l3Atom_eq (r : Int) (t : List Int) (h : t.length < 4294967296) : s_l3Atom r t = some { Rel := r, Terms := t } := by
 rw [s_l3Atom, app_nil h]; rfl
theorem s_AnswerablePart_L3_eq (r : List Step) (k : Nat) (x : Atom) (hr : r.length ≤ 1000) (hx : x.Terms.length ≤ 3) : ∀ (m i : Nat) (c : List Atom), i ≤ r.length → r.length - i < m → c.length + (r.length - i) ≤ 4000 → s_AnswerablePart_L3 r k x m c (i : Int) = some (c ++ ((r.drop i).filter fun t => t.Atom == (k : Int)).map fun _ => x) := by
 intro m
 induction m with
 | zero => intro i c _ h; omega
 | succ m ih =>
   intro i c hi hm hc
   unfold s_AnswerablePart_L3
   by_cases hlt : i < r.length
   · have hw : IntKind.i64.wrap ((i : Int) + 1) = ((i + 1 : Nat) : Int) := by rw [wrap_in (by omega) (by omega)]; rfl
     rw [if_pos (by simpa using hlt), ix_nat, List.getElem?_eq_getElem hlt, Option.bind_some, s_l3Atom_eq _ _ (by omega), Option.bind_some, app1 (by omega), hw, List.drop_eq_getElem_cons hlt, List.filter_cons]
     cases hb : r[i].Atom == (k : Int)
     · simp only [Bool.false_eq_true, if_false, Option.bind_some]
       exact ih (i + 1) c (by omega) (by omega) (by omega)
     · simp only [if_true, Option.bind_some, List.map_cons]
       rw [ih (i + 1) _ (by omega) (by omega) (by simp; omega), List.append_assoc]; rfl
   · rw [if_neg (by simpa using hlt), List.drop_eq_nil_of_le (by omega)]; simp
theorem pSel_cons {u : List Int} {a : Atom} {l : List Atom} {k : Nat} : pSel u (a :: l) k = (if (k : Int) ∈ u then [a] else []) ++ pSel u l (k + 1) := by
 rw [pSel]; split <;> rfl
theorem s_AnswerablePart_L1_eq (s : List Int) (r : List Step) (u hd : List Int) (hu : (r.map fun t => t.Atom) = u) (hn : u.Nodup) (hr : r.length ≤ 1000) (hs : s.length < 4294967296) : ∀ (l : List Atom) (k : Nat) (c : List Atom), (∀ a ∈ l, a.Terms.length ≤ 3) → c.length + l.length ≤ 1000 → tmsN c + tmsN l < 1000000 →
   s_AnswerablePart_L1 s r hd l k c = some (if pQuery s { Head := hd, Atoms := c ++ pSel u l k } then ({ Head := hd, Atoms := c ++ pSel u l k }, true) else ({ Head := [], Atoms := [] }, false))
 | [], k, c, _, _, ht => by
   rw [s_AnswerablePart_L1, s_IsQuery_eq s _ hs (by simp [tmsN] at ht ⊢; omega), Option.bind_some, pSel, List.append_nil]
   cases pQuery s { Head := hd, Atoms := c } <;> rfl
 | a :: l, k, c, ha, hc, ht => by
   simp only [List.length_cons] at hc
   have h0 := ha a (by simp)
   rw [s_AnswerablePart_L1, show ((r.length : Int) - 0).toNat + 2 = r.length + 2 by omega, show (0 : Int) = ((0 : Nat) : Int) from rfl, s_AnswerablePart_L3_eq r k a hr h0 _ 0 c (by omega) (by omega) (by omega), Option.bind_some, List.drop_zero, steps_one a (k : Int) r (by rw [hu]; exact hn), hu, pSel_cons, ← List.append_assoc]
   have e1 : tmsN (a :: l) = a.Terms.length + tmsN l := by simp [tmsN]
   have e2 : tmsN (c ++ if (k : Int) ∈ u then [a] else []) ≤ tmsN c + a.Terms.length := by
     split <;> simp [tmsN]
   exact s_AnswerablePart_L1_eq s r u hd hu hn hr hs l (k + 1) _ (fun x hx => ha x (by simp [hx])) (by split <;> simp <;> omega) (by omega)
def pPartQ (l : List Method) (q : Query) : Query := { Head := q.Head, Atoms := pSel (pGr (l.map pEx) q.Atoms).2.2 q.Atoms 0 }
def pAP (s : List Int) (l : List Method) (q : Query) : Query × Bool := if pMethods s l && pQuery s q && pQuery s (pPartQ l q) then (pPartQ l q, true) else ({ Head := [], Atoms := [] }, false)
theorem pGr_ok (l : List Method) (atoms : List Atom) : ((pGr l atoms).1.map fun t => t.Atom) = (pGr l atoms).2.2 ∧ (pGr l atoms).2.2.Nodup := pG_inv atoms.length (s := ([], [], [])) rfl (by simp)
theorem pMethods_len {s : List Int} {l : List Method} (h : pMethods s l = true) : l.length ≤ 5 := by
 simp only [pMethods, Bool.and_eq_true, decide_eq_true_eq] at h; omega
theorem pG_len {l : List Method} {atoms : List Atom} : ∀ (n : Nat) (s : GS), (pG l atoms n s).1.length ≤ s.1.length + n
 | 0, s => by simp [pG]
 | n + 1, s => by
   have h1 := pG_len (l := l) (atoms := atoms) n (pGs l atoms s)
   have h2 : (pGs l atoms s).1.length ≤ s.1.length + 1 := by
     unfold pGs
     rcases pNext l s.2.1 (fun k => decide ((k : Int) ∈ s.2.2)) atoms 0 with _ | ⟨k, mt, a⟩ <;> simp [pGk]
   rw [pG]; omega
theorem s_AnswerablePart_eq (s : List Int) (l : List Method) (q : Query) (hs : s.length < 4294967296) (hml : bdL bd_Method l) (ht : tmsN q.Atoms < 4294967295) : s_AnswerablePart s l q = some (pAP s l q) := by
 rw [s_AnswerablePart, s_l6Fine_eq s l q hs hml ht, Option.bind_some, pAP]
 cases hl : pMethods s l
 · rfl
 cases hq : pQuery s q
 · rfl
 obtain ⟨h4, ha, hh⟩ := pQuery_shape hq
 have h5 := pMethods_len hl
 have h6 := tmsN_le ha
 have h7 := pG_len (l := l.map pEx) (atoms := q.Atoms) q.Atoms.length ([], [], [])
 simp only [List.length_nil] at h7
 rw [if_neg (by simp), s_l10Exact_eq l (by omega), Option.bind_some, s_l6Greedy_eq2 _ q h4 ha, Option.bind_some, app_nil (by omega), Option.bind_some,
   s_AnswerablePart_L1_eq s _ _ q.Head (pGr_ok (l.map pEx) q.Atoms).1 (pGr_ok (l.map pEx) q.Atoms).2 (by show (pG (l.map pEx) q.Atoms q.Atoms.length ([], [], [])).1.length ≤ 1000; omega) hs q.Atoms 0 [] ha (by simp; omega) (by simp [tmsN] at h6 ⊢; omega)]
 rfl
theorem i_part_L1_eq (s : List Int) (n : Nat) (st : List Step) (g : GS) (hd : List Int) (hs : s.length < 4294967296) : ∀ (l : List Atom) (k : Nat) (c : List Atom), (∀ a ∈ l, a.Terms.length ≤ 3) → k + l.length ≤ n → c.length + l.length ≤ 1000 → tmsN c + tmsN l < 1000000 →
   i_part_L1 s (st, pDone n g) hd l k c = some ({ Head := hd, Atoms := c ++ pSel g.2.2 l k }, pQuery s { Head := hd, Atoms := c ++ pSel g.2.2 l k })
 | [], k, c, _, _, _, ht => by
   rw [i_part_L1, i_IsQuery_eq s _ hs (by simp [tmsN] at ht ⊢; omega), Option.bind_some, pSel, List.append_nil]
 | a :: l, k, c, ha, hk, hc, ht => by
   simp only [List.length_cons] at hc hk
   have h0 := ha a (by simp)
   rw [i_part_L1]
   dsimp only
   rw [ix_nat, pDone_at (by omega), Option.bind_some, i_copyAtom, g_slices_Clone_int_int_eq _ (by omega), Option.bind_some, Option.bind_some, app1 (by omega), pSel_cons, ← List.append_assoc]
   have e1 : tmsN (a :: l) = a.Terms.length + tmsN l := by simp [tmsN]
   by_cases hm : (k : Int) ∈ g.2.2
   · simp only [hm, decide_true, if_true, Option.bind_some]
     exact i_part_L1_eq s n st g hd hs l (k + 1) _ (fun x hx => ha x (by simp [hx])) (by omega) (by simp; omega) (by simp [tmsN] at e1 ht ⊢; omega)
   · simp only [hm, decide_false, Bool.false_eq_true, if_false, Option.bind_some, List.append_nil]
     exact i_part_L1_eq s n st g hd hs l (k + 1) _ (fun x hx => ha x (by simp [hx])) (by omega) (by omega) (by omega)
theorem i_part_eq {s : List Int} {l : List Method} {q : Query} (hs : s.length < 4294967296) (hl : pMethods s l = true) (hq : pQuery s q = true) : i_part 20 s l q = some (pPartQ l q, pQuery s (pPartQ l q)) := by
 obtain ⟨h4, ha, hh⟩ := pQuery_shape hq
 have h5 := pMethods_len hl
 have h6 := tmsN_le ha
 rw [i_part, i_exactOnly_eq l (by omega), Option.bind_some, i_greedy_eq _ q.Atoms h4 ha, Option.bind_some, g_slices_Clone_int_int_eq _ (by omega), Option.bind_some,
   i_part_L1_eq s q.Atoms.length _ _ q.Head hs q.Atoms 0 [] ha (by omega) (by simp; omega) (by simp [tmsN] at h6 ⊢; omega)]
 rfl
theorem i_AnswerablePart_eq (s : List Int) (l : List Method) (q : Query) (hs : s.length < 4294967296) (hml : bdL bd_Method l) (ht : tmsN q.Atoms < 4294967295) : i_AnswerablePart 20 s l q = some (pAP s l q) := by
 rw [i_AnswerablePart, i_areAsked_eq s l q hs hml ht, Option.bind_some, pAP]
 cases hl : pMethods s l
 · rfl
 cases hq : pQuery s q
 · rfl
 rw [if_neg (by simp), i_part_eq hs hl hq, Option.bind_some]
 cases pQuery s (pPartQ l q) <;> rfl
def pNewV (W : List Int) : Nat → Int → Int
 | 0, c => c
 | n + 1, c => if c ∈ W then pNewV W n (c + 1) else c
theorem pNewV_congr {W W' : List Int} (h : ∀ v, v ∈ W ↔ v ∈ W') : ∀ (n : Nat) (c : Int), pNewV W n c = pNewV W' n c
 | 0, _ => rfl
 | n + 1, c => by
   rw [pNewV, pNewV, pNewV_congr h n]
   by_cases hc : c ∈ W
   · rw [if_pos hc, if_pos ((h c).1 hc)]
   · rw [if_neg hc, if_neg fun h' => hc ((h c).2 h')]
theorem pNewV_ge {W : List Int} : ∀ (n : Nat) (c : Int), c ≤ pNewV W n c
 | 0, c => Int.le_refl _
 | n + 1, c => by
   rw [pNewV]; split
   · have := pNewV_ge (W := W) n (c + 1); omega
   · exact Int.le_refl _
theorem pNewV_le {W : List Int} (hW : ∀ v ∈ W, v ≤ 9) : ∀ (n : Nat) (c : Int), c ≤ 10 → pNewV W n c ≤ 10
 | 0, c, h => h
 | n + 1, c, h => by
   rw [pNewV]; split
   · rename_i hc; have := hW c hc; exact pNewV_le hW n (c + 1) (by omega)
   · exact h
theorem s_FreezeQuery_L7_eq {W : List Int} (hW : ∀ v ∈ W, v ≤ 9) : ∀ (n : Nat) (c : Int), 0 ≤ c → c ≤ 10 → 10 < c + n → s_FreezeQuery_L7 W n c = some (pNewV W n c)
 | 0, c, _, h1, h2 => by omega
 | n + 1, c, h0, h1, h2 => by
   rw [s_FreezeQuery_L7, s_l2Has_eq, Option.bind_some, pNewV]
   by_cases hc : c ∈ W
   · have := hW c hc
     simp only [hc, decide_true, if_true]
     rw [wrap_in (by omega) (by omega)]
     exact s_FreezeQuery_L7_eq hW n (c + 1) (by omega) (by omega) (by omega)
   · simp [hc]
theorem i_freeze_L3_eq {W : List Int} (hW : ∀ v ∈ W, v ≤ 9) : ∀ (n : Nat) (c : Int), 0 ≤ c → c ≤ 10 → 10 < c + n → i_freeze_L3 W n c = some (pNewV W n c)
 | 0, c, _, h1, h2 => by omega
 | n + 1, c, h0, h1, h2 => by
   rw [i_freeze_L3, g_slices_Contains_int_int_eq, Option.bind_some, pNewV]
   by_cases hc : c ∈ W
   · have := hW c hc
     simp only [hc, decide_true, if_true]
     rw [wrap_in (by omega) (by omega)]
     exact i_freeze_L3_eq hW n (c + 1) (by omega) (by omega) (by omega)
   · simp [hc]
def pAsg (W : List Int) : List Int → Int → List Int → List Int → Option (List Int × List Int)
 | [], _, vs, xs => some (vs, xs)
 | t :: r, c, vs, xs => if 9 < pNewV W 20 c then none else pAsg W r (pNewV W 20 c + 1) (vs ++ [t]) (xs ++ [pNewV W 20 c])
theorem pAsg_congr {W W' : List Int} (h : ∀ v, v ∈ W ↔ v ∈ W') : ∀ (l : List Int) (c : Int) (vs xs : List Int), pAsg W l c vs xs = pAsg W' l c vs xs
 | [], _, _, _ => rfl
 | t :: r, c, vs, xs => by rw [pAsg, pAsg, pNewV_congr h, pAsg_congr h r]
theorem pAsg_some {W : List Int} : ∀ {l : List Int} {c : Int} {vs xs : List Int} {p : List Int × List Int}, 0 ≤ c → vs.length = xs.length → (∀ x ∈ xs, 0 ≤ x ∧ x ≤ 9) → pAsg W l c vs xs = some p → p.1 = vs ++ l ∧ p.1.length = p.2.length ∧ ∀ x ∈ p.2, 0 ≤ x ∧ x ≤ 9
 | [], c, vs, xs, p, _, h1, h2, h => by
   obtain rfl := Option.some.inj h
   exact ⟨by simp, h1, h2⟩
 | t :: r, c, vs, xs, p, h0, h1, h2, h => by
   rw [pAsg] at h
   split at h
   · cases h
   · rename_i h9
     have hg := pNewV_ge (W := W) 20 c
     obtain ⟨e1, e2, e3⟩ := pAsg_some (by omega) (by simp [h1]) (fun x hx => by
       rcases List.mem_append.1 hx with hx | hx
       · exact h2 x hx
       · obtain rfl := List.mem_singleton.1 hx; omega) h
     exact ⟨by rw [e1, List.append_assoc]; rfl, e2, e3⟩
def pFct (vs xs : List Int) (a : Atom) : Fact := { Rel := a.Rel, Values := a.Terms.map (pVal vs xs) }
def pFrz (W : List Int) (q : Query) : Option (List Fact × Binding) := (pAsg W (pTermsP (pIn 10 17) q.Atoms) 0 [] []).map fun p => ((q.Atoms.map (pFct p.1 p.2)).foldl pAddF [], ({ Vars := p.1, Values := p.2 } : Binding))
def pFrzR : Option (List Fact × Binding) → List Fact × Binding × Bool
 | none => ([], { Vars := [], Values := [] }, false)
 | some (f, b) => (f, b, true)
theorem s_FreezeQuery_L6_eq (vs xs : List Int) (c : List Fact) (a : Atom) (hv : vs.length < 100) (ha : a.Terms.length ≤ 3) (hc : c.length ≤ 1000) (hb : bdL bd_Fact c) : ∀ (m i : Nat), i ≤ a.Terms.length → a.Terms.length - i < m → s_FreezeQuery_L6 vs xs c a m ((a.Terms.take i).map (pVal vs xs)) (i : Int) = some (pAddF c (pFct vs xs a)) := by
 intro m
 induction m with
 | zero => intro i _ h; omega
 | succ m ih =>
   intro i hi hm
   unfold s_FreezeQuery_L6
   by_cases hlt : i < a.Terms.length
   · have hw : IntKind.i64.wrap ((i : Int) + 1) = ((i + 1 : Nat) : Int) := by rw [wrap_in (by omega) (by omega)]; rfl
     have e : s_ValueOf ({ Vars := vs, Values := xs } : Binding) a.Terms[i] = some (pVal vs xs a.Terms[i]) := s_ValueOf_eq _ _ (by show vs.length < _; omega)
     have ht : a.Terms.take (i + 1) = a.Terms.take i ++ [a.Terms[i]] := (List.take_append_getElem hlt).symm
     have ih' := ih (i + 1) (by omega) (by omega)
     rw [ht, List.map_append, List.map_cons, List.map_nil] at ih'
     rw [if_pos (by simpa using hlt), ix_nat, List.getElem?_eq_getElem hlt, Option.bind_some, e, Option.bind_some, app1 (by simp; omega), Option.bind_some, hw, ih']
   · rw [if_neg (by simpa using hlt), List.take_of_length_le (by omega), show ({ Rel := a.Rel, Values := a.Terms.map (pVal vs xs) } : Fact) = pFct vs xs a from rfl,
       s_AddFact_eq c _ hb (by omega) (bdL_flat _ (by simp [pFct]; omega))]
     rfl
theorem pFct_bd {vs xs : List Int} {a : Atom} (ha : a.Terms.length ≤ 3) : bd_Fact (pFct vs xs a) := bdL_flat _ (by simp [pFct]; omega)
theorem pAddF_bd {c : List Fact} {f : Fact} (hc : c.length ≤ 1000) (hb : bdL bd_Fact c) (hf : bd_Fact f) : bdL bd_Fact (pAddF c f) := ⟨by have := pAddF_len c f; omega, fun x hx => by
 rcases pAddF_mem hx with rfl | hx
 · exact hf
 · exact hb.2 x hx⟩
theorem s_FreezeQuery_L5_eq (vs xs : List Int) (hv : vs.length < 100) : ∀ (l : List Atom) (k : Nat) (c : List Fact), (∀ a ∈ l, a.Terms.length ≤ 3) → c.length + l.length ≤ 1000 → bdL bd_Fact c → s_FreezeQuery_L5 vs xs l k c = some ((l.map (pFct vs xs)).foldl pAddF c, ({ Vars := vs, Values := xs } : Binding), true)
 | [], k, c, _, _, _ => rfl
 | a :: l, k, c, ha, hc, hb => by
   simp only [List.length_cons] at hc
   have h0 := ha a (by simp)
   have h1 : s_FreezeQuery_L6 vs xs c a (((a.Terms.length : Int) - 0).toNat + 2) [] 0 = some (pAddF c (pFct vs xs a)) := s_FreezeQuery_L6_eq vs xs c a hv h0 (by omega) hb (((a.Terms.length : Int) - 0).toNat + 2) 0 (by omega) (by omega)
   rw [s_FreezeQuery_L5, h1, Option.bind_some]
   have h2 := pAddF_len c (pFct vs xs a)
   exact s_FreezeQuery_L5_eq vs xs hv l (k + 1) _ (fun x hx => ha x (by simp [hx])) (by omega) (pAddF_bd (by omega) hb (pFct_bd h0))
theorem s_FreezeQuery_L1_eq (q : Query) (W : List Int) (hW : ∀ v ∈ W, v ≤ 9) (ha : ∀ a ∈ q.Atoms, a.Terms.length ≤ 3) (h4 : q.Atoms.length ≤ 500) : ∀ (l : List Int) (k : Nat) (vs xs : List Int) (c : Int), 0 ≤ c → c ≤ 10 → vs.length + l.length < 100 → vs.length = xs.length → s_FreezeQuery_L1 q W 20 l k vs xs c = some (pFrzR ((pAsg W l c vs xs).map fun p => ((q.Atoms.map (pFct p.1 p.2)).foldl pAddF [], ({ Vars := p.1, Values := p.2 } : Binding))))
 | [], k, vs, xs, c, _, _, hv, _ => by
   rw [s_FreezeQuery_L1, s_FreezeQuery_L5_eq vs xs (by simpa using hv) q.Atoms 0 [] ha (by simp; omega) bdL_nil]; rfl
 | t :: l, k, vs, xs, c, h0, h1, hv, he => by
   simp only [List.length_cons] at hv
   have hg := pNewV_ge (W := W) 20 c
   have hl := pNewV_le hW 20 c h1
   rw [s_FreezeQuery_L1, s_FreezeQuery_L7_eq hW 20 c h0 h1 (by omega), Option.bind_some, pAsg]
   dsimp only
   by_cases h9 : 9 < pNewV W 20 c
   · rw [if_pos (by simpa using h9), if_pos h9]; rfl
   · have e : s_l4Bind ({ Vars := vs, Values := xs } : Binding) t (pNewV W 20 c) = some ({ Vars := vs ++ [t], Values := xs ++ [pNewV W 20 c] } : Binding) := by
       rw [s_l4Bind, app_nil (by show vs.length < _; omega), Option.bind_some, app1 (by show vs.length + 1 < _; omega), Option.bind_some, app_nil (by show xs.length < _; omega), Option.bind_some, app1 (by show xs.length + 1 < _; omega)]; rfl
     rw [if_neg (by simpa using h9), if_neg h9, e, Option.bind_some, Option.bind_some, wrap_in (by omega) (by omega)]
     exact s_FreezeQuery_L1_eq q W hW ha h4 l (k + 1) (vs ++ [t]) (xs ++ [pNewV W 20 c]) _ (by omega) (by omega) (by simp; omega) (by simp [he])
theorem pTermsP_mem {p : Int → Bool} {l : List Atom} {v : Int} : v ∈ pTermsP p l ↔ v ∈ l.flatMap (·.Terms) ∧ p v = true := by
 rw [pTermsP, puts_mem, List.mem_filter]; simp
theorem pConsts_le {l : List Atom} : ∀ v ∈ pTermsP (pIn 0 9) l, v ≤ 9 := fun v hv => by
 have := (pTermsP_mem.1 hv).2
 simp only [pIn, Bool.and_eq_true, decide_eq_true_eq] at this
 exact this.2
theorem pTermsP_len2 {p : Int → Bool} {l : List Atom} (ha : ∀ a ∈ l, a.Terms.length ≤ 3) (h : l.length ≤ 30) : (pTermsP p l).length ≤ 90 := by
 have h1 := pTermsP_len (p := p) (l := l)
 have h2 := tmsN_le ha
 omega
theorem s_FreezeQuery_eq (q : Query) (ha : ∀ a ∈ q.Atoms, a.Terms.length ≤ 3) (h4 : q.Atoms.length ≤ 30) : s_FreezeQuery 20 q = some (pFrzR (pFrz (pTermsP (pIn 0 9) q.Atoms) q)) := by
 have h2 := tmsN_le ha
 have h3 := pTermsP_len2 (p := pIn 10 17) ha h4
 rw [s_FreezeQuery, s_ConstantsOf_eq q (by omega), Option.bind_some, s_VarsOf_eq q (by omega), Option.bind_some,
   s_FreezeQuery_L1_eq q _ pConsts_le ha (by omega) _ 0 [] [] 0 (by omega) (by omega) (by simp; omega) rfl]
 rfl
theorem i_factOf_eq (a : Atom) (b : Binding) (hb : b.Vars.length = b.Values.length) (ha : a.Terms.length ≤ 3) : i_factOf a b = some (pFct b.Vars b.Values a) := by
 have key : ∀ (l : List Int) (k : Nat) (c : List Int), c.length + l.length < 100 → i_factOf_L1 a b l k c = some { Rel := a.Rel, Values := c ++ l.map (pVal b.Vars b.Values) } := by
   intro l
   induction l with
   | nil => intro k c _; simp [i_factOf_L1]
   | cons x r ih =>
     intro k c hc
     simp only [List.length_cons] at hc
     rw [i_factOf_L1, i_ValueOf_eq b x hb, Option.bind_some, app1 (by omega), Option.bind_some, ih _ _ (by simp; omega), List.append_assoc]; rfl
 rw [i_factOf, key _ _ _ (by simp; omega)]; rfl
theorem i_freeze_L4_eq (vs xs : List Int) (he : vs.length = xs.length) : ∀ (l : List Atom) (k : Nat) (c : List Fact), (∀ a ∈ l, a.Terms.length ≤ 3) → c.length + l.length ≤ 1000 → i_freeze_L4 vs xs l k c = some ((l.map (pFct vs xs)).foldl pAddF c, ({ Vars := vs, Values := xs } : Binding), true)
 | [], k, c, _, _ => rfl
 | a :: l, k, c, ha, hc => by
   simp only [List.length_cons] at hc
   have h0 := ha a (by simp)
   have h1 : i_factOf a ({ Vars := vs, Values := xs } : Binding) = some (pFct vs xs a) := i_factOf_eq a _ he h0
   have h2 := pAddF_len c (pFct vs xs a)
   rw [i_freeze_L4, h1, Option.bind_some, i_added_eq c _ (by omega) (pFct_bd h0), Option.bind_some]
   exact i_freeze_L4_eq vs xs he l (k + 1) _ (fun x hx => ha x (by simp [hx])) (by omega)
theorem i_freeze_L1_eq (q : Query) (W R : List Int) (hW : ∀ v ∈ W, v ≤ 9) (ha : ∀ a ∈ q.Atoms, a.Terms.length ≤ 3) (h4 : q.Atoms.length ≤ 500) (hR : R.length < 100) : ∀ (m i : Nat) (vs xs : List Int) (c : Int), i ≤ R.length → R.length - i < m → 0 ≤ c → c ≤ 10 → vs.length ≤ i → vs.length = xs.length → i_freeze_L1 q W R 20 m vs xs c (i : Int) = some (pFrzR ((pAsg W (R.drop i) c vs xs).map fun p => ((q.Atoms.map (pFct p.1 p.2)).foldl pAddF [], ({ Vars := p.1, Values := p.2 } : Binding)))) := by
 intro m
 induction m with
 | zero => intro i _ _ _ _ h; omega
 | succ m ih =>
   intro i vs xs c hi hm h0 h1 hv he
   have hg := pNewV_ge (W := W) 20 c
   have hl := pNewV_le hW 20 c h1
   unfold i_freeze_L1
   by_cases hlt : i < R.length
   · have hw : IntKind.i64.wrap ((i : Int) + 1) = ((i + 1 : Nat) : Int) := by rw [wrap_in (by omega) (by omega)]; rfl
     rw [if_pos (by simpa using hlt), ix_nat, List.getElem?_eq_getElem hlt, Option.bind_some, i_freeze_L3_eq hW 20 c h0 h1 (by omega), Option.bind_some]
     dsimp only
     rw [i_isValue_eq, Option.bind_some, List.drop_eq_getElem_cons hlt, pAsg]
     by_cases h9 : 9 < pNewV W 20 c
     · have e : pIn 0 9 (pNewV W 20 c) = false := by
         simp only [pIn, Bool.and_eq_false_iff, decide_eq_false_iff_not]; omega
       rw [e, if_pos h9]; rfl
     · have e : pIn 0 9 (pNewV W 20 c) = true := by
         simp only [pIn, Bool.and_eq_true, decide_eq_true_eq]; omega
       rw [e, if_neg h9, if_neg (by simp), app1 (by omega), Option.bind_some, app1 (by omega), Option.bind_some, Option.bind_some, wrap_in (by omega) (by omega), hw]
       exact ih (i + 1) _ _ _ (by omega) (by omega) (by omega) (by omega) (by simp; omega) (by simp [he])
   · rw [if_neg (by simpa using hlt), i_freeze_L4_eq vs xs he q.Atoms 0 [] ha (by simp; omega), List.drop_eq_nil_of_le (by omega)]; rfl
theorem i_freeze_eq (q : Query) (W : List Int) (hW : ∀ v ∈ W, v ≤ 9) (ha : ∀ a ∈ q.Atoms, a.Terms.length ≤ 3) (h4 : q.Atoms.length ≤ 30) : i_freeze 20 q W = some (pFrzR (pFrz W q)) := by
 have h2 := tmsN_le ha
 have h3 := pTermsP_len2 (p := pIn 10 17) ha h4
 rw [i_freeze, i_VarsOf_eq q (by omega), Option.bind_some]
 exact i_freeze_L1_eq q W _ hW ha (by omega) (by omega) _ 0 [] [] 0 (by omega) (by omega) (by omega) (by omega) (by simp) rfl
theorem pFrz_congr {W W' : List Int} (h : ∀ v, v ∈ W ↔ v ∈ W') (q : Query) : pFrz W q = pFrz W' q := by
 rw [pFrz, pFrz, pAsg_congr h]
theorem i_FreezeQuery_eq (q : Query) (ha : ∀ a ∈ q.Atoms, a.Terms.length ≤ 3) (h4 : q.Atoms.length ≤ 30) : i_FreezeQuery 20 q = some (pFrzR (pFrz (pTermsP (pIn 0 9) q.Atoms) q)) := by
 have h2 := tmsN_le ha
 rw [i_FreezeQuery, i_ConstantsOf_eq q (by omega), Option.bind_some, i_freeze_eq q _ pConsts_le ha h4]; rfl
theorem fLt_irr {a : Fact} : ¬ fLt a a := by
 unfold fLt; rw [pCmpFact_zero.2 rfl]; decide
theorem fLt_asy {a b : Fact} (h1 : fLt a b) (h2 : fLt b a) : False := fLt_irr (pCmpFact_trans h1 h2)
theorem fs_ext : ∀ {a b : List Fact}, a.Pairwise fLt → b.Pairwise fLt → (∀ x, x ∈ a ↔ x ∈ b) → a = b
 | [], [], _, _, _ => rfl
 | [], y :: b, _, _, h => absurd ((h y).2 (by simp)) (by simp)
 | x :: a, [], _, _, h => absurd ((h x).1 (by simp)) (by simp)
 | x :: a, y :: b, ha, hb, h => by
   rw [List.pairwise_cons] at ha hb
   have e : x = y := by
     have h1 := (h x).1 (by simp)
     have h2 := (h y).2 (by simp)
     rw [List.mem_cons] at h1 h2
     rcases h1 with h1 | h1
     · exact h1
     · rcases h2 with h2 | h2
       · exact h2.symm
       · exact (fLt_asy (hb.1 x h1) (ha.1 y h2)).elim
   subst e
   rw [fs_ext ha.2 hb.2 fun z => ?_]
   constructor
   · intro hz
     have h1 := (h z).1 (by simp [hz])
     rcases List.mem_cons.1 h1 with rfl | h1
     · exact (fLt_irr (ha.1 z hz)).elim
     · exact h1
   · intro hz
     have h1 := (h z).2 (by simp [hz])
     rcases List.mem_cons.1 h1 with rfl | h1
     · exact (fLt_irr (hb.1 z hz)).elim
     · exact h1
theorem addFs_mem {y : Fact} : ∀ {l c : List Fact}, y ∈ l.foldl pAddF c ↔ y ∈ c ∨ y ∈ l
 | [], c => by simp
 | x :: l, c => by
   rw [List.foldl_cons, addFs_mem, pAddF_iff, List.mem_cons]
   constructor
   · rintro ((h | h) | h)
     · exact .inr (.inl h)
     · exact .inl h
     · exact .inr (.inr h)
   · rintro (h | h | h)
     · exact .inl (.inr h)
     · exact .inl (.inl h)
     · exact .inr h
theorem addFs_pw : ∀ {l c : List Fact}, c.Pairwise fLt → (l.foldl pAddF c).Pairwise fLt
 | [], _, h => h
 | x :: l, c, h => by rw [List.foldl_cons]; exact addFs_pw (pAddF_pw h)
theorem addFs_filter {A B : List Fact} (hA : ∀ f ∈ A, f.Rel < 3) (hB : ∀ f ∈ B, f.Rel = 3) : ((A ++ B).foldl pAddF []).filter (fun f => decide ((f.Rel : Int) < 3)) = A.foldl pAddF [] := by
 refine fs_ext ((addFs_pw List.Pairwise.nil).filter _) (addFs_pw List.Pairwise.nil) fun x => ?_
 rw [List.mem_filter, addFs_mem, addFs_mem, List.mem_append]
 simp only [List.not_mem_nil, false_or, decide_eq_true_eq]
 constructor
 · rintro ⟨h | h, h2⟩
   · exact h
   · have := hB x h; omega
 · exact fun h => ⟨.inl h, hA x h⟩
theorem s_l3Copy_eq (q : Query) (ha : ∀ a ∈ q.Atoms, a.Terms.length ≤ 3) (h4 : q.Atoms.length ≤ 30) (hh : q.Head.length ≤ 3) : s_l3Copy q = some q := by
 have key : ∀ (l : List Atom) (k : Nat) (c : List Atom), (∀ a ∈ l, a.Terms.length ≤ 3) → c.length + l.length ≤ 100 → s_l3Copy_L1 q.Head l k c = some { Head := q.Head, Atoms := c ++ l } := by
   intro l
   induction l with
   | nil => intro k c _ _; simp [s_l3Copy_L1]
   | cons x l ih =>
     intro k c hx hc
     simp only [List.length_cons] at hc
     have h0 := hx x (by simp)
     rw [s_l3Copy_L1, s_l3Atom_eq _ _ (by omega), Option.bind_some, app1 (by omega), Option.bind_some, ih _ _ (fun a h => hx a (by simp [h])) (by simp; omega), List.append_assoc]; rfl
 rw [s_l3Copy, app_nil (by omega), Option.bind_some, key _ _ _ ha (by simp; omega)]; rfl
def pXtra (C : List Int) : List Atom := C.map fun c => ({ Rel := 3, Terms := [c] } : Atom)
theorem s_l9Freeze_L1_eq (p : Query) : ∀ (l : List Int) (k : Nat) (c : List Atom), c.length + l.length ≤ 100 → s_l9Freeze_L1 p 20 l k c = s_l9Freeze_L1 p 20 [] 0 (c ++ pXtra l)
 | [], k, c, _ => by rw [pXtra, List.map_nil, List.append_nil]; rfl
 | x :: l, k, c, h => by
   simp only [List.length_cons] at h
   conv => lhs; rw [s_l9Freeze_L1, app1 (by omega), Option.bind_some, s_l9Freeze_L1_eq p l _ _ (by simp; omega), List.append_assoc]
   rfl
theorem xtra_terms (A : List Atom) (C : List Int) : (A ++ pXtra C).flatMap (·.Terms) = A.flatMap (·.Terms) ++ C := by
 rw [List.flatMap_append]
 congr 1
 induction C with
 | nil => rfl
 | cons x C ih => rw [pXtra, List.map_cons, List.flatMap_cons]; rw [pXtra] at ih; rw [ih]; rfl
theorem xtra_vars {A : List Atom} {C : List Int} (hC : ∀ c ∈ C, 0 ≤ c ∧ c ≤ 9) : pTermsP (pIn 10 17) (A ++ pXtra C) = pTermsP (pIn 10 17) A := by
 rw [pTermsP, xtra_terms, List.filter_append, (List.filter_eq_nil_iff (l := C)).2 (fun c hc => by
   have := hC c hc
   simp only [pIn, Bool.and_eq_true, decide_eq_true_eq]; omega), List.append_nil]; rfl
theorem pConsts_in {l : List Atom} : ∀ v ∈ pTermsP (pIn 0 9) l, 0 ≤ v ∧ v ≤ 9 := fun v hv => by
 have := (pTermsP_mem.1 hv).2
 simpa only [pIn, Bool.and_eq_true, decide_eq_true_eq] using this
theorem pConsts_len {l : List Atom} : (pTermsP (pIn 0 9) l).length ≤ 10 := asc_len (puts_ss List.Pairwise.nil) 0 10 fun x hx => by have := pConsts_in x hx; omega
def pW (p q : Query) : List Int := pTermsP (pIn 0 9) p.Atoms ++ pTermsP (pIn 0 9) q.Atoms
theorem pQuery_rel {s : List Int} {q : Query} (h : pQuery s q = true) : ∀ a ∈ q.Atoms, a.Rel < 3 := fun a ha => by
 have hs : pSchema s = true ∧ pAtom s a = true := by
   simp only [pQuery, Bool.and_eq_true] at h
   exact ⟨h.2.2.1, List.all_eq_true.1 h.1 a ha⟩
 have h1 := (pSchema_len hs.1).1
 have h2 := hs.2
 simp only [pAtom, pHasRel, pIn, Bool.and_eq_true, decide_eq_true_eq] at h2
 omega
theorem s_l9Freeze_eq {s : List Int} {p q : Query} (hp : pQuery s p = true) (hq : pQuery s q = true) : s_l9Freeze 20 p q = some (pFrzR (pFrz (pW p q) p)) := by
 obtain ⟨h1, h2, h3⟩ := pQuery_shape hp
 obtain ⟨g1, g2, g3⟩ := pQuery_shape hq
 have e1 := tmsN_le g2
 have hC := pConsts_in (l := q.Atoms)
 have hl := pConsts_len (l := q.Atoms)
 have hx : ∀ a ∈ p.Atoms ++ pXtra (pTermsP (pIn 0 9) q.Atoms), a.Terms.length ≤ 3 := fun a ha => by
   rcases List.mem_append.1 ha with ha | ha
   · exact h2 a ha
   · obtain ⟨c, -, rfl⟩ := List.mem_map.1 ha; simp
 have hn : (p.Atoms ++ pXtra (pTermsP (pIn 0 9) q.Atoms)).length ≤ 30 := by
   simp only [List.length_append, pXtra, List.length_map]; omega
 have hF := s_FreezeQuery_eq { Head := p.Head, Atoms := p.Atoms ++ pXtra (pTermsP (pIn 0 9) q.Atoms) } hx hn
 have hw : ∀ v, v ∈ pTermsP (pIn 0 9) (p.Atoms ++ pXtra (pTermsP (pIn 0 9) q.Atoms)) ↔ v ∈ pW p q := fun v => by
   rw [pTermsP_mem, xtra_terms, pW, List.mem_append, List.mem_append, pTermsP_mem, pTermsP_mem]
   constructor
   · rintro ⟨h | h, hv⟩
     · exact .inl ⟨h, hv⟩
     · exact .inr h
   · rintro (⟨h, hv⟩ | h)
     · exact ⟨.inl h, hv⟩
     · exact ⟨.inr h, h.2⟩
 rw [s_l9Freeze, s_l3Copy_eq p h2 (by omega) h3, Option.bind_some, s_ConstantsOf_eq q (by omega), Option.bind_some, s_l9Freeze_L1_eq p _ _ _ (by omega), s_l9Freeze_L1, hF, Option.bind_some]
 rw [pFrz, pFrz]
 dsimp only
 rw [xtra_vars hC, pAsg_congr hw]
 rcases pAsg (pW p q) (pTermsP (pIn 10 17) p.Atoms) 0 [] [] with _ | ⟨vs, xs⟩
 · rfl
 · simp only [Option.map_some, pFrzR]
   have hA : ∀ f ∈ p.Atoms.map (pFct vs xs), f.Rel < 3 := fun f hf => by
     obtain ⟨a, ha, rfl⟩ := List.mem_map.1 hf
     exact pQuery_rel hp a ha
   have hB : ∀ f ∈ (pXtra (pTermsP (pIn 0 9) q.Atoms)).map (pFct vs xs), f.Rel = 3 := fun f hf => by
     obtain ⟨a, ha, rfl⟩ := List.mem_map.1 hf
     obtain ⟨c, -, rfl⟩ := List.mem_map.1 ha
     rfl
   have hlen : (((p.Atoms ++ pXtra (pTermsP (pIn 0 9) q.Atoms)).map (pFct vs xs)).foldl pAddF []).length ≤ 30 := by
     have := addFs_len (g := (p.Atoms ++ pXtra (pTermsP (pIn 0 9) q.Atoms)).map (pFct vs xs)) (fs := [])
     simp only [List.length_map, List.length_nil] at this; omega
   have key : ∀ (r : List Fact × Binding × Bool) (l : List Fact) (k : Nat) (c : List Fact), c.length + l.length ≤ 100 → s_l9Freeze_L3 r l k c = some (c ++ l.filter (fun f => decide ((f.Rel : Int) < 3)), r.2.1, r.2.2) := by
     intro r l
     induction l with
     | nil => intro k c _; simp [s_l9Freeze_L3]
     | cons x l ih =>
       intro k c hc
       simp only [List.length_cons] at hc
       rw [s_l9Freeze_L3, app1 (by omega), Option.bind_some, List.filter_cons]
       cases decide ((x.Rel : Int) < 3)
       · simp only [Bool.false_eq_true, if_false, Option.bind_some]
         exact ih _ _ (by omega)
       · simp only [if_true, Option.bind_some]
         rw [ih _ _ (by simp; omega), List.append_assoc]; rfl
   rw [key _ _ _ _ (by simp only [List.length_nil]; omega), List.nil_append, List.map_append, addFs_filter hA hB]
theorem s_TupleOf_eq (q : Query) (b : Binding) (hb : b.Vars.length < 4294967296) (hq : q.Head.length ≤ 3) : s_TupleOf q b = some (pTuple q b) := by
 have key : ∀ (l : List Int) (k : Nat) (c : List Int), c.length + l.length < 1000 → s_TupleOf_L1 b l k c = some (c ++ l.map (pVal b.Vars b.Values)) := by
   intro l
   induction l with
   | nil => intro k c _; simp [s_TupleOf_L1]
   | cons x l ih =>
     intro k c hc
     simp only [List.length_cons] at hc
     rw [s_TupleOf_L1, s_ValueOf_eq b x hb, Option.bind_some, app1 (by omega), Option.bind_some, ih _ _ (by simp; omega), List.append_assoc]; rfl
 rw [s_TupleOf, key _ _ _ (by simp; omega)]; rfl
def pFind (q : Query) (f : List Fact) (h : List Int) : Bool := (pBindsOf q f).any fun x => pIntsEq (pTuple q x) h
theorem s_FindMapping_eq {s : List Int} {q : Query} {f : List Fact} (h : List Int) (hq : pQuery s q = true) (hf : f.length ≤ 24) : ∃ b, s_FindMapping q f h = some (b, pFind q f h) := by
 have hok := pBindsOf_ok (facts := f) hq
 rw [s_FindMapping, s_BindingsOf_eq hq hf, Option.bind_some, pFind]
 generalize pBindsOf q f = L at hok
 have key : ∀ (l : List Binding) (k : Nat), (∀ b ∈ l, BOk 12 b) → ∃ b, s_FindMapping_L1 q h l k = some (b, l.any fun x => pIntsEq (pTuple q x) h) := by
   intro l
   induction l with
   | nil => intro k _; exact ⟨_, rfl⟩
   | cons x l ih =>
     intro k hk
     obtain ⟨e1, e2⟩ := hk x (by simp)
     rw [s_FindMapping_L1, s_TupleOf_eq q x (by omega) (pQuery_shape hq).2.2, Option.bind_some, s_l2Ints_eq, Option.bind_some, List.any_cons, show eqF (fun x y => x == y) (pTuple q x) h = pIntsEq (pTuple q x) h from rfl]
     cases pIntsEq (pTuple q x) h
     · simpa using ih (k + 1) fun b hb => hk b (by simp [hb])
     · rw [if_pos rfl, s_l4Copy, app_nil (by omega), Option.bind_some, app_nil (by omega)]; exact ⟨_, rfl⟩
 exact key L 0 hok
theorem i_FindMapping_eq {s : List Int} {q : Query} {f : List Fact} (h : List Int) (hq : pQuery s q = true) (hf : f.length ≤ 24) : ∃ b, i_FindMapping q f h = some (b, pFind q f h) := by
 have hok := pBindsOf_ok (facts := f) hq
 rw [i_FindMapping, i_BindingsOf_eq hq hf, Option.bind_some, pFind]
 generalize pBindsOf q f = L at hok
 have key : ∀ (l : List Binding) (k : Nat), (∀ b ∈ l, BOk 12 b) → ∃ b, i_FindMapping_L1 q h l k = some (b, l.any fun x => pIntsEq (pTuple q x) h) := by
   intro l
   induction l with
   | nil => intro k _; exact ⟨_, rfl⟩
   | cons x l ih =>
     intro k hk
     obtain ⟨e1, e2⟩ := hk x (by simp)
     rw [i_FindMapping_L1, i_TupleOf_eq q x e1 (pQuery_shape hq).2.2, Option.bind_some, g_slices_Equal_int_int_eq, Option.bind_some, List.any_cons, show eqF (fun x y => x == y) (pTuple q x) h = pIntsEq (pTuple q x) h from rfl]
     cases pIntsEq (pTuple q x) h
     · simpa using ih (k + 1) fun b hb => hk b (by simp [hb])
     · exact ⟨_, rfl⟩
 exact key L 0 hok
def pContF (p q : Query) : Option (List Fact × Binding) → Bool
 | none => false
 | some (f, b) => pFind q f (pTuple p b)
def pCont (p q : Query) : Bool := (p.Head.length == q.Head.length) && pContF p q (pFrz (pW p q) p)
theorem pFrz_some {W : List Int} {q : Query} {f : List Fact} {b : Binding} (h : pFrz W q = some (f, b)) : f.length ≤ q.Atoms.length ∧ b.Vars = pTermsP (pIn 10 17) q.Atoms ∧ b.Vars.length = b.Values.length ∧ (∀ x ∈ b.Values, 0 ≤ x ∧ x ≤ 9) ∧ f = (q.Atoms.map (pFct b.Vars b.Values)).foldl pAddF [] := by
 obtain ⟨p, h1, h2⟩ := Option.map_eq_some_iff.1 h
 obtain ⟨e1, e2, e3⟩ := pAsg_some (by omega) rfl (by simp) h1
 cases h2
 have := addFs_len (g := q.Atoms.map (pFct p.1 p.2)) (fs := [])
 simp only [List.length_map, List.length_nil] at this
 exact ⟨by omega, by simpa using e1, e2, e3, rfl⟩
theorem s_IsContained_eq {s : List Int} {p q : Query} (hs : s.length < 4294967296) (hp : pQuery s p = true) (hq : pQuery s q = true) : s_IsContained 20 s p q = some (pCont p q) := by
 obtain ⟨h1, h2, h3⟩ := pQuery_shape hp
 obtain ⟨g1, g2, g3⟩ := pQuery_shape hq
 have e1 := tmsN_le g2
 have e2 := tmsN_le h2
 rw [s_IsContained, s_IsQuery_eq s p hs (by omega), hp, Option.bind_some, s_IsQuery_eq s q hs (by omega), hq, pCont]
 by_cases hh : p.Head.length = q.Head.length
 · have hh' : ((p.Head.length : Int) != (q.Head.length : Int)) = false := by simp [hh]
   simp only [Bool.not_true, cond_false, Option.bind_some, hh', Bool.false_eq_true, if_false]
   rw [s_l9Freeze_eq hp hq, Option.bind_some]
   rcases hf : pFrz (pW p q) p with _ | ⟨f, b⟩
   · simp [pFrzR, pContF]
   · obtain ⟨f1, f2, f3, f4, -⟩ := pFrz_some hf
     have f5 := pTermsP_len2 (p := pIn 10 17) h2 (by omega)
     have hb : b.Vars.length ≤ 90 := by rw [f2]; exact f5
     obtain ⟨b', hm⟩ := s_FindMapping_eq (q := q) (f := f) (pTuple p b) hq (by omega)
     simp only [pFrzR, Bool.not_true, Bool.false_eq_true, if_false]
     rw [s_TupleOf_eq p b (by omega) h3, Option.bind_some, hm, Option.bind_some]
     simp [pContF, hh]
 · have hh' : ((p.Head.length : Int) != (q.Head.length : Int)) = true := by simp; omega
   simp [hh', hh]
theorem i_contained_eq {s : List Int} {p q : Query} (hp : pQuery s p = true) (hq : pQuery s q = true) : i_contained 20 p q = some (pCont p q) := by
 obtain ⟨h1, h2, h3⟩ := pQuery_shape hp
 obtain ⟨g1, g2, g3⟩ := pQuery_shape hq
 have e1 := tmsN_le g2
 have e2 := tmsN_le h2
 have l1 := pConsts_len (l := p.Atoms)
 have l2 := pConsts_len (l := q.Atoms)
 have hW : ∀ v ∈ pW p q, v ≤ 9 := fun v hv => by
   rcases List.mem_append.1 hv with hv | hv
   · exact pConsts_le v hv
   · exact pConsts_le v hv
 rw [i_contained, pCont]
 by_cases hh : p.Head.length = q.Head.length
 · have hh' : ((p.Head.length : Int) != (q.Head.length : Int)) = false := by simp [hh]
   rw [if_neg (by rw [hh']; simp), i_ConstantsOf_eq p (by omega), Option.bind_some, i_ConstantsOf_eq q (by omega), Option.bind_some, g_slices_Concat2_eq _ _ (by omega), Option.bind_some, show pTermsP (pIn 0 9) p.Atoms ++ pTermsP (pIn 0 9) q.Atoms = pW p q from rfl, i_freeze_eq p _ hW h2 (by omega), Option.bind_some]
   rcases hf : pFrz (pW p q) p with _ | ⟨f, b⟩
   · simp [pFrzR, pContF]
   · obtain ⟨f1, f2, f3, f4, -⟩ := pFrz_some hf
     obtain ⟨b', hm⟩ := i_FindMapping_eq (q := q) (f := f) (pTuple p b) hq (by omega)
     simp only [pFrzR, Bool.not_true, Bool.false_eq_true, if_false]
     rw [i_TupleOf_eq p b f3 h3, Option.bind_some, hm, Option.bind_some]
     simp [pContF, hh]
 · have hh' : ((p.Head.length : Int) != (q.Head.length : Int)) = true := by simp; omega
   rw [if_pos hh']
   simp [hh]
def pFeas (s : List Int) (l : List Method) (q : Query) : Bool := (pAP s l q).2 && pCont (pAP s l q).1 q
theorem pAP_ok {s : List Int} {l : List Method} {q : Query} (h : (pAP s l q).2 = true) : pQuery s (pAP s l q).1 = true ∧ pQuery s q = true ∧ pMethods s l = true := by
 unfold pAP at h ⊢
 split at h
 · rename_i hc
   rw [if_pos hc]
   simp only [Bool.and_eq_true] at hc
   exact ⟨hc.2, hc.1.2, hc.1.1⟩
 · cases h
theorem s_IsFeasible_eq (s : List Int) (l : List Method) (q : Query) (hs : s.length < 4294967296) (hml : bdL bd_Method l) (ht : tmsN q.Atoms < 4294967295) : s_IsFeasible 20 s l q = some (pFeas s l q) := by
 rw [s_IsFeasible, s_AnswerablePart_eq s l q hs hml ht, Option.bind_some, pFeas]
 cases h : (pAP s l q).2
 · rfl
 · obtain ⟨h1, h2, -⟩ := pAP_ok h
   rw [s_IsContained_eq hs h1 h2]; rfl
theorem i_IsFeasible_eq (s : List Int) (l : List Method) (q : Query) (hs : s.length < 4294967296) (hml : bdL bd_Method l) (ht : tmsN q.Atoms < 4294967295) : i_IsFeasible 20 s l q = some (pFeas s l q) := by
 rw [i_IsFeasible, i_AnswerablePart_eq s l q hs hml ht, Option.bind_some, pFeas]
 cases h : (pAP s l q).2
 · rfl
 · obtain ⟨h1, h2, -⟩ := pAP_ok h
   rw [i_contained_eq h1 h2]; rfl
theorem pLook_mem {t : Int} : ∀ {vs xs : List Int}, vs.length = xs.length → t ∈ vs → ∃ y ∈ xs, pLook vs xs t = some y
 | [], xs, _, h => by simp at h
 | v :: vs, [], h, _ => by simp at h
 | v :: vs, x :: xs, h, ht => by
   by_cases e : v = t
   · exact ⟨x, by simp, by rw [pLook, if_pos e]⟩
   · obtain ⟨y, h1, h2⟩ := pLook_mem (xs := xs) (by simpa using h) (by
       rcases List.mem_cons.1 ht with ht | ht
       · exact (e ht.symm).elim
       · exact ht)
     exact ⟨y, by simp [h1], by rw [pLook, if_neg e, h2]⟩
theorem frz_facts {s : List Int} {W : List Int} {q : Query} {f : List Fact} {b : Binding} (hq : pQuery s q = true) (h : pFrz W q = some (f, b)) : pFacts s f = true := by
 obtain ⟨f1, f2, f3, f4, f5⟩ := pFrz_some h
 have hsh := pQuery_shape hq
 have hat : pSchema s = true ∧ ∀ a ∈ q.Atoms, pAtom s a = true := by
   simp only [pQuery, Bool.and_eq_true] at hq
   exact ⟨hq.2.2.1, fun a ha => List.all_eq_true.1 hq.1 a ha⟩
 refine pFacts_iff.2 ⟨fun x hx => ?_, ?_, hat.1, by have := hsh.1; omega⟩
 · rw [f5, addFs_mem] at hx
   rcases hx with hx | hx
   · cases hx
   · obtain ⟨a, ha, rfl⟩ := List.mem_map.1 hx
     have h1 := hat.2 a ha
     simp only [pAtom, Bool.and_eq_true] at h1
     simp only [pFact, pFct, Bool.and_eq_true, List.length_map, List.all_eq_true]
     refine ⟨h1.1, h1.2.1, fun v hv => ?_⟩
     obtain ⟨t, ht, rfl⟩ := List.mem_map.1 hv
     have h2 := List.all_eq_true.1 h1.2.2 t ht
     unfold pVal
     cases hv : pIn 10 17 t
     · rw [if_neg (by simp)]
       simpa [pTerm, hv] using h2
     · have hm : t ∈ b.Vars := by
         rw [f2, pTermsP_mem]
         exact ⟨List.mem_flatMap.2 ⟨a, ha, ht⟩, hv⟩
       obtain ⟨y, hy, e⟩ := pLook_mem f3 hm
       rw [if_pos rfl, e, Option.getD_some]
       have := f4 y hy
       simp only [pIn, Bool.and_eq_true, decide_eq_true_eq]; omega
 · rw [f5]; exact addFs_pw List.Pairwise.nil
def pCertF (l : List Method) (q : Query) : Option (List Fact × Binding) → Certificate × Bool
 | none => ({ All := [], Some := [], Tuple := [] }, false)
 | some (f, b) => ({ All := f, Some := (pReach l f 40 (pStart (pTermsP (pIn 0 9) q.Atoms))).Facts, Tuple := pTuple q b }, true)
def pCert (s : List Int) (l : List Method) (q : Query) : Certificate × Bool := if (pMethods s l && pQuery s q) && !pFeas s l q then pCertF l q (pFrz (pTermsP (pIn 0 9) q.Atoms) q) else ({ All := [], Some := [], Tuple := [] }, false)
theorem s_CertificateFor_eq (s : List Int) (l : List Method) (q : Query) (hs : s.length < 4294967296) (hml : bdL bd_Method l) (ht : tmsN q.Atoms < 4294967295) : s_CertificateFor 20 s l q = some (pCert s l q) := by
 rw [s_CertificateFor, s_l6Fine_eq s l q hs hml ht, Option.bind_some, pCert]
 cases hc : pMethods s l && pQuery s q
 · rfl
 simp only [Bool.not_true, cond_false]
 rw [s_IsFeasible_eq s l q hs hml ht, Option.bind_some, Option.bind_some]
 cases pFeas s l q
 · obtain ⟨hl, hq⟩ : pMethods s l = true ∧ pQuery s q = true := by simpa using hc
   obtain ⟨h1, h2, h3⟩ := pQuery_shape hq
   have h4 := pTermsP_len (p := pIn 0 9) (l := q.Atoms)
   simp only [Bool.false_eq_true, if_false, Bool.not_false, Bool.and_self, if_true]
   rw [s_FreezeQuery_eq q h2 (by omega), Option.bind_some]
   rcases hf : pFrz (pTermsP (pIn 0 9) q.Atoms) q with _ | ⟨f, b⟩
   · simp [pFrzR, pCertF]
   · obtain ⟨f1, f2, f3, f4, -⟩ := pFrz_some hf
     have f5 := pTermsP_len2 (p := pIn 10 17) h2 (by omega)
     have hb : b.Vars.length ≤ 90 := by rw [f2]; exact f5
     simp only [pFrzR, Bool.not_true, Bool.false_eq_true, if_false]
     rw [s_ConstantsOf_eq q ht, Option.bind_some, s_ReachAll_eq _ hs hml hl (frz_facts hq hf) (by omega), Option.bind_some, s_TupleOf_eq q b (by omega) h3]; rfl
 · rfl
theorem i_CertificateFor_eq (s : List Int) (l : List Method) (q : Query) (hs : s.length < 4294967296) (hml : bdL bd_Method l) (ht : tmsN q.Atoms < 4294967295) : i_CertificateFor 20 s l q = some (pCert s l q) := by
 rw [i_CertificateFor, i_areAsked_eq s l q hs hml ht, Option.bind_some, pCert]
 cases hc : pMethods s l && pQuery s q
 · rfl
 simp only [Bool.not_true, cond_false]
 rw [i_IsFeasible_eq s l q hs hml ht, Option.bind_some, Option.bind_some]
 cases pFeas s l q
 · obtain ⟨hl, hq⟩ : pMethods s l = true ∧ pQuery s q = true := by simpa using hc
   obtain ⟨h1, h2, h3⟩ := pQuery_shape hq
   have h4 := pTermsP_len (p := pIn 0 9) (l := q.Atoms)
   simp only [Bool.false_eq_true, if_false, Bool.not_false, Bool.and_self, if_true]
   rw [i_FreezeQuery_eq q h2 (by omega), Option.bind_some]
   rcases hf : pFrz (pTermsP (pIn 0 9) q.Atoms) q with _ | ⟨f, b⟩
   · simp [pFrzR, pCertF]
   · obtain ⟨f1, f2, f3, f4, -⟩ := pFrz_some hf
     simp only [pFrzR, Bool.not_true, Bool.false_eq_true, if_false]
     rw [i_ConstantsOf_eq q ht, Option.bind_some, i_reach_eq _ hl (frz_facts hq hf) (by omega), Option.bind_some, i_TupleOf_eq q b f3 h3]; rfl
 · rfl
theorem pCert_ok (s : List Int) (l : List Method) (q : Query) : bd_Certificate (pCert s l q).1 ∧ mtN_Certificate (pCert s l q).1 ≤ 1000 := by
 have h0 : bd_Certificate ({ All := [], Some := [], Tuple := [] } : Certificate) ∧ mtN_Certificate ({ All := [], Some := [], Tuple := [] } : Certificate) ≤ 1000 := ⟨⟨bdL_nil, bdL_nil, bdL_nil⟩, by decide⟩
 unfold pCert
 split
 · rename_i hc
   simp only [Bool.and_eq_true] at hc
   obtain ⟨⟨hl, hq⟩, -⟩ := hc
   rcases hf : pFrz (pTermsP (pIn 0 9) q.Atoms) q with _ | ⟨f, b⟩
   · exact h0
   · have h3 := (pQuery_shape hq).2.2
     have g1 := frz_facts hq hf
     obtain ⟨g2, g3, g4⟩ := reach_facts hl g1 (pTermsP (pIn 0 9) q.Atoms)
     have g5 := (pFacts_iff.1 g1).2.2.2
     have key : ∀ x : List Fact, pFacts s x = true → msL meN_Fact x ≤ 4 * x.length := by
       intro x hx
       have := pFacts_all hx
       clear hx
       induction x with
       | nil => simp [msL_nil]
       | cons y x ih =>
         have h1 := ih fun f hf => this f (by simp [hf])
         have h2 := (pFact_vals (this y (by simp))).1
         rw [msL_cons, List.length_cons, meN_Fact, msL_one]; omega
     have k1 := key f g1
     have k2 := key _ g2
     have g6 : (pTuple q b).length ≤ 3 := by rw [pTuple, List.length_map]; exact h3
     refine ⟨⟨bdL_Facts (s := s) (l := f) (pFacts_all g1) (by omega), g4, bdL_flat (pTuple q b) (by omega)⟩, ?_⟩
     show msL meN_Fact f + msL meN_Fact (pReach l f 40 (pStart (pTermsP (pIn 0 9) q.Atoms))).Facts + msL (fun _ => 1) (pTuple q b) ≤ 1000
     rw [msL_one]; omega
 · exact h0
theorem law_fnExactCertificateFor {s : List Int} {l : List Method} {q : Query} (ws : wfSl wfInt s) (wl : wfSl wf52 l) (wq : wf26 q) : ∃ fuel, l_FnExactCertificateFor fuel s l q = some true := by
 refine ⟨20, ?_⟩
 unfold l_FnExactCertificateFor
 by_cases h : (1048576 : Int) < (s.length : Int)
 · rw [if_pos (by simpa using h)]
 rw [if_neg (by simpa using h)]
 obtain ⟨n1, e1, h1⟩ := sz_MethodS l wl 1048576 (by omega) (by omega)
 rw [e1, Option.bind_some]
 try dsimp only at h1
 rcases h1 with ⟨rfl, p1⟩ | p1
 rotate_left
 · rw [if_pos (by simpa using p1)]
 rw [if_neg (by simp only [decide_eq_true_eq]; omega)]
 obtain ⟨n2, e2, h2⟩ := sz_Query q wq _ p1 (by omega)
 rw [e2, Option.bind_some]
 try dsimp only at h2
 rcases h2 with ⟨rfl, p2⟩ | p2
 rotate_left
 · rw [if_pos (by simpa using p2)]
 rw [if_neg (by simp only [decide_eq_true_eq]; omega)]
 have b0 : bdL bdAny s := bdL_flat s (by omega)
 have b1 := bd_MethodS l (by omega)
 have b2 := bd_QueryT q (by omega)
 have ht : tmsN q.Atoms < 4294967295 := by
   have := tmsN_tot q.Atoms
   unfold tot_Query at p2; omega
 have eS := s_CertificateFor_eq s l q (by omega) b1 ht
 have eI := i_CertificateFor_eq s l q (by omega) b1 ht
 obtain ⟨o1, o2⟩ := pCert_ok s l q
 generalize pCert s l q = R at eS eI o1 o2
 have m0 := msL_one s
 have m1 := ms_MethodS l
 have m2 := ms_QueryT q
 have k0 := mark_IntS s 1 b0 (by omega) (by omega)
 have k1 := mark_MethodS l (1 + msL (fun _ => 1) s) b1 (by omega) (by omega)
 have k2 := mark_Query q (1 + msL (fun _ => 1) s + msL meN_Method l) b2 (by omega) (by omega)
 have k4 := mark_Certificate R.1 1 o1 (by omega) (by omega)
 have k5 := held_Certificate R.1 1 o1 (by omega) (by omega)
 simp only [to_IntS s b0, to_MethodS l b1, to_Query q b2, eS, eI, eq_IntS, eq_MethodS, eq_Query, eq_Certificate, k0, k1, k2, k4, k5, Option.bind_some, Bool.not_true, Bool.false_eq_true, if_false, neg_dec, neg_dec2 (show (0 : Int) ≤ 1 + (msL (fun _ => 1) s : Int) + (msL meN_Method l : Int) + (mtN_Query q : Int) by omega), cond_false, bne_self_eq_false, beq_self_eq_true]
end Go.Proofs.YtlfebfhfgfjceacGreat
/-
 The row FnExactCertificateFor.
-/
set_option maxRecDepth 100000
namespace Go.Proofs.YtlfebfhfgfjceacGreat.fnExactCertificateFor
open Go Go.Fw Go.ChangeShapes Go.WideShapes Go.ChangeAt Go.RowKit
theorem own : ownKnob Tryz.prog.godebug = none := by kernel_rfl
theorem laidOut : laidOutB Tryz.prog = true := by kernel_rfl
set_option maxRecDepth 100000 in
theorem lifted (os : Os) (started : os.Started) (H : Type) (enc : TypeId × Value → H) :
   ReturnsInHanded {} Tryz.checked os 3 .any (Rows.fnExactCertificateForSpec.pre6 enc Tryz.prog Tryz.f3 Rows.fnExactCertificateForRow.domain false) (Rows.fnExactCertificateForSpec.post enc Tryz.prog Tryz.f3 false true false false) := by
 refine returnsInHanded_of_change_sized (C := Tryz.checked) own started (by kernel_rfl) Tryz.func3
   (ChangeSpec.witness6 (enc := enc) (C := Tryz.checked) false ⟨#[], #[.slice none 0 0, .slice none 0 0, .agg #[.slice none 0 0, .slice none 0 0]], []⟩ 16 (by kernel_rfl) (by kernel_rfl) (by kernel_rfl) (by kernel_rfl)) ?_
 intro W base args ds gs before hval hW _ hwt _
 have hW' := hW
 obtain ⟨p, q, hA0, hV, rfl, hfz, hnd⟩ := hW
 obtain ⟨rfl, rfl⟩ := trodVars_none hV
 have hA : DataW.TrodAll enc Tryz.prog W 0 (fun _ => true) true [22, 23, 26] args.toList ds p := hA0
 have hw : ∀ n ∈ DataW.weightsEach Tryz.prog [22, 23, 26] ds, n ≤ reachBytes := fun n hn => by
   have := List.all_eq_true.1 hwt n (by rw [List.append_nil]; exact hn)
   simpa using this
 obtain ⟨v0, vs0, d0, ds0, p0, ρ0, H0, av0, a0, e0, rfl, hA0, hw0, r0, f0, u0, i0, rv0, q0, w0⟩ := opn_arg hA hw (Opn.slice (s := 1) (by kernel_rfl) (by kernel_rfl) (by decide) (Nat.lt_of_lt_of_le (by decide) (Nat.le_of_eq (show 8 = _ from by kernel_rfl))) (Opn.int (by kernel_rfl))) (fun H v a h => by obtain ⟨_, _, rfl⟩ := RdS.len h; kernel_rfl) (r := .any) (base := base) (fun v h => hval 0 22 v rfl (arg_at h)) (Rel.nil _ W trivial) Frn.nil
 obtain ⟨v1, vs1, d1, ds1, p1, ρ1, H1, av1, a1, e1, rfl, hA1, hw1, r1, f1, u1, i1, rv1, q1, w1⟩ := opn_arg hA0 hw0 (Opn.slice (s := 5) (by kernel_rfl) (by kernel_rfl) (by decide) (Nat.lt_of_lt_of_le (by decide) (Nat.le_of_eq (show 56 = _ from by kernel_rfl))) op52) (fun H v a h => by obtain ⟨_, _, rfl⟩ := RdS.len h; kernel_rfl) (r := .any) (base := base) (fun v h => hval 1 23 v rfl (arg_at (by rw [e0]; exact h))) r0 f0
 obtain ⟨v2, vs2, d2, ds2, p2, ρ2, H2, av2, a2, e2, rfl, hA2, hw2, r2, f2, u2, i2, rv2, q2, w2⟩ := opn_arg hA1 hw1 op26 sh26 (r := .any) (base := base) (fun v h => hval 2 26 v rfl (arg_at (by rw [e0, e1]; exact h))) r1 f1
 obtain ⟨en, rfl⟩ := opn_none hA2
 subst en
 obtain ⟨sa0, sm0, rfl⟩ := RdS.len q0
 obtain ⟨sa1, sm1, rfl⟩ := RdS.len q1
 obtain ⟨xav2_0, xav2_1, rfl, gav2_0, gav2_1⟩ := q2
 have hargs : RelVs ρ2 [(.slice sa0 a0.length sm0), (.slice sa1 a1.length sm1), (.agg [xav2_0.v, xav2_1.v].toArray)] args.toList := by
   rw [e0, e1, e2]
   exact (.cons _ _ _ _ (rv0.up (u1.trans u2)) (.cons _ _ _ _ (rv1.up u2) (.cons _ _ _ _ rv2 .nil)))
 obtain ⟨fuel, hlaw⟩ := law_fnExactCertificateFor w0 w1 w2
 refine ((l_FnExactCertificateFor_ok fuel a0 ⟨sa0, _, sm0⟩ a1 ⟨sa1, _, sm1⟩ a2 xav2_0 xav2_1 true hlaw) H2 [] (Ctx.dup (Ctx.dup (Ctx.dup (Ctx.dup (Ctx.start _) gav2_1 rfl) gav2_0 rfl) (Mono.up q1 i2) rfl) (Mono.up q0 (i1.trans i2)) rfl) ρ2 W args r2 hargs).mono ?_
 rintro e w' ⟨v, r, ρ', H', rfl, h1, h2, h3, x, h5, -⟩
 have h6 : r = .bool true := h5
 subst h6
 refine ⟨_, rfl, ?_⟩
 rw [h1.bool_inv]
 refine law_post hW' rfl laidOut (by kernel_rfl) rfl (by kernel_rfl) (fun d => ?_) (h3.below f2)
 by_cases hd : d = [d0, d1, d2]
 · subst hd; exact .inl ⟨rfl, rfl, rfl⟩
 · exact .inr (by simpa using hd)
theorem named : Tryz.pinned.checked.prog.funcNamed Rows.fnExactCertificateForRow.func = some 3 := by kernel_rfl
set_option maxHeartbeats 10000000 in
theorem closed : joinedFacts Tryz.pinned.checked.prog 3 Tryz.f3 Rows.fnExactCertificateForSpec Rows.fnExactCertificateForRow = true := by
 simp only [joinedFacts, Bool.and_eq_true]
 repeat' refine And.intro ?_ ?_
 all_goals (as_aux_lemma => kernel_rfl)
theorem over : Rows.fnExactCertificateForRow.holds Tryz.pinned (OpenSpec.ofChange Rows.fnExactCertificateForSpec) :=
 OpenClaim.holds_of_wide 3 Tryz.f3 rfl rfl rfl rfl rfl rfl rfl ⟨rfl, rfl, rfl, rfl, rfl⟩ rfl rfl rfl rfl rfl named Tryz.func3 closed
   (of_decide_eq_true (by kernel_rfl)) (by unfold Func.isWrapper; first | (rw [if_pos (by decide +kernel)]; kernel_rfl) | (rw [if_neg (by decide +kernel)]; exact ⟨rfl, rfl⟩))
   (fun os started H enc _ => lifted os started H enc)
theorem proved : Rows.FnExactCertificateForSaid := over
end Go.Proofs.YtlfebfhfgfjceacGreat.fnExactCertificateFor
