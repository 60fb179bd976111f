/-
  FnExactSeenValues: the plain law and the row: for all arguments.
-/
import Derived.Test.YtmjhcoelkbcmkabSeenValuesG0
import Derived.Test.YtmjhcoelkbcmkabFc
import Derived.Test.YtmjhcoelkbcmkabRows
import Derived.WalkKit
import Derived.KernelRfl
/-
  Plain laws of the helpers. Written by a program.
-/
set_option maxRecDepth 100000
set_option linter.unusedVariables false
namespace Go.Proofs.Ytmjhcoelkbcmkab
open Go Go.Fw
theorem sz_IntS : Sz l_szIntS (fun a : List Int => a.length) (wfSl wfInt) := sz_flat (fun _ _ => rfl)
def tot_Method (a : Method) : Nat := a.Inputs.length
theorem sz_Method : Sz l_szMethod tot_Method wf48 := by
  intro a ⟨w_Rel, w_Inputs, w_Limit, w_Cost, w_Quota⟩ left hl hm
  unfold l_szMethod
  have ht : tot_Method a = a.Inputs.length := rfl
  obtain ⟨n1, e1, h1⟩ := sz_IntS a.Inputs w_Inputs _ hl hm
  rw [e1, Option.bind_some]
  try dsimp only at h1
  rcases h1 with ⟨rfl, p1⟩ | p1
  rotate_left
  · rw [if_pos (by simpa using p1)]; exact ⟨-1, rfl, .inr (by omega)⟩
  rw [if_neg (by simp only [decide_eq_true_eq]; omega)]
  exact ⟨_, rfl, .inl ⟨by rw [ht] <;> omega, p1⟩⟩
theorem sz_MethodS : Sz l_szMethodS (totL tot_Method) (wfSl wf48) := sz_slice sz_Method (fun _ _ => rfl) (fun _ _ _ _ => rfl) (fun _ _ => rfl)
def tot_Access (a : Access) : Nat := a.Values.length
theorem sz_Access : Sz l_szAccess tot_Access wf51 := by
  intro a ⟨w_Method, w_Values⟩ left hl hm
  unfold l_szAccess
  have ht : tot_Access a = a.Values.length := rfl
  obtain ⟨n1, e1, h1⟩ := sz_IntS a.Values w_Values _ hl hm
  rw [e1, Option.bind_some]
  try dsimp only at h1
  rcases h1 with ⟨rfl, p1⟩ | p1
  rotate_left
  · rw [if_pos (by simpa using p1)]; exact ⟨-1, rfl, .inr (by omega)⟩
  rw [if_neg (by simp only [decide_eq_true_eq]; omega)]
  exact ⟨_, rfl, .inl ⟨by rw [ht] <;> omega, p1⟩⟩
theorem sz_AccessS : Sz l_szAccessS (totL tot_Access) (wfSl wf51) := sz_slice sz_Access (fun _ _ => rfl) (fun _ _ _ _ => rfl) (fun _ _ => rfl)
theorem to_IntS : ∀ (a : List Int), (bdL bdAny) a → l_toIntS a = some a :=
  to_slice (fun _ => rfl) (fun _ _ => rfl) (fun x r k c hx hk => by
    rw [l_toIntS_L1]
    simp [chk, hk])
def bd_Method (a : Method) : Prop := (bdL bdAny) a.Inputs
theorem to_Method (a : Method) (h : bd_Method a) : l_toMethod a = some a := by
  have b_a_Inputs : (bdL bdAny) a.Inputs := h
  simp (disch := assumption) only [l_toMethod, to_IntS, Option.bind_some]
theorem to_MethodS : ∀ (a : List Method), (bdL bd_Method) a → l_toMethodS a = some a :=
  to_slice (fun _ => rfl) (fun _ _ => rfl) (fun x r k c hx hk => by
    rw [l_toMethodS_L1]
    rw [to_Method _ hx]
    simp [chk, hk])
def bd_Access (a : Access) : Prop := (bdL bdAny) a.Values
theorem to_Access (a : Access) (h : bd_Access a) : l_toAccess a = some a := by
  have b_a_Values : (bdL bdAny) a.Values := h
  simp (disch := assumption) only [l_toAccess, to_IntS, Option.bind_some]
theorem to_AccessS : ∀ (a : List Access), (bdL bd_Access) a → l_toAccessS a = some a :=
  to_slice (fun _ => rfl) (fun _ _ => rfl) (fun x r k c hx hk => by
    rw [l_toAccessS_L1]
    rw [to_Access _ hx]
    simp [chk, hk])
theorem eq_IntS : ∀ (a : List Int), l_eqIntS a a = some true :=
  eq_slice (fun _ _ => rfl) (fun _ _ => rfl) (fun b x r k h => by
    rw [l_eqIntS_L1, ix_nat, h]
    simp)
theorem eq_Method (a : Method) : l_eqMethod a a = some true := by simp [l_eqMethod, eq_IntS]
theorem eq_MethodS : ∀ (a : List Method), l_eqMethodS a a = some true :=
  eq_slice (fun _ _ => rfl) (fun _ _ => rfl) (fun b x r k h => by
    rw [l_eqMethodS_L1, ix_nat, h]
    simp [eq_Method])
theorem eq_Access (a : Access) : l_eqAccess a a = some true := by simp [l_eqAccess, eq_IntS]
theorem eq_AccessS : ∀ (a : List Access), l_eqAccessS a a = some true :=
  eq_slice (fun _ _ => rfl) (fun _ _ => rfl) (fun b x r k h => by
    rw [l_eqAccessS_L1, ix_nat, h]
    simp [eq_Access])
theorem mark_IntS : ∀ (a : List Int) (k : Int), (bdL bdAny) a → 0 ≤ k → k + (msL (fun _ => 1) a : Int) < 4611686018427387904 → l_markIntS a k = some (k + msL (fun _ => 1) a, mkL (fun _ k => k) (fun _ => 1) k a) :=
  mark_slice (fun _ _ => rfl) (fun m c k j h => by rw [l_markIntS_L1, if_neg (by simp; omega)]) (fun m c k j x e hl hj hp hk hm => by
    rw [l_markIntS_L1, if_pos (by simp; omega)]
    simp (disch := first | omega | assumption | (simp only [List.length_set]; omega)) only [chk_true (show (decide (0 ≤ (j : Int)) && decide ((j : Int) < (c.length : Int))) = true by simp; omega), wrap_in, Int.toNat_natCast, Option.bind_some, Int.natCast_add, Int.cast_ofNat_Int])
def meN_Method (a : Method) : Nat := 1 + msL (fun _ => 1) a.Inputs + 1 + 1 + 1
def meK_Method (a : Method) (k : Int) : Method := { Rel := k, Inputs := mkL (fun _ k => k) (fun _ => 1) (k + 1) a.Inputs, Limit := k + 1 + msL (fun _ => 1) a.Inputs, Cost := k + 1 + msL (fun _ => 1) a.Inputs + 1, Quota := k + 1 + msL (fun _ => 1) a.Inputs + 1 + 1 }
theorem mark_MethodS : ∀ (a : List Method) (k : Int), (bdL bd_Method) a → 0 ≤ k → k + (msL meN_Method a : Int) < 4611686018427387904 → l_markMethodS a k = some (k + msL meN_Method a, mkL meK_Method meN_Method k a) :=
  mark_slice (fun _ _ => rfl) (fun m c k j h => by rw [l_markMethodS_L1, if_neg (by simp; omega)]) (fun m c k j x e hl hj hp hk hm => by
    have e' : ix c (j : Int) = some x := by rw [ix_nat, e]
    have b_x_Inputs : (bdL bdAny) x.Inputs := hp
    simp only [meN_Method, Int.natCast_add, Int.cast_ofNat_Int] at hm ⊢
    rw [l_markMethodS_L1, if_pos (by simp; omega)]
    simp (disch := first | omega | assumption | (simp only [List.length_set]; omega)) only [e', mark_IntS, meK_Method, ix_at, List.set_set, wrap_in, Int.toNat_natCast, Option.bind_some, Int.add_assoc])
def meN_Access (a : Access) : Nat := 1 + msL (fun _ => 1) a.Values
def meK_Access (a : Access) (k : Int) : Access := { Method := k, Values := mkL (fun _ k => k) (fun _ => 1) (k + 1) a.Values }
theorem mark_AccessS : ∀ (a : List Access) (k : Int), (bdL bd_Access) a → 0 ≤ k → k + (msL meN_Access a : Int) < 4611686018427387904 → l_markAccessS a k = some (k + msL meN_Access a, mkL meK_Access meN_Access k a) :=
  mark_slice (fun _ _ => rfl) (fun m c k j h => by rw [l_markAccessS_L1, if_neg (by simp; omega)]) (fun m c k j x e hl hj hp hk hm => by
    have e' : ix c (j : Int) = some x := by rw [ix_nat, e]
    have b_x_Values : (bdL bdAny) x.Values := hp
    simp only [meN_Access, Int.natCast_add, Int.cast_ofNat_Int] at hm ⊢
    rw [l_markAccessS_L1, if_pos (by simp; omega)]
    simp (disch := first | omega | assumption | (simp only [List.length_set]; omega)) only [e', mark_IntS, meK_Access, ix_at, List.set_set, wrap_in, Int.toNat_natCast, Option.bind_some, Int.add_assoc])
theorem held_IntS : ∀ (a : List Int) (k : Int), (bdL bdAny) a → 0 ≤ k → k + (msL (fun _ => 1) a : Int) < 4611686018427387904 → l_heldIntS (mkL (fun _ k => k) (fun _ => 1) k a) k = some (k + msL (fun _ => 1) a) :=
  held_slice (fun _ _ => rfl) (fun _ _ => rfl) (fun x r n k hp hk hm => by
    simp (disch := first | omega | assumption) only [l_heldIntS_L1, wrap_in, bne_self_eq_false, Bool.false_eq_true, if_false, Int.cast_ofNat_Int])
end Go.Proofs.Ytmjhcoelkbcmkab

/-
  Plain laws.
-/
set_option maxRecDepth 100000
set_option linter.unusedVariables false
namespace Go.Proofs.Ytmjhcoelkbcmkab
open Go Go.Fw

theorem g_slices_Clone_int_int_eq (a : List Int) (h : a.length < 4294967296) : g_slices_Clone_int_int a = some a := by simp [g_slices_Clone_int_int, app_nil h]
theorem i_copyAccess_eq (a : Access) (h : bd_Access a) : i_copyAccess a = some a := by simp [i_copyAccess, g_slices_Clone_int_int_eq _ h.1]
theorem i_copyAccesses_eq (l : List Access) (h : bdL bd_Access l) : i_copyAccesses l = some l :=
  copy_all (L := i_copyAccesses_L1) (fun _ _ => rfl) (fun x r k c hx hc => by rw [i_copyAccesses_L1, i_copyAccess_eq x hx, Option.bind_some, app1 hc, Option.bind_some]) l h
theorem s_l8Access_eq (m : Int) (v : List Int) (h : v.length < 4294967296) : s_l8Access m v = some { Method := m, Values := v } := by simp [s_l8Access, app_nil h]
def pVis (l : List Method) (rel : Int) (a : Access) : Bool := decide (0 ≤ a.Method) && decide (a.Method ≤ (l.length : Int) - 1) && ((l[a.Method.toNat]?.map (·.Rel)) == some rel)
theorem pVis_at {l : List Method} {m : Int} (h : (decide (0 ≤ m) && decide (m ≤ (l.length : Int) - 1)) = true) : ∃ x, ix l m = some x ∧ l[m.toNat]? = some x := by
  simp at h
  have hlt : m.toNat < l.length := by omega
  exact ⟨l[m.toNat], by unfold ix; rw [if_pos h.1, List.getElem?_eq_getElem hlt], List.getElem?_eq_getElem hlt⟩
theorem i_ViewOf_1_eq (a : Access) (l : List Method) (rel : Int) (hl : l.length < 4294967296) : i_ViewOf_1 a l rel = some (!pVis l rel a) := by
  simp only [i_ViewOf_1, i_within, Option.bind_some, pVis]
  rw [wrap_in (by omega) (by omega)]
  cases h : (decide (0 ≤ a.Method) && decide (a.Method ≤ (l.length : Int) - 1))
  · simp
  · obtain ⟨x, h1, h2⟩ := pVis_at h
    rw [h1, h2]
    simp [bne]
def pView (l : List Method) (log : List Access) (rel : Int) : List Access := log.filter (pVis l rel)
theorem i_ViewOf_eq (l : List Method) (log : List Access) (rel : Int) (hl : l.length < 4294967296) (hb : bdL bd_Access log) : i_ViewOf l log rel = some (pView l log rel) := by
  rw [i_ViewOf, i_copyAccesses_eq log hb, Option.bind_some, g_slices_DeleteFunc_impl_Access_impl_Access_iViewOf1, delL_of (p := fun a => !pVis l rel a) (fun x _ => i_ViewOf_1_eq x l rel hl)]
  simp [pView]
theorem s_ViewOf_eq (l : List Method) (log : List Access) (rel : Int) (hl : l.length < 4294967296) (hb : bdL bd_Access log) : s_ViewOf l log rel = some (pView l log rel) := by
  have := filter_loop (L := s_ViewOf_L1 l rel) (p := pVis l rel) (P := bd_Access) (fun _ _ => rfl) (fun x r k c hx hc => by
    rw [s_ViewOf_L1]
    simp only [s_l1In, Option.bind_some, s_l8Access_eq _ _ hx.1, app1 hc]
    rw [wrap_in (by omega) (by omega)]
    unfold pVis
    cases h : (decide (0 ≤ x.Method) && decide (x.Method ≤ (l.length : Int) - 1))
    · simp
    · obtain ⟨y, h1, h2⟩ := pVis_at h
      rw [h1, h2]
      by_cases e : y.Rel = rel <;> simp [e]) log 0 [] hb.2 (by simpa using hb.1)
  simpa [s_ViewOf, pView] using this
theorem ms_MethodS (a : List Method) : msL meN_Method a ≤ 4 * totL tot_Method a := msL_le 4 (fun x => by simp only [meN_Method, msL_one, tot_Method]; omega) a
theorem ms_AccessS (a : List Access) : msL meN_Access a ≤ 1 * totL tot_Access a := msL_le 1 (fun x => by simp only [meN_Access, msL_one, tot_Access]; omega) a
theorem bd_MethodS (a : List Method) (h : totL tot_Method a < 4294967296) : bdL bd_Method a := bdL_of (f := tot_Method) (fun x hx => bdL_flat _ hx) _ h
theorem bd_AccessS (a : List Access) (h : totL tot_Access a < 4294967296) : bdL bd_Access a := bdL_of (f := tot_Access) (fun x hx => bdL_flat _ hx) _ h

theorem compactU_spec {zs : List Int} (h : zs.Pairwise (· ≤ ·)) : ∀ m, m ≤ zs.length →
    (Lib.compactUpTo zs.toArray m).Pairwise (· < ·) ∧ (∀ x, x ∈ Lib.compactUpTo zs.toArray m ↔ x ∈ zs.take m) ∧ (∀ x ∈ Lib.compactUpTo zs.toArray m, ∀ y, zs[m]? = some y → x ≤ y) := by
  intro m
  induction m with
  | zero => intro _; simp [Lib.compactUpTo]
  | succ m ih =>
    intro hm
    obtain ⟨i1, i2, i3⟩ := ih (by omega)
    have hlt : m < zs.length := by omega
    have hg : zs.toArray[m]! = zs[m] := by simp [hlt]
    have hnext : ∀ x, x ∈ zs.take (m + 1) → ∀ y, zs[m + 1]? = some y → x ≤ y := by
      intro x hx y hy
      obtain ⟨j, hj, rfl⟩ := List.mem_iff_getElem.1 hx
      obtain ⟨hy1, rfl⟩ := List.getElem?_eq_some_iff.1 hy
      rw [List.getElem_take]
      simp only [List.length_take] at hj
      exact List.pairwise_iff_getElem.1 h j (m + 1) (by omega) hy1 (by omega)
    rw [Lib.compactUpTo_succ, hg]
    have htake : zs.take (m + 1) = zs.take m ++ [zs[m]] := by rw [List.take_succ_eq_append_getElem hlt]
    by_cases hk : Lib.keeps zs.toArray m = true
    · rw [if_pos hk]
      have hlow : ∀ x ∈ Lib.compactUpTo zs.toArray m, x < zs[m] := by
        intro x hx
        have hm0 : m ≠ 0 := by
          intro e; subst e; simp [Lib.compactUpTo] at hx
        have hpl : m - 1 < zs.length := by omega
        have hpm : zs.toArray[m - 1]! = zs[m - 1] := by simp [hpl]
        have hne : zs[m] ≠ zs[m - 1] := by
          simp only [Lib.keeps, decide_eq_true_eq, hg, hpm] at hk
          rcases hk with h0 | h0
          · exact absurd h0 hm0
          · exact h0
        have hx1 := (i2 x).1 hx
        obtain ⟨j, hj, rfl⟩ := List.mem_iff_getElem.1 hx1
        rw [List.getElem_take] at *
        simp only [List.length_take] at hj
        have a1 : zs[j] ≤ zs[m - 1] := by
          rcases Nat.lt_or_ge j (m - 1) with h1 | h1
          · exact List.pairwise_iff_getElem.1 h j (m - 1) (by omega) hpl h1
          · have : j = m - 1 := by omega
            subst this; exact Int.le_refl _
        have a2 : zs[m - 1] ≤ zs[m] := List.pairwise_iff_getElem.1 h (m - 1) m hpl hlt (by omega)
        omega
      refine ⟨?_, ?_, ?_⟩
      · rw [List.pairwise_append]
        exact ⟨i1, by simp, fun a ha b hb => by simp at hb; subst hb; exact hlow a ha⟩
      · intro x; rw [htake, List.mem_append, List.mem_append, i2]
      · intro x hx y hy
        apply hnext x _ y hy
        rw [htake, List.mem_append, ← i2, ← List.mem_append]; exact hx
    · rw [if_neg hk, List.append_nil]
      have hm0 : m ≠ 0 := fun e => hk (by simp [Lib.keeps, e])
      have hpl : m - 1 < zs.length := by omega
      have hpm : zs.toArray[m - 1]! = zs[m - 1] := by simp [hpl]
      have he : zs[m] = zs[m - 1] := by
        simp only [Lib.keeps, decide_eq_true_eq, hg, hpm] at hk
        exact Classical.byContradiction fun hc => hk (.inr hc)
      have hin : zs[m] ∈ zs.take m := by
        rw [he]
        exact List.mem_iff_getElem.2 ⟨m - 1, by simp; omega, by rw [List.getElem_take]⟩
      have hiff : ∀ x, x ∈ zs.take (m + 1) ↔ x ∈ zs.take m := by
        intro x; rw [htake, List.mem_append, List.mem_singleton]
        exact ⟨fun h => h.elim id fun h => h ▸ hin, .inl⟩
      refine ⟨i1, fun x => by rw [i2, hiff], fun x hx y hy => hnext x ((hiff x).2 ((i2 x).1 hx)) y hy⟩
theorem compact_spec {zs : List Int} (h : zs.Pairwise (· ≤ ·)) : (Lib.compact zs).Pairwise (· < ·) ∧ ∀ x, x ∈ Lib.compact zs ↔ x ∈ zs := by
  obtain ⟨h1, h2, -⟩ := compactU_spec h zs.length (Nat.le_refl _)
  exact ⟨h1, fun x => by rw [Lib.compact, h2, List.take_length]⟩
theorem ss_ext : ∀ {a b : List Int}, a.Pairwise (· < ·) → b.Pairwise (· < ·) → (∀ x, x ∈ a ↔ x ∈ b) → a = b
  | [], [], _, _, _ => rfl
  | [], y :: b, _, _, h => absurd ((h y).2 (by simp)) (by simp)
  | x :: a, [], _, _, h => absurd ((h x).1 (by simp)) (by simp)
  | x :: a, y :: b, ha, hb, h => by
    rw [List.pairwise_cons] at ha hb
    have e : x = y := by
      have h1 := (h x).1 (by simp)
      have h2 := (h y).2 (by simp)
      rw [List.mem_cons] at h1 h2
      rcases h1 with h1 | h1
      · exact h1
      · rcases h2 with h2 | h2
        · exact h2.symm
        · have := hb.1 x h1; have := ha.1 y h2; omega
    subst e
    rw [ss_ext ha.2 hb.2 fun z => ?_]
    constructor
    · intro hz
      have h1 := (h z).1 (by simp [hz])
      have := ha.1 z hz
      rcases List.mem_cons.1 h1 with h1 | h1
      · omega
      · exact h1
    · intro hz
      have h1 := (h z).2 (by simp [hz])
      have := hb.1 z hz
      rcases List.mem_cons.1 h1 with h1 | h1
      · omega
      · exact h1
def pIns (x : Int) : List Int → List Int
  | [] => [x]
  | y :: l => if x < y then x :: y :: l else y :: pIns x l
theorem pIns_mem {x : Int} : ∀ {l : List Int} {y : Int}, y ∈ pIns x l ↔ y = x ∨ y ∈ l
  | [], y => by simp [pIns]
  | z :: l, y => by
    unfold pIns
    split
    · simp
    · rw [List.mem_cons, pIns_mem, List.mem_cons]
      constructor <;> rintro (h | h | h) <;> simp [h]
theorem pIns_ss {x : Int} : ∀ {l : List Int}, l.Pairwise (· < ·) → x ∉ l → (pIns x l).Pairwise (· < ·)
  | [], _, _ => by simp [pIns]
  | z :: l, h, hn => by
    unfold pIns
    rw [List.mem_cons, not_or] at hn
    rw [List.pairwise_cons] at h
    split
    · rename_i hx
      rw [List.pairwise_cons, List.pairwise_cons]
      refine ⟨fun a ha => ?_, h⟩
      rcases List.mem_cons.1 ha with rfl | ha
      · exact hx
      · have := h.1 a ha; omega
    · rename_i hx
      rw [List.pairwise_cons]
      refine ⟨fun a ha => ?_, pIns_ss h.2 hn.2⟩
      rcases pIns_mem.1 ha with rfl | ha
      · omega
      · exact h.1 a ha
theorem pIns_len {x : Int} : ∀ {l : List Int}, (pIns x l).length = l.length + 1
  | [] => rfl
  | z :: l => by
    unfold pIns
    split
    · rfl
    · simp [pIns_len]
def pPut (l : List Int) (x : Int) : List Int := if x ∈ l then l else pIns x l
theorem pPut_mem {l : List Int} {x y : Int} : y ∈ pPut l x ↔ y = x ∨ y ∈ l := by
  unfold pPut
  split
  · rename_i h; exact ⟨.inr, fun h' => h'.elim (fun e => e ▸ h) id⟩
  · exact pIns_mem
theorem pPut_ss {l : List Int} {x : Int} (h : l.Pairwise (· < ·)) : (pPut l x).Pairwise (· < ·) := by
  unfold pPut
  split
  · exact h
  · exact pIns_ss h (by assumption)
theorem pPut_len {l : List Int} {x : Int} : (pPut l x).length ≤ l.length + 1 := by
  unfold pPut
  split
  · omega
  · rw [pIns_len]; exact Nat.le_refl _
theorem puts_mem {y : Int} : ∀ {v l : List Int}, y ∈ v.foldl pPut l ↔ y ∈ l ∨ y ∈ v
  | [], l => by simp
  | x :: v, l => by
    rw [List.foldl_cons, puts_mem, pPut_mem, List.mem_cons]
    constructor
    · rintro ((h | h) | h) <;> simp [h]
    · rintro (h | h | h) <;> simp [h]
theorem puts_ss : ∀ {v l : List Int}, l.Pairwise (· < ·) → (v.foldl pPut l).Pairwise (· < ·)
  | [], _, h => h
  | x :: v, l, h => puts_ss (v := v) (pPut_ss h)
theorem puts_len : ∀ {v l : List Int}, (v.foldl pPut l).length ≤ l.length + v.length
  | [], _ => Nat.le_refl _
  | x :: v, l => by
    have h1 := puts_len (v := v) (l := pPut l x)
    have h2 := pPut_len (l := l) (x := x)
    simp only [List.foldl_cons, List.length_cons]; omega
theorem puts_sort (v : List Int) : v.foldl pPut [] = Lib.compact (v.mergeSort fun x y => decide (x ≤ y)) := by
  have hs : (v.mergeSort fun x y => decide (x ≤ y)).Pairwise (· ≤ ·) := by
    have := List.pairwise_mergeSort (le := fun x y : Int => decide (x ≤ y)) (fun a b c h1 h2 => by simp only [decide_eq_true_eq] at *; omega) (fun a b => by simp only [Bool.or_eq_true, decide_eq_true_eq]; omega) v
    exact this.imp fun h => by simpa using h
  obtain ⟨c1, c2⟩ := compact_spec hs
  exact ss_ext (puts_ss (by simp)) c1 fun x => by rw [puts_mem, c2, List.mem_mergeSort]; simp
theorem s_l2Has_eq (x : Int) (l : List Int) : s_l2Has l x = some (decide (x ∈ l)) := by
  unfold s_l2Has
  generalize 0 = k
  induction l generalizing k with
  | nil => rfl
  | cons y l ih =>
    unfold s_l2Has_L1
    by_cases h : y = x
    · subst h; simp
    · rw [if_neg (by simpa using h), ih]
      congr 1
      simp only [List.mem_cons, decide_eq_decide]
      exact ⟨.inr, fun h' => h'.elim (fun e => absurd e.symm h) id⟩
theorem s_l3Put_L1_eq (x : Int) : ∀ (l : List Int) (k : Nat) (c : List Int) (b : Bool), c.length + l.length + (bif b then 0 else 1) < 4294967296 → s_l3Put_L1 x l k c b = some (if b then c ++ l else c ++ pIns x l)
  | [], k, c, b, h => by
    unfold s_l3Put_L1
    cases b
    · simp only [cond_false, List.length_nil] at h
      rw [if_pos (show (!false) = true from rfl), app_ok (by simp; omega), if_neg (by simp)]; rfl
    · simp
  | y :: l, k, c, b, h => by
    simp only [List.length_cons] at h
    unfold s_l3Put_L1
    cases b
    · simp only [cond_false] at h
      by_cases hx : x < y
      · rw [if_pos (by simpa using hx), app_ok (by simp; omega), Option.bind_some, app_ok (by simp; omega), Option.bind_some, Option.bind_some]
        dsimp only
        rw [s_l3Put_L1_eq x l _ _ _ (by simp; omega), if_pos rfl, if_neg (by simp)]
        simp [pIns, hx]
      · rw [if_neg (by simpa using hx), app_ok (by simp; omega), Option.bind_some, Option.bind_some]
        dsimp only
        rw [s_l3Put_L1_eq x l _ _ _ (by simp; omega), if_neg (by simp), if_neg (by simp)]
        simp [pIns, hx]
    · simp only [cond_true] at h
      rw [if_neg (by simp), app_ok (by simp; omega), Option.bind_some, Option.bind_some]
      dsimp only
      rw [s_l3Put_L1_eq x l _ _ _ (by simp; omega), if_pos rfl, if_pos rfl]
      simp
theorem s_l3Put_eq (l : List Int) (x : Int) (h : l.length + 1 < 4294967296) : s_l3Put l x = some (pPut l x) := by
  unfold s_l3Put pPut
  rw [s_l2Has_eq, Option.bind_some]
  by_cases hx : x ∈ l
  · rw [if_pos (by simpa using hx), if_pos hx]
  · rw [if_neg (by simpa using hx), if_neg hx, s_l3Put_L1_eq x l 0 [] false (by simpa using h)]
    rfl
theorem s_SeenValues_L4_eq (a : Access) : ∀ (m : Nat) (c : List Int) (i : Nat), i ≤ a.Values.length → a.Values.length - i < m → c.length + (a.Values.length - i) < 4294967295 → a.Values.length < 4294967296 →
    s_SeenValues_L4 a m c (i : Int) = some ((a.Values.drop i).foldl pPut c) := by
  intro m
  induction m with
  | zero => intro c i _ h _ _; omega
  | succ m ih =>
    intro c i hi hm hc hb
    unfold s_SeenValues_L4
    by_cases hlt : i < a.Values.length
    · rw [if_pos (by simpa using hlt), ix_nat, List.getElem?_eq_getElem hlt, Option.bind_some, s_l3Put_eq _ _ (by omega), Option.bind_some, show IntKind.i64.wrap ((i : Int) + 1) = ((i + 1 : Nat) : Int) from by rw [wrap_in (by omega) (by omega)]; rfl]
      have := pPut_len (l := c) (x := a.Values[i])
      rw [ih _ (i + 1) (by omega) (by omega) (by omega) hb, List.drop_eq_getElem_cons hlt, List.foldl_cons]
    · rw [if_neg (by simpa using hlt), List.drop_eq_nil_of_le (by omega)]; rfl
def pVals (v : List Access) : List Int := v.flatMap (·.Values)
theorem pVals_len : ∀ (v : List Access), (pVals v).length ≤ totL tot_Access v
  | [] => by simp [pVals]
  | a :: v => by
    have := pVals_len v
    simp only [pVals, List.flatMap_cons, List.length_append] at *
    simp only [totL, tot_Access, List.map_cons, List.sum_cons, List.length_cons] at *
    omega
theorem s_SeenValues_L1_eq : ∀ (v : List Access) (k : Nat) (c : List Int), c.length + (pVals v).length < 4294967295 → s_SeenValues_L1 v k c = some ((pVals v).foldl pPut c)
  | [], k, c, _ => rfl
  | a :: v, k, c, h => by
    simp only [pVals, List.flatMap_cons, List.length_append] at h
    unfold s_SeenValues_L1
    rw [show (((a.Values.length : Int) - 0).toNat + 2) = a.Values.length + 2 by omega, show (0 : Int) = ((0 : Nat) : Int) from rfl, s_SeenValues_L4_eq a _ c 0 (by omega) (by omega) (by omega) (by omega), Option.bind_some]
    dsimp only
    have := puts_len (v := a.Values) (l := c)
    rw [List.drop_zero, s_SeenValues_L1_eq v _ _ (by simp only [pVals]; omega)]
    simp [pVals]
theorem i_SeenValues_L1_eq : ∀ (v : List Access) (k : Nat) (c : List Int), c.length + (pVals v).length < 4294967296 → i_SeenValues_L1 v k c = some (Lib.compact ((c ++ pVals v).mergeSort fun x y => decide (x ≤ y)))
  | [], k, c, _ => by simp [i_SeenValues_L1, g_slices_Sort_int_int, g_slices_Compact_int_int, pVals]
  | a :: v, k, c, h => by
    simp only [pVals, List.flatMap_cons, List.length_append] at h
    unfold i_SeenValues_L1
    rw [app_ok (by omega), Option.bind_some, i_SeenValues_L1_eq v _ _ (by simp only [pVals, List.length_append]; omega)]
    simp [pVals]
theorem totL_sub {α : Type} {f : α → Nat} {a b : List α} (h : a.Sublist b) : totL f a ≤ totL f b := by
  induction h with
  | slnil => exact Nat.le_refl _
  | cons x _ ih => simp only [totL, List.map_cons, List.sum_cons, List.length_cons] at *; omega
  | cons_cons x _ ih => simp only [totL, List.map_cons, List.sum_cons, List.length_cons] at *; omega
theorem ms_ints (R : List Int) : msL (fun _ : Int => 1) R = R.length := by
  unfold msL
  induction R with
  | nil => rfl
  | cons x R ih => rw [List.map_cons, List.sum_cons, ih, List.length_cons]; omega
theorem law_fnExactSeenValues {l : List Method} {log : List Access} {rel : Int} (wl : wfSl wf48 l) (wo : wfSl wf51 log) (wr : wfInt rel) : l_FnExactSeenValues l log rel = some true := by
  unfold l_FnExactSeenValues
  obtain ⟨n1, e1, h1⟩ := sz_MethodS l wl 1048576 (by omega) (by omega)
  rw [e1, Option.bind_some]
  try dsimp only at h1
  rcases h1 with ⟨rfl, p1⟩ | p1
  rotate_left
  · rw [if_pos (by simpa using p1)]
  rw [if_neg (by simp only [decide_eq_true_eq]; omega)]
  obtain ⟨n2, e2, h2⟩ := sz_AccessS log wo _ p1 (by omega)
  rw [e2, Option.bind_some]
  try dsimp only at h2
  rcases h2 with ⟨rfl, p2⟩ | p2
  rotate_left
  · rw [if_pos (by simpa using p2)]
  rw [if_neg (by simp only [decide_eq_true_eq]; omega)]
  have b1 := bd_MethodS l (by omega)
  have b2 := bd_AccessS log (by omega)
  have hs : (pView l log rel).Sublist log := List.filter_sublist
  have hv : (pVals (pView l log rel)).length ≤ 1048576 := by
    have a1 := pVals_len (pView l log rel)
    have a2 := totL_sub (f := tot_Access) hs
    omega
  have eS : s_SeenValues l log rel = some ((pVals (pView l log rel)).foldl pPut []) := by
    unfold s_SeenValues
    rw [s_ViewOf_eq l log rel b1.1 b2, Option.bind_some, s_SeenValues_L1_eq _ _ _ (by simp only [List.length_nil]; omega)]
  have eI : i_SeenValues l log rel = some ((pVals (pView l log rel)).foldl pPut []) := by
    unfold i_SeenValues
    rw [i_ViewOf_eq l log rel b1.1 b2, Option.bind_some, i_SeenValues_L1_eq _ _ _ (by simp only [List.length_nil]; omega), List.nil_append, puts_sort]
  generalize hR : (pVals (pView l log rel)).foldl pPut [] = R at eS eI
  have hl : R.length ≤ 1048576 := by
    have := puts_len (v := pVals (pView l log rel)) (l := [])
    rw [hR] at this
    simp only [List.length_nil] at this; omega
  have b3 : bdL bdAny R := bdL_flat R (by omega)
  have m3 := ms_ints R
  have m1 := ms_MethodS l
  have m2 := ms_AccessS log
  have k1 := mark_MethodS l 1 b1 (by omega) (by omega)
  have k2 := mark_AccessS log (1 + msL meN_Method l) b2 (by omega) (by omega)
  have k3 := mark_IntS R 1 b3 (by omega) (by omega)
  have k4 := held_IntS R 1 b3 (by omega) (by omega)
  simp only [to_MethodS l b1, to_AccessS log b2, eS, eI, eq_IntS, eq_AccessS, eq_MethodS, k1, k2, k3, k4, Option.bind_some, Bool.not_true, Bool.false_eq_true, if_false, neg_dec, neg_dec2 (show (0 : Int) ≤ 1 + (msL meN_Method l : Int) + (msL meN_Access log : Int) by omega), cond_false, bne_self_eq_false]

end Go.Proofs.Ytmjhcoelkbcmkab

/-
  The row FnExactSeenValues.
-/
set_option maxRecDepth 100000
namespace Go.Proofs.Ytmjhcoelkbcmkab.fnExactSeenValues
open Go Go.Fw Go.ChangeShapes Go.WideShapes Go.ChangeAt Go.RowKit

theorem own : ownKnob Try.prog.godebug = none := by kernel_rfl
theorem laidOut : laidOutB Try.prog = true := by kernel_rfl

set_option maxRecDepth 100000 in
theorem lifted (os : Os) (started : os.Started) (H : Type) (enc : TypeId × Value → H) :
    ReturnsInHanded {} Try.checked os 3 .any (Rows.fnExactSeenValuesSpec.pre6 enc Try.prog Try.f3 Rows.fnExactSeenValuesRow.domain false) (Rows.fnExactSeenValuesSpec.post enc Try.prog Try.f3 false true false false) := by
  refine returnsInHanded_of_change_sized (C := Try.checked) own started (by kernel_rfl) Try.func3
    (ChangeSpec.witness6 (enc := enc) (C := Try.checked) false ⟨#[], #[.slice none 0 0, .slice none 0 0, .int .i64 0], []⟩ 16 (by kernel_rfl) (by kernel_rfl) (by kernel_rfl) (by kernel_rfl)) ?_
  intro W base args ds gs before hval hW _ hwt _
  have hW' := hW
  obtain ⟨p, q, hA0, hV, rfl, hfz, hnd⟩ := hW
  obtain ⟨rfl, rfl⟩ := trodVars_none hV
  have hA : DataW.TrodAll enc Try.prog W 0 (fun _ => true) true [22, 23, 3] args.toList ds p := hA0
  have hw : ∀ n ∈ DataW.weightsEach Try.prog [22, 23, 3] ds, n ≤ reachBytes := fun n hn => by
    have := List.all_eq_true.1 hwt n (by rw [List.append_nil]; exact hn)
    simpa using this
  obtain ⟨v0, vs0, d0, ds0, p0, ρ0, H0, av0, a0, e0, rfl, hA0, hw0, r0, f0, u0, i0, rv0, q0, w0⟩ := opn_arg hA hw (Opn.slice (s := 5) (by kernel_rfl) (by kernel_rfl) (by decide) (Nat.lt_of_lt_of_le (by decide) (Nat.le_of_eq (show 56 = _ from by kernel_rfl))) op48) (fun H v a h => by obtain ⟨_, _, rfl⟩ := RdS.len h; kernel_rfl) (r := .any) (base := base) (fun v h => hval 0 22 v rfl (arg_at h)) (Rel.nil _ W trivial) Frn.nil
  obtain ⟨v1, vs1, d1, ds1, p1, ρ1, H1, av1, a1, e1, rfl, hA1, hw1, r1, f1, u1, i1, rv1, q1, w1⟩ := opn_arg hA0 hw0 (Opn.slice (s := 2) (by kernel_rfl) (by kernel_rfl) (by decide) (Nat.lt_of_lt_of_le (by decide) (Nat.le_of_eq (show 32 = _ from by kernel_rfl))) op51) (fun H v a h => by obtain ⟨_, _, rfl⟩ := RdS.len h; kernel_rfl) (r := .any) (base := base) (fun v h => hval 1 23 v rfl (arg_at (by rw [e0]; exact h))) r0 f0
  obtain ⟨v2, vs2, d2, ds2, p2, ρ2, H2, av2, a2, e2, rfl, hA2, hw2, r2, f2, u2, i2, rv2, q2, w2⟩ := opn_arg hA1 hw1 (Opn.int (by kernel_rfl)) (fun H v a h => by subst h; kernel_rfl) (r := .any) (base := base) (fun v h => hval 2 3 v rfl (arg_at (by rw [e0, e1]; exact h))) r1 f1
  obtain ⟨en, rfl⟩ := opn_none hA2
  subst en
  obtain ⟨sa0, sm0, rfl⟩ := RdS.len q0
  obtain ⟨sa1, sm1, rfl⟩ := RdS.len q1
  obtain rfl : av2 = (.int .i64 a2) := q2
  have hargs : RelVs ρ2 [(.slice sa0 a0.length sm0), (.slice sa1 a1.length sm1), (.int .i64 a2)] args.toList := by
    rw [e0, e1, e2]
    exact (.cons _ _ _ _ (rv0.up (u1.trans u2)) (.cons _ _ _ _ (rv1.up u2) (.cons _ _ _ _ rv2 .nil)))
  have hlaw := law_fnExactSeenValues w0 w1 w2
  refine ((l_FnExactSeenValues_ok a0 ⟨sa0, _, sm0⟩ a1 ⟨sa1, _, sm1⟩ a2 true hlaw) H2 [] (Ctx.dup (Ctx.dup (Ctx.start _) (Mono.up q1 i2) rfl) (Mono.up q0 (i1.trans i2)) rfl) ρ2 W args r2 hargs).mono ?_
  rintro e w' ⟨v, r, ρ', H', rfl, h1, h2, h3, x, h5, -⟩
  have h6 : r = .bool true := h5
  subst h6
  refine ⟨_, rfl, ?_⟩
  rw [h1.bool_inv]
  refine law_post hW' rfl laidOut (by kernel_rfl) rfl (by kernel_rfl) (fun d => ?_) (h3.below f2)
  by_cases hd : d = [d0, d1, d2]
  · subst hd; exact .inl ⟨rfl, rfl, rfl⟩
  · exact .inr (by simpa using hd)

theorem named : Try.pinned.checked.prog.funcNamed Rows.fnExactSeenValuesRow.func = some 3 := by kernel_rfl
set_option maxHeartbeats 10000000 in
theorem closed : joinedFacts Try.pinned.checked.prog 3 Try.f3 Rows.fnExactSeenValuesSpec Rows.fnExactSeenValuesRow = true := by
  simp only [joinedFacts, Bool.and_eq_true]
  repeat' refine And.intro ?_ ?_
  all_goals (as_aux_lemma => kernel_rfl)
theorem over : Rows.fnExactSeenValuesRow.holds Try.pinned (OpenSpec.ofChange Rows.fnExactSeenValuesSpec) :=
  OpenClaim.holds_of_wide 3 Try.f3 rfl rfl rfl rfl rfl rfl rfl ⟨rfl, rfl, rfl, rfl, rfl⟩ rfl rfl rfl rfl rfl named Try.func3 closed
    (of_decide_eq_true (by kernel_rfl)) (by unfold Func.isWrapper; first | (rw [if_pos (by decide +kernel)]; kernel_rfl) | (rw [if_neg (by decide +kernel)]; exact ⟨rfl, rfl⟩))
    (fun os started H enc _ => lifted os started H enc)

theorem proved : Rows.FnExactSeenValuesSaid := over
end Go.Proofs.Ytmjhcoelkbcmkab.fnExactSeenValues
