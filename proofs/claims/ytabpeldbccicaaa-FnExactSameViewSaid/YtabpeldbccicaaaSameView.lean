/-
  FnExactSameView: the plain law and the row: for all arguments.
-/
import Derived.Test.YtabpeldbccicaaaSameViewG0
import Derived.Test.YtabpeldbccicaaaFc
import Derived.Test.YtabpeldbccicaaaRows
import Derived.WalkKit
import Derived.KernelRfl
/-
  Plain laws of the helpers. Written by a program.
-/
set_option maxRecDepth 100000
set_option linter.unusedVariables false
namespace Go.Proofs.Ytabpeldbccicaaa
open Go Go.Fw
theorem sz_IntS : Sz l_szIntS (fun a : List Int => a.length) (wfSl wfInt) := sz_flat (fun _ _ => rfl)
def tot_Method (a : Method) : Nat := a.Inputs.length
theorem sz_Method : Sz l_szMethod tot_Method wf95 := by
  intro a ⟨w_Rel, w_Inputs, w_Limit, w_Cost, w_Quota⟩ left hl hm
  unfold l_szMethod
  have ht : tot_Method a = a.Inputs.length := rfl
  obtain ⟨n1, e1, h1⟩ := sz_IntS a.Inputs w_Inputs _ hl hm
  rw [e1, Option.bind_some]
  try dsimp only at h1
  rcases h1 with ⟨rfl, p1⟩ | p1
  rotate_left
  · rw [if_pos (by simpa using p1)]; exact ⟨-1, rfl, .inr (by omega)⟩
  rw [if_neg (by simp only [decide_eq_true_eq]; omega)]
  exact ⟨_, rfl, .inl ⟨by rw [ht] <;> omega, p1⟩⟩
theorem sz_MethodS : Sz l_szMethodS (totL tot_Method) (wfSl wf95) := sz_slice sz_Method (fun _ _ => rfl) (fun _ _ _ _ => rfl) (fun _ _ => rfl)
def tot_Access (a : Access) : Nat := a.Values.length
theorem sz_Access : Sz l_szAccess tot_Access wf98 := by
  intro a ⟨w_Method, w_Values⟩ left hl hm
  unfold l_szAccess
  have ht : tot_Access a = a.Values.length := rfl
  obtain ⟨n1, e1, h1⟩ := sz_IntS a.Values w_Values _ hl hm
  rw [e1, Option.bind_some]
  try dsimp only at h1
  rcases h1 with ⟨rfl, p1⟩ | p1
  rotate_left
  · rw [if_pos (by simpa using p1)]; exact ⟨-1, rfl, .inr (by omega)⟩
  rw [if_neg (by simp only [decide_eq_true_eq]; omega)]
  exact ⟨_, rfl, .inl ⟨by rw [ht] <;> omega, p1⟩⟩
theorem sz_AccessS : Sz l_szAccessS (totL tot_Access) (wfSl wf98) := sz_slice sz_Access (fun _ _ => rfl) (fun _ _ _ _ => rfl) (fun _ _ => rfl)
theorem to_IntS : ∀ (a : List Int), (bdL bdAny) a → l_toIntS a = some a :=
  to_slice (fun _ => rfl) (fun _ _ => rfl) (fun x r k c hx hk => by
    rw [l_toIntS_L1]
    simp [chk, hk])
def bd_Method (a : Method) : Prop := (bdL bdAny) a.Inputs
theorem to_Method (a : Method) (h : bd_Method a) : l_toMethod a = some a := by
  have b_a_Inputs : (bdL bdAny) a.Inputs := h
  simp (disch := assumption) only [l_toMethod, to_IntS, Option.bind_some]
theorem to_MethodS : ∀ (a : List Method), (bdL bd_Method) a → l_toMethodS a = some a :=
  to_slice (fun _ => rfl) (fun _ _ => rfl) (fun x r k c hx hk => by
    rw [l_toMethodS_L1]
    rw [to_Method _ hx]
    simp [chk, hk])
def bd_Access (a : Access) : Prop := (bdL bdAny) a.Values
theorem to_Access (a : Access) (h : bd_Access a) : l_toAccess a = some a := by
  have b_a_Values : (bdL bdAny) a.Values := h
  simp (disch := assumption) only [l_toAccess, to_IntS, Option.bind_some]
theorem to_AccessS : ∀ (a : List Access), (bdL bd_Access) a → l_toAccessS a = some a :=
  to_slice (fun _ => rfl) (fun _ _ => rfl) (fun x r k c hx hk => by
    rw [l_toAccessS_L1]
    rw [to_Access _ hx]
    simp [chk, hk])
theorem eq_IntS : ∀ (a : List Int), l_eqIntS a a = some true :=
  eq_slice (fun _ _ => rfl) (fun _ _ => rfl) (fun b x r k h => by
    rw [l_eqIntS_L1, ix_nat, h]
    simp)
theorem eq_Method (a : Method) : l_eqMethod a a = some true := by simp [l_eqMethod, eq_IntS]
theorem eq_MethodS : ∀ (a : List Method), l_eqMethodS a a = some true :=
  eq_slice (fun _ _ => rfl) (fun _ _ => rfl) (fun b x r k h => by
    rw [l_eqMethodS_L1, ix_nat, h]
    simp [eq_Method])
theorem eq_Access (a : Access) : l_eqAccess a a = some true := by simp [l_eqAccess, eq_IntS]
theorem eq_AccessS : ∀ (a : List Access), l_eqAccessS a a = some true :=
  eq_slice (fun _ _ => rfl) (fun _ _ => rfl) (fun b x r k h => by
    rw [l_eqAccessS_L1, ix_nat, h]
    simp [eq_Access])
end Go.Proofs.Ytabpeldbccicaaa

/-
  Plain laws.
-/
set_option maxRecDepth 100000
set_option linter.unusedVariables false
namespace Go.Proofs.Ytabpeldbccicaaa
open Go Go.Fw

theorem s_l2Ints_eq (a b : List Int) : s_l2Ints a b = some (eqF (fun x y => x == y) a b) :=
  eqf_fun (L := s_l2Ints_L1) (f := fun x y => some (x == y)) (fun _ _ => rfl) (fun _ _ => rfl) (fun b x r k y h => by rw [s_l2Ints_L1, ix_nat, h]; rfl) a b (fun _ _ _ _ => rfl)
theorem g_slices_Equal_int_int_eq (a b : List Int) : g_slices_Equal_int_int a b = some (eqF (fun x y => x == y) a b) :=
  eqf_fun (L := g_slices_Equal_int_int_L1) (f := fun x y => some (x == y)) (fun _ _ => rfl) (fun _ _ => rfl) (fun b x r k y h => by rw [g_slices_Equal_int_int_L1, ix_nat, h]; rfl) a b (fun _ _ _ _ => rfl)
def pIntsEq : List Int → List Int → Bool := eqF (fun x y => x == y)
def pSameAccess (a b : Access) : Bool := a.Method == b.Method && pIntsEq a.Values b.Values
theorem s_l5Same_eq (a b : Access) : s_l5Same a b = some (pSameAccess a b) := by
  simp only [s_l5Same, s_l2Ints_eq, pSameAccess, pIntsEq, Option.bind_some]
  generalize (a.Method == b.Method) = b1
  cases b1 <;> rfl
theorem i_sameAccess_eq (a b : Access) : i_sameAccess a b = some (pSameAccess a b) := by
  simp only [i_sameAccess, g_slices_Equal_int_int_eq, pSameAccess, pIntsEq, Option.bind_some]
  generalize (a.Method == b.Method) = b1
  cases b1 <;> rfl
theorem s_SameAccesses_eq (a b : List Access) : s_SameAccesses a b = some (eqF pSameAccess a b) :=
  eqf_fun (L := s_SameAccesses_L1) (f := s_l5Same) (fun _ _ => rfl) (fun _ _ => rfl) (fun b x r k y h => by rw [s_SameAccesses_L1, ix_nat, h]; rfl) a b (fun x _ y _ => s_l5Same_eq x y)
theorem i_SameAccesses_eq (a b : List Access) : i_SameAccesses a b = some (eqF pSameAccess a b) := by
  have : g_slices_EqualFunc_impl_Access_impl_Access_impl_Access_impl_Access_isameAccess a b = some (eqF pSameAccess a b) :=
    eqf_fun (L := g_slices_EqualFunc_impl_Access_impl_Access_impl_Access_impl_Access_isameAccess_L1) (f := i_sameAccess) (fun _ _ => rfl) (fun _ _ => rfl) (fun b x r k y h => by rw [g_slices_EqualFunc_impl_Access_impl_Access_impl_Access_impl_Access_isameAccess_L1, ix_nat, h]; rfl) a b (fun x _ y _ => i_sameAccess_eq x y)
  rw [i_SameAccesses, this]; rfl
theorem g_slices_Clone_int_int_eq (a : List Int) (h : a.length < 4294967296) : g_slices_Clone_int_int a = some a := by simp [g_slices_Clone_int_int, app_nil h]
theorem i_copyAccess_eq (a : Access) (h : bd_Access a) : i_copyAccess a = some a := by simp [i_copyAccess, g_slices_Clone_int_int_eq _ h.1]
theorem i_copyAccesses_eq (l : List Access) (h : bdL bd_Access l) : i_copyAccesses l = some l :=
  copy_all (L := i_copyAccesses_L1) (fun _ _ => rfl) (fun x r k c hx hc => by rw [i_copyAccesses_L1, i_copyAccess_eq x hx, Option.bind_some, app1 hc, Option.bind_some]) l h
theorem s_l8Access_eq (m : Int) (v : List Int) (h : v.length < 4294967296) : s_l8Access m v = some { Method := m, Values := v } := by simp [s_l8Access, app_nil h]
def pVis (l : List Method) (rel : Int) (a : Access) : Bool := decide (0 ≤ a.Method) && decide (a.Method ≤ (l.length : Int) - 1) && ((l[a.Method.toNat]?.map (·.Rel)) == some rel)
theorem pVis_at {l : List Method} {m : Int} (h : (decide (0 ≤ m) && decide (m ≤ (l.length : Int) - 1)) = true) : ∃ x, ix l m = some x ∧ l[m.toNat]? = some x := by
  simp at h
  have hlt : m.toNat < l.length := by omega
  exact ⟨l[m.toNat], by unfold ix; rw [if_pos h.1, List.getElem?_eq_getElem hlt], List.getElem?_eq_getElem hlt⟩
theorem i_ViewOf_1_eq (a : Access) (l : List Method) (rel : Int) (hl : l.length < 4294967296) : i_ViewOf_1 a l rel = some (!pVis l rel a) := by
  simp only [i_ViewOf_1, i_within, Option.bind_some, pVis]
  rw [wrap_in (by omega) (by omega)]
  cases h : (decide (0 ≤ a.Method) && decide (a.Method ≤ (l.length : Int) - 1))
  · simp
  · obtain ⟨x, h1, h2⟩ := pVis_at h
    rw [h1, h2]
    simp [bne]
def pView (l : List Method) (log : List Access) (rel : Int) : List Access := log.filter (pVis l rel)
theorem i_ViewOf_eq (l : List Method) (log : List Access) (rel : Int) (hl : l.length < 4294967296) (hb : bdL bd_Access log) : i_ViewOf l log rel = some (pView l log rel) := by
  rw [i_ViewOf, i_copyAccesses_eq log hb, Option.bind_some, g_slices_DeleteFunc_impl_Access_impl_Access_iViewOf1, delL_of (p := fun a => !pVis l rel a) (fun x _ => i_ViewOf_1_eq x l rel hl)]
  simp [pView]
theorem s_ViewOf_eq (l : List Method) (log : List Access) (rel : Int) (hl : l.length < 4294967296) (hb : bdL bd_Access log) : s_ViewOf l log rel = some (pView l log rel) := by
  have := filter_loop (L := s_ViewOf_L1 l rel) (p := pVis l rel) (P := bd_Access) (fun _ _ => rfl) (fun x r k c hx hc => by
    rw [s_ViewOf_L1]
    simp only [s_l1In, Option.bind_some, s_l8Access_eq _ _ hx.1, app1 hc]
    rw [wrap_in (by omega) (by omega)]
    unfold pVis
    cases h : (decide (0 ≤ x.Method) && decide (x.Method ≤ (l.length : Int) - 1))
    · simp
    · obtain ⟨y, h1, h2⟩ := pVis_at h
      rw [h1, h2]
      by_cases e : y.Rel = rel <;> simp [e]) log 0 [] hb.2 (by simpa using hb.1)
  simpa [s_ViewOf, pView] using this
theorem bd_MethodS (a : List Method) (h : totL tot_Method a < 4294967296) : bdL bd_Method a := bdL_of (f := tot_Method) (fun x hx => bdL_flat _ hx) _ h
theorem bd_AccessS (a : List Access) (h : totL tot_Access a < 4294967296) : bdL bd_Access a := bdL_of (f := tot_Access) (fun x hx => bdL_flat _ hx) _ h

theorem law_fnExactSameView {l : List Method} {a b : List Access} {rel : Int} (wl : wfSl wf95 l) (wa : wfSl wf98 a) (wb : wfSl wf98 b) (wr : wfInt rel) : l_FnExactSameView l a b rel = some true := by
  unfold l_FnExactSameView
  obtain ⟨n1, e1, h1⟩ := sz_MethodS l wl 1048576 (by omega) (by omega)
  rw [e1, Option.bind_some]
  try dsimp only at h1
  rcases h1 with ⟨rfl, p1⟩ | p1
  rotate_left
  · rw [if_pos (by simpa using p1)]
  rw [if_neg (by simp only [decide_eq_true_eq]; omega)]
  obtain ⟨n2, e2, h2⟩ := sz_AccessS a wa _ p1 (by omega)
  rw [e2, Option.bind_some]
  try dsimp only at h2
  rcases h2 with ⟨rfl, p2⟩ | p2
  rotate_left
  · rw [if_pos (by simpa using p2)]
  rw [if_neg (by simp only [decide_eq_true_eq]; omega)]
  obtain ⟨n3, e3, h3⟩ := sz_AccessS b wb _ p2 (by omega)
  rw [e3, Option.bind_some]
  try dsimp only at h3
  rcases h3 with ⟨rfl, p3⟩ | p3
  rotate_left
  · rw [if_pos (by simpa using p3)]
  rw [if_neg (by simp only [decide_eq_true_eq]; omega)]
  have b1 := bd_MethodS l (by omega)
  have b2 := bd_AccessS a (by omega)
  have b3 := bd_AccessS b (by omega)
  have hS : s_SameView l a b rel = some (eqF pSameAccess (pView l a rel) (pView l b rel)) := by
    simp only [s_SameView, s_ViewOf_eq l a rel b1.1 b2, s_ViewOf_eq l b rel b1.1 b3, Option.bind_some, s_SameAccesses_eq]
  have hI : i_SameView l a b rel = some (eqF pSameAccess (pView l a rel) (pView l b rel)) := by
    simp only [i_SameView, i_ViewOf_eq l a rel b1.1 b2, i_ViewOf_eq l b rel b1.1 b3, Option.bind_some, i_SameAccesses_eq]
  simp [to_MethodS l b1, to_AccessS a b2, to_AccessS b b3, hS, hI, eq_AccessS, eq_MethodS]

end Go.Proofs.Ytabpeldbccicaaa

/-
  The row FnExactSameView.
-/
set_option maxRecDepth 100000
namespace Go.Proofs.Ytabpeldbccicaaa.fnExactSameView
open Go Go.Fw Go.ChangeShapes Go.WideShapes Go.ChangeAt Go.RowKit

theorem own : ownKnob Try.prog.godebug = none := by kernel_rfl
theorem laidOut : laidOutB Try.prog = true := by kernel_rfl

set_option maxRecDepth 100000 in
theorem lifted (os : Os) (started : os.Started) (H : Type) (enc : TypeId × Value → H) :
    ReturnsInHanded {} Try.checked os 5 .any (Rows.fnExactSameViewSpec.pre6 enc Try.prog Try.f5 Rows.fnExactSameViewRow.domain false) (Rows.fnExactSameViewSpec.post enc Try.prog Try.f5 false true false false) := by
  refine returnsInHanded_of_change_sized (C := Try.checked) own started (by kernel_rfl) Try.func5
    (ChangeSpec.witness6 (enc := enc) (C := Try.checked) false ⟨#[], #[.slice none 0 0, .slice none 0 0, .slice none 0 0, .int .i64 0], []⟩ 16 (by kernel_rfl) (by kernel_rfl) (by kernel_rfl) (by kernel_rfl)) ?_
  intro W base args ds gs before hval hW _ hwt _
  have hW' := hW
  obtain ⟨p, q, hA0, hV, rfl, hfz, hnd⟩ := hW
  obtain ⟨rfl, rfl⟩ := trodVars_none hV
  have hA : DataW.TrodAll enc Try.prog W 0 (fun _ => true) true [29, 30, 30, 3] args.toList ds p := hA0
  have hw : ∀ n ∈ DataW.weightsEach Try.prog [29, 30, 30, 3] ds, n ≤ reachBytes := fun n hn => by
    have := List.all_eq_true.1 hwt n (by rw [List.append_nil]; exact hn)
    simpa using this
  obtain ⟨v0, vs0, d0, ds0, p0, ρ0, H0, av0, a0, e0, rfl, hA0, hw0, r0, f0, u0, i0, rv0, q0, w0⟩ := opn_arg hA hw (Opn.slice (s := 5) (by kernel_rfl) (by kernel_rfl) (by decide) (Nat.lt_of_lt_of_le (by decide) (Nat.le_of_eq (show 56 = _ from by kernel_rfl))) op95) (fun H v a h => by obtain ⟨_, _, rfl⟩ := RdS.len h; kernel_rfl) (r := .any) (base := base) (fun v h => hval 0 29 v rfl (arg_at h)) (Rel.nil _ W trivial) Frn.nil
  obtain ⟨v1, vs1, d1, ds1, p1, ρ1, H1, av1, a1, e1, rfl, hA1, hw1, r1, f1, u1, i1, rv1, q1, w1⟩ := opn_arg hA0 hw0 (Opn.slice (s := 2) (by kernel_rfl) (by kernel_rfl) (by decide) (Nat.lt_of_lt_of_le (by decide) (Nat.le_of_eq (show 32 = _ from by kernel_rfl))) op98) (fun H v a h => by obtain ⟨_, _, rfl⟩ := RdS.len h; kernel_rfl) (r := .any) (base := base) (fun v h => hval 1 30 v rfl (arg_at (by rw [e0]; exact h))) r0 f0
  obtain ⟨v2, vs2, d2, ds2, p2, ρ2, H2, av2, a2, e2, rfl, hA2, hw2, r2, f2, u2, i2, rv2, q2, w2⟩ := opn_arg hA1 hw1 (Opn.slice (s := 2) (by kernel_rfl) (by kernel_rfl) (by decide) (Nat.lt_of_lt_of_le (by decide) (Nat.le_of_eq (show 32 = _ from by kernel_rfl))) op98) (fun H v a h => by obtain ⟨_, _, rfl⟩ := RdS.len h; kernel_rfl) (r := .any) (base := base) (fun v h => hval 2 30 v rfl (arg_at (by rw [e0, e1]; exact h))) r1 f1
  obtain ⟨v3, vs3, d3, ds3, p3, ρ3, H3, av3, a3, e3, rfl, hA3, hw3, r3, f3, u3, i3, rv3, q3, w3⟩ := opn_arg hA2 hw2 (Opn.int (by kernel_rfl)) (fun H v a h => by subst h; kernel_rfl) (r := .any) (base := base) (fun v h => hval 3 3 v rfl (arg_at (by rw [e0, e1, e2]; exact h))) r2 f2
  obtain ⟨en, rfl⟩ := opn_none hA3
  subst en
  obtain ⟨sa0, sm0, rfl⟩ := RdS.len q0
  obtain ⟨sa1, sm1, rfl⟩ := RdS.len q1
  obtain ⟨sa2, sm2, rfl⟩ := RdS.len q2
  obtain rfl : av3 = (.int .i64 a3) := q3
  have hargs : RelVs ρ3 [(.slice sa0 a0.length sm0), (.slice sa1 a1.length sm1), (.slice sa2 a2.length sm2), (.int .i64 a3)] args.toList := by
    rw [e0, e1, e2, e3]
    exact (.cons _ _ _ _ (rv0.up ((u1.trans u2).trans u3)) (.cons _ _ _ _ (rv1.up (u2.trans u3)) (.cons _ _ _ _ (rv2.up u3) (.cons _ _ _ _ rv3 .nil))))
  have hlaw := law_fnExactSameView w0 w1 w2 w3
  refine ((l_FnExactSameView_ok a0 ⟨sa0, _, sm0⟩ a1 ⟨sa1, _, sm1⟩ a2 ⟨sa2, _, sm2⟩ a3 true hlaw) H3 [] (Ctx.dup (Ctx.dup (Ctx.dup (Ctx.start _) (Mono.up q2 i3) rfl) (Mono.up q1 (i2.trans i3)) rfl) (Mono.up q0 ((i1.trans i2).trans i3)) rfl) ρ3 W args r3 hargs).mono ?_
  rintro e w' ⟨v, r, ρ', H', rfl, h1, h2, h3, x, h5, -⟩
  have h6 : r = .bool true := h5
  subst h6
  refine ⟨_, rfl, ?_⟩
  rw [h1.bool_inv]
  refine law_post hW' rfl laidOut (by kernel_rfl) rfl (by kernel_rfl) (fun d => ?_) (h3.below f3)
  by_cases hd : d = [d0, d1, d2, d3]
  · subst hd; exact .inl ⟨rfl, rfl, rfl⟩
  · exact .inr (by simpa using hd)

theorem over : Rows.fnExactSameViewRow.holds Try.pinned (OpenSpec.ofChange Rows.fnExactSameViewSpec) :=
  OpenClaim.holds_of_wide 5 Try.f5 rfl rfl rfl rfl rfl rfl rfl ⟨rfl, rfl, rfl, rfl, rfl⟩ rfl rfl rfl rfl rfl (by kernel_rfl) Try.func5 (by kernel_rfl)
    (of_decide_eq_true (by kernel_rfl)) (by unfold Func.isWrapper; first | (rw [if_pos (by decide +kernel)]; kernel_rfl) | (rw [if_neg (by decide +kernel)]; exact ⟨rfl, rfl⟩))
    (fun os started H enc _ => lifted os started H enc)

theorem proved : Rows.FnExactSameViewSaid := over
end Go.Proofs.Ytabpeldbccicaaa.fnExactSameView
