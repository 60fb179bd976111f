/-
  FnExactFirstDifference: the functions (written by a program), the plain law, the row; for all arguments.
-/
import Derived.Test.YtlckjkdnipgnhaaFb
import Derived.Test.YtlckjkdnipgnhaaProg
import Derived.KernelRfl
import Derived.Test.YtlckjkdnipgnhaaRows
import Derived.WalkKit
/-
  Functions of the program as Lean functions, and that the calls return what these say. Written by a program (gen2.py).
-/
set_option maxRecDepth 100000
set_option linter.unusedVariables false
namespace Go.Proofs.Ytlckjkdnipgnhaa
open Go Go.Fw

structure Event where
  Kind : Int
  Text : List UInt8
theorem ty25 : TY Try.prog 25 2 24 (.agg [(.int .i64 0), (.string ⟨[].toArray⟩)].toArray) := by unfold TY; kernel_rfl
theorem fd25_1 : FD Try.prog 25 1 1 := by unfold FD; kernel_rfl
theorem ag9 : AG Try.prog 9 false := by unfold AG; kernel_rfl
theorem st9 : Fw.ST Try.prog 9 := by unfold Fw.ST; kernel_rfl
theorem ty28 : TY Try.prog 28 2 24 (.agg [(.int .i64 0), (.string ⟨[].toArray⟩)].toArray) := by unfold TY; kernel_rfl
theorem fd25_0 : FD Try.prog 25 0 0 := by unfold FD; kernel_rfl
theorem ag3 : AG Try.prog 3 false := by unfold AG; kernel_rfl
theorem fd28_0 : FD Try.prog 28 0 0 := by unfold FD; kernel_rfl
theorem ty3 : TY Try.prog 3 1 8 (.int .i64 0) := by unfold TY; kernel_rfl
theorem fd28_1 : FD Try.prog 28 1 1 := by unfold FD; kernel_rfl
theorem ty9 : TY Try.prog 9 1 16 (.string ⟨[].toArray⟩) := by unfold TY; kernel_rfl
theorem ag28 : AG Try.prog 28 true := by unfold AG; kernel_rfl
theorem cf20 : CF Try.prog 20 := fun _ _ => Try.call20 _ _
theorem sl41 : SL Try.prog 41 9 := by unfold SL; kernel_rfl
theorem lo9_0 {a : List UInt8} : ∀ F H e, (roE rdStr) F H e a → e.cells.toList[0]? = some (sv a) := by
  intro F H e h
  obtain ⟨-, h⟩ := h
  subst h
  rfl
theorem cf21 : CF Try.prog 21 := fun _ _ => Try.call21 _ _
theorem cf22 : CF Try.prog 22 := fun _ _ => Try.call22 _ _
theorem cf7 : CF Try.prog 7 := fun _ _ => Try.call7 _ _
theorem cf8 : CF Try.prog 8 := fun _ _ => Try.call8 _ _
theorem sl31 : SL Try.prog 31 25 := by unfold SL; kernel_rfl
def rd25 (_ : AHeap) (v : Value) (a : Event) : Prop := v = .agg [(.int .i64 a.Kind), (sv a.Text)].toArray
instance : Pure rd25 := ⟨fun h => h⟩
instance : Cells rd25 2 := ⟨fun h => by
  subst h
  exact ⟨rfl, rfl⟩⟩
def ul25_0_25 (a : Event) (_ : Unit) : List Value := [(.int .i64 a.Kind), (sv a.Text)]
theorem la25_0_25 {a : Event} : ∀ H e, rd25 H e a → ∃ i : Unit, 0 + 2 ≤ e.cells.size ∧ (e.cells.toList.drop 0).take 2 = ul25_0_25 a i ∧ ∀ c ∈ ([] : List Comp), c.P H ∧ c.F = [] := by
  intro H e h
  subst h
  refine ⟨(), Nat.le_of_ble_eq_true rfl, rfl, fun c hc => by simp at hc⟩
theorem ag25 : AG Try.prog 25 true := by unfold AG; kernel_rfl
theorem cf9 : CF Try.prog 9 := fun _ _ => Try.call9 _ _
theorem sl34 : SL Try.prog 34 28 := by unfold SL; kernel_rfl
def rd28 (_ : AHeap) (v : Value) (a : Event) : Prop := v = .agg [(.int .i64 a.Kind), (sv a.Text)].toArray
instance : Pure rd28 := ⟨fun h => h⟩
instance : Cells rd28 2 := ⟨fun h => by
  subst h
  exact ⟨rfl, rfl⟩⟩
theorem cf11 : CF Try.prog 11 := fun _ _ => Try.call11 _ _
def ul28_0_28 (a : Event) (_ : Unit) : List Value := [(.int .i64 a.Kind), (sv a.Text)]
theorem la28_0_28 {a : Event} : ∀ H e, rd28 H e a → ∃ i : Unit, 0 + 2 ≤ e.cells.size ∧ (e.cells.toList.drop 0).take 2 = ul28_0_28 a i ∧ ∀ c ∈ ([] : List Comp), c.P H ∧ c.F = [] := by
  intro H e h
  subst h
  refine ⟨(), Nat.le_of_ble_eq_true rfl, rfl, fun c hc => by simp at hc⟩
theorem cf10 : CF Try.prog 10 := fun _ _ => Try.call10 _ _
theorem mixed : Try.prog.follows .mixedOrders = true := by kernel_rfl
theorem eqg28 : Try.prog.eqGuardType Try.prog.depth 28 = false := by kernel_rfl
theorem eqs28 (a0 : Int) (a1 : List UInt8) (b0 : Int) (b1 : List UInt8) (w : World) : (Op.equalIn 10000 28 (.agg [(.int .i64 a0), (sv a1)].toArray) (.agg [(.int .i64 b0), (sv b1)].toArray)).run Try.prog w = .ok ((a0 == b0) && (a1 == b1)) w := by
  have hS : Try.prog.underlying 28 = some (.struct (Try.prog.fieldsOf 28)) := by kernel_rfl
  have hp : Try.prog.stoodInHeld 28 = false := by kernel_rfl
  rw [show (10000 : Nat) = 9999 + 1 from rfl, run_equalIn_agg w 9999 28 _ _ hS hp]
  simp only [Program.fieldsOf, Try.underlying28]
  go_simp
  have es9 : ∀ a b w, (Op.equalIn 9999 9 (sv a) (sv b)).run Try.prog w = .ok (a == b) w := fun a b w => run_eq_sv w 9998 9 a b Try.underlying9
  by_cases h0 : a0 = b0 <;> by_cases h1 : a1 = b1 <;> simp [h0, h1, es9]
theorem cf13 : CF Try.prog 13 := fun _ _ => Try.call13 _ _
theorem cf15 : CF Try.prog 15 := fun _ _ => Try.call15 _ _
theorem cf14 : CF Try.prog 14 := fun _ _ => Try.call14 _ _
theorem cf16 : CF Try.prog 16 := fun _ _ => Try.call16 _ _
theorem cf23 : CF Try.prog 23 := fun _ _ => Try.call23 _ _
theorem cf17 : CF Try.prog 17 := fun _ _ => Try.call17 _ _
theorem fa25_0 : fieldAt Try.prog 25 0 = some (3, 0, 1) := by kernel_rfl
theorem fa25_1 : fieldAt Try.prog 25 1 = some (9, 1, 1) := by kernel_rfl
def wf25 (a : Event) : Prop := wfInt a.Kind ∧ wfStr a.Text
theorem sh25 : ∀ H v a, rd25 H v a → isAgV v = aggT Try.prog 25 := by
  intro H v a h
  subst h
  kernel_rfl
theorem op25 : Opn Try.prog 25 rd25 wf25 := by
  intro T enc w fuel cs x h hw ρ H hr hF
  have hl := opn_len fa25_0 h (n := 2) ty25.sz.cells
  obtain ⟨ρ0, H0, av0, a0, r0, f0, u0, i0, v0, q0, w0⟩ := opn_field fa25_0 h hw (Opn.int (by kernel_rfl)) hr hF
  obtain ⟨ρ1, H1, av1, a1, r1, f1, u1, i1, v1, q1, w1⟩ := opn_field fa25_1 h hw (Opn.str (by kernel_rfl)) r0 f0
  obtain rfl : av0 = (.int .i64 a0) := q0
  replace v0 := v0.up u1
  obtain rfl : av1 = (sv a1) := q1
  have hv := RelVs.field (o := 0) v0 (RelVs.field (o := 1) v1 (RelVs.end hl))
  rw [List.drop_zero] at hv
  refine ⟨ρ1, H1, (.agg [(.int .i64 a0), (sv a1)].toArray : Value), ({ Kind := a0, Text := a1 } : Event), r1, f1, (u0.trans u1), (i0.trans i1), ?_, ?_, w0, w1⟩
  · exact hv
  · exact rfl

/-! laws.szEvent -/
def l_szEvent (a_a : Event) (a_left : Int) : Option (Int) :=
  if (decide (((IntKind.i64.wrap (a_left - (a_a.Text.length : Int))) : Int) < 0)) then (
    some (-1))
  else (
    some (IntKind.i64.wrap (a_left - (a_a.Text.length : Int))))
theorem l_szEvent_ok (a_a : Event) (a_left : Int) (R : Int) (hF : l_szEvent a_a a_left = some R) :
    Fw.Spec Try.prog 9 [(.agg [(.int .i64 a_a.Kind), (sv a_a.Text)].toArray), (.int .i64 a_left)] [] (fun _ : Unit => (.int .i64 R)) (fun _ => []) := by
  refine Spec_enter (n := 13) Try.func9 rfl rfl (rs := [.tmp 4]) rfl rfl rfl ?_
  intro H0 F0
  unfold l_szEvent at hF
  refine K_region ?_
  refine C_newR rfl (N_box (g := false) (v := (.agg [(.int .i64 a_a.Kind), (sv a_a.Text)].toArray)) ty25.sz (EV.tmp rfl rfl) rfl) (fun k1 => ?_)
  refine C_val (V_assign (v := (.int .i64 0)) (EV.int _ _)) ?_
  refine C_nil ?_
  refine K_region ?_
  refine C_val (V_move (v := (.int .i64 a_left)) (EV.tmp rfl rfl)) ?_
  refine C_val (V_fieldAddr (off := 1) fd25_1 (EV.tmp rfl rfl)) ?_
  refine C_at .h (fun hp => V_load (e := (.agg [(.int .i64 a_a.Kind), (sv a_a.Text)].toArray)) (v := (sv a_a.Text)) ag9 (EV.tmp rfl rfl) hp.2 rfl rfl) ?_
  refine C_val (V_lenStr (s := a_a.Text) st9 (EV.tmp rfl rfl)) ?_
  refine C_val (V_sub (i := a_left) (j := (a_a.Text.length : Int)) (EV.tmp rfl rfl) (EV.tmp rfl rfl)) ?_
  refine C_val (V_assign (v := (.int .i64 (IntKind.i64.wrap (a_left - (a_a.Text.length : Int))))) (EV.tmp rfl rfl)) ?_
  refine C_nil ?_
  refine K_in ?_
  refine K_region ?_
  refine C_val (V_move (v := (.int .i64 (IntKind.i64.wrap (a_left - (a_a.Text.length : Int))))) (EV.tmp rfl rfl)) ?_
  refine C_val (V_lss (i := (IntKind.i64.wrap (a_left - (a_a.Text.length : Int)))) (j := 0) (EV.tmp rfl rfl) (EV.int _ _)) ?_
  refine C_nil ?_
  refine CW_cond (b := (decide (((IntKind.i64.wrap (a_left - (a_a.Text.length : Int))) : Int) < 0))) (EV.tmp rfl rfl) (fun hb2 => ?_) (fun hb2 => ?_)
  · rw [if_pos hb2] at hF
    refine K_region ?_
    refine C_val (V_assign (v := (.int .i64 (-1))) (EV.int _ _)) ?_
    refine C_nil ?_
    refine CW_ret ?_
    obtain rfl := Option.some.inj hF
    exact End_ret () (.tmp rfl rfl .nil) rfl (.sel .nil)
  · rw [if_neg (by rw [hb2]; exact Bool.false_ne_true)] at hF
    refine CW_skip ?_
    refine K_region ?_
    refine C_val (V_move (v := (.int .i64 (IntKind.i64.wrap (a_left - (a_a.Text.length : Int))))) (EV.tmp rfl rfl)) ?_
    refine C_val (V_assign (v := (.int .i64 (IntKind.i64.wrap (a_left - (a_a.Text.length : Int))))) (EV.tmp rfl rfl)) ?_
    refine C_nil ?_
    refine CW_ret ?_
    obtain rfl := Option.some.inj hF
    exact End_ret () (.tmp rfl rfl .nil) rfl (.sel .nil)

/-! laws.toEvent -/
def l_toEvent (a_a : Event) : Option (Event) :=
  some ({ Kind := a_a.Kind, Text := a_a.Text } : Event)
theorem l_toEvent_ok (a_a : Event) (R : Event) (hF : l_toEvent a_a = some R) :
    Fw.Spec Try.prog 11 [(.agg [(.int .i64 a_a.Kind), (sv a_a.Text)].toArray)] [] (fun _ : Unit => (.agg [(.int .i64 R.Kind), (sv R.Text)].toArray)) (fun _ => []) := by
  refine Spec_enter (n := 11) Try.func11 rfl rfl (rs := [.cell 2 28]) rfl rfl rfl ?_
  intro H0 F0
  unfold l_toEvent at hF
  refine K_region ?_
  refine C_newR rfl (N_box (g := false) (v := (.agg [(.int .i64 a_a.Kind), (sv a_a.Text)].toArray)) ty25.sz (EV.tmp rfl rfl) rfl) (fun k1 => ?_)
  refine C_new rfl (N_allocT (g := true) ty28 rfl rfl) (fun k2 => ?_)
  refine C_nil ?_
  refine K_region ?_
  refine C_new rfl (N_allocT (g := true) ty28 rfl rfl) (fun k3 => ?_)
  refine C_nil ?_
  refine K_region ?_
  refine C_val (V_fieldAddr (off := 0) fd25_0 (EV.tmp rfl rfl)) ?_
  refine C_at (.t (.t .h)) (fun hp => V_load (e := (.agg [(.int .i64 a_a.Kind), (sv a_a.Text)].toArray)) (v := (.int .i64 a_a.Kind)) ag3 (EV.tmp rfl rfl) hp.2 rfl rfl) ?_
  refine C_val (V_fieldAddr (off := 0) fd28_0 (EV.tmp rfl rfl)) ?_
  refine C_x1 (.cons .h .nil) (X_storeB (e := (.agg [(.int .i64 0), (sv [])].toArray)) (e' := (.agg [(.int .i64 a_a.Kind), (sv [])].toArray)) (v := (.int .i64 a_a.Kind)) ty3.sz (EV.tmp rfl rfl) (EV.tmp rfl rfl) rfl rfl rfl rfl rfl) (fun _ => ?_)
  refine C_nil ?_
  refine K_region ?_
  refine C_val (V_fieldAddr (off := 1) fd25_1 (EV.tmp rfl rfl)) ?_
  refine C_at (.t (.t .h)) (fun hp => V_load (e := (.agg [(.int .i64 a_a.Kind), (sv a_a.Text)].toArray)) (v := (sv a_a.Text)) ag9 (EV.tmp rfl rfl) hp.2 rfl rfl) ?_
  refine C_val (V_fieldAddr (off := 1) fd28_1 (EV.tmp rfl rfl)) ?_
  refine C_x1 (.cons .h .nil) (X_storeB (e := (.agg [(.int .i64 a_a.Kind), (sv [])].toArray)) (e' := (.agg [(.int .i64 a_a.Kind), (sv a_a.Text)].toArray)) (v := (sv a_a.Text)) ty9.sz (EV.tmp rfl rfl) (EV.tmp rfl rfl) rfl rfl rfl rfl rfl) (fun _ => ?_)
  refine C_nil ?_
  refine K_region ?_
  refine C_at .h (fun hp => V_loadA (s := 2) (e := (.agg [(.int .i64 a_a.Kind), (sv a_a.Text)].toArray)) (l := [(.int .i64 a_a.Kind), (sv a_a.Text)]) ag28 ty28.sz (EV.tmp rfl rfl) hp.2 rfl (by decide) (Nat.le_of_ble_eq_true rfl) rfl) ?_
  refine C_x1 (.cons (.t .h) .nil) (X_storeB (e := (.agg [(.int .i64 0), (sv [])].toArray)) (e' := (.agg [(.int .i64 a_a.Kind), (sv a_a.Text)].toArray)) (v := (.agg [(.int .i64 a_a.Kind), (sv a_a.Text)].toArray)) ty28.sz (EV.tmp rfl rfl) (EV.tmp rfl rfl) rfl rfl rfl rfl rfl) (fun _ => ?_)
  refine C_nil ?_
  refine CW_ret ?_
  obtain rfl := Option.some.inj hF
  exact End_ret () (.cellA rfl rfl .h rfl ag28 ty28.sz rfl rfl .nil) rfl (.sel .nil)

/-! spec.l1In -/
def s_l1In (a_x : Int) (a_low : Int) (a_high : Int) : Option (Bool) :=
  some ((decide ((a_low : Int) ≤ a_x)) && (decide ((a_x : Int) ≤ a_high)))
theorem s_l1In_ok (a_x : Int) (a_low : Int) (a_high : Int) (R : Bool) (hF : s_l1In a_x a_low a_high = some R) :
    Fw.Spec Try.prog 20 [(.int .i64 a_x), (.int .i64 a_low), (.int .i64 a_high)] [] (fun _ : Unit => (.bool R)) (fun _ => []) := by
  refine Spec_enter (n := 15) Try.func20 rfl rfl (rs := [.tmp 6]) rfl rfl rfl ?_
  intro H0 F0
  unfold s_l1In at hF
  refine K_region ?_
  refine C_val (V_assign (v := (.bool false)) (EV.bool _)) ?_
  refine C_nil ?_
  refine K_region ?_
  refine C_cut (fun f' cs' => ∃ (g : Fr), f' = updL g [(6, (.bool ((decide ((a_low : Int) ≤ a_x)) && (decide ((a_x : Int) ≤ a_high)))))] ∧ Ent cs' []) ?_ ?_
  · refine C_val (V_move (v := (.int .i64 a_x)) (EV.tmp rfl rfl)) ?_
    refine C_val (V_move (v := (.int .i64 a_low)) (EV.tmp rfl rfl)) ?_
    refine C_val (V_geq (i := a_x) (j := a_low) (EV.tmp rfl rfl) (EV.tmp rfl rfl)) ?_
    refine C_val (V_move (v := (.bool (decide ((a_low : Int) ≤ a_x)))) (EV.tmp rfl rfl)) ?_
    rcases Bool.eq_false_or_eq_true (decide ((a_low : Int) ≤ a_x)) with hg1 | hg1
    · rw [hg1]
      try rw [hg1] at hF
      refine C_on (t := 10) rfl rfl rfl ?_
      refine C_val (V_move (v := (.int .i64 a_x)) (EV.tmp rfl rfl)) ?_
      refine C_on (t := 10) rfl rfl rfl ?_
      refine C_val (V_move (v := (.int .i64 a_high)) (EV.tmp rfl rfl)) ?_
      refine C_on (t := 10) rfl rfl rfl ?_
      refine C_val (V_leq (i := a_x) (j := a_high) (EV.tmp rfl rfl) (EV.tmp rfl rfl)) ?_
      refine C_val (V_pick (b := true) (u := (.bool (decide ((a_x : Int) ≤ a_high)))) (v := (.bool false)) (EV.tmp rfl rfl) (EV.tmp rfl rfl) (EV.bool _)) ?_
      refine C_val (V_assign (v := (.bool (decide ((a_x : Int) ≤ a_high)))) (EV.tmp rfl rfl)) ?_
      refine C_nil ?_
      exact ⟨_, (EqL.cons rfl (EqL.nil)).eq, (.sel .nil)⟩
    · rw [hg1]
      try rw [hg1] at hF
      refine C_off (t := 10) rfl rfl rfl ?_
      refine C_off (t := 10) rfl rfl rfl ?_
      refine C_off (t := 10) rfl rfl rfl ?_
      refine C_val (V_pick (b := false) (u := undef) (v := (.bool false)) (EV.tmp rfl rfl) (EV.tmp rfl rfl) (EV.bool _)) ?_
      refine C_val (V_assign (v := (.bool false)) (EV.tmp rfl rfl)) ?_
      refine C_nil ?_
      exact ⟨_, (EqL.cons rfl (EqL.nil)).eq, (.sel .nil)⟩
  · rintro _ _ ⟨g2, rfl, hE⟩
    refine K_ent hE ?_
    refine CW_ret ?_
    obtain rfl := Option.some.inj hF
    exact End_ret () (.tmp rfl rfl .nil) rfl (.sel .nil)

/-! impl.within -/
def i_within (a_n : Int) (a_low : Int) (a_high : Int) : Option (Bool) :=
  some ((decide ((a_low : Int) ≤ a_n)) && (decide ((a_n : Int) ≤ a_high)))
theorem i_within_ok (a_n : Int) (a_low : Int) (a_high : Int) (R : Bool) (hF : i_within a_n a_low a_high = some R) :
    Fw.Spec Try.prog 21 [(.int .i64 a_n), (.int .i64 a_low), (.int .i64 a_high)] [] (fun _ : Unit => (.bool R)) (fun _ => []) := by
  refine Spec_enter (n := 15) Try.func21 rfl rfl (rs := [.tmp 6]) rfl rfl rfl ?_
  intro H0 F0
  unfold i_within at hF
  refine K_region ?_
  refine C_val (V_assign (v := (.bool false)) (EV.bool _)) ?_
  refine C_nil ?_
  refine K_region ?_
  refine C_cut (fun f' cs' => ∃ (g : Fr), f' = updL g [(6, (.bool ((decide ((a_low : Int) ≤ a_n)) && (decide ((a_n : Int) ≤ a_high)))))] ∧ Ent cs' []) ?_ ?_
  · refine C_val (V_move (v := (.int .i64 a_n)) (EV.tmp rfl rfl)) ?_
    refine C_val (V_move (v := (.int .i64 a_low)) (EV.tmp rfl rfl)) ?_
    refine C_val (V_geq (i := a_n) (j := a_low) (EV.tmp rfl rfl) (EV.tmp rfl rfl)) ?_
    refine C_val (V_move (v := (.bool (decide ((a_low : Int) ≤ a_n)))) (EV.tmp rfl rfl)) ?_
    rcases Bool.eq_false_or_eq_true (decide ((a_low : Int) ≤ a_n)) with hg1 | hg1
    · rw [hg1]
      try rw [hg1] at hF
      refine C_on (t := 10) rfl rfl rfl ?_
      refine C_val (V_move (v := (.int .i64 a_n)) (EV.tmp rfl rfl)) ?_
      refine C_on (t := 10) rfl rfl rfl ?_
      refine C_val (V_move (v := (.int .i64 a_high)) (EV.tmp rfl rfl)) ?_
      refine C_on (t := 10) rfl rfl rfl ?_
      refine C_val (V_leq (i := a_n) (j := a_high) (EV.tmp rfl rfl) (EV.tmp rfl rfl)) ?_
      refine C_val (V_pick (b := true) (u := (.bool (decide ((a_n : Int) ≤ a_high)))) (v := (.bool false)) (EV.tmp rfl rfl) (EV.tmp rfl rfl) (EV.bool _)) ?_
      refine C_val (V_assign (v := (.bool (decide ((a_n : Int) ≤ a_high)))) (EV.tmp rfl rfl)) ?_
      refine C_nil ?_
      exact ⟨_, (EqL.cons rfl (EqL.nil)).eq, (.sel .nil)⟩
    · rw [hg1]
      try rw [hg1] at hF
      refine C_off (t := 10) rfl rfl rfl ?_
      refine C_off (t := 10) rfl rfl rfl ?_
      refine C_off (t := 10) rfl rfl rfl ?_
      refine C_val (V_pick (b := false) (u := undef) (v := (.bool false)) (EV.tmp rfl rfl) (EV.tmp rfl rfl) (EV.bool _)) ?_
      refine C_val (V_assign (v := (.bool false)) (EV.tmp rfl rfl)) ?_
      refine C_nil ?_
      exact ⟨_, (EqL.cons rfl (EqL.nil)).eq, (.sel .nil)⟩
  · rintro _ _ ⟨g2, rfl, hE⟩
    refine K_ent hE ?_
    refine CW_ret ?_
    obtain rfl := Option.some.inj hF
    exact End_ret () (.tmp rfl rfl .nil) rfl (.sel .nil)

/-! spec.EventWord -/
def s_EventWord (a_kind : Int) : Option ((List UInt8)) :=
  (s_l1In a_kind 1 6).bind fun r1 =>
  if (!r1) then (
    some [])
  else (
    (ix ([[109, 101, 116, 104, 111, 100], [114, 117, 108, 101], [97, 100, 100], [100, 114, 111, 112], [119, 97, 105, 116], [97, 115, 107]] : List (List UInt8)) (IntKind.i64.wrap (a_kind - 1))).bind fun x8 =>
    some x8)
theorem s_EventWord_ok (a_kind : Int) (R : (List UInt8)) (hF : s_EventWord a_kind = some R) :
    Fw.Spec Try.prog 7 [(.int .i64 a_kind)] [] (fun _ : Unit => (sv R)) (fun _ => []) := by
  refine Spec_enter (n := 11) Try.func7 rfl rfl (rs := [.tmp 2]) rfl rfl rfl ?_
  intro H0 F0
  unfold s_EventWord at hF
  refine K_region ?_
  refine C_val (V_assign (v := (sv [])) (EV.sv _)) ?_
  refine C_nil ?_
  refine K_in ?_
  refine K_region ?_
  refine C_val (V_move (v := (.int .i64 a_kind)) (EV.tmp rfl rfl)) ?_
  obtain ⟨r1, hx2, hF⟩ := bind_some hF
  refine C_x0 .nil (X_callS cf20 (.cons (EV.tmp rfl rfl) (.cons (EV.int _ _) (.cons (EV.int _ _) .nil))) (s_l1In_ok a_kind 1 6 _ hx2)) (fun _ => ?_)
  refine C_val (V_not (b := r1) (EV.tmp rfl rfl)) ?_
  refine C_nil ?_
  refine CW_cond (b := (!r1)) (EV.tmp rfl rfl) (fun hb12 => ?_) (fun hb12 => ?_)
  · rw [if_pos hb12] at hF
    refine K_region ?_
    refine C_val (V_assign (v := (sv [])) (EV.sv _)) ?_
    refine C_nil ?_
    refine CW_ret ?_
    obtain rfl := Option.some.inj hF
    exact End_ret () (.tmp rfl rfl .nil) rfl (.sel .nil)
  · rw [if_neg (by rw [hb12]; exact Bool.false_ne_true)] at hF
    refine CW_skip ?_
    refine K_region ?_
    refine C_new rfl (N_buildSliceT (g := true) sl41 ty9 (.cons (EV.sv _) (.cons (EV.sv _) (.cons (EV.sv _) (.cons (EV.sv _) (.cons (EV.sv _) (.cons (EV.sv _) .nil)))))) (vs := [(sv [109, 101, 116, 104, 111, 100]), (sv [114, 117, 108, 101]), (sv [97, 100, 100]), (sv [100, 114, 111, 112]), (sv [119, 97, 105, 116]), (sv [97, 115, 107])]) rfl rfl rfl (by intro v hv; simp at hv; rcases hv with rfl | rfl | rfl | rfl | rfl | rfl <;> rfl)) (fun k4 => ?_)
    refine C_conv (.cons .h .nil) (own_lit (Ro := (roE rdStr)) (E := 9) (F := ([] ++ ([] ++ ([] ++ ([] ++ ([] ++ ([] ++ []))))))) (xs := ([[109, 101, 116, 104, 111, 100], [114, 117, 108, 101], [97, 100, 100], [100, 114, 111, 112], [119, 97, 105, 116], [97, 115, 107]] : List (List UInt8))) (MkL_cons (Mk_pure (fun _ => rfl)) (MkL_cons (Mk_pure (fun _ => rfl)) (MkL_cons (Mk_pure (fun _ => rfl)) (MkL_cons (Mk_pure (fun _ => rfl)) (MkL_cons (Mk_pure (fun _ => rfl)) (MkL_cons (Mk_pure (fun _ => rfl)) MkL_nil apps) apps) apps) apps) apps) apps) rfl rfl) apps ?_
    refine C_val (V_move (v := (.int .i64 a_kind)) (EV.tmp rfl rfl)) ?_
    refine C_val (V_sub (i := a_kind) (j := 1) (EV.tmp rfl rfl) (EV.int _ _)) ?_
    obtain ⟨x8, hx9, hF⟩ := bind_some hF
    have hi7 := ix_chk hx9
    obtain ⟨hp10, hx11⟩ := ix_some hx9
    refine C_idxO sl41 ty9.sz (EV.tmp rfl rfl) (EV.tmp rfl rfl) .h hi7 (fun k5 hk6 => ?_)
    refine C_ldO (w := (sv x8)) ag9 (EV.tmp rfl rfl) .h hk6 hx11 lo9_0 ?_
    refine C_val (V_assign (v := (sv x8)) (EV.tmp rfl rfl)) ?_
    refine C_nil ?_
    refine CW_ret ?_
    obtain rfl := Option.some.inj hF
    exact End_ret () (.tmp rfl rfl .nil) rfl (.sel .nil)

/-! impl.eventWords -/
def i_eventWords : Option ((List (List UInt8))) :=
  some ([[], [109, 101, 116, 104, 111, 100], [114, 117, 108, 101], [97, 100, 100], [100, 114, 111, 112], [119, 97, 105, 116], [97, 115, 107]] : List (List UInt8))
theorem i_eventWords_ok  (R : (List (List UInt8))) (hF : i_eventWords  = some R) :
    Fw.Spec Try.prog 22 [] [] (fun p : Value × List Nat => p.1) (fun p => [cown (OwnS 9 (roE rdStr)) p.2 p.1 R]) := by
  refine Spec_enter (n := 2) Try.func22 rfl rfl (rs := [.tmp 0]) rfl rfl rfl ?_
  intro H0 F0
  unfold i_eventWords at hF
  refine K_region ?_
  refine C_val (V_assign (v := (.slice none 0 0)) EV.nilSlice) ?_
  refine C_nil ?_
  refine K_region ?_
  refine C_new rfl (N_buildSliceT (g := true) sl41 ty9 (.cons (EV.sv _) (.cons (EV.sv _) (.cons (EV.sv _) (.cons (EV.sv _) (.cons (EV.sv _) (.cons (EV.sv _) (.cons (EV.sv _) .nil))))))) (vs := [(sv []), (sv [109, 101, 116, 104, 111, 100]), (sv [114, 117, 108, 101]), (sv [97, 100, 100]), (sv [100, 114, 111, 112]), (sv [119, 97, 105, 116]), (sv [97, 115, 107])]) rfl rfl rfl (by intro v hv; simp at hv; rcases hv with rfl | rfl | rfl | rfl | rfl | rfl | rfl <;> rfl)) (fun k1 => ?_)
  refine C_conv (.cons .h .nil) (own_lit (Ro := (roE rdStr)) (E := 9) (F := ([] ++ ([] ++ ([] ++ ([] ++ ([] ++ ([] ++ ([] ++ [])))))))) (xs := ([[], [109, 101, 116, 104, 111, 100], [114, 117, 108, 101], [97, 100, 100], [100, 114, 111, 112], [119, 97, 105, 116], [97, 115, 107]] : List (List UInt8))) (MkL_cons (Mk_pure (fun _ => rfl)) (MkL_cons (Mk_pure (fun _ => rfl)) (MkL_cons (Mk_pure (fun _ => rfl)) (MkL_cons (Mk_pure (fun _ => rfl)) (MkL_cons (Mk_pure (fun _ => rfl)) (MkL_cons (Mk_pure (fun _ => rfl)) (MkL_cons (Mk_pure (fun _ => rfl)) MkL_nil apps) apps) apps) apps) apps) apps) apps) rfl rfl) apps ?_
  refine C_val (V_assign (v := (.slice (some ⟨k1, 0, none⟩) 7 1)) (EV.tmp rfl rfl)) ?_
  refine C_nil ?_
  refine CW_ret ?_
  obtain rfl := Option.some.inj hF
  exact End_ret ((.slice (some ⟨k1, 0, none⟩) 7 1), (k1 :: ([] ++ ([] ++ ([] ++ ([] ++ ([] ++ ([] ++ ([] ++ []))))))))) (.tmp rfl rfl .nil) rfl (.sel (.cons .h .nil))

/-! impl.EventWord -/
def i_EventWord (a_kind : Int) : Option ((List UInt8)) :=
  (i_within a_kind 1 6).bind fun r1 =>
  if (!r1) then (
    some [])
  else (
    (i_eventWords).bind fun r4 =>
    (ix r4 a_kind).bind fun x10 =>
    some x10)
theorem i_EventWord_ok (a_kind : Int) (R : (List UInt8)) (hF : i_EventWord a_kind = some R) :
    Fw.Spec Try.prog 8 [(.int .i64 a_kind)] [] (fun _ : Unit => (sv R)) (fun _ => []) := by
  refine Spec_enter (n := 10) Try.func8 rfl rfl (rs := [.tmp 2]) rfl rfl rfl ?_
  intro H0 F0
  unfold i_EventWord at hF
  refine K_region ?_
  refine C_val (V_assign (v := (sv [])) (EV.sv _)) ?_
  refine C_nil ?_
  refine K_in ?_
  refine K_region ?_
  refine C_val (V_move (v := (.int .i64 a_kind)) (EV.tmp rfl rfl)) ?_
  obtain ⟨r1, hx2, hF⟩ := bind_some hF
  refine C_x0 .nil (X_callS cf21 (.cons (EV.tmp rfl rfl) (.cons (EV.int _ _) (.cons (EV.int _ _) .nil))) (i_within_ok a_kind 1 6 _ hx2)) (fun _ => ?_)
  refine C_val (V_not (b := r1) (EV.tmp rfl rfl)) ?_
  refine C_nil ?_
  refine CW_cond (b := (!r1)) (EV.tmp rfl rfl) (fun hb14 => ?_) (fun hb14 => ?_)
  · rw [if_pos hb14] at hF
    refine K_region ?_
    refine C_val (V_assign (v := (sv [])) (EV.sv _)) ?_
    refine C_nil ?_
    refine CW_ret ?_
    obtain rfl := Option.some.inj hF
    exact End_ret () (.tmp rfl rfl .nil) rfl (.sel .nil)
  · rw [if_neg (by rw [hb14]; exact Bool.false_ne_true)] at hF
    refine CW_skip ?_
    refine K_region ?_
    obtain ⟨r4, hx5, hF⟩ := bind_some hF
    refine C_x1 .nil (X_callS cf22 .nil (i_eventWords_ok _ hx5)) (fun p6 => ?_)
    refine C_val (V_move (v := (.int .i64 a_kind)) (EV.tmp rfl rfl)) ?_
    obtain ⟨x10, hx11, hF⟩ := bind_some hF
    have hi9 := ix_chk hx11
    obtain ⟨hp12, hx13⟩ := ix_some hx11
    refine C_idxO sl41 ty9.sz (EV.tmp rfl rfl) (EV.tmp rfl rfl) .h hi9 (fun k7 hk8 => ?_)
    refine C_ldO (w := (sv x10)) ag9 (EV.tmp rfl rfl) .h hk8 hx13 lo9_0 ?_
    refine C_val (V_assign (v := (sv x10)) (EV.tmp rfl rfl)) ?_
    refine C_nil ?_
    refine CW_ret ?_
    obtain rfl := Option.some.inj hF
    exact End_ret () (.tmp rfl rfl .nil) rfl (.sel .nil)

/-! spec.FormatEvent -/
def s_FormatEvent (a_e : Event) : Option ((List UInt8)) :=
  (s_EventWord a_e.Kind).bind fun r2 =>
  if ((r2 == []) || (a_e.Text == [])) then (
    some [])
  else (
    (cat r2 [32]).bind fun x7 =>
    (cat x7 a_e.Text).bind fun x11 =>
    some x11)
theorem s_FormatEvent_ok (a_e : Event) (R : (List UInt8)) (hF : s_FormatEvent a_e = some R) :
    Fw.Spec Try.prog 10 [(.agg [(.int .i64 a_e.Kind), (sv a_e.Text)].toArray)] [] (fun _ : Unit => (sv R)) (fun _ => []) := by
  refine Spec_enter (n := 19) Try.func10 rfl rfl (rs := [.tmp 2]) rfl rfl rfl ?_
  intro H0 F0
  unfold s_FormatEvent at hF
  refine K_region ?_
  refine C_newR rfl (N_box (g := false) (v := (.agg [(.int .i64 a_e.Kind), (sv a_e.Text)].toArray)) ty28.sz (EV.tmp rfl rfl) rfl) (fun k1 => ?_)
  refine C_val (V_assign (v := (sv [])) (EV.sv _)) ?_
  refine C_nil ?_
  refine K_region ?_
  refine C_val (V_fieldAddr (off := 0) fd28_0 (EV.tmp rfl rfl)) ?_
  refine C_at .h (fun hp => V_load (e := (.agg [(.int .i64 a_e.Kind), (sv a_e.Text)].toArray)) (v := (.int .i64 a_e.Kind)) ag3 (EV.tmp rfl rfl) hp.2 rfl rfl) ?_
  obtain ⟨r2, hx3, hF⟩ := bind_some hF
  refine C_x0 .nil (X_callS cf7 (.cons (EV.tmp rfl rfl) .nil) (s_EventWord_ok a_e.Kind _ hx3)) (fun _ => ?_)
  refine C_val (V_assign (v := (sv r2)) (EV.tmp rfl rfl)) ?_
  refine C_nil ?_
  refine K_in ?_
  refine K_region ?_
  refine C_cut (fun f' cs' => ∃ (g : Fr), f' = updL g [(1, (.pointer (some ⟨k1, 0, some 0⟩))), (3, (sv r2)), (13, (.bool ((r2 == []) || (a_e.Text == []))))] ∧ Ent cs' [cboR k1 28 (.agg [(.int .i64 a_e.Kind), (sv a_e.Text)].toArray)]) ?_ ?_
  · refine C_val (V_move (v := (sv r2)) (EV.tmp rfl rfl)) ?_
    refine C_val (V_eqT (s := r2) (t := []) (EV.tmp rfl rfl) (EV.sv _)) ?_
    refine C_val (V_move (v := (.bool (r2 == []))) (EV.tmp rfl rfl)) ?_
    rcases Bool.eq_false_or_eq_true (r2 == []) with hg5 | hg5
    · rw [hg5]
      try rw [hg5] at hF
      refine C_off (t := 9) rfl rfl rfl ?_
      refine C_off (t := 9) rfl rfl rfl ?_
      refine C_off (t := 9) rfl rfl rfl ?_
      refine C_val (V_pick (b := true) (u := (.bool true)) (v := undef) (EV.tmp rfl rfl) (EV.bool _) (EV.tmp rfl rfl)) ?_
      refine C_nil ?_
      exact ⟨_, (EqL.cons rfl (EqL.cons rfl (EqL.cons rfl (EqL.nil)))).eq, (.sel (.rd .h rfl .nil))⟩
    · rw [hg5]
      try rw [hg5] at hF
      refine C_on (t := 9) rfl rfl rfl ?_
      refine C_val (V_fieldAddr (off := 1) fd28_1 (EV.tmp rfl rfl)) ?_
      refine C_on (t := 9) rfl rfl rfl ?_
      refine C_at .h (fun hp => V_load (e := (.agg [(.int .i64 a_e.Kind), (sv a_e.Text)].toArray)) (v := (sv a_e.Text)) ag9 (EV.tmp rfl rfl) hp.2 rfl rfl) ?_
      refine C_on (t := 9) rfl rfl rfl ?_
      refine C_val (V_eqT (s := a_e.Text) (t := []) (EV.tmp rfl rfl) (EV.sv _)) ?_
      refine C_val (V_pick (b := false) (u := (.bool true)) (v := (.bool (a_e.Text == []))) (EV.tmp rfl rfl) (EV.bool _) (EV.tmp rfl rfl)) ?_
      refine C_nil ?_
      exact ⟨_, (EqL.cons rfl (EqL.cons rfl (EqL.cons rfl (EqL.nil)))).eq, (.sel (.rd .h rfl .nil))⟩
  · rintro _ _ ⟨g6, rfl, hE⟩
    refine K_ent hE ?_
    refine CW_cond (b := ((r2 == []) || (a_e.Text == []))) (EV.tmp rfl rfl) (fun hb15 => ?_) (fun hb15 => ?_)
    · rw [if_pos hb15] at hF
      refine K_region ?_
      refine C_val (V_assign (v := (sv [])) (EV.sv _)) ?_
      refine C_nil ?_
      refine CW_ret ?_
      obtain rfl := Option.some.inj hF
      exact End_ret () (.tmp rfl rfl .nil) rfl (.sel .nil)
    · rw [if_neg (by rw [hb15]; exact Bool.false_ne_true)] at hF
      refine CW_skip ?_
      refine K_region ?_
      refine C_val (V_move (v := (sv r2)) (EV.tmp rfl rfl)) ?_
      obtain ⟨x7, hx8, hF⟩ := bind_some hF
      obtain ⟨hq10, hz9⟩ := cat_some hx8
      refine C_val (V_concatN (s := r2) (t := [32]) (u := x7) (EV.tmp rfl rfl) (EV.sv _) hx8) ?_
      refine C_val (V_fieldAddr (off := 1) fd28_1 (EV.tmp rfl rfl)) ?_
      refine C_at .h (fun hp => V_load (e := (.agg [(.int .i64 a_e.Kind), (sv a_e.Text)].toArray)) (v := (sv a_e.Text)) ag9 (EV.tmp rfl rfl) hp.2 rfl rfl) ?_
      obtain ⟨x11, hx12, hF⟩ := bind_some hF
      obtain ⟨hq14, hz13⟩ := cat_some hx12
      refine C_val (V_concatN (s := x7) (t := a_e.Text) (u := x11) (EV.tmp rfl rfl) (EV.tmp rfl rfl) hx12) ?_
      refine C_val (V_assign (v := (sv x11)) (EV.tmp rfl rfl)) ?_
      refine C_nil ?_
      refine CW_ret ?_
      obtain rfl := Option.some.inj hF
      exact End_ret () (.tmp rfl rfl .nil) rfl (.sel .nil)

/-! impl.FormatEvent -/
def i_FormatEvent (a_e : Event) : Option ((List UInt8)) :=
  (i_EventWord a_e.Kind).bind fun r2 =>
  if ((r2 == []) || (a_e.Text == [])) then (
    some [])
  else (
    (cat r2 [32]).bind fun x7 =>
    (cat x7 a_e.Text).bind fun x11 =>
    some x11)
theorem i_FormatEvent_ok (a_e : Event) (R : (List UInt8)) (hF : i_FormatEvent a_e = some R) :
    Fw.Spec Try.prog 12 [(.agg [(.int .i64 a_e.Kind), (sv a_e.Text)].toArray)] [] (fun _ : Unit => (sv R)) (fun _ => []) := by
  refine Spec_enter (n := 19) Try.func12 rfl rfl (rs := [.tmp 2]) rfl rfl rfl ?_
  intro H0 F0
  unfold i_FormatEvent at hF
  refine K_region ?_
  refine C_newR rfl (N_box (g := false) (v := (.agg [(.int .i64 a_e.Kind), (sv a_e.Text)].toArray)) ty28.sz (EV.tmp rfl rfl) rfl) (fun k1 => ?_)
  refine C_val (V_assign (v := (sv [])) (EV.sv _)) ?_
  refine C_nil ?_
  refine K_region ?_
  refine C_val (V_fieldAddr (off := 0) fd28_0 (EV.tmp rfl rfl)) ?_
  refine C_at .h (fun hp => V_load (e := (.agg [(.int .i64 a_e.Kind), (sv a_e.Text)].toArray)) (v := (.int .i64 a_e.Kind)) ag3 (EV.tmp rfl rfl) hp.2 rfl rfl) ?_
  obtain ⟨r2, hx3, hF⟩ := bind_some hF
  refine C_x0 .nil (X_callS cf8 (.cons (EV.tmp rfl rfl) .nil) (i_EventWord_ok a_e.Kind _ hx3)) (fun _ => ?_)
  refine C_val (V_assign (v := (sv r2)) (EV.tmp rfl rfl)) ?_
  refine C_nil ?_
  refine K_in ?_
  refine K_region ?_
  refine C_cut (fun f' cs' => ∃ (g : Fr), f' = updL g [(1, (.pointer (some ⟨k1, 0, some 0⟩))), (3, (sv r2)), (13, (.bool ((r2 == []) || (a_e.Text == []))))] ∧ Ent cs' [cboR k1 28 (.agg [(.int .i64 a_e.Kind), (sv a_e.Text)].toArray)]) ?_ ?_
  · refine C_val (V_move (v := (sv r2)) (EV.tmp rfl rfl)) ?_
    refine C_val (V_eqT (s := r2) (t := []) (EV.tmp rfl rfl) (EV.sv _)) ?_
    refine C_val (V_move (v := (.bool (r2 == []))) (EV.tmp rfl rfl)) ?_
    rcases Bool.eq_false_or_eq_true (r2 == []) with hg5 | hg5
    · rw [hg5]
      try rw [hg5] at hF
      refine C_off (t := 9) rfl rfl rfl ?_
      refine C_off (t := 9) rfl rfl rfl ?_
      refine C_off (t := 9) rfl rfl rfl ?_
      refine C_val (V_pick (b := true) (u := (.bool true)) (v := undef) (EV.tmp rfl rfl) (EV.bool _) (EV.tmp rfl rfl)) ?_
      refine C_nil ?_
      exact ⟨_, (EqL.cons rfl (EqL.cons rfl (EqL.cons rfl (EqL.nil)))).eq, (.sel (.rd .h rfl .nil))⟩
    · rw [hg5]
      try rw [hg5] at hF
      refine C_on (t := 9) rfl rfl rfl ?_
      refine C_val (V_fieldAddr (off := 1) fd28_1 (EV.tmp rfl rfl)) ?_
      refine C_on (t := 9) rfl rfl rfl ?_
      refine C_at .h (fun hp => V_load (e := (.agg [(.int .i64 a_e.Kind), (sv a_e.Text)].toArray)) (v := (sv a_e.Text)) ag9 (EV.tmp rfl rfl) hp.2 rfl rfl) ?_
      refine C_on (t := 9) rfl rfl rfl ?_
      refine C_val (V_eqT (s := a_e.Text) (t := []) (EV.tmp rfl rfl) (EV.sv _)) ?_
      refine C_val (V_pick (b := false) (u := (.bool true)) (v := (.bool (a_e.Text == []))) (EV.tmp rfl rfl) (EV.bool _) (EV.tmp rfl rfl)) ?_
      refine C_nil ?_
      exact ⟨_, (EqL.cons rfl (EqL.cons rfl (EqL.cons rfl (EqL.nil)))).eq, (.sel (.rd .h rfl .nil))⟩
  · rintro _ _ ⟨g6, rfl, hE⟩
    refine K_ent hE ?_
    refine CW_cond (b := ((r2 == []) || (a_e.Text == []))) (EV.tmp rfl rfl) (fun hb15 => ?_) (fun hb15 => ?_)
    · rw [if_pos hb15] at hF
      refine K_region ?_
      refine C_val (V_assign (v := (sv [])) (EV.sv _)) ?_
      refine C_nil ?_
      refine CW_ret ?_
      obtain rfl := Option.some.inj hF
      exact End_ret () (.tmp rfl rfl .nil) rfl (.sel .nil)
    · rw [if_neg (by rw [hb15]; exact Bool.false_ne_true)] at hF
      refine CW_skip ?_
      refine K_region ?_
      refine C_val (V_move (v := (sv r2)) (EV.tmp rfl rfl)) ?_
      obtain ⟨x7, hx8, hF⟩ := bind_some hF
      obtain ⟨hq10, hz9⟩ := cat_some hx8
      refine C_val (V_concatN (s := r2) (t := [32]) (u := x7) (EV.tmp rfl rfl) (EV.sv _) hx8) ?_
      refine C_val (V_fieldAddr (off := 1) fd28_1 (EV.tmp rfl rfl)) ?_
      refine C_at .h (fun hp => V_load (e := (.agg [(.int .i64 a_e.Kind), (sv a_e.Text)].toArray)) (v := (sv a_e.Text)) ag9 (EV.tmp rfl rfl) hp.2 rfl rfl) ?_
      obtain ⟨x11, hx12, hF⟩ := bind_some hF
      obtain ⟨hq14, hz13⟩ := cat_some hx12
      refine C_val (V_concatN (s := x7) (t := a_e.Text) (u := x11) (EV.tmp rfl rfl) (EV.tmp rfl rfl) hx12) ?_
      refine C_val (V_assign (v := (sv x11)) (EV.tmp rfl rfl)) ?_
      refine C_nil ?_
      refine CW_ret ?_
      obtain rfl := Option.some.inj hF
      exact End_ret () (.tmp rfl rfl .nil) rfl (.sel .nil)

/-! laws.eqEvent -/
def l_eqEvent (a_a : Event) (a_b : Event) : Option (Bool) :=
  if ((a_a.Kind : Int) != a_b.Kind) then (
    some false)
  else (
    if (!(a_a.Text == a_b.Text)) then (
      some false)
    else (
      some true))
theorem l_eqEvent_ok (a_a : Event) (a_b : Event) (R : Bool) (hF : l_eqEvent a_a a_b = some R) :
    Fw.Spec Try.prog 23 [(.agg [(.int .i64 a_a.Kind), (sv a_a.Text)].toArray), (.agg [(.int .i64 a_b.Kind), (sv a_b.Text)].toArray)] [] (fun _ : Unit => (.bool R)) (fun _ => []) := by
  refine Spec_enter (n := 15) Try.func23 rfl rfl (rs := [.tmp 4]) rfl rfl rfl ?_
  intro H0 F0
  unfold l_eqEvent at hF
  refine K_region ?_
  refine C_newR rfl (N_box (g := false) (v := (.agg [(.int .i64 a_a.Kind), (sv a_a.Text)].toArray)) ty28.sz (EV.tmp rfl rfl) rfl) (fun k1 => ?_)
  refine C_newR rfl (N_box (g := false) (v := (.agg [(.int .i64 a_b.Kind), (sv a_b.Text)].toArray)) ty28.sz (EV.tmp rfl rfl) rfl) (fun k2 => ?_)
  refine C_val (V_assign (v := (.bool false)) (EV.bool _)) ?_
  refine C_nil ?_
  refine K_in ?_
  refine K_region ?_
  refine C_val (V_fieldAddr (off := 0) fd28_0 (EV.tmp rfl rfl)) ?_
  refine C_at (.t .h) (fun hp => V_load (e := (.agg [(.int .i64 a_a.Kind), (sv a_a.Text)].toArray)) (v := (.int .i64 a_a.Kind)) ag3 (EV.tmp rfl rfl) hp.2 rfl rfl) ?_
  refine C_val (V_fieldAddr (off := 0) fd28_0 (EV.tmp rfl rfl)) ?_
  refine C_at .h (fun hp => V_load (e := (.agg [(.int .i64 a_b.Kind), (sv a_b.Text)].toArray)) (v := (.int .i64 a_b.Kind)) ag3 (EV.tmp rfl rfl) hp.2 rfl rfl) ?_
  refine C_val (V_neq (i := a_a.Kind) (j := a_b.Kind) (EV.tmp rfl rfl) (EV.tmp rfl rfl)) ?_
  refine C_nil ?_
  refine CW_cond (b := ((a_a.Kind : Int) != a_b.Kind)) (EV.tmp rfl rfl) (fun hb4 => ?_) (fun hb4 => ?_)
  · rw [if_pos hb4] at hF
    refine K_region ?_
    refine C_val (V_assign (v := (.bool false)) (EV.bool _)) ?_
    refine C_nil ?_
    refine CW_ret ?_
    obtain rfl := Option.some.inj hF
    exact End_ret () (.tmp rfl rfl .nil) rfl (.sel .nil)
  · rw [if_neg (by rw [hb4]; exact Bool.false_ne_true)] at hF
    refine CW_skip ?_
    refine K_in ?_
    refine K_region ?_
    refine C_val (V_fieldAddr (off := 1) fd28_1 (EV.tmp rfl rfl)) ?_
    refine C_at (.t .h) (fun hp => V_load (e := (.agg [(.int .i64 a_a.Kind), (sv a_a.Text)].toArray)) (v := (sv a_a.Text)) ag9 (EV.tmp rfl rfl) hp.2 rfl rfl) ?_
    refine C_val (V_fieldAddr (off := 1) fd28_1 (EV.tmp rfl rfl)) ?_
    refine C_at .h (fun hp => V_load (e := (.agg [(.int .i64 a_b.Kind), (sv a_b.Text)].toArray)) (v := (sv a_b.Text)) ag9 (EV.tmp rfl rfl) hp.2 rfl rfl) ?_
    refine C_val (V_neT (s := a_a.Text) (t := a_b.Text) (EV.tmp rfl rfl) (EV.tmp rfl rfl)) ?_
    refine C_nil ?_
    refine CW_cond (b := (!(a_a.Text == a_b.Text))) (EV.tmp rfl rfl) (fun hb3 => ?_) (fun hb3 => ?_)
    · rw [if_pos hb3] at hF
      refine K_region ?_
      refine C_val (V_assign (v := (.bool false)) (EV.bool _)) ?_
      refine C_nil ?_
      refine CW_ret ?_
      obtain rfl := Option.some.inj hF
      exact End_ret () (.tmp rfl rfl .nil) rfl (.sel .nil)
    · rw [if_neg (by rw [hb3]; exact Bool.false_ne_true)] at hF
      refine CW_skip ?_
      refine K_region ?_
      refine C_val (V_assign (v := (.bool true)) (EV.bool _)) ?_
      refine C_nil ?_
      refine CW_ret ?_
      obtain rfl := Option.some.inj hF
      exact End_ret () (.tmp rfl rfl .nil) rfl (.sel .nil)

/-! laws.szEventS -/
def l_szEventS_L1 : List Event → Nat → Int → Option (Int)
  | [], k5, c1 => some c1
  | x7 :: rest6, k5, c1 => (l_szEvent ({ Kind := x7.Kind, Text := x7.Text } : Event) c1).bind fun r16 =>
    if (decide ((r16 : Int) < 0)) then (
      some (-1))
    else (
      l_szEventS_L1 rest6 (k5 + 1) r16)
def l_szEventS (a_a : List Event) (a_left : Int) : Option (Int) :=
  if (decide (((IntKind.i64.wrap (a_left - (a_a.length : Int))) : Int) < 0)) then (
    some (-1))
  else (
    l_szEventS_L1 a_a 0 (IntKind.i64.wrap (a_left - (a_a.length : Int))))
theorem l_szEventS_ok (a_a : List Event) (v0_0 : Value) (a_left : Int) (R : Int) (hF : l_szEventS a_a a_left = some R) :
    Fw.Spec Try.prog 13 [v0_0, (.int .i64 a_left)] [crd (RdS 25 rd25) v0_0 a_a] (fun _ : Unit => (.int .i64 R)) (fun _ => []) := by
  refine Spec_enter (n := 27) Try.func13 rfl rfl (rs := [.tmp 4]) rfl rfl rfl ?_
  intro H0 F0
  unfold l_szEventS at hF
  refine K_region ?_
  refine C_val (V_assign (v := (.int .i64 0)) (EV.int _ _)) ?_
  refine C_nil ?_
  refine K_region ?_
  refine C_val (V_move (v := (.int .i64 a_left)) (EV.tmp rfl rfl)) ?_
  refine C_val (V_move (v := v0_0) (EV.tmp rfl rfl)) ?_
  refine C_at .h (fun hp => V_lenR (l := a_a.length) sl31 (EV.tmp rfl rfl) (crd_len hp)) ?_
  refine C_val (V_sub (i := a_left) (j := (a_a.length : Int)) (EV.tmp rfl rfl) (EV.tmp rfl rfl)) ?_
  refine C_val (V_assign (v := (.int .i64 (IntKind.i64.wrap (a_left - (a_a.length : Int))))) (EV.tmp rfl rfl)) ?_
  refine C_nil ?_
  refine K_in ?_
  refine K_region ?_
  refine C_val (V_move (v := (.int .i64 (IntKind.i64.wrap (a_left - (a_a.length : Int))))) (EV.tmp rfl rfl)) ?_
  refine C_val (V_lss (i := (IntKind.i64.wrap (a_left - (a_a.length : Int)))) (j := 0) (EV.tmp rfl rfl) (EV.int _ _)) ?_
  refine C_nil ?_
  refine CW_cond (b := (decide (((IntKind.i64.wrap (a_left - (a_a.length : Int))) : Int) < 0))) (EV.tmp rfl rfl) (fun hb21 => ?_) (fun hb21 => ?_)
  · rw [if_pos hb21] at hF
    refine K_region ?_
    refine C_val (V_assign (v := (.int .i64 (-1))) (EV.int _ _)) ?_
    refine C_nil ?_
    refine CW_ret ?_
    obtain rfl := Option.some.inj hF
    exact End_ret () (.tmp rfl rfl .nil) rfl (.sel .nil)
  · rw [if_neg (by rw [hb21]; exact Bool.false_ne_true)] at hF
    refine CW_skip ?_
    refine K_in ?_
    refine K_region ?_
    refine C_val (V_assign (v := (.int .i64 0)) (EV.int _ _)) ?_
    refine C_nil ?_
    refine CW_block ?_
    refine CW_loop (m := a_a.length) (fun m3 f' cs' => ∃ (g : Fr) (k5 : Nat) (rest6 : List Event) (c1 : Int), m3 = rest6.length ∧ f' = updL g [(0, v0_0), (1, (.int .i64 c1)), (5, (.int .i64 (k5 : Int)))] ∧ List.drop k5 a_a = rest6 ∧ Ent cs' [crd (RdS 25 rd25) v0_0 a_a] ∧ l_szEventS_L1 rest6 k5 c1 = some R) ⟨_, 0, _, _, rfl, (EqL.cons rfl (EqL.cons rfl (EqL.cons rfl (EqL.nil)))).eq, rfl, (.sel (.rd .h rfl .nil)), hF⟩ ?_
    clear hF
    rintro m3 _ _ ⟨g4, k5, rest6, c1, rfl, rfl, hd8, hE, hF⟩
    refine K_ent hE ?_
    clear hE
    refine K_pure (c := crd (RdS 25 rd25) v0_0 a_a) .h crd_bound (fun hbd13 => ?_)
    rcases rest6 with _ | ⟨x7, rest6⟩
    · have hk9 := List.drop_eq_nil_iff.1 hd8
      have hfe12 : (decide (((k5 : Int) : Int) < (a_a.length : Int))) = false := decide_eq_false (by omega)
      rw [l_szEventS_L1] at hF
      refine K_in ?_
      refine K_region ?_
      refine C_val (V_move (v := (.int .i64 (k5 : Int))) (EV.tmp rfl rfl)) ?_
      refine C_val (V_move (v := v0_0) (EV.tmp rfl rfl)) ?_
      refine C_at .h (fun hp => V_lenR (l := a_a.length) sl31 (EV.tmp rfl rfl) (crd_len hp)) ?_
      refine C_val (V_lss (i := (k5 : Int)) (j := (a_a.length : Int)) (EV.tmp rfl rfl) (EV.tmp rfl rfl)) ?_
      refine C_nil ?_
      refine CW_cond (b := (decide (((k5 : Int) : Int) < (a_a.length : Int)))) (EV.tmp rfl rfl) (fun hb => absurd (hfe12.symm.trans hb) (by decide)) (fun _ => ?_)
      refine CW_exit ?_
      refine CThen_exit ?_
      refine CThen_exit ?_
      refine CIn_self ?_
      refine K_region ?_
      refine C_val (V_move (v := (.int .i64 c1)) (EV.tmp rfl rfl)) ?_
      refine C_val (V_assign (v := (.int .i64 c1)) (EV.tmp rfl rfl)) ?_
      refine C_nil ?_
      refine CW_ret ?_
      obtain rfl := Option.some.inj hF
      exact End_ret () (.tmp rfl rfl .nil) rfl (.sel .nil)
    · obtain ⟨hk9, hx10, hd11⟩ := drop_cons hd8
      have hfe12 : (decide (((k5 : Int) : Int) < (a_a.length : Int))) = true := decide_eq_true (by omega)
      rw [l_szEventS_L1] at hF
      refine K_in ?_
      refine K_region ?_
      refine C_val (V_move (v := (.int .i64 (k5 : Int))) (EV.tmp rfl rfl)) ?_
      refine C_val (V_move (v := v0_0) (EV.tmp rfl rfl)) ?_
      refine C_at .h (fun hp => V_lenR (l := a_a.length) sl31 (EV.tmp rfl rfl) (crd_len hp)) ?_
      refine C_val (V_lss (i := (k5 : Int)) (j := (a_a.length : Int)) (EV.tmp rfl rfl) (EV.tmp rfl rfl)) ?_
      refine C_nil ?_
      refine CW_cond (b := (decide (((k5 : Int) : Int) < (a_a.length : Int)))) (EV.tmp rfl rfl) (fun _ => ?_) (fun hb => absurd (hfe12.symm.trans hb) (by decide))
      refine CW_skip ?_
      refine K_block ?_
      refine K_region ?_
      refine C_val (V_move (v := v0_0) (EV.tmp rfl rfl)) ?_
      refine C_val (V_move (v := (.int .i64 (k5 : Int))) (EV.tmp rfl rfl)) ?_
      refine C_idx (a := x7) sl31 ty25.sz (EV.tmp rfl rfl) (EV.tmp rfl rfl) .h (Int.natCast_nonneg k5) hx10 (fun k14 j15 => ?_)
      refine C_ldA0 (ul25_0_25 x7) ag25 ty25.sz rfl (EV.tmp rfl rfl) .h la25_0_25 (fun _ => ?_)
      refine C_val (V_move (v := (.int .i64 c1)) (EV.tmp rfl rfl)) ?_
      obtain ⟨r16, hx17, hF⟩ := bind_some hF
      refine C_x0 .nil (X_callS cf9 (.cons (EV.tmp rfl rfl) (.cons (EV.tmp rfl rfl) .nil)) (l_szEvent_ok ({ Kind := x7.Kind, Text := x7.Text } : Event) c1 _ hx17)) (fun _ => ?_)
      refine C_val (V_assign (v := (.int .i64 r16)) (EV.tmp rfl rfl)) ?_
      refine C_nil ?_
      refine K_region ?_
      refine C_val (V_move (v := (.int .i64 r16)) (EV.tmp rfl rfl)) ?_
      refine C_val (V_lss (i := r16) (j := 0) (EV.tmp rfl rfl) (EV.int _ _)) ?_
      refine C_nil ?_
      refine CW_cond (b := (decide ((r16 : Int) < 0))) (EV.tmp rfl rfl) (fun hb20 => ?_) (fun hb20 => ?_)
      · rw [if_pos hb20] at hF
        refine K_region ?_
        refine C_val (V_assign (v := (.int .i64 (-1))) (EV.int _ _)) ?_
        refine C_nil ?_
        refine CW_ret ?_
        obtain rfl := Option.some.inj hF
        exact End_ret () (.tmp rfl rfl .nil) rfl (.sel .nil)
      · rw [if_neg (by rw [hb20]; exact Bool.false_ne_true)] at hF
        refine CW_skip ?_
        refine CW_region ?_
        refine C_val (V_move (v := (.int .i64 (k5 : Int))) (EV.tmp rfl rfl)) ?_
        refine C_val (V_add (i := (k5 : Int)) (j := 1) (EV.tmp rfl rfl) (EV.int _ _)) ?_
        refine C_val (V_assign (v := (.int .i64 (IntKind.i64.wrap ((k5 : Int) + 1)))) (EV.tmp rfl rfl)) ?_
        refine C_nil ?_
        have hw19 : IntKind.i64.wrap ((k5 : Int) + 1) = ((k5 + 1 : Nat) : Int) := by rw [wrap_in (by omega) (by omega)]; rfl
        rw [hw19]
        exact ⟨_, Nat.lt_succ_self _, _, k5 + 1, rest6, _, rfl, (EqL.cons rfl (EqL.cons rfl (EqL.cons rfl (EqL.nil)))).eq, hd11, (.sel (.rd (.t .h) rfl .nil)), hF⟩

/-! laws.toEventS -/
def l_toEventS_L1 : List Event → Nat → (List Event) → Option ((List Event))
  | [], k35, c30 => some c30
  | x37 :: rest36, k35, c30 => (l_toEvent ({ Kind := x37.Kind, Text := x37.Text } : Event)).bind fun r46 =>
    (chk (decide (0 ≤ (k35 : Int)) && decide ((k35 : Int) < (c30.length : Int)))).bind fun u52 =>
    (some (c30.set ((k35 : Int)).toNat ({ Kind := r46.Kind, Text := r46.Text } : Event))).bind fun z54 =>
    l_toEventS_L1 rest36 (k35 + 1) z54
def l_toEventS (a_a : List Event) : Option ((List Event)) :=
  (mkz (a_a.length : Int) (({ Kind := 0, Text := [] } : Event) : Event)).bind fun z1 =>
  l_toEventS_L1 a_a 0 z1
theorem l_toEventS_ok (a_a : List Event) (v0_0 : Value) (R : (List Event)) (hF : l_toEventS a_a = some R) :
    Fw.Spec Try.prog 15 [v0_0] [crd (RdS 25 rd25) v0_0 a_a] (fun p : Value × List Nat => p.1) (fun p => [cown (OwnS 28 (roE rd28)) p.2 p.1 R]) := by
  refine Spec_enter (n := 23) Try.func15 rfl rfl (rs := [.tmp 2]) rfl rfl rfl ?_
  intro H0 F0
  unfold l_toEventS at hF
  refine K_region ?_
  refine C_val (V_assign (v := (.slice none 0 0)) EV.nilSlice) ?_
  refine C_nil ?_
  refine K_region ?_
  refine C_val (V_move (v := v0_0) (EV.tmp rfl rfl)) ?_
  refine C_at .h (fun hp => V_lenR (l := a_a.length) sl31 (EV.tmp rfl rfl) (crd_len hp)) ?_
  obtain ⟨z1, hx2, hF⟩ := bind_some hF
  have hm3 := mkz_some hx2
  refine C_new rfl (N_makeSlice (g := true) (c := (a_a.length : Int)) sl34 ty28 rfl rfl (by decide) (EV.tmp rfl rfl) hm3.2.1 hm3.2.2) (fun k4 => ?_)
  refine C_conv (.cons .h .nil) (own_make (Ro := (roE rd28)) (E := 28) (a := (({ Kind := 0, Text := [] } : Event) : Event)) hx2 (fun _ => ⟨rfl, rfl⟩)) apps ?_
  refine C_val (V_assign (v := (.slice (some ⟨k4, 0, none⟩) (a_a.length : Int).toNat 1)) (EV.tmp rfl rfl)) ?_
  refine C_nil ?_
  refine K_in ?_
  refine K_region ?_
  refine C_val (V_assign (v := (.int .i64 0)) (EV.int _ _)) ?_
  refine C_nil ?_
  refine CW_block ?_
  refine CW_loop (m := a_a.length) (fun m33 f' cs' => ∃ (g : Fr) (k35 : Nat) (rest36 : List Event) (c30 : List Event) (F31 : List Nat), m33 = rest36.length ∧ f' = updL g [(0, v0_0), (3, (.slice (some ⟨k4, 0, none⟩) (a_a.length : Int).toNat 1)), (4, (.int .i64 (k35 : Int)))] ∧ List.drop k35 a_a = rest36 ∧ Ent cs' [crd (RdS 25 rd25) v0_0 a_a, cown (OwnS 28 (roE rd28)) F31 (.slice (some ⟨k4, 0, none⟩) (a_a.length : Int).toNat 1) c30] ∧ l_toEventS_L1 rest36 k35 c30 = some R) ⟨_, 0, _, _, [k4], rfl, (EqL.cons rfl (EqL.cons rfl (EqL.cons rfl (EqL.nil)))).eq, rfl, (.sel (.rd (.t .h) rfl (.cons .h .nil))), hF⟩ ?_
  clear hF
  rintro m33 _ _ ⟨g34, k35, rest36, c30, F31, rfl, rfl, hd38, hE, hF⟩
  refine K_ent hE ?_
  clear hE
  refine K_pure (c := crd (RdS 25 rd25) v0_0 a_a) .h crd_bound (fun hbd43 => ?_)
  rcases rest36 with _ | ⟨x37, rest36⟩
  · have hk39 := List.drop_eq_nil_iff.1 hd38
    have hfe42 : (decide (((k35 : Int) : Int) < (a_a.length : Int))) = false := decide_eq_false (by omega)
    rw [l_toEventS_L1] at hF
    refine K_in ?_
    refine K_region ?_
    refine C_val (V_move (v := (.int .i64 (k35 : Int))) (EV.tmp rfl rfl)) ?_
    refine C_val (V_move (v := v0_0) (EV.tmp rfl rfl)) ?_
    refine C_at .h (fun hp => V_lenR (l := a_a.length) sl31 (EV.tmp rfl rfl) (crd_len hp)) ?_
    refine C_val (V_lss (i := (k35 : Int)) (j := (a_a.length : Int)) (EV.tmp rfl rfl) (EV.tmp rfl rfl)) ?_
    refine C_nil ?_
    refine CW_cond (b := (decide (((k35 : Int) : Int) < (a_a.length : Int)))) (EV.tmp rfl rfl) (fun hb => absurd (hfe42.symm.trans hb) (by decide)) (fun _ => ?_)
    refine CW_exit ?_
    refine CThen_exit ?_
    refine CThen_exit ?_
    refine CIn_self ?_
    refine K_region ?_
    refine C_val (V_move (v := (.slice (some ⟨k4, 0, none⟩) (a_a.length : Int).toNat 1)) (EV.tmp rfl rfl)) ?_
    refine C_val (V_assign (v := (.slice (some ⟨k4, 0, none⟩) (a_a.length : Int).toNat 1)) (EV.tmp rfl rfl)) ?_
    refine C_nil ?_
    refine CW_ret ?_
    obtain rfl := Option.some.inj hF
    exact End_ret ((.slice (some ⟨k4, 0, none⟩) (a_a.length : Int).toNat 1), F31) (.tmp rfl rfl .nil) rfl (.sel (.cons (.t .h) .nil))
  · obtain ⟨hk39, hx40, hd41⟩ := drop_cons hd38
    have hfe42 : (decide (((k35 : Int) : Int) < (a_a.length : Int))) = true := decide_eq_true (by omega)
    rw [l_toEventS_L1] at hF
    refine K_in ?_
    refine K_region ?_
    refine C_val (V_move (v := (.int .i64 (k35 : Int))) (EV.tmp rfl rfl)) ?_
    refine C_val (V_move (v := v0_0) (EV.tmp rfl rfl)) ?_
    refine C_at .h (fun hp => V_lenR (l := a_a.length) sl31 (EV.tmp rfl rfl) (crd_len hp)) ?_
    refine C_val (V_lss (i := (k35 : Int)) (j := (a_a.length : Int)) (EV.tmp rfl rfl) (EV.tmp rfl rfl)) ?_
    refine C_nil ?_
    refine CW_cond (b := (decide (((k35 : Int) : Int) < (a_a.length : Int)))) (EV.tmp rfl rfl) (fun _ => ?_) (fun hb => absurd (hfe42.symm.trans hb) (by decide))
    refine CW_skip ?_
    refine K_block ?_
    refine CW_region ?_
    refine C_val (V_move (v := (.slice (some ⟨k4, 0, none⟩) (a_a.length : Int).toNat 1)) (EV.tmp rfl rfl)) ?_
    refine C_val (V_move (v := (.int .i64 (k35 : Int))) (EV.tmp rfl rfl)) ?_
    refine C_val (V_move (v := v0_0) (EV.tmp rfl rfl)) ?_
    refine C_val (V_move (v := (.int .i64 (k35 : Int))) (EV.tmp rfl rfl)) ?_
    refine C_idx (a := x37) sl31 ty25.sz (EV.tmp rfl rfl) (EV.tmp rfl rfl) .h (Int.natCast_nonneg k35) hx40 (fun k44 j45 => ?_)
    refine C_ldA0 (ul25_0_25 x37) ag25 ty25.sz rfl (EV.tmp rfl rfl) .h la25_0_25 (fun _ => ?_)
    obtain ⟨r46, hx47, hF⟩ := bind_some hF
    refine C_x0 .nil (X_callS cf11 (.cons (EV.tmp rfl rfl) .nil) (l_toEvent_ok ({ Kind := x37.Kind, Text := x37.Text } : Event) _ hx47)) (fun _ => ?_)
    obtain ⟨u52, hx53, hF⟩ := bind_some hF
    have hi51 := chk_some hx53
    refine C_idxO sl34 ty28.sz (EV.tmp rfl rfl) (EV.tmp rfl rfl) (.t (.t .h)) hi51 (fun k49 hk50 => ?_)
    obtain ⟨z54, hx55, hF⟩ := bind_some hF
    replace hx55 := Option.some.inj hx55
    refine C_x1 (.cons (.t (.t .h)) .nil) (X_storeO (Ro := (roE rd28)) (a := ({ Kind := r46.Kind, Text := r46.Text } : Event)) (i := (k35 : Int)) ty28.sz rfl (EV.tmp rfl rfl) (EV.tmp rfl rfl) hk50 hi51 (Mk_pure (fun _ => rfl)) (fun _ _ _ _ h => by obtain ⟨-, h⟩ := h; cases h; rfl)) (fun F56 => ?_)
    rw [hx55]
    refine C_nil ?_
    refine CW_region ?_
    refine C_val (V_move (v := (.int .i64 (k35 : Int))) (EV.tmp rfl rfl)) ?_
    refine C_val (V_add (i := (k35 : Int)) (j := 1) (EV.tmp rfl rfl) (EV.int _ _)) ?_
    refine C_val (V_assign (v := (.int .i64 (IntKind.i64.wrap ((k35 : Int) + 1)))) (EV.tmp rfl rfl)) ?_
    refine C_nil ?_
    have hw57 : IntKind.i64.wrap ((k35 : Int) + 1) = ((k35 + 1 : Nat) : Int) := by rw [wrap_in (by omega) (by omega)]; rfl
    rw [hw57]
    exact ⟨_, Nat.lt_succ_self _, _, k35 + 1, rest36, _, F56, rfl, (EqL.cons rfl (EqL.cons rfl (EqL.cons rfl (EqL.nil)))).eq, hd41, (.sel (.rd (.t (.t .h)) rfl (.cons .h .nil))), hF⟩

/-! spec.EncodeEvents -/
def s_EncodeEvents_L1 : List Event → Nat → (List UInt8) → Option ((List UInt8))
  | [], k5, c1 => some c1
  | x7 :: rest6, k5, c1 => (s_FormatEvent ({ Kind := x7.Kind, Text := x7.Text } : Event)).bind fun r16 =>
    if (r16 == []) then (
      some [])
    else (
      (cat c1 r16).bind fun x19 =>
      (cat x19 [10]).bind fun x23 =>
      s_EncodeEvents_L1 rest6 (k5 + 1) x23)
def s_EncodeEvents (a_l : List Event) : Option ((List UInt8)) :=
  s_EncodeEvents_L1 a_l 0 []
theorem s_EncodeEvents_ok (a_l : List Event) (v0_0 : Value) (R : (List UInt8)) (hF : s_EncodeEvents a_l = some R) :
    Fw.Spec Try.prog 18 [v0_0] [crd (RdS 28 rd28) v0_0 a_l] (fun _ : Unit => (sv R)) (fun _ => []) := by
  refine Spec_enter (n := 24) Try.func18 rfl rfl (rs := [.tmp 2]) rfl rfl rfl ?_
  intro H0 F0
  unfold s_EncodeEvents at hF
  refine K_region ?_
  refine C_val (V_assign (v := (sv [])) (EV.sv _)) ?_
  refine C_nil ?_
  refine K_region ?_
  refine C_val (V_assign (v := (sv [])) (EV.sv _)) ?_
  refine C_nil ?_
  refine K_in ?_
  refine K_region ?_
  refine C_val (V_assign (v := (.int .i64 0)) (EV.int _ _)) ?_
  refine C_nil ?_
  refine CW_block ?_
  refine CW_loop (m := a_l.length) (fun m3 f' cs' => ∃ (g : Fr) (k5 : Nat) (rest6 : List Event) (c1 : List UInt8), m3 = rest6.length ∧ f' = updL g [(0, v0_0), (3, (sv c1)), (4, (.int .i64 (k5 : Int)))] ∧ List.drop k5 a_l = rest6 ∧ Ent cs' [crd (RdS 28 rd28) v0_0 a_l] ∧ s_EncodeEvents_L1 rest6 k5 c1 = some R) ⟨_, 0, _, _, rfl, (EqL.cons rfl (EqL.cons rfl (EqL.cons rfl (EqL.nil)))).eq, rfl, (.sel (.rd .h rfl .nil)), hF⟩ ?_
  clear hF
  rintro m3 _ _ ⟨g4, k5, rest6, c1, rfl, rfl, hd8, hE, hF⟩
  refine K_ent hE ?_
  clear hE
  refine K_pure (c := crd (RdS 28 rd28) v0_0 a_l) .h crd_bound (fun hbd13 => ?_)
  rcases rest6 with _ | ⟨x7, rest6⟩
  · have hk9 := List.drop_eq_nil_iff.1 hd8
    have hfe12 : (decide (((k5 : Int) : Int) < (a_l.length : Int))) = false := decide_eq_false (by omega)
    rw [s_EncodeEvents_L1] at hF
    refine K_in ?_
    refine K_region ?_
    refine C_val (V_move (v := (.int .i64 (k5 : Int))) (EV.tmp rfl rfl)) ?_
    refine C_val (V_move (v := v0_0) (EV.tmp rfl rfl)) ?_
    refine C_at .h (fun hp => V_lenR (l := a_l.length) sl34 (EV.tmp rfl rfl) (crd_len hp)) ?_
    refine C_val (V_lss (i := (k5 : Int)) (j := (a_l.length : Int)) (EV.tmp rfl rfl) (EV.tmp rfl rfl)) ?_
    refine C_nil ?_
    refine CW_cond (b := (decide (((k5 : Int) : Int) < (a_l.length : Int)))) (EV.tmp rfl rfl) (fun hb => absurd (hfe12.symm.trans hb) (by decide)) (fun _ => ?_)
    refine CW_exit ?_
    refine CThen_exit ?_
    refine CThen_exit ?_
    refine CIn_self ?_
    refine K_region ?_
    refine C_val (V_move (v := (sv c1)) (EV.tmp rfl rfl)) ?_
    refine C_val (V_assign (v := (sv c1)) (EV.tmp rfl rfl)) ?_
    refine C_nil ?_
    refine CW_ret ?_
    obtain rfl := Option.some.inj hF
    exact End_ret () (.tmp rfl rfl .nil) rfl (.sel .nil)
  · obtain ⟨hk9, hx10, hd11⟩ := drop_cons hd8
    have hfe12 : (decide (((k5 : Int) : Int) < (a_l.length : Int))) = true := decide_eq_true (by omega)
    rw [s_EncodeEvents_L1] at hF
    refine K_in ?_
    refine K_region ?_
    refine C_val (V_move (v := (.int .i64 (k5 : Int))) (EV.tmp rfl rfl)) ?_
    refine C_val (V_move (v := v0_0) (EV.tmp rfl rfl)) ?_
    refine C_at .h (fun hp => V_lenR (l := a_l.length) sl34 (EV.tmp rfl rfl) (crd_len hp)) ?_
    refine C_val (V_lss (i := (k5 : Int)) (j := (a_l.length : Int)) (EV.tmp rfl rfl) (EV.tmp rfl rfl)) ?_
    refine C_nil ?_
    refine CW_cond (b := (decide (((k5 : Int) : Int) < (a_l.length : Int)))) (EV.tmp rfl rfl) (fun _ => ?_) (fun hb => absurd (hfe12.symm.trans hb) (by decide))
    refine CW_skip ?_
    refine K_block ?_
    refine K_region ?_
    refine C_val (V_move (v := v0_0) (EV.tmp rfl rfl)) ?_
    refine C_val (V_move (v := (.int .i64 (k5 : Int))) (EV.tmp rfl rfl)) ?_
    refine C_idx (a := x7) sl34 ty28.sz (EV.tmp rfl rfl) (EV.tmp rfl rfl) .h (Int.natCast_nonneg k5) hx10 (fun k14 j15 => ?_)
    refine C_ldA0 (ul28_0_28 x7) ag28 ty28.sz rfl (EV.tmp rfl rfl) .h la28_0_28 (fun _ => ?_)
    obtain ⟨r16, hx17, hF⟩ := bind_some hF
    refine C_x0 .nil (X_callS cf10 (.cons (EV.tmp rfl rfl) .nil) (s_FormatEvent_ok ({ Kind := x7.Kind, Text := x7.Text } : Event) _ hx17)) (fun _ => ?_)
    refine C_val (V_assign (v := (sv r16)) (EV.tmp rfl rfl)) ?_
    refine C_nil ?_
    refine K_in ?_
    refine K_region ?_
    refine C_val (V_move (v := (sv r16)) (EV.tmp rfl rfl)) ?_
    refine C_val (V_eqT (s := r16) (t := []) (EV.tmp rfl rfl) (EV.sv _)) ?_
    refine C_nil ?_
    refine CW_cond (b := (r16 == [])) (EV.tmp rfl rfl) (fun hb28 => ?_) (fun hb28 => ?_)
    · rw [if_pos hb28] at hF
      refine K_region ?_
      refine C_val (V_assign (v := (sv [])) (EV.sv _)) ?_
      refine C_nil ?_
      refine CW_ret ?_
      obtain rfl := Option.some.inj hF
      exact End_ret () (.tmp rfl rfl .nil) rfl (.sel .nil)
    · rw [if_neg (by rw [hb28]; exact Bool.false_ne_true)] at hF
      refine CW_skip ?_
      refine CW_region ?_
      refine C_val (V_move (v := (sv c1)) (EV.tmp rfl rfl)) ?_
      refine C_val (V_move (v := (sv r16)) (EV.tmp rfl rfl)) ?_
      obtain ⟨x19, hx20, hF⟩ := bind_some hF
      obtain ⟨hq22, hz21⟩ := cat_some hx20
      refine C_val (V_concatN (s := c1) (t := r16) (u := x19) (EV.tmp rfl rfl) (EV.tmp rfl rfl) hx20) ?_
      obtain ⟨x23, hx24, hF⟩ := bind_some hF
      obtain ⟨hq26, hz25⟩ := cat_some hx24
      refine C_val (V_concatN (s := x19) (t := [10]) (u := x23) (EV.tmp rfl rfl) (EV.sv _) hx24) ?_
      refine C_val (V_assign (v := (sv x23)) (EV.tmp rfl rfl)) ?_
      refine C_nil ?_
      refine CW_region ?_
      refine C_val (V_move (v := (.int .i64 (k5 : Int))) (EV.tmp rfl rfl)) ?_
      refine C_val (V_add (i := (k5 : Int)) (j := 1) (EV.tmp rfl rfl) (EV.int _ _)) ?_
      refine C_val (V_assign (v := (.int .i64 (IntKind.i64.wrap ((k5 : Int) + 1)))) (EV.tmp rfl rfl)) ?_
      refine C_nil ?_
      have hw27 : IntKind.i64.wrap ((k5 : Int) + 1) = ((k5 + 1 : Nat) : Int) := by rw [wrap_in (by omega) (by omega)]; rfl
      rw [hw27]
      exact ⟨_, Nat.lt_succ_self _, _, k5 + 1, rest6, _, rfl, (EqL.cons rfl (EqL.cons rfl (EqL.cons rfl (EqL.nil)))).eq, hd11, (.sel (.rd (.t .h) rfl .nil)), hF⟩

/-! spec.FirstDifference -/
def s_FirstDifference_L1 (a_a : List Event) (a_b : List Event) : Nat → Int → Option (Int)
  | 0, _ => none
  | m2 + 1, c1 => if ((decide ((c1 : Int) < (a_a.length : Int))) && (decide ((c1 : Int) < (a_b.length : Int)))) then (
      (ix a_a c1).bind fun x12 =>
      (ix a_b c1).bind fun x18 =>
      if (!(((x12.Kind : Int) == x18.Kind) && (x12.Text == x18.Text))) then (
        some c1)
      else (
        s_FirstDifference_L1 a_a a_b m2 (IntKind.i64.wrap (c1 + 1))))
    else (
      if (((a_a.length : Int) : Int) == (a_b.length : Int)) then (
        some (-1))
      else (
        some (if (a_b.length : Int) < (a_a.length : Int) then (a_b.length : Int) else (a_a.length : Int))))
def s_FirstDifference (a_a : List Event) (a_b : List Event) : Option (Int) :=
  s_FirstDifference_L1 a_a a_b (((a_a.length : Int) - 0).toNat + 2) 0
theorem s_FirstDifference_ok (a_a : List Event) (v0_0 : Value) (a_b : List Event) (v1_0 : Value) (R : Int) (hF : s_FirstDifference a_a a_b = some R) :
    Fw.Spec Try.prog 14 [v0_0, v1_0] [crd (RdS 28 rd28) v0_0 a_a, crd (RdS 28 rd28) v1_0 a_b] (fun _ : Unit => (.int .i64 R)) (fun _ => []) := by
  refine Spec_enter (n := 38) Try.func14 rfl rfl (rs := [.tmp 4]) rfl rfl rfl ?_
  intro H0 F0
  unfold s_FirstDifference at hF
  refine K_region ?_
  refine C_val (V_assign (v := (.int .i64 0)) (EV.int _ _)) ?_
  refine C_nil ?_
  refine K_in ?_
  refine K_region ?_
  refine C_val (V_assign (v := (.int .i64 0)) (EV.int _ _)) ?_
  refine C_nil ?_
  refine CW_block ?_
  refine CW_loop (m := (((a_a.length : Int) - 0).toNat + 2)) (fun m2 f' cs' => ∃ (g : Fr) (c1 : Int), f' = updL g [(0, v0_0), (1, v1_0), (5, (.int .i64 c1))] ∧ Ent cs' [crd (RdS 28 rd28) v0_0 a_a, crd (RdS 28 rd28) v1_0 a_b] ∧ s_FirstDifference_L1 a_a a_b m2 c1 = some R) ⟨_, _, (EqL.cons rfl (EqL.cons rfl (EqL.cons rfl (EqL.nil)))).eq, (.sel (.rd .h rfl (.rd (.t .h) rfl .nil))), hF⟩ ?_
  clear hF
  rintro m2 _ _ ⟨g3, c1, rfl, hE, hF⟩
  refine K_ent hE ?_
  clear hE
  rcases m2 with _ | m2
  · rw [s_FirstDifference_L1] at hF
    exact absurd hF (by simp)
  · rw [s_FirstDifference_L1] at hF
    refine K_in ?_
    refine K_region ?_
    refine C_cut (fun f' cs' => ∃ (g : Fr), f' = updL g [(0, v0_0), (1, v1_0), (5, (.int .i64 c1)), (15, (.bool ((decide ((c1 : Int) < (a_a.length : Int))) && (decide ((c1 : Int) < (a_b.length : Int))))))] ∧ Ent cs' [crd (RdS 28 rd28) v0_0 a_a, crd (RdS 28 rd28) v1_0 a_b]) ?_ ?_
    · refine C_val (V_move (v := (.int .i64 c1)) (EV.tmp rfl rfl)) ?_
      refine C_val (V_move (v := v0_0) (EV.tmp rfl rfl)) ?_
      refine C_at .h (fun hp => V_lenR (l := a_a.length) sl34 (EV.tmp rfl rfl) (crd_len hp)) ?_
      refine C_val (V_lss (i := c1) (j := (a_a.length : Int)) (EV.tmp rfl rfl) (EV.tmp rfl rfl)) ?_
      refine C_val (V_move (v := (.bool (decide ((c1 : Int) < (a_a.length : Int))))) (EV.tmp rfl rfl)) ?_
      rcases Bool.eq_false_or_eq_true (decide ((c1 : Int) < (a_a.length : Int))) with hg10 | hg10
      · rw [hg10]
        try rw [hg10] at hF
        refine C_on (t := 10) rfl rfl rfl ?_
        refine C_val (V_move (v := (.int .i64 c1)) (EV.tmp rfl rfl)) ?_
        refine C_on (t := 10) rfl rfl rfl ?_
        refine C_val (V_move (v := v1_0) (EV.tmp rfl rfl)) ?_
        refine C_on (t := 10) rfl rfl rfl ?_
        refine C_at (.t .h) (fun hp => V_lenR (l := a_b.length) sl34 (EV.tmp rfl rfl) (crd_len hp)) ?_
        refine C_on (t := 10) rfl rfl rfl ?_
        refine C_val (V_lss (i := c1) (j := (a_b.length : Int)) (EV.tmp rfl rfl) (EV.tmp rfl rfl)) ?_
        refine C_val (V_pick (b := true) (u := (.bool (decide ((c1 : Int) < (a_b.length : Int))))) (v := (.bool false)) (EV.tmp rfl rfl) (EV.tmp rfl rfl) (EV.bool _)) ?_
        refine C_nil ?_
        exact ⟨_, (EqL.cons rfl (EqL.cons rfl (EqL.cons rfl (EqL.cons rfl (EqL.nil))))).eq, (.sel (.rd .h rfl (.rd (.t .h) rfl .nil)))⟩
      · rw [hg10]
        try rw [hg10] at hF
        refine C_off (t := 10) rfl rfl rfl ?_
        refine C_off (t := 10) rfl rfl rfl ?_
        refine C_off (t := 10) rfl rfl rfl ?_
        refine C_off (t := 10) rfl rfl rfl ?_
        refine C_val (V_pick (b := false) (u := undef) (v := (.bool false)) (EV.tmp rfl rfl) (EV.tmp rfl rfl) (EV.bool _)) ?_
        refine C_nil ?_
        exact ⟨_, (EqL.cons rfl (EqL.cons rfl (EqL.cons rfl (EqL.cons rfl (EqL.nil))))).eq, (.sel (.rd .h rfl (.rd (.t .h) rfl .nil)))⟩
    · rintro _ _ ⟨g11, rfl, hE⟩
      refine K_ent hE ?_
      refine CW_cond (b := ((decide ((c1 : Int) < (a_a.length : Int))) && (decide ((c1 : Int) < (a_b.length : Int))))) (EV.tmp rfl rfl) (fun hb26 => ?_) (fun hb26 => ?_)
      · rw [if_pos hb26] at hF
        refine CW_skip ?_
        refine K_block ?_
        refine K_draw [0, 1, 2, 3, 4, 5, 6, 7, 8] [0, 0, 3, 7, 0, 0, 48, 112, 255] [] mixed (by decide +kernel) ?_
        refine D_val rfl .no (fun ha => V_move (v := v0_0) (EN ha (EV.tmp rfl rfl) rfl)) ?_
        refine D_val rfl .no (fun ha => V_move (v := (.int .i64 c1)) (EN ha (EV.tmp rfl rfl) rfl)) ?_
        obtain ⟨x12, hx13, hF⟩ := bind_some hF
        obtain ⟨hp14, hx15⟩ := ix_some hx13
        refine D_idx (a := x12) sl34 ty28.sz rfl .no (EV.tmp rfl rfl) (EV.tmp rfl rfl) rfl rfl .h hp14 hx15 (fun k16 j17 => ?_)
        refine D_ldA0 (ul28_0_28 x12) ag28 ty28.sz rfl rfl .no (EV.tmp rfl rfl) rfl .h la28_0_28 (fun _ => ?_)
        refine D_val rfl .no (fun ha => V_move (v := v1_0) (EN ha (EV.tmp rfl rfl) rfl)) ?_
        refine D_val rfl .no (fun ha => V_move (v := (.int .i64 c1)) (EN ha (EV.tmp rfl rfl) rfl)) ?_
        obtain ⟨x18, hx19, hF⟩ := bind_some hF
        obtain ⟨hp20, hx21⟩ := ix_some hx19
        refine D_idx (a := x18) sl34 ty28.sz rfl .no (EV.tmp rfl rfl) (EV.tmp rfl rfl) rfl rfl (.t (.t .h)) hp20 hx21 (fun k22 j23 => ?_)
        refine D_ldA0 (ul28_0_28 x18) ag28 ty28.sz rfl rfl .no (EV.tmp rfl rfl) rfl .h la28_0_28 (fun _ => ?_)
        refine D_val rfl .no (fun ha => V_neS (b := (((x12.Kind : Int) == x18.Kind) && (x12.Text == x18.Text))) eqg28 rfl rfl (fun w => eqs28 x12.Kind x12.Text x18.Kind x18.Text w) (EN ha (EV.tmp rfl rfl) rfl) (EN ha (EV.tmp rfl rfl) rfl)) ?_
        refine D_nil ?_
        refine CW_cond (b := (!(((x12.Kind : Int) == x18.Kind) && (x12.Text == x18.Text)))) (EV.tmp rfl rfl) (fun hb24 => ?_) (fun hb24 => ?_)
        · rw [if_pos hb24] at hF
          refine K_region ?_
          refine C_val (V_move (v := (.int .i64 c1)) (EV.tmp rfl rfl)) ?_
          refine C_val (V_assign (v := (.int .i64 c1)) (EV.tmp rfl rfl)) ?_
          refine C_nil ?_
          refine CW_ret ?_
          obtain rfl := Option.some.inj hF
          exact End_ret () (.tmp rfl rfl .nil) rfl (.sel .nil)
        · rw [if_neg (by rw [hb24]; exact Bool.false_ne_true)] at hF
          refine CW_skip ?_
          refine CW_region ?_
          refine C_val (V_move (v := (.int .i64 c1)) (EV.tmp rfl rfl)) ?_
          refine C_val (V_add (i := c1) (j := 1) (EV.tmp rfl rfl) (EV.int _ _)) ?_
          refine C_val (V_assign (v := (.int .i64 (IntKind.i64.wrap (c1 + 1)))) (EV.tmp rfl rfl)) ?_
          refine C_nil ?_
          exact ⟨m2, Nat.lt_succ_self _, _, _, (EqL.cons rfl (EqL.cons rfl (EqL.cons rfl (EqL.nil)))).eq, (.sel (.rd (.t (.t .h)) rfl (.rd (.t (.t (.t .h))) rfl .nil))), hF⟩
      · rw [if_neg (by rw [hb26]; exact Bool.false_ne_true)] at hF
        refine CW_exit ?_
        refine CThen_exit ?_
        refine CThen_exit ?_
        refine CIn_self ?_
        refine K_in ?_
        refine K_region ?_
        refine C_val (V_move (v := v0_0) (EV.tmp rfl rfl)) ?_
        refine C_at .h (fun hp => V_lenR (l := a_a.length) sl34 (EV.tmp rfl rfl) (crd_len hp)) ?_
        refine C_val (V_move (v := v1_0) (EV.tmp rfl rfl)) ?_
        refine C_at (.t .h) (fun hp => V_lenR (l := a_b.length) sl34 (EV.tmp rfl rfl) (crd_len hp)) ?_
        refine C_val (V_eql (i := (a_a.length : Int)) (j := (a_b.length : Int)) (EV.tmp rfl rfl) (EV.tmp rfl rfl)) ?_
        refine C_nil ?_
        refine CW_cond (b := (((a_a.length : Int) : Int) == (a_b.length : Int))) (EV.tmp rfl rfl) (fun hb25 => ?_) (fun hb25 => ?_)
        · rw [if_pos hb25] at hF
          refine K_region ?_
          refine C_val (V_assign (v := (.int .i64 (-1))) (EV.int _ _)) ?_
          refine C_nil ?_
          refine CW_ret ?_
          obtain rfl := Option.some.inj hF
          exact End_ret () (.tmp rfl rfl .nil) rfl (.sel .nil)
        · rw [if_neg (by rw [hb25]; exact Bool.false_ne_true)] at hF
          refine CW_skip ?_
          refine K_region ?_
          refine C_val (V_move (v := v0_0) (EV.tmp rfl rfl)) ?_
          refine C_at .h (fun hp => V_lenR (l := a_a.length) sl34 (EV.tmp rfl rfl) (crd_len hp)) ?_
          refine C_val (V_move (v := v1_0) (EV.tmp rfl rfl)) ?_
          refine C_at (.t .h) (fun hp => V_lenR (l := a_b.length) sl34 (EV.tmp rfl rfl) (crd_len hp)) ?_
          refine C_val (V_min (i := (a_a.length : Int)) (j := (a_b.length : Int)) (EV.tmp rfl rfl) (EV.tmp rfl rfl)) ?_
          refine C_val (V_assign (v := (.int .i64 (if (a_b.length : Int) < (a_a.length : Int) then (a_b.length : Int) else (a_a.length : Int)))) (EV.tmp rfl rfl)) ?_
          refine C_nil ?_
          refine CW_ret ?_
          obtain rfl := Option.some.inj hF
          exact End_ret () (.tmp rfl rfl .nil) rfl (.sel .nil)

/-! impl.FirstDifference -/
def i_FirstDifference_L1 (a_a : List Event) (a_b : List Event) : Nat → Int → Option (Int)
  | 0, _ => none
  | m2 + 1, c1 => if (decide ((c1 : Int) < (if (a_b.length : Int) < (a_a.length : Int) then (a_b.length : Int) else (a_a.length : Int)))) then (
      (ix a_a c1).bind fun x10 =>
      (ix a_b c1).bind fun x16 =>
      if (!(((x10.Kind : Int) == x16.Kind) && (x10.Text == x16.Text))) then (
        some c1)
      else (
        i_FirstDifference_L1 a_a a_b m2 (IntKind.i64.wrap (c1 + 1))))
    else (
      if (((a_a.length : Int) : Int) == (a_b.length : Int)) then (
        some (-1))
      else (
        some (if (a_b.length : Int) < (a_a.length : Int) then (a_b.length : Int) else (a_a.length : Int))))
def i_FirstDifference (a_a : List Event) (a_b : List Event) : Option (Int) :=
  i_FirstDifference_L1 a_a a_b (((if (a_b.length : Int) < (a_a.length : Int) then (a_b.length : Int) else (a_a.length : Int)) - 0).toNat + 2) 0
theorem i_FirstDifference_ok (a_a : List Event) (v0_0 : Value) (a_b : List Event) (v1_0 : Value) (R : Int) (hF : i_FirstDifference a_a a_b = some R) :
    Fw.Spec Try.prog 16 [v0_0, v1_0] [crd (RdS 28 rd28) v0_0 a_a, crd (RdS 28 rd28) v1_0 a_b] (fun _ : Unit => (.int .i64 R)) (fun _ => []) := by
  refine Spec_enter (n := 33) Try.func16 rfl rfl (rs := [.tmp 4]) rfl rfl rfl ?_
  intro H0 F0
  unfold i_FirstDifference at hF
  refine K_region ?_
  refine C_val (V_assign (v := (.int .i64 0)) (EV.int _ _)) ?_
  refine C_nil ?_
  refine K_region ?_
  refine C_val (V_move (v := v0_0) (EV.tmp rfl rfl)) ?_
  refine C_at .h (fun hp => V_lenR (l := a_a.length) sl34 (EV.tmp rfl rfl) (crd_len hp)) ?_
  refine C_val (V_move (v := v1_0) (EV.tmp rfl rfl)) ?_
  refine C_at (.t .h) (fun hp => V_lenR (l := a_b.length) sl34 (EV.tmp rfl rfl) (crd_len hp)) ?_
  refine C_val (V_min (i := (a_a.length : Int)) (j := (a_b.length : Int)) (EV.tmp rfl rfl) (EV.tmp rfl rfl)) ?_
  refine C_val (V_assign (v := (.int .i64 (if (a_b.length : Int) < (a_a.length : Int) then (a_b.length : Int) else (a_a.length : Int)))) (EV.tmp rfl rfl)) ?_
  refine C_nil ?_
  refine K_in ?_
  refine K_region ?_
  refine C_val (V_move (v := (.int .i64 (if (a_b.length : Int) < (a_a.length : Int) then (a_b.length : Int) else (a_a.length : Int)))) (EV.tmp rfl rfl)) ?_
  refine C_val (V_move (v := (.int .i64 0)) (EV.int _ _)) ?_
  refine C_nil ?_
  refine CW_block ?_
  refine CW_loop (m := (((if (a_b.length : Int) < (a_a.length : Int) then (a_b.length : Int) else (a_a.length : Int)) - 0).toNat + 2)) (fun m2 f' cs' => ∃ (g : Fr) (c1 : Int), f' = updL g [(0, v0_0), (1, v1_0), (5, (.int .i64 (if (a_b.length : Int) < (a_a.length : Int) then (a_b.length : Int) else (a_a.length : Int)))), (12, (.int .i64 (if (a_b.length : Int) < (a_a.length : Int) then (a_b.length : Int) else (a_a.length : Int)))), (13, (.int .i64 c1))] ∧ Ent cs' [crd (RdS 28 rd28) v0_0 a_a, crd (RdS 28 rd28) v1_0 a_b] ∧ i_FirstDifference_L1 a_a a_b m2 c1 = some R) ⟨_, _, (EqL.cons rfl (EqL.cons rfl (EqL.cons rfl (EqL.cons rfl (EqL.cons rfl (EqL.nil)))))).eq, (.sel (.rd .h rfl (.rd (.t .h) rfl .nil))), hF⟩ ?_
  clear hF
  rintro m2 _ _ ⟨g3, c1, rfl, hE, hF⟩
  refine K_ent hE ?_
  clear hE
  rcases m2 with _ | m2
  · rw [i_FirstDifference_L1] at hF
    exact absurd hF (by simp)
  · rw [i_FirstDifference_L1] at hF
    refine K_region ?_
    refine C_val (V_lss (i := c1) (j := (if (a_b.length : Int) < (a_a.length : Int) then (a_b.length : Int) else (a_a.length : Int))) (EV.tmp rfl rfl) (EV.tmp rfl rfl)) ?_
    refine C_nil ?_
    refine K_in ?_
    refine CW_cond (b := (decide ((c1 : Int) < (if (a_b.length : Int) < (a_a.length : Int) then (a_b.length : Int) else (a_a.length : Int))))) (EV.tmp rfl rfl) (fun hb24 => ?_) (fun hb24 => ?_)
    · rw [if_pos hb24] at hF
      refine CW_skip ?_
      refine K_block ?_
      refine K_region ?_
      refine C_val (V_move (v := (.int .i64 c1)) (EV.tmp rfl rfl)) ?_
      refine C_val (V_assign (v := (.int .i64 c1)) (EV.tmp rfl rfl)) ?_
      refine C_nil ?_
      refine K_draw [0, 1, 2, 3, 4, 5, 6, 7, 8] [0, 0, 3, 7, 0, 0, 48, 112, 255] [] mixed (by decide +kernel) ?_
      refine D_val rfl .no (fun ha => V_move (v := v0_0) (EN ha (EV.tmp rfl rfl) rfl)) ?_
      refine D_val rfl .no (fun ha => V_move (v := (.int .i64 c1)) (EN ha (EV.tmp rfl rfl) rfl)) ?_
      obtain ⟨x10, hx11, hF⟩ := bind_some hF
      obtain ⟨hp12, hx13⟩ := ix_some hx11
      refine D_idx (a := x10) sl34 ty28.sz rfl .no (EV.tmp rfl rfl) (EV.tmp rfl rfl) rfl rfl .h hp12 hx13 (fun k14 j15 => ?_)
      refine D_ldA0 (ul28_0_28 x10) ag28 ty28.sz rfl rfl .no (EV.tmp rfl rfl) rfl .h la28_0_28 (fun _ => ?_)
      refine D_val rfl .no (fun ha => V_move (v := v1_0) (EN ha (EV.tmp rfl rfl) rfl)) ?_
      refine D_val rfl .no (fun ha => V_move (v := (.int .i64 c1)) (EN ha (EV.tmp rfl rfl) rfl)) ?_
      obtain ⟨x16, hx17, hF⟩ := bind_some hF
      obtain ⟨hp18, hx19⟩ := ix_some hx17
      refine D_idx (a := x16) sl34 ty28.sz rfl .no (EV.tmp rfl rfl) (EV.tmp rfl rfl) rfl rfl (.t (.t .h)) hp18 hx19 (fun k20 j21 => ?_)
      refine D_ldA0 (ul28_0_28 x16) ag28 ty28.sz rfl rfl .no (EV.tmp rfl rfl) rfl .h la28_0_28 (fun _ => ?_)
      refine D_val rfl .no (fun ha => V_neS (b := (((x10.Kind : Int) == x16.Kind) && (x10.Text == x16.Text))) eqg28 rfl rfl (fun w => eqs28 x10.Kind x10.Text x16.Kind x16.Text w) (EN ha (EV.tmp rfl rfl) rfl) (EN ha (EV.tmp rfl rfl) rfl)) ?_
      refine D_nil ?_
      refine CW_cond (b := (!(((x10.Kind : Int) == x16.Kind) && (x10.Text == x16.Text)))) (EV.tmp rfl rfl) (fun hb22 => ?_) (fun hb22 => ?_)
      · rw [if_pos hb22] at hF
        refine K_region ?_
        refine C_val (V_move (v := (.int .i64 c1)) (EV.tmp rfl rfl)) ?_
        refine C_val (V_assign (v := (.int .i64 c1)) (EV.tmp rfl rfl)) ?_
        refine C_nil ?_
        refine CW_ret ?_
        obtain rfl := Option.some.inj hF
        exact End_ret () (.tmp rfl rfl .nil) rfl (.sel .nil)
      · rw [if_neg (by rw [hb22]; exact Bool.false_ne_true)] at hF
        refine CW_skip ?_
        refine CW_region ?_
        refine C_val (V_add (i := c1) (j := 1) (EV.tmp rfl rfl) (EV.int _ _)) ?_
        refine C_val (V_move (v := (.int .i64 (IntKind.i64.wrap (c1 + 1)))) (EV.tmp rfl rfl)) ?_
        refine C_nil ?_
        exact ⟨m2, Nat.lt_succ_self _, _, _, (EqL.cons rfl (EqL.cons rfl (EqL.cons rfl (EqL.cons rfl (EqL.cons rfl (EqL.nil)))))).eq, (.sel (.rd (.t (.t .h)) rfl (.rd (.t (.t (.t .h))) rfl .nil))), hF⟩
    · rw [if_neg (by rw [hb24]; exact Bool.false_ne_true)] at hF
      refine CW_exit ?_
      refine CThen_exit ?_
      refine CThen_exit ?_
      refine CIn_self ?_
      refine K_in ?_
      refine K_region ?_
      refine C_val (V_move (v := v0_0) (EV.tmp rfl rfl)) ?_
      refine C_at .h (fun hp => V_lenR (l := a_a.length) sl34 (EV.tmp rfl rfl) (crd_len hp)) ?_
      refine C_val (V_move (v := v1_0) (EV.tmp rfl rfl)) ?_
      refine C_at (.t .h) (fun hp => V_lenR (l := a_b.length) sl34 (EV.tmp rfl rfl) (crd_len hp)) ?_
      refine C_val (V_eql (i := (a_a.length : Int)) (j := (a_b.length : Int)) (EV.tmp rfl rfl) (EV.tmp rfl rfl)) ?_
      refine C_nil ?_
      refine CW_cond (b := (((a_a.length : Int) : Int) == (a_b.length : Int))) (EV.tmp rfl rfl) (fun hb23 => ?_) (fun hb23 => ?_)
      · rw [if_pos hb23] at hF
        refine K_region ?_
        refine C_val (V_assign (v := (.int .i64 (-1))) (EV.int _ _)) ?_
        refine C_nil ?_
        refine CW_ret ?_
        obtain rfl := Option.some.inj hF
        exact End_ret () (.tmp rfl rfl .nil) rfl (.sel .nil)
      · rw [if_neg (by rw [hb23]; exact Bool.false_ne_true)] at hF
        refine CW_skip ?_
        refine K_region ?_
        refine C_val (V_move (v := (.int .i64 (if (a_b.length : Int) < (a_a.length : Int) then (a_b.length : Int) else (a_a.length : Int)))) (EV.tmp rfl rfl)) ?_
        refine C_val (V_assign (v := (.int .i64 (if (a_b.length : Int) < (a_a.length : Int) then (a_b.length : Int) else (a_a.length : Int)))) (EV.tmp rfl rfl)) ?_
        refine C_nil ?_
        refine CW_ret ?_
        obtain rfl := Option.some.inj hF
        exact End_ret () (.tmp rfl rfl .nil) rfl (.sel .nil)

/-! laws.eqEventS -/
def l_eqEventS_L1 (a_b : List Event) : List Event → Nat → Option (Bool)
  | [], k4 => some true
  | x6 :: rest5, k4 => (ix a_b (k4 : Int)).bind fun x15 =>
    (l_eqEvent ({ Kind := x6.Kind, Text := x6.Text } : Event) ({ Kind := x15.Kind, Text := x15.Text } : Event)).bind fun r21 =>
    if (!r21) then (
      some false)
    else (
      l_eqEventS_L1 a_b rest5 (k4 + 1))
def l_eqEventS (a_a : List Event) (a_b : List Event) : Option (Bool) :=
  if (((a_a.length : Int) : Int) != (a_b.length : Int)) then (
    some false)
  else (
    l_eqEventS_L1 a_b a_a 0)
theorem l_eqEventS_ok (a_a : List Event) (v0_0 : Value) (a_b : List Event) (v1_0 : Value) (R : Bool) (hF : l_eqEventS a_a a_b = some R) :
    Fw.Spec Try.prog 17 [v0_0, v1_0] [crd (RdS 28 rd28) v0_0 a_a, crd (RdS 28 rd28) v1_0 a_b] (fun _ : Unit => (.bool R)) (fun _ => []) := by
  refine Spec_enter (n := 27) Try.func17 rfl rfl (rs := [.tmp 4]) rfl rfl rfl ?_
  intro H0 F0
  unfold l_eqEventS at hF
  refine K_region ?_
  refine C_val (V_assign (v := (.bool false)) (EV.bool _)) ?_
  refine C_nil ?_
  refine K_in ?_
  refine K_region ?_
  refine C_val (V_move (v := v0_0) (EV.tmp rfl rfl)) ?_
  refine C_at .h (fun hp => V_lenR (l := a_a.length) sl34 (EV.tmp rfl rfl) (crd_len hp)) ?_
  refine C_val (V_move (v := v1_0) (EV.tmp rfl rfl)) ?_
  refine C_at (.t .h) (fun hp => V_lenR (l := a_b.length) sl34 (EV.tmp rfl rfl) (crd_len hp)) ?_
  refine C_val (V_neq (i := (a_a.length : Int)) (j := (a_b.length : Int)) (EV.tmp rfl rfl) (EV.tmp rfl rfl)) ?_
  refine C_nil ?_
  refine CW_cond (b := (((a_a.length : Int) : Int) != (a_b.length : Int))) (EV.tmp rfl rfl) (fun hb26 => ?_) (fun hb26 => ?_)
  · rw [if_pos hb26] at hF
    refine K_region ?_
    refine C_val (V_assign (v := (.bool false)) (EV.bool _)) ?_
    refine C_nil ?_
    refine CW_ret ?_
    obtain rfl := Option.some.inj hF
    exact End_ret () (.tmp rfl rfl .nil) rfl (.sel .nil)
  · rw [if_neg (by rw [hb26]; exact Bool.false_ne_true)] at hF
    refine CW_skip ?_
    refine K_in ?_
    refine K_region ?_
    refine C_val (V_assign (v := (.int .i64 0)) (EV.int _ _)) ?_
    refine C_nil ?_
    refine CW_block ?_
    refine CW_loop (m := a_a.length) (fun m2 f' cs' => ∃ (g : Fr) (k4 : Nat) (rest5 : List Event), m2 = rest5.length ∧ f' = updL g [(0, v0_0), (1, v1_0), (5, (.int .i64 (k4 : Int)))] ∧ List.drop k4 a_a = rest5 ∧ Ent cs' [crd (RdS 28 rd28) v0_0 a_a, crd (RdS 28 rd28) v1_0 a_b] ∧ l_eqEventS_L1 a_b rest5 k4 = some R) ⟨_, 0, _, rfl, (EqL.cons rfl (EqL.cons rfl (EqL.cons rfl (EqL.nil)))).eq, rfl, (.sel (.rd .h rfl (.rd (.t .h) rfl .nil))), hF⟩ ?_
    clear hF
    rintro m2 _ _ ⟨g3, k4, rest5, rfl, rfl, hd7, hE, hF⟩
    refine K_ent hE ?_
    clear hE
    refine K_pure (c := crd (RdS 28 rd28) v0_0 a_a) .h crd_bound (fun hbd12 => ?_)
    rcases rest5 with _ | ⟨x6, rest5⟩
    · have hk8 := List.drop_eq_nil_iff.1 hd7
      have hfe11 : (decide (((k4 : Int) : Int) < (a_a.length : Int))) = false := decide_eq_false (by omega)
      rw [l_eqEventS_L1] at hF
      refine K_in ?_
      refine K_region ?_
      refine C_val (V_move (v := (.int .i64 (k4 : Int))) (EV.tmp rfl rfl)) ?_
      refine C_val (V_move (v := v0_0) (EV.tmp rfl rfl)) ?_
      refine C_at .h (fun hp => V_lenR (l := a_a.length) sl34 (EV.tmp rfl rfl) (crd_len hp)) ?_
      refine C_val (V_lss (i := (k4 : Int)) (j := (a_a.length : Int)) (EV.tmp rfl rfl) (EV.tmp rfl rfl)) ?_
      refine C_nil ?_
      refine CW_cond (b := (decide (((k4 : Int) : Int) < (a_a.length : Int)))) (EV.tmp rfl rfl) (fun hb => absurd (hfe11.symm.trans hb) (by decide)) (fun _ => ?_)
      refine CW_exit ?_
      refine CThen_exit ?_
      refine CThen_exit ?_
      refine CIn_self ?_
      refine K_region ?_
      refine C_val (V_assign (v := (.bool true)) (EV.bool _)) ?_
      refine C_nil ?_
      refine CW_ret ?_
      obtain rfl := Option.some.inj hF
      exact End_ret () (.tmp rfl rfl .nil) rfl (.sel .nil)
    · obtain ⟨hk8, hx9, hd10⟩ := drop_cons hd7
      have hfe11 : (decide (((k4 : Int) : Int) < (a_a.length : Int))) = true := decide_eq_true (by omega)
      rw [l_eqEventS_L1] at hF
      refine K_in ?_
      refine K_region ?_
      refine C_val (V_move (v := (.int .i64 (k4 : Int))) (EV.tmp rfl rfl)) ?_
      refine C_val (V_move (v := v0_0) (EV.tmp rfl rfl)) ?_
      refine C_at .h (fun hp => V_lenR (l := a_a.length) sl34 (EV.tmp rfl rfl) (crd_len hp)) ?_
      refine C_val (V_lss (i := (k4 : Int)) (j := (a_a.length : Int)) (EV.tmp rfl rfl) (EV.tmp rfl rfl)) ?_
      refine C_nil ?_
      refine CW_cond (b := (decide (((k4 : Int) : Int) < (a_a.length : Int)))) (EV.tmp rfl rfl) (fun _ => ?_) (fun hb => absurd (hfe11.symm.trans hb) (by decide))
      refine CW_skip ?_
      refine K_block ?_
      refine K_draw [0, 1, 2, 3, 4, 5, 6, 7, 8, 9] [0, 0, 3, 7, 0, 0, 48, 112, 255, 511] [8] mixed (by decide +kernel) ?_
      refine D_val rfl .no (fun ha => V_move (v := v0_0) (EN ha (EV.tmp rfl rfl) rfl)) ?_
      refine D_val rfl .no (fun ha => V_move (v := (.int .i64 (k4 : Int))) (EN ha (EV.tmp rfl rfl) rfl)) ?_
      refine D_idx (a := x6) sl34 ty28.sz rfl .no (EV.tmp rfl rfl) (EV.tmp rfl rfl) rfl rfl .h (Int.natCast_nonneg k4) hx9 (fun k13 j14 => ?_)
      refine D_ldA0 (ul28_0_28 x6) ag28 ty28.sz rfl rfl .no (EV.tmp rfl rfl) rfl .h la28_0_28 (fun _ => ?_)
      refine D_val rfl .no (fun ha => V_move (v := v1_0) (EN ha (EV.tmp rfl rfl) rfl)) ?_
      refine D_val rfl .no (fun ha => V_move (v := (.int .i64 (k4 : Int))) (EN ha (EV.tmp rfl rfl) rfl)) ?_
      obtain ⟨x15, hx16, hF⟩ := bind_some hF
      obtain ⟨hp17, hx18⟩ := ix_some hx16
      refine D_idx (a := x15) sl34 ty28.sz rfl .no (EV.tmp rfl rfl) (EV.tmp rfl rfl) rfl rfl (.t (.t .h)) hp17 hx18 (fun k19 j20 => ?_)
      refine D_ldA0 (ul28_0_28 x15) ag28 ty28.sz rfl rfl .no (EV.tmp rfl rfl) rfl .h la28_0_28 (fun _ => ?_)
      obtain ⟨r21, hx22, hF⟩ := bind_some hF
      refine D_act0 rfl rfl .no .nil .nil (fun ha => X_callS cf23 (.cons (EN ha (EV.tmp rfl rfl) rfl) (.cons (EN ha (EV.tmp rfl rfl) rfl) .nil)) (l_eqEvent_ok ({ Kind := x6.Kind, Text := x6.Text } : Event) ({ Kind := x15.Kind, Text := x15.Text } : Event) _ hx22)) (fun _ => ?_)
      refine D_val rfl .no (fun ha => V_not (b := r21) (EN ha (EV.tmp rfl rfl) rfl)) ?_
      refine D_nil ?_
      refine CW_cond (b := (!r21)) (EV.tmp rfl rfl) (fun hb25 => ?_) (fun hb25 => ?_)
      · rw [if_pos hb25] at hF
        refine K_region ?_
        refine C_val (V_assign (v := (.bool false)) (EV.bool _)) ?_
        refine C_nil ?_
        refine CW_ret ?_
        obtain rfl := Option.some.inj hF
        exact End_ret () (.tmp rfl rfl .nil) rfl (.sel .nil)
      · rw [if_neg (by rw [hb25]; exact Bool.false_ne_true)] at hF
        refine CW_skip ?_
        refine CW_region ?_
        refine C_val (V_move (v := (.int .i64 (k4 : Int))) (EV.tmp rfl rfl)) ?_
        refine C_val (V_add (i := (k4 : Int)) (j := 1) (EV.tmp rfl rfl) (EV.int _ _)) ?_
        refine C_val (V_assign (v := (.int .i64 (IntKind.i64.wrap ((k4 : Int) + 1)))) (EV.tmp rfl rfl)) ?_
        refine C_nil ?_
        have hw24 : IntKind.i64.wrap ((k4 : Int) + 1) = ((k4 + 1 : Nat) : Int) := by rw [wrap_in (by omega) (by omega)]; rfl
        rw [hw24]
        exact ⟨_, Nat.lt_succ_self _, _, k4 + 1, rest5, rfl, (EqL.cons rfl (EqL.cons rfl (EqL.cons rfl (EqL.nil)))).eq, hd10, (.sel (.rd (.t (.t .h)) rfl (.rd (.t (.t (.t .h))) rfl .nil))), hF⟩

/-! laws.FnExactFirstDifference -/
def l_FnExactFirstDifference (a_aA : List Event) (a_aB : List Event) : Option (Bool) :=
  (l_szEventS a_aA 1048576).bind fun r1 =>
  if (decide ((r1 : Int) < 0)) then (
    some true)
  else (
    (l_szEventS a_aB r1).bind fun r4 =>
    if (decide ((r4 : Int) < 0)) then (
      some true)
    else (
      (l_toEventS a_aA).bind fun r7 =>
      (l_toEventS a_aB).bind fun r10 =>
      (s_FirstDifference r7 r10).bind fun r13 =>
      (l_toEventS a_aA).bind fun r16 =>
      (l_toEventS a_aB).bind fun r19 =>
      (i_FirstDifference r16 r19).bind fun r22 =>
      if ((r22 : Int) != r13) then (
        some false)
      else (
        (l_toEventS a_aA).bind fun r25 =>
        (l_eqEventS r16 r25).bind fun r28 =>
        if (!r28) then (
          some false)
        else (
          (l_toEventS a_aB).bind fun r31 =>
          (l_eqEventS r19 r31).bind fun r34 =>
          if (!r34) then (
            some false)
          else (
            some true)))))
theorem l_FnExactFirstDifference_ok (a_aA : List Event) (v0_0 : Value) (a_aB : List Event) (v1_0 : Value) (R : Bool) (hF : l_FnExactFirstDifference a_aA a_aB = some R) :
    Fw.Spec Try.prog 5 [v0_0, v1_0] [crd (RdS 25 rd25) v0_0 a_aA, crd (RdS 25 rd25) v1_0 a_aB] (fun _ : Unit => (.bool R)) (fun _ => []) := by
  refine Spec_enter (n := 45) Try.func5 rfl rfl (rs := [.tmp 4]) rfl rfl rfl ?_
  intro H0 F0
  unfold l_FnExactFirstDifference at hF
  refine K_region ?_
  refine C_val (V_assign (v := (.bool false)) (EV.bool _)) ?_
  refine C_nil ?_
  refine K_region ?_
  refine C_val (V_assign (v := (.int .i64 1048576)) (EV.int _ _)) ?_
  refine C_nil ?_
  refine K_region ?_
  refine C_val (V_move (v := v0_0) (EV.tmp rfl rfl)) ?_
  refine C_val (V_move (v := (.int .i64 1048576)) (EV.tmp rfl rfl)) ?_
  obtain ⟨r1, hx2, hF⟩ := bind_some hF
  refine C_x0 (.rd .h rfl .nil) (X_callS cf13 (.cons (EV.tmp rfl rfl) (.cons (EV.tmp rfl rfl) .nil)) (l_szEventS_ok a_aA v0_0 1048576 _ hx2)) (fun _ => ?_)
  refine C_val (V_assign (v := (.int .i64 r1)) (EV.tmp rfl rfl)) ?_
  refine C_nil ?_
  refine K_in ?_
  refine K_region ?_
  refine C_val (V_move (v := (.int .i64 r1)) (EV.tmp rfl rfl)) ?_
  refine C_val (V_lss (i := r1) (j := 0) (EV.tmp rfl rfl) (EV.int _ _)) ?_
  refine C_nil ?_
  refine CW_cond (b := (decide ((r1 : Int) < 0))) (EV.tmp rfl rfl) (fun hb41 => ?_) (fun hb41 => ?_)
  · rw [if_pos hb41] at hF
    refine K_region ?_
    refine C_val (V_assign (v := (.bool true)) (EV.bool _)) ?_
    refine C_nil ?_
    refine CW_ret ?_
    obtain rfl := Option.some.inj hF
    exact End_ret () (.tmp rfl rfl .nil) rfl (.sel .nil)
  · rw [if_neg (by rw [hb41]; exact Bool.false_ne_true)] at hF
    refine CW_skip ?_
    refine K_region ?_
    refine C_val (V_move (v := v1_0) (EV.tmp rfl rfl)) ?_
    refine C_val (V_move (v := (.int .i64 r1)) (EV.tmp rfl rfl)) ?_
    obtain ⟨r4, hx5, hF⟩ := bind_some hF
    refine C_x0 (.rd (.t .h) rfl .nil) (X_callS cf13 (.cons (EV.tmp rfl rfl) (.cons (EV.tmp rfl rfl) .nil)) (l_szEventS_ok a_aB v1_0 r1 _ hx5)) (fun _ => ?_)
    refine C_val (V_assign (v := (.int .i64 r4)) (EV.tmp rfl rfl)) ?_
    refine C_nil ?_
    refine K_in ?_
    refine K_region ?_
    refine C_val (V_move (v := (.int .i64 r4)) (EV.tmp rfl rfl)) ?_
    refine C_val (V_lss (i := r4) (j := 0) (EV.tmp rfl rfl) (EV.int _ _)) ?_
    refine C_nil ?_
    refine CW_cond (b := (decide ((r4 : Int) < 0))) (EV.tmp rfl rfl) (fun hb40 => ?_) (fun hb40 => ?_)
    · rw [if_pos hb40] at hF
      refine K_region ?_
      refine C_val (V_assign (v := (.bool true)) (EV.bool _)) ?_
      refine C_nil ?_
      refine CW_ret ?_
      obtain rfl := Option.some.inj hF
      exact End_ret () (.tmp rfl rfl .nil) rfl (.sel .nil)
    · rw [if_neg (by rw [hb40]; exact Bool.false_ne_true)] at hF
      refine CW_skip ?_
      refine K_region ?_
      refine C_val (V_move (v := v0_0) (EV.tmp rfl rfl)) ?_
      obtain ⟨r7, hx8, hF⟩ := bind_some hF
      refine C_x1 (.rd .h rfl .nil) (X_callS cf15 (.cons (EV.tmp rfl rfl) .nil) (l_toEventS_ok a_aA v0_0 _ hx8)) (fun p9 => ?_)
      refine C_val (V_move (v := v1_0) (EV.tmp rfl rfl)) ?_
      obtain ⟨r10, hx11, hF⟩ := bind_some hF
      refine C_x1 (.rd (.t (.t .h)) rfl .nil) (X_callS cf15 (.cons (EV.tmp rfl rfl) .nil) (l_toEventS_ok a_aB v1_0 _ hx11)) (fun p12 => ?_)
      obtain ⟨r13, hx14, hF⟩ := bind_some hF
      refine C_x2 (.cons (.t .h) (.cons .h .nil)) (XC_borR frz_own (fun _ => (.cons .nil)) (XC_borR frz_own (fun _ => .nil) (XC_pre (.rd .h rfl (.rd (.t .h) rfl .nil)) (X_callS cf14 (.cons (EV.tmp rfl rfl) (.cons (EV.tmp rfl rfl) .nil)) (s_FirstDifference_ok r7 p9.1 r10 p12.1 _ hx14))))) (fun _ => ?_)
      refine C_val (V_assign (v := (.int .i64 r13)) (EV.tmp rfl rfl)) ?_
      refine C_nil ?_
      refine K_region ?_
      refine C_val (V_move (v := v0_0) (EV.tmp rfl rfl)) ?_
      obtain ⟨r16, hx17, hF⟩ := bind_some hF
      refine C_x1 (.rd (.t (.t .h)) rfl .nil) (X_callS cf15 (.cons (EV.tmp rfl rfl) .nil) (l_toEventS_ok a_aA v0_0 _ hx17)) (fun p18 => ?_)
      refine C_val (V_assign (v := p18.1) (EV.tmp rfl rfl)) ?_
      refine C_nil ?_
      refine K_region ?_
      refine C_val (V_move (v := v1_0) (EV.tmp rfl rfl)) ?_
      obtain ⟨r19, hx20, hF⟩ := bind_some hF
      refine C_x1 (.rd (.t (.t (.t (.t .h)))) rfl .nil) (X_callS cf15 (.cons (EV.tmp rfl rfl) .nil) (l_toEventS_ok a_aB v1_0 _ hx20)) (fun p21 => ?_)
      refine C_val (V_assign (v := p21.1) (EV.tmp rfl rfl)) ?_
      refine C_nil ?_
      refine K_region ?_
      refine C_val (V_move (v := p18.1) (EV.tmp rfl rfl)) ?_
      refine C_val (V_move (v := p21.1) (EV.tmp rfl rfl)) ?_
      obtain ⟨r22, hx23, hF⟩ := bind_some hF
      refine C_x2 (.cons (.t .h) (.cons .h .nil)) (XC_borR frz_own (fun _ => (.cons .nil)) (XC_borR frz_own (fun _ => .nil) (XC_pre (.rd .h rfl (.rd (.t .h) rfl .nil)) (X_callS cf16 (.cons (EV.tmp rfl rfl) (.cons (EV.tmp rfl rfl) .nil)) (i_FirstDifference_ok r16 p18.1 r19 p21.1 _ hx23))))) (fun _ => ?_)
      refine C_val (V_assign (v := (.int .i64 r22)) (EV.tmp rfl rfl)) ?_
      refine C_nil ?_
      refine K_in ?_
      refine K_region ?_
      refine C_val (V_move (v := (.int .i64 r22)) (EV.tmp rfl rfl)) ?_
      refine C_val (V_move (v := (.int .i64 r13)) (EV.tmp rfl rfl)) ?_
      refine C_val (V_neq (i := r22) (j := r13) (EV.tmp rfl rfl) (EV.tmp rfl rfl)) ?_
      refine C_nil ?_
      refine CW_cond (b := ((r22 : Int) != r13)) (EV.tmp rfl rfl) (fun hb39 => ?_) (fun hb39 => ?_)
      · rw [if_pos hb39] at hF
        refine K_region ?_
        refine C_val (V_assign (v := (.bool false)) (EV.bool _)) ?_
        refine C_nil ?_
        refine CW_ret ?_
        obtain rfl := Option.some.inj hF
        exact End_ret () (.tmp rfl rfl .nil) rfl (.sel .nil)
      · rw [if_neg (by rw [hb39]; exact Bool.false_ne_true)] at hF
        refine CW_skip ?_
        refine K_in ?_
        refine K_region ?_
        refine C_val (V_move (v := p18.1) (EV.tmp rfl rfl)) ?_
        refine C_val (V_move (v := v0_0) (EV.tmp rfl rfl)) ?_
        obtain ⟨r25, hx26, hF⟩ := bind_some hF
        refine C_x1 (.rd (.t (.t (.t (.t .h)))) rfl .nil) (X_callS cf15 (.cons (EV.tmp rfl rfl) .nil) (l_toEventS_ok a_aA v0_0 _ hx26)) (fun p27 => ?_)
        obtain ⟨r28, hx29, hF⟩ := bind_some hF
        refine C_x2 (.cons (.t .h) (.cons .h .nil)) (XC_borR frz_own (fun _ => (.cons .nil)) (XC_borR frz_own (fun _ => .nil) (XC_pre (.rd .h rfl (.rd (.t .h) rfl .nil)) (X_callS cf17 (.cons (EV.tmp rfl rfl) (.cons (EV.tmp rfl rfl) .nil)) (l_eqEventS_ok r16 p18.1 r25 p27.1 _ hx29))))) (fun _ => ?_)
        refine C_val (V_not (b := r28) (EV.tmp rfl rfl)) ?_
        refine C_nil ?_
        refine CW_cond (b := (!r28)) (EV.tmp rfl rfl) (fun hb38 => ?_) (fun hb38 => ?_)
        · rw [if_pos hb38] at hF
          refine K_region ?_
          refine C_val (V_assign (v := (.bool false)) (EV.bool _)) ?_
          refine C_nil ?_
          refine CW_ret ?_
          obtain rfl := Option.some.inj hF
          exact End_ret () (.tmp rfl rfl .nil) rfl (.sel .nil)
        · rw [if_neg (by rw [hb38]; exact Bool.false_ne_true)] at hF
          refine CW_skip ?_
          refine K_in ?_
          refine K_region ?_
          refine C_val (V_move (v := p21.1) (EV.tmp rfl rfl)) ?_
          refine C_val (V_move (v := v1_0) (EV.tmp rfl rfl)) ?_
          obtain ⟨r31, hx32, hF⟩ := bind_some hF
          refine C_x1 (.rd (.t (.t (.t (.t (.t (.t .h)))))) rfl .nil) (X_callS cf15 (.cons (EV.tmp rfl rfl) .nil) (l_toEventS_ok a_aB v1_0 _ hx32)) (fun p33 => ?_)
          obtain ⟨r34, hx35, hF⟩ := bind_some hF
          refine C_x2 (.cons (.t (.t (.t .h))) (.cons .h .nil)) (XC_borR frz_own (fun _ => (.cons .nil)) (XC_borR frz_own (fun _ => .nil) (XC_pre (.rd .h rfl (.rd (.t .h) rfl .nil)) (X_callS cf17 (.cons (EV.tmp rfl rfl) (.cons (EV.tmp rfl rfl) .nil)) (l_eqEventS_ok r19 p21.1 r31 p33.1 _ hx35))))) (fun _ => ?_)
          refine C_val (V_not (b := r34) (EV.tmp rfl rfl)) ?_
          refine C_nil ?_
          refine CW_cond (b := (!r34)) (EV.tmp rfl rfl) (fun hb37 => ?_) (fun hb37 => ?_)
          · rw [if_pos hb37] at hF
            refine K_region ?_
            refine C_val (V_assign (v := (.bool false)) (EV.bool _)) ?_
            refine C_nil ?_
            refine CW_ret ?_
            obtain rfl := Option.some.inj hF
            exact End_ret () (.tmp rfl rfl .nil) rfl (.sel .nil)
          · rw [if_neg (by rw [hb37]; exact Bool.false_ne_true)] at hF
            refine CW_skip ?_
            refine K_region ?_
            refine C_val (V_assign (v := (.bool true)) (EV.bool _)) ?_
            refine C_nil ?_
            refine CW_ret ?_
            obtain rfl := Option.some.inj hF
            exact End_ret () (.tmp rfl rfl .nil) rfl (.sel .nil)

end Go.Proofs.Ytlckjkdnipgnhaa

/-
  Plain laws: FirstDifference.
-/
set_option maxRecDepth 100000
set_option linter.unusedVariables false
namespace Go.Proofs.Ytlckjkdnipgnhaa
open Go Go.Fw

theorem sz_Event : Sz l_szEvent (fun a => a.Text.length) wf25 := by
  intro a ⟨_, hw⟩ left hl hm
  have hw' : a.Text.length ≤ 140737488351232 := hw
  unfold l_szEvent
  rw [wrap_in (by omega) (by omega)]
  by_cases h : left - (a.Text.length : Int) < 0
  · rw [if_pos (by simpa using h)]; exact ⟨-1, rfl, .inr (by omega)⟩
  · rw [if_neg (by simpa using h)]; exact ⟨_, rfl, .inl ⟨rfl, by omega⟩⟩
theorem sz_EventS : Sz l_szEventS (fun a => a.length + (a.map fun a : Event => a.Text.length).sum) (wfSl wf25) :=
  sz_slice sz_Event (fun _ _ => rfl) (fun _ _ _ _ => rfl) (fun _ _ => rfl)
theorem to_Event (a : Event) : l_toEvent a = some a := rfl
theorem to_EventS (a : List Event) (h : a.length < 4294967296) : l_toEventS a = some a := by
  unfold l_toEventS
  rw [mkz_nat _ _ h, Option.bind_some]
  refine to_all (W := fun _ => True) (fun _ _ => rfl) (fun x r k c _ hk => ?_) (fun _ _ => trivial)
  rw [l_toEventS_L1, to_Event]
  simp [chk, hk]
theorem eq_Event (a : Event) : l_eqEvent a a = some true := by simp [l_eqEvent]
theorem eq_EventS (a : List Event) : l_eqEventS a a = some true := by
  unfold l_eqEventS
  simp only [bne_self_eq_false]
  refine eq_loop a (fun _ => rfl) (fun x r k h => ?_) a 0 rfl
  rw [l_eqEventS_L1, ix_nat, h]
  simp [eq_Event]

/-- Where two lists part. -/
def fd : List Event → List Event → Nat → Int
  | [], [], _ => -1
  | [], _ :: _, k => k
  | _ :: _, [], k => k
  | x :: a, y :: b, k => if x.Kind = y.Kind ∧ x.Text = y.Text then fd a b (k + 1) else k

theorem i_fd (a b : List Event) (ha : a.length ≤ 1048576) (hb : b.length ≤ 1048576) : ∀ (m k : Nat), k ≤ a.length → k ≤ b.length → (if b.length < a.length then b.length else a.length) < k + m →
    i_FirstDifference_L1 a b m k = some (fd (a.drop k) (b.drop k) k)
  | 0, k, h1, h2, h3 => by split at h3 <;> omega
  | m + 1, k, h1, h2, h3 => by
    rw [i_FirstDifference_L1]
    by_cases h : k < a.length ∧ k < b.length
    · have hlt : ((k : Int) < (if (b.length : Int) < (a.length : Int) then (b.length : Int) else (a.length : Int))) := by split <;> omega
      rw [if_pos (by simpa using hlt), ix_nat, ix_nat, List.getElem?_eq_getElem h.1, List.getElem?_eq_getElem h.2, List.drop_eq_getElem_cons h.1, List.drop_eq_getElem_cons h.2]
      simp only [Option.bind_some, fd]
      by_cases he : a[k].Kind = b[k].Kind ∧ a[k].Text = b[k].Text
      · rw [if_neg (by simp [he]), if_pos he, show ((k : Int) + 1) = ((k + 1 : Nat) : Int) from rfl, wrap_nat (by omega)]
        exact i_fd a b ha hb m (k + 1) h.1 h.2 (by split at h3 <;> split <;> omega)
      · rw [if_pos (by simp only [Bool.not_eq_true', Bool.and_eq_false_iff, beq_eq_false_iff_ne]; exact Classical.not_and_iff_not_or_not.1 he), if_neg he]
    · have hge : ¬ ((k : Int) < (if (b.length : Int) < (a.length : Int) then (b.length : Int) else (a.length : Int))) := by split <;> omega
      rw [if_neg (by simpa using hge)]
      by_cases hl : a.length = b.length
      · have : k = a.length := by omega
        subst this
        rw [List.drop_of_length_le (Nat.le_refl _), List.drop_of_length_le (by omega), if_pos (by simp [hl])]
        rfl
      · rw [if_neg (by simp; omega)]
        by_cases hab : a.length < b.length
        · have : k = a.length := by omega
          subst this
          rw [List.drop_of_length_le (Nat.le_refl _), List.drop_eq_getElem_cons hab, if_neg (by omega)]
          rfl
        · have : k = b.length := by omega
          subst this
          have hba : b.length < a.length := by omega
          rw [List.drop_of_length_le (Nat.le_refl (List.length b)), List.drop_eq_getElem_cons hba, if_pos (by omega)]
          rfl
theorem s_fd (a b : List Event) (ha : a.length ≤ 1048576) (hb : b.length ≤ 1048576) : ∀ (m k : Nat), k ≤ a.length → k ≤ b.length → a.length < k + m →
    s_FirstDifference_L1 a b m k = some (fd (a.drop k) (b.drop k) k)
  | 0, k, h1, h2, h3 => by omega
  | m + 1, k, h1, h2, h3 => by
    rw [s_FirstDifference_L1]
    by_cases h : k < a.length ∧ k < b.length
    · rw [if_pos (by simp [h.1, h.2]), ix_nat, ix_nat, List.getElem?_eq_getElem h.1, List.getElem?_eq_getElem h.2, List.drop_eq_getElem_cons h.1, List.drop_eq_getElem_cons h.2]
      simp only [Option.bind_some, fd]
      by_cases he : a[k].Kind = b[k].Kind ∧ a[k].Text = b[k].Text
      · rw [if_neg (by simp [he]), if_pos he, show ((k : Int) + 1) = ((k + 1 : Nat) : Int) from rfl, wrap_nat (by omega)]
        exact s_fd a b ha hb m (k + 1) h.1 h.2 (by omega)
      · rw [if_pos (by simp only [Bool.not_eq_true', Bool.and_eq_false_iff, beq_eq_false_iff_ne]; exact Classical.not_and_iff_not_or_not.1 he), if_neg he]
    · rw [if_neg (by simp only [Bool.and_eq_true, decide_eq_true_eq]; omega)]
      by_cases hl : a.length = b.length
      · have : k = a.length := by omega
        subst this
        rw [List.drop_of_length_le (Nat.le_refl _), List.drop_of_length_le (by omega), if_pos (by simp [hl])]
        rfl
      · rw [if_neg (by simp; omega)]
        by_cases hab : a.length < b.length
        · have : k = a.length := by omega
          subst this
          rw [List.drop_of_length_le (Nat.le_refl _), List.drop_eq_getElem_cons hab, if_neg (by omega)]
          rfl
        · have : k = b.length := by omega
          subst this
          have hba : b.length < a.length := by omega
          rw [List.drop_of_length_le (Nat.le_refl (List.length b)), List.drop_eq_getElem_cons hba, if_pos (by omega)]
          rfl
theorem i_FirstDifference_eq (a b : List Event) (ha : a.length ≤ 1048576) (hb : b.length ≤ 1048576) : i_FirstDifference a b = some (fd a b 0) := by
  have := i_fd a b ha hb _ 0 (by omega) (by omega) (show _ < 0 + (((if (b.length : Int) < (a.length : Int) then (b.length : Int) else (a.length : Int)) - 0).toNat + 2) by split <;> split <;> omega)
  simpa [i_FirstDifference] using this
theorem s_FirstDifference_eq (a b : List Event) (ha : a.length ≤ 1048576) (hb : b.length ≤ 1048576) : s_FirstDifference a b = some (fd a b 0) := by
  have := s_fd a b ha hb _ 0 (by omega) (by omega) (show _ < 0 + (((a.length : Int) - 0).toNat + 2) by omega)
  simpa [s_FirstDifference] using this

theorem law_fnExactFirstDifference {a b : List Event} (wa : wfSl wf25 a) (wb : wfSl wf25 b) : l_FnExactFirstDifference a b = some true := by
  unfold l_FnExactFirstDifference
  obtain ⟨n1, e1, h1⟩ := sz_EventS a wa 1048576 (by omega) (by omega)
  rw [e1, Option.bind_some]
  dsimp only at h1
  rcases h1 with ⟨rfl, p1⟩ | p1
  · rw [if_neg (by simp only [decide_eq_true_eq]; omega)]
    obtain ⟨n2, e2, h2⟩ := sz_EventS b wb _ p1 (by omega)
    rw [e2, Option.bind_some]
    dsimp only at h2
    rcases h2 with ⟨rfl, p2⟩ | p2
    · rw [if_neg (by simp only [decide_eq_true_eq]; omega)]
      have ha : a.length ≤ 1048576 := by omega
      have hb : b.length ≤ 1048576 := by omega
      simp [to_EventS a (by omega), to_EventS b (by omega), i_FirstDifference_eq a b ha hb, s_FirstDifference_eq a b ha hb, eq_EventS]
    · rw [if_pos (by simpa using p2)]
  · rw [if_pos (by simpa using p1)]
end Go.Proofs.Ytlckjkdnipgnhaa

/-
  The row FnExactFirstDifference.
-/
set_option maxRecDepth 100000
namespace Go.Proofs.Ytlckjkdnipgnhaa.fnExactFirstDifference
open Go Go.Fw Go.ChangeShapes Go.WideShapes Go.ChangeAt Go.RowKit

theorem own : ownKnob Try.prog.godebug = none := by kernel_rfl
theorem laidOut : laidOutB Try.prog = true := by kernel_rfl

set_option maxRecDepth 100000 in
theorem lifted (os : Os) (started : os.Started) (H : Type) (enc : TypeId × Value → H) :
    ReturnsInHanded {} Try.checked os 5 .any (Rows.fnExactFirstDifferenceSpec.pre6 enc Try.prog Try.f5 Rows.fnExactFirstDifferenceRow.domain false) (Rows.fnExactFirstDifferenceSpec.post enc Try.prog Try.f5 false true false false) := by
  refine returnsInHanded_of_change_sized (C := Try.checked) own started (by kernel_rfl) Try.func5
    (ChangeSpec.witness6 (enc := enc) (C := Try.checked) false ⟨#[], #[.slice none 0 0, .slice none 0 0], []⟩ 16 (by kernel_rfl) (by kernel_rfl) (by kernel_rfl) (by kernel_rfl)) ?_
  intro W base args ds gs before hval hW _ hwt _
  have hW' := hW
  obtain ⟨p, q, hA0, hV, rfl, hfz, hnd⟩ := hW
  obtain ⟨rfl, rfl⟩ := trodVars_none hV
  have hA : DataW.TrodAll enc Try.prog W 0 (fun _ => true) true [31, 31] args.toList ds p := hA0
  have hw : ∀ n ∈ DataW.weightsEach Try.prog [31, 31] ds, n ≤ reachBytes := fun n hn => by
    have := List.all_eq_true.1 hwt n (by rw [List.append_nil]; exact hn)
    simpa using this
  obtain ⟨v0, vs0, d0, ds0, p0, ρ0, H0, av0, a0, e0, rfl, hA0, hw0, r0, f0, u0, i0, rv0, q0, w0⟩ := opn_arg hA hw (Opn.slice (s := 2) (by kernel_rfl) (by kernel_rfl) (by decide) (Nat.lt_of_lt_of_le (by decide) (Nat.le_of_eq (show 24 = _ from by kernel_rfl))) op25) (fun H v a h => by obtain ⟨_, _, rfl⟩ := RdS.len h; kernel_rfl) (r := .any) (base := base) (fun v h => hval 0 31 v rfl (arg_at h)) (Rel.nil _ W) Frn.nil
  obtain ⟨v1, vs1, d1, ds1, p1, ρ1, H1, av1, a1, e1, rfl, hA1, hw1, r1, f1, u1, i1, rv1, q1, w1⟩ := opn_arg hA0 hw0 (Opn.slice (s := 2) (by kernel_rfl) (by kernel_rfl) (by decide) (Nat.lt_of_lt_of_le (by decide) (Nat.le_of_eq (show 24 = _ from by kernel_rfl))) op25) (fun H v a h => by obtain ⟨_, _, rfl⟩ := RdS.len h; kernel_rfl) (r := .any) (base := base) (fun v h => hval 1 31 v rfl (arg_at (by rw [e0]; exact h))) r0 f0
  obtain ⟨en, rfl⟩ := opn_none hA1
  subst en
  have hargs : RelVs ρ1 [av0, av1] args.toList := by
    rw [e0, e1]
    exact (.cons _ _ _ _ (rv0.up u1) (.cons _ _ _ _ rv1 .nil))
  have hlaw := law_fnExactFirstDifference w0 w1
  refine ((l_FnExactFirstDifference_ok a0 av0 a1 av1 true hlaw) H1 [] (Ctx.dup (Ctx.dup (Ctx.start _) q1 rfl) (Mono.up q0 i1) rfl) ρ1 W args r1 hargs).mono ?_
  rintro e w' ⟨v, r, ρ', H', rfl, h1, h2, h3, x, h5, -⟩
  have h6 : r = .bool true := h5
  subst h6
  refine ⟨_, rfl, ?_⟩
  rw [h1.bool_inv]
  refine law_post hW' rfl laidOut (by kernel_rfl) rfl (by kernel_rfl) (fun d => ?_) (h3.below f1)
  by_cases hd : d = [d0, d1]
  · subst hd; exact .inl ⟨rfl, rfl, rfl⟩
  · exact .inr (by simpa using hd)

theorem over : Rows.fnExactFirstDifferenceRow.holds Try.pinned (OpenSpec.ofChange Rows.fnExactFirstDifferenceSpec) :=
  OpenClaim.holds_of_wide 5 Try.f5 rfl rfl rfl rfl rfl rfl rfl ⟨rfl, rfl, rfl, rfl, rfl⟩ rfl rfl rfl rfl rfl (by kernel_rfl) Try.func5 (by kernel_rfl)
    (of_decide_eq_true (by kernel_rfl)) (by unfold Func.isWrapper; first | (rw [if_pos (by decide +kernel)]; kernel_rfl) | (rw [if_neg (by decide +kernel)]; exact ⟨rfl, rfl⟩))
    (fun os started H enc _ => lifted os started H enc)

theorem proved : Rows.FnExactFirstDifferenceSaid := over
end Go.Proofs.Ytlckjkdnipgnhaa.fnExactFirstDifference
