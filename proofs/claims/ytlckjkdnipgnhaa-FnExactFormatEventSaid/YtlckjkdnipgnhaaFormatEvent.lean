/-
  FnExactFormatEvent: the functions (written by a program), the plain law, the row.
-/
import Derived.Test.YtlckjkdnipgnhaaFx
import Derived.Test.YtlckjkdnipgnhaaProg
import Derived.KernelRfl
import Derived.Test.YtlckjkdnipgnhaaRows
import Derived.WalkKit
/-
  Functions of the program as Lean functions, and that the calls return what these say. Written by a program (gen.py).
-/
set_option maxRecDepth 100000
set_option linter.unusedVariables false
namespace Go.Proofs.Ytlckjkdnipgnhaa
open Go Go.Fw

structure Event where
  Kind : Int
  Text : (List UInt8)
def rd25 (_ : AHeap) (v : Value) (a : Event) : Prop := v = .agg [(.int .i64 a.Kind), (sv a.Text)].toArray
instance : Mono rd25 := ⟨fun h _ => h⟩
instance : Cells rd25 2 := ⟨fun h => by
  subst h
  exact ⟨rfl, rfl⟩⟩
def rd28 (_ : AHeap) (v : Value) (a : Event) : Prop := v = .agg [(.int .i64 a.Kind), (sv a.Text)].toArray
instance : Mono rd28 := ⟨fun h _ => h⟩
instance : Cells rd28 2 := ⟨fun h => by
  subst h
  exact ⟨rfl, rfl⟩⟩
theorem ty3 : TY Try.prog 3 1 8 (.int .i64 0) := by unfold TY; kernel_rfl
theorem ty9 : TY Try.prog 9 1 16 (.string ⟨[].toArray⟩) := by unfold TY; kernel_rfl
theorem ty25 : TY Try.prog 25 2 24 (.agg [(.int .i64 0), (.string ⟨[].toArray⟩)].toArray) := by unfold TY; kernel_rfl
theorem ty28 : TY Try.prog 28 2 24 (.agg [(.int .i64 0), (.string ⟨[].toArray⟩)].toArray) := by unfold TY; kernel_rfl
theorem ag3 : AG Try.prog 3 false := by unfold AG; kernel_rfl
theorem ag9 : AG Try.prog 9 false := by unfold AG; kernel_rfl
theorem ag25 : AG Try.prog 25 true := by unfold AG; kernel_rfl
theorem ag28 : AG Try.prog 28 true := by unfold AG; kernel_rfl
theorem sl41 : SL Try.prog 41 9 := by unfold SL; kernel_rfl
theorem st9 : Fw.ST Try.prog 9 := by unfold Fw.ST; kernel_rfl
theorem fd25_0 : FD Try.prog 25 0 0 := by unfold FD; kernel_rfl
theorem fd25_1 : FD Try.prog 25 1 1 := by unfold FD; kernel_rfl
theorem fd28_0 : FD Try.prog 28 0 0 := by unfold FD; kernel_rfl
theorem fd28_1 : FD Try.prog 28 1 1 := by unfold FD; kernel_rfl
theorem fa25_0 : fieldAt Try.prog 25 0 = some (3, 0, 1) := by kernel_rfl
theorem fa25_1 : fieldAt Try.prog 25 1 = some (9, 1, 1) := by kernel_rfl
def wf25 (a : Event) : Prop := wfInt a.Kind ∧ wfStr a.Text
theorem sh25 : ∀ H v a, rd25 H v a → isAgV v = aggT Try.prog 25 := by
  intro H v a h
  subst h
  kernel_rfl
theorem op25 : Opn Try.prog 25 rd25 wf25 := by
  intro T enc w fuel cs x h hw ρ H hr hF
  have hl := opn_len fa25_0 h (n := 2) ty25.sz.cells
  obtain ⟨ρ0, H0, av0, a0, r0, f0, u0, i0, v0, q0, w0⟩ := opn_field fa25_0 h hw (Opn.int (by kernel_rfl)) hr hF
  obtain ⟨ρ1, H1, av1, a1, r1, f1, u1, i1, v1, q1, w1⟩ := opn_field fa25_1 h hw (Opn.str (by kernel_rfl)) r0 f0
  obtain rfl : av0 = (.int .i64 a0) := q0
  replace v0 := v0.up u1
  obtain rfl : av1 = (sv a1) := q1
  have hv := RelVs.field (o := 0) v0 (RelVs.field (o := 1) v1 (RelVs.end hl))
  rw [List.drop_zero] at hv
  refine ⟨ρ1, H1, (.agg [(.int .i64 a0), (sv a1)].toArray : Value), ({ Kind := a0, Text := a1 } : Event), r1, f1, (u0.trans u1), (i0.trans i1), ?_, ?_, w0, w1⟩
  · exact hv
  · exact rfl
theorem cf7 : CF Try.prog 7 := fun _ _ => Try.call7 _ _
theorem cf8 : CF Try.prog 8 := fun _ _ => Try.call8 _ _
theorem cf9 : CF Try.prog 9 := fun _ _ => Try.call9 _ _
theorem cf10 : CF Try.prog 10 := fun _ _ => Try.call10 _ _
theorem cf11 : CF Try.prog 11 := fun _ _ => Try.call11 _ _
theorem cf12 : CF Try.prog 12 := fun _ _ => Try.call12 _ _
theorem cf20 : CF Try.prog 20 := fun _ _ => Try.call20 _ _
theorem cf21 : CF Try.prog 21 := fun _ _ => Try.call21 _ _
theorem cf22 : CF Try.prog 22 := fun _ _ => Try.call22 _ _

/-! laws.szEvent -/
def l_szEvent (a_a : Event) (a_left : Int) : Option (Int) :=
  if (decide (((IntKind.i64.wrap (a_left - ((a_a.Text).length : Int))) : Int) < 0)) then (
    some (-1))
  else (
    some (IntKind.i64.wrap (a_left - ((a_a.Text).length : Int))))
theorem l_szEvent_ok (H : AHeap) (a_a : Event) (a_left : Int) (R : Int) (hF : l_szEvent a_a a_left = some R) :
    AC Try.prog 9 [(.agg [(.int .i64 a_a.Kind), (sv a_a.Text)].toArray), (.int .i64 a_left)] H (fun r H' => Sub H H' ∧ rdInt H' r R) := by
  refine AC_enter (n := 13) Try.func9 rfl rfl (ts := [4]) rfl rfl rfl rfl ?_
  unfold l_szEvent at hF
  refine S_region ?_
  refine A_box false ty25.sz (EV.tmp rfl rfl) (v := (.agg [(.int .i64 a_a.Kind), (sv a_a.Text)].toArray)) rfl ?_
  intro k1 H2 hn3
  have hs4 := Sub.trans (Sub.refl H) hn3.sub
  have hb5 := hn3.get
  have hlo6 := Nat.le_trans (Sub.refl H).len hn3.lt
  refine AOps_val (V_assign (v := (.int .i64 0)) (EV.int _ _)) ?_
  refine AOps_nil ?_
  refine S_region ?_
  refine AOps_val (V_move (v := (.int .i64 a_left)) (EV.tmp rfl rfl)) ?_
  refine AOps_val (V_fieldAddr (off := 1) fd25_1 (EV.tmp rfl rfl)) ?_
  refine AOps_val (V_load (e := (.agg [(.int .i64 a_a.Kind), (sv a_a.Text)].toArray)) (v := (sv a_a.Text)) ag9 (EV.tmp rfl rfl) hb5 rfl rfl) ?_
  refine AOps_val (V_lenStr (s := a_a.Text) st9 (EV.tmp rfl rfl)) ?_
  refine AOps_val (V_sub (i := a_left) (j := ((a_a.Text).length : Int)) (EV.tmp rfl rfl) (EV.tmp rfl rfl)) ?_
  refine AOps_val (V_assign (v := (.int .i64 (IntKind.i64.wrap (a_left - ((a_a.Text).length : Int))))) (EV.tmp rfl rfl)) ?_
  refine AOps_nil ?_
  refine S_in ?_
  refine S_region ?_
  refine AOps_val (V_move (v := (.int .i64 (IntKind.i64.wrap (a_left - ((a_a.Text).length : Int))))) (EV.tmp rfl rfl)) ?_
  refine AOps_val (V_lss (i := (IntKind.i64.wrap (a_left - ((a_a.Text).length : Int)))) (j := 0) (EV.tmp rfl rfl) (EV.int _ _)) ?_
  refine AOps_nil ?_
  refine AW_cond (t := (decide (((IntKind.i64.wrap (a_left - ((a_a.Text).length : Int))) : Int) < 0))) (EV.tmp rfl rfl) (fun hb7 => ?_) (fun hb7 => ?_)
  · rw [if_pos hb7] at hF
    refine S_region ?_
    refine AOps_val (V_assign (v := (.int .i64 (-1))) (EV.int _ _)) ?_
    refine AOps_nil ?_
    refine AW_ret ?_
    obtain rfl := Option.some.inj hF
    exact ⟨hs4, rfl⟩
  · rw [if_neg (by rw [hb7]; exact Bool.false_ne_true)] at hF
    refine AW_skip ?_
    refine S_region ?_
    refine AOps_val (V_move (v := (.int .i64 (IntKind.i64.wrap (a_left - ((a_a.Text).length : Int))))) (EV.tmp rfl rfl)) ?_
    refine AOps_val (V_assign (v := (.int .i64 (IntKind.i64.wrap (a_left - ((a_a.Text).length : Int))))) (EV.tmp rfl rfl)) ?_
    refine AOps_nil ?_
    refine AW_ret ?_
    obtain rfl := Option.some.inj hF
    exact ⟨hs4, rfl⟩

/-! laws.toEvent -/
def l_toEvent (a_a : Event) : Option (Event) :=
  some ({ Kind := a_a.Kind, Text := a_a.Text } : Event)
theorem l_toEvent_ok (H : AHeap) (a_a : Event) (R : Event) (hF : l_toEvent a_a = some R) :
    AC Try.prog 11 [(.agg [(.int .i64 a_a.Kind), (sv a_a.Text)].toArray)] H (fun r H' => Sub H H' ∧ rd28 H' r R) := by
  refine AC_enterC (n := 11) (a := 2) Try.func11 rfl rfl rfl ag28 ty28.sz (by decide) rfl rfl ?_
  unfold l_toEvent at hF
  refine S_region ?_
  refine A_box false ty25.sz (EV.tmp rfl rfl) (v := (.agg [(.int .i64 a_a.Kind), (sv a_a.Text)].toArray)) rfl ?_
  intro k1 H2 hn3
  have hs4 := Sub.trans (Sub.refl H) hn3.sub
  have hb5 := hn3.get
  have hlo6 := Nat.le_trans (Sub.refl H).len hn3.lt
  refine A_alloc true ty28 rfl rfl ?_
  intro k7 H8 hn9
  have hs10 := Sub.trans hs4 hn9.sub
  have hb11 := Sub.at hn9.sub hb5
  have hb12 := hn9.get
  have hlo13 := Nat.le_trans hs4.len hn9.lt
  have hne14 : k7 ≠ k1 := fun e => by have := lt_of_get hb5; have := hn9.id; omega
  have hne15 : k1 ≠ k7 := fun e => hne14 e.symm
  refine AOps_nil ?_
  refine S_region ?_
  refine A_alloc true ty28 rfl rfl ?_
  intro k16 H17 hn18
  have hs19 := Sub.trans hs10 hn18.sub
  have hb20 := Sub.at hn18.sub hb11
  have hb21 := Sub.at hn18.sub hb12
  have hb22 := hn18.get
  have hlo23 := Nat.le_trans hs10.len hn18.lt
  have hne24 : k16 ≠ k1 := fun e => by have := lt_of_get hb11; have := hn18.id; omega
  have hne25 : k1 ≠ k16 := fun e => hne24 e.symm
  have hne26 : k16 ≠ k7 := fun e => by have := lt_of_get hb12; have := hn18.id; omega
  have hne27 : k7 ≠ k16 := fun e => hne26 e.symm
  refine AOps_nil ?_
  refine S_region ?_
  refine AOps_val (V_fieldAddr (off := 0) fd25_0 (EV.tmp rfl rfl)) ?_
  refine AOps_val (V_load (e := (.agg [(.int .i64 a_a.Kind), (sv a_a.Text)].toArray)) (v := (.int .i64 a_a.Kind)) ag3 (EV.tmp rfl rfl) hb20 rfl rfl) ?_
  refine AOps_val (V_fieldAddr (off := 0) fd28_0 (EV.tmp rfl rfl)) ?_
  refine A_store (b := ⟨[], 28, true, true⟩) (e := (.agg [(.int .i64 0), (sv [])].toArray)) (e' := (.agg [(.int .i64 a_a.Kind), (sv [])].toArray)) (v := (.int .i64 a_a.Kind)) ty3.sz (EV.tmp rfl rfl) (EV.tmp rfl rfl) hb22 rfl rfl (by decide) (Nat.le_of_ble_eq_true rfl) rfl ?_
  intro H28 hsb29 him30 hb31
  replace him30 := him30 rfl
  have hs32 := SubBut.sub hsb29 hs19 (fun j e => by obtain rfl := Option.some.inj e; exact hlo23)
  have hb33 := SubBut.at hsb29 hb20 (fun e => hne24 (Option.some.inj e))
  have hb34 := SubBut.at hsb29 hb21 (fun e => hne26 (Option.some.inj e))
  refine AOps_nil ?_
  refine S_region ?_
  refine AOps_val (V_fieldAddr (off := 1) fd25_1 (EV.tmp rfl rfl)) ?_
  refine AOps_val (V_load (e := (.agg [(.int .i64 a_a.Kind), (sv a_a.Text)].toArray)) (v := (sv a_a.Text)) ag9 (EV.tmp rfl rfl) hb33 rfl rfl) ?_
  refine AOps_val (V_fieldAddr (off := 1) fd28_1 (EV.tmp rfl rfl)) ?_
  refine A_store (b := ⟨[], 28, true, true⟩) (e := (.agg [(.int .i64 a_a.Kind), (sv [])].toArray)) (e' := (.agg [(.int .i64 a_a.Kind), (sv a_a.Text)].toArray)) (v := (sv a_a.Text)) ty9.sz (EV.tmp rfl rfl) (EV.tmp rfl rfl) hb31 rfl rfl (by decide) (Nat.le_of_ble_eq_true rfl) rfl ?_
  intro H35 hsb36 him37 hb38
  replace him37 := him37 rfl
  have hs39 := SubBut.sub hsb36 hs32 (fun j e => by obtain rfl := Option.some.inj e; exact hlo23)
  have hb40 := SubBut.at hsb36 hb33 (fun e => hne24 (Option.some.inj e))
  have hb41 := SubBut.at hsb36 hb34 (fun e => hne26 (Option.some.inj e))
  refine AOps_nil ?_
  refine S_region ?_
  refine AOps_val (V_loadA (s := 2) (e := (.agg [(.int .i64 a_a.Kind), (sv a_a.Text)].toArray)) (l := [(.int .i64 a_a.Kind), (sv a_a.Text)]) ag28 ty28.sz (EV.tmp rfl rfl) hb38 rfl (by decide) (Nat.le_of_ble_eq_true rfl) rfl) ?_
  refine A_store (b := ⟨[], 28, true, true⟩) (e := (.agg [(.int .i64 0), (sv [])].toArray)) (e' := (.agg [(.int .i64 a_a.Kind), (sv a_a.Text)].toArray)) (v := (.agg [(.int .i64 a_a.Kind), (sv a_a.Text)].toArray)) ty28.sz (EV.tmp rfl rfl) (EV.tmp rfl rfl) hb41 rfl rfl (by decide) (Nat.le_of_ble_eq_true rfl) rfl ?_
  intro H42 hsb43 him44 hb45
  replace him44 := him44 rfl
  have hs46 := SubBut.sub hsb43 hs39 (fun j e => by obtain rfl := Option.some.inj e; exact hlo13)
  have hb47 := SubBut.at hsb43 hb40 (fun e => hne14 (Option.some.inj e))
  have hb48 := SubBut.at hsb43 hb38 (fun e => hne27 (Option.some.inj e))
  refine AOps_nil ?_
  refine AW_ret ?_
  obtain rfl := Option.some.inj hF
  exact ⟨_, _, _, rfl, hb45, rfl, rfl, hs46, rfl⟩

/-! spec.l1In -/
def s_l1In (a_x : Int) (a_low : Int) (a_high : Int) : Option (Bool) :=
  some ((decide ((a_low : Int) ≤ a_x)) && (decide ((a_x : Int) ≤ a_high)))
theorem s_l1In_ok (H : AHeap) (a_x : Int) (a_low : Int) (a_high : Int) (R : Bool) (hF : s_l1In a_x a_low a_high = some R) :
    AC Try.prog 20 [(.int .i64 a_x), (.int .i64 a_low), (.int .i64 a_high)] H (fun r H' => Sub H H' ∧ rdBool H' r R) := by
  refine AC_enter (n := 15) Try.func20 rfl rfl (ts := [6]) rfl rfl rfl rfl ?_
  unfold s_l1In at hF
  refine S_region ?_
  refine AOps_val (V_assign (v := (.bool false)) (EV.bool _)) ?_
  refine AOps_nil ?_
  refine S_region ?_
  refine AOps_cut (K1 := fun f' H' => H = H' ∧ ∃ g, f' = updL g [(6, (.bool ((decide ((a_low : Int) ≤ a_x)) && (decide ((a_x : Int) ≤ a_high)))))]) ?_ ?_
  · refine AOps_val (V_move (v := (.int .i64 a_x)) (EV.tmp rfl rfl)) ?_
    refine AOps_val (V_move (v := (.int .i64 a_low)) (EV.tmp rfl rfl)) ?_
    refine AOps_val (V_geq (i := a_x) (j := a_low) (EV.tmp rfl rfl) (EV.tmp rfl rfl)) ?_
    refine AOps_val (V_move (v := (.bool (decide ((a_low : Int) ≤ a_x)))) (EV.tmp rfl rfl)) ?_
    rcases Bool.eq_false_or_eq_true (decide ((a_low : Int) ≤ a_x)) with hg1 | hg1
    · rw [hg1]
      refine R_onT (t := 10) rfl rfl rfl ?_
      refine AOps_val (V_move (v := (.int .i64 a_x)) (EV.tmp rfl rfl)) ?_
      refine R_onT (t := 10) rfl rfl rfl ?_
      refine AOps_val (V_move (v := (.int .i64 a_high)) (EV.tmp rfl rfl)) ?_
      refine R_onT (t := 10) rfl rfl rfl ?_
      refine AOps_val (V_leq (i := a_x) (j := a_high) (EV.tmp rfl rfl) (EV.tmp rfl rfl)) ?_
      refine AOps_val (V_pick (b := true) (u := (.bool (decide ((a_x : Int) ≤ a_high)))) (v := (.bool false)) (EV.tmp rfl rfl) (EV.tmp rfl rfl) (EV.bool _)) ?_
      refine AOps_val (V_assign (v := (.bool (decide ((a_x : Int) ≤ a_high)))) (EV.tmp rfl rfl)) ?_
      refine AOps_nil ?_
      exact ⟨rfl, _, (EqL.cons rfl (EqL.nil)).eq⟩
    · rw [hg1]
      refine R_offT (t := 10) rfl rfl rfl ?_
      refine R_offT (t := 10) rfl rfl rfl ?_
      refine R_offT (t := 10) rfl rfl rfl ?_
      refine AOps_val (V_pick (b := false) (u := undef) (v := (.bool false)) (EV.tmp rfl rfl) (EV.tmp rfl rfl) (EV.bool _)) ?_
      refine AOps_val (V_assign (v := (.bool false)) (EV.tmp rfl rfl)) ?_
      refine AOps_nil ?_
      exact ⟨rfl, _, (EqL.cons rfl (EqL.nil)).eq⟩
  rintro f3 H4 ⟨rfl, g2, rfl⟩
  refine AW_ret ?_
  obtain rfl := Option.some.inj hF
  exact ⟨(Sub.refl H), rfl⟩

/-! spec.EventWord -/
def s_EventWord (a_kind : Int) : Option ((List UInt8)) :=
  (s_l1In a_kind 1 6).bind fun r1 =>
  if (!r1) then (
    some [])
  else (
    (ix ([[109, 101, 116, 104, 111, 100], [114, 117, 108, 101], [97, 100, 100], [100, 114, 111, 112], [119, 97, 105, 116], [97, 115, 107]] : List (List UInt8)) (IntKind.i64.wrap (a_kind - 1))).bind fun x19 =>
    some x19)
theorem s_EventWord_ok (H : AHeap) (a_kind : Int) (R : (List UInt8)) (hF : s_EventWord a_kind = some R) :
    AC Try.prog 7 [(.int .i64 a_kind)] H (fun r H' => Sub H H' ∧ rdStr H' r R) := by
  refine AC_enter (n := 11) Try.func7 rfl rfl (ts := [2]) rfl rfl rfl rfl ?_
  unfold s_EventWord at hF
  refine S_region ?_
  refine AOps_val (V_assign (v := (sv [])) (EV.sv _)) ?_
  refine AOps_nil ?_
  refine S_in ?_
  refine S_region ?_
  refine AOps_val (V_move (v := (.int .i64 a_kind)) (EV.tmp rfl rfl)) ?_
  obtain ⟨r1, hx2, hF⟩ := bind_some hF
  refine R_call (vs := [(.int .i64 a_kind), (.int .i64 1), (.int .i64 6)]) cf20 (.cons (EV.tmp rfl rfl) (.cons (EV.int _ _) (.cons (EV.int _ _) .nil))) (s_l1In_ok H a_kind 1 6 _ hx2) ?_
  rintro q5 H3 ⟨hs4, hr6⟩
  have hs7 := Sub.trans (Sub.refl H) hs4
  obtain rfl : q5 = (.bool r1) := hr6
  refine AOps_val (V_not (b := r1) (EV.tmp rfl rfl)) ?_
  refine AOps_nil ?_
  refine AW_cond (t := (!r1)) (EV.tmp rfl rfl) (fun hb33 => ?_) (fun hb33 => ?_)
  · rw [if_pos hb33] at hF
    refine S_region ?_
    refine AOps_val (V_assign (v := (sv [])) (EV.sv _)) ?_
    refine AOps_nil ?_
    refine AW_ret ?_
    obtain rfl := Option.some.inj hF
    exact ⟨hs7, rfl⟩
  · rw [if_neg (by rw [hb33]; exact Bool.false_ne_true)] at hF
    refine AW_skip ?_
    refine S_region ?_
    refine A_buildSlice sl41 ty9 (.cons (EV.sv _) (.cons (EV.sv _) (.cons (EV.sv _) (.cons (EV.sv _) (.cons (EV.sv _) (.cons (EV.sv _) .nil)))))) (vs := [(sv [109, 101, 116, 104, 111, 100]), (sv [114, 117, 108, 101]), (sv [97, 100, 100]), (sv [100, 114, 111, 112]), (sv [119, 97, 105, 116]), (sv [97, 115, 107])]) rfl rfl rfl (by intro v hv; simp at hv; rcases hv with rfl | rfl | rfl | rfl | rfl | rfl <;> rfl) ?_
    intro k8 H9 hn10
    have hs11 := Sub.trans hs7 hn10.sub
    have hlo13 := hs7.len
    have ho12 : OwnS H.length 9 rdStr H9 (.slice (some ⟨k8, 0, none⟩) 6 1) ([[109, 101, 116, 104, 111, 100], [114, 117, 108, 101], [97, 100, 100], [100, 114, 111, 112], [119, 97, 105, 116], [97, 115, 107]] : List (List UInt8)) := OwnS.lit hn10 hlo13 rfl rfl rfl (fun j a h => match j, h with | 0, h => ⟨_, rfl, by obtain rfl := Option.some.inj h; exact rfl⟩ | 1, h => ⟨_, rfl, by obtain rfl := Option.some.inj h; exact rfl⟩ | 2, h => ⟨_, rfl, by obtain rfl := Option.some.inj h; exact rfl⟩ | 3, h => ⟨_, rfl, by obtain rfl := Option.some.inj h; exact rfl⟩ | 4, h => ⟨_, rfl, by obtain rfl := Option.some.inj h; exact rfl⟩ | 5, h => ⟨_, rfl, by obtain rfl := Option.some.inj h; exact rfl⟩ | j + 6, h => by simp at h)
    refine AOps_val (V_move (v := (.int .i64 a_kind)) (EV.tmp rfl rfl)) ?_
    refine AOps_val (V_sub (i := a_kind) (j := 1) (EV.tmp rfl rfl) (EV.int _ _)) ?_
    refine G_freezeO (idOf (.slice (some ⟨k8, 0, none⟩) 6 1)) ?_
    have hz14 := OwnS.freeze ho12
    have hsb15 := freeze_but (H := H9) (idOf (.slice (some ⟨k8, 0, none⟩) 6 1))
    have him16 := freeze_imm (H := H9) (idOf (.slice (some ⟨k8, 0, none⟩) 6 1))
    generalize hge : Fw.freeze H9 (idOf (.slice (some ⟨k8, 0, none⟩) 6 1)) = H17 at *
    clear hge
    have hs18 := SubBut.sub hsb15 hs11 (fun j e => OwnS.lo_le ho12 e)
    obtain ⟨x19, hx20, hF⟩ := bind_some hF
    obtain ⟨hp21, hx22⟩ := ix_some hx20
    refine A_indexRd (a := x19) sl41 ty9.sz (EV.tmp rfl rfl) (EV.tmp rfl rfl) hz14 hp21 hx22 ?_
    intro k23 j24 hp25
    obtain ⟨b26, e27, hk28, hw29, ht30, he31, hr32⟩ := hp25
    obtain rfl : e27 = (sv x19) := hr32
    refine AOps_val (V_load (e := (sv x19)) (v := (sv x19)) ag9 (EV.tmp rfl rfl) hk28 he31 rfl) ?_
    refine AOps_val (V_assign (v := (sv x19)) (EV.tmp rfl rfl)) ?_
    refine AOps_nil ?_
    refine AW_ret ?_
    obtain rfl := Option.some.inj hF
    exact ⟨hs18, rfl⟩

/-! spec.FormatEvent -/
def s_FormatEvent (a_e : Event) : Option ((List UInt8)) :=
  (s_EventWord a_e.Kind).bind fun r7 =>
  if ((r7 == []) || (a_e.Text == [])) then (
    some [])
  else (
    (cat r7 [32]).bind fun x19 =>
    (cat (r7 ++ [32]) a_e.Text).bind fun x22 =>
    some ((r7 ++ [32]) ++ a_e.Text))
theorem s_FormatEvent_ok (H : AHeap) (a_e : Event) (R : (List UInt8)) (hF : s_FormatEvent a_e = some R) :
    AC Try.prog 10 [(.agg [(.int .i64 a_e.Kind), (sv a_e.Text)].toArray)] H (fun r H' => Sub H H' ∧ rdStr H' r R) := by
  refine AC_enter (n := 19) Try.func10 rfl rfl (ts := [2]) rfl rfl rfl rfl ?_
  unfold s_FormatEvent at hF
  refine S_region ?_
  refine A_box false ty28.sz (EV.tmp rfl rfl) (v := (.agg [(.int .i64 a_e.Kind), (sv a_e.Text)].toArray)) rfl ?_
  intro k1 H2 hn3
  have hs4 := Sub.trans (Sub.refl H) hn3.sub
  have hb5 := hn3.get
  have hlo6 := Nat.le_trans (Sub.refl H).len hn3.lt
  refine AOps_val (V_assign (v := (sv [])) (EV.sv _)) ?_
  refine AOps_nil ?_
  refine S_region ?_
  refine AOps_val (V_fieldAddr (off := 0) fd28_0 (EV.tmp rfl rfl)) ?_
  refine AOps_val (V_load (e := (.agg [(.int .i64 a_e.Kind), (sv a_e.Text)].toArray)) (v := (.int .i64 a_e.Kind)) ag3 (EV.tmp rfl rfl) hb5 rfl rfl) ?_
  obtain ⟨r7, hx8, hF⟩ := bind_some hF
  refine R_call (vs := [(.int .i64 a_e.Kind)]) cf7 (.cons (EV.tmp rfl rfl) .nil) (s_EventWord_ok H2 a_e.Kind _ hx8) ?_
  rintro q11 H9 ⟨hs10, hr12⟩
  have hs13 := Sub.trans hs4 hs10
  have hb14 := Sub.at hs10 hb5
  obtain rfl : q11 = (sv r7) := hr12
  refine AOps_val (V_assign (v := (sv r7)) (EV.tmp rfl rfl)) ?_
  refine AOps_nil ?_
  refine S_in ?_
  refine S_region ?_
  refine AOps_cut (K1 := fun f' H' => H9 = H' ∧ ∃ g, f' = updL g [(1, (.pointer (some ⟨k1, 0, some 0⟩))), (3, (sv r7)), (13, (.bool ((r7 == []) || (a_e.Text == []))))]) ?_ ?_
  · refine AOps_val (V_move (v := (sv r7)) (EV.tmp rfl rfl)) ?_
    refine AOps_val (V_eqT (s := r7) (t := []) (EV.tmp rfl rfl) (EV.sv _)) ?_
    refine AOps_val (V_move (v := (.bool (r7 == []))) (EV.tmp rfl rfl)) ?_
    rcases Bool.eq_false_or_eq_true (r7 == []) with hg15 | hg15
    · rw [hg15]
      refine R_offT (t := 9) rfl rfl rfl ?_
      refine R_offT (t := 9) rfl rfl rfl ?_
      refine R_offT (t := 9) rfl rfl rfl ?_
      refine AOps_val (V_pick (b := true) (u := (.bool true)) (v := undef) (EV.tmp rfl rfl) (EV.bool _) (EV.tmp rfl rfl)) ?_
      refine AOps_nil ?_
      exact ⟨rfl, _, (EqL.cons rfl (EqL.cons rfl (EqL.cons rfl (EqL.nil)))).eq⟩
    · rw [hg15]
      refine R_onT (t := 9) rfl rfl rfl ?_
      refine AOps_val (V_fieldAddr (off := 1) fd28_1 (EV.tmp rfl rfl)) ?_
      refine R_onT (t := 9) rfl rfl rfl ?_
      refine AOps_val (V_load (e := (.agg [(.int .i64 a_e.Kind), (sv a_e.Text)].toArray)) (v := (sv a_e.Text)) ag9 (EV.tmp rfl rfl) hb14 rfl rfl) ?_
      refine R_onT (t := 9) rfl rfl rfl ?_
      refine AOps_val (V_eqT (s := a_e.Text) (t := []) (EV.tmp rfl rfl) (EV.sv _)) ?_
      refine AOps_val (V_pick (b := false) (u := (.bool true)) (v := (.bool (a_e.Text == []))) (EV.tmp rfl rfl) (EV.bool _) (EV.tmp rfl rfl)) ?_
      refine AOps_nil ?_
      exact ⟨rfl, _, (EqL.cons rfl (EqL.cons rfl (EqL.cons rfl (EqL.nil)))).eq⟩
  rintro f17 H18 ⟨rfl, g16, rfl⟩
  refine AW_cond (t := ((r7 == []) || (a_e.Text == []))) (EV.tmp rfl rfl) (fun hb25 => ?_) (fun hb25 => ?_)
  · rw [if_pos hb25] at hF
    refine S_region ?_
    refine AOps_val (V_assign (v := (sv [])) (EV.sv _)) ?_
    refine AOps_nil ?_
    refine AW_ret ?_
    obtain rfl := Option.some.inj hF
    exact ⟨hs13, rfl⟩
  · rw [if_neg (by rw [hb25]; exact Bool.false_ne_true)] at hF
    refine AW_skip ?_
    refine S_region ?_
    refine AOps_val (V_move (v := (sv r7)) (EV.tmp rfl rfl)) ?_
    obtain ⟨x19, hx20, hF⟩ := bind_some hF
    obtain ⟨rfl, hz21⟩ := cat_some hx20
    refine AOps_val (V_concat (s := r7) (t := [32]) (EV.tmp rfl rfl) (EV.sv _) hz21) ?_
    refine AOps_val (V_fieldAddr (off := 1) fd28_1 (EV.tmp rfl rfl)) ?_
    refine AOps_val (V_load (e := (.agg [(.int .i64 a_e.Kind), (sv a_e.Text)].toArray)) (v := (sv a_e.Text)) ag9 (EV.tmp rfl rfl) hb14 rfl rfl) ?_
    obtain ⟨x22, hx23, hF⟩ := bind_some hF
    obtain ⟨rfl, hz24⟩ := cat_some hx23
    refine AOps_val (V_concat (s := (r7 ++ [32])) (t := a_e.Text) (EV.tmp rfl rfl) (EV.tmp rfl rfl) hz24) ?_
    refine AOps_val (V_assign (v := (sv ((r7 ++ [32]) ++ a_e.Text))) (EV.tmp rfl rfl)) ?_
    refine AOps_nil ?_
    refine AW_ret ?_
    obtain rfl := Option.some.inj hF
    exact ⟨hs13, rfl⟩

/-! impl.within -/
def i_within (a_n : Int) (a_low : Int) (a_high : Int) : Option (Bool) :=
  some ((decide ((a_low : Int) ≤ a_n)) && (decide ((a_n : Int) ≤ a_high)))
theorem i_within_ok (H : AHeap) (a_n : Int) (a_low : Int) (a_high : Int) (R : Bool) (hF : i_within a_n a_low a_high = some R) :
    AC Try.prog 21 [(.int .i64 a_n), (.int .i64 a_low), (.int .i64 a_high)] H (fun r H' => Sub H H' ∧ rdBool H' r R) := by
  refine AC_enter (n := 15) Try.func21 rfl rfl (ts := [6]) rfl rfl rfl rfl ?_
  unfold i_within at hF
  refine S_region ?_
  refine AOps_val (V_assign (v := (.bool false)) (EV.bool _)) ?_
  refine AOps_nil ?_
  refine S_region ?_
  refine AOps_cut (K1 := fun f' H' => H = H' ∧ ∃ g, f' = updL g [(6, (.bool ((decide ((a_low : Int) ≤ a_n)) && (decide ((a_n : Int) ≤ a_high)))))]) ?_ ?_
  · refine AOps_val (V_move (v := (.int .i64 a_n)) (EV.tmp rfl rfl)) ?_
    refine AOps_val (V_move (v := (.int .i64 a_low)) (EV.tmp rfl rfl)) ?_
    refine AOps_val (V_geq (i := a_n) (j := a_low) (EV.tmp rfl rfl) (EV.tmp rfl rfl)) ?_
    refine AOps_val (V_move (v := (.bool (decide ((a_low : Int) ≤ a_n)))) (EV.tmp rfl rfl)) ?_
    rcases Bool.eq_false_or_eq_true (decide ((a_low : Int) ≤ a_n)) with hg1 | hg1
    · rw [hg1]
      refine R_onT (t := 10) rfl rfl rfl ?_
      refine AOps_val (V_move (v := (.int .i64 a_n)) (EV.tmp rfl rfl)) ?_
      refine R_onT (t := 10) rfl rfl rfl ?_
      refine AOps_val (V_move (v := (.int .i64 a_high)) (EV.tmp rfl rfl)) ?_
      refine R_onT (t := 10) rfl rfl rfl ?_
      refine AOps_val (V_leq (i := a_n) (j := a_high) (EV.tmp rfl rfl) (EV.tmp rfl rfl)) ?_
      refine AOps_val (V_pick (b := true) (u := (.bool (decide ((a_n : Int) ≤ a_high)))) (v := (.bool false)) (EV.tmp rfl rfl) (EV.tmp rfl rfl) (EV.bool _)) ?_
      refine AOps_val (V_assign (v := (.bool (decide ((a_n : Int) ≤ a_high)))) (EV.tmp rfl rfl)) ?_
      refine AOps_nil ?_
      exact ⟨rfl, _, (EqL.cons rfl (EqL.nil)).eq⟩
    · rw [hg1]
      refine R_offT (t := 10) rfl rfl rfl ?_
      refine R_offT (t := 10) rfl rfl rfl ?_
      refine R_offT (t := 10) rfl rfl rfl ?_
      refine AOps_val (V_pick (b := false) (u := undef) (v := (.bool false)) (EV.tmp rfl rfl) (EV.tmp rfl rfl) (EV.bool _)) ?_
      refine AOps_val (V_assign (v := (.bool false)) (EV.tmp rfl rfl)) ?_
      refine AOps_nil ?_
      exact ⟨rfl, _, (EqL.cons rfl (EqL.nil)).eq⟩
  rintro f3 H4 ⟨rfl, g2, rfl⟩
  refine AW_ret ?_
  obtain rfl := Option.some.inj hF
  exact ⟨(Sub.refl H), rfl⟩

/-! impl.eventWords -/
def i_eventWords  : Option ((List (List UInt8))) :=
  some ([[], [109, 101, 116, 104, 111, 100], [114, 117, 108, 101], [97, 100, 100], [100, 114, 111, 112], [119, 97, 105, 116], [97, 115, 107]] : List (List UInt8))
theorem i_eventWords_ok (H : AHeap)  (R : (List (List UInt8))) (hF : i_eventWords = some R) :
    AC Try.prog 22 [] H (fun r H' => Sub H H' ∧ OwnS H.length 9 rdStr H' r R) := by
  refine AC_enter (n := 2) Try.func22 rfl rfl (ts := [0]) rfl rfl rfl rfl ?_
  unfold i_eventWords at hF
  refine S_region ?_
  refine AOps_val (V_assign (v := (.slice none 0 0)) EV.nilSlice) ?_
  refine AOps_nil ?_
  refine S_region ?_
  refine A_buildSlice sl41 ty9 (.cons (EV.sv _) (.cons (EV.sv _) (.cons (EV.sv _) (.cons (EV.sv _) (.cons (EV.sv _) (.cons (EV.sv _) (.cons (EV.sv _) .nil))))))) (vs := [(sv []), (sv [109, 101, 116, 104, 111, 100]), (sv [114, 117, 108, 101]), (sv [97, 100, 100]), (sv [100, 114, 111, 112]), (sv [119, 97, 105, 116]), (sv [97, 115, 107])]) rfl rfl rfl (by intro v hv; simp at hv; rcases hv with rfl | rfl | rfl | rfl | rfl | rfl | rfl <;> rfl) ?_
  intro k1 H2 hn3
  have hs4 := Sub.trans (Sub.refl H) hn3.sub
  have hlo6 := (Sub.refl H).len
  have ho5 : OwnS H.length 9 rdStr H2 (.slice (some ⟨k1, 0, none⟩) 7 1) ([[], [109, 101, 116, 104, 111, 100], [114, 117, 108, 101], [97, 100, 100], [100, 114, 111, 112], [119, 97, 105, 116], [97, 115, 107]] : List (List UInt8)) := OwnS.lit hn3 hlo6 rfl rfl rfl (fun j a h => match j, h with | 0, h => ⟨_, rfl, by obtain rfl := Option.some.inj h; exact rfl⟩ | 1, h => ⟨_, rfl, by obtain rfl := Option.some.inj h; exact rfl⟩ | 2, h => ⟨_, rfl, by obtain rfl := Option.some.inj h; exact rfl⟩ | 3, h => ⟨_, rfl, by obtain rfl := Option.some.inj h; exact rfl⟩ | 4, h => ⟨_, rfl, by obtain rfl := Option.some.inj h; exact rfl⟩ | 5, h => ⟨_, rfl, by obtain rfl := Option.some.inj h; exact rfl⟩ | 6, h => ⟨_, rfl, by obtain rfl := Option.some.inj h; exact rfl⟩ | j + 7, h => by simp at h)
  refine AOps_val (V_assign (v := (.slice (some ⟨k1, 0, none⟩) 7 1)) (EV.tmp rfl rfl)) ?_
  refine AOps_nil ?_
  refine AW_ret ?_
  obtain rfl := Option.some.inj hF
  exact ⟨hs4, ho5⟩

/-! impl.EventWord -/
def i_EventWord (a_kind : Int) : Option ((List UInt8)) :=
  (i_within a_kind 1 6).bind fun r1 =>
  if (!r1) then (
    some [])
  else (
    (i_eventWords).bind fun r8 =>
    (ix r8 a_kind).bind fun x21 =>
    some x21)
theorem i_EventWord_ok (H : AHeap) (a_kind : Int) (R : (List UInt8)) (hF : i_EventWord a_kind = some R) :
    AC Try.prog 8 [(.int .i64 a_kind)] H (fun r H' => Sub H H' ∧ rdStr H' r R) := by
  refine AC_enter (n := 10) Try.func8 rfl rfl (ts := [2]) rfl rfl rfl rfl ?_
  unfold i_EventWord at hF
  refine S_region ?_
  refine AOps_val (V_assign (v := (sv [])) (EV.sv _)) ?_
  refine AOps_nil ?_
  refine S_in ?_
  refine S_region ?_
  refine AOps_val (V_move (v := (.int .i64 a_kind)) (EV.tmp rfl rfl)) ?_
  obtain ⟨r1, hx2, hF⟩ := bind_some hF
  refine R_call (vs := [(.int .i64 a_kind), (.int .i64 1), (.int .i64 6)]) cf21 (.cons (EV.tmp rfl rfl) (.cons (EV.int _ _) (.cons (EV.int _ _) .nil))) (i_within_ok H a_kind 1 6 _ hx2) ?_
  rintro q5 H3 ⟨hs4, hr6⟩
  have hs7 := Sub.trans (Sub.refl H) hs4
  obtain rfl : q5 = (.bool r1) := hr6
  refine AOps_val (V_not (b := r1) (EV.tmp rfl rfl)) ?_
  refine AOps_nil ?_
  refine AW_cond (t := (!r1)) (EV.tmp rfl rfl) (fun hb35 => ?_) (fun hb35 => ?_)
  · rw [if_pos hb35] at hF
    refine S_region ?_
    refine AOps_val (V_assign (v := (sv [])) (EV.sv _)) ?_
    refine AOps_nil ?_
    refine AW_ret ?_
    obtain rfl := Option.some.inj hF
    exact ⟨hs7, rfl⟩
  · rw [if_neg (by rw [hb35]; exact Bool.false_ne_true)] at hF
    refine AW_skip ?_
    refine S_region ?_
    obtain ⟨r8, hx9, hF⟩ := bind_some hF
    refine R_call (vs := []) cf22 .nil (i_eventWords_ok H3 _ hx9) ?_
    rintro q12 H10 ⟨hs11, hr13⟩
    have hs14 := Sub.trans hs7 hs11
    have ho15 := OwnS.mono_lo hr13 (Sub.len hs7)
    refine AOps_val (V_move (v := (.int .i64 a_kind)) (EV.tmp rfl rfl)) ?_
    refine G_freezeO (idOf q12) ?_
    have hz16 := OwnS.freeze ho15
    have hsb17 := freeze_but (H := H10) (idOf q12)
    have him18 := freeze_imm (H := H10) (idOf q12)
    generalize hge : Fw.freeze H10 (idOf q12) = H19 at *
    clear hge
    have hs20 := SubBut.sub hsb17 hs14 (fun j e => OwnS.lo_le ho15 e)
    obtain ⟨x21, hx22, hF⟩ := bind_some hF
    obtain ⟨hp23, hx24⟩ := ix_some hx22
    refine A_indexRd (a := x21) sl41 ty9.sz (EV.tmp rfl rfl) (EV.tmp rfl rfl) hz16 hp23 hx24 ?_
    intro k25 j26 hp27
    obtain ⟨b28, e29, hk30, hw31, ht32, he33, hr34⟩ := hp27
    obtain rfl : e29 = (sv x21) := hr34
    refine AOps_val (V_load (e := (sv x21)) (v := (sv x21)) ag9 (EV.tmp rfl rfl) hk30 he33 rfl) ?_
    refine AOps_val (V_assign (v := (sv x21)) (EV.tmp rfl rfl)) ?_
    refine AOps_nil ?_
    refine AW_ret ?_
    obtain rfl := Option.some.inj hF
    exact ⟨hs20, rfl⟩

/-! impl.FormatEvent -/
def i_FormatEvent (a_e : Event) : Option ((List UInt8)) :=
  (i_EventWord a_e.Kind).bind fun r7 =>
  if ((r7 == []) || (a_e.Text == [])) then (
    some [])
  else (
    (cat r7 [32]).bind fun x19 =>
    (cat (r7 ++ [32]) a_e.Text).bind fun x22 =>
    some ((r7 ++ [32]) ++ a_e.Text))
theorem i_FormatEvent_ok (H : AHeap) (a_e : Event) (R : (List UInt8)) (hF : i_FormatEvent a_e = some R) :
    AC Try.prog 12 [(.agg [(.int .i64 a_e.Kind), (sv a_e.Text)].toArray)] H (fun r H' => Sub H H' ∧ rdStr H' r R) := by
  refine AC_enter (n := 19) Try.func12 rfl rfl (ts := [2]) rfl rfl rfl rfl ?_
  unfold i_FormatEvent at hF
  refine S_region ?_
  refine A_box false ty28.sz (EV.tmp rfl rfl) (v := (.agg [(.int .i64 a_e.Kind), (sv a_e.Text)].toArray)) rfl ?_
  intro k1 H2 hn3
  have hs4 := Sub.trans (Sub.refl H) hn3.sub
  have hb5 := hn3.get
  have hlo6 := Nat.le_trans (Sub.refl H).len hn3.lt
  refine AOps_val (V_assign (v := (sv [])) (EV.sv _)) ?_
  refine AOps_nil ?_
  refine S_region ?_
  refine AOps_val (V_fieldAddr (off := 0) fd28_0 (EV.tmp rfl rfl)) ?_
  refine AOps_val (V_load (e := (.agg [(.int .i64 a_e.Kind), (sv a_e.Text)].toArray)) (v := (.int .i64 a_e.Kind)) ag3 (EV.tmp rfl rfl) hb5 rfl rfl) ?_
  obtain ⟨r7, hx8, hF⟩ := bind_some hF
  refine R_call (vs := [(.int .i64 a_e.Kind)]) cf8 (.cons (EV.tmp rfl rfl) .nil) (i_EventWord_ok H2 a_e.Kind _ hx8) ?_
  rintro q11 H9 ⟨hs10, hr12⟩
  have hs13 := Sub.trans hs4 hs10
  have hb14 := Sub.at hs10 hb5
  obtain rfl : q11 = (sv r7) := hr12
  refine AOps_val (V_assign (v := (sv r7)) (EV.tmp rfl rfl)) ?_
  refine AOps_nil ?_
  refine S_in ?_
  refine S_region ?_
  refine AOps_cut (K1 := fun f' H' => H9 = H' ∧ ∃ g, f' = updL g [(1, (.pointer (some ⟨k1, 0, some 0⟩))), (3, (sv r7)), (13, (.bool ((r7 == []) || (a_e.Text == []))))]) ?_ ?_
  · refine AOps_val (V_move (v := (sv r7)) (EV.tmp rfl rfl)) ?_
    refine AOps_val (V_eqT (s := r7) (t := []) (EV.tmp rfl rfl) (EV.sv _)) ?_
    refine AOps_val (V_move (v := (.bool (r7 == []))) (EV.tmp rfl rfl)) ?_
    rcases Bool.eq_false_or_eq_true (r7 == []) with hg15 | hg15
    · rw [hg15]
      refine R_offT (t := 9) rfl rfl rfl ?_
      refine R_offT (t := 9) rfl rfl rfl ?_
      refine R_offT (t := 9) rfl rfl rfl ?_
      refine AOps_val (V_pick (b := true) (u := (.bool true)) (v := undef) (EV.tmp rfl rfl) (EV.bool _) (EV.tmp rfl rfl)) ?_
      refine AOps_nil ?_
      exact ⟨rfl, _, (EqL.cons rfl (EqL.cons rfl (EqL.cons rfl (EqL.nil)))).eq⟩
    · rw [hg15]
      refine R_onT (t := 9) rfl rfl rfl ?_
      refine AOps_val (V_fieldAddr (off := 1) fd28_1 (EV.tmp rfl rfl)) ?_
      refine R_onT (t := 9) rfl rfl rfl ?_
      refine AOps_val (V_load (e := (.agg [(.int .i64 a_e.Kind), (sv a_e.Text)].toArray)) (v := (sv a_e.Text)) ag9 (EV.tmp rfl rfl) hb14 rfl rfl) ?_
      refine R_onT (t := 9) rfl rfl rfl ?_
      refine AOps_val (V_eqT (s := a_e.Text) (t := []) (EV.tmp rfl rfl) (EV.sv _)) ?_
      refine AOps_val (V_pick (b := false) (u := (.bool true)) (v := (.bool (a_e.Text == []))) (EV.tmp rfl rfl) (EV.bool _) (EV.tmp rfl rfl)) ?_
      refine AOps_nil ?_
      exact ⟨rfl, _, (EqL.cons rfl (EqL.cons rfl (EqL.cons rfl (EqL.nil)))).eq⟩
  rintro f17 H18 ⟨rfl, g16, rfl⟩
  refine AW_cond (t := ((r7 == []) || (a_e.Text == []))) (EV.tmp rfl rfl) (fun hb25 => ?_) (fun hb25 => ?_)
  · rw [if_pos hb25] at hF
    refine S_region ?_
    refine AOps_val (V_assign (v := (sv [])) (EV.sv _)) ?_
    refine AOps_nil ?_
    refine AW_ret ?_
    obtain rfl := Option.some.inj hF
    exact ⟨hs13, rfl⟩
  · rw [if_neg (by rw [hb25]; exact Bool.false_ne_true)] at hF
    refine AW_skip ?_
    refine S_region ?_
    refine AOps_val (V_move (v := (sv r7)) (EV.tmp rfl rfl)) ?_
    obtain ⟨x19, hx20, hF⟩ := bind_some hF
    obtain ⟨rfl, hz21⟩ := cat_some hx20
    refine AOps_val (V_concat (s := r7) (t := [32]) (EV.tmp rfl rfl) (EV.sv _) hz21) ?_
    refine AOps_val (V_fieldAddr (off := 1) fd28_1 (EV.tmp rfl rfl)) ?_
    refine AOps_val (V_load (e := (.agg [(.int .i64 a_e.Kind), (sv a_e.Text)].toArray)) (v := (sv a_e.Text)) ag9 (EV.tmp rfl rfl) hb14 rfl rfl) ?_
    obtain ⟨x22, hx23, hF⟩ := bind_some hF
    obtain ⟨rfl, hz24⟩ := cat_some hx23
    refine AOps_val (V_concat (s := (r7 ++ [32])) (t := a_e.Text) (EV.tmp rfl rfl) (EV.tmp rfl rfl) hz24) ?_
    refine AOps_val (V_assign (v := (sv ((r7 ++ [32]) ++ a_e.Text))) (EV.tmp rfl rfl)) ?_
    refine AOps_nil ?_
    refine AW_ret ?_
    obtain rfl := Option.some.inj hF
    exact ⟨hs13, rfl⟩

/-! laws.FnExactFormatEvent -/
def l_FnExactFormatEvent (a_aE : Event) : Option (Bool) :=
  (l_szEvent ({ Kind := a_aE.Kind, Text := a_aE.Text } : Event) 1048576).bind fun r7 =>
  if (decide ((r7 : Int) < 0)) then (
    some true)
  else (
    (l_toEvent ({ Kind := a_aE.Kind, Text := a_aE.Text } : Event)).bind fun r15 =>
    (s_FormatEvent ({ Kind := r15.Kind, Text := r15.Text } : Event)).bind fun r23 =>
    (l_toEvent ({ Kind := a_aE.Kind, Text := a_aE.Text } : Event)).bind fun r31 =>
    (i_FormatEvent ({ Kind := r31.Kind, Text := r31.Text } : Event)).bind fun r39 =>
    if (!(r39 == r23)) then (
      some false)
    else (
      some true))
theorem l_FnExactFormatEvent_ok (H : AHeap) (a_aE : Event) (R : Bool) (hF : l_FnExactFormatEvent a_aE = some R) :
    AC Try.prog 4 [(.agg [(.int .i64 a_aE.Kind), (sv a_aE.Text)].toArray)] H (fun r H' => Sub H H' ∧ rdBool H' r R) := by
  refine AC_enter (n := 20) Try.func4 rfl rfl (ts := [2]) rfl rfl rfl rfl ?_
  unfold l_FnExactFormatEvent at hF
  refine S_region ?_
  refine A_box false ty25.sz (EV.tmp rfl rfl) (v := (.agg [(.int .i64 a_aE.Kind), (sv a_aE.Text)].toArray)) rfl ?_
  intro k1 H2 hn3
  have hs4 := Sub.trans (Sub.refl H) hn3.sub
  have hb5 := hn3.get
  have hlo6 := Nat.le_trans (Sub.refl H).len hn3.lt
  refine AOps_val (V_assign (v := (.bool false)) (EV.bool _)) ?_
  refine AOps_nil ?_
  refine S_region ?_
  refine AOps_val (V_assign (v := (.int .i64 1048576)) (EV.int _ _)) ?_
  refine AOps_nil ?_
  refine S_region ?_
  refine AOps_val (V_loadA (s := 2) (e := (.agg [(.int .i64 a_aE.Kind), (sv a_aE.Text)].toArray)) (l := [(.int .i64 a_aE.Kind), (sv a_aE.Text)]) ag25 ty25.sz (EV.tmp rfl rfl) hb5 rfl (by decide) (Nat.le_of_ble_eq_true rfl) rfl) ?_
  refine AOps_val (V_move (v := (.int .i64 1048576)) (EV.tmp rfl rfl)) ?_
  obtain ⟨r7, hx8, hF⟩ := bind_some hF
  refine R_call (vs := [(.agg [(.int .i64 a_aE.Kind), (sv a_aE.Text)].toArray), (.int .i64 1048576)]) cf9 (.cons (EV.tmp rfl rfl) (.cons (EV.tmp rfl rfl) .nil)) (l_szEvent_ok H2 ({ Kind := a_aE.Kind, Text := a_aE.Text } : Event) 1048576 _ hx8) ?_
  rintro q11 H9 ⟨hs10, hr12⟩
  have hs13 := Sub.trans hs4 hs10
  have hb14 := Sub.at hs10 hb5
  obtain rfl : q11 = (.int .i64 r7) := hr12
  refine AOps_val (V_assign (v := (.int .i64 r7)) (EV.tmp rfl rfl)) ?_
  refine AOps_nil ?_
  refine S_in ?_
  refine S_region ?_
  refine AOps_val (V_move (v := (.int .i64 r7)) (EV.tmp rfl rfl)) ?_
  refine AOps_val (V_lss (i := r7) (j := 0) (EV.tmp rfl rfl) (EV.int _ _)) ?_
  refine AOps_nil ?_
  refine AW_cond (t := (decide ((r7 : Int) < 0))) (EV.tmp rfl rfl) (fun hb48 => ?_) (fun hb48 => ?_)
  · rw [if_pos hb48] at hF
    refine S_region ?_
    refine AOps_val (V_assign (v := (.bool true)) (EV.bool _)) ?_
    refine AOps_nil ?_
    refine AW_ret ?_
    obtain rfl := Option.some.inj hF
    exact ⟨hs13, rfl⟩
  · rw [if_neg (by rw [hb48]; exact Bool.false_ne_true)] at hF
    refine AW_skip ?_
    refine S_region ?_
    refine AOps_val (V_loadA (s := 2) (e := (.agg [(.int .i64 a_aE.Kind), (sv a_aE.Text)].toArray)) (l := [(.int .i64 a_aE.Kind), (sv a_aE.Text)]) ag25 ty25.sz (EV.tmp rfl rfl) hb14 rfl (by decide) (Nat.le_of_ble_eq_true rfl) rfl) ?_
    obtain ⟨r15, hx16, hF⟩ := bind_some hF
    refine R_call (vs := [(.agg [(.int .i64 a_aE.Kind), (sv a_aE.Text)].toArray)]) cf11 (.cons (EV.tmp rfl rfl) .nil) (l_toEvent_ok H9 ({ Kind := a_aE.Kind, Text := a_aE.Text } : Event) _ hx16) ?_
    rintro q19 H17 ⟨hs18, hr20⟩
    have hs21 := Sub.trans hs13 hs18
    have hb22 := Sub.at hs18 hb14
    obtain rfl : q19 = (.agg [(.int .i64 r15.Kind), (sv r15.Text)].toArray) := hr20
    obtain ⟨r23, hx24, hF⟩ := bind_some hF
    refine R_call (vs := [(.agg [(.int .i64 r15.Kind), (sv r15.Text)].toArray)]) cf10 (.cons (EV.tmp rfl rfl) .nil) (s_FormatEvent_ok H17 ({ Kind := r15.Kind, Text := r15.Text } : Event) _ hx24) ?_
    rintro q27 H25 ⟨hs26, hr28⟩
    have hs29 := Sub.trans hs21 hs26
    have hb30 := Sub.at hs26 hb22
    obtain rfl : q27 = (sv r23) := hr28
    refine AOps_val (V_assign (v := (sv r23)) (EV.tmp rfl rfl)) ?_
    refine AOps_nil ?_
    refine S_region ?_
    refine AOps_val (V_loadA (s := 2) (e := (.agg [(.int .i64 a_aE.Kind), (sv a_aE.Text)].toArray)) (l := [(.int .i64 a_aE.Kind), (sv a_aE.Text)]) ag25 ty25.sz (EV.tmp rfl rfl) hb30 rfl (by decide) (Nat.le_of_ble_eq_true rfl) rfl) ?_
    obtain ⟨r31, hx32, hF⟩ := bind_some hF
    refine R_call (vs := [(.agg [(.int .i64 a_aE.Kind), (sv a_aE.Text)].toArray)]) cf11 (.cons (EV.tmp rfl rfl) .nil) (l_toEvent_ok H25 ({ Kind := a_aE.Kind, Text := a_aE.Text } : Event) _ hx32) ?_
    rintro q35 H33 ⟨hs34, hr36⟩
    have hs37 := Sub.trans hs29 hs34
    have hb38 := Sub.at hs34 hb30
    obtain rfl : q35 = (.agg [(.int .i64 r31.Kind), (sv r31.Text)].toArray) := hr36
    obtain ⟨r39, hx40, hF⟩ := bind_some hF
    refine R_call (vs := [(.agg [(.int .i64 r31.Kind), (sv r31.Text)].toArray)]) cf12 (.cons (EV.tmp rfl rfl) .nil) (i_FormatEvent_ok H33 ({ Kind := r31.Kind, Text := r31.Text } : Event) _ hx40) ?_
    rintro q43 H41 ⟨hs42, hr44⟩
    have hs45 := Sub.trans hs37 hs42
    have hb46 := Sub.at hs42 hb38
    obtain rfl : q43 = (sv r39) := hr44
    refine AOps_val (V_assign (v := (sv r39)) (EV.tmp rfl rfl)) ?_
    refine AOps_nil ?_
    refine S_in ?_
    refine S_region ?_
    refine AOps_val (V_move (v := (sv r39)) (EV.tmp rfl rfl)) ?_
    refine AOps_val (V_move (v := (sv r23)) (EV.tmp rfl rfl)) ?_
    refine AOps_val (V_neT (s := r39) (t := r23) (EV.tmp rfl rfl) (EV.tmp rfl rfl)) ?_
    refine AOps_nil ?_
    refine AW_cond (t := (!(r39 == r23))) (EV.tmp rfl rfl) (fun hb47 => ?_) (fun hb47 => ?_)
    · rw [if_pos hb47] at hF
      refine S_region ?_
      refine AOps_val (V_assign (v := (.bool false)) (EV.bool _)) ?_
      refine AOps_nil ?_
      refine AW_ret ?_
      obtain rfl := Option.some.inj hF
      exact ⟨hs45, rfl⟩
    · rw [if_neg (by rw [hb47]; exact Bool.false_ne_true)] at hF
      refine AW_skip ?_
      refine S_region ?_
      refine AOps_val (V_assign (v := (.bool true)) (EV.bool _)) ?_
      refine AOps_nil ?_
      refine AW_ret ?_
      obtain rfl := Option.some.inj hF
      exact ⟨hs45, rfl⟩

end Go.Proofs.Ytlckjkdnipgnhaa

/-
  Plain laws: FormatEvent.
-/
set_option maxRecDepth 100000
namespace Go.Proofs.Ytlckjkdnipgnhaa
open Go Go.Fw

def evw (k : Int) : List UInt8 := if 1 ≤ k ∧ k ≤ 6 then [[109, 101, 116, 104, 111, 100], [114, 117, 108, 101], [97, 100, 100], [100, 114, 111, 112], [119, 97, 105, 116], [97, 115, 107]].getD (k - 1).toNat [] else []
theorem evw_cases (k : Int) (p : Prop) (h0 : ¬ (1 ≤ k ∧ k ≤ 6) → p) (h1 : k = 1 → p) (h2 : k = 2 → p) (h3 : k = 3 → p) (h4 : k = 4 → p) (h5 : k = 5 → p) (h6 : k = 6 → p) : p := by
  by_cases h : 1 ≤ k ∧ k ≤ 6
  · by_cases e1 : k = 1
    · exact h1 e1
    by_cases e2 : k = 2
    · exact h2 e2
    by_cases e3 : k = 3
    · exact h3 e3
    by_cases e4 : k = 4
    · exact h4 e4
    by_cases e5 : k = 5
    · exact h5 e5
    exact h6 (by omega)
  · exact h0 h
theorem evw_len (k : Int) : (evw k).length ≤ 6 := by
  refine evw_cases k _ (fun h => by simp [evw, h]) ?_ ?_ ?_ ?_ ?_ ?_ <;> (intro e; subst e; decide)
theorem s_EventWord_eq (k : Int) : s_EventWord k = some (evw k) := by
  refine evw_cases k _ (fun h => ?_) ?_ ?_ ?_ ?_ ?_ ?_
  · have : (decide ((1 : Int) ≤ k) && decide (k ≤ 6)) = false := by
      rw [← Bool.not_eq_true, Bool.and_eq_true, decide_eq_true_iff, decide_eq_true_iff]; exact h
    simp [s_EventWord, s_l1In, this, evw, h]
  all_goals (intro e; subst e; rfl)
theorem i_EventWord_eq (k : Int) : i_EventWord k = some (evw k) := by
  refine evw_cases k _ (fun h => ?_) ?_ ?_ ?_ ?_ ?_ ?_
  · have : (decide ((1 : Int) ≤ k) && decide (k ≤ 6)) = false := by
      rw [← Bool.not_eq_true, Bool.and_eq_true, decide_eq_true_iff, decide_eq_true_iff]; exact h
    simp [i_EventWord, i_within, this, evw, h]
  all_goals (intro e; subst e; rfl)

def evf (a : Event) : List UInt8 := if (evw a.Kind == []) || (a.Text == []) then [] else evw a.Kind ++ [32] ++ a.Text
theorem s_FormatEvent_eq (a : Event) (h : a.Text.length ≤ 140737488351232) : s_FormatEvent a = some (evf a) := by
  have := evw_len a.Kind
  have h1 : (evw a.Kind).length + 1 < 4611686018427387904 := by omega
  have h2 : (evw a.Kind).length + 1 + a.Text.length < 4611686018427387904 := by omega
  simp only [s_FormatEvent, s_EventWord_eq, Option.bind_some, evf]
  split
  · rfl
  · simp [cat, h1, h2]
theorem i_FormatEvent_eq (a : Event) (h : a.Text.length ≤ 140737488351232) : i_FormatEvent a = some (evf a) := by
  have := evw_len a.Kind
  have h1 : (evw a.Kind).length + 1 < 4611686018427387904 := by omega
  have h2 : (evw a.Kind).length + 1 + a.Text.length < 4611686018427387904 := by omega
  simp only [i_FormatEvent, i_EventWord_eq, Option.bind_some, evf]
  split
  · rfl
  · simp [cat, h1, h2]
theorem l_szEvent_eq (a : Event) (n : Int) (h : a.Text.length ≤ 140737488351232) (h1 : 0 ≤ n) (h2 : n ≤ 1099511627776) : l_szEvent a n = some (if n < a.Text.length then -1 else n - a.Text.length) := by
  unfold l_szEvent
  rw [wrap_in (by omega) (by omega)]
  by_cases h : n < a.Text.length
  · rw [if_pos (by simp; omega), if_pos h]
  · rw [if_neg (by simp; omega), if_neg h]

theorem law_fnExactFormatEvent {a : Event} (h : wf25 a) : l_FnExactFormatEvent a = some true := by
  have h2 : a.Text.length ≤ 140737488351232 := h.2
  simp only [l_FnExactFormatEvent]
  rw [l_szEvent_eq _ _ h2 (by decide) (by decide)]
  simp only [Option.bind_some, l_toEvent, s_FormatEvent_eq _ h2, i_FormatEvent_eq _ h2]
  split <;> simp
end Go.Proofs.Ytlckjkdnipgnhaa

/-
  The row FnExactFormatEvent.
-/
set_option maxRecDepth 100000
namespace Go.Proofs.Ytlckjkdnipgnhaa.fnExactFormatEvent
open Go Go.Fw Go.ChangeShapes Go.WideShapes Go.ChangeAt Go.RowKit

theorem own : ownKnob Try.prog.godebug = none := by kernel_rfl
theorem laidOut : laidOutB Try.prog = true := by kernel_rfl

set_option maxRecDepth 100000 in
theorem lifted (os : Os) (started : os.Started) (H : Type) (enc : TypeId × Value → H) :
    ReturnsInHanded {} Try.checked os 4 .any (Rows.fnExactFormatEventSpec.pre6 enc Try.prog Try.f4 Rows.fnExactFormatEventRow.domain false) (Rows.fnExactFormatEventSpec.post enc Try.prog Try.f4 false true false false) := by
  refine returnsInHanded_of_change_sized (C := Try.checked) own started (by kernel_rfl) Try.func4
    (ChangeSpec.witness6 (enc := enc) (C := Try.checked) false ⟨#[], #[.agg #[.int .i64 0, .string ⟨#[]⟩]], []⟩ 16 (by kernel_rfl) (by kernel_rfl) (by kernel_rfl) (by kernel_rfl)) ?_
  intro W base args ds gs before hval hW _ hwt _
  have hW' := hW
  obtain ⟨p, q, hA0, hV, rfl, hfz, hnd⟩ := hW
  obtain ⟨rfl, rfl⟩ := trodVars_none hV
  have hA : DataW.TrodAll enc Try.prog W 0 (fun _ => true) true [25] args.toList ds p := hA0
  have hw : ∀ n ∈ DataW.weightsEach Try.prog [25] ds, n ≤ reachBytes := fun n hn => by
    have := List.all_eq_true.1 hwt n (by rw [List.append_nil]; exact hn)
    simpa using this
  obtain ⟨v0, vs0, d0, ds0, p0, ρ0, H0, av0, a0, e0, rfl, hA0, hw0, r0, f0, u0, i0, rv0, q0, w0⟩ := opn_arg hA hw op25 sh25 (r := .any) (base := base) (fun v h => hval 0 25 v rfl (arg_at h)) (Rel.nil _ W) Frn.nil
  obtain ⟨en, rfl⟩ := opn_none hA0
  subst en
  obtain rfl : av0 = (.agg [(.int .i64 a0.Kind), (sv a0.Text)].toArray) := q0
  have hargs : RelVs ρ0 [(.agg [(.int .i64 a0.Kind), (sv a0.Text)].toArray)] args.toList := by
    rw [e0]
    exact (.cons _ _ _ _ rv0 .nil)
  refine (l_FnExactFormatEvent_ok H0 a0 true (law_fnExactFormatEvent w0) ρ0 W args r0 hargs).mono ?_
  rintro e w' ⟨v, r, ρ', H', rfl, h1, h2, h3, h4, h5⟩
  have h6 : r = .bool true := h5
  subst h6
  refine ⟨_, rfl, ?_⟩
  rw [h1.bool_inv]
  refine law_post hW' rfl laidOut (by kernel_rfl) rfl (by kernel_rfl) (fun d => ?_) (h3.below f0)
  by_cases hd : d = [d0]
  · subst hd; exact .inl ⟨rfl, rfl, rfl⟩
  · exact .inr (by simpa using hd)

theorem over : Rows.fnExactFormatEventRow.holds Try.pinned (OpenSpec.ofChange Rows.fnExactFormatEventSpec) :=
  OpenClaim.holds_of_wide 4 Try.f4 rfl rfl rfl rfl rfl rfl rfl ⟨rfl, rfl, rfl, rfl, rfl⟩ rfl rfl rfl rfl rfl (by kernel_rfl) Try.func4 (by kernel_rfl)
    (of_decide_eq_true (by kernel_rfl)) (by unfold Func.isWrapper; first | (rw [if_pos (by decide +kernel)]; kernel_rfl) | (rw [if_neg (by decide +kernel)]; exact ⟨rfl, rfl⟩))
    (fun os started H enc _ => lifted os started H enc)

theorem proved : Rows.FnExactFormatEventSaid := over
#print axioms proved
end Go.Proofs.Ytlckjkdnipgnhaa.fnExactFormatEvent
