/-
  Functions of the program as Lean functions, and that the calls return what these say: part 2. No conditions.
-/
import Derived.Test.YtabpeldbccicaaaEqMedG0
import Derived.KernelRfl
set_option maxRecDepth 100000
set_option linter.unusedVariables false
namespace Go.Proofs.Ytabpeldbccicaaa
open Go Go.Fw

/-! spec.CompareFacts -/
def s_CompareFacts_L1 (a_a : Fact) (a_b : Fact) : Nat → Int → Option (Int)
  | 0, _ => none
  | m5 + 1, c4 => if ((decide ((c4 : Int) < (a_a.Values.length : Int))) && (decide ((c4 : Int) < (a_b.Values.length : Int)))) then (
      (ix a_a.Values c4).bind fun x15 =>
      (ix a_b.Values c4).bind fun x21 =>
      if (decide ((x15 : Int) < x21)) then (
        some (-1))
      else (
        (ix a_a.Values c4).bind fun x27 =>
        (ix a_b.Values c4).bind fun x33 =>
        if (decide ((x33 : Int) < x27)) then (
          some 1)
        else (
          s_CompareFacts_L1 a_a a_b m5 (IntKind.i64.wrap (c4 + 1)))))
    else (
      if (decide (((a_a.Values.length : Int) : Int) < (a_b.Values.length : Int))) then (
        some (-1))
      else (
        if (decide (((a_b.Values.length : Int) : Int) < (a_a.Values.length : Int))) then (
          some 1)
        else (
          some 0)))
def s_CompareFacts (a_a : Fact) (a_b : Fact) : Option (Int) :=
  if ((a_a.Rel : Int) != a_b.Rel) then (
    if (decide ((a_a.Rel : Int) < a_b.Rel)) then (
      some (-1))
    else (
      some 1))
  else (
    s_CompareFacts_L1 a_a a_b (((a_a.Values.length : Int) - 0).toNat + 2) 0)
theorem s_CompareFacts_ok (a_a : Fact) (v0_1 : Sv) (a_b : Fact) (v1_1 : Sv) (R : Int) (hF : s_CompareFacts a_a a_b = some R) :
    Fw.Spec Try.prog 132 [(.agg [(.int .i64 a_a.Rel), v0_1.v].toArray), (.agg [(.int .i64 a_b.Rel), v1_1.v].toArray)] [crd (RdS 3 rdInt) v0_1.v a_a.Values, crd (RdS 3 rdInt) v1_1.v a_b.Values] (fun _ : Unit => (.int .i64 R)) (fun _ => []) := by
  refine Spec_enter (n := 66) Try.func132 rfl rfl (rs := [.tmp 4]) rfl rfl rfl ?_
  intro H0 F0
  unfold s_CompareFacts at hF
  refine K_region ?_
  refine C_newR rfl (N_box (g := false) (v := (.agg [(.int .i64 a_a.Rel), v0_1.v].toArray)) ty157.sz (.tmp rfl rfl) rfl) (fun k1 => ?_)
  refine C_newR rfl (N_box (g := false) (v := (.agg [(.int .i64 a_b.Rel), v1_1.v].toArray)) ty157.sz (.tmp rfl rfl) rfl) (fun k2 => ?_)
  refine C_val (V_assign (v := (.int .i64 0)) (.int _ _)) ?_
  refine C_nil ?_
  refine K_in ?_
  refine K_region ?_
  refine C_val (V_fieldAddr (off := 0) fd157_0 (.tmp rfl rfl)) ?_
  refine C_at (.t .h) (fun hp => V_load (v := (.int .i64 a_a.Rel)) ag3 (.tmp rfl rfl) hp.2 rfl rfl) ?_
  refine C_val (V_fieldAddr (off := 0) fd157_0 (.tmp rfl rfl)) ?_
  refine C_at .h (fun hp => V_load (v := (.int .i64 a_b.Rel)) ag3 (.tmp rfl rfl) hp.2 rfl rfl) ?_
  refine C_val (V_neq (i := a_a.Rel) (j := a_b.Rel) (.tmp rfl rfl) (.tmp rfl rfl)) ?_
  refine C_nil ?_
  refine CW_cond (b := ((a_a.Rel : Int) != a_b.Rel)) (.tmp rfl rfl) (fun hb44 => ?_) (fun hb44 => ?_)
  · rw [if_pos hb44] at hF
    refine K_in ?_
    refine K_region ?_
    refine C_val (V_fieldAddr (off := 0) fd157_0 (.tmp rfl rfl)) ?_
    refine C_at (.t .h) (fun hp => V_load (v := (.int .i64 a_a.Rel)) ag3 (.tmp rfl rfl) hp.2 rfl rfl) ?_
    refine C_val (V_fieldAddr (off := 0) fd157_0 (.tmp rfl rfl)) ?_
    refine C_at .h (fun hp => V_load (v := (.int .i64 a_b.Rel)) ag3 (.tmp rfl rfl) hp.2 rfl rfl) ?_
    refine C_val (V_lss (i := a_a.Rel) (j := a_b.Rel) (.tmp rfl rfl) (.tmp rfl rfl)) ?_
    refine C_nil ?_
    refine CW_cond (b := (decide ((a_a.Rel : Int) < a_b.Rel))) (.tmp rfl rfl) (fun hb3 => ?_) (fun hb3 => ?_)
    · rw [if_pos hb3] at hF
      refine K_region ?_
      refine C_val (V_assign (v := (.int .i64 (-1))) (.int _ _)) ?_
      refine C_nil ?_
      refine CW_ret ?_
      obtain rfl := Option.some.inj hF
      exact End_ret () (.tmp rfl rfl .nil) rfl (.sel .nil)
    rw [if_neg (by rw [hb3]; exact Bool.false_ne_true)] at hF
    refine CW_skip ?_
    refine K_region ?_
    refine C_val (V_assign (v := (.int .i64 1)) (.int _ _)) ?_
    refine C_nil ?_
    refine CW_ret ?_
    obtain rfl := Option.some.inj hF
    exact End_ret () (.tmp rfl rfl .nil) rfl (.sel .nil)
  rw [if_neg (by rw [hb44]; exact Bool.false_ne_true)] at hF
  refine CW_skip ?_
  refine K_in ?_
  refine K_region ?_
  refine C_val (V_assign (v := (.int .i64 0)) (.int _ _)) ?_
  refine C_nil ?_
  refine CW_block ?_
  refine CW_loop (m := (((a_a.Values.length : Int) - 0).toNat + 2)) (fun m5 f' cs' => ∃ (g : Fr) (c4 : Int), f' = updL g [(2, (.pointer (some ⟨k1, 0, some 0⟩))), (3, (.pointer (some ⟨k2, 0, some 0⟩))), (5, (.int .i64 c4))] ∧ Ent cs' [cboR k1 157 (.agg [(.int .i64 a_a.Rel), v0_1.v].toArray), crd (RdS 3 rdInt) v0_1.v a_a.Values, cboR k2 157 (.agg [(.int .i64 a_b.Rel), v1_1.v].toArray), crd (RdS 3 rdInt) v1_1.v a_b.Values] ∧ s_CompareFacts_L1 a_a a_b m5 c4 = some R) ⟨_, _, (EqL.cons rfl (EqL.cons rfl (EqL.cons rfl (EqL.nil)))).eq, (.sel (.rd (.t .h) rfl (.rd (.t (.t .h)) rfl (.rd .h rfl (.rd (.t (.t (.t .h))) rfl .nil))))), hF⟩ ?_
  clear hF
  rintro m5 _ _ ⟨g6, c4, rfl, hE, hF⟩
  refine K_ent hE ?_
  clear hE
  rcases m5 with _ | m5
  · rw [s_CompareFacts_L1] at hF
    exact absurd hF (by simp)
  rw [s_CompareFacts_L1] at hF
  refine K_in ?_
  refine K_region ?_
  refine C_cut (fun f' cs' => ∃ (g : Fr), f' = updL g [(2, (.pointer (some ⟨k1, 0, some 0⟩))), (3, (.pointer (some ⟨k2, 0, some 0⟩))), (5, (.int .i64 c4)), (27, (.bool ((decide ((c4 : Int) < (a_a.Values.length : Int))) && (decide ((c4 : Int) < (a_b.Values.length : Int))))))] ∧ Ent cs' [cboR k1 157 (.agg [(.int .i64 a_a.Rel), v0_1.v].toArray), crd (RdS 3 rdInt) v0_1.v a_a.Values, cboR k2 157 (.agg [(.int .i64 a_b.Rel), v1_1.v].toArray), crd (RdS 3 rdInt) v1_1.v a_b.Values]) ?_ ?_
  · refine C_val (V_move (v := (.int .i64 c4)) (.tmp rfl rfl)) ?_
    refine C_val (V_fieldAddr (off := 1) fd157_1 (.tmp rfl rfl)) ?_
    refine C_at .h (fun hp => V_load (v := v0_1.v) ag45 (.tmp rfl rfl) hp.2 rfl rfl) ?_
    refine C_at (.t .h) (fun hp => V_lenR (l := a_a.Values.length) sl45 (.tmp rfl rfl) (crd_len hp)) ?_
    refine C_val (V_lss (i := c4) (j := (a_a.Values.length : Int)) (.tmp rfl rfl) (.tmp rfl rfl)) ?_
    refine C_val (V_move (v := (.bool (decide ((c4 : Int) < (a_a.Values.length : Int))))) (.tmp rfl rfl)) ?_
    rcases Bool.eq_false_or_eq_true (decide ((c4 : Int) < (a_a.Values.length : Int))) with hg13 | hg13
    · rw [hg13]
      try rw [hg13] at hF; dsimp only [cond_true, cond_false] at hF
      refine C_on (t := 21) rfl rfl rfl ?_
      refine C_val (V_move (v := (.int .i64 c4)) (.tmp rfl rfl)) ?_
      refine C_on (t := 21) rfl rfl rfl ?_
      refine C_val (V_fieldAddr (off := 1) fd157_1 (.tmp rfl rfl)) ?_
      refine C_on (t := 21) rfl rfl rfl ?_
      refine C_at (.t (.t .h)) (fun hp => V_load (v := v1_1.v) ag45 (.tmp rfl rfl) hp.2 rfl rfl) ?_
      refine C_on (t := 21) rfl rfl rfl ?_
      refine C_at (.t (.t (.t .h))) (fun hp => V_lenR (l := a_b.Values.length) sl45 (.tmp rfl rfl) (crd_len hp)) ?_
      refine C_on (t := 21) rfl rfl rfl ?_
      refine C_val (V_lss (i := c4) (j := (a_b.Values.length : Int)) (.tmp rfl rfl) (.tmp rfl rfl)) ?_
      refine C_val (V_pick (b := true) (u := (.bool (decide ((c4 : Int) < (a_b.Values.length : Int))))) (v := (.bool false)) (.tmp rfl rfl) (.tmp rfl rfl) (.bool _)) ?_
      refine C_nil ?_
      exact ⟨_, (EqL.cons rfl (EqL.cons rfl (EqL.cons rfl (EqL.cons rfl (EqL.nil))))).eq, (.sel (.rd .h rfl (.rd (.t .h) rfl (.rd (.t (.t .h)) rfl (.rd (.t (.t (.t .h))) rfl .nil)))))⟩
    rw [hg13]
    try rw [hg13] at hF; dsimp only [cond_true, cond_false] at hF
    refine C_off (t := 21) rfl rfl rfl ?_
    refine C_off (t := 21) rfl rfl rfl ?_
    refine C_off (t := 21) rfl rfl rfl ?_
    refine C_off (t := 21) rfl rfl rfl ?_
    refine C_off (t := 21) rfl rfl rfl ?_
    refine C_val (V_pick (b := false) (u := undef) (v := (.bool false)) (.tmp rfl rfl) (.tmp rfl rfl) (.bool _)) ?_
    refine C_nil ?_
    exact ⟨_, (EqL.cons rfl (EqL.cons rfl (EqL.cons rfl (EqL.cons rfl (EqL.nil))))).eq, (.sel (.rd .h rfl (.rd (.t .h) rfl (.rd (.t (.t .h)) rfl (.rd (.t (.t (.t .h))) rfl .nil)))))⟩
  rintro _ _ ⟨g14, rfl, hE⟩
  refine K_ent hE ?_
  refine CW_cond (b := ((decide ((c4 : Int) < (a_a.Values.length : Int))) && (decide ((c4 : Int) < (a_b.Values.length : Int))))) (.tmp rfl rfl) (fun hb43 => ?_) (fun hb43 => ?_)
  · rw [if_pos hb43] at hF
    refine CW_skip ?_
    refine K_block ?_
    refine K_in ?_
    refine K_draw [0, 1, 2, 3, 4, 5, 6, 7, 8, 9, 10] [0, 1, 0, 7, 15, 0, 32, 0, 224, 480, 1023] [] mixed (by decide +kernel) ?_
    refine D_val rfl .no (fun ha => V_fieldAddr (off := 1) fd157_1 (EN ha (.tmp rfl rfl) rfl)) ?_
    refine D_at rfl .no .h rfl (fun ha hp => V_load (v := v0_1.v) ag45 (EN ha (.tmp rfl rfl) rfl) hp.2 rfl rfl) ?_
    refine D_val rfl .no (fun ha => V_move (v := (.int .i64 c4)) (EN ha (.tmp rfl rfl) rfl)) ?_
    obtain ⟨x15, hx16, hF⟩ := bind_some hF
    obtain ⟨hp17, hx18⟩ := ix_some hx16
    refine D_idx (a := x15) sl45 ty3.sz rfl .no (.tmp rfl rfl) (.tmp rfl rfl) rfl rfl (.t .h) hp17 hx18 (fun k19 j20 => ?_)
    refine D_ldS (w := (.int .i64 x15)) ag3 rfl .no (.tmp rfl rfl) rfl .h ls3_0 ?_
    refine D_val rfl .no (fun ha => V_fieldAddr (off := 1) fd157_1 (EN ha (.tmp rfl rfl) rfl)) ?_
    refine D_at rfl .no (.t (.t (.t .h))) rfl (fun ha hp => V_load (v := v1_1.v) ag45 (EN ha (.tmp rfl rfl) rfl) hp.2 rfl rfl) ?_
    refine D_val rfl .no (fun ha => V_move (v := (.int .i64 c4)) (EN ha (.tmp rfl rfl) rfl)) ?_
    obtain ⟨x21, hx22, hF⟩ := bind_some hF
    obtain ⟨hp23, hx24⟩ := ix_some hx22
    refine D_idx (a := x21) sl45 ty3.sz rfl .no (.tmp rfl rfl) (.tmp rfl rfl) rfl rfl (.t (.t (.t (.t .h)))) hp23 hx24 (fun k25 j26 => ?_)
    refine D_ldS (w := (.int .i64 x21)) ag3 rfl .no (.tmp rfl rfl) rfl .h ls3_0 ?_
    refine D_val rfl .no (fun ha => V_lss (i := x15) (j := x21) (EN ha (.tmp rfl rfl) rfl) (EN ha (.tmp rfl rfl) rfl)) ?_
    refine D_nil ?_
    refine CW_cond (b := (decide ((x15 : Int) < x21))) (.tmp rfl rfl) (fun hb40 => ?_) (fun hb40 => ?_)
    · rw [if_pos hb40] at hF
      refine K_region ?_
      refine C_val (V_assign (v := (.int .i64 (-1))) (.int _ _)) ?_
      refine C_nil ?_
      refine CW_ret ?_
      obtain rfl := Option.some.inj hF
      exact End_ret () (.tmp rfl rfl .nil) rfl (.sel .nil)
    rw [if_neg (by rw [hb40]; exact Bool.false_ne_true)] at hF
    refine CW_skip ?_
    refine K_draw [0, 1, 2, 3, 4, 5, 6, 7, 8, 9, 10] [0, 1, 0, 7, 15, 0, 32, 0, 224, 480, 1023] [] mixed (by decide +kernel) ?_
    refine D_val rfl .no (fun ha => V_fieldAddr (off := 1) fd157_1 (EN ha (.tmp rfl rfl) rfl)) ?_
    refine D_at rfl .no (.t (.t .h)) rfl (fun ha hp => V_load (v := v0_1.v) ag45 (EN ha (.tmp rfl rfl) rfl) hp.2 rfl rfl) ?_
    refine D_val rfl .no (fun ha => V_move (v := (.int .i64 c4)) (EN ha (.tmp rfl rfl) rfl)) ?_
    obtain ⟨x27, hx28, hF⟩ := bind_some hF
    obtain ⟨hp29, hx30⟩ := ix_some hx28
    refine D_idx (a := x27) sl45 ty3.sz rfl .no (.tmp rfl rfl) (.tmp rfl rfl) rfl rfl (.t (.t (.t .h))) hp29 hx30 (fun k31 j32 => ?_)
    refine D_ldS (w := (.int .i64 x27)) ag3 rfl .no (.tmp rfl rfl) rfl .h ls3_0 ?_
    refine D_val rfl .no (fun ha => V_fieldAddr (off := 1) fd157_1 (EN ha (.tmp rfl rfl) rfl)) ?_
    refine D_at rfl .no (.t (.t (.t (.t (.t .h))))) rfl (fun ha hp => V_load (v := v1_1.v) ag45 (EN ha (.tmp rfl rfl) rfl) hp.2 rfl rfl) ?_
    refine D_val rfl .no (fun ha => V_move (v := (.int .i64 c4)) (EN ha (.tmp rfl rfl) rfl)) ?_
    obtain ⟨x33, hx34, hF⟩ := bind_some hF
    obtain ⟨hp35, hx36⟩ := ix_some hx34
    refine D_idx (a := x33) sl45 ty3.sz rfl .no (.tmp rfl rfl) (.tmp rfl rfl) rfl rfl (.t (.t (.t (.t (.t (.t .h)))))) hp35 hx36 (fun k37 j38 => ?_)
    refine D_ldS (w := (.int .i64 x33)) ag3 rfl .no (.tmp rfl rfl) rfl .h ls3_0 ?_
    refine D_val rfl .no (fun ha => V_gtr (i := x27) (j := x33) (EN ha (.tmp rfl rfl) rfl) (EN ha (.tmp rfl rfl) rfl)) ?_
    refine D_nil ?_
    refine CW_cond (b := (decide ((x33 : Int) < x27))) (.tmp rfl rfl) (fun hb39 => ?_) (fun hb39 => ?_)
    · rw [if_pos hb39] at hF
      refine K_region ?_
      refine C_val (V_assign (v := (.int .i64 1)) (.int _ _)) ?_
      refine C_nil ?_
      refine CW_ret ?_
      obtain rfl := Option.some.inj hF
      exact End_ret () (.tmp rfl rfl .nil) rfl (.sel .nil)
    rw [if_neg (by rw [hb39]; exact Bool.false_ne_true)] at hF
    refine CW_skip ?_
    refine CW_region ?_
    refine C_val (V_move (v := (.int .i64 c4)) (.tmp rfl rfl)) ?_
    refine C_val (V_add (i := c4) (j := 1) (.tmp rfl rfl) (.int _ _)) ?_
    refine C_val (V_assign (v := (.int .i64 (IntKind.i64.wrap (c4 + 1)))) (.tmp rfl rfl)) ?_
    refine C_nil ?_
    exact ⟨m5, Nat.lt_succ_self _, _, _, (EqL.cons rfl (EqL.cons rfl (EqL.cons rfl (EqL.nil)))).eq, (.sel (.rd (.t (.t (.t (.t .h)))) rfl (.rd (.t (.t (.t (.t (.t .h))))) rfl (.rd (.t (.t (.t (.t (.t (.t .h)))))) rfl (.rd (.t (.t (.t (.t (.t (.t (.t .h))))))) rfl .nil))))), hF⟩
  rw [if_neg (by rw [hb43]; exact Bool.false_ne_true)] at hF
  refine CW_exit ?_
  refine CThen_exit ?_
  refine CThen_exit ?_
  refine CIn_self ?_
  refine K_in ?_
  refine K_region ?_
  refine C_val (V_fieldAddr (off := 1) fd157_1 (.tmp rfl rfl)) ?_
  refine C_at .h (fun hp => V_load (v := v0_1.v) ag45 (.tmp rfl rfl) hp.2 rfl rfl) ?_
  refine C_at (.t .h) (fun hp => V_lenR (l := a_a.Values.length) sl45 (.tmp rfl rfl) (crd_len hp)) ?_
  refine C_val (V_fieldAddr (off := 1) fd157_1 (.tmp rfl rfl)) ?_
  refine C_at (.t (.t .h)) (fun hp => V_load (v := v1_1.v) ag45 (.tmp rfl rfl) hp.2 rfl rfl) ?_
  refine C_at (.t (.t (.t .h))) (fun hp => V_lenR (l := a_b.Values.length) sl45 (.tmp rfl rfl) (crd_len hp)) ?_
  refine C_val (V_lss (i := (a_a.Values.length : Int)) (j := (a_b.Values.length : Int)) (.tmp rfl rfl) (.tmp rfl rfl)) ?_
  refine C_nil ?_
  refine CW_cond (b := (decide (((a_a.Values.length : Int) : Int) < (a_b.Values.length : Int)))) (.tmp rfl rfl) (fun hb42 => ?_) (fun hb42 => ?_)
  · rw [if_pos hb42] at hF
    refine K_region ?_
    refine C_val (V_assign (v := (.int .i64 (-1))) (.int _ _)) ?_
    refine C_nil ?_
    refine CW_ret ?_
    obtain rfl := Option.some.inj hF
    exact End_ret () (.tmp rfl rfl .nil) rfl (.sel .nil)
  rw [if_neg (by rw [hb42]; exact Bool.false_ne_true)] at hF
  refine CW_skip ?_
  refine K_in ?_
  refine K_region ?_
  refine C_val (V_fieldAddr (off := 1) fd157_1 (.tmp rfl rfl)) ?_
  refine C_at .h (fun hp => V_load (v := v0_1.v) ag45 (.tmp rfl rfl) hp.2 rfl rfl) ?_
  refine C_at (.t .h) (fun hp => V_lenR (l := a_a.Values.length) sl45 (.tmp rfl rfl) (crd_len hp)) ?_
  refine C_val (V_fieldAddr (off := 1) fd157_1 (.tmp rfl rfl)) ?_
  refine C_at (.t (.t .h)) (fun hp => V_load (v := v1_1.v) ag45 (.tmp rfl rfl) hp.2 rfl rfl) ?_
  refine C_at (.t (.t (.t .h))) (fun hp => V_lenR (l := a_b.Values.length) sl45 (.tmp rfl rfl) (crd_len hp)) ?_
  refine C_val (V_gtr (i := (a_a.Values.length : Int)) (j := (a_b.Values.length : Int)) (.tmp rfl rfl) (.tmp rfl rfl)) ?_
  refine C_nil ?_
  refine CW_cond (b := (decide (((a_b.Values.length : Int) : Int) < (a_a.Values.length : Int)))) (.tmp rfl rfl) (fun hb41 => ?_) (fun hb41 => ?_)
  · rw [if_pos hb41] at hF
    refine K_region ?_
    refine C_val (V_assign (v := (.int .i64 1)) (.int _ _)) ?_
    refine C_nil ?_
    refine CW_ret ?_
    obtain rfl := Option.some.inj hF
    exact End_ret () (.tmp rfl rfl .nil) rfl (.sel .nil)
  rw [if_neg (by rw [hb41]; exact Bool.false_ne_true)] at hF
  refine CW_skip ?_
  refine K_region ?_
  refine C_val (V_assign (v := (.int .i64 0)) (.int _ _)) ?_
  refine C_nil ?_
  refine CW_ret ?_
  obtain rfl := Option.some.inj hF
  exact End_ret () (.tmp rfl rfl .nil) rfl (.sel .nil)

/-! spec.SameFacts -/
def s_SameFacts_L1 (a_b : List Fact) : List Fact → Nat → Option (Bool)
  | [], k4 => some true
  | x6 :: rest5, k4 => (ix a_b (k4 : Int)).bind fun x16 =>
    (s_CompareFacts x6 x16).bind fun r23 =>
    if ((r23 : Int) != 0) then (
      some false)
    else (
      s_SameFacts_L1 a_b rest5 (k4 + 1))
def s_SameFacts (a_a : List Fact) (a_b : List Fact) : Option (Bool) :=
  if (((a_a.length : Int) : Int) != (a_b.length : Int)) then (
    some false)
  else (
    s_SameFacts_L1 a_b a_a 0)
theorem s_SameFacts_ok (a_a : List Fact) (v0_0 : Sv) (a_b : List Fact) (v1_0 : Sv) (R : Bool) (hF : s_SameFacts a_a a_b = some R) :
    Fw.Spec Try.prog 89 [v0_0.v, v1_0.v] [crd (RdS 157 rd157) v0_0.v a_a, crd (RdS 157 rd157) v1_0.v a_b] (fun _ : Unit => (.bool R)) (fun _ => []) := by
  refine Spec_enter (n := 27) Try.func89 rfl rfl (rs := [.tmp 4]) rfl rfl rfl ?_
  intro H0 F0
  unfold s_SameFacts at hF
  refine K_region ?_
  refine C_val (V_assign (v := (.bool false)) (.bool _)) ?_
  refine C_nil ?_
  refine K_in ?_
  refine K_region ?_
  refine C_val (V_move (v := v0_0.v) (.tmp rfl rfl)) ?_
  refine C_at .h (fun hp => V_lenR (l := a_a.length) sl47 (.tmp rfl rfl) (crd_len hp)) ?_
  refine C_val (V_move (v := v1_0.v) (.tmp rfl rfl)) ?_
  refine C_at (.t .h) (fun hp => V_lenR (l := a_b.length) sl47 (.tmp rfl rfl) (crd_len hp)) ?_
  refine C_val (V_neq (i := (a_a.length : Int)) (j := (a_b.length : Int)) (.tmp rfl rfl) (.tmp rfl rfl)) ?_
  refine C_nil ?_
  refine CW_cond (b := (((a_a.length : Int) : Int) != (a_b.length : Int))) (.tmp rfl rfl) (fun hb28 => ?_) (fun hb28 => ?_)
  · rw [if_pos hb28] at hF
    refine K_region ?_
    refine C_val (V_assign (v := (.bool false)) (.bool _)) ?_
    refine C_nil ?_
    refine CW_ret ?_
    obtain rfl := Option.some.inj hF
    exact End_ret () (.tmp rfl rfl .nil) rfl (.sel .nil)
  rw [if_neg (by rw [hb28]; exact Bool.false_ne_true)] at hF
  refine CW_skip ?_
  refine K_in ?_
  refine K_region ?_
  refine C_val (V_assign (v := (.int .i64 0)) (.int _ _)) ?_
  refine C_nil ?_
  refine CW_block ?_
  refine CW_loop (m := a_a.length) (fun m2 f' cs' => ∃ (g : Fr) (k4 : Nat) (rest5 : List Fact), m2 = rest5.length ∧ f' = updL g [(0, v0_0.v), (1, v1_0.v), (5, (.int .i64 (k4 : Int)))] ∧ List.drop k4 a_a = rest5 ∧ Ent cs' [crd (RdS 157 rd157) v0_0.v a_a, crd (RdS 157 rd157) v1_0.v a_b] ∧ s_SameFacts_L1 a_b rest5 k4 = some R) ⟨_, 0, _, rfl, (EqL.cons rfl (EqL.cons rfl (EqL.cons rfl (EqL.nil)))).eq, rfl, (.sel (.rd .h rfl (.rd (.t .h) rfl .nil))), hF⟩ ?_
  clear hF
  rintro m2 _ _ ⟨g3, k4, rest5, rfl, rfl, hd7, hE, hF⟩
  refine K_ent hE ?_
  clear hE
  refine K_pure (c := crd (RdS 157 rd157) v0_0.v a_a) .h crd_bound (fun hbd12 => ?_)
  rcases rest5 with _ | ⟨x6, rest5⟩
  · have hk8 := List.drop_eq_nil_iff.1 hd7
    have hfe11 : (decide (((k4 : Int) : Int) < (a_a.length : Int))) = false := decide_eq_false (by omega)
    rw [s_SameFacts_L1] at hF
    refine K_in ?_
    refine K_region ?_
    refine C_val (V_move (v := (.int .i64 (k4 : Int))) (.tmp rfl rfl)) ?_
    refine C_val (V_move (v := v0_0.v) (.tmp rfl rfl)) ?_
    refine C_at .h (fun hp => V_lenR (l := a_a.length) sl47 (.tmp rfl rfl) (crd_len hp)) ?_
    refine C_val (V_lss (i := (k4 : Int)) (j := (a_a.length : Int)) (.tmp rfl rfl) (.tmp rfl rfl)) ?_
    refine C_nil ?_
    refine CW_cond (b := (decide (((k4 : Int) : Int) < (a_a.length : Int)))) (.tmp rfl rfl) (fun hb => absurd (hfe11.symm.trans hb) (by decide)) (fun _ => ?_)
    refine CW_exit ?_
    refine CThen_exit ?_
    refine CThen_exit ?_
    refine CIn_self ?_
    refine K_region ?_
    refine C_val (V_assign (v := (.bool true)) (.bool _)) ?_
    refine C_nil ?_
    refine CW_ret ?_
    obtain rfl := Option.some.inj hF
    exact End_ret () (.tmp rfl rfl .nil) rfl (.sel .nil)
  obtain ⟨hk8, hx9, hd10⟩ := drop_cons hd7
  have hfe11 : (decide (((k4 : Int) : Int) < (a_a.length : Int))) = true := decide_eq_true (by omega)
  rw [s_SameFacts_L1] at hF
  refine K_in ?_
  refine K_region ?_
  refine C_val (V_move (v := (.int .i64 (k4 : Int))) (.tmp rfl rfl)) ?_
  refine C_val (V_move (v := v0_0.v) (.tmp rfl rfl)) ?_
  refine C_at .h (fun hp => V_lenR (l := a_a.length) sl47 (.tmp rfl rfl) (crd_len hp)) ?_
  refine C_val (V_lss (i := (k4 : Int)) (j := (a_a.length : Int)) (.tmp rfl rfl) (.tmp rfl rfl)) ?_
  refine C_nil ?_
  refine CW_cond (b := (decide (((k4 : Int) : Int) < (a_a.length : Int)))) (.tmp rfl rfl) (fun _ => ?_) (fun hb => absurd (hfe11.symm.trans hb) (by decide))
  refine CW_skip ?_
  refine K_block ?_
  refine K_draw [0, 1, 2, 3, 4, 5, 6, 7, 8, 9] [0, 0, 3, 7, 0, 0, 48, 112, 255, 511] [8] mixed (by decide +kernel) ?_
  refine D_val rfl .no (fun ha => V_move (v := v0_0.v) (EN ha (.tmp rfl rfl) rfl)) ?_
  refine D_val rfl .no (fun ha => V_move (v := (.int .i64 (k4 : Int))) (EN ha (.tmp rfl rfl) rfl)) ?_
  refine D_idx (a := x6) sl47 ty157.sz rfl .no (.tmp rfl rfl) (.tmp rfl rfl) rfl rfl .h (Int.natCast_nonneg k4) hx9 (fun k13 j14 => ?_)
  refine D_ldA1 (ul157_0_157 x6) ag157 ty157.sz rfl rfl .no (.tmp rfl rfl) rfl .h la157_0_157 (fun p15 => ?_)
  refine D_val rfl .no (fun ha => V_move (v := v1_0.v) (EN ha (.tmp rfl rfl) rfl)) ?_
  refine D_val rfl .no (fun ha => V_move (v := (.int .i64 (k4 : Int))) (EN ha (.tmp rfl rfl) rfl)) ?_
  obtain ⟨x16, hx17, hF⟩ := bind_some hF
  obtain ⟨hp18, hx19⟩ := ix_some hx17
  refine D_idx (a := x16) sl47 ty157.sz rfl .no (.tmp rfl rfl) (.tmp rfl rfl) rfl rfl (.t (.t (.t .h))) hp18 hx19 (fun k20 j21 => ?_)
  refine D_ldA1 (ul157_0_157 x16) ag157 ty157.sz rfl rfl .no (.tmp rfl rfl) rfl .h la157_0_157 (fun p22 => ?_)
  obtain ⟨r23, hx24, hF⟩ := bind_some hF
  refine D_act0 rfl rfl .no (.rd (.t (.t .h)) rfl (.rd .h rfl .nil)) .nil (fun ha => X_callS cf132 (.cons (EN ha (.tmp rfl rfl) rfl) (.cons (EN ha (.tmp rfl rfl) rfl) .nil)) (s_CompareFacts_ok x6 p15 x16 p22 _ hx24)) (fun _ => ?_)
  refine D_val rfl .no (fun ha => V_neq (i := r23) (j := 0) (EN ha (.tmp rfl rfl) rfl) (EN ha (.int _ _) rfl)) ?_
  refine D_nil ?_
  refine CW_cond (b := ((r23 : Int) != 0)) (.tmp rfl rfl) (fun hb27 => ?_) (fun hb27 => ?_)
  · rw [if_pos hb27] at hF
    refine K_region ?_
    refine C_val (V_assign (v := (.bool false)) (.bool _)) ?_
    refine C_nil ?_
    refine CW_ret ?_
    obtain rfl := Option.some.inj hF
    exact End_ret () (.tmp rfl rfl .nil) rfl (.sel .nil)
  rw [if_neg (by rw [hb27]; exact Bool.false_ne_true)] at hF
  refine CW_skip ?_
  refine CW_region ?_
  refine C_val (V_move (v := (.int .i64 (k4 : Int))) (.tmp rfl rfl)) ?_
  refine C_val (V_add (i := (k4 : Int)) (j := 1) (.tmp rfl rfl) (.int _ _)) ?_
  refine C_val (V_assign (v := (.int .i64 (IntKind.i64.wrap ((k4 : Int) + 1)))) (.tmp rfl rfl)) ?_
  refine C_nil ?_
  have hw26 : IntKind.i64.wrap ((k4 : Int) + 1) = ((k4 + 1 : Nat) : Int) := by rw [wrap_in (by omega) (by omega)]; rfl
  rw [hw26]
  exact ⟨_, Nat.lt_succ_self _, _, k4 + 1, rest5, rfl, (EqL.cons rfl (EqL.cons rfl (EqL.cons rfl (EqL.nil)))).eq, hd10, (.sel (.rd (.t (.t (.t (.t .h)))) rfl (.rd (.t (.t (.t (.t (.t .h))))) rfl .nil))), hF⟩

/-! spec.l5Same -/
def s_l5Same (a_a : Access) (a_b : Access) : Option (Bool) :=
  (bif ((a_a.Method : Int) == a_b.Method) then ((s_l2Ints a_a.Values a_b.Values).bind fun r6 =>
      some r6)
    else (some false)).bind fun o3 =>
  match o3 with
  | c9 => some c9
theorem s_l5Same_ok (a_a : Access) (v0_1 : Sv) (a_b : Access) (v1_1 : Sv) (R : Bool) (hF : s_l5Same a_a a_b = some R) :
    Fw.Spec Try.prog 110 [(.agg [(.int .i64 a_a.Method), v0_1.v].toArray), (.agg [(.int .i64 a_b.Method), v1_1.v].toArray)] [crd (RdS 3 rdInt) v0_1.v a_a.Values, crd (RdS 3 rdInt) v1_1.v a_b.Values] (fun _ : Unit => (.bool R)) (fun _ => []) := by
  refine Spec_enter (n := 17) Try.func110 rfl rfl (rs := [.tmp 4]) rfl rfl rfl ?_
  intro H0 F0
  unfold s_l5Same at hF
  refine K_region ?_
  refine C_newR rfl (N_box (g := false) (v := (.agg [(.int .i64 a_a.Method), v0_1.v].toArray)) ty100.sz (.tmp rfl rfl) rfl) (fun k1 => ?_)
  refine C_newR rfl (N_box (g := false) (v := (.agg [(.int .i64 a_b.Method), v1_1.v].toArray)) ty100.sz (.tmp rfl rfl) rfl) (fun k2 => ?_)
  refine C_val (V_assign (v := (.bool false)) (.bool _)) ?_
  refine C_nil ?_
  obtain ⟨o3, hio3, hO4⟩ := bind_some hF
  refine K_region ?_
  refine C_cut (fun f' cs' => ∃ (c9 : Bool) (g : Fr), c9 = o3 ∧ f' = updL g [(4, (.bool c9))] ∧ Ent cs' []) ?_ ?_
  · replace hF := hio3
    refine C_val (V_fieldAddr (off := 0) fd100_0 (.tmp rfl rfl)) ?_
    refine C_at (.t .h) (fun hp => V_load (v := (.int .i64 a_a.Method)) ag3 (.tmp rfl rfl) hp.2 rfl rfl) ?_
    refine C_val (V_fieldAddr (off := 0) fd100_0 (.tmp rfl rfl)) ?_
    refine C_at .h (fun hp => V_load (v := (.int .i64 a_b.Method)) ag3 (.tmp rfl rfl) hp.2 rfl rfl) ?_
    refine C_val (V_eql (i := a_a.Method) (j := a_b.Method) (.tmp rfl rfl) (.tmp rfl rfl)) ?_
    refine C_val (V_move (v := (.bool ((a_a.Method : Int) == a_b.Method))) (.tmp rfl rfl)) ?_
    rcases Bool.eq_false_or_eq_true ((a_a.Method : Int) == a_b.Method) with hg5 | hg5
    · rw [hg5]
      try rw [hg5] at hF; dsimp only [cond_true, cond_false] at hF
      refine C_on (t := 10) rfl rfl rfl ?_
      refine C_val (V_fieldAddr (off := 1) fd100_1 (.tmp rfl rfl)) ?_
      refine C_on (t := 10) rfl rfl rfl ?_
      refine C_at (.t .h) (fun hp => V_load (v := v0_1.v) ag45 (.tmp rfl rfl) hp.2 rfl rfl) ?_
      refine C_on (t := 10) rfl rfl rfl ?_
      refine C_val (V_fieldAddr (off := 1) fd100_1 (.tmp rfl rfl)) ?_
      refine C_on (t := 10) rfl rfl rfl ?_
      refine C_at .h (fun hp => V_load (v := v1_1.v) ag45 (.tmp rfl rfl) hp.2 rfl rfl) ?_
      refine C_on (t := 10) rfl rfl rfl ?_
      obtain ⟨r6, hx7, hF⟩ := bind_some hF
      refine C_x0 (.rd (.t (.t .h)) rfl (.rd (.t (.t (.t .h))) rfl .nil)) (X_callS cf87 (.cons (.tmp rfl rfl) (.cons (.tmp rfl rfl) .nil)) (s_l2Ints_ok a_a.Values v0_1 a_b.Values v1_1 _ hx7)) (fun _ => ?_)
      refine C_val (V_pick (b := true) (u := (.bool r6)) (v := (.bool false)) (.tmp rfl rfl) (.tmp rfl rfl) (.bool _)) ?_
      refine C_val (V_assign (v := (.bool r6)) (.tmp rfl rfl)) ?_
      refine C_nil ?_
      obtain rfl := Option.some.inj hF
      exact ⟨_, _, rfl, (EqL.cons rfl (EqL.nil)).eq, (.sel .nil)⟩
    rw [hg5]
    try rw [hg5] at hF; dsimp only [cond_true, cond_false] at hF
    refine C_off (t := 10) rfl rfl rfl ?_
    refine C_off (t := 10) rfl rfl rfl ?_
    refine C_off (t := 10) rfl rfl rfl ?_
    refine C_off (t := 10) rfl rfl rfl ?_
    refine C_off (t := 10) rfl rfl rfl ?_
    refine C_val (V_pick (b := false) (u := undef) (v := (.bool false)) (.tmp rfl rfl) (.tmp rfl rfl) (.bool _)) ?_
    refine C_val (V_assign (v := (.bool false)) (.tmp rfl rfl)) ?_
    refine C_nil ?_
    obtain rfl := Option.some.inj hF
    exact ⟨_, _, rfl, (EqL.cons rfl (EqL.nil)).eq, (.sel .nil)⟩
  rintro _ _ ⟨c9, g10, rfl, rfl, hE⟩
  replace hF := hO4
  clear hO4
  try dsimp only at hF
  refine K_ent hE ?_
  refine CW_ret ?_
  obtain rfl := Option.some.inj hF
  exact End_ret () (.tmp rfl rfl .nil) rfl (.sel .nil)

/-! spec.EqualCaches -/
def s_EqualCaches_L1 (a_b : Cache) : List Stored → Nat → Option (Bool)
  | [], k8 => some true
  | x10 :: rest9, k8 => (ix a_b.Entries (k8 : Int)).bind fun x21 =>
    ((s_l5Same x10.Access x21.Access).bind fun r31 =>
      bif (!r31) then (some true)
      else ((s_SameFacts x10.Facts x21.Facts).bind fun r35 =>
        bif (!r35) then (some true)
        else (some ((x10.At : Int) != x21.At)))).bind fun o29 =>
    match o29 with
    | c39 => if c39 then (
        some false)
      else (
        s_EqualCaches_L1 a_b rest9 (k8 + 1))
def s_EqualCaches (a_a : Cache) (a_b : Cache) : Option (Bool) :=
  if ((((a_a.Entries.length : Int) : Int) != (a_b.Entries.length : Int)) || ((a_a.Age : Int) != a_b.Age)) then (
    some false)
  else (
    s_EqualCaches_L1 a_b a_a.Entries 0)
theorem s_EqualCaches_ok (a_a : Cache) (v0_0 : Sv) (a_b : Cache) (v1_0 : Sv) (R : Bool) (hF : s_EqualCaches a_a a_b = some R) :
    Fw.Spec Try.prog 90 [(.agg [v0_0.v, (.int .i64 a_a.Age)].toArray), (.agg [v1_0.v, (.int .i64 a_b.Age)].toArray)] [crd (RdS 159 rd159) v0_0.v a_a.Entries, crd (RdS 159 rd159) v1_0.v a_b.Entries] (fun _ : Unit => (.bool R)) (fun _ => []) := by
  refine Spec_enter (n := 60) Try.func90 rfl rfl (rs := [.tmp 4]) rfl rfl rfl ?_
  intro H0 F0
  unfold s_EqualCaches at hF
  refine K_region ?_
  refine C_newR rfl (N_box (g := false) (v := (.agg [v0_0.v, (.int .i64 a_a.Age)].toArray)) ty52.sz (.tmp rfl rfl) rfl) (fun k1 => ?_)
  refine C_newR rfl (N_box (g := false) (v := (.agg [v1_0.v, (.int .i64 a_b.Age)].toArray)) ty52.sz (.tmp rfl rfl) rfl) (fun k2 => ?_)
  refine C_val (V_assign (v := (.bool false)) (.bool _)) ?_
  refine C_nil ?_
  refine K_in ?_
  refine K_region ?_
  refine C_cut (fun f' cs' => ∃ (g : Fr), f' = updL g [(2, (.pointer (some ⟨k1, 0, some 0⟩))), (3, (.pointer (some ⟨k2, 0, some 0⟩))), (21, (.bool ((((a_a.Entries.length : Int) : Int) != (a_b.Entries.length : Int)) || ((a_a.Age : Int) != a_b.Age))))] ∧ Ent cs' [cboR k1 52 (.agg [v0_0.v, (.int .i64 a_a.Age)].toArray), crd (RdS 159 rd159) v0_0.v a_a.Entries, cboR k2 52 (.agg [v1_0.v, (.int .i64 a_b.Age)].toArray), crd (RdS 159 rd159) v1_0.v a_b.Entries]) ?_ ?_
  · refine C_val (V_fieldAddr (off := 0) fd52_0 (.tmp rfl rfl)) ?_
    refine C_at (.t .h) (fun hp => V_load (v := v0_0.v) ag50 (.tmp rfl rfl) hp.2 rfl rfl) ?_
    refine C_at (.t (.t .h)) (fun hp => V_lenR (l := a_a.Entries.length) sl50 (.tmp rfl rfl) (crd_len hp)) ?_
    refine C_val (V_fieldAddr (off := 0) fd52_0 (.tmp rfl rfl)) ?_
    refine C_at .h (fun hp => V_load (v := v1_0.v) ag50 (.tmp rfl rfl) hp.2 rfl rfl) ?_
    refine C_at (.t (.t (.t .h))) (fun hp => V_lenR (l := a_b.Entries.length) sl50 (.tmp rfl rfl) (crd_len hp)) ?_
    refine C_val (V_neq (i := (a_a.Entries.length : Int)) (j := (a_b.Entries.length : Int)) (.tmp rfl rfl) (.tmp rfl rfl)) ?_
    refine C_val (V_move (v := (.bool (((a_a.Entries.length : Int) : Int) != (a_b.Entries.length : Int)))) (.tmp rfl rfl)) ?_
    rcases Bool.eq_false_or_eq_true (((a_a.Entries.length : Int) : Int) != (a_b.Entries.length : Int)) with hg3 | hg3
    · rw [hg3]
      try rw [hg3] at hF; dsimp only [cond_true, cond_false] at hF
      refine C_off (t := 15) rfl rfl rfl ?_
      refine C_off (t := 15) rfl rfl rfl ?_
      refine C_off (t := 15) rfl rfl rfl ?_
      refine C_off (t := 15) rfl rfl rfl ?_
      refine C_off (t := 15) rfl rfl rfl ?_
      refine C_val (V_pick (b := true) (u := (.bool true)) (v := undef) (.tmp rfl rfl) (.bool _) (.tmp rfl rfl)) ?_
      refine C_nil ?_
      exact ⟨_, (EqL.cons rfl (EqL.cons rfl (EqL.cons rfl (EqL.nil)))).eq, (.sel (.rd (.t .h) rfl (.rd (.t (.t .h)) rfl (.rd .h rfl (.rd (.t (.t (.t .h))) rfl .nil)))))⟩
    rw [hg3]
    try rw [hg3] at hF; dsimp only [cond_true, cond_false] at hF
    refine C_on (t := 15) rfl rfl rfl ?_
    refine C_val (V_fieldAddr (off := 1) fd52_1 (.tmp rfl rfl)) ?_
    refine C_on (t := 15) rfl rfl rfl ?_
    refine C_at (.t .h) (fun hp => V_load (v := (.int .i64 a_a.Age)) ag3 (.tmp rfl rfl) hp.2 rfl rfl) ?_
    refine C_on (t := 15) rfl rfl rfl ?_
    refine C_val (V_fieldAddr (off := 1) fd52_1 (.tmp rfl rfl)) ?_
    refine C_on (t := 15) rfl rfl rfl ?_
    refine C_at .h (fun hp => V_load (v := (.int .i64 a_b.Age)) ag3 (.tmp rfl rfl) hp.2 rfl rfl) ?_
    refine C_on (t := 15) rfl rfl rfl ?_
    refine C_val (V_neq (i := a_a.Age) (j := a_b.Age) (.tmp rfl rfl) (.tmp rfl rfl)) ?_
    refine C_val (V_pick (b := false) (u := (.bool true)) (v := (.bool ((a_a.Age : Int) != a_b.Age))) (.tmp rfl rfl) (.bool _) (.tmp rfl rfl)) ?_
    refine C_nil ?_
    exact ⟨_, (EqL.cons rfl (EqL.cons rfl (EqL.cons rfl (EqL.nil)))).eq, (.sel (.rd (.t .h) rfl (.rd (.t (.t .h)) rfl (.rd .h rfl (.rd (.t (.t (.t .h))) rfl .nil)))))⟩
  rintro _ _ ⟨g4, rfl, hE⟩
  refine K_ent hE ?_
  refine CW_cond (b := ((((a_a.Entries.length : Int) : Int) != (a_b.Entries.length : Int)) || ((a_a.Age : Int) != a_b.Age))) (.tmp rfl rfl) (fun hb43 => ?_) (fun hb43 => ?_)
  · rw [if_pos hb43] at hF
    refine K_region ?_
    refine C_val (V_assign (v := (.bool false)) (.bool _)) ?_
    refine C_nil ?_
    refine CW_ret ?_
    obtain rfl := Option.some.inj hF
    exact End_ret () (.tmp rfl rfl .nil) rfl (.sel .nil)
  rw [if_neg (by rw [hb43]; exact Bool.false_ne_true)] at hF
  refine CW_skip ?_
  refine K_in ?_
  refine K_region ?_
  refine C_val (V_assign (v := (.int .i64 0)) (.int _ _)) ?_
  refine C_nil ?_
  refine CW_block ?_
  refine CW_loop (m := a_a.Entries.length) (fun m6 f' cs' => ∃ (g : Fr) (k8 : Nat) (rest9 : List Stored), m6 = rest9.length ∧ f' = updL g [(2, (.pointer (some ⟨k1, 0, some 0⟩))), (3, (.pointer (some ⟨k2, 0, some 0⟩))), (5, (.int .i64 (k8 : Int)))] ∧ List.drop k8 a_a.Entries = rest9 ∧ Ent cs' [cboR k1 52 (.agg [v0_0.v, (.int .i64 a_a.Age)].toArray), crd (RdS 159 rd159) v0_0.v a_a.Entries, cboR k2 52 (.agg [v1_0.v, (.int .i64 a_b.Age)].toArray), crd (RdS 159 rd159) v1_0.v a_b.Entries] ∧ s_EqualCaches_L1 a_b rest9 k8 = some R) ⟨_, 0, _, rfl, (EqL.cons rfl (EqL.cons rfl (EqL.cons rfl (EqL.nil)))).eq, rfl, (.sel (.rd .h rfl (.rd (.t .h) rfl (.rd (.t (.t .h)) rfl (.rd (.t (.t (.t .h))) rfl .nil))))), hF⟩ ?_
  clear hF
  rintro m6 _ _ ⟨g7, k8, rest9, rfl, rfl, hd11, hE, hF⟩
  refine K_ent hE ?_
  clear hE
  refine K_pure (c := crd (RdS 159 rd159) v0_0.v a_a.Entries) (.t .h) crd_bound (fun hbd16 => ?_)
  rcases rest9 with _ | ⟨x10, rest9⟩
  · have hk12 := List.drop_eq_nil_iff.1 hd11
    have hfe15 : (decide (((k8 : Int) : Int) < (a_a.Entries.length : Int))) = false := decide_eq_false (by omega)
    rw [s_EqualCaches_L1] at hF
    refine K_in ?_
    refine K_region ?_
    refine C_val (V_move (v := (.int .i64 (k8 : Int))) (.tmp rfl rfl)) ?_
    refine C_val (V_fieldAddr (off := 0) fd52_0 (.tmp rfl rfl)) ?_
    refine C_at .h (fun hp => V_load (v := v0_0.v) ag50 (.tmp rfl rfl) hp.2 rfl rfl) ?_
    refine C_at (.t .h) (fun hp => V_lenR (l := a_a.Entries.length) sl50 (.tmp rfl rfl) (crd_len hp)) ?_
    refine C_val (V_lss (i := (k8 : Int)) (j := (a_a.Entries.length : Int)) (.tmp rfl rfl) (.tmp rfl rfl)) ?_
    refine C_nil ?_
    refine CW_cond (b := (decide (((k8 : Int) : Int) < (a_a.Entries.length : Int)))) (.tmp rfl rfl) (fun hb => absurd (hfe15.symm.trans hb) (by decide)) (fun _ => ?_)
    refine CW_exit ?_
    refine CThen_exit ?_
    refine CThen_exit ?_
    refine CIn_self ?_
    refine K_region ?_
    refine C_val (V_assign (v := (.bool true)) (.bool _)) ?_
    refine C_nil ?_
    refine CW_ret ?_
    obtain rfl := Option.some.inj hF
    exact End_ret () (.tmp rfl rfl .nil) rfl (.sel .nil)
  obtain ⟨hk12, hx13, hd14⟩ := drop_cons hd11
  have hfe15 : (decide (((k8 : Int) : Int) < (a_a.Entries.length : Int))) = true := decide_eq_true (by omega)
  rw [s_EqualCaches_L1] at hF
  refine K_in ?_
  refine K_region ?_
  refine C_val (V_move (v := (.int .i64 (k8 : Int))) (.tmp rfl rfl)) ?_
  refine C_val (V_fieldAddr (off := 0) fd52_0 (.tmp rfl rfl)) ?_
  refine C_at .h (fun hp => V_load (v := v0_0.v) ag50 (.tmp rfl rfl) hp.2 rfl rfl) ?_
  refine C_at (.t .h) (fun hp => V_lenR (l := a_a.Entries.length) sl50 (.tmp rfl rfl) (crd_len hp)) ?_
  refine C_val (V_lss (i := (k8 : Int)) (j := (a_a.Entries.length : Int)) (.tmp rfl rfl) (.tmp rfl rfl)) ?_
  refine C_nil ?_
  refine CW_cond (b := (decide (((k8 : Int) : Int) < (a_a.Entries.length : Int)))) (.tmp rfl rfl) (fun _ => ?_) (fun hb => absurd (hfe15.symm.trans hb) (by decide))
  refine CW_skip ?_
  refine K_block ?_
  refine K_region ?_
  refine C_val (V_fieldAddr (off := 0) fd52_0 (.tmp rfl rfl)) ?_
  refine C_at .h (fun hp => V_load (v := v0_0.v) ag50 (.tmp rfl rfl) hp.2 rfl rfl) ?_
  refine C_val (V_move (v := (.int .i64 (k8 : Int))) (.tmp rfl rfl)) ?_
  refine C_idx (a := x10) sl50 ty159.sz (.tmp rfl rfl) (.tmp rfl rfl) (.t .h) (Int.natCast_nonneg k8) hx13 (fun k17 j18 => ?_)
  refine C_ldA2 (ul159_0_159 x10) ag159 ty159.sz rfl (.tmp rfl rfl) .h la159_0_159 (fun p19 => ?_)
  refine C_new rfl (N_allocT (g := true) ty159 rfl rfl) (fun k20 => ?_)
  refine C_x1 (.cons .h .nil) (X_storeB (e := (.agg [(.int .i64 0), (.slice none 0 0), (.slice none 0 0), (.int .i64 0)].toArray)) (e' := (.agg [(.int .i64 x10.Access.Method), p19.1.v, p19.2.v, (.int .i64 x10.At)].toArray)) (v := (.agg [(.int .i64 x10.Access.Method), p19.1.v, p19.2.v, (.int .i64 x10.At)].toArray)) ty159.sz (.tmp rfl rfl) (.tmp rfl rfl) rfl rfl rfl rfl rfl) (fun _ => ?_)
  refine C_nil ?_
  refine K_region ?_
  refine C_val (V_fieldAddr (off := 0) fd52_0 (.tmp rfl rfl)) ?_
  refine C_at (.t (.t (.t (.t (.t (.t .h)))))) (fun hp => V_load (v := v1_0.v) ag50 (.tmp rfl rfl) hp.2 rfl rfl) ?_
  refine C_val (V_move (v := (.int .i64 (k8 : Int))) (.tmp rfl rfl)) ?_
  obtain ⟨x21, hx22, hF⟩ := bind_some hF
  obtain ⟨hp23, hx24⟩ := ix_some hx22
  refine C_idx (a := x21) sl50 ty159.sz (.tmp rfl rfl) (.tmp rfl rfl) (.t (.t (.t (.t (.t (.t (.t .h))))))) hp23 hx24 (fun k25 j26 => ?_)
  refine C_ldA2 (ul159_0_159 x21) ag159 ty159.sz rfl (.tmp rfl rfl) .h la159_0_159 (fun p27 => ?_)
  refine C_new rfl (N_allocT (g := true) ty159 rfl rfl) (fun k28 => ?_)
  refine C_x1 (.cons .h .nil) (X_storeB (e := (.agg [(.int .i64 0), (.slice none 0 0), (.slice none 0 0), (.int .i64 0)].toArray)) (e' := (.agg [(.int .i64 x21.Access.Method), p27.1.v, p27.2.v, (.int .i64 x21.At)].toArray)) (v := (.agg [(.int .i64 x21.Access.Method), p27.1.v, p27.2.v, (.int .i64 x21.At)].toArray)) ty159.sz (.tmp rfl rfl) (.tmp rfl rfl) rfl rfl rfl rfl rfl) (fun _ => ?_)
  refine C_nil ?_
  obtain ⟨o29, hio29, hO30⟩ := bind_some hF
  refine K_region ?_
  refine C_cut (fun f' cs' => ∃ (c39 : Bool) (g : Fr), c39 = o29 ∧ f' = updL g [(2, (.pointer (some ⟨k1, 0, some 0⟩))), (3, (.pointer (some ⟨k2, 0, some 0⟩))), (5, (.int .i64 (k8 : Int))), (59, (.bool c39))] ∧ Ent cs' [cboR k1 52 (.agg [v0_0.v, (.int .i64 a_a.Age)].toArray), crd (RdS 159 rd159) v0_0.v a_a.Entries, cboR k2 52 (.agg [v1_0.v, (.int .i64 a_b.Age)].toArray), crd (RdS 159 rd159) v1_0.v a_b.Entries]) ?_ ?_
  · replace hF := hio29
    refine C_val (V_fieldAddr (off := 0) fd159_0 (.tmp rfl rfl)) ?_
    refine C_at (.t (.t (.t (.t .h)))) (fun hp => V_loadA (s := 2) (l := [(.int .i64 x10.Access.Method), p19.1.v]) ag100 ty100.sz (.tmp rfl rfl) hp.2 rfl (by decide) (Nat.le_of_ble_eq_true rfl) rfl) ?_
    refine C_val (V_fieldAddr (off := 0) fd159_0 (.tmp rfl rfl)) ?_
    refine C_at .h (fun hp => V_loadA (s := 2) (l := [(.int .i64 x21.Access.Method), p27.1.v]) ag100 ty100.sz (.tmp rfl rfl) hp.2 rfl (by decide) (Nat.le_of_ble_eq_true rfl) rfl) ?_
    obtain ⟨r31, hx32, hF⟩ := bind_some hF
    refine C_x0 (.rd (.t (.t (.t (.t (.t .h))))) rfl (.rd (.t .h) rfl .nil)) (X_callS cf110 (.cons (.tmp rfl rfl) (.cons (.tmp rfl rfl) .nil)) (s_l5Same_ok x10.Access p19.1 x21.Access p27.1 _ hx32)) (fun _ => ?_)
    refine C_val (V_not (b := r31) (.tmp rfl rfl)) ?_
    refine C_val (V_move (v := (.bool (!r31))) (.tmp rfl rfl)) ?_
    rcases Bool.eq_false_or_eq_true (!r31) with hg34 | hg34
    · rw [hg34]
      try rw [hg34] at hF; dsimp only [cond_true, cond_false] at hF
      refine C_off (t := 45) rfl rfl rfl ?_
      refine C_off (t := 45) rfl rfl rfl ?_
      refine C_off (t := 45) rfl rfl rfl ?_
      refine C_off (t := 45) rfl rfl rfl ?_
      refine C_off (t := 45) rfl rfl rfl ?_
      refine C_off (t := 45) rfl rfl rfl ?_
      refine C_val (V_pick (b := true) (u := (.bool true)) (v := undef) (.tmp rfl rfl) (.bool _) (.tmp rfl rfl)) ?_
      refine C_val (V_move (v := (.bool true)) (.tmp rfl rfl)) ?_
      refine C_off (t := 53) rfl rfl rfl ?_
      refine C_off (t := 53) rfl rfl rfl ?_
      refine C_off (t := 53) rfl rfl rfl ?_
      refine C_off (t := 53) rfl rfl rfl ?_
      refine C_off (t := 53) rfl rfl rfl ?_
      refine C_val (V_pick (b := true) (u := (.bool true)) (v := undef) (.tmp rfl rfl) (.bool _) (.tmp rfl rfl)) ?_
      refine C_nil ?_
      obtain rfl := Option.some.inj hF
      exact ⟨_, _, rfl, (EqL.cons rfl (EqL.cons rfl (EqL.cons rfl (EqL.cons rfl (EqL.nil))))).eq, (.sel (.rd (.t (.t (.t (.t (.t (.t (.t (.t .h)))))))) rfl (.rd (.t (.t (.t (.t (.t (.t (.t (.t (.t .h))))))))) rfl (.rd (.t (.t (.t (.t (.t (.t (.t (.t (.t (.t .h)))))))))) rfl (.rd (.t (.t (.t (.t (.t (.t (.t (.t (.t (.t (.t .h))))))))))) rfl .nil)))))⟩
    rw [hg34]
    try rw [hg34] at hF; dsimp only [cond_true, cond_false] at hF
    refine C_on (t := 45) rfl rfl rfl ?_
    refine C_val (V_fieldAddr (off := 2) fd159_1 (.tmp rfl rfl)) ?_
    refine C_on (t := 45) rfl rfl rfl ?_
    refine C_at (.t (.t (.t (.t .h)))) (fun hp => V_load (v := p19.2.v) ag47 (.tmp rfl rfl) hp.2 rfl rfl) ?_
    refine C_on (t := 45) rfl rfl rfl ?_
    refine C_val (V_fieldAddr (off := 2) fd159_1 (.tmp rfl rfl)) ?_
    refine C_on (t := 45) rfl rfl rfl ?_
    refine C_at .h (fun hp => V_load (v := p27.2.v) ag47 (.tmp rfl rfl) hp.2 rfl rfl) ?_
    refine C_on (t := 45) rfl rfl rfl ?_
    obtain ⟨r35, hx36, hF⟩ := bind_some hF
    refine C_x0 (.rd (.t (.t (.t (.t (.t (.t .h)))))) rfl (.rd (.t (.t .h)) rfl .nil)) (X_callS cf89 (.cons (.tmp rfl rfl) (.cons (.tmp rfl rfl) .nil)) (s_SameFacts_ok x10.Facts p19.2 x21.Facts p27.2 _ hx36)) (fun _ => ?_)
    refine C_on (t := 45) rfl rfl rfl ?_
    refine C_val (V_not (b := r35) (.tmp rfl rfl)) ?_
    refine C_val (V_pick (b := false) (u := (.bool true)) (v := (.bool (!r35))) (.tmp rfl rfl) (.bool _) (.tmp rfl rfl)) ?_
    refine C_val (V_move (v := (.bool (!r35))) (.tmp rfl rfl)) ?_
    rcases Bool.eq_false_or_eq_true (!r35) with hg38 | hg38
    · rw [hg38]
      try rw [hg38] at hF; dsimp only [cond_true, cond_false] at hF
      refine C_off (t := 53) rfl rfl rfl ?_
      refine C_off (t := 53) rfl rfl rfl ?_
      refine C_off (t := 53) rfl rfl rfl ?_
      refine C_off (t := 53) rfl rfl rfl ?_
      refine C_off (t := 53) rfl rfl rfl ?_
      refine C_val (V_pick (b := true) (u := (.bool true)) (v := undef) (.tmp rfl rfl) (.bool _) (.tmp rfl rfl)) ?_
      refine C_nil ?_
      obtain rfl := Option.some.inj hF
      exact ⟨_, _, rfl, (EqL.cons rfl (EqL.cons rfl (EqL.cons rfl (EqL.cons rfl (EqL.nil))))).eq, (.sel (.rd (.t (.t (.t (.t (.t (.t (.t (.t .h)))))))) rfl (.rd (.t (.t (.t (.t (.t (.t (.t (.t (.t .h))))))))) rfl (.rd (.t (.t (.t (.t (.t (.t (.t (.t (.t (.t .h)))))))))) rfl (.rd (.t (.t (.t (.t (.t (.t (.t (.t (.t (.t (.t .h))))))))))) rfl .nil)))))⟩
    rw [hg38]
    try rw [hg38] at hF; dsimp only [cond_true, cond_false] at hF
    refine C_on (t := 53) rfl rfl rfl ?_
    refine C_val (V_fieldAddr (off := 3) fd159_2 (.tmp rfl rfl)) ?_
    refine C_on (t := 53) rfl rfl rfl ?_
    refine C_at (.t (.t (.t (.t .h)))) (fun hp => V_load (v := (.int .i64 x10.At)) ag3 (.tmp rfl rfl) hp.2 rfl rfl) ?_
    refine C_on (t := 53) rfl rfl rfl ?_
    refine C_val (V_fieldAddr (off := 3) fd159_2 (.tmp rfl rfl)) ?_
    refine C_on (t := 53) rfl rfl rfl ?_
    refine C_at .h (fun hp => V_load (v := (.int .i64 x21.At)) ag3 (.tmp rfl rfl) hp.2 rfl rfl) ?_
    refine C_on (t := 53) rfl rfl rfl ?_
    refine C_val (V_neq (i := x10.At) (j := x21.At) (.tmp rfl rfl) (.tmp rfl rfl)) ?_
    refine C_val (V_pick (b := false) (u := (.bool true)) (v := (.bool ((x10.At : Int) != x21.At))) (.tmp rfl rfl) (.bool _) (.tmp rfl rfl)) ?_
    refine C_nil ?_
    obtain rfl := Option.some.inj hF
    exact ⟨_, _, rfl, (EqL.cons rfl (EqL.cons rfl (EqL.cons rfl (EqL.cons rfl (EqL.nil))))).eq, (.sel (.rd (.t (.t (.t (.t (.t (.t (.t (.t .h)))))))) rfl (.rd (.t (.t (.t (.t (.t (.t (.t (.t (.t .h))))))))) rfl (.rd (.t (.t (.t (.t (.t (.t (.t (.t (.t (.t .h)))))))))) rfl (.rd (.t (.t (.t (.t (.t (.t (.t (.t (.t (.t (.t .h))))))))))) rfl .nil)))))⟩
  rintro _ _ ⟨c39, g42, rfl, rfl, hE⟩
  replace hF := hO30
  clear hO30
  try dsimp only at hF
  refine K_ent hE ?_
  refine CW_cond (b := c39) (.tmp rfl rfl) (fun hb41 => ?_) (fun hb41 => ?_)
  · rw [if_pos hb41] at hF
    refine K_region ?_
    refine C_val (V_assign (v := (.bool false)) (.bool _)) ?_
    refine C_nil ?_
    refine CW_ret ?_
    obtain rfl := Option.some.inj hF
    exact End_ret () (.tmp rfl rfl .nil) rfl (.sel .nil)
  rw [if_neg (by rw [hb41]; exact Bool.false_ne_true)] at hF
  refine CW_skip ?_
  refine CW_region ?_
  refine C_val (V_move (v := (.int .i64 (k8 : Int))) (.tmp rfl rfl)) ?_
  refine C_val (V_add (i := (k8 : Int)) (j := 1) (.tmp rfl rfl) (.int _ _)) ?_
  refine C_val (V_assign (v := (.int .i64 (IntKind.i64.wrap ((k8 : Int) + 1)))) (.tmp rfl rfl)) ?_
  refine C_nil ?_
  have hw40 : IntKind.i64.wrap ((k8 : Int) + 1) = ((k8 + 1 : Nat) : Int) := by rw [wrap_in (by omega) (by omega)]; rfl
  rw [hw40]
  exact ⟨_, Nat.lt_succ_self _, _, k8 + 1, rest9, rfl, (EqL.cons rfl (EqL.cons rfl (EqL.cons rfl (EqL.nil)))).eq, hd14, (.sel (.rd .h rfl (.rd (.t .h) rfl (.rd (.t (.t .h)) rfl (.rd (.t (.t (.t .h))) rfl .nil))))), hF⟩

/-! spec.SameAccesses -/
def s_SameAccesses_L1 (a_b : List Access) : List Access → Nat → Option (Bool)
  | [], k4 => some true
  | x6 :: rest5, k4 => (ix a_b (k4 : Int)).bind fun x16 =>
    (s_l5Same x6 x16).bind fun r23 =>
    if (!r23) then (
      some false)
    else (
      s_SameAccesses_L1 a_b rest5 (k4 + 1))
def s_SameAccesses (a_a : List Access) (a_b : List Access) : Option (Bool) :=
  if (((a_a.length : Int) : Int) != (a_b.length : Int)) then (
    some false)
  else (
    s_SameAccesses_L1 a_b a_a 0)
theorem s_SameAccesses_ok (a_a : List Access) (v0_0 : Sv) (a_b : List Access) (v1_0 : Sv) (R : Bool) (hF : s_SameAccesses a_a a_b = some R) :
    Fw.Spec Try.prog 61 [v0_0.v, v1_0.v] [crd (RdS 100 rd100) v0_0.v a_a, crd (RdS 100 rd100) v1_0.v a_b] (fun _ : Unit => (.bool R)) (fun _ => []) := by
  refine Spec_enter (n := 27) Try.func61 rfl rfl (rs := [.tmp 4]) rfl rfl rfl ?_
  intro H0 F0
  unfold s_SameAccesses at hF
  refine K_region ?_
  refine C_val (V_assign (v := (.bool false)) (.bool _)) ?_
  refine C_nil ?_
  refine K_in ?_
  refine K_region ?_
  refine C_val (V_move (v := v0_0.v) (.tmp rfl rfl)) ?_
  refine C_at .h (fun hp => V_lenR (l := a_a.length) sl33 (.tmp rfl rfl) (crd_len hp)) ?_
  refine C_val (V_move (v := v1_0.v) (.tmp rfl rfl)) ?_
  refine C_at (.t .h) (fun hp => V_lenR (l := a_b.length) sl33 (.tmp rfl rfl) (crd_len hp)) ?_
  refine C_val (V_neq (i := (a_a.length : Int)) (j := (a_b.length : Int)) (.tmp rfl rfl) (.tmp rfl rfl)) ?_
  refine C_nil ?_
  refine CW_cond (b := (((a_a.length : Int) : Int) != (a_b.length : Int))) (.tmp rfl rfl) (fun hb28 => ?_) (fun hb28 => ?_)
  · rw [if_pos hb28] at hF
    refine K_region ?_
    refine C_val (V_assign (v := (.bool false)) (.bool _)) ?_
    refine C_nil ?_
    refine CW_ret ?_
    obtain rfl := Option.some.inj hF
    exact End_ret () (.tmp rfl rfl .nil) rfl (.sel .nil)
  rw [if_neg (by rw [hb28]; exact Bool.false_ne_true)] at hF
  refine CW_skip ?_
  refine K_in ?_
  refine K_region ?_
  refine C_val (V_assign (v := (.int .i64 0)) (.int _ _)) ?_
  refine C_nil ?_
  refine CW_block ?_
  refine CW_loop (m := a_a.length) (fun m2 f' cs' => ∃ (g : Fr) (k4 : Nat) (rest5 : List Access), m2 = rest5.length ∧ f' = updL g [(0, v0_0.v), (1, v1_0.v), (5, (.int .i64 (k4 : Int)))] ∧ List.drop k4 a_a = rest5 ∧ Ent cs' [crd (RdS 100 rd100) v0_0.v a_a, crd (RdS 100 rd100) v1_0.v a_b] ∧ s_SameAccesses_L1 a_b rest5 k4 = some R) ⟨_, 0, _, rfl, (EqL.cons rfl (EqL.cons rfl (EqL.cons rfl (EqL.nil)))).eq, rfl, (.sel (.rd .h rfl (.rd (.t .h) rfl .nil))), hF⟩ ?_
  clear hF
  rintro m2 _ _ ⟨g3, k4, rest5, rfl, rfl, hd7, hE, hF⟩
  refine K_ent hE ?_
  clear hE
  refine K_pure (c := crd (RdS 100 rd100) v0_0.v a_a) .h crd_bound (fun hbd12 => ?_)
  rcases rest5 with _ | ⟨x6, rest5⟩
  · have hk8 := List.drop_eq_nil_iff.1 hd7
    have hfe11 : (decide (((k4 : Int) : Int) < (a_a.length : Int))) = false := decide_eq_false (by omega)
    rw [s_SameAccesses_L1] at hF
    refine K_in ?_
    refine K_region ?_
    refine C_val (V_move (v := (.int .i64 (k4 : Int))) (.tmp rfl rfl)) ?_
    refine C_val (V_move (v := v0_0.v) (.tmp rfl rfl)) ?_
    refine C_at .h (fun hp => V_lenR (l := a_a.length) sl33 (.tmp rfl rfl) (crd_len hp)) ?_
    refine C_val (V_lss (i := (k4 : Int)) (j := (a_a.length : Int)) (.tmp rfl rfl) (.tmp rfl rfl)) ?_
    refine C_nil ?_
    refine CW_cond (b := (decide (((k4 : Int) : Int) < (a_a.length : Int)))) (.tmp rfl rfl) (fun hb => absurd (hfe11.symm.trans hb) (by decide)) (fun _ => ?_)
    refine CW_exit ?_
    refine CThen_exit ?_
    refine CThen_exit ?_
    refine CIn_self ?_
    refine K_region ?_
    refine C_val (V_assign (v := (.bool true)) (.bool _)) ?_
    refine C_nil ?_
    refine CW_ret ?_
    obtain rfl := Option.some.inj hF
    exact End_ret () (.tmp rfl rfl .nil) rfl (.sel .nil)
  obtain ⟨hk8, hx9, hd10⟩ := drop_cons hd7
  have hfe11 : (decide (((k4 : Int) : Int) < (a_a.length : Int))) = true := decide_eq_true (by omega)
  rw [s_SameAccesses_L1] at hF
  refine K_in ?_
  refine K_region ?_
  refine C_val (V_move (v := (.int .i64 (k4 : Int))) (.tmp rfl rfl)) ?_
  refine C_val (V_move (v := v0_0.v) (.tmp rfl rfl)) ?_
  refine C_at .h (fun hp => V_lenR (l := a_a.length) sl33 (.tmp rfl rfl) (crd_len hp)) ?_
  refine C_val (V_lss (i := (k4 : Int)) (j := (a_a.length : Int)) (.tmp rfl rfl) (.tmp rfl rfl)) ?_
  refine C_nil ?_
  refine CW_cond (b := (decide (((k4 : Int) : Int) < (a_a.length : Int)))) (.tmp rfl rfl) (fun _ => ?_) (fun hb => absurd (hfe11.symm.trans hb) (by decide))
  refine CW_skip ?_
  refine K_block ?_
  refine K_draw [0, 1, 2, 3, 4, 5, 6, 7, 8, 9] [0, 0, 3, 7, 0, 0, 48, 112, 255, 511] [8] mixed (by decide +kernel) ?_
  refine D_val rfl .no (fun ha => V_move (v := v0_0.v) (EN ha (.tmp rfl rfl) rfl)) ?_
  refine D_val rfl .no (fun ha => V_move (v := (.int .i64 (k4 : Int))) (EN ha (.tmp rfl rfl) rfl)) ?_
  refine D_idx (a := x6) sl33 ty100.sz rfl .no (.tmp rfl rfl) (.tmp rfl rfl) rfl rfl .h (Int.natCast_nonneg k4) hx9 (fun k13 j14 => ?_)
  refine D_ldA1 (ul100_0_100 x6) ag100 ty100.sz rfl rfl .no (.tmp rfl rfl) rfl .h la100_0_100 (fun p15 => ?_)
  refine D_val rfl .no (fun ha => V_move (v := v1_0.v) (EN ha (.tmp rfl rfl) rfl)) ?_
  refine D_val rfl .no (fun ha => V_move (v := (.int .i64 (k4 : Int))) (EN ha (.tmp rfl rfl) rfl)) ?_
  obtain ⟨x16, hx17, hF⟩ := bind_some hF
  obtain ⟨hp18, hx19⟩ := ix_some hx17
  refine D_idx (a := x16) sl33 ty100.sz rfl .no (.tmp rfl rfl) (.tmp rfl rfl) rfl rfl (.t (.t (.t .h))) hp18 hx19 (fun k20 j21 => ?_)
  refine D_ldA1 (ul100_0_100 x16) ag100 ty100.sz rfl rfl .no (.tmp rfl rfl) rfl .h la100_0_100 (fun p22 => ?_)
  obtain ⟨r23, hx24, hF⟩ := bind_some hF
  refine D_act0 rfl rfl .no (.rd (.t (.t .h)) rfl (.rd .h rfl .nil)) .nil (fun ha => X_callS cf110 (.cons (EN ha (.tmp rfl rfl) rfl) (.cons (EN ha (.tmp rfl rfl) rfl) .nil)) (s_l5Same_ok x6 p15 x16 p22 _ hx24)) (fun _ => ?_)
  refine D_val rfl .no (fun ha => V_not (b := r23) (EN ha (.tmp rfl rfl) rfl)) ?_
  refine D_nil ?_
  refine CW_cond (b := (!r23)) (.tmp rfl rfl) (fun hb27 => ?_) (fun hb27 => ?_)
  · rw [if_pos hb27] at hF
    refine K_region ?_
    refine C_val (V_assign (v := (.bool false)) (.bool _)) ?_
    refine C_nil ?_
    refine CW_ret ?_
    obtain rfl := Option.some.inj hF
    exact End_ret () (.tmp rfl rfl .nil) rfl (.sel .nil)
  rw [if_neg (by rw [hb27]; exact Bool.false_ne_true)] at hF
  refine CW_skip ?_
  refine CW_region ?_
  refine C_val (V_move (v := (.int .i64 (k4 : Int))) (.tmp rfl rfl)) ?_
  refine C_val (V_add (i := (k4 : Int)) (j := 1) (.tmp rfl rfl) (.int _ _)) ?_
  refine C_val (V_assign (v := (.int .i64 (IntKind.i64.wrap ((k4 : Int) + 1)))) (.tmp rfl rfl)) ?_
  refine C_nil ?_
  have hw26 : IntKind.i64.wrap ((k4 : Int) + 1) = ((k4 + 1 : Nat) : Int) := by rw [wrap_in (by omega) (by omega)]; rfl
  rw [hw26]
  exact ⟨_, Nat.lt_succ_self _, _, k4 + 1, rest5, rfl, (EqL.cons rfl (EqL.cons rfl (EqL.cons rfl (EqL.nil)))).eq, hd10, (.sel (.rd (.t (.t (.t (.t .h)))) rfl (.rd (.t (.t (.t (.t (.t .h))))) rfl .nil))), hF⟩

/-! spec.SameTuples -/
def s_SameTuples_L1 (a_b : List (List Int)) : List (List Int) → Nat → Option (Bool)
  | [], k4 => some true
  | x6 :: rest5, k4 => (ix a_b (k4 : Int)).bind fun x16 =>
    (s_l2Ints x6 x16).bind fun r23 =>
    if (!r23) then (
      some false)
    else (
      s_SameTuples_L1 a_b rest5 (k4 + 1))
def s_SameTuples (a_a : List (List Int)) (a_b : List (List Int)) : Option (Bool) :=
  if (((a_a.length : Int) : Int) != (a_b.length : Int)) then (
    some false)
  else (
    s_SameTuples_L1 a_b a_a 0)
theorem s_SameTuples_ok (a_a : List (List Int)) (v0_0 : Sv) (a_b : List (List Int)) (v1_0 : Sv) (R : Bool) (hF : s_SameTuples a_a a_b = some R) :
    Fw.Spec Try.prog 91 [v0_0.v, v1_0.v] [crd (RdS 45 (RdS 3 rdInt)) v0_0.v a_a, crd (RdS 45 (RdS 3 rdInt)) v1_0.v a_b] (fun _ : Unit => (.bool R)) (fun _ => []) := by
  refine Spec_enter (n := 27) Try.func91 rfl rfl (rs := [.tmp 4]) rfl rfl rfl ?_
  intro H0 F0
  unfold s_SameTuples at hF
  refine K_region ?_
  refine C_val (V_assign (v := (.bool false)) (.bool _)) ?_
  refine C_nil ?_
  refine K_in ?_
  refine K_region ?_
  refine C_val (V_move (v := v0_0.v) (.tmp rfl rfl)) ?_
  refine C_at .h (fun hp => V_lenR (l := a_a.length) sl128 (.tmp rfl rfl) (crd_len hp)) ?_
  refine C_val (V_move (v := v1_0.v) (.tmp rfl rfl)) ?_
  refine C_at (.t .h) (fun hp => V_lenR (l := a_b.length) sl128 (.tmp rfl rfl) (crd_len hp)) ?_
  refine C_val (V_neq (i := (a_a.length : Int)) (j := (a_b.length : Int)) (.tmp rfl rfl) (.tmp rfl rfl)) ?_
  refine C_nil ?_
  refine CW_cond (b := (((a_a.length : Int) : Int) != (a_b.length : Int))) (.tmp rfl rfl) (fun hb28 => ?_) (fun hb28 => ?_)
  · rw [if_pos hb28] at hF
    refine K_region ?_
    refine C_val (V_assign (v := (.bool false)) (.bool _)) ?_
    refine C_nil ?_
    refine CW_ret ?_
    obtain rfl := Option.some.inj hF
    exact End_ret () (.tmp rfl rfl .nil) rfl (.sel .nil)
  rw [if_neg (by rw [hb28]; exact Bool.false_ne_true)] at hF
  refine CW_skip ?_
  refine K_in ?_
  refine K_region ?_
  refine C_val (V_assign (v := (.int .i64 0)) (.int _ _)) ?_
  refine C_nil ?_
  refine CW_block ?_
  refine CW_loop (m := a_a.length) (fun m2 f' cs' => ∃ (g : Fr) (k4 : Nat) (rest5 : List (List Int)), m2 = rest5.length ∧ f' = updL g [(0, v0_0.v), (1, v1_0.v), (5, (.int .i64 (k4 : Int)))] ∧ List.drop k4 a_a = rest5 ∧ Ent cs' [crd (RdS 45 (RdS 3 rdInt)) v0_0.v a_a, crd (RdS 45 (RdS 3 rdInt)) v1_0.v a_b] ∧ s_SameTuples_L1 a_b rest5 k4 = some R) ⟨_, 0, _, rfl, (EqL.cons rfl (EqL.cons rfl (EqL.cons rfl (EqL.nil)))).eq, rfl, (.sel (.rd .h rfl (.rd (.t .h) rfl .nil))), hF⟩ ?_
  clear hF
  rintro m2 _ _ ⟨g3, k4, rest5, rfl, rfl, hd7, hE, hF⟩
  refine K_ent hE ?_
  clear hE
  refine K_pure (c := crd (RdS 45 (RdS 3 rdInt)) v0_0.v a_a) .h crd_bound (fun hbd12 => ?_)
  rcases rest5 with _ | ⟨x6, rest5⟩
  · have hk8 := List.drop_eq_nil_iff.1 hd7
    have hfe11 : (decide (((k4 : Int) : Int) < (a_a.length : Int))) = false := decide_eq_false (by omega)
    rw [s_SameTuples_L1] at hF
    refine K_in ?_
    refine K_region ?_
    refine C_val (V_move (v := (.int .i64 (k4 : Int))) (.tmp rfl rfl)) ?_
    refine C_val (V_move (v := v0_0.v) (.tmp rfl rfl)) ?_
    refine C_at .h (fun hp => V_lenR (l := a_a.length) sl128 (.tmp rfl rfl) (crd_len hp)) ?_
    refine C_val (V_lss (i := (k4 : Int)) (j := (a_a.length : Int)) (.tmp rfl rfl) (.tmp rfl rfl)) ?_
    refine C_nil ?_
    refine CW_cond (b := (decide (((k4 : Int) : Int) < (a_a.length : Int)))) (.tmp rfl rfl) (fun hb => absurd (hfe11.symm.trans hb) (by decide)) (fun _ => ?_)
    refine CW_exit ?_
    refine CThen_exit ?_
    refine CThen_exit ?_
    refine CIn_self ?_
    refine K_region ?_
    refine C_val (V_assign (v := (.bool true)) (.bool _)) ?_
    refine C_nil ?_
    refine CW_ret ?_
    obtain rfl := Option.some.inj hF
    exact End_ret () (.tmp rfl rfl .nil) rfl (.sel .nil)
  obtain ⟨hk8, hx9, hd10⟩ := drop_cons hd7
  have hfe11 : (decide (((k4 : Int) : Int) < (a_a.length : Int))) = true := decide_eq_true (by omega)
  rw [s_SameTuples_L1] at hF
  refine K_in ?_
  refine K_region ?_
  refine C_val (V_move (v := (.int .i64 (k4 : Int))) (.tmp rfl rfl)) ?_
  refine C_val (V_move (v := v0_0.v) (.tmp rfl rfl)) ?_
  refine C_at .h (fun hp => V_lenR (l := a_a.length) sl128 (.tmp rfl rfl) (crd_len hp)) ?_
  refine C_val (V_lss (i := (k4 : Int)) (j := (a_a.length : Int)) (.tmp rfl rfl) (.tmp rfl rfl)) ?_
  refine C_nil ?_
  refine CW_cond (b := (decide (((k4 : Int) : Int) < (a_a.length : Int)))) (.tmp rfl rfl) (fun _ => ?_) (fun hb => absurd (hfe11.symm.trans hb) (by decide))
  refine CW_skip ?_
  refine K_block ?_
  refine K_draw [0, 1, 2, 3, 4, 5, 6, 7, 8, 9] [0, 0, 3, 7, 0, 0, 48, 112, 255, 511] [8] mixed (by decide +kernel) ?_
  refine D_val rfl .no (fun ha => V_move (v := v0_0.v) (EN ha (.tmp rfl rfl) rfl)) ?_
  refine D_val rfl .no (fun ha => V_move (v := (.int .i64 (k4 : Int))) (EN ha (.tmp rfl rfl) rfl)) ?_
  refine D_idx (a := x6) sl128 ty45.sz rfl .no (.tmp rfl rfl) (.tmp rfl rfl) rfl rfl .h (Int.natCast_nonneg k4) hx9 (fun k13 j14 => ?_)
  refine D_ldV (R' := (RdS 3 rdInt)) ag45 rfl .no (.tmp rfl rfl) rfl .h lv45_0 (fun w15 => ?_)
  refine D_val rfl .no (fun ha => V_move (v := v1_0.v) (EN ha (.tmp rfl rfl) rfl)) ?_
  refine D_val rfl .no (fun ha => V_move (v := (.int .i64 (k4 : Int))) (EN ha (.tmp rfl rfl) rfl)) ?_
  obtain ⟨x16, hx17, hF⟩ := bind_some hF
  obtain ⟨hp18, hx19⟩ := ix_some hx17
  refine D_idx (a := x16) sl128 ty45.sz rfl .no (.tmp rfl rfl) (.tmp rfl rfl) rfl rfl (.t (.t (.t .h))) hp18 hx19 (fun k20 j21 => ?_)
  refine D_ldV (R' := (RdS 3 rdInt)) ag45 rfl .no (.tmp rfl rfl) rfl .h lv45_0 (fun w22 => ?_)
  obtain ⟨r23, hx24, hF⟩ := bind_some hF
  refine D_act0 rfl rfl .no (.rd (.t (.t .h)) rfl (.rd .h rfl .nil)) .nil (fun ha => X_callS cf87 (.cons (EN ha (.tmp rfl rfl) rfl) (.cons (EN ha (.tmp rfl rfl) rfl) .nil)) (s_l2Ints_ok x6 w15 x16 w22 _ hx24)) (fun _ => ?_)
  refine D_val rfl .no (fun ha => V_not (b := r23) (EN ha (.tmp rfl rfl) rfl)) ?_
  refine D_nil ?_
  refine CW_cond (b := (!r23)) (.tmp rfl rfl) (fun hb27 => ?_) (fun hb27 => ?_)
  · rw [if_pos hb27] at hF
    refine K_region ?_
    refine C_val (V_assign (v := (.bool false)) (.bool _)) ?_
    refine C_nil ?_
    refine CW_ret ?_
    obtain rfl := Option.some.inj hF
    exact End_ret () (.tmp rfl rfl .nil) rfl (.sel .nil)
  rw [if_neg (by rw [hb27]; exact Bool.false_ne_true)] at hF
  refine CW_skip ?_
  refine CW_region ?_
  refine C_val (V_move (v := (.int .i64 (k4 : Int))) (.tmp rfl rfl)) ?_
  refine C_val (V_add (i := (k4 : Int)) (j := 1) (.tmp rfl rfl) (.int _ _)) ?_
  refine C_val (V_assign (v := (.int .i64 (IntKind.i64.wrap ((k4 : Int) + 1)))) (.tmp rfl rfl)) ?_
  refine C_nil ?_
  have hw26 : IntKind.i64.wrap ((k4 : Int) + 1) = ((k4 + 1 : Nat) : Int) := by rw [wrap_in (by omega) (by omega)]; rfl
  rw [hw26]
  exact ⟨_, Nat.lt_succ_self _, _, k4 + 1, rest5, rfl, (EqL.cons rfl (EqL.cons rfl (EqL.cons rfl (EqL.nil)))).eq, hd10, (.sel (.rd (.t (.t (.t (.t .h)))) rfl (.rd (.t (.t (.t (.t (.t .h))))) rfl .nil))), hF⟩

/-! spec.EqualMediators -/
def s_EqualMediators_L2 (a_b : Mediator) : List (List (List Int)) → Nat → Option (Bool)
  | [], k49 => some true
  | x51 :: rest50, k49 => (ix a_b.Results (k49 : Int)).bind fun x61 =>
    (s_SameTuples x51 x61).bind fun r68 =>
    if (!r68) then (
      some false)
    else (
      s_EqualMediators_L2 a_b rest50 (k49 + 1))
def s_EqualMediators_L1 (a_a : Mediator) (a_b : Mediator) : List Rule → Nat → Option (Bool)
  | [], k37 => s_EqualMediators_L2 a_b a_a.Results 0
  | x39 :: rest38, k37 => ((ix a_b.Rules (k37 : Int)).bind fun x77 =>
      bif ((x39.From : Int) != x77.From) then (some true)
      else ((ix a_b.Rules (k37 : Int)).bind fun x86 =>
        bif ((x39.To : Int) != x86.To) then (some true)
        else ((ix a_b.Rules (k37 : Int)).bind fun x96 =>
          (s_l2Ints x39.Map x96.Map).bind fun r103 =>
          some (!r103)))).bind fun o73 =>
    match o73 with
    | c106 => if c106 then (
        some false)
      else (
        s_EqualMediators_L1 a_a a_b rest38 (k37 + 1))
def s_EqualMediators (a_a : Mediator) (a_b : Mediator) : Option (Bool) :=
  ((s_l2Ints a_a.Schema a_b.Schema).bind fun r5 =>
    bif (!r5) then (some true)
    else ((s_l32SameMethods a_a.Methods a_b.Methods).bind fun r9 =>
      bif (!r9) then (some true)
      else (bif (((a_a.Rules.length : Int) : Int) != (a_b.Rules.length : Int)) then (some true)
        else ((s_SameFacts a_a.Source.Facts a_b.Source.Facts).bind fun r14 =>
          bif (!r14) then (some true)
          else (bif ((a_a.Source.Version : Int) != a_b.Source.Version) then (some true)
            else ((s_EqualCaches a_a.Cache a_b.Cache).bind fun r19 =>
              bif (!r19) then (some true)
              else (bif ((a_a.Now : Int) != a_b.Now) then (some true)
                else ((s_SameAccesses a_a.Log a_b.Log).bind fun r24 =>
                  bif (!r24) then (some true)
                  else ((s_l2Ints a_a.Times a_b.Times).bind fun r28 =>
                    bif (!r28) then (some true)
                    else (bif ((a_a.Spent : Int) != a_b.Spent) then (some true)
                      else (some (((a_a.Results.length : Int) : Int) != (a_b.Results.length : Int))))))))))))).bind fun o3 =>
  match o3 with
  | c33 => if c33 then (
      some false)
    else (
      s_EqualMediators_L1 a_a a_b a_a.Rules 0)
theorem s_EqualMediators_ok (a_a : Mediator) (v0_0 : Sv) (v0_1 : Sv) (v0_2 : Sv) (v0_3 : Sv) (v0_5 : Sv) (v0_8 : Sv) (v0_9 : Sv) (v0_11 : Sv) (a_b : Mediator) (v1_0 : Sv) (v1_1 : Sv) (v1_2 : Sv) (v1_3 : Sv) (v1_5 : Sv) (v1_8 : Sv) (v1_9 : Sv) (v1_11 : Sv) (R : Bool) (hF : s_EqualMediators a_a a_b = some R) :
    Fw.Spec Try.prog 39 [(.agg [v0_0.v, v0_1.v, v0_2.v, v0_3.v, (.int .i64 a_a.Source.Version), v0_5.v, (.int .i64 a_a.Cache.Age), (.int .i64 a_a.Now), v0_8.v, v0_9.v, (.int .i64 a_a.Spent), v0_11.v].toArray), (.agg [v1_0.v, v1_1.v, v1_2.v, v1_3.v, (.int .i64 a_b.Source.Version), v1_5.v, (.int .i64 a_b.Cache.Age), (.int .i64 a_b.Now), v1_8.v, v1_9.v, (.int .i64 a_b.Spent), v1_11.v].toArray)] [crd (RdS 3 rdInt) v0_0.v a_a.Schema, crd (RdS 101 rd101) v0_1.v a_a.Methods, crd (RdS 126 rd126) v0_2.v a_a.Rules, crd (RdS 157 rd157) v0_3.v a_a.Source.Facts, crd (RdS 159 rd159) v0_5.v a_a.Cache.Entries, crd (RdS 100 rd100) v0_8.v a_a.Log, crd (RdS 3 rdInt) v0_9.v a_a.Times, crd (RdS 128 (RdS 45 (RdS 3 rdInt))) v0_11.v a_a.Results, crd (RdS 3 rdInt) v1_0.v a_b.Schema, crd (RdS 101 rd101) v1_1.v a_b.Methods, crd (RdS 126 rd126) v1_2.v a_b.Rules, crd (RdS 157 rd157) v1_3.v a_b.Source.Facts, crd (RdS 159 rd159) v1_5.v a_b.Cache.Entries, crd (RdS 100 rd100) v1_8.v a_b.Log, crd (RdS 3 rdInt) v1_9.v a_b.Times, crd (RdS 128 (RdS 45 (RdS 3 rdInt))) v1_11.v a_b.Results] (fun _ : Unit => (.bool R)) (fun _ => []) := by
  refine Spec_enter (n := 166) Try.func39 rfl rfl (rs := [.tmp 4]) rfl rfl rfl ?_
  intro H0 F0
  unfold s_EqualMediators at hF
  refine K_region ?_
  refine C_newR rfl (N_box (g := false) (v := (.agg [v0_0.v, v0_1.v, v0_2.v, v0_3.v, (.int .i64 a_a.Source.Version), v0_5.v, (.int .i64 a_a.Cache.Age), (.int .i64 a_a.Now), v0_8.v, v0_9.v, (.int .i64 a_a.Spent), v0_11.v].toArray)) ty55.sz (.tmp rfl rfl) rfl) (fun k1 => ?_)
  refine C_newR rfl (N_box (g := false) (v := (.agg [v1_0.v, v1_1.v, v1_2.v, v1_3.v, (.int .i64 a_b.Source.Version), v1_5.v, (.int .i64 a_b.Cache.Age), (.int .i64 a_b.Now), v1_8.v, v1_9.v, (.int .i64 a_b.Spent), v1_11.v].toArray)) ty55.sz (.tmp rfl rfl) rfl) (fun k2 => ?_)
  refine C_val (V_assign (v := (.bool false)) (.bool _)) ?_
  refine C_nil ?_
  refine K_in ?_
  obtain ⟨o3, hio3, hO4⟩ := bind_some hF
  refine K_region ?_
  refine C_cut (fun f' cs' => ∃ (c33 : Bool) (g : Fr), c33 = o3 ∧ f' = updL g [(2, (.pointer (some ⟨k1, 0, some 0⟩))), (3, (.pointer (some ⟨k2, 0, some 0⟩))), (95, (.bool c33))] ∧ Ent cs' [cboR k1 55 (.agg [v0_0.v, v0_1.v, v0_2.v, v0_3.v, (.int .i64 a_a.Source.Version), v0_5.v, (.int .i64 a_a.Cache.Age), (.int .i64 a_a.Now), v0_8.v, v0_9.v, (.int .i64 a_a.Spent), v0_11.v].toArray), crd (RdS 3 rdInt) v0_0.v a_a.Schema, crd (RdS 101 rd101) v0_1.v a_a.Methods, crd (RdS 126 rd126) v0_2.v a_a.Rules, crd (RdS 157 rd157) v0_3.v a_a.Source.Facts, crd (RdS 159 rd159) v0_5.v a_a.Cache.Entries, crd (RdS 100 rd100) v0_8.v a_a.Log, crd (RdS 3 rdInt) v0_9.v a_a.Times, crd (RdS 128 (RdS 45 (RdS 3 rdInt))) v0_11.v a_a.Results, cboR k2 55 (.agg [v1_0.v, v1_1.v, v1_2.v, v1_3.v, (.int .i64 a_b.Source.Version), v1_5.v, (.int .i64 a_b.Cache.Age), (.int .i64 a_b.Now), v1_8.v, v1_9.v, (.int .i64 a_b.Spent), v1_11.v].toArray), crd (RdS 3 rdInt) v1_0.v a_b.Schema, crd (RdS 101 rd101) v1_1.v a_b.Methods, crd (RdS 126 rd126) v1_2.v a_b.Rules, crd (RdS 157 rd157) v1_3.v a_b.Source.Facts, crd (RdS 159 rd159) v1_5.v a_b.Cache.Entries, crd (RdS 100 rd100) v1_8.v a_b.Log, crd (RdS 3 rdInt) v1_9.v a_b.Times, crd (RdS 128 (RdS 45 (RdS 3 rdInt))) v1_11.v a_b.Results]) ?_ ?_
  · replace hF := hio3
    refine C_val (V_fieldAddr (off := 0) fd55_0 (.tmp rfl rfl)) ?_
    refine C_at (.t .h) (fun hp => V_load (v := v0_0.v) ag45 (.tmp rfl rfl) hp.2 rfl rfl) ?_
    refine C_val (V_fieldAddr (off := 0) fd55_0 (.tmp rfl rfl)) ?_
    refine C_at .h (fun hp => V_load (v := v1_0.v) ag45 (.tmp rfl rfl) hp.2 rfl rfl) ?_
    obtain ⟨r5, hx6, hF⟩ := bind_some hF
    refine C_x0 (.rd (.t (.t .h)) rfl (.rd (.t (.t (.t (.t (.t (.t (.t (.t (.t (.t .h)))))))))) rfl .nil)) (X_callS cf87 (.cons (.tmp rfl rfl) (.cons (.tmp rfl rfl) .nil)) (s_l2Ints_ok a_a.Schema v0_0 a_b.Schema v1_0 _ hx6)) (fun _ => ?_)
    refine C_val (V_not (b := r5) (.tmp rfl rfl)) ?_
    refine C_val (V_move (v := (.bool (!r5))) (.tmp rfl rfl)) ?_
    rcases Bool.eq_false_or_eq_true (!r5) with hg8 | hg8
    · rw [hg8]
      try rw [hg8] at hF; dsimp only [cond_true, cond_false] at hF
      refine C_off (t := 13) rfl rfl rfl ?_
      refine C_off (t := 13) rfl rfl rfl ?_
      refine C_off (t := 13) rfl rfl rfl ?_
      refine C_off (t := 13) rfl rfl rfl ?_
      refine C_off (t := 13) rfl rfl rfl ?_
      refine C_off (t := 13) rfl rfl rfl ?_
      refine C_val (V_pick (b := true) (u := (.bool true)) (v := undef) (.tmp rfl rfl) (.bool _) (.tmp rfl rfl)) ?_
      refine C_val (V_move (v := (.bool true)) (.tmp rfl rfl)) ?_
      refine C_off (t := 21) rfl rfl rfl ?_
      refine C_off (t := 21) rfl rfl rfl ?_
      refine C_off (t := 21) rfl rfl rfl ?_
      refine C_off (t := 21) rfl rfl rfl ?_
      refine C_off (t := 21) rfl rfl rfl ?_
      refine C_off (t := 21) rfl rfl rfl ?_
      refine C_off (t := 21) rfl rfl rfl ?_
      refine C_val (V_pick (b := true) (u := (.bool true)) (v := undef) (.tmp rfl rfl) (.bool _) (.tmp rfl rfl)) ?_
      refine C_val (V_move (v := (.bool true)) (.tmp rfl rfl)) ?_
      refine C_off (t := 30) rfl rfl rfl ?_
      refine C_off (t := 30) rfl rfl rfl ?_
      refine C_off (t := 30) rfl rfl rfl ?_
      refine C_off (t := 30) rfl rfl rfl ?_
      refine C_off (t := 30) rfl rfl rfl ?_
      refine C_off (t := 30) rfl rfl rfl ?_
      refine C_off (t := 30) rfl rfl rfl ?_
      refine C_off (t := 30) rfl rfl rfl ?_
      refine C_val (V_pick (b := true) (u := (.bool true)) (v := undef) (.tmp rfl rfl) (.bool _) (.tmp rfl rfl)) ?_
      refine C_val (V_move (v := (.bool true)) (.tmp rfl rfl)) ?_
      refine C_off (t := 40) rfl rfl rfl ?_
      refine C_off (t := 40) rfl rfl rfl ?_
      refine C_off (t := 40) rfl rfl rfl ?_
      refine C_off (t := 40) rfl rfl rfl ?_
      refine C_off (t := 40) rfl rfl rfl ?_
      refine C_off (t := 40) rfl rfl rfl ?_
      refine C_off (t := 40) rfl rfl rfl ?_
      refine C_val (V_pick (b := true) (u := (.bool true)) (v := undef) (.tmp rfl rfl) (.bool _) (.tmp rfl rfl)) ?_
      refine C_val (V_move (v := (.bool true)) (.tmp rfl rfl)) ?_
      refine C_off (t := 49) rfl rfl rfl ?_
      refine C_off (t := 49) rfl rfl rfl ?_
      refine C_off (t := 49) rfl rfl rfl ?_
      refine C_off (t := 49) rfl rfl rfl ?_
      refine C_off (t := 49) rfl rfl rfl ?_
      refine C_off (t := 49) rfl rfl rfl ?_
      refine C_val (V_pick (b := true) (u := (.bool true)) (v := undef) (.tmp rfl rfl) (.bool _) (.tmp rfl rfl)) ?_
      refine C_val (V_move (v := (.bool true)) (.tmp rfl rfl)) ?_
      refine C_off (t := 57) rfl rfl rfl ?_
      refine C_off (t := 57) rfl rfl rfl ?_
      refine C_off (t := 57) rfl rfl rfl ?_
      refine C_off (t := 57) rfl rfl rfl ?_
      refine C_off (t := 57) rfl rfl rfl ?_
      refine C_val (V_pick (b := true) (u := (.bool true)) (v := undef) (.tmp rfl rfl) (.bool _) (.tmp rfl rfl)) ?_
      refine C_val (V_move (v := (.bool true)) (.tmp rfl rfl)) ?_
      refine C_off (t := 64) rfl rfl rfl ?_
      refine C_off (t := 64) rfl rfl rfl ?_
      refine C_off (t := 64) rfl rfl rfl ?_
      refine C_off (t := 64) rfl rfl rfl ?_
      refine C_off (t := 64) rfl rfl rfl ?_
      refine C_off (t := 64) rfl rfl rfl ?_
      refine C_val (V_pick (b := true) (u := (.bool true)) (v := undef) (.tmp rfl rfl) (.bool _) (.tmp rfl rfl)) ?_
      refine C_val (V_move (v := (.bool true)) (.tmp rfl rfl)) ?_
      refine C_off (t := 72) rfl rfl rfl ?_
      refine C_off (t := 72) rfl rfl rfl ?_
      refine C_off (t := 72) rfl rfl rfl ?_
      refine C_off (t := 72) rfl rfl rfl ?_
      refine C_off (t := 72) rfl rfl rfl ?_
      refine C_off (t := 72) rfl rfl rfl ?_
      refine C_val (V_pick (b := true) (u := (.bool true)) (v := undef) (.tmp rfl rfl) (.bool _) (.tmp rfl rfl)) ?_
      refine C_val (V_move (v := (.bool true)) (.tmp rfl rfl)) ?_
      refine C_off (t := 80) rfl rfl rfl ?_
      refine C_off (t := 80) rfl rfl rfl ?_
      refine C_off (t := 80) rfl rfl rfl ?_
      refine C_off (t := 80) rfl rfl rfl ?_
      refine C_off (t := 80) rfl rfl rfl ?_
      refine C_val (V_pick (b := true) (u := (.bool true)) (v := undef) (.tmp rfl rfl) (.bool _) (.tmp rfl rfl)) ?_
      refine C_val (V_move (v := (.bool true)) (.tmp rfl rfl)) ?_
      refine C_off (t := 87) rfl rfl rfl ?_
      refine C_off (t := 87) rfl rfl rfl ?_
      refine C_off (t := 87) rfl rfl rfl ?_
      refine C_off (t := 87) rfl rfl rfl ?_
      refine C_off (t := 87) rfl rfl rfl ?_
      refine C_off (t := 87) rfl rfl rfl ?_
      refine C_off (t := 87) rfl rfl rfl ?_
      refine C_val (V_pick (b := true) (u := (.bool true)) (v := undef) (.tmp rfl rfl) (.bool _) (.tmp rfl rfl)) ?_
      refine C_nil ?_
      obtain rfl := Option.some.inj hF
      exact ⟨_, _, rfl, (EqL.cons rfl (EqL.cons rfl (EqL.cons rfl (EqL.nil)))).eq, (.sel (.rd (.t .h) rfl (.rd (.t (.t .h)) rfl (.rd (.t (.t (.t .h))) rfl (.rd (.t (.t (.t (.t .h)))) rfl (.rd (.t (.t (.t (.t (.t .h))))) rfl (.rd (.t (.t (.t (.t (.t (.t .h)))))) rfl (.rd (.t (.t (.t (.t (.t (.t (.t .h))))))) rfl (.rd (.t (.t (.t (.t (.t (.t (.t (.t .h)))))))) rfl (.rd (.t (.t (.t (.t (.t (.t (.t (.t (.t .h))))))))) rfl (.rd .h rfl (.rd (.t (.t (.t (.t (.t (.t (.t (.t (.t (.t .h)))))))))) rfl (.rd (.t (.t (.t (.t (.t (.t (.t (.t (.t (.t (.t .h))))))))))) rfl (.rd (.t (.t (.t (.t (.t (.t (.t (.t (.t (.t (.t (.t .h)))))))))))) rfl (.rd (.t (.t (.t (.t (.t (.t (.t (.t (.t (.t (.t (.t (.t .h))))))))))))) rfl (.rd (.t (.t (.t (.t (.t (.t (.t (.t (.t (.t (.t (.t (.t (.t .h)))))))))))))) rfl (.rd (.t (.t (.t (.t (.t (.t (.t (.t (.t (.t (.t (.t (.t (.t (.t .h))))))))))))))) rfl (.rd (.t (.t (.t (.t (.t (.t (.t (.t (.t (.t (.t (.t (.t (.t (.t (.t .h)))))))))))))))) rfl (.rd (.t (.t (.t (.t (.t (.t (.t (.t (.t (.t (.t (.t (.t (.t (.t (.t (.t .h))))))))))))))))) rfl .nil)))))))))))))))))))⟩
    rw [hg8]
    try rw [hg8] at hF; dsimp only [cond_true, cond_false] at hF
    refine C_on (t := 13) rfl rfl rfl ?_
    refine C_val (V_fieldAddr (off := 1) fd55_1 (.tmp rfl rfl)) ?_
    refine C_on (t := 13) rfl rfl rfl ?_
    refine C_at (.t .h) (fun hp => V_load (v := v0_1.v) ag35 (.tmp rfl rfl) hp.2 rfl rfl) ?_
    refine C_on (t := 13) rfl rfl rfl ?_
    refine C_val (V_fieldAddr (off := 1) fd55_1 (.tmp rfl rfl)) ?_
    refine C_on (t := 13) rfl rfl rfl ?_
    refine C_at .h (fun hp => V_load (v := v1_1.v) ag35 (.tmp rfl rfl) hp.2 rfl rfl) ?_
    refine C_on (t := 13) rfl rfl rfl ?_
    obtain ⟨r9, hx10, hF⟩ := bind_some hF
    refine C_x0 (.rd (.t (.t (.t .h))) rfl (.rd (.t (.t (.t (.t (.t (.t (.t (.t (.t (.t (.t .h))))))))))) rfl .nil)) (X_callS cf88 (.cons (.tmp rfl rfl) (.cons (.tmp rfl rfl) .nil)) (s_l32SameMethods_ok a_a.Methods v0_1 a_b.Methods v1_1 _ hx10)) (fun _ => ?_)
    refine C_on (t := 13) rfl rfl rfl ?_
    refine C_val (V_not (b := r9) (.tmp rfl rfl)) ?_
    refine C_val (V_pick (b := false) (u := (.bool true)) (v := (.bool (!r9))) (.tmp rfl rfl) (.bool _) (.tmp rfl rfl)) ?_
    refine C_val (V_move (v := (.bool (!r9))) (.tmp rfl rfl)) ?_
    rcases Bool.eq_false_or_eq_true (!r9) with hg12 | hg12
    · rw [hg12]
      try rw [hg12] at hF; dsimp only [cond_true, cond_false] at hF
      refine C_off (t := 21) rfl rfl rfl ?_
      refine C_off (t := 21) rfl rfl rfl ?_
      refine C_off (t := 21) rfl rfl rfl ?_
      refine C_off (t := 21) rfl rfl rfl ?_
      refine C_off (t := 21) rfl rfl rfl ?_
      refine C_off (t := 21) rfl rfl rfl ?_
      refine C_off (t := 21) rfl rfl rfl ?_
      refine C_val (V_pick (b := true) (u := (.bool true)) (v := undef) (.tmp rfl rfl) (.bool _) (.tmp rfl rfl)) ?_
      refine C_val (V_move (v := (.bool true)) (.tmp rfl rfl)) ?_
      refine C_off (t := 30) rfl rfl rfl ?_
      refine C_off (t := 30) rfl rfl rfl ?_
      refine C_off (t := 30) rfl rfl rfl ?_
      refine C_off (t := 30) rfl rfl rfl ?_
      refine C_off (t := 30) rfl rfl rfl ?_
      refine C_off (t := 30) rfl rfl rfl ?_
      refine C_off (t := 30) rfl rfl rfl ?_
      refine C_off (t := 30) rfl rfl rfl ?_
      refine C_val (V_pick (b := true) (u := (.bool true)) (v := undef) (.tmp rfl rfl) (.bool _) (.tmp rfl rfl)) ?_
      refine C_val (V_move (v := (.bool true)) (.tmp rfl rfl)) ?_
      refine C_off (t := 40) rfl rfl rfl ?_
      refine C_off (t := 40) rfl rfl rfl ?_
      refine C_off (t := 40) rfl rfl rfl ?_
      refine C_off (t := 40) rfl rfl rfl ?_
      refine C_off (t := 40) rfl rfl rfl ?_
      refine C_off (t := 40) rfl rfl rfl ?_
      refine C_off (t := 40) rfl rfl rfl ?_
      refine C_val (V_pick (b := true) (u := (.bool true)) (v := undef) (.tmp rfl rfl) (.bool _) (.tmp rfl rfl)) ?_
      refine C_val (V_move (v := (.bool true)) (.tmp rfl rfl)) ?_
      refine C_off (t := 49) rfl rfl rfl ?_
      refine C_off (t := 49) rfl rfl rfl ?_
      refine C_off (t := 49) rfl rfl rfl ?_
      refine C_off (t := 49) rfl rfl rfl ?_
      refine C_off (t := 49) rfl rfl rfl ?_
      refine C_off (t := 49) rfl rfl rfl ?_
      refine C_val (V_pick (b := true) (u := (.bool true)) (v := undef) (.tmp rfl rfl) (.bool _) (.tmp rfl rfl)) ?_
      refine C_val (V_move (v := (.bool true)) (.tmp rfl rfl)) ?_
      refine C_off (t := 57) rfl rfl rfl ?_
      refine C_off (t := 57) rfl rfl rfl ?_
      refine C_off (t := 57) rfl rfl rfl ?_
      refine C_off (t := 57) rfl rfl rfl ?_
      refine C_off (t := 57) rfl rfl rfl ?_
      refine C_val (V_pick (b := true) (u := (.bool true)) (v := undef) (.tmp rfl rfl) (.bool _) (.tmp rfl rfl)) ?_
      refine C_val (V_move (v := (.bool true)) (.tmp rfl rfl)) ?_
      refine C_off (t := 64) rfl rfl rfl ?_
      refine C_off (t := 64) rfl rfl rfl ?_
      refine C_off (t := 64) rfl rfl rfl ?_
      refine C_off (t := 64) rfl rfl rfl ?_
      refine C_off (t := 64) rfl rfl rfl ?_
      refine C_off (t := 64) rfl rfl rfl ?_
      refine C_val (V_pick (b := true) (u := (.bool true)) (v := undef) (.tmp rfl rfl) (.bool _) (.tmp rfl rfl)) ?_
      refine C_val (V_move (v := (.bool true)) (.tmp rfl rfl)) ?_
      refine C_off (t := 72) rfl rfl rfl ?_
      refine C_off (t := 72) rfl rfl rfl ?_
      refine C_off (t := 72) rfl rfl rfl ?_
      refine C_off (t := 72) rfl rfl rfl ?_
      refine C_off (t := 72) rfl rfl rfl ?_
      refine C_off (t := 72) rfl rfl rfl ?_
      refine C_val (V_pick (b := true) (u := (.bool true)) (v := undef) (.tmp rfl rfl) (.bool _) (.tmp rfl rfl)) ?_
      refine C_val (V_move (v := (.bool true)) (.tmp rfl rfl)) ?_
      refine C_off (t := 80) rfl rfl rfl ?_
      refine C_off (t := 80) rfl rfl rfl ?_
      refine C_off (t := 80) rfl rfl rfl ?_
      refine C_off (t := 80) rfl rfl rfl ?_
      refine C_off (t := 80) rfl rfl rfl ?_
      refine C_val (V_pick (b := true) (u := (.bool true)) (v := undef) (.tmp rfl rfl) (.bool _) (.tmp rfl rfl)) ?_
      refine C_val (V_move (v := (.bool true)) (.tmp rfl rfl)) ?_
      refine C_off (t := 87) rfl rfl rfl ?_
      refine C_off (t := 87) rfl rfl rfl ?_
      refine C_off (t := 87) rfl rfl rfl ?_
      refine C_off (t := 87) rfl rfl rfl ?_
      refine C_off (t := 87) rfl rfl rfl ?_
      refine C_off (t := 87) rfl rfl rfl ?_
      refine C_off (t := 87) rfl rfl rfl ?_
      refine C_val (V_pick (b := true) (u := (.bool true)) (v := undef) (.tmp rfl rfl) (.bool _) (.tmp rfl rfl)) ?_
      refine C_nil ?_
      obtain rfl := Option.some.inj hF
      exact ⟨_, _, rfl, (EqL.cons rfl (EqL.cons rfl (EqL.cons rfl (EqL.nil)))).eq, (.sel (.rd (.t .h) rfl (.rd (.t (.t .h)) rfl (.rd (.t (.t (.t .h))) rfl (.rd (.t (.t (.t (.t .h)))) rfl (.rd (.t (.t (.t (.t (.t .h))))) rfl (.rd (.t (.t (.t (.t (.t (.t .h)))))) rfl (.rd (.t (.t (.t (.t (.t (.t (.t .h))))))) rfl (.rd (.t (.t (.t (.t (.t (.t (.t (.t .h)))))))) rfl (.rd (.t (.t (.t (.t (.t (.t (.t (.t (.t .h))))))))) rfl (.rd .h rfl (.rd (.t (.t (.t (.t (.t (.t (.t (.t (.t (.t .h)))))))))) rfl (.rd (.t (.t (.t (.t (.t (.t (.t (.t (.t (.t (.t .h))))))))))) rfl (.rd (.t (.t (.t (.t (.t (.t (.t (.t (.t (.t (.t (.t .h)))))))))))) rfl (.rd (.t (.t (.t (.t (.t (.t (.t (.t (.t (.t (.t (.t (.t .h))))))))))))) rfl (.rd (.t (.t (.t (.t (.t (.t (.t (.t (.t (.t (.t (.t (.t (.t .h)))))))))))))) rfl (.rd (.t (.t (.t (.t (.t (.t (.t (.t (.t (.t (.t (.t (.t (.t (.t .h))))))))))))))) rfl (.rd (.t (.t (.t (.t (.t (.t (.t (.t (.t (.t (.t (.t (.t (.t (.t (.t .h)))))))))))))))) rfl (.rd (.t (.t (.t (.t (.t (.t (.t (.t (.t (.t (.t (.t (.t (.t (.t (.t (.t .h))))))))))))))))) rfl .nil)))))))))))))))))))⟩
    rw [hg12]
    try rw [hg12] at hF; dsimp only [cond_true, cond_false] at hF
    refine C_on (t := 21) rfl rfl rfl ?_
    refine C_val (V_fieldAddr (off := 2) fd55_2 (.tmp rfl rfl)) ?_
    refine C_on (t := 21) rfl rfl rfl ?_
    refine C_at (.t .h) (fun hp => V_load (v := v0_2.v) ag46 (.tmp rfl rfl) hp.2 rfl rfl) ?_
    refine C_on (t := 21) rfl rfl rfl ?_
    refine C_at (.t (.t (.t (.t .h)))) (fun hp => V_lenR (l := a_a.Rules.length) sl46 (.tmp rfl rfl) (crd_len hp)) ?_
    refine C_on (t := 21) rfl rfl rfl ?_
    refine C_val (V_fieldAddr (off := 2) fd55_2 (.tmp rfl rfl)) ?_
    refine C_on (t := 21) rfl rfl rfl ?_
    refine C_at .h (fun hp => V_load (v := v1_2.v) ag46 (.tmp rfl rfl) hp.2 rfl rfl) ?_
    refine C_on (t := 21) rfl rfl rfl ?_
    refine C_at (.t (.t (.t (.t (.t (.t (.t (.t (.t (.t (.t (.t .h)))))))))))) (fun hp => V_lenR (l := a_b.Rules.length) sl46 (.tmp rfl rfl) (crd_len hp)) ?_
    refine C_on (t := 21) rfl rfl rfl ?_
    refine C_val (V_neq (i := (a_a.Rules.length : Int)) (j := (a_b.Rules.length : Int)) (.tmp rfl rfl) (.tmp rfl rfl)) ?_
    refine C_val (V_pick (b := false) (u := (.bool true)) (v := (.bool (((a_a.Rules.length : Int) : Int) != (a_b.Rules.length : Int)))) (.tmp rfl rfl) (.bool _) (.tmp rfl rfl)) ?_
    refine C_val (V_move (v := (.bool (((a_a.Rules.length : Int) : Int) != (a_b.Rules.length : Int)))) (.tmp rfl rfl)) ?_
    rcases Bool.eq_false_or_eq_true (((a_a.Rules.length : Int) : Int) != (a_b.Rules.length : Int)) with hg13 | hg13
    · rw [hg13]
      try rw [hg13] at hF; dsimp only [cond_true, cond_false] at hF
      refine C_off (t := 30) rfl rfl rfl ?_
      refine C_off (t := 30) rfl rfl rfl ?_
      refine C_off (t := 30) rfl rfl rfl ?_
      refine C_off (t := 30) rfl rfl rfl ?_
      refine C_off (t := 30) rfl rfl rfl ?_
      refine C_off (t := 30) rfl rfl rfl ?_
      refine C_off (t := 30) rfl rfl rfl ?_
      refine C_off (t := 30) rfl rfl rfl ?_
      refine C_val (V_pick (b := true) (u := (.bool true)) (v := undef) (.tmp rfl rfl) (.bool _) (.tmp rfl rfl)) ?_
      refine C_val (V_move (v := (.bool true)) (.tmp rfl rfl)) ?_
      refine C_off (t := 40) rfl rfl rfl ?_
      refine C_off (t := 40) rfl rfl rfl ?_
      refine C_off (t := 40) rfl rfl rfl ?_
      refine C_off (t := 40) rfl rfl rfl ?_
      refine C_off (t := 40) rfl rfl rfl ?_
      refine C_off (t := 40) rfl rfl rfl ?_
      refine C_off (t := 40) rfl rfl rfl ?_
      refine C_val (V_pick (b := true) (u := (.bool true)) (v := undef) (.tmp rfl rfl) (.bool _) (.tmp rfl rfl)) ?_
      refine C_val (V_move (v := (.bool true)) (.tmp rfl rfl)) ?_
      refine C_off (t := 49) rfl rfl rfl ?_
      refine C_off (t := 49) rfl rfl rfl ?_
      refine C_off (t := 49) rfl rfl rfl ?_
      refine C_off (t := 49) rfl rfl rfl ?_
      refine C_off (t := 49) rfl rfl rfl ?_
      refine C_off (t := 49) rfl rfl rfl ?_
      refine C_val (V_pick (b := true) (u := (.bool true)) (v := undef) (.tmp rfl rfl) (.bool _) (.tmp rfl rfl)) ?_
      refine C_val (V_move (v := (.bool true)) (.tmp rfl rfl)) ?_
      refine C_off (t := 57) rfl rfl rfl ?_
      refine C_off (t := 57) rfl rfl rfl ?_
      refine C_off (t := 57) rfl rfl rfl ?_
      refine C_off (t := 57) rfl rfl rfl ?_
      refine C_off (t := 57) rfl rfl rfl ?_
      refine C_val (V_pick (b := true) (u := (.bool true)) (v := undef) (.tmp rfl rfl) (.bool _) (.tmp rfl rfl)) ?_
      refine C_val (V_move (v := (.bool true)) (.tmp rfl rfl)) ?_
      refine C_off (t := 64) rfl rfl rfl ?_
      refine C_off (t := 64) rfl rfl rfl ?_
      refine C_off (t := 64) rfl rfl rfl ?_
      refine C_off (t := 64) rfl rfl rfl ?_
      refine C_off (t := 64) rfl rfl rfl ?_
      refine C_off (t := 64) rfl rfl rfl ?_
      refine C_val (V_pick (b := true) (u := (.bool true)) (v := undef) (.tmp rfl rfl) (.bool _) (.tmp rfl rfl)) ?_
      refine C_val (V_move (v := (.bool true)) (.tmp rfl rfl)) ?_
      refine C_off (t := 72) rfl rfl rfl ?_
      refine C_off (t := 72) rfl rfl rfl ?_
      refine C_off (t := 72) rfl rfl rfl ?_
      refine C_off (t := 72) rfl rfl rfl ?_
      refine C_off (t := 72) rfl rfl rfl ?_
      refine C_off (t := 72) rfl rfl rfl ?_
      refine C_val (V_pick (b := true) (u := (.bool true)) (v := undef) (.tmp rfl rfl) (.bool _) (.tmp rfl rfl)) ?_
      refine C_val (V_move (v := (.bool true)) (.tmp rfl rfl)) ?_
      refine C_off (t := 80) rfl rfl rfl ?_
      refine C_off (t := 80) rfl rfl rfl ?_
      refine C_off (t := 80) rfl rfl rfl ?_
      refine C_off (t := 80) rfl rfl rfl ?_
      refine C_off (t := 80) rfl rfl rfl ?_
      refine C_val (V_pick (b := true) (u := (.bool true)) (v := undef) (.tmp rfl rfl) (.bool _) (.tmp rfl rfl)) ?_
      refine C_val (V_move (v := (.bool true)) (.tmp rfl rfl)) ?_
      refine C_off (t := 87) rfl rfl rfl ?_
      refine C_off (t := 87) rfl rfl rfl ?_
      refine C_off (t := 87) rfl rfl rfl ?_
      refine C_off (t := 87) rfl rfl rfl ?_
      refine C_off (t := 87) rfl rfl rfl ?_
      refine C_off (t := 87) rfl rfl rfl ?_
      refine C_off (t := 87) rfl rfl rfl ?_
      refine C_val (V_pick (b := true) (u := (.bool true)) (v := undef) (.tmp rfl rfl) (.bool _) (.tmp rfl rfl)) ?_
      refine C_nil ?_
      obtain rfl := Option.some.inj hF
      exact ⟨_, _, rfl, (EqL.cons rfl (EqL.cons rfl (EqL.cons rfl (EqL.nil)))).eq, (.sel (.rd (.t .h) rfl (.rd (.t (.t .h)) rfl (.rd (.t (.t (.t .h))) rfl (.rd (.t (.t (.t (.t .h)))) rfl (.rd (.t (.t (.t (.t (.t .h))))) rfl (.rd (.t (.t (.t (.t (.t (.t .h)))))) rfl (.rd (.t (.t (.t (.t (.t (.t (.t .h))))))) rfl (.rd (.t (.t (.t (.t (.t (.t (.t (.t .h)))))))) rfl (.rd (.t (.t (.t (.t (.t (.t (.t (.t (.t .h))))))))) rfl (.rd .h rfl (.rd (.t (.t (.t (.t (.t (.t (.t (.t (.t (.t .h)))))))))) rfl (.rd (.t (.t (.t (.t (.t (.t (.t (.t (.t (.t (.t .h))))))))))) rfl (.rd (.t (.t (.t (.t (.t (.t (.t (.t (.t (.t (.t (.t .h)))))))))))) rfl (.rd (.t (.t (.t (.t (.t (.t (.t (.t (.t (.t (.t (.t (.t .h))))))))))))) rfl (.rd (.t (.t (.t (.t (.t (.t (.t (.t (.t (.t (.t (.t (.t (.t .h)))))))))))))) rfl (.rd (.t (.t (.t (.t (.t (.t (.t (.t (.t (.t (.t (.t (.t (.t (.t .h))))))))))))))) rfl (.rd (.t (.t (.t (.t (.t (.t (.t (.t (.t (.t (.t (.t (.t (.t (.t (.t .h)))))))))))))))) rfl (.rd (.t (.t (.t (.t (.t (.t (.t (.t (.t (.t (.t (.t (.t (.t (.t (.t (.t .h))))))))))))))))) rfl .nil)))))))))))))))))))⟩
    rw [hg13]
    try rw [hg13] at hF; dsimp only [cond_true, cond_false] at hF
    refine C_on (t := 30) rfl rfl rfl ?_
    refine C_val (V_fieldAddr (off := 3) fd55_3 (.tmp rfl rfl)) ?_
    refine C_on (t := 30) rfl rfl rfl ?_
    refine C_val (V_fieldAddr (off := 0) fd49_0 (.tmp rfl rfl)) ?_
    refine C_on (t := 30) rfl rfl rfl ?_
    refine C_at (.t .h) (fun hp => V_load (v := v0_3.v) ag47 (.tmp rfl rfl) hp.2 rfl rfl) ?_
    refine C_on (t := 30) rfl rfl rfl ?_
    refine C_val (V_fieldAddr (off := 3) fd55_3 (.tmp rfl rfl)) ?_
    refine C_on (t := 30) rfl rfl rfl ?_
    refine C_val (V_fieldAddr (off := 0) fd49_0 (.tmp rfl rfl)) ?_
    refine C_on (t := 30) rfl rfl rfl ?_
    refine C_at .h (fun hp => V_load (v := v1_3.v) ag47 (.tmp rfl rfl) hp.2 rfl rfl) ?_
    refine C_on (t := 30) rfl rfl rfl ?_
    obtain ⟨r14, hx15, hF⟩ := bind_some hF
    refine C_x0 (.rd (.t (.t (.t (.t (.t .h))))) rfl (.rd (.t (.t (.t (.t (.t (.t (.t (.t (.t (.t (.t (.t (.t .h))))))))))))) rfl .nil)) (X_callS cf89 (.cons (.tmp rfl rfl) (.cons (.tmp rfl rfl) .nil)) (s_SameFacts_ok a_a.Source.Facts v0_3 a_b.Source.Facts v1_3 _ hx15)) (fun _ => ?_)
    refine C_on (t := 30) rfl rfl rfl ?_
    refine C_val (V_not (b := r14) (.tmp rfl rfl)) ?_
    refine C_val (V_pick (b := false) (u := (.bool true)) (v := (.bool (!r14))) (.tmp rfl rfl) (.bool _) (.tmp rfl rfl)) ?_
    refine C_val (V_move (v := (.bool (!r14))) (.tmp rfl rfl)) ?_
    rcases Bool.eq_false_or_eq_true (!r14) with hg17 | hg17
    · rw [hg17]
      try rw [hg17] at hF; dsimp only [cond_true, cond_false] at hF
      refine C_off (t := 40) rfl rfl rfl ?_
      refine C_off (t := 40) rfl rfl rfl ?_
      refine C_off (t := 40) rfl rfl rfl ?_
      refine C_off (t := 40) rfl rfl rfl ?_
      refine C_off (t := 40) rfl rfl rfl ?_
      refine C_off (t := 40) rfl rfl rfl ?_
      refine C_off (t := 40) rfl rfl rfl ?_
      refine C_val (V_pick (b := true) (u := (.bool true)) (v := undef) (.tmp rfl rfl) (.bool _) (.tmp rfl rfl)) ?_
      refine C_val (V_move (v := (.bool true)) (.tmp rfl rfl)) ?_
      refine C_off (t := 49) rfl rfl rfl ?_
      refine C_off (t := 49) rfl rfl rfl ?_
      refine C_off (t := 49) rfl rfl rfl ?_
      refine C_off (t := 49) rfl rfl rfl ?_
      refine C_off (t := 49) rfl rfl rfl ?_
      refine C_off (t := 49) rfl rfl rfl ?_
      refine C_val (V_pick (b := true) (u := (.bool true)) (v := undef) (.tmp rfl rfl) (.bool _) (.tmp rfl rfl)) ?_
      refine C_val (V_move (v := (.bool true)) (.tmp rfl rfl)) ?_
      refine C_off (t := 57) rfl rfl rfl ?_
      refine C_off (t := 57) rfl rfl rfl ?_
      refine C_off (t := 57) rfl rfl rfl ?_
      refine C_off (t := 57) rfl rfl rfl ?_
      refine C_off (t := 57) rfl rfl rfl ?_
      refine C_val (V_pick (b := true) (u := (.bool true)) (v := undef) (.tmp rfl rfl) (.bool _) (.tmp rfl rfl)) ?_
      refine C_val (V_move (v := (.bool true)) (.tmp rfl rfl)) ?_
      refine C_off (t := 64) rfl rfl rfl ?_
      refine C_off (t := 64) rfl rfl rfl ?_
      refine C_off (t := 64) rfl rfl rfl ?_
      refine C_off (t := 64) rfl rfl rfl ?_
      refine C_off (t := 64) rfl rfl rfl ?_
      refine C_off (t := 64) rfl rfl rfl ?_
      refine C_val (V_pick (b := true) (u := (.bool true)) (v := undef) (.tmp rfl rfl) (.bool _) (.tmp rfl rfl)) ?_
      refine C_val (V_move (v := (.bool true)) (.tmp rfl rfl)) ?_
      refine C_off (t := 72) rfl rfl rfl ?_
      refine C_off (t := 72) rfl rfl rfl ?_
      refine C_off (t := 72) rfl rfl rfl ?_
      refine C_off (t := 72) rfl rfl rfl ?_
      refine C_off (t := 72) rfl rfl rfl ?_
      refine C_off (t := 72) rfl rfl rfl ?_
      refine C_val (V_pick (b := true) (u := (.bool true)) (v := undef) (.tmp rfl rfl) (.bool _) (.tmp rfl rfl)) ?_
      refine C_val (V_move (v := (.bool true)) (.tmp rfl rfl)) ?_
      refine C_off (t := 80) rfl rfl rfl ?_
      refine C_off (t := 80) rfl rfl rfl ?_
      refine C_off (t := 80) rfl rfl rfl ?_
      refine C_off (t := 80) rfl rfl rfl ?_
      refine C_off (t := 80) rfl rfl rfl ?_
      refine C_val (V_pick (b := true) (u := (.bool true)) (v := undef) (.tmp rfl rfl) (.bool _) (.tmp rfl rfl)) ?_
      refine C_val (V_move (v := (.bool true)) (.tmp rfl rfl)) ?_
      refine C_off (t := 87) rfl rfl rfl ?_
      refine C_off (t := 87) rfl rfl rfl ?_
      refine C_off (t := 87) rfl rfl rfl ?_
      refine C_off (t := 87) rfl rfl rfl ?_
      refine C_off (t := 87) rfl rfl rfl ?_
      refine C_off (t := 87) rfl rfl rfl ?_
      refine C_off (t := 87) rfl rfl rfl ?_
      refine C_val (V_pick (b := true) (u := (.bool true)) (v := undef) (.tmp rfl rfl) (.bool _) (.tmp rfl rfl)) ?_
      refine C_nil ?_
      obtain rfl := Option.some.inj hF
      exact ⟨_, _, rfl, (EqL.cons rfl (EqL.cons rfl (EqL.cons rfl (EqL.nil)))).eq, (.sel (.rd (.t .h) rfl (.rd (.t (.t .h)) rfl (.rd (.t (.t (.t .h))) rfl (.rd (.t (.t (.t (.t .h)))) rfl (.rd (.t (.t (.t (.t (.t .h))))) rfl (.rd (.t (.t (.t (.t (.t (.t .h)))))) rfl (.rd (.t (.t (.t (.t (.t (.t (.t .h))))))) rfl (.rd (.t (.t (.t (.t (.t (.t (.t (.t .h)))))))) rfl (.rd (.t (.t (.t (.t (.t (.t (.t (.t (.t .h))))))))) rfl (.rd .h rfl (.rd (.t (.t (.t (.t (.t (.t (.t (.t (.t (.t .h)))))))))) rfl (.rd (.t (.t (.t (.t (.t (.t (.t (.t (.t (.t (.t .h))))))))))) rfl (.rd (.t (.t (.t (.t (.t (.t (.t (.t (.t (.t (.t (.t .h)))))))))))) rfl (.rd (.t (.t (.t (.t (.t (.t (.t (.t (.t (.t (.t (.t (.t .h))))))))))))) rfl (.rd (.t (.t (.t (.t (.t (.t (.t (.t (.t (.t (.t (.t (.t (.t .h)))))))))))))) rfl (.rd (.t (.t (.t (.t (.t (.t (.t (.t (.t (.t (.t (.t (.t (.t (.t .h))))))))))))))) rfl (.rd (.t (.t (.t (.t (.t (.t (.t (.t (.t (.t (.t (.t (.t (.t (.t (.t .h)))))))))))))))) rfl (.rd (.t (.t (.t (.t (.t (.t (.t (.t (.t (.t (.t (.t (.t (.t (.t (.t (.t .h))))))))))))))))) rfl .nil)))))))))))))))))))⟩
    rw [hg17]
    try rw [hg17] at hF; dsimp only [cond_true, cond_false] at hF
    refine C_on (t := 40) rfl rfl rfl ?_
    refine C_val (V_fieldAddr (off := 3) fd55_3 (.tmp rfl rfl)) ?_
    refine C_on (t := 40) rfl rfl rfl ?_
    refine C_val (V_fieldAddr (off := 1) fd49_1 (.tmp rfl rfl)) ?_
    refine C_on (t := 40) rfl rfl rfl ?_
    refine C_at (.t .h) (fun hp => V_load (v := (.int .i64 a_a.Source.Version)) ag3 (.tmp rfl rfl) hp.2 rfl rfl) ?_
    refine C_on (t := 40) rfl rfl rfl ?_
    refine C_val (V_fieldAddr (off := 3) fd55_3 (.tmp rfl rfl)) ?_
    refine C_on (t := 40) rfl rfl rfl ?_
    refine C_val (V_fieldAddr (off := 1) fd49_1 (.tmp rfl rfl)) ?_
    refine C_on (t := 40) rfl rfl rfl ?_
    refine C_at .h (fun hp => V_load (v := (.int .i64 a_b.Source.Version)) ag3 (.tmp rfl rfl) hp.2 rfl rfl) ?_
    refine C_on (t := 40) rfl rfl rfl ?_
    refine C_val (V_neq (i := a_a.Source.Version) (j := a_b.Source.Version) (.tmp rfl rfl) (.tmp rfl rfl)) ?_
    refine C_val (V_pick (b := false) (u := (.bool true)) (v := (.bool ((a_a.Source.Version : Int) != a_b.Source.Version))) (.tmp rfl rfl) (.bool _) (.tmp rfl rfl)) ?_
    refine C_val (V_move (v := (.bool ((a_a.Source.Version : Int) != a_b.Source.Version))) (.tmp rfl rfl)) ?_
    rcases Bool.eq_false_or_eq_true ((a_a.Source.Version : Int) != a_b.Source.Version) with hg18 | hg18
    · rw [hg18]
      try rw [hg18] at hF; dsimp only [cond_true, cond_false] at hF
      refine C_off (t := 49) rfl rfl rfl ?_
      refine C_off (t := 49) rfl rfl rfl ?_
      refine C_off (t := 49) rfl rfl rfl ?_
      refine C_off (t := 49) rfl rfl rfl ?_
      refine C_off (t := 49) rfl rfl rfl ?_
      refine C_off (t := 49) rfl rfl rfl ?_
      refine C_val (V_pick (b := true) (u := (.bool true)) (v := undef) (.tmp rfl rfl) (.bool _) (.tmp rfl rfl)) ?_
      refine C_val (V_move (v := (.bool true)) (.tmp rfl rfl)) ?_
      refine C_off (t := 57) rfl rfl rfl ?_
      refine C_off (t := 57) rfl rfl rfl ?_
      refine C_off (t := 57) rfl rfl rfl ?_
      refine C_off (t := 57) rfl rfl rfl ?_
      refine C_off (t := 57) rfl rfl rfl ?_
      refine C_val (V_pick (b := true) (u := (.bool true)) (v := undef) (.tmp rfl rfl) (.bool _) (.tmp rfl rfl)) ?_
      refine C_val (V_move (v := (.bool true)) (.tmp rfl rfl)) ?_
      refine C_off (t := 64) rfl rfl rfl ?_
      refine C_off (t := 64) rfl rfl rfl ?_
      refine C_off (t := 64) rfl rfl rfl ?_
      refine C_off (t := 64) rfl rfl rfl ?_
      refine C_off (t := 64) rfl rfl rfl ?_
      refine C_off (t := 64) rfl rfl rfl ?_
      refine C_val (V_pick (b := true) (u := (.bool true)) (v := undef) (.tmp rfl rfl) (.bool _) (.tmp rfl rfl)) ?_
      refine C_val (V_move (v := (.bool true)) (.tmp rfl rfl)) ?_
      refine C_off (t := 72) rfl rfl rfl ?_
      refine C_off (t := 72) rfl rfl rfl ?_
      refine C_off (t := 72) rfl rfl rfl ?_
      refine C_off (t := 72) rfl rfl rfl ?_
      refine C_off (t := 72) rfl rfl rfl ?_
      refine C_off (t := 72) rfl rfl rfl ?_
      refine C_val (V_pick (b := true) (u := (.bool true)) (v := undef) (.tmp rfl rfl) (.bool _) (.tmp rfl rfl)) ?_
      refine C_val (V_move (v := (.bool true)) (.tmp rfl rfl)) ?_
      refine C_off (t := 80) rfl rfl rfl ?_
      refine C_off (t := 80) rfl rfl rfl ?_
      refine C_off (t := 80) rfl rfl rfl ?_
      refine C_off (t := 80) rfl rfl rfl ?_
      refine C_off (t := 80) rfl rfl rfl ?_
      refine C_val (V_pick (b := true) (u := (.bool true)) (v := undef) (.tmp rfl rfl) (.bool _) (.tmp rfl rfl)) ?_
      refine C_val (V_move (v := (.bool true)) (.tmp rfl rfl)) ?_
      refine C_off (t := 87) rfl rfl rfl ?_
      refine C_off (t := 87) rfl rfl rfl ?_
      refine C_off (t := 87) rfl rfl rfl ?_
      refine C_off (t := 87) rfl rfl rfl ?_
      refine C_off (t := 87) rfl rfl rfl ?_
      refine C_off (t := 87) rfl rfl rfl ?_
      refine C_off (t := 87) rfl rfl rfl ?_
      refine C_val (V_pick (b := true) (u := (.bool true)) (v := undef) (.tmp rfl rfl) (.bool _) (.tmp rfl rfl)) ?_
      refine C_nil ?_
      obtain rfl := Option.some.inj hF
      exact ⟨_, _, rfl, (EqL.cons rfl (EqL.cons rfl (EqL.cons rfl (EqL.nil)))).eq, (.sel (.rd (.t .h) rfl (.rd (.t (.t .h)) rfl (.rd (.t (.t (.t .h))) rfl (.rd (.t (.t (.t (.t .h)))) rfl (.rd (.t (.t (.t (.t (.t .h))))) rfl (.rd (.t (.t (.t (.t (.t (.t .h)))))) rfl (.rd (.t (.t (.t (.t (.t (.t (.t .h))))))) rfl (.rd (.t (.t (.t (.t (.t (.t (.t (.t .h)))))))) rfl (.rd (.t (.t (.t (.t (.t (.t (.t (.t (.t .h))))))))) rfl (.rd .h rfl (.rd (.t (.t (.t (.t (.t (.t (.t (.t (.t (.t .h)))))))))) rfl (.rd (.t (.t (.t (.t (.t (.t (.t (.t (.t (.t (.t .h))))))))))) rfl (.rd (.t (.t (.t (.t (.t (.t (.t (.t (.t (.t (.t (.t .h)))))))))))) rfl (.rd (.t (.t (.t (.t (.t (.t (.t (.t (.t (.t (.t (.t (.t .h))))))))))))) rfl (.rd (.t (.t (.t (.t (.t (.t (.t (.t (.t (.t (.t (.t (.t (.t .h)))))))))))))) rfl (.rd (.t (.t (.t (.t (.t (.t (.t (.t (.t (.t (.t (.t (.t (.t (.t .h))))))))))))))) rfl (.rd (.t (.t (.t (.t (.t (.t (.t (.t (.t (.t (.t (.t (.t (.t (.t (.t .h)))))))))))))))) rfl (.rd (.t (.t (.t (.t (.t (.t (.t (.t (.t (.t (.t (.t (.t (.t (.t (.t (.t .h))))))))))))))))) rfl .nil)))))))))))))))))))⟩
    rw [hg18]
    try rw [hg18] at hF; dsimp only [cond_true, cond_false] at hF
    refine C_on (t := 49) rfl rfl rfl ?_
    refine C_val (V_fieldAddr (off := 5) fd55_4 (.tmp rfl rfl)) ?_
    refine C_on (t := 49) rfl rfl rfl ?_
    refine C_at (.t .h) (fun hp => V_loadA (s := 2) (l := [v0_5.v, (.int .i64 a_a.Cache.Age)]) ag52 ty52.sz (.tmp rfl rfl) hp.2 rfl (by decide) (Nat.le_of_ble_eq_true rfl) rfl) ?_
    refine C_on (t := 49) rfl rfl rfl ?_
    refine C_val (V_fieldAddr (off := 5) fd55_4 (.tmp rfl rfl)) ?_
    refine C_on (t := 49) rfl rfl rfl ?_
    refine C_at .h (fun hp => V_loadA (s := 2) (l := [v1_5.v, (.int .i64 a_b.Cache.Age)]) ag52 ty52.sz (.tmp rfl rfl) hp.2 rfl (by decide) (Nat.le_of_ble_eq_true rfl) rfl) ?_
    refine C_on (t := 49) rfl rfl rfl ?_
    obtain ⟨r19, hx20, hF⟩ := bind_some hF
    refine C_x0 (.rd (.t (.t (.t (.t (.t (.t .h)))))) rfl (.rd (.t (.t (.t (.t (.t (.t (.t (.t (.t (.t (.t (.t (.t (.t .h)))))))))))))) rfl .nil)) (X_callS cf90 (.cons (.tmp rfl rfl) (.cons (.tmp rfl rfl) .nil)) (s_EqualCaches_ok a_a.Cache v0_5 a_b.Cache v1_5 _ hx20)) (fun _ => ?_)
    refine C_on (t := 49) rfl rfl rfl ?_
    refine C_val (V_not (b := r19) (.tmp rfl rfl)) ?_
    refine C_val (V_pick (b := false) (u := (.bool true)) (v := (.bool (!r19))) (.tmp rfl rfl) (.bool _) (.tmp rfl rfl)) ?_
    refine C_val (V_move (v := (.bool (!r19))) (.tmp rfl rfl)) ?_
    rcases Bool.eq_false_or_eq_true (!r19) with hg22 | hg22
    · rw [hg22]
      try rw [hg22] at hF; dsimp only [cond_true, cond_false] at hF
      refine C_off (t := 57) rfl rfl rfl ?_
      refine C_off (t := 57) rfl rfl rfl ?_
      refine C_off (t := 57) rfl rfl rfl ?_
      refine C_off (t := 57) rfl rfl rfl ?_
      refine C_off (t := 57) rfl rfl rfl ?_
      refine C_val (V_pick (b := true) (u := (.bool true)) (v := undef) (.tmp rfl rfl) (.bool _) (.tmp rfl rfl)) ?_
      refine C_val (V_move (v := (.bool true)) (.tmp rfl rfl)) ?_
      refine C_off (t := 64) rfl rfl rfl ?_
      refine C_off (t := 64) rfl rfl rfl ?_
      refine C_off (t := 64) rfl rfl rfl ?_
      refine C_off (t := 64) rfl rfl rfl ?_
      refine C_off (t := 64) rfl rfl rfl ?_
      refine C_off (t := 64) rfl rfl rfl ?_
      refine C_val (V_pick (b := true) (u := (.bool true)) (v := undef) (.tmp rfl rfl) (.bool _) (.tmp rfl rfl)) ?_
      refine C_val (V_move (v := (.bool true)) (.tmp rfl rfl)) ?_
      refine C_off (t := 72) rfl rfl rfl ?_
      refine C_off (t := 72) rfl rfl rfl ?_
      refine C_off (t := 72) rfl rfl rfl ?_
      refine C_off (t := 72) rfl rfl rfl ?_
      refine C_off (t := 72) rfl rfl rfl ?_
      refine C_off (t := 72) rfl rfl rfl ?_
      refine C_val (V_pick (b := true) (u := (.bool true)) (v := undef) (.tmp rfl rfl) (.bool _) (.tmp rfl rfl)) ?_
      refine C_val (V_move (v := (.bool true)) (.tmp rfl rfl)) ?_
      refine C_off (t := 80) rfl rfl rfl ?_
      refine C_off (t := 80) rfl rfl rfl ?_
      refine C_off (t := 80) rfl rfl rfl ?_
      refine C_off (t := 80) rfl rfl rfl ?_
      refine C_off (t := 80) rfl rfl rfl ?_
      refine C_val (V_pick (b := true) (u := (.bool true)) (v := undef) (.tmp rfl rfl) (.bool _) (.tmp rfl rfl)) ?_
      refine C_val (V_move (v := (.bool true)) (.tmp rfl rfl)) ?_
      refine C_off (t := 87) rfl rfl rfl ?_
      refine C_off (t := 87) rfl rfl rfl ?_
      refine C_off (t := 87) rfl rfl rfl ?_
      refine C_off (t := 87) rfl rfl rfl ?_
      refine C_off (t := 87) rfl rfl rfl ?_
      refine C_off (t := 87) rfl rfl rfl ?_
      refine C_off (t := 87) rfl rfl rfl ?_
      refine C_val (V_pick (b := true) (u := (.bool true)) (v := undef) (.tmp rfl rfl) (.bool _) (.tmp rfl rfl)) ?_
      refine C_nil ?_
      obtain rfl := Option.some.inj hF
      exact ⟨_, _, rfl, (EqL.cons rfl (EqL.cons rfl (EqL.cons rfl (EqL.nil)))).eq, (.sel (.rd (.t .h) rfl (.rd (.t (.t .h)) rfl (.rd (.t (.t (.t .h))) rfl (.rd (.t (.t (.t (.t .h)))) rfl (.rd (.t (.t (.t (.t (.t .h))))) rfl (.rd (.t (.t (.t (.t (.t (.t .h)))))) rfl (.rd (.t (.t (.t (.t (.t (.t (.t .h))))))) rfl (.rd (.t (.t (.t (.t (.t (.t (.t (.t .h)))))))) rfl (.rd (.t (.t (.t (.t (.t (.t (.t (.t (.t .h))))))))) rfl (.rd .h rfl (.rd (.t (.t (.t (.t (.t (.t (.t (.t (.t (.t .h)))))))))) rfl (.rd (.t (.t (.t (.t (.t (.t (.t (.t (.t (.t (.t .h))))))))))) rfl (.rd (.t (.t (.t (.t (.t (.t (.t (.t (.t (.t (.t (.t .h)))))))))))) rfl (.rd (.t (.t (.t (.t (.t (.t (.t (.t (.t (.t (.t (.t (.t .h))))))))))))) rfl (.rd (.t (.t (.t (.t (.t (.t (.t (.t (.t (.t (.t (.t (.t (.t .h)))))))))))))) rfl (.rd (.t (.t (.t (.t (.t (.t (.t (.t (.t (.t (.t (.t (.t (.t (.t .h))))))))))))))) rfl (.rd (.t (.t (.t (.t (.t (.t (.t (.t (.t (.t (.t (.t (.t (.t (.t (.t .h)))))))))))))))) rfl (.rd (.t (.t (.t (.t (.t (.t (.t (.t (.t (.t (.t (.t (.t (.t (.t (.t (.t .h))))))))))))))))) rfl .nil)))))))))))))))))))⟩
    rw [hg22]
    try rw [hg22] at hF; dsimp only [cond_true, cond_false] at hF
    refine C_on (t := 57) rfl rfl rfl ?_
    refine C_val (V_fieldAddr (off := 7) fd55_5 (.tmp rfl rfl)) ?_
    refine C_on (t := 57) rfl rfl rfl ?_
    refine C_at (.t .h) (fun hp => V_load (v := (.int .i64 a_a.Now)) ag3 (.tmp rfl rfl) hp.2 rfl rfl) ?_
    refine C_on (t := 57) rfl rfl rfl ?_
    refine C_val (V_fieldAddr (off := 7) fd55_5 (.tmp rfl rfl)) ?_
    refine C_on (t := 57) rfl rfl rfl ?_
    refine C_at .h (fun hp => V_load (v := (.int .i64 a_b.Now)) ag3 (.tmp rfl rfl) hp.2 rfl rfl) ?_
    refine C_on (t := 57) rfl rfl rfl ?_
    refine C_val (V_neq (i := a_a.Now) (j := a_b.Now) (.tmp rfl rfl) (.tmp rfl rfl)) ?_
    refine C_val (V_pick (b := false) (u := (.bool true)) (v := (.bool ((a_a.Now : Int) != a_b.Now))) (.tmp rfl rfl) (.bool _) (.tmp rfl rfl)) ?_
    refine C_val (V_move (v := (.bool ((a_a.Now : Int) != a_b.Now))) (.tmp rfl rfl)) ?_
    rcases Bool.eq_false_or_eq_true ((a_a.Now : Int) != a_b.Now) with hg23 | hg23
    · rw [hg23]
      try rw [hg23] at hF; dsimp only [cond_true, cond_false] at hF
      refine C_off (t := 64) rfl rfl rfl ?_
      refine C_off (t := 64) rfl rfl rfl ?_
      refine C_off (t := 64) rfl rfl rfl ?_
      refine C_off (t := 64) rfl rfl rfl ?_
      refine C_off (t := 64) rfl rfl rfl ?_
      refine C_off (t := 64) rfl rfl rfl ?_
      refine C_val (V_pick (b := true) (u := (.bool true)) (v := undef) (.tmp rfl rfl) (.bool _) (.tmp rfl rfl)) ?_
      refine C_val (V_move (v := (.bool true)) (.tmp rfl rfl)) ?_
      refine C_off (t := 72) rfl rfl rfl ?_
      refine C_off (t := 72) rfl rfl rfl ?_
      refine C_off (t := 72) rfl rfl rfl ?_
      refine C_off (t := 72) rfl rfl rfl ?_
      refine C_off (t := 72) rfl rfl rfl ?_
      refine C_off (t := 72) rfl rfl rfl ?_
      refine C_val (V_pick (b := true) (u := (.bool true)) (v := undef) (.tmp rfl rfl) (.bool _) (.tmp rfl rfl)) ?_
      refine C_val (V_move (v := (.bool true)) (.tmp rfl rfl)) ?_
      refine C_off (t := 80) rfl rfl rfl ?_
      refine C_off (t := 80) rfl rfl rfl ?_
      refine C_off (t := 80) rfl rfl rfl ?_
      refine C_off (t := 80) rfl rfl rfl ?_
      refine C_off (t := 80) rfl rfl rfl ?_
      refine C_val (V_pick (b := true) (u := (.bool true)) (v := undef) (.tmp rfl rfl) (.bool _) (.tmp rfl rfl)) ?_
      refine C_val (V_move (v := (.bool true)) (.tmp rfl rfl)) ?_
      refine C_off (t := 87) rfl rfl rfl ?_
      refine C_off (t := 87) rfl rfl rfl ?_
      refine C_off (t := 87) rfl rfl rfl ?_
      refine C_off (t := 87) rfl rfl rfl ?_
      refine C_off (t := 87) rfl rfl rfl ?_
      refine C_off (t := 87) rfl rfl rfl ?_
      refine C_off (t := 87) rfl rfl rfl ?_
      refine C_val (V_pick (b := true) (u := (.bool true)) (v := undef) (.tmp rfl rfl) (.bool _) (.tmp rfl rfl)) ?_
      refine C_nil ?_
      obtain rfl := Option.some.inj hF
      exact ⟨_, _, rfl, (EqL.cons rfl (EqL.cons rfl (EqL.cons rfl (EqL.nil)))).eq, (.sel (.rd (.t .h) rfl (.rd (.t (.t .h)) rfl (.rd (.t (.t (.t .h))) rfl (.rd (.t (.t (.t (.t .h)))) rfl (.rd (.t (.t (.t (.t (.t .h))))) rfl (.rd (.t (.t (.t (.t (.t (.t .h)))))) rfl (.rd (.t (.t (.t (.t (.t (.t (.t .h))))))) rfl (.rd (.t (.t (.t (.t (.t (.t (.t (.t .h)))))))) rfl (.rd (.t (.t (.t (.t (.t (.t (.t (.t (.t .h))))))))) rfl (.rd .h rfl (.rd (.t (.t (.t (.t (.t (.t (.t (.t (.t (.t .h)))))))))) rfl (.rd (.t (.t (.t (.t (.t (.t (.t (.t (.t (.t (.t .h))))))))))) rfl (.rd (.t (.t (.t (.t (.t (.t (.t (.t (.t (.t (.t (.t .h)))))))))))) rfl (.rd (.t (.t (.t (.t (.t (.t (.t (.t (.t (.t (.t (.t (.t .h))))))))))))) rfl (.rd (.t (.t (.t (.t (.t (.t (.t (.t (.t (.t (.t (.t (.t (.t .h)))))))))))))) rfl (.rd (.t (.t (.t (.t (.t (.t (.t (.t (.t (.t (.t (.t (.t (.t (.t .h))))))))))))))) rfl (.rd (.t (.t (.t (.t (.t (.t (.t (.t (.t (.t (.t (.t (.t (.t (.t (.t .h)))))))))))))))) rfl (.rd (.t (.t (.t (.t (.t (.t (.t (.t (.t (.t (.t (.t (.t (.t (.t (.t (.t .h))))))))))))))))) rfl .nil)))))))))))))))))))⟩
    rw [hg23]
    try rw [hg23] at hF; dsimp only [cond_true, cond_false] at hF
    refine C_on (t := 64) rfl rfl rfl ?_
    refine C_val (V_fieldAddr (off := 8) fd55_6 (.tmp rfl rfl)) ?_
    refine C_on (t := 64) rfl rfl rfl ?_
    refine C_at (.t .h) (fun hp => V_load (v := v0_8.v) ag33 (.tmp rfl rfl) hp.2 rfl rfl) ?_
    refine C_on (t := 64) rfl rfl rfl ?_
    refine C_val (V_fieldAddr (off := 8) fd55_6 (.tmp rfl rfl)) ?_
    refine C_on (t := 64) rfl rfl rfl ?_
    refine C_at .h (fun hp => V_load (v := v1_8.v) ag33 (.tmp rfl rfl) hp.2 rfl rfl) ?_
    refine C_on (t := 64) rfl rfl rfl ?_
    obtain ⟨r24, hx25, hF⟩ := bind_some hF
    refine C_x0 (.rd (.t (.t (.t (.t (.t (.t (.t .h))))))) rfl (.rd (.t (.t (.t (.t (.t (.t (.t (.t (.t (.t (.t (.t (.t (.t (.t .h))))))))))))))) rfl .nil)) (X_callS cf61 (.cons (.tmp rfl rfl) (.cons (.tmp rfl rfl) .nil)) (s_SameAccesses_ok a_a.Log v0_8 a_b.Log v1_8 _ hx25)) (fun _ => ?_)
    refine C_on (t := 64) rfl rfl rfl ?_
    refine C_val (V_not (b := r24) (.tmp rfl rfl)) ?_
    refine C_val (V_pick (b := false) (u := (.bool true)) (v := (.bool (!r24))) (.tmp rfl rfl) (.bool _) (.tmp rfl rfl)) ?_
    refine C_val (V_move (v := (.bool (!r24))) (.tmp rfl rfl)) ?_
    rcases Bool.eq_false_or_eq_true (!r24) with hg27 | hg27
    · rw [hg27]
      try rw [hg27] at hF; dsimp only [cond_true, cond_false] at hF
      refine C_off (t := 72) rfl rfl rfl ?_
      refine C_off (t := 72) rfl rfl rfl ?_
      refine C_off (t := 72) rfl rfl rfl ?_
      refine C_off (t := 72) rfl rfl rfl ?_
      refine C_off (t := 72) rfl rfl rfl ?_
      refine C_off (t := 72) rfl rfl rfl ?_
      refine C_val (V_pick (b := true) (u := (.bool true)) (v := undef) (.tmp rfl rfl) (.bool _) (.tmp rfl rfl)) ?_
      refine C_val (V_move (v := (.bool true)) (.tmp rfl rfl)) ?_
      refine C_off (t := 80) rfl rfl rfl ?_
      refine C_off (t := 80) rfl rfl rfl ?_
      refine C_off (t := 80) rfl rfl rfl ?_
      refine C_off (t := 80) rfl rfl rfl ?_
      refine C_off (t := 80) rfl rfl rfl ?_
      refine C_val (V_pick (b := true) (u := (.bool true)) (v := undef) (.tmp rfl rfl) (.bool _) (.tmp rfl rfl)) ?_
      refine C_val (V_move (v := (.bool true)) (.tmp rfl rfl)) ?_
      refine C_off (t := 87) rfl rfl rfl ?_
      refine C_off (t := 87) rfl rfl rfl ?_
      refine C_off (t := 87) rfl rfl rfl ?_
      refine C_off (t := 87) rfl rfl rfl ?_
      refine C_off (t := 87) rfl rfl rfl ?_
      refine C_off (t := 87) rfl rfl rfl ?_
      refine C_off (t := 87) rfl rfl rfl ?_
      refine C_val (V_pick (b := true) (u := (.bool true)) (v := undef) (.tmp rfl rfl) (.bool _) (.tmp rfl rfl)) ?_
      refine C_nil ?_
      obtain rfl := Option.some.inj hF
      exact ⟨_, _, rfl, (EqL.cons rfl (EqL.cons rfl (EqL.cons rfl (EqL.nil)))).eq, (.sel (.rd (.t .h) rfl (.rd (.t (.t .h)) rfl (.rd (.t (.t (.t .h))) rfl (.rd (.t (.t (.t (.t .h)))) rfl (.rd (.t (.t (.t (.t (.t .h))))) rfl (.rd (.t (.t (.t (.t (.t (.t .h)))))) rfl (.rd (.t (.t (.t (.t (.t (.t (.t .h))))))) rfl (.rd (.t (.t (.t (.t (.t (.t (.t (.t .h)))))))) rfl (.rd (.t (.t (.t (.t (.t (.t (.t (.t (.t .h))))))))) rfl (.rd .h rfl (.rd (.t (.t (.t (.t (.t (.t (.t (.t (.t (.t .h)))))))))) rfl (.rd (.t (.t (.t (.t (.t (.t (.t (.t (.t (.t (.t .h))))))))))) rfl (.rd (.t (.t (.t (.t (.t (.t (.t (.t (.t (.t (.t (.t .h)))))))))))) rfl (.rd (.t (.t (.t (.t (.t (.t (.t (.t (.t (.t (.t (.t (.t .h))))))))))))) rfl (.rd (.t (.t (.t (.t (.t (.t (.t (.t (.t (.t (.t (.t (.t (.t .h)))))))))))))) rfl (.rd (.t (.t (.t (.t (.t (.t (.t (.t (.t (.t (.t (.t (.t (.t (.t .h))))))))))))))) rfl (.rd (.t (.t (.t (.t (.t (.t (.t (.t (.t (.t (.t (.t (.t (.t (.t (.t .h)))))))))))))))) rfl (.rd (.t (.t (.t (.t (.t (.t (.t (.t (.t (.t (.t (.t (.t (.t (.t (.t (.t .h))))))))))))))))) rfl .nil)))))))))))))))))))⟩
    rw [hg27]
    try rw [hg27] at hF; dsimp only [cond_true, cond_false] at hF
    refine C_on (t := 72) rfl rfl rfl ?_
    refine C_val (V_fieldAddr (off := 9) fd55_7 (.tmp rfl rfl)) ?_
    refine C_on (t := 72) rfl rfl rfl ?_
    refine C_at (.t .h) (fun hp => V_load (v := v0_9.v) ag45 (.tmp rfl rfl) hp.2 rfl rfl) ?_
    refine C_on (t := 72) rfl rfl rfl ?_
    refine C_val (V_fieldAddr (off := 9) fd55_7 (.tmp rfl rfl)) ?_
    refine C_on (t := 72) rfl rfl rfl ?_
    refine C_at .h (fun hp => V_load (v := v1_9.v) ag45 (.tmp rfl rfl) hp.2 rfl rfl) ?_
    refine C_on (t := 72) rfl rfl rfl ?_
    obtain ⟨r28, hx29, hF⟩ := bind_some hF
    refine C_x0 (.rd (.t (.t (.t (.t (.t (.t (.t (.t .h)))))))) rfl (.rd (.t (.t (.t (.t (.t (.t (.t (.t (.t (.t (.t (.t (.t (.t (.t (.t .h)))))))))))))))) rfl .nil)) (X_callS cf87 (.cons (.tmp rfl rfl) (.cons (.tmp rfl rfl) .nil)) (s_l2Ints_ok a_a.Times v0_9 a_b.Times v1_9 _ hx29)) (fun _ => ?_)
    refine C_on (t := 72) rfl rfl rfl ?_
    refine C_val (V_not (b := r28) (.tmp rfl rfl)) ?_
    refine C_val (V_pick (b := false) (u := (.bool true)) (v := (.bool (!r28))) (.tmp rfl rfl) (.bool _) (.tmp rfl rfl)) ?_
    refine C_val (V_move (v := (.bool (!r28))) (.tmp rfl rfl)) ?_
    rcases Bool.eq_false_or_eq_true (!r28) with hg31 | hg31
    · rw [hg31]
      try rw [hg31] at hF; dsimp only [cond_true, cond_false] at hF
      refine C_off (t := 80) rfl rfl rfl ?_
      refine C_off (t := 80) rfl rfl rfl ?_
      refine C_off (t := 80) rfl rfl rfl ?_
      refine C_off (t := 80) rfl rfl rfl ?_
      refine C_off (t := 80) rfl rfl rfl ?_
      refine C_val (V_pick (b := true) (u := (.bool true)) (v := undef) (.tmp rfl rfl) (.bool _) (.tmp rfl rfl)) ?_
      refine C_val (V_move (v := (.bool true)) (.tmp rfl rfl)) ?_
      refine C_off (t := 87) rfl rfl rfl ?_
      refine C_off (t := 87) rfl rfl rfl ?_
      refine C_off (t := 87) rfl rfl rfl ?_
      refine C_off (t := 87) rfl rfl rfl ?_
      refine C_off (t := 87) rfl rfl rfl ?_
      refine C_off (t := 87) rfl rfl rfl ?_
      refine C_off (t := 87) rfl rfl rfl ?_
      refine C_val (V_pick (b := true) (u := (.bool true)) (v := undef) (.tmp rfl rfl) (.bool _) (.tmp rfl rfl)) ?_
      refine C_nil ?_
      obtain rfl := Option.some.inj hF
      exact ⟨_, _, rfl, (EqL.cons rfl (EqL.cons rfl (EqL.cons rfl (EqL.nil)))).eq, (.sel (.rd (.t .h) rfl (.rd (.t (.t .h)) rfl (.rd (.t (.t (.t .h))) rfl (.rd (.t (.t (.t (.t .h)))) rfl (.rd (.t (.t (.t (.t (.t .h))))) rfl (.rd (.t (.t (.t (.t (.t (.t .h)))))) rfl (.rd (.t (.t (.t (.t (.t (.t (.t .h))))))) rfl (.rd (.t (.t (.t (.t (.t (.t (.t (.t .h)))))))) rfl (.rd (.t (.t (.t (.t (.t (.t (.t (.t (.t .h))))))))) rfl (.rd .h rfl (.rd (.t (.t (.t (.t (.t (.t (.t (.t (.t (.t .h)))))))))) rfl (.rd (.t (.t (.t (.t (.t (.t (.t (.t (.t (.t (.t .h))))))))))) rfl (.rd (.t (.t (.t (.t (.t (.t (.t (.t (.t (.t (.t (.t .h)))))))))))) rfl (.rd (.t (.t (.t (.t (.t (.t (.t (.t (.t (.t (.t (.t (.t .h))))))))))))) rfl (.rd (.t (.t (.t (.t (.t (.t (.t (.t (.t (.t (.t (.t (.t (.t .h)))))))))))))) rfl (.rd (.t (.t (.t (.t (.t (.t (.t (.t (.t (.t (.t (.t (.t (.t (.t .h))))))))))))))) rfl (.rd (.t (.t (.t (.t (.t (.t (.t (.t (.t (.t (.t (.t (.t (.t (.t (.t .h)))))))))))))))) rfl (.rd (.t (.t (.t (.t (.t (.t (.t (.t (.t (.t (.t (.t (.t (.t (.t (.t (.t .h))))))))))))))))) rfl .nil)))))))))))))))))))⟩
    rw [hg31]
    try rw [hg31] at hF; dsimp only [cond_true, cond_false] at hF
    refine C_on (t := 80) rfl rfl rfl ?_
    refine C_val (V_fieldAddr (off := 10) fd55_8 (.tmp rfl rfl)) ?_
    refine C_on (t := 80) rfl rfl rfl ?_
    refine C_at (.t .h) (fun hp => V_load (v := (.int .i64 a_a.Spent)) ag3 (.tmp rfl rfl) hp.2 rfl rfl) ?_
    refine C_on (t := 80) rfl rfl rfl ?_
    refine C_val (V_fieldAddr (off := 10) fd55_8 (.tmp rfl rfl)) ?_
    refine C_on (t := 80) rfl rfl rfl ?_
    refine C_at .h (fun hp => V_load (v := (.int .i64 a_b.Spent)) ag3 (.tmp rfl rfl) hp.2 rfl rfl) ?_
    refine C_on (t := 80) rfl rfl rfl ?_
    refine C_val (V_neq (i := a_a.Spent) (j := a_b.Spent) (.tmp rfl rfl) (.tmp rfl rfl)) ?_
    refine C_val (V_pick (b := false) (u := (.bool true)) (v := (.bool ((a_a.Spent : Int) != a_b.Spent))) (.tmp rfl rfl) (.bool _) (.tmp rfl rfl)) ?_
    refine C_val (V_move (v := (.bool ((a_a.Spent : Int) != a_b.Spent))) (.tmp rfl rfl)) ?_
    rcases Bool.eq_false_or_eq_true ((a_a.Spent : Int) != a_b.Spent) with hg32 | hg32
    · rw [hg32]
      try rw [hg32] at hF; dsimp only [cond_true, cond_false] at hF
      refine C_off (t := 87) rfl rfl rfl ?_
      refine C_off (t := 87) rfl rfl rfl ?_
      refine C_off (t := 87) rfl rfl rfl ?_
      refine C_off (t := 87) rfl rfl rfl ?_
      refine C_off (t := 87) rfl rfl rfl ?_
      refine C_off (t := 87) rfl rfl rfl ?_
      refine C_off (t := 87) rfl rfl rfl ?_
      refine C_val (V_pick (b := true) (u := (.bool true)) (v := undef) (.tmp rfl rfl) (.bool _) (.tmp rfl rfl)) ?_
      refine C_nil ?_
      obtain rfl := Option.some.inj hF
      exact ⟨_, _, rfl, (EqL.cons rfl (EqL.cons rfl (EqL.cons rfl (EqL.nil)))).eq, (.sel (.rd (.t .h) rfl (.rd (.t (.t .h)) rfl (.rd (.t (.t (.t .h))) rfl (.rd (.t (.t (.t (.t .h)))) rfl (.rd (.t (.t (.t (.t (.t .h))))) rfl (.rd (.t (.t (.t (.t (.t (.t .h)))))) rfl (.rd (.t (.t (.t (.t (.t (.t (.t .h))))))) rfl (.rd (.t (.t (.t (.t (.t (.t (.t (.t .h)))))))) rfl (.rd (.t (.t (.t (.t (.t (.t (.t (.t (.t .h))))))))) rfl (.rd .h rfl (.rd (.t (.t (.t (.t (.t (.t (.t (.t (.t (.t .h)))))))))) rfl (.rd (.t (.t (.t (.t (.t (.t (.t (.t (.t (.t (.t .h))))))))))) rfl (.rd (.t (.t (.t (.t (.t (.t (.t (.t (.t (.t (.t (.t .h)))))))))))) rfl (.rd (.t (.t (.t (.t (.t (.t (.t (.t (.t (.t (.t (.t (.t .h))))))))))))) rfl (.rd (.t (.t (.t (.t (.t (.t (.t (.t (.t (.t (.t (.t (.t (.t .h)))))))))))))) rfl (.rd (.t (.t (.t (.t (.t (.t (.t (.t (.t (.t (.t (.t (.t (.t (.t .h))))))))))))))) rfl (.rd (.t (.t (.t (.t (.t (.t (.t (.t (.t (.t (.t (.t (.t (.t (.t (.t .h)))))))))))))))) rfl (.rd (.t (.t (.t (.t (.t (.t (.t (.t (.t (.t (.t (.t (.t (.t (.t (.t (.t .h))))))))))))))))) rfl .nil)))))))))))))))))))⟩
    rw [hg32]
    try rw [hg32] at hF; dsimp only [cond_true, cond_false] at hF
    refine C_on (t := 87) rfl rfl rfl ?_
    refine C_val (V_fieldAddr (off := 11) fd55_9 (.tmp rfl rfl)) ?_
    refine C_on (t := 87) rfl rfl rfl ?_
    refine C_at (.t .h) (fun hp => V_load (v := v0_11.v) ag53 (.tmp rfl rfl) hp.2 rfl rfl) ?_
    refine C_on (t := 87) rfl rfl rfl ?_
    refine C_at (.t (.t (.t (.t (.t (.t (.t (.t (.t .h))))))))) (fun hp => V_lenR (l := a_a.Results.length) sl53 (.tmp rfl rfl) (crd_len hp)) ?_
    refine C_on (t := 87) rfl rfl rfl ?_
    refine C_val (V_fieldAddr (off := 11) fd55_9 (.tmp rfl rfl)) ?_
    refine C_on (t := 87) rfl rfl rfl ?_
    refine C_at .h (fun hp => V_load (v := v1_11.v) ag53 (.tmp rfl rfl) hp.2 rfl rfl) ?_
    refine C_on (t := 87) rfl rfl rfl ?_
    refine C_at (.t (.t (.t (.t (.t (.t (.t (.t (.t (.t (.t (.t (.t (.t (.t (.t (.t .h))))))))))))))))) (fun hp => V_lenR (l := a_b.Results.length) sl53 (.tmp rfl rfl) (crd_len hp)) ?_
    refine C_on (t := 87) rfl rfl rfl ?_
    refine C_val (V_neq (i := (a_a.Results.length : Int)) (j := (a_b.Results.length : Int)) (.tmp rfl rfl) (.tmp rfl rfl)) ?_
    refine C_val (V_pick (b := false) (u := (.bool true)) (v := (.bool (((a_a.Results.length : Int) : Int) != (a_b.Results.length : Int)))) (.tmp rfl rfl) (.bool _) (.tmp rfl rfl)) ?_
    refine C_nil ?_
    obtain rfl := Option.some.inj hF
    exact ⟨_, _, rfl, (EqL.cons rfl (EqL.cons rfl (EqL.cons rfl (EqL.nil)))).eq, (.sel (.rd (.t .h) rfl (.rd (.t (.t .h)) rfl (.rd (.t (.t (.t .h))) rfl (.rd (.t (.t (.t (.t .h)))) rfl (.rd (.t (.t (.t (.t (.t .h))))) rfl (.rd (.t (.t (.t (.t (.t (.t .h)))))) rfl (.rd (.t (.t (.t (.t (.t (.t (.t .h))))))) rfl (.rd (.t (.t (.t (.t (.t (.t (.t (.t .h)))))))) rfl (.rd (.t (.t (.t (.t (.t (.t (.t (.t (.t .h))))))))) rfl (.rd .h rfl (.rd (.t (.t (.t (.t (.t (.t (.t (.t (.t (.t .h)))))))))) rfl (.rd (.t (.t (.t (.t (.t (.t (.t (.t (.t (.t (.t .h))))))))))) rfl (.rd (.t (.t (.t (.t (.t (.t (.t (.t (.t (.t (.t (.t .h)))))))))))) rfl (.rd (.t (.t (.t (.t (.t (.t (.t (.t (.t (.t (.t (.t (.t .h))))))))))))) rfl (.rd (.t (.t (.t (.t (.t (.t (.t (.t (.t (.t (.t (.t (.t (.t .h)))))))))))))) rfl (.rd (.t (.t (.t (.t (.t (.t (.t (.t (.t (.t (.t (.t (.t (.t (.t .h))))))))))))))) rfl (.rd (.t (.t (.t (.t (.t (.t (.t (.t (.t (.t (.t (.t (.t (.t (.t (.t .h)))))))))))))))) rfl (.rd (.t (.t (.t (.t (.t (.t (.t (.t (.t (.t (.t (.t (.t (.t (.t (.t (.t .h))))))))))))))))) rfl .nil)))))))))))))))))))⟩
  rintro _ _ ⟨c33, g111, rfl, rfl, hE⟩
  replace hF := hO4
  clear hO4
  try dsimp only at hF
  refine K_ent hE ?_
  refine CW_cond (b := c33) (.tmp rfl rfl) (fun hb110 => ?_) (fun hb110 => ?_)
  · rw [if_pos hb110] at hF
    refine K_region ?_
    refine C_val (V_assign (v := (.bool false)) (.bool _)) ?_
    refine C_nil ?_
    refine CW_ret ?_
    obtain rfl := Option.some.inj hF
    exact End_ret () (.tmp rfl rfl .nil) rfl (.sel .nil)
  rw [if_neg (by rw [hb110]; exact Bool.false_ne_true)] at hF
  refine CW_skip ?_
  refine K_in ?_
  refine K_region ?_
  refine C_val (V_assign (v := (.int .i64 0)) (.int _ _)) ?_
  refine C_nil ?_
  refine CW_block ?_
  refine CW_loop (m := a_a.Rules.length) (fun m35 f' cs' => ∃ (g : Fr) (k37 : Nat) (rest38 : List Rule), m35 = rest38.length ∧ f' = updL g [(2, (.pointer (some ⟨k1, 0, some 0⟩))), (3, (.pointer (some ⟨k2, 0, some 0⟩))), (5, (.int .i64 (k37 : Int)))] ∧ List.drop k37 a_a.Rules = rest38 ∧ Ent cs' [cboR k1 55 (.agg [v0_0.v, v0_1.v, v0_2.v, v0_3.v, (.int .i64 a_a.Source.Version), v0_5.v, (.int .i64 a_a.Cache.Age), (.int .i64 a_a.Now), v0_8.v, v0_9.v, (.int .i64 a_a.Spent), v0_11.v].toArray), crd (RdS 3 rdInt) v0_0.v a_a.Schema, crd (RdS 101 rd101) v0_1.v a_a.Methods, crd (RdS 126 rd126) v0_2.v a_a.Rules, crd (RdS 157 rd157) v0_3.v a_a.Source.Facts, crd (RdS 159 rd159) v0_5.v a_a.Cache.Entries, crd (RdS 100 rd100) v0_8.v a_a.Log, crd (RdS 3 rdInt) v0_9.v a_a.Times, crd (RdS 128 (RdS 45 (RdS 3 rdInt))) v0_11.v a_a.Results, cboR k2 55 (.agg [v1_0.v, v1_1.v, v1_2.v, v1_3.v, (.int .i64 a_b.Source.Version), v1_5.v, (.int .i64 a_b.Cache.Age), (.int .i64 a_b.Now), v1_8.v, v1_9.v, (.int .i64 a_b.Spent), v1_11.v].toArray), crd (RdS 3 rdInt) v1_0.v a_b.Schema, crd (RdS 101 rd101) v1_1.v a_b.Methods, crd (RdS 126 rd126) v1_2.v a_b.Rules, crd (RdS 157 rd157) v1_3.v a_b.Source.Facts, crd (RdS 159 rd159) v1_5.v a_b.Cache.Entries, crd (RdS 100 rd100) v1_8.v a_b.Log, crd (RdS 3 rdInt) v1_9.v a_b.Times, crd (RdS 128 (RdS 45 (RdS 3 rdInt))) v1_11.v a_b.Results] ∧ s_EqualMediators_L1 a_a a_b rest38 k37 = some R) ⟨_, 0, _, rfl, (EqL.cons rfl (EqL.cons rfl (EqL.cons rfl (EqL.nil)))).eq, rfl, (.sel (.rd .h rfl (.rd (.t .h) rfl (.rd (.t (.t .h)) rfl (.rd (.t (.t (.t .h))) rfl (.rd (.t (.t (.t (.t .h)))) rfl (.rd (.t (.t (.t (.t (.t .h))))) rfl (.rd (.t (.t (.t (.t (.t (.t .h)))))) rfl (.rd (.t (.t (.t (.t (.t (.t (.t .h))))))) rfl (.rd (.t (.t (.t (.t (.t (.t (.t (.t .h)))))))) rfl (.rd (.t (.t (.t (.t (.t (.t (.t (.t (.t .h))))))))) rfl (.rd (.t (.t (.t (.t (.t (.t (.t (.t (.t (.t .h)))))))))) rfl (.rd (.t (.t (.t (.t (.t (.t (.t (.t (.t (.t (.t .h))))))))))) rfl (.rd (.t (.t (.t (.t (.t (.t (.t (.t (.t (.t (.t (.t .h)))))))))))) rfl (.rd (.t (.t (.t (.t (.t (.t (.t (.t (.t (.t (.t (.t (.t .h))))))))))))) rfl (.rd (.t (.t (.t (.t (.t (.t (.t (.t (.t (.t (.t (.t (.t (.t .h)))))))))))))) rfl (.rd (.t (.t (.t (.t (.t (.t (.t (.t (.t (.t (.t (.t (.t (.t (.t .h))))))))))))))) rfl (.rd (.t (.t (.t (.t (.t (.t (.t (.t (.t (.t (.t (.t (.t (.t (.t (.t .h)))))))))))))))) rfl (.rd (.t (.t (.t (.t (.t (.t (.t (.t (.t (.t (.t (.t (.t (.t (.t (.t (.t .h))))))))))))))))) rfl .nil))))))))))))))))))), hF⟩ ?_
  clear hF
  rintro m35 _ _ ⟨g36, k37, rest38, rfl, rfl, hd40, hE, hF⟩
  refine K_ent hE ?_
  clear hE
  refine K_pure (c := crd (RdS 126 rd126) v0_2.v a_a.Rules) (.t (.t (.t .h))) crd_bound (fun hbd45 => ?_)
  rcases rest38 with _ | ⟨x39, rest38⟩
  · have hk41 := List.drop_eq_nil_iff.1 hd40
    have hfe44 : (decide (((k37 : Int) : Int) < (a_a.Rules.length : Int))) = false := decide_eq_false (by omega)
    rw [s_EqualMediators_L1] at hF
    refine K_in ?_
    refine K_region ?_
    refine C_val (V_move (v := (.int .i64 (k37 : Int))) (.tmp rfl rfl)) ?_
    refine C_val (V_fieldAddr (off := 2) fd55_2 (.tmp rfl rfl)) ?_
    refine C_at .h (fun hp => V_load (v := v0_2.v) ag46 (.tmp rfl rfl) hp.2 rfl rfl) ?_
    refine C_at (.t (.t (.t .h))) (fun hp => V_lenR (l := a_a.Rules.length) sl46 (.tmp rfl rfl) (crd_len hp)) ?_
    refine C_val (V_lss (i := (k37 : Int)) (j := (a_a.Rules.length : Int)) (.tmp rfl rfl) (.tmp rfl rfl)) ?_
    refine C_nil ?_
    refine CW_cond (b := (decide (((k37 : Int) : Int) < (a_a.Rules.length : Int)))) (.tmp rfl rfl) (fun hb => absurd (hfe44.symm.trans hb) (by decide)) (fun _ => ?_)
    refine CW_exit ?_
    refine CThen_exit ?_
    refine CThen_exit ?_
    refine CIn_self ?_
    refine K_in ?_
    refine K_region ?_
    refine C_val (V_assign (v := (.int .i64 0)) (.int _ _)) ?_
    refine C_nil ?_
    refine CW_block ?_
    refine CW_loop (m := a_a.Results.length) (fun m47 f' cs' => ∃ (g : Fr) (k49 : Nat) (rest50 : List (List (List Int))), m47 = rest50.length ∧ f' = updL g [(2, (.pointer (some ⟨k1, 0, some 0⟩))), (3, (.pointer (some ⟨k2, 0, some 0⟩))), (6, (.int .i64 (k49 : Int)))] ∧ List.drop k49 a_a.Results = rest50 ∧ Ent cs' [cboR k1 55 (.agg [v0_0.v, v0_1.v, v0_2.v, v0_3.v, (.int .i64 a_a.Source.Version), v0_5.v, (.int .i64 a_a.Cache.Age), (.int .i64 a_a.Now), v0_8.v, v0_9.v, (.int .i64 a_a.Spent), v0_11.v].toArray), crd (RdS 3 rdInt) v0_0.v a_a.Schema, crd (RdS 101 rd101) v0_1.v a_a.Methods, crd (RdS 126 rd126) v0_2.v a_a.Rules, crd (RdS 157 rd157) v0_3.v a_a.Source.Facts, crd (RdS 159 rd159) v0_5.v a_a.Cache.Entries, crd (RdS 100 rd100) v0_8.v a_a.Log, crd (RdS 3 rdInt) v0_9.v a_a.Times, crd (RdS 128 (RdS 45 (RdS 3 rdInt))) v0_11.v a_a.Results, cboR k2 55 (.agg [v1_0.v, v1_1.v, v1_2.v, v1_3.v, (.int .i64 a_b.Source.Version), v1_5.v, (.int .i64 a_b.Cache.Age), (.int .i64 a_b.Now), v1_8.v, v1_9.v, (.int .i64 a_b.Spent), v1_11.v].toArray), crd (RdS 3 rdInt) v1_0.v a_b.Schema, crd (RdS 101 rd101) v1_1.v a_b.Methods, crd (RdS 126 rd126) v1_2.v a_b.Rules, crd (RdS 157 rd157) v1_3.v a_b.Source.Facts, crd (RdS 159 rd159) v1_5.v a_b.Cache.Entries, crd (RdS 100 rd100) v1_8.v a_b.Log, crd (RdS 3 rdInt) v1_9.v a_b.Times, crd (RdS 128 (RdS 45 (RdS 3 rdInt))) v1_11.v a_b.Results] ∧ s_EqualMediators_L2 a_b rest50 k49 = some R) ⟨_, 0, _, rfl, (EqL.cons rfl (EqL.cons rfl (EqL.cons rfl (EqL.nil)))).eq, rfl, (.sel (.rd .h rfl (.rd (.t .h) rfl (.rd (.t (.t .h)) rfl (.rd (.t (.t (.t .h))) rfl (.rd (.t (.t (.t (.t .h)))) rfl (.rd (.t (.t (.t (.t (.t .h))))) rfl (.rd (.t (.t (.t (.t (.t (.t .h)))))) rfl (.rd (.t (.t (.t (.t (.t (.t (.t .h))))))) rfl (.rd (.t (.t (.t (.t (.t (.t (.t (.t .h)))))))) rfl (.rd (.t (.t (.t (.t (.t (.t (.t (.t (.t .h))))))))) rfl (.rd (.t (.t (.t (.t (.t (.t (.t (.t (.t (.t .h)))))))))) rfl (.rd (.t (.t (.t (.t (.t (.t (.t (.t (.t (.t (.t .h))))))))))) rfl (.rd (.t (.t (.t (.t (.t (.t (.t (.t (.t (.t (.t (.t .h)))))))))))) rfl (.rd (.t (.t (.t (.t (.t (.t (.t (.t (.t (.t (.t (.t (.t .h))))))))))))) rfl (.rd (.t (.t (.t (.t (.t (.t (.t (.t (.t (.t (.t (.t (.t (.t .h)))))))))))))) rfl (.rd (.t (.t (.t (.t (.t (.t (.t (.t (.t (.t (.t (.t (.t (.t (.t .h))))))))))))))) rfl (.rd (.t (.t (.t (.t (.t (.t (.t (.t (.t (.t (.t (.t (.t (.t (.t (.t .h)))))))))))))))) rfl (.rd (.t (.t (.t (.t (.t (.t (.t (.t (.t (.t (.t (.t (.t (.t (.t (.t (.t .h))))))))))))))))) rfl .nil))))))))))))))))))), hF⟩ ?_
    clear hF
    rintro m47 _ _ ⟨g48, k49, rest50, rfl, rfl, hd52, hE, hF⟩
    refine K_ent hE ?_
    clear hE
    refine K_pure (c := crd (RdS 128 (RdS 45 (RdS 3 rdInt))) v0_11.v a_a.Results) (.t (.t (.t (.t (.t (.t (.t (.t .h)))))))) crd_bound (fun hbd57 => ?_)
    rcases rest50 with _ | ⟨x51, rest50⟩
    · have hk53 := List.drop_eq_nil_iff.1 hd52
      have hfe56 : (decide (((k49 : Int) : Int) < (a_a.Results.length : Int))) = false := decide_eq_false (by omega)
      rw [s_EqualMediators_L2] at hF
      refine K_in ?_
      refine K_region ?_
      refine C_val (V_move (v := (.int .i64 (k49 : Int))) (.tmp rfl rfl)) ?_
      refine C_val (V_fieldAddr (off := 11) fd55_9 (.tmp rfl rfl)) ?_
      refine C_at .h (fun hp => V_load (v := v0_11.v) ag53 (.tmp rfl rfl) hp.2 rfl rfl) ?_
      refine C_at (.t (.t (.t (.t (.t (.t (.t (.t .h)))))))) (fun hp => V_lenR (l := a_a.Results.length) sl53 (.tmp rfl rfl) (crd_len hp)) ?_
      refine C_val (V_lss (i := (k49 : Int)) (j := (a_a.Results.length : Int)) (.tmp rfl rfl) (.tmp rfl rfl)) ?_
      refine C_nil ?_
      refine CW_cond (b := (decide (((k49 : Int) : Int) < (a_a.Results.length : Int)))) (.tmp rfl rfl) (fun hb => absurd (hfe56.symm.trans hb) (by decide)) (fun _ => ?_)
      refine CW_exit ?_
      refine CThen_exit ?_
      refine CThen_exit ?_
      refine CIn_self ?_
      refine K_region ?_
      refine C_val (V_assign (v := (.bool true)) (.bool _)) ?_
      refine C_nil ?_
      refine CW_ret ?_
      obtain rfl := Option.some.inj hF
      exact End_ret () (.tmp rfl rfl .nil) rfl (.sel .nil)
    obtain ⟨hk53, hx54, hd55⟩ := drop_cons hd52
    have hfe56 : (decide (((k49 : Int) : Int) < (a_a.Results.length : Int))) = true := decide_eq_true (by omega)
    rw [s_EqualMediators_L2] at hF
    refine K_in ?_
    refine K_region ?_
    refine C_val (V_move (v := (.int .i64 (k49 : Int))) (.tmp rfl rfl)) ?_
    refine C_val (V_fieldAddr (off := 11) fd55_9 (.tmp rfl rfl)) ?_
    refine C_at .h (fun hp => V_load (v := v0_11.v) ag53 (.tmp rfl rfl) hp.2 rfl rfl) ?_
    refine C_at (.t (.t (.t (.t (.t (.t (.t (.t .h)))))))) (fun hp => V_lenR (l := a_a.Results.length) sl53 (.tmp rfl rfl) (crd_len hp)) ?_
    refine C_val (V_lss (i := (k49 : Int)) (j := (a_a.Results.length : Int)) (.tmp rfl rfl) (.tmp rfl rfl)) ?_
    refine C_nil ?_
    refine CW_cond (b := (decide (((k49 : Int) : Int) < (a_a.Results.length : Int)))) (.tmp rfl rfl) (fun _ => ?_) (fun hb => absurd (hfe56.symm.trans hb) (by decide))
    refine CW_skip ?_
    refine K_block ?_
    refine K_draw [0, 1, 2, 3, 4, 5, 6, 7, 8, 9, 10, 11] [0, 1, 0, 7, 15, 0, 32, 0, 224, 480, 1023, 2047] [10] mixed (by decide +kernel) ?_
    refine D_val rfl .no (fun ha => V_fieldAddr (off := 11) fd55_9 (EN ha (.tmp rfl rfl) rfl)) ?_
    refine D_at rfl .no .h rfl (fun ha hp => V_load (v := v0_11.v) ag53 (EN ha (.tmp rfl rfl) rfl) hp.2 rfl rfl) ?_
    refine D_val rfl .no (fun ha => V_move (v := (.int .i64 (k49 : Int))) (EN ha (.tmp rfl rfl) rfl)) ?_
    refine D_idx (a := x51) sl53 ty128.sz rfl .no (.tmp rfl rfl) (.tmp rfl rfl) rfl rfl (.t (.t (.t (.t (.t (.t (.t (.t .h)))))))) (Int.natCast_nonneg k49) hx54 (fun k58 j59 => ?_)
    refine D_ldV (R' := (RdS 45 (RdS 3 rdInt))) ag128 rfl .no (.tmp rfl rfl) rfl .h lv128_0 (fun w60 => ?_)
    refine D_val rfl .no (fun ha => V_fieldAddr (off := 11) fd55_9 (EN ha (.tmp rfl rfl) rfl)) ?_
    refine D_at rfl .no (.t (.t (.t (.t (.t (.t (.t (.t (.t (.t (.t .h))))))))))) rfl (fun ha hp => V_load (v := v1_11.v) ag53 (EN ha (.tmp rfl rfl) rfl) hp.2 rfl rfl) ?_
    refine D_val rfl .no (fun ha => V_move (v := (.int .i64 (k49 : Int))) (EN ha (.tmp rfl rfl) rfl)) ?_
    obtain ⟨x61, hx62, hF⟩ := bind_some hF
    obtain ⟨hp63, hx64⟩ := ix_some hx62
    refine D_idx (a := x61) sl53 ty128.sz rfl .no (.tmp rfl rfl) (.tmp rfl rfl) rfl rfl (.t (.t (.t (.t (.t (.t (.t (.t (.t (.t (.t (.t (.t (.t (.t (.t (.t (.t (.t .h))))))))))))))))))) hp63 hx64 (fun k65 j66 => ?_)
    refine D_ldV (R' := (RdS 45 (RdS 3 rdInt))) ag128 rfl .no (.tmp rfl rfl) rfl .h lv128_0 (fun w67 => ?_)
    obtain ⟨r68, hx69, hF⟩ := bind_some hF
    refine D_act0 rfl rfl .no (.rd (.t (.t .h)) rfl (.rd .h rfl .nil)) .nil (fun ha => X_callS cf91 (.cons (EN ha (.tmp rfl rfl) rfl) (.cons (EN ha (.tmp rfl rfl) rfl) .nil)) (s_SameTuples_ok x51 w60 x61 w67 _ hx69)) (fun _ => ?_)
    refine D_val rfl .no (fun ha => V_not (b := r68) (EN ha (.tmp rfl rfl) rfl)) ?_
    refine D_nil ?_
    refine CW_cond (b := (!r68)) (.tmp rfl rfl) (fun hb72 => ?_) (fun hb72 => ?_)
    · rw [if_pos hb72] at hF
      refine K_region ?_
      refine C_val (V_assign (v := (.bool false)) (.bool _)) ?_
      refine C_nil ?_
      refine CW_ret ?_
      obtain rfl := Option.some.inj hF
      exact End_ret () (.tmp rfl rfl .nil) rfl (.sel .nil)
    rw [if_neg (by rw [hb72]; exact Bool.false_ne_true)] at hF
    refine CW_skip ?_
    refine CW_region ?_
    refine C_val (V_move (v := (.int .i64 (k49 : Int))) (.tmp rfl rfl)) ?_
    refine C_val (V_add (i := (k49 : Int)) (j := 1) (.tmp rfl rfl) (.int _ _)) ?_
    refine C_val (V_assign (v := (.int .i64 (IntKind.i64.wrap ((k49 : Int) + 1)))) (.tmp rfl rfl)) ?_
    refine C_nil ?_
    have hw71 : IntKind.i64.wrap ((k49 : Int) + 1) = ((k49 + 1 : Nat) : Int) := by rw [wrap_in (by omega) (by omega)]; rfl
    rw [hw71]
    exact ⟨_, Nat.lt_succ_self _, _, k49 + 1, rest50, rfl, (EqL.cons rfl (EqL.cons rfl (EqL.cons rfl (EqL.nil)))).eq, hd55, (.sel (.rd (.t (.t (.t (.t .h)))) rfl (.rd (.t (.t (.t (.t (.t .h))))) rfl (.rd (.t (.t (.t (.t (.t (.t .h)))))) rfl (.rd (.t (.t (.t (.t (.t (.t (.t .h))))))) rfl (.rd (.t (.t (.t (.t (.t (.t (.t (.t .h)))))))) rfl (.rd (.t (.t (.t (.t (.t (.t (.t (.t (.t .h))))))))) rfl (.rd (.t (.t (.t (.t (.t (.t (.t (.t (.t (.t .h)))))))))) rfl (.rd (.t (.t (.t (.t (.t (.t (.t (.t (.t (.t (.t .h))))))))))) rfl (.rd (.t (.t (.t (.t (.t (.t (.t (.t (.t (.t (.t (.t .h)))))))))))) rfl (.rd (.t (.t (.t (.t (.t (.t (.t (.t (.t (.t (.t (.t (.t .h))))))))))))) rfl (.rd (.t (.t (.t (.t (.t (.t (.t (.t (.t (.t (.t (.t (.t (.t .h)))))))))))))) rfl (.rd (.t (.t (.t (.t (.t (.t (.t (.t (.t (.t (.t (.t (.t (.t (.t .h))))))))))))))) rfl (.rd (.t (.t (.t (.t (.t (.t (.t (.t (.t (.t (.t (.t (.t (.t (.t (.t .h)))))))))))))))) rfl (.rd (.t (.t (.t (.t (.t (.t (.t (.t (.t (.t (.t (.t (.t (.t (.t (.t (.t .h))))))))))))))))) rfl (.rd (.t (.t (.t (.t (.t (.t (.t (.t (.t (.t (.t (.t (.t (.t (.t (.t (.t (.t .h)))))))))))))))))) rfl (.rd (.t (.t (.t (.t (.t (.t (.t (.t (.t (.t (.t (.t (.t (.t (.t (.t (.t (.t (.t .h))))))))))))))))))) rfl (.rd (.t (.t (.t (.t (.t (.t (.t (.t (.t (.t (.t (.t (.t (.t (.t (.t (.t (.t (.t (.t .h)))))))))))))))))))) rfl (.rd (.t (.t (.t (.t (.t (.t (.t (.t (.t (.t (.t (.t (.t (.t (.t (.t (.t (.t (.t (.t (.t .h))))))))))))))))))))) rfl .nil))))))))))))))))))), hF⟩
  obtain ⟨hk41, hx42, hd43⟩ := drop_cons hd40
  have hfe44 : (decide (((k37 : Int) : Int) < (a_a.Rules.length : Int))) = true := decide_eq_true (by omega)
  rw [s_EqualMediators_L1] at hF
  refine K_in ?_
  refine K_region ?_
  refine C_val (V_move (v := (.int .i64 (k37 : Int))) (.tmp rfl rfl)) ?_
  refine C_val (V_fieldAddr (off := 2) fd55_2 (.tmp rfl rfl)) ?_
  refine C_at .h (fun hp => V_load (v := v0_2.v) ag46 (.tmp rfl rfl) hp.2 rfl rfl) ?_
  refine C_at (.t (.t (.t .h))) (fun hp => V_lenR (l := a_a.Rules.length) sl46 (.tmp rfl rfl) (crd_len hp)) ?_
  refine C_val (V_lss (i := (k37 : Int)) (j := (a_a.Rules.length : Int)) (.tmp rfl rfl) (.tmp rfl rfl)) ?_
  refine C_nil ?_
  refine CW_cond (b := (decide (((k37 : Int) : Int) < (a_a.Rules.length : Int)))) (.tmp rfl rfl) (fun _ => ?_) (fun hb => absurd (hfe44.symm.trans hb) (by decide))
  refine CW_skip ?_
  refine K_block ?_
  obtain ⟨o73, hio73, hO74⟩ := bind_some hF
  refine K_draw [0, 1, 2, 3, 4, 5, 6, 7, 8, 9, 10, 11, 12, 13, 14, 15, 16, 17, 18, 19, 20, 21, 22, 23, 24, 25, 26, 27, 28, 29, 30, 31, 32, 33, 34, 35, 36, 37, 38, 39, 40, 41, 42, 43] [0, 1, 0, 7, 15, 31, 0, 64, 0, 448, 960, 1984, 4095, 8191, 16383, 32767, 16383, 131071, 262143, 524287, 16383, 1064959, 16383, 7356415, 15745023, 32522239, 67108863, 134217727, 268435455, 536870911, 1073741823, 536870911, 4294967295, 8589934591, 17179869183, 536870911, 34896609279, 536870911, 241055039487, 515932946431, 1065688760319, 2199023255551, 4398046511103, 8796093022207] [41] mixed (by decide +kernel) ?_
  refine D_cut (fun f' cs' => ∃ (c106 : Bool) (g : Fr), c106 = o73 ∧ f' = updL g [(2, (.pointer (some ⟨k1, 0, some 0⟩))), (3, (.pointer (some ⟨k2, 0, some 0⟩))), (5, (.int .i64 (k37 : Int))), (146, (.bool c106))] ∧ Ent cs' [cboR k1 55 (.agg [v0_0.v, v0_1.v, v0_2.v, v0_3.v, (.int .i64 a_a.Source.Version), v0_5.v, (.int .i64 a_a.Cache.Age), (.int .i64 a_a.Now), v0_8.v, v0_9.v, (.int .i64 a_a.Spent), v0_11.v].toArray), crd (RdS 3 rdInt) v0_0.v a_a.Schema, crd (RdS 101 rd101) v0_1.v a_a.Methods, crd (RdS 126 rd126) v0_2.v a_a.Rules, crd (RdS 157 rd157) v0_3.v a_a.Source.Facts, crd (RdS 159 rd159) v0_5.v a_a.Cache.Entries, crd (RdS 100 rd100) v0_8.v a_a.Log, crd (RdS 3 rdInt) v0_9.v a_a.Times, crd (RdS 128 (RdS 45 (RdS 3 rdInt))) v0_11.v a_a.Results, cboR k2 55 (.agg [v1_0.v, v1_1.v, v1_2.v, v1_3.v, (.int .i64 a_b.Source.Version), v1_5.v, (.int .i64 a_b.Cache.Age), (.int .i64 a_b.Now), v1_8.v, v1_9.v, (.int .i64 a_b.Spent), v1_11.v].toArray), crd (RdS 3 rdInt) v1_0.v a_b.Schema, crd (RdS 101 rd101) v1_1.v a_b.Methods, crd (RdS 126 rd126) v1_2.v a_b.Rules, crd (RdS 157 rd157) v1_3.v a_b.Source.Facts, crd (RdS 159 rd159) v1_5.v a_b.Cache.Entries, crd (RdS 100 rd100) v1_8.v a_b.Log, crd (RdS 3 rdInt) v1_9.v a_b.Times, crd (RdS 128 (RdS 45 (RdS 3 rdInt))) v1_11.v a_b.Results]) ?_ ?_
  · replace hF := hio73
    refine D_val rfl .no (fun ha => V_fieldAddr (off := 2) fd55_2 (EN ha (.tmp rfl rfl) rfl)) ?_
    refine D_at rfl .no .h rfl (fun ha hp => V_load (v := v0_2.v) ag46 (EN ha (.tmp rfl rfl) rfl) hp.2 rfl rfl) ?_
    refine D_val rfl .no (fun ha => V_move (v := (.int .i64 (k37 : Int))) (EN ha (.tmp rfl rfl) rfl)) ?_
    refine D_idx (a := x39) sl46 ty126.sz rfl .no (.tmp rfl rfl) (.tmp rfl rfl) rfl rfl (.t (.t (.t .h))) (Int.natCast_nonneg k37) hx42 (fun k75 j76 => ?_)
    refine D_val rfl .no (fun ha => V_fieldAddr (off := 0) fd126_0 (EN ha (.tmp rfl rfl) rfl)) ?_
    refine D_ldS (w := (.int .i64 x39.From)) ag3 rfl .no (.tmp rfl rfl) rfl .h ls126_0 ?_
    refine D_val rfl .no (fun ha => V_fieldAddr (off := 2) fd55_2 (EN ha (.tmp rfl rfl) rfl)) ?_
    refine D_at rfl .no (.t (.t (.t (.t (.t (.t (.t (.t (.t (.t .h)))))))))) rfl (fun ha hp => V_load (v := v1_2.v) ag46 (EN ha (.tmp rfl rfl) rfl) hp.2 rfl rfl) ?_
    refine D_val rfl .no (fun ha => V_move (v := (.int .i64 (k37 : Int))) (EN ha (.tmp rfl rfl) rfl)) ?_
    obtain ⟨x77, hx78, hF⟩ := bind_some hF
    obtain ⟨hp79, hx80⟩ := ix_some hx78
    refine D_idx (a := x77) sl46 ty126.sz rfl .no (.tmp rfl rfl) (.tmp rfl rfl) rfl rfl (.t (.t (.t (.t (.t (.t (.t (.t (.t (.t (.t (.t (.t .h))))))))))))) hp79 hx80 (fun k81 j82 => ?_)
    refine D_val rfl .no (fun ha => V_fieldAddr (off := 0) fd126_0 (EN ha (.tmp rfl rfl) rfl)) ?_
    refine D_ldS (w := (.int .i64 x77.From)) ag3 rfl .no (.tmp rfl rfl) rfl .h ls126_0 ?_
    refine D_val rfl .no (fun ha => V_neq (i := x39.From) (j := x77.From) (EN ha (.tmp rfl rfl) rfl) (EN ha (.tmp rfl rfl) rfl)) ?_
    refine D_val rfl .no (fun ha => V_move (v := (.bool ((x39.From : Int) != x77.From))) (EN ha (.tmp rfl rfl) rfl)) ?_
    rcases Bool.eq_false_or_eq_true ((x39.From : Int) != x77.From) with hg83 | hg83
    · rw [hg83]
      try rw [hg83] at hF; dsimp only [cond_true, cond_false] at hF
      refine D_off 116 rfl rfl rfl rfl ?_
      refine D_off 116 rfl rfl rfl rfl ?_
      refine D_off 116 rfl rfl rfl rfl ?_
      refine D_off 116 rfl rfl rfl rfl ?_
      refine D_off 116 rfl rfl rfl rfl ?_
      refine D_off 116 rfl rfl rfl rfl ?_
      refine D_off 116 rfl rfl rfl rfl ?_
      refine D_off 116 rfl rfl rfl rfl ?_
      refine D_off 116 rfl rfl rfl rfl ?_
      refine D_off 116 rfl rfl rfl rfl ?_
      refine D_off 116 rfl rfl rfl rfl ?_
      refine D_off 116 rfl rfl rfl rfl ?_
      refine D_off 116 rfl rfl rfl rfl ?_
      refine D_val rfl .no (fun ha => V_pick (b := true) (u := (.bool true)) (v := undef) (EN ha (.tmp rfl rfl) rfl) (EN ha (.bool _) rfl) (EN ha (.tmp rfl rfl) rfl)) ?_
      refine D_val rfl .no (fun ha => V_move (v := (.bool true)) (EN ha (.tmp rfl rfl) rfl)) ?_
      refine D_off 131 rfl rfl rfl rfl ?_
      refine D_off 131 rfl rfl rfl rfl ?_
      refine D_off 131 rfl rfl rfl rfl ?_
      refine D_off 131 rfl rfl rfl rfl ?_
      refine D_off 131 rfl rfl rfl rfl ?_
      refine D_off 131 rfl rfl rfl rfl ?_
      refine D_off 131 rfl rfl rfl rfl ?_
      refine D_off 131 rfl rfl rfl rfl ?_
      refine D_off 131 rfl rfl rfl rfl ?_
      refine D_off 131 rfl rfl rfl rfl ?_
      refine D_off 131 rfl rfl rfl rfl ?_
      refine D_off 131 rfl rfl rfl rfl ?_
      refine D_off 131 rfl rfl rfl rfl ?_
      refine D_off 131 rfl rfl rfl rfl ?_
      refine D_val rfl .no (fun ha => V_pick (b := true) (u := (.bool true)) (v := undef) (EN ha (.tmp rfl rfl) rfl) (EN ha (.bool _) rfl) (EN ha (.tmp rfl rfl) rfl)) ?_
      refine D_nil ?_
      obtain rfl := Option.some.inj hF
      exact ⟨_, _, rfl, (EqL.cons rfl (EqL.cons rfl (EqL.cons rfl (EqL.cons rfl (EqL.nil))))).eq, (.sel (.rd (.t (.t .h)) rfl (.rd (.t (.t (.t .h))) rfl (.rd (.t (.t (.t (.t .h)))) rfl (.rd (.t (.t (.t (.t (.t .h))))) rfl (.rd (.t (.t (.t (.t (.t (.t .h)))))) rfl (.rd (.t (.t (.t (.t (.t (.t (.t .h))))))) rfl (.rd (.t (.t (.t (.t (.t (.t (.t (.t .h)))))))) rfl (.rd (.t (.t (.t (.t (.t (.t (.t (.t (.t .h))))))))) rfl (.rd (.t (.t (.t (.t (.t (.t (.t (.t (.t (.t .h)))))))))) rfl (.rd (.t (.t (.t (.t (.t (.t (.t (.t (.t (.t (.t .h))))))))))) rfl (.rd (.t (.t (.t (.t (.t (.t (.t (.t (.t (.t (.t (.t .h)))))))))))) rfl (.rd (.t (.t (.t (.t (.t (.t (.t (.t (.t (.t (.t (.t (.t .h))))))))))))) rfl (.rd (.t (.t (.t (.t (.t (.t (.t (.t (.t (.t (.t (.t (.t (.t .h)))))))))))))) rfl (.rd (.t (.t (.t (.t (.t (.t (.t (.t (.t (.t (.t (.t (.t (.t (.t .h))))))))))))))) rfl (.rd (.t (.t (.t (.t (.t (.t (.t (.t (.t (.t (.t (.t (.t (.t (.t (.t .h)))))))))))))))) rfl (.rd (.t (.t (.t (.t (.t (.t (.t (.t (.t (.t (.t (.t (.t (.t (.t (.t (.t .h))))))))))))))))) rfl (.rd (.t (.t (.t (.t (.t (.t (.t (.t (.t (.t (.t (.t (.t (.t (.t (.t (.t (.t .h)))))))))))))))))) rfl (.rd (.t (.t (.t (.t (.t (.t (.t (.t (.t (.t (.t (.t (.t (.t (.t (.t (.t (.t (.t .h))))))))))))))))))) rfl .nil)))))))))))))))))))⟩
    rw [hg83]
    try rw [hg83] at hF; dsimp only [cond_true, cond_false] at hF
    refine D_val rfl (.on 116 rfl rfl rfl) (fun ha => V_fieldAddr (off := 2) fd55_2 (EN ha (.tmp rfl rfl) rfl)) ?_
    refine D_at rfl (.on 116 rfl rfl rfl) (.t (.t .h)) rfl (fun ha hp => V_load (v := v0_2.v) ag46 (EN ha (.tmp rfl rfl) rfl) hp.2 rfl rfl) ?_
    refine D_val rfl (.on 116 rfl rfl rfl) (fun ha => V_move (v := (.int .i64 (k37 : Int))) (EN ha (.tmp rfl rfl) rfl)) ?_
    refine D_idx (a := x39) sl46 ty126.sz rfl (.on 116 rfl rfl rfl) (.tmp rfl rfl) (.tmp rfl rfl) rfl rfl (.t (.t (.t (.t (.t .h))))) (Int.natCast_nonneg k37) hx42 (fun k84 j85 => ?_)
    refine D_val rfl (.on 116 rfl rfl rfl) (fun ha => V_fieldAddr (off := 1) fd126_1 (EN ha (.tmp rfl rfl) rfl)) ?_
    refine D_ldS (w := (.int .i64 x39.To)) ag3 rfl (.on 116 rfl rfl rfl) (.tmp rfl rfl) rfl .h ls126_1 ?_
    refine D_val rfl (.on 116 rfl rfl rfl) (fun ha => V_fieldAddr (off := 2) fd55_2 (EN ha (.tmp rfl rfl) rfl)) ?_
    refine D_at rfl (.on 116 rfl rfl rfl) (.t (.t (.t (.t (.t (.t (.t (.t (.t (.t (.t (.t .h)))))))))))) rfl (fun ha hp => V_load (v := v1_2.v) ag46 (EN ha (.tmp rfl rfl) rfl) hp.2 rfl rfl) ?_
    refine D_val rfl (.on 116 rfl rfl rfl) (fun ha => V_move (v := (.int .i64 (k37 : Int))) (EN ha (.tmp rfl rfl) rfl)) ?_
    obtain ⟨x86, hx87, hF⟩ := bind_some hF
    obtain ⟨hp88, hx89⟩ := ix_some hx87
    refine D_idx (a := x86) sl46 ty126.sz rfl (.on 116 rfl rfl rfl) (.tmp rfl rfl) (.tmp rfl rfl) rfl rfl (.t (.t (.t (.t (.t (.t (.t (.t (.t (.t (.t (.t (.t (.t (.t .h))))))))))))))) hp88 hx89 (fun k90 j91 => ?_)
    refine D_val rfl (.on 116 rfl rfl rfl) (fun ha => V_fieldAddr (off := 1) fd126_1 (EN ha (.tmp rfl rfl) rfl)) ?_
    refine D_ldS (w := (.int .i64 x86.To)) ag3 rfl (.on 116 rfl rfl rfl) (.tmp rfl rfl) rfl .h ls126_1 ?_
    refine D_val rfl (.on 116 rfl rfl rfl) (fun ha => V_neq (i := x39.To) (j := x86.To) (EN ha (.tmp rfl rfl) rfl) (EN ha (.tmp rfl rfl) rfl)) ?_
    refine D_val rfl .no (fun ha => V_pick (b := false) (u := (.bool true)) (v := (.bool ((x39.To : Int) != x86.To))) (EN ha (.tmp rfl rfl) rfl) (EN ha (.bool _) rfl) (EN ha (.tmp rfl rfl) rfl)) ?_
    refine D_val rfl .no (fun ha => V_move (v := (.bool ((x39.To : Int) != x86.To))) (EN ha (.tmp rfl rfl) rfl)) ?_
    rcases Bool.eq_false_or_eq_true ((x39.To : Int) != x86.To) with hg92 | hg92
    · rw [hg92]
      try rw [hg92] at hF; dsimp only [cond_true, cond_false] at hF
      refine D_off 131 rfl rfl rfl rfl ?_
      refine D_off 131 rfl rfl rfl rfl ?_
      refine D_off 131 rfl rfl rfl rfl ?_
      refine D_off 131 rfl rfl rfl rfl ?_
      refine D_off 131 rfl rfl rfl rfl ?_
      refine D_off 131 rfl rfl rfl rfl ?_
      refine D_off 131 rfl rfl rfl rfl ?_
      refine D_off 131 rfl rfl rfl rfl ?_
      refine D_off 131 rfl rfl rfl rfl ?_
      refine D_off 131 rfl rfl rfl rfl ?_
      refine D_off 131 rfl rfl rfl rfl ?_
      refine D_off 131 rfl rfl rfl rfl ?_
      refine D_off 131 rfl rfl rfl rfl ?_
      refine D_off 131 rfl rfl rfl rfl ?_
      refine D_val rfl .no (fun ha => V_pick (b := true) (u := (.bool true)) (v := undef) (EN ha (.tmp rfl rfl) rfl) (EN ha (.bool _) rfl) (EN ha (.tmp rfl rfl) rfl)) ?_
      refine D_nil ?_
      obtain rfl := Option.some.inj hF
      exact ⟨_, _, rfl, (EqL.cons rfl (EqL.cons rfl (EqL.cons rfl (EqL.cons rfl (EqL.nil))))).eq, (.sel (.rd (.t (.t (.t (.t .h)))) rfl (.rd (.t (.t (.t (.t (.t .h))))) rfl (.rd (.t (.t (.t (.t (.t (.t .h)))))) rfl (.rd (.t (.t (.t (.t (.t (.t (.t .h))))))) rfl (.rd (.t (.t (.t (.t (.t (.t (.t (.t .h)))))))) rfl (.rd (.t (.t (.t (.t (.t (.t (.t (.t (.t .h))))))))) rfl (.rd (.t (.t (.t (.t (.t (.t (.t (.t (.t (.t .h)))))))))) rfl (.rd (.t (.t (.t (.t (.t (.t (.t (.t (.t (.t (.t .h))))))))))) rfl (.rd (.t (.t (.t (.t (.t (.t (.t (.t (.t (.t (.t (.t .h)))))))))))) rfl (.rd (.t (.t (.t (.t (.t (.t (.t (.t (.t (.t (.t (.t (.t .h))))))))))))) rfl (.rd (.t (.t (.t (.t (.t (.t (.t (.t (.t (.t (.t (.t (.t (.t .h)))))))))))))) rfl (.rd (.t (.t (.t (.t (.t (.t (.t (.t (.t (.t (.t (.t (.t (.t (.t .h))))))))))))))) rfl (.rd (.t (.t (.t (.t (.t (.t (.t (.t (.t (.t (.t (.t (.t (.t (.t (.t .h)))))))))))))))) rfl (.rd (.t (.t (.t (.t (.t (.t (.t (.t (.t (.t (.t (.t (.t (.t (.t (.t (.t .h))))))))))))))))) rfl (.rd (.t (.t (.t (.t (.t (.t (.t (.t (.t (.t (.t (.t (.t (.t (.t (.t (.t (.t .h)))))))))))))))))) rfl (.rd (.t (.t (.t (.t (.t (.t (.t (.t (.t (.t (.t (.t (.t (.t (.t (.t (.t (.t (.t .h))))))))))))))))))) rfl (.rd (.t (.t (.t (.t (.t (.t (.t (.t (.t (.t (.t (.t (.t (.t (.t (.t (.t (.t (.t (.t .h)))))))))))))))))))) rfl (.rd (.t (.t (.t (.t (.t (.t (.t (.t (.t (.t (.t (.t (.t (.t (.t (.t (.t (.t (.t (.t (.t .h))))))))))))))))))))) rfl .nil)))))))))))))))))))⟩
    rw [hg92]
    try rw [hg92] at hF; dsimp only [cond_true, cond_false] at hF
    refine D_val rfl (.on 131 rfl rfl rfl) (fun ha => V_fieldAddr (off := 2) fd55_2 (EN ha (.tmp rfl rfl) rfl)) ?_
    refine D_at rfl (.on 131 rfl rfl rfl) (.t (.t (.t (.t .h)))) rfl (fun ha hp => V_load (v := v0_2.v) ag46 (EN ha (.tmp rfl rfl) rfl) hp.2 rfl rfl) ?_
    refine D_val rfl (.on 131 rfl rfl rfl) (fun ha => V_move (v := (.int .i64 (k37 : Int))) (EN ha (.tmp rfl rfl) rfl)) ?_
    refine D_idx (a := x39) sl46 ty126.sz rfl (.on 131 rfl rfl rfl) (.tmp rfl rfl) (.tmp rfl rfl) rfl rfl (.t (.t (.t (.t (.t (.t (.t .h))))))) (Int.natCast_nonneg k37) hx42 (fun k93 j94 => ?_)
    refine D_val rfl (.on 131 rfl rfl rfl) (fun ha => V_fieldAddr (off := 2) fd126_2 (EN ha (.tmp rfl rfl) rfl)) ?_
    refine D_ldV (R' := (RdS 3 rdInt)) ag45 rfl (.on 131 rfl rfl rfl) (.tmp rfl rfl) rfl .h lv126_2 (fun w95 => ?_)
    refine D_val rfl (.on 131 rfl rfl rfl) (fun ha => V_fieldAddr (off := 2) fd55_2 (EN ha (.tmp rfl rfl) rfl)) ?_
    refine D_at rfl (.on 131 rfl rfl rfl) (.t (.t (.t (.t (.t (.t (.t (.t (.t (.t (.t (.t (.t (.t (.t .h))))))))))))))) rfl (fun ha hp => V_load (v := v1_2.v) ag46 (EN ha (.tmp rfl rfl) rfl) hp.2 rfl rfl) ?_
    refine D_val rfl (.on 131 rfl rfl rfl) (fun ha => V_move (v := (.int .i64 (k37 : Int))) (EN ha (.tmp rfl rfl) rfl)) ?_
    obtain ⟨x96, hx97, hF⟩ := bind_some hF
    obtain ⟨hp98, hx99⟩ := ix_some hx97
    refine D_idx (a := x96) sl46 ty126.sz rfl (.on 131 rfl rfl rfl) (.tmp rfl rfl) (.tmp rfl rfl) rfl rfl (.t (.t (.t (.t (.t (.t (.t (.t (.t (.t (.t (.t (.t (.t (.t (.t (.t (.t .h)))))))))))))))))) hp98 hx99 (fun k100 j101 => ?_)
    refine D_val rfl (.on 131 rfl rfl rfl) (fun ha => V_fieldAddr (off := 2) fd126_2 (EN ha (.tmp rfl rfl) rfl)) ?_
    refine D_ldV (R' := (RdS 3 rdInt)) ag45 rfl (.on 131 rfl rfl rfl) (.tmp rfl rfl) rfl .h lv126_2 (fun w102 => ?_)
    obtain ⟨r103, hx104, hF⟩ := bind_some hF
    refine D_act0 rfl rfl (.on 131 rfl rfl rfl) (.rd (.t (.t .h)) rfl (.rd .h rfl .nil)) .nil (fun ha => X_callS cf87 (.cons (EN ha (.tmp rfl rfl) rfl) (.cons (EN ha (.tmp rfl rfl) rfl) .nil)) (s_l2Ints_ok x39.Map w95 x96.Map w102 _ hx104)) (fun _ => ?_)
    refine D_val rfl (.on 131 rfl rfl rfl) (fun ha => V_not (b := r103) (EN ha (.tmp rfl rfl) rfl)) ?_
    refine D_val rfl .no (fun ha => V_pick (b := false) (u := (.bool true)) (v := (.bool (!r103))) (EN ha (.tmp rfl rfl) rfl) (EN ha (.bool _) rfl) (EN ha (.tmp rfl rfl) rfl)) ?_
    refine D_nil ?_
    obtain rfl := Option.some.inj hF
    exact ⟨_, _, rfl, (EqL.cons rfl (EqL.cons rfl (EqL.cons rfl (EqL.cons rfl (EqL.nil))))).eq, (.sel (.rd (.t (.t (.t (.t (.t (.t (.t (.t .h)))))))) rfl (.rd (.t (.t (.t (.t (.t (.t (.t (.t (.t .h))))))))) rfl (.rd (.t (.t (.t (.t (.t (.t (.t (.t (.t (.t .h)))))))))) rfl (.rd (.t (.t (.t (.t (.t (.t (.t (.t (.t (.t (.t .h))))))))))) rfl (.rd (.t (.t (.t (.t (.t (.t (.t (.t (.t (.t (.t (.t .h)))))))))))) rfl (.rd (.t (.t (.t (.t (.t (.t (.t (.t (.t (.t (.t (.t (.t .h))))))))))))) rfl (.rd (.t (.t (.t (.t (.t (.t (.t (.t (.t (.t (.t (.t (.t (.t .h)))))))))))))) rfl (.rd (.t (.t (.t (.t (.t (.t (.t (.t (.t (.t (.t (.t (.t (.t (.t .h))))))))))))))) rfl (.rd (.t (.t (.t (.t (.t (.t (.t (.t (.t (.t (.t (.t (.t (.t (.t (.t .h)))))))))))))))) rfl (.rd (.t (.t (.t (.t (.t (.t (.t (.t (.t (.t (.t (.t (.t (.t (.t (.t (.t .h))))))))))))))))) rfl (.rd (.t (.t (.t (.t (.t (.t (.t (.t (.t (.t (.t (.t (.t (.t (.t (.t (.t (.t .h)))))))))))))))))) rfl (.rd (.t (.t (.t (.t (.t (.t (.t (.t (.t (.t (.t (.t (.t (.t (.t (.t (.t (.t (.t .h))))))))))))))))))) rfl (.rd (.t (.t (.t (.t (.t (.t (.t (.t (.t (.t (.t (.t (.t (.t (.t (.t (.t (.t (.t (.t .h)))))))))))))))))))) rfl (.rd (.t (.t (.t (.t (.t (.t (.t (.t (.t (.t (.t (.t (.t (.t (.t (.t (.t (.t (.t (.t (.t .h))))))))))))))))))))) rfl (.rd (.t (.t (.t (.t (.t (.t (.t (.t (.t (.t (.t (.t (.t (.t (.t (.t (.t (.t (.t (.t (.t (.t .h)))))))))))))))))))))) rfl (.rd (.t (.t (.t (.t (.t (.t (.t (.t (.t (.t (.t (.t (.t (.t (.t (.t (.t (.t (.t (.t (.t (.t (.t .h))))))))))))))))))))))) rfl (.rd (.t (.t (.t (.t (.t (.t (.t (.t (.t (.t (.t (.t (.t (.t (.t (.t (.t (.t (.t (.t (.t (.t (.t (.t .h)))))))))))))))))))))))) rfl (.rd (.t (.t (.t (.t (.t (.t (.t (.t (.t (.t (.t (.t (.t (.t (.t (.t (.t (.t (.t (.t (.t (.t (.t (.t (.t .h))))))))))))))))))))))))) rfl .nil)))))))))))))))))))⟩
  rintro _ _ ⟨c106, g109, rfl, rfl, hE⟩
  replace hF := hO74
  clear hO74
  try dsimp only at hF
  refine K_ent hE ?_
  refine CW_cond (b := c106) (.tmp rfl rfl) (fun hb108 => ?_) (fun hb108 => ?_)
  · rw [if_pos hb108] at hF
    refine K_region ?_
    refine C_val (V_assign (v := (.bool false)) (.bool _)) ?_
    refine C_nil ?_
    refine CW_ret ?_
    obtain rfl := Option.some.inj hF
    exact End_ret () (.tmp rfl rfl .nil) rfl (.sel .nil)
  rw [if_neg (by rw [hb108]; exact Bool.false_ne_true)] at hF
  refine CW_skip ?_
  refine CW_region ?_
  refine C_val (V_move (v := (.int .i64 (k37 : Int))) (.tmp rfl rfl)) ?_
  refine C_val (V_add (i := (k37 : Int)) (j := 1) (.tmp rfl rfl) (.int _ _)) ?_
  refine C_val (V_assign (v := (.int .i64 (IntKind.i64.wrap ((k37 : Int) + 1)))) (.tmp rfl rfl)) ?_
  refine C_nil ?_
  have hw107 : IntKind.i64.wrap ((k37 : Int) + 1) = ((k37 + 1 : Nat) : Int) := by rw [wrap_in (by omega) (by omega)]; rfl
  rw [hw107]
  exact ⟨_, Nat.lt_succ_self _, _, k37 + 1, rest38, rfl, (EqL.cons rfl (EqL.cons rfl (EqL.cons rfl (EqL.nil)))).eq, hd43, (.sel (.rd .h rfl (.rd (.t .h) rfl (.rd (.t (.t .h)) rfl (.rd (.t (.t (.t .h))) rfl (.rd (.t (.t (.t (.t .h)))) rfl (.rd (.t (.t (.t (.t (.t .h))))) rfl (.rd (.t (.t (.t (.t (.t (.t .h)))))) rfl (.rd (.t (.t (.t (.t (.t (.t (.t .h))))))) rfl (.rd (.t (.t (.t (.t (.t (.t (.t (.t .h)))))))) rfl (.rd (.t (.t (.t (.t (.t (.t (.t (.t (.t .h))))))))) rfl (.rd (.t (.t (.t (.t (.t (.t (.t (.t (.t (.t .h)))))))))) rfl (.rd (.t (.t (.t (.t (.t (.t (.t (.t (.t (.t (.t .h))))))))))) rfl (.rd (.t (.t (.t (.t (.t (.t (.t (.t (.t (.t (.t (.t .h)))))))))))) rfl (.rd (.t (.t (.t (.t (.t (.t (.t (.t (.t (.t (.t (.t (.t .h))))))))))))) rfl (.rd (.t (.t (.t (.t (.t (.t (.t (.t (.t (.t (.t (.t (.t (.t .h)))))))))))))) rfl (.rd (.t (.t (.t (.t (.t (.t (.t (.t (.t (.t (.t (.t (.t (.t (.t .h))))))))))))))) rfl (.rd (.t (.t (.t (.t (.t (.t (.t (.t (.t (.t (.t (.t (.t (.t (.t (.t .h)))))))))))))))) rfl (.rd (.t (.t (.t (.t (.t (.t (.t (.t (.t (.t (.t (.t (.t (.t (.t (.t (.t .h))))))))))))))))) rfl .nil))))))))))))))))))), hF⟩

/-! slices.Equal[[]int,int] -/
def g_slices_Equal_int_int_L1 (a_s2 : List Int) : List Int → Nat → Option (Bool)
  | [], k4 => some true
  | x6 :: rest5, k4 => (ix a_s2 (k4 : Int)).bind fun x15 =>
    if ((x6 : Int) != x15) then (
      some false)
    else (
      g_slices_Equal_int_int_L1 a_s2 rest5 (k4 + 1))
def g_slices_Equal_int_int (a_s1 : List Int) (a_s2 : List Int) : Option (Bool) :=
  if (((a_s1.length : Int) : Int) != (a_s2.length : Int)) then (
    some false)
  else (
    g_slices_Equal_int_int_L1 a_s2 a_s1 0)
theorem g_slices_Equal_int_int_ok (a_s1 : List Int) (v0_0 : Sv) (a_s2 : List Int) (v1_0 : Sv) (R : Bool) (hF : g_slices_Equal_int_int a_s1 a_s2 = some R) :
    Fw.Spec Try.prog 96 [v0_0.v, v1_0.v] [crd (RdS 3 rdInt) v0_0.v a_s1, crd (RdS 3 rdInt) v1_0.v a_s2] (fun _ : Unit => (.bool R)) (fun _ => []) := by
  refine Spec_enter (n := 26) Try.func96 rfl rfl (rs := [.tmp 4]) rfl rfl rfl ?_
  intro H0 F0
  unfold g_slices_Equal_int_int at hF
  refine K_region ?_
  refine C_val (V_assign (v := (.bool false)) (.bool _)) ?_
  refine C_nil ?_
  refine K_in ?_
  refine K_region ?_
  refine C_val (V_move (v := v0_0.v) (.tmp rfl rfl)) ?_
  refine C_at .h (fun hp => V_lenR (l := a_s1.length) sl45 (.tmp rfl rfl) (crd_len hp)) ?_
  refine C_val (V_move (v := v1_0.v) (.tmp rfl rfl)) ?_
  refine C_at (.t .h) (fun hp => V_lenR (l := a_s2.length) sl45 (.tmp rfl rfl) (crd_len hp)) ?_
  refine C_val (V_neq (i := (a_s1.length : Int)) (j := (a_s2.length : Int)) (.tmp rfl rfl) (.tmp rfl rfl)) ?_
  refine C_nil ?_
  refine CW_cond (b := (((a_s1.length : Int) : Int) != (a_s2.length : Int))) (.tmp rfl rfl) (fun hb23 => ?_) (fun hb23 => ?_)
  · rw [if_pos hb23] at hF
    refine K_region ?_
    refine C_val (V_assign (v := (.bool false)) (.bool _)) ?_
    refine C_nil ?_
    refine CW_ret ?_
    obtain rfl := Option.some.inj hF
    exact End_ret () (.tmp rfl rfl .nil) rfl (.sel .nil)
  rw [if_neg (by rw [hb23]; exact Bool.false_ne_true)] at hF
  refine CW_skip ?_
  refine K_in ?_
  refine K_region ?_
  refine C_val (V_move (v := v0_0.v) (.tmp rfl rfl)) ?_
  refine C_at .h (fun hp => V_lenR (l := a_s1.length) sl45 (.tmp rfl rfl) (crd_len hp)) ?_
  refine C_val (V_move (v := (.int .i64 0)) (.int _ _)) ?_
  refine C_nil ?_
  refine CW_block ?_
  refine CW_loop (m := a_s1.length) (fun m2 f' cs' => ∃ (g : Fr) (k4 : Nat) (rest5 : List Int), m2 = rest5.length ∧ f' = updL g [(0, v0_0.v), (1, v1_0.v), (12, (.int .i64 (a_s1.length : Int))), (13, (.int .i64 (k4 : Int)))] ∧ List.drop k4 a_s1 = rest5 ∧ Ent cs' [crd (RdS 3 rdInt) v0_0.v a_s1, crd (RdS 3 rdInt) v1_0.v a_s2] ∧ g_slices_Equal_int_int_L1 a_s2 rest5 k4 = some R) ⟨_, 0, _, rfl, (EqL.cons rfl (EqL.cons rfl (EqL.cons rfl (EqL.cons rfl (EqL.nil))))).eq, rfl, (.sel (.rd .h rfl (.rd (.t .h) rfl .nil))), hF⟩ ?_
  clear hF
  rintro m2 _ _ ⟨g3, k4, rest5, rfl, rfl, hd7, hE, hF⟩
  refine K_ent hE ?_
  clear hE
  refine K_pure (c := crd (RdS 3 rdInt) v0_0.v a_s1) .h crd_bound (fun hbd12 => ?_)
  rcases rest5 with _ | ⟨x6, rest5⟩
  · have hk8 := List.drop_eq_nil_iff.1 hd7
    have hfe11 : (decide (((k4 : Int) : Int) < (a_s1.length : Int))) = false := decide_eq_false (by omega)
    rw [g_slices_Equal_int_int_L1] at hF
    refine K_region ?_
    refine C_val (V_lss (i := (k4 : Int)) (j := (a_s1.length : Int)) (.tmp rfl rfl) (.tmp rfl rfl)) ?_
    refine C_nil ?_
    refine K_in ?_
    refine CW_cond (b := (decide (((k4 : Int) : Int) < (a_s1.length : Int)))) (.tmp rfl rfl) (fun hb => absurd (hfe11.symm.trans hb) (by decide)) (fun _ => ?_)
    refine CW_exit ?_
    refine CThen_exit ?_
    refine CThen_exit ?_
    refine CIn_self ?_
    refine K_region ?_
    refine C_val (V_assign (v := (.bool true)) (.bool _)) ?_
    refine C_nil ?_
    refine CW_ret ?_
    obtain rfl := Option.some.inj hF
    exact End_ret () (.tmp rfl rfl .nil) rfl (.sel .nil)
  obtain ⟨hk8, hx9, hd10⟩ := drop_cons hd7
  have hfe11 : (decide (((k4 : Int) : Int) < (a_s1.length : Int))) = true := decide_eq_true (by omega)
  rw [g_slices_Equal_int_int_L1] at hF
  refine K_region ?_
  refine C_val (V_lss (i := (k4 : Int)) (j := (a_s1.length : Int)) (.tmp rfl rfl) (.tmp rfl rfl)) ?_
  refine C_nil ?_
  refine K_in ?_
  refine CW_cond (b := (decide (((k4 : Int) : Int) < (a_s1.length : Int)))) (.tmp rfl rfl) (fun _ => ?_) (fun hb => absurd (hfe11.symm.trans hb) (by decide))
  refine CW_skip ?_
  refine K_block ?_
  refine K_region ?_
  refine C_val (V_move (v := (.int .i64 (k4 : Int))) (.tmp rfl rfl)) ?_
  refine C_val (V_assign (v := (.int .i64 (k4 : Int))) (.tmp rfl rfl)) ?_
  refine C_nil ?_
  refine K_draw [0, 1, 2, 3, 4, 5, 6, 7, 8] [0, 0, 3, 7, 0, 0, 48, 112, 255] [] mixed (by decide +kernel) ?_
  refine D_val rfl .no (fun ha => V_move (v := v0_0.v) (EN ha (.tmp rfl rfl) rfl)) ?_
  refine D_val rfl .no (fun ha => V_move (v := (.int .i64 (k4 : Int))) (EN ha (.tmp rfl rfl) rfl)) ?_
  refine D_idx (a := x6) sl45 ty3.sz rfl .no (.tmp rfl rfl) (.tmp rfl rfl) rfl rfl .h (Int.natCast_nonneg k4) hx9 (fun k13 j14 => ?_)
  refine D_ldS (w := (.int .i64 x6)) ag3 rfl .no (.tmp rfl rfl) rfl .h ls3_0 ?_
  refine D_val rfl .no (fun ha => V_move (v := v1_0.v) (EN ha (.tmp rfl rfl) rfl)) ?_
  refine D_val rfl .no (fun ha => V_move (v := (.int .i64 (k4 : Int))) (EN ha (.tmp rfl rfl) rfl)) ?_
  obtain ⟨x15, hx16, hF⟩ := bind_some hF
  obtain ⟨hp17, hx18⟩ := ix_some hx16
  refine D_idx (a := x15) sl45 ty3.sz rfl .no (.tmp rfl rfl) (.tmp rfl rfl) rfl rfl (.t (.t .h)) hp17 hx18 (fun k19 j20 => ?_)
  refine D_ldS (w := (.int .i64 x15)) ag3 rfl .no (.tmp rfl rfl) rfl .h ls3_0 ?_
  refine D_val rfl .no (fun ha => V_neq (i := x6) (j := x15) (EN ha (.tmp rfl rfl) rfl) (EN ha (.tmp rfl rfl) rfl)) ?_
  refine D_nil ?_
  refine CW_cond (b := ((x6 : Int) != x15)) (.tmp rfl rfl) (fun hb22 => ?_) (fun hb22 => ?_)
  · rw [if_pos hb22] at hF
    refine K_region ?_
    refine C_val (V_assign (v := (.bool false)) (.bool _)) ?_
    refine C_nil ?_
    refine CW_ret ?_
    obtain rfl := Option.some.inj hF
    exact End_ret () (.tmp rfl rfl .nil) rfl (.sel .nil)
  rw [if_neg (by rw [hb22]; exact Bool.false_ne_true)] at hF
  refine CW_skip ?_
  refine CW_region ?_
  refine C_val (V_add (i := (k4 : Int)) (j := 1) (.tmp rfl rfl) (.int _ _)) ?_
  refine C_val (V_move (v := (.int .i64 (IntKind.i64.wrap ((k4 : Int) + 1)))) (.tmp rfl rfl)) ?_
  refine C_nil ?_
  have hw21 : IntKind.i64.wrap ((k4 : Int) + 1) = ((k4 + 1 : Nat) : Int) := by rw [wrap_in (by omega) (by omega)]; rfl
  rw [hw21]
  exact ⟨_, Nat.lt_succ_self _, _, k4 + 1, rest5, rfl, (EqL.cons rfl (EqL.cons rfl (EqL.cons rfl (EqL.cons rfl (EqL.nil))))).eq, hd10, (.sel (.rd (.t (.t .h)) rfl (.rd (.t (.t (.t .h))) rfl .nil))), hF⟩

/-! impl.sameMethod -/
def i_sameMethod (a_a : Method) (a_b : Method) : Option (Bool) :=
  (bif ((a_a.Rel : Int) == a_b.Rel) then ((g_slices_Equal_int_int a_a.Inputs a_b.Inputs).bind fun r6 =>
      bif r6 then (bif ((a_a.Limit : Int) == a_b.Limit) then (bif ((a_a.Cost : Int) == a_b.Cost) then (some ((a_a.Quota : Int) == a_b.Quota))
          else (some false))
        else (some false))
      else (some false))
    else (some false)).bind fun o3 =>
  match o3 with
  | c12 => some c12
theorem i_sameMethod_ok (a_a : Method) (v0_1 : Sv) (a_b : Method) (v1_1 : Sv) (R : Bool) (hF : i_sameMethod a_a a_b = some R) :
    Fw.Spec Try.prog 98 [(.agg [(.int .i64 a_a.Rel), v0_1.v, (.int .i64 a_a.Limit), (.int .i64 a_a.Cost), (.int .i64 a_a.Quota)].toArray), (.agg [(.int .i64 a_b.Rel), v1_1.v, (.int .i64 a_b.Limit), (.int .i64 a_b.Cost), (.int .i64 a_b.Quota)].toArray)] [crd (RdS 3 rdInt) v0_1.v a_a.Inputs, crd (RdS 3 rdInt) v1_1.v a_b.Inputs] (fun _ : Unit => (.bool R)) (fun _ => []) := by
  refine Spec_enter (n := 38) Try.func98 rfl rfl (rs := [.tmp 4]) rfl rfl rfl ?_
  intro H0 F0
  unfold i_sameMethod at hF
  refine K_region ?_
  refine C_newR rfl (N_box (g := false) (v := (.agg [(.int .i64 a_a.Rel), v0_1.v, (.int .i64 a_a.Limit), (.int .i64 a_a.Cost), (.int .i64 a_a.Quota)].toArray)) ty101.sz (.tmp rfl rfl) rfl) (fun k1 => ?_)
  refine C_newR rfl (N_box (g := false) (v := (.agg [(.int .i64 a_b.Rel), v1_1.v, (.int .i64 a_b.Limit), (.int .i64 a_b.Cost), (.int .i64 a_b.Quota)].toArray)) ty101.sz (.tmp rfl rfl) rfl) (fun k2 => ?_)
  refine C_val (V_assign (v := (.bool false)) (.bool _)) ?_
  refine C_nil ?_
  obtain ⟨o3, hio3, hO4⟩ := bind_some hF
  refine K_region ?_
  refine C_cut (fun f' cs' => ∃ (c12 : Bool) (g : Fr), c12 = o3 ∧ f' = updL g [(4, (.bool c12))] ∧ Ent cs' []) ?_ ?_
  · replace hF := hio3
    refine C_val (V_fieldAddr (off := 0) fd101_0 (.tmp rfl rfl)) ?_
    refine C_at (.t .h) (fun hp => V_load (v := (.int .i64 a_a.Rel)) ag3 (.tmp rfl rfl) hp.2 rfl rfl) ?_
    refine C_val (V_fieldAddr (off := 0) fd101_0 (.tmp rfl rfl)) ?_
    refine C_at .h (fun hp => V_load (v := (.int .i64 a_b.Rel)) ag3 (.tmp rfl rfl) hp.2 rfl rfl) ?_
    refine C_val (V_eql (i := a_a.Rel) (j := a_b.Rel) (.tmp rfl rfl) (.tmp rfl rfl)) ?_
    refine C_val (V_move (v := (.bool ((a_a.Rel : Int) == a_b.Rel))) (.tmp rfl rfl)) ?_
    rcases Bool.eq_false_or_eq_true ((a_a.Rel : Int) == a_b.Rel) with hg5 | hg5
    · rw [hg5]
      try rw [hg5] at hF; dsimp only [cond_true, cond_false] at hF
      refine C_on (t := 10) rfl rfl rfl ?_
      refine C_val (V_fieldAddr (off := 1) fd101_1 (.tmp rfl rfl)) ?_
      refine C_on (t := 10) rfl rfl rfl ?_
      refine C_at (.t .h) (fun hp => V_load (v := v0_1.v) ag45 (.tmp rfl rfl) hp.2 rfl rfl) ?_
      refine C_on (t := 10) rfl rfl rfl ?_
      refine C_val (V_fieldAddr (off := 1) fd101_1 (.tmp rfl rfl)) ?_
      refine C_on (t := 10) rfl rfl rfl ?_
      refine C_at .h (fun hp => V_load (v := v1_1.v) ag45 (.tmp rfl rfl) hp.2 rfl rfl) ?_
      refine C_on (t := 10) rfl rfl rfl ?_
      obtain ⟨r6, hx7, hF⟩ := bind_some hF
      refine C_x0 (.rd (.t (.t .h)) rfl (.rd (.t (.t (.t .h))) rfl .nil)) (X_callS cf96 (.cons (.tmp rfl rfl) (.cons (.tmp rfl rfl) .nil)) (g_slices_Equal_int_int_ok a_a.Inputs v0_1 a_b.Inputs v1_1 _ hx7)) (fun _ => ?_)
      refine C_val (V_pick (b := true) (u := (.bool r6)) (v := (.bool false)) (.tmp rfl rfl) (.tmp rfl rfl) (.bool _)) ?_
      refine C_val (V_move (v := (.bool r6)) (.tmp rfl rfl)) ?_
      rcases Bool.eq_false_or_eq_true r6 with hg9 | hg9
      · rw [hg9]
        try rw [hg9] at hF; dsimp only [cond_true, cond_false] at hF
        refine C_on (t := 17) rfl rfl rfl ?_
        refine C_val (V_fieldAddr (off := 2) fd101_2 (.tmp rfl rfl)) ?_
        refine C_on (t := 17) rfl rfl rfl ?_
        refine C_at (.t .h) (fun hp => V_load (v := (.int .i64 a_a.Limit)) ag3 (.tmp rfl rfl) hp.2 rfl rfl) ?_
        refine C_on (t := 17) rfl rfl rfl ?_
        refine C_val (V_fieldAddr (off := 2) fd101_2 (.tmp rfl rfl)) ?_
        refine C_on (t := 17) rfl rfl rfl ?_
        refine C_at .h (fun hp => V_load (v := (.int .i64 a_b.Limit)) ag3 (.tmp rfl rfl) hp.2 rfl rfl) ?_
        refine C_on (t := 17) rfl rfl rfl ?_
        refine C_val (V_eql (i := a_a.Limit) (j := a_b.Limit) (.tmp rfl rfl) (.tmp rfl rfl)) ?_
        refine C_val (V_pick (b := true) (u := (.bool ((a_a.Limit : Int) == a_b.Limit))) (v := (.bool false)) (.tmp rfl rfl) (.tmp rfl rfl) (.bool _)) ?_
        refine C_val (V_move (v := (.bool ((a_a.Limit : Int) == a_b.Limit))) (.tmp rfl rfl)) ?_
        rcases Bool.eq_false_or_eq_true ((a_a.Limit : Int) == a_b.Limit) with hg10 | hg10
        · rw [hg10]
          try rw [hg10] at hF; dsimp only [cond_true, cond_false] at hF
          refine C_on (t := 24) rfl rfl rfl ?_
          refine C_val (V_fieldAddr (off := 3) fd101_3 (.tmp rfl rfl)) ?_
          refine C_on (t := 24) rfl rfl rfl ?_
          refine C_at (.t .h) (fun hp => V_load (v := (.int .i64 a_a.Cost)) ag3 (.tmp rfl rfl) hp.2 rfl rfl) ?_
          refine C_on (t := 24) rfl rfl rfl ?_
          refine C_val (V_fieldAddr (off := 3) fd101_3 (.tmp rfl rfl)) ?_
          refine C_on (t := 24) rfl rfl rfl ?_
          refine C_at .h (fun hp => V_load (v := (.int .i64 a_b.Cost)) ag3 (.tmp rfl rfl) hp.2 rfl rfl) ?_
          refine C_on (t := 24) rfl rfl rfl ?_
          refine C_val (V_eql (i := a_a.Cost) (j := a_b.Cost) (.tmp rfl rfl) (.tmp rfl rfl)) ?_
          refine C_val (V_pick (b := true) (u := (.bool ((a_a.Cost : Int) == a_b.Cost))) (v := (.bool false)) (.tmp rfl rfl) (.tmp rfl rfl) (.bool _)) ?_
          refine C_val (V_move (v := (.bool ((a_a.Cost : Int) == a_b.Cost))) (.tmp rfl rfl)) ?_
          rcases Bool.eq_false_or_eq_true ((a_a.Cost : Int) == a_b.Cost) with hg11 | hg11
          · rw [hg11]
            try rw [hg11] at hF; dsimp only [cond_true, cond_false] at hF
            refine C_on (t := 31) rfl rfl rfl ?_
            refine C_val (V_fieldAddr (off := 4) fd101_4 (.tmp rfl rfl)) ?_
            refine C_on (t := 31) rfl rfl rfl ?_
            refine C_at (.t .h) (fun hp => V_load (v := (.int .i64 a_a.Quota)) ag3 (.tmp rfl rfl) hp.2 rfl rfl) ?_
            refine C_on (t := 31) rfl rfl rfl ?_
            refine C_val (V_fieldAddr (off := 4) fd101_4 (.tmp rfl rfl)) ?_
            refine C_on (t := 31) rfl rfl rfl ?_
            refine C_at .h (fun hp => V_load (v := (.int .i64 a_b.Quota)) ag3 (.tmp rfl rfl) hp.2 rfl rfl) ?_
            refine C_on (t := 31) rfl rfl rfl ?_
            refine C_val (V_eql (i := a_a.Quota) (j := a_b.Quota) (.tmp rfl rfl) (.tmp rfl rfl)) ?_
            refine C_val (V_pick (b := true) (u := (.bool ((a_a.Quota : Int) == a_b.Quota))) (v := (.bool false)) (.tmp rfl rfl) (.tmp rfl rfl) (.bool _)) ?_
            refine C_val (V_assign (v := (.bool ((a_a.Quota : Int) == a_b.Quota))) (.tmp rfl rfl)) ?_
            refine C_nil ?_
            obtain rfl := Option.some.inj hF
            exact ⟨_, _, rfl, (EqL.cons rfl (EqL.nil)).eq, (.sel .nil)⟩
          rw [hg11]
          try rw [hg11] at hF; dsimp only [cond_true, cond_false] at hF
          refine C_off (t := 31) rfl rfl rfl ?_
          refine C_off (t := 31) rfl rfl rfl ?_
          refine C_off (t := 31) rfl rfl rfl ?_
          refine C_off (t := 31) rfl rfl rfl ?_
          refine C_off (t := 31) rfl rfl rfl ?_
          refine C_val (V_pick (b := false) (u := undef) (v := (.bool false)) (.tmp rfl rfl) (.tmp rfl rfl) (.bool _)) ?_
          refine C_val (V_assign (v := (.bool false)) (.tmp rfl rfl)) ?_
          refine C_nil ?_
          obtain rfl := Option.some.inj hF
          exact ⟨_, _, rfl, (EqL.cons rfl (EqL.nil)).eq, (.sel .nil)⟩
        rw [hg10]
        try rw [hg10] at hF; dsimp only [cond_true, cond_false] at hF
        refine C_off (t := 24) rfl rfl rfl ?_
        refine C_off (t := 24) rfl rfl rfl ?_
        refine C_off (t := 24) rfl rfl rfl ?_
        refine C_off (t := 24) rfl rfl rfl ?_
        refine C_off (t := 24) rfl rfl rfl ?_
        refine C_val (V_pick (b := false) (u := undef) (v := (.bool false)) (.tmp rfl rfl) (.tmp rfl rfl) (.bool _)) ?_
        refine C_val (V_move (v := (.bool false)) (.tmp rfl rfl)) ?_
        refine C_off (t := 31) rfl rfl rfl ?_
        refine C_off (t := 31) rfl rfl rfl ?_
        refine C_off (t := 31) rfl rfl rfl ?_
        refine C_off (t := 31) rfl rfl rfl ?_
        refine C_off (t := 31) rfl rfl rfl ?_
        refine C_val (V_pick (b := false) (u := undef) (v := (.bool false)) (.tmp rfl rfl) (.tmp rfl rfl) (.bool _)) ?_
        refine C_val (V_assign (v := (.bool false)) (.tmp rfl rfl)) ?_
        refine C_nil ?_
        obtain rfl := Option.some.inj hF
        exact ⟨_, _, rfl, (EqL.cons rfl (EqL.nil)).eq, (.sel .nil)⟩
      rw [hg9]
      try rw [hg9] at hF; dsimp only [cond_true, cond_false] at hF
      refine C_off (t := 17) rfl rfl rfl ?_
      refine C_off (t := 17) rfl rfl rfl ?_
      refine C_off (t := 17) rfl rfl rfl ?_
      refine C_off (t := 17) rfl rfl rfl ?_
      refine C_off (t := 17) rfl rfl rfl ?_
      refine C_val (V_pick (b := false) (u := undef) (v := (.bool false)) (.tmp rfl rfl) (.tmp rfl rfl) (.bool _)) ?_
      refine C_val (V_move (v := (.bool false)) (.tmp rfl rfl)) ?_
      refine C_off (t := 24) rfl rfl rfl ?_
      refine C_off (t := 24) rfl rfl rfl ?_
      refine C_off (t := 24) rfl rfl rfl ?_
      refine C_off (t := 24) rfl rfl rfl ?_
      refine C_off (t := 24) rfl rfl rfl ?_
      refine C_val (V_pick (b := false) (u := undef) (v := (.bool false)) (.tmp rfl rfl) (.tmp rfl rfl) (.bool _)) ?_
      refine C_val (V_move (v := (.bool false)) (.tmp rfl rfl)) ?_
      refine C_off (t := 31) rfl rfl rfl ?_
      refine C_off (t := 31) rfl rfl rfl ?_
      refine C_off (t := 31) rfl rfl rfl ?_
      refine C_off (t := 31) rfl rfl rfl ?_
      refine C_off (t := 31) rfl rfl rfl ?_
      refine C_val (V_pick (b := false) (u := undef) (v := (.bool false)) (.tmp rfl rfl) (.tmp rfl rfl) (.bool _)) ?_
      refine C_val (V_assign (v := (.bool false)) (.tmp rfl rfl)) ?_
      refine C_nil ?_
      obtain rfl := Option.some.inj hF
      exact ⟨_, _, rfl, (EqL.cons rfl (EqL.nil)).eq, (.sel .nil)⟩
    rw [hg5]
    try rw [hg5] at hF; dsimp only [cond_true, cond_false] at hF
    refine C_off (t := 10) rfl rfl rfl ?_
    refine C_off (t := 10) rfl rfl rfl ?_
    refine C_off (t := 10) rfl rfl rfl ?_
    refine C_off (t := 10) rfl rfl rfl ?_
    refine C_off (t := 10) rfl rfl rfl ?_
    refine C_val (V_pick (b := false) (u := undef) (v := (.bool false)) (.tmp rfl rfl) (.tmp rfl rfl) (.bool _)) ?_
    refine C_val (V_move (v := (.bool false)) (.tmp rfl rfl)) ?_
    refine C_off (t := 17) rfl rfl rfl ?_
    refine C_off (t := 17) rfl rfl rfl ?_
    refine C_off (t := 17) rfl rfl rfl ?_
    refine C_off (t := 17) rfl rfl rfl ?_
    refine C_off (t := 17) rfl rfl rfl ?_
    refine C_val (V_pick (b := false) (u := undef) (v := (.bool false)) (.tmp rfl rfl) (.tmp rfl rfl) (.bool _)) ?_
    refine C_val (V_move (v := (.bool false)) (.tmp rfl rfl)) ?_
    refine C_off (t := 24) rfl rfl rfl ?_
    refine C_off (t := 24) rfl rfl rfl ?_
    refine C_off (t := 24) rfl rfl rfl ?_
    refine C_off (t := 24) rfl rfl rfl ?_
    refine C_off (t := 24) rfl rfl rfl ?_
    refine C_val (V_pick (b := false) (u := undef) (v := (.bool false)) (.tmp rfl rfl) (.tmp rfl rfl) (.bool _)) ?_
    refine C_val (V_move (v := (.bool false)) (.tmp rfl rfl)) ?_
    refine C_off (t := 31) rfl rfl rfl ?_
    refine C_off (t := 31) rfl rfl rfl ?_
    refine C_off (t := 31) rfl rfl rfl ?_
    refine C_off (t := 31) rfl rfl rfl ?_
    refine C_off (t := 31) rfl rfl rfl ?_
    refine C_val (V_pick (b := false) (u := undef) (v := (.bool false)) (.tmp rfl rfl) (.tmp rfl rfl) (.bool _)) ?_
    refine C_val (V_assign (v := (.bool false)) (.tmp rfl rfl)) ?_
    refine C_nil ?_
    obtain rfl := Option.some.inj hF
    exact ⟨_, _, rfl, (EqL.cons rfl (EqL.nil)).eq, (.sel .nil)⟩
  rintro _ _ ⟨c12, g13, rfl, rfl, hE⟩
  replace hF := hO4
  clear hO4
  try dsimp only at hF
  refine K_ent hE ?_
  refine CW_ret ?_
  obtain rfl := Option.some.inj hF
  exact End_ret () (.tmp rfl rfl .nil) rfl (.sel .nil)

/-! impl.Method] -/
def g_slices_EqualFunc_impl_Method_impl_Method_impl_Method_impl_Method_isameMethod_L1 (a_s2 : List Method) : List Method → Nat → Option (Bool)
  | [], k4 => some true
  | x6 :: rest5, k4 => (ix a_s2 (k4 : Int)).bind fun x17 =>
    (i_sameMethod x6 x17).bind fun r25 =>
    if (!r25) then (
      some false)
    else (
      g_slices_EqualFunc_impl_Method_impl_Method_impl_Method_impl_Method_isameMethod_L1 a_s2 rest5 (k4 + 1))
def g_slices_EqualFunc_impl_Method_impl_Method_impl_Method_impl_Method_isameMethod (a_s1 : List Method) (a_s2 : List Method) : Option (Bool) :=
  if (((a_s1.length : Int) : Int) != (a_s2.length : Int)) then (
    some false)
  else (
    g_slices_EqualFunc_impl_Method_impl_Method_impl_Method_impl_Method_isameMethod_L1 a_s2 a_s1 0)
theorem g_slices_EqualFunc_impl_Method_impl_Method_impl_Method_impl_Method_isameMethod_ok (a_s1 : List Method) (v0_0 : Sv) (a_s2 : List Method) (v1_0 : Sv) (R : Bool) (hF : g_slices_EqualFunc_impl_Method_impl_Method_impl_Method_impl_Method_isameMethod a_s1 a_s2 = some R) :
    Fw.Spec Try.prog 97 [v0_0.v, v1_0.v, (.func (.func 98) [].toArray [].toArray)] [crd (RdS 101 rd101) v0_0.v a_s1, crd (RdS 101 rd101) v1_0.v a_s2] (fun _ : Unit => (.bool R)) (fun _ => []) := by
  refine Spec_enter (n := 32) Try.func97 rfl rfl (rs := [.tmp 6]) rfl rfl rfl ?_
  intro H0 F0
  unfold g_slices_EqualFunc_impl_Method_impl_Method_impl_Method_impl_Method_isameMethod at hF
  refine K_region ?_
  refine C_val (V_assign (v := (.bool false)) (.bool _)) ?_
  refine C_nil ?_
  refine K_in ?_
  refine K_region ?_
  refine C_val (V_move (v := v0_0.v) (.tmp rfl rfl)) ?_
  refine C_at .h (fun hp => V_lenR (l := a_s1.length) sl35 (.tmp rfl rfl) (crd_len hp)) ?_
  refine C_val (V_move (v := v1_0.v) (.tmp rfl rfl)) ?_
  refine C_at (.t .h) (fun hp => V_lenR (l := a_s2.length) sl35 (.tmp rfl rfl) (crd_len hp)) ?_
  refine C_val (V_neq (i := (a_s1.length : Int)) (j := (a_s2.length : Int)) (.tmp rfl rfl) (.tmp rfl rfl)) ?_
  refine C_nil ?_
  refine CW_cond (b := (((a_s1.length : Int) : Int) != (a_s2.length : Int))) (.tmp rfl rfl) (fun hb30 => ?_) (fun hb30 => ?_)
  · rw [if_pos hb30] at hF
    refine K_region ?_
    refine C_val (V_assign (v := (.bool false)) (.bool _)) ?_
    refine C_nil ?_
    refine CW_ret ?_
    obtain rfl := Option.some.inj hF
    exact End_ret () (.tmp rfl rfl .nil) rfl (.sel .nil)
  rw [if_neg (by rw [hb30]; exact Bool.false_ne_true)] at hF
  refine CW_skip ?_
  refine K_in ?_
  refine K_region ?_
  refine C_val (V_move (v := v0_0.v) (.tmp rfl rfl)) ?_
  refine C_at .h (fun hp => V_lenR (l := a_s1.length) sl35 (.tmp rfl rfl) (crd_len hp)) ?_
  refine C_val (V_move (v := (.int .i64 0)) (.int _ _)) ?_
  refine C_nil ?_
  refine CW_block ?_
  refine CW_loop (m := a_s1.length) (fun m2 f' cs' => ∃ (g : Fr) (k4 : Nat) (rest5 : List Method), m2 = rest5.length ∧ f' = updL g [(1, v1_0.v), (2, (.func (.func 98) [].toArray [].toArray)), (15, v0_0.v), (16, (.int .i64 (a_s1.length : Int))), (17, (.int .i64 (k4 : Int)))] ∧ List.drop k4 a_s1 = rest5 ∧ Ent cs' [crd (RdS 101 rd101) v1_0.v a_s2, crd (RdS 101 rd101) v0_0.v a_s1] ∧ g_slices_EqualFunc_impl_Method_impl_Method_impl_Method_impl_Method_isameMethod_L1 a_s2 rest5 k4 = some R) ⟨_, 0, _, rfl, (EqL.cons rfl (EqL.cons rfl (EqL.cons rfl (EqL.cons rfl (EqL.cons rfl (EqL.nil)))))).eq, rfl, (.sel (.rd (.t .h) rfl (.rd .h rfl .nil))), hF⟩ ?_
  clear hF
  rintro m2 _ _ ⟨g3, k4, rest5, rfl, rfl, hd7, hE, hF⟩
  refine K_ent hE ?_
  clear hE
  refine K_pure (c := crd (RdS 101 rd101) v0_0.v a_s1) (.t .h) crd_bound (fun hbd12 => ?_)
  rcases rest5 with _ | ⟨x6, rest5⟩
  · have hk8 := List.drop_eq_nil_iff.1 hd7
    have hfe11 : (decide (((k4 : Int) : Int) < (a_s1.length : Int))) = false := decide_eq_false (by omega)
    rw [g_slices_EqualFunc_impl_Method_impl_Method_impl_Method_impl_Method_isameMethod_L1] at hF
    refine K_region ?_
    refine C_val (V_lss (i := (k4 : Int)) (j := (a_s1.length : Int)) (.tmp rfl rfl) (.tmp rfl rfl)) ?_
    refine C_nil ?_
    refine K_in ?_
    refine CW_cond (b := (decide (((k4 : Int) : Int) < (a_s1.length : Int)))) (.tmp rfl rfl) (fun hb => absurd (hfe11.symm.trans hb) (by decide)) (fun _ => ?_)
    refine CW_exit ?_
    refine CThen_exit ?_
    refine CThen_exit ?_
    refine CIn_self ?_
    refine K_region ?_
    refine C_val (V_assign (v := (.bool true)) (.bool _)) ?_
    refine C_nil ?_
    refine CW_ret ?_
    obtain rfl := Option.some.inj hF
    exact End_ret () (.tmp rfl rfl .nil) rfl (.sel .nil)
  obtain ⟨hk8, hx9, hd10⟩ := drop_cons hd7
  have hfe11 : (decide (((k4 : Int) : Int) < (a_s1.length : Int))) = true := decide_eq_true (by omega)
  rw [g_slices_EqualFunc_impl_Method_impl_Method_impl_Method_impl_Method_isameMethod_L1] at hF
  refine K_region ?_
  refine C_val (V_lss (i := (k4 : Int)) (j := (a_s1.length : Int)) (.tmp rfl rfl) (.tmp rfl rfl)) ?_
  refine C_nil ?_
  refine K_in ?_
  refine CW_cond (b := (decide (((k4 : Int) : Int) < (a_s1.length : Int)))) (.tmp rfl rfl) (fun _ => ?_) (fun hb => absurd (hfe11.symm.trans hb) (by decide))
  refine CW_skip ?_
  refine K_block ?_
  refine K_region ?_
  refine C_val (V_move (v := (.int .i64 (k4 : Int))) (.tmp rfl rfl)) ?_
  refine C_idx (a := x6) sl35 ty101.sz (.tmp rfl rfl) (.tmp rfl rfl) (.t .h) (Int.natCast_nonneg k4) hx9 (fun k13 j14 => ?_)
  refine C_ldA1 (ul101_0_101 x6) ag101 ty101.sz rfl (.tmp rfl rfl) .h la101_0_101 (fun p15 => ?_)
  refine C_new rfl (N_allocT (g := true) ty101 rfl rfl) (fun k16 => ?_)
  refine C_val (V_assign (v := (.int .i64 (k4 : Int))) (.tmp rfl rfl)) ?_
  refine C_x1 (.cons .h .nil) (X_storeB (e := (.agg [(.int .i64 0), (.slice none 0 0), (.int .i64 0), (.int .i64 0), (.int .i64 0)].toArray)) (e' := (.agg [(.int .i64 x6.Rel), p15.v, (.int .i64 x6.Limit), (.int .i64 x6.Cost), (.int .i64 x6.Quota)].toArray)) (v := (.agg [(.int .i64 x6.Rel), p15.v, (.int .i64 x6.Limit), (.int .i64 x6.Cost), (.int .i64 x6.Quota)].toArray)) ty101.sz (.tmp rfl rfl) (.tmp rfl rfl) rfl rfl rfl rfl rfl) (fun _ => ?_)
  refine C_nil ?_
  refine K_region ?_
  refine C_val (V_move (v := v1_0.v) (.tmp rfl rfl)) ?_
  refine C_val (V_move (v := (.int .i64 (k4 : Int))) (.tmp rfl rfl)) ?_
  obtain ⟨x17, hx18, hF⟩ := bind_some hF
  obtain ⟨hp19, hx20⟩ := ix_some hx18
  refine C_idx (a := x17) sl35 ty101.sz (.tmp rfl rfl) (.tmp rfl rfl) (.t (.t (.t .h))) hp19 hx20 (fun k21 j22 => ?_)
  refine C_ldA1 (ul101_0_101 x17) ag101 ty101.sz rfl (.tmp rfl rfl) .h la101_0_101 (fun p23 => ?_)
  refine C_new rfl (N_allocT (g := true) ty101 rfl rfl) (fun k24 => ?_)
  refine C_x1 (.cons .h .nil) (X_storeB (e := (.agg [(.int .i64 0), (.slice none 0 0), (.int .i64 0), (.int .i64 0), (.int .i64 0)].toArray)) (e' := (.agg [(.int .i64 x17.Rel), p23.v, (.int .i64 x17.Limit), (.int .i64 x17.Cost), (.int .i64 x17.Quota)].toArray)) (v := (.agg [(.int .i64 x17.Rel), p23.v, (.int .i64 x17.Limit), (.int .i64 x17.Cost), (.int .i64 x17.Quota)].toArray)) ty101.sz (.tmp rfl rfl) (.tmp rfl rfl) rfl rfl rfl rfl rfl) (fun _ => ?_)
  refine C_nil ?_
  refine K_region ?_
  refine C_val (V_move (v := (.func (.func 98) [].toArray [].toArray)) (.tmp rfl rfl)) ?_
  refine C_at (.t (.t (.t .h))) (fun hp => V_loadBox ag101 ty101.sz rfl (.tmp rfl rfl) hp.2 rfl) ?_
  refine C_at .h (fun hp => V_loadBox ag101 ty101.sz rfl (.tmp rfl rfl) hp.2 rfl) ?_
  obtain ⟨r25, hx26, hF⟩ := bind_some hF
  refine C_x0 (.rd (.t (.t (.t (.t .h)))) rfl (.rd (.t .h) rfl .nil)) (X_callCS cf98 (.tmp rfl rfl) (.cons (.tmp rfl rfl) (.cons (.tmp rfl rfl) .nil)) (i_sameMethod_ok x6 p15 x17 p23 _ hx26)) (fun _ => ?_)
  refine C_val (V_not (b := r25) (.tmp rfl rfl)) ?_
  refine C_nil ?_
  refine CW_cond (b := (!r25)) (.tmp rfl rfl) (fun hb29 => ?_) (fun hb29 => ?_)
  · rw [if_pos hb29] at hF
    refine K_region ?_
    refine C_val (V_assign (v := (.bool false)) (.bool _)) ?_
    refine C_nil ?_
    refine CW_ret ?_
    obtain rfl := Option.some.inj hF
    exact End_ret () (.tmp rfl rfl .nil) rfl (.sel .nil)
  rw [if_neg (by rw [hb29]; exact Bool.false_ne_true)] at hF
  refine CW_skip ?_
  refine CW_region ?_
  refine C_val (V_add (i := (k4 : Int)) (j := 1) (.tmp rfl rfl) (.int _ _)) ?_
  refine C_val (V_move (v := (.int .i64 (IntKind.i64.wrap ((k4 : Int) + 1)))) (.tmp rfl rfl)) ?_
  refine C_nil ?_
  have hw28 : IntKind.i64.wrap ((k4 : Int) + 1) = ((k4 + 1 : Nat) : Int) := by rw [wrap_in (by omega) (by omega)]; rfl
  rw [hw28]
  exact ⟨_, Nat.lt_succ_self _, _, k4 + 1, rest5, rfl, (EqL.cons rfl (EqL.cons rfl (EqL.cons rfl (EqL.cons rfl (EqL.cons rfl (EqL.nil)))))).eq, hd10, (.sel (.rd (.t (.t (.t (.t (.t (.t .h)))))) rfl (.rd (.t (.t (.t (.t (.t (.t (.t .h))))))) rfl .nil))), hF⟩

/-! impl.sameRule -/
def i_sameRule (a_a : Rule) (a_b : Rule) : Option (Bool) :=
  (bif ((a_a.From : Int) == a_b.From) then (bif ((a_a.To : Int) == a_b.To) then ((g_slices_Equal_int_int a_a.Map a_b.Map).bind fun r7 =>
        some r7)
      else (some false))
    else (some false)).bind fun o3 =>
  match o3 with
  | c10 => some c10
theorem i_sameRule_ok (a_a : Rule) (v0_2 : Sv) (a_b : Rule) (v1_2 : Sv) (R : Bool) (hF : i_sameRule a_a a_b = some R) :
    Fw.Spec Try.prog 100 [(.agg [(.int .i64 a_a.From), (.int .i64 a_a.To), v0_2.v].toArray), (.agg [(.int .i64 a_b.From), (.int .i64 a_b.To), v1_2.v].toArray)] [crd (RdS 3 rdInt) v0_2.v a_a.Map, crd (RdS 3 rdInt) v1_2.v a_b.Map] (fun _ : Unit => (.bool R)) (fun _ => []) := by
  refine Spec_enter (n := 24) Try.func100 rfl rfl (rs := [.tmp 4]) rfl rfl rfl ?_
  intro H0 F0
  unfold i_sameRule at hF
  refine K_region ?_
  refine C_newR rfl (N_box (g := false) (v := (.agg [(.int .i64 a_a.From), (.int .i64 a_a.To), v0_2.v].toArray)) ty126.sz (.tmp rfl rfl) rfl) (fun k1 => ?_)
  refine C_newR rfl (N_box (g := false) (v := (.agg [(.int .i64 a_b.From), (.int .i64 a_b.To), v1_2.v].toArray)) ty126.sz (.tmp rfl rfl) rfl) (fun k2 => ?_)
  refine C_val (V_assign (v := (.bool false)) (.bool _)) ?_
  refine C_nil ?_
  obtain ⟨o3, hio3, hO4⟩ := bind_some hF
  refine K_region ?_
  refine C_cut (fun f' cs' => ∃ (c10 : Bool) (g : Fr), c10 = o3 ∧ f' = updL g [(4, (.bool c10))] ∧ Ent cs' []) ?_ ?_
  · replace hF := hio3
    refine C_val (V_fieldAddr (off := 0) fd126_0 (.tmp rfl rfl)) ?_
    refine C_at (.t .h) (fun hp => V_load (v := (.int .i64 a_a.From)) ag3 (.tmp rfl rfl) hp.2 rfl rfl) ?_
    refine C_val (V_fieldAddr (off := 0) fd126_0 (.tmp rfl rfl)) ?_
    refine C_at .h (fun hp => V_load (v := (.int .i64 a_b.From)) ag3 (.tmp rfl rfl) hp.2 rfl rfl) ?_
    refine C_val (V_eql (i := a_a.From) (j := a_b.From) (.tmp rfl rfl) (.tmp rfl rfl)) ?_
    refine C_val (V_move (v := (.bool ((a_a.From : Int) == a_b.From))) (.tmp rfl rfl)) ?_
    rcases Bool.eq_false_or_eq_true ((a_a.From : Int) == a_b.From) with hg5 | hg5
    · rw [hg5]
      try rw [hg5] at hF; dsimp only [cond_true, cond_false] at hF
      refine C_on (t := 10) rfl rfl rfl ?_
      refine C_val (V_fieldAddr (off := 1) fd126_1 (.tmp rfl rfl)) ?_
      refine C_on (t := 10) rfl rfl rfl ?_
      refine C_at (.t .h) (fun hp => V_load (v := (.int .i64 a_a.To)) ag3 (.tmp rfl rfl) hp.2 rfl rfl) ?_
      refine C_on (t := 10) rfl rfl rfl ?_
      refine C_val (V_fieldAddr (off := 1) fd126_1 (.tmp rfl rfl)) ?_
      refine C_on (t := 10) rfl rfl rfl ?_
      refine C_at .h (fun hp => V_load (v := (.int .i64 a_b.To)) ag3 (.tmp rfl rfl) hp.2 rfl rfl) ?_
      refine C_on (t := 10) rfl rfl rfl ?_
      refine C_val (V_eql (i := a_a.To) (j := a_b.To) (.tmp rfl rfl) (.tmp rfl rfl)) ?_
      refine C_val (V_pick (b := true) (u := (.bool ((a_a.To : Int) == a_b.To))) (v := (.bool false)) (.tmp rfl rfl) (.tmp rfl rfl) (.bool _)) ?_
      refine C_val (V_move (v := (.bool ((a_a.To : Int) == a_b.To))) (.tmp rfl rfl)) ?_
      rcases Bool.eq_false_or_eq_true ((a_a.To : Int) == a_b.To) with hg6 | hg6
      · rw [hg6]
        try rw [hg6] at hF; dsimp only [cond_true, cond_false] at hF
        refine C_on (t := 17) rfl rfl rfl ?_
        refine C_val (V_fieldAddr (off := 2) fd126_2 (.tmp rfl rfl)) ?_
        refine C_on (t := 17) rfl rfl rfl ?_
        refine C_at (.t .h) (fun hp => V_load (v := v0_2.v) ag45 (.tmp rfl rfl) hp.2 rfl rfl) ?_
        refine C_on (t := 17) rfl rfl rfl ?_
        refine C_val (V_fieldAddr (off := 2) fd126_2 (.tmp rfl rfl)) ?_
        refine C_on (t := 17) rfl rfl rfl ?_
        refine C_at .h (fun hp => V_load (v := v1_2.v) ag45 (.tmp rfl rfl) hp.2 rfl rfl) ?_
        refine C_on (t := 17) rfl rfl rfl ?_
        obtain ⟨r7, hx8, hF⟩ := bind_some hF
        refine C_x0 (.rd (.t (.t .h)) rfl (.rd (.t (.t (.t .h))) rfl .nil)) (X_callS cf96 (.cons (.tmp rfl rfl) (.cons (.tmp rfl rfl) .nil)) (g_slices_Equal_int_int_ok a_a.Map v0_2 a_b.Map v1_2 _ hx8)) (fun _ => ?_)
        refine C_val (V_pick (b := true) (u := (.bool r7)) (v := (.bool false)) (.tmp rfl rfl) (.tmp rfl rfl) (.bool _)) ?_
        refine C_val (V_assign (v := (.bool r7)) (.tmp rfl rfl)) ?_
        refine C_nil ?_
        obtain rfl := Option.some.inj hF
        exact ⟨_, _, rfl, (EqL.cons rfl (EqL.nil)).eq, (.sel .nil)⟩
      rw [hg6]
      try rw [hg6] at hF; dsimp only [cond_true, cond_false] at hF
      refine C_off (t := 17) rfl rfl rfl ?_
      refine C_off (t := 17) rfl rfl rfl ?_
      refine C_off (t := 17) rfl rfl rfl ?_
      refine C_off (t := 17) rfl rfl rfl ?_
      refine C_off (t := 17) rfl rfl rfl ?_
      refine C_val (V_pick (b := false) (u := undef) (v := (.bool false)) (.tmp rfl rfl) (.tmp rfl rfl) (.bool _)) ?_
      refine C_val (V_assign (v := (.bool false)) (.tmp rfl rfl)) ?_
      refine C_nil ?_
      obtain rfl := Option.some.inj hF
      exact ⟨_, _, rfl, (EqL.cons rfl (EqL.nil)).eq, (.sel .nil)⟩
    rw [hg5]
    try rw [hg5] at hF; dsimp only [cond_true, cond_false] at hF
    refine C_off (t := 10) rfl rfl rfl ?_
    refine C_off (t := 10) rfl rfl rfl ?_
    refine C_off (t := 10) rfl rfl rfl ?_
    refine C_off (t := 10) rfl rfl rfl ?_
    refine C_off (t := 10) rfl rfl rfl ?_
    refine C_val (V_pick (b := false) (u := undef) (v := (.bool false)) (.tmp rfl rfl) (.tmp rfl rfl) (.bool _)) ?_
    refine C_val (V_move (v := (.bool false)) (.tmp rfl rfl)) ?_
    refine C_off (t := 17) rfl rfl rfl ?_
    refine C_off (t := 17) rfl rfl rfl ?_
    refine C_off (t := 17) rfl rfl rfl ?_
    refine C_off (t := 17) rfl rfl rfl ?_
    refine C_off (t := 17) rfl rfl rfl ?_
    refine C_val (V_pick (b := false) (u := undef) (v := (.bool false)) (.tmp rfl rfl) (.tmp rfl rfl) (.bool _)) ?_
    refine C_val (V_assign (v := (.bool false)) (.tmp rfl rfl)) ?_
    refine C_nil ?_
    obtain rfl := Option.some.inj hF
    exact ⟨_, _, rfl, (EqL.cons rfl (EqL.nil)).eq, (.sel .nil)⟩
  rintro _ _ ⟨c10, g11, rfl, rfl, hE⟩
  replace hF := hO4
  clear hO4
  try dsimp only at hF
  refine K_ent hE ?_
  refine CW_ret ?_
  obtain rfl := Option.some.inj hF
  exact End_ret () (.tmp rfl rfl .nil) rfl (.sel .nil)

/-! impl.Rule] -/
def g_slices_EqualFunc_impl_Rule_impl_Rule_impl_Rule_impl_Rule_isameRule_L1 (a_s2 : List Rule) : List Rule → Nat → Option (Bool)
  | [], k4 => some true
  | x6 :: rest5, k4 => (ix a_s2 (k4 : Int)).bind fun x17 =>
    (i_sameRule x6 x17).bind fun r25 =>
    if (!r25) then (
      some false)
    else (
      g_slices_EqualFunc_impl_Rule_impl_Rule_impl_Rule_impl_Rule_isameRule_L1 a_s2 rest5 (k4 + 1))
def g_slices_EqualFunc_impl_Rule_impl_Rule_impl_Rule_impl_Rule_isameRule (a_s1 : List Rule) (a_s2 : List Rule) : Option (Bool) :=
  if (((a_s1.length : Int) : Int) != (a_s2.length : Int)) then (
    some false)
  else (
    g_slices_EqualFunc_impl_Rule_impl_Rule_impl_Rule_impl_Rule_isameRule_L1 a_s2 a_s1 0)
theorem g_slices_EqualFunc_impl_Rule_impl_Rule_impl_Rule_impl_Rule_isameRule_ok (a_s1 : List Rule) (v0_0 : Sv) (a_s2 : List Rule) (v1_0 : Sv) (R : Bool) (hF : g_slices_EqualFunc_impl_Rule_impl_Rule_impl_Rule_impl_Rule_isameRule a_s1 a_s2 = some R) :
    Fw.Spec Try.prog 99 [v0_0.v, v1_0.v, (.func (.func 100) [].toArray [].toArray)] [crd (RdS 126 rd126) v0_0.v a_s1, crd (RdS 126 rd126) v1_0.v a_s2] (fun _ : Unit => (.bool R)) (fun _ => []) := by
  refine Spec_enter (n := 32) Try.func99 rfl rfl (rs := [.tmp 6]) rfl rfl rfl ?_
  intro H0 F0
  unfold g_slices_EqualFunc_impl_Rule_impl_Rule_impl_Rule_impl_Rule_isameRule at hF
  refine K_region ?_
  refine C_val (V_assign (v := (.bool false)) (.bool _)) ?_
  refine C_nil ?_
  refine K_in ?_
  refine K_region ?_
  refine C_val (V_move (v := v0_0.v) (.tmp rfl rfl)) ?_
  refine C_at .h (fun hp => V_lenR (l := a_s1.length) sl46 (.tmp rfl rfl) (crd_len hp)) ?_
  refine C_val (V_move (v := v1_0.v) (.tmp rfl rfl)) ?_
  refine C_at (.t .h) (fun hp => V_lenR (l := a_s2.length) sl46 (.tmp rfl rfl) (crd_len hp)) ?_
  refine C_val (V_neq (i := (a_s1.length : Int)) (j := (a_s2.length : Int)) (.tmp rfl rfl) (.tmp rfl rfl)) ?_
  refine C_nil ?_
  refine CW_cond (b := (((a_s1.length : Int) : Int) != (a_s2.length : Int))) (.tmp rfl rfl) (fun hb30 => ?_) (fun hb30 => ?_)
  · rw [if_pos hb30] at hF
    refine K_region ?_
    refine C_val (V_assign (v := (.bool false)) (.bool _)) ?_
    refine C_nil ?_
    refine CW_ret ?_
    obtain rfl := Option.some.inj hF
    exact End_ret () (.tmp rfl rfl .nil) rfl (.sel .nil)
  rw [if_neg (by rw [hb30]; exact Bool.false_ne_true)] at hF
  refine CW_skip ?_
  refine K_in ?_
  refine K_region ?_
  refine C_val (V_move (v := v0_0.v) (.tmp rfl rfl)) ?_
  refine C_at .h (fun hp => V_lenR (l := a_s1.length) sl46 (.tmp rfl rfl) (crd_len hp)) ?_
  refine C_val (V_move (v := (.int .i64 0)) (.int _ _)) ?_
  refine C_nil ?_
  refine CW_block ?_
  refine CW_loop (m := a_s1.length) (fun m2 f' cs' => ∃ (g : Fr) (k4 : Nat) (rest5 : List Rule), m2 = rest5.length ∧ f' = updL g [(1, v1_0.v), (2, (.func (.func 100) [].toArray [].toArray)), (15, v0_0.v), (16, (.int .i64 (a_s1.length : Int))), (17, (.int .i64 (k4 : Int)))] ∧ List.drop k4 a_s1 = rest5 ∧ Ent cs' [crd (RdS 126 rd126) v1_0.v a_s2, crd (RdS 126 rd126) v0_0.v a_s1] ∧ g_slices_EqualFunc_impl_Rule_impl_Rule_impl_Rule_impl_Rule_isameRule_L1 a_s2 rest5 k4 = some R) ⟨_, 0, _, rfl, (EqL.cons rfl (EqL.cons rfl (EqL.cons rfl (EqL.cons rfl (EqL.cons rfl (EqL.nil)))))).eq, rfl, (.sel (.rd (.t .h) rfl (.rd .h rfl .nil))), hF⟩ ?_
  clear hF
  rintro m2 _ _ ⟨g3, k4, rest5, rfl, rfl, hd7, hE, hF⟩
  refine K_ent hE ?_
  clear hE
  refine K_pure (c := crd (RdS 126 rd126) v0_0.v a_s1) (.t .h) crd_bound (fun hbd12 => ?_)
  rcases rest5 with _ | ⟨x6, rest5⟩
  · have hk8 := List.drop_eq_nil_iff.1 hd7
    have hfe11 : (decide (((k4 : Int) : Int) < (a_s1.length : Int))) = false := decide_eq_false (by omega)
    rw [g_slices_EqualFunc_impl_Rule_impl_Rule_impl_Rule_impl_Rule_isameRule_L1] at hF
    refine K_region ?_
    refine C_val (V_lss (i := (k4 : Int)) (j := (a_s1.length : Int)) (.tmp rfl rfl) (.tmp rfl rfl)) ?_
    refine C_nil ?_
    refine K_in ?_
    refine CW_cond (b := (decide (((k4 : Int) : Int) < (a_s1.length : Int)))) (.tmp rfl rfl) (fun hb => absurd (hfe11.symm.trans hb) (by decide)) (fun _ => ?_)
    refine CW_exit ?_
    refine CThen_exit ?_
    refine CThen_exit ?_
    refine CIn_self ?_
    refine K_region ?_
    refine C_val (V_assign (v := (.bool true)) (.bool _)) ?_
    refine C_nil ?_
    refine CW_ret ?_
    obtain rfl := Option.some.inj hF
    exact End_ret () (.tmp rfl rfl .nil) rfl (.sel .nil)
  obtain ⟨hk8, hx9, hd10⟩ := drop_cons hd7
  have hfe11 : (decide (((k4 : Int) : Int) < (a_s1.length : Int))) = true := decide_eq_true (by omega)
  rw [g_slices_EqualFunc_impl_Rule_impl_Rule_impl_Rule_impl_Rule_isameRule_L1] at hF
  refine K_region ?_
  refine C_val (V_lss (i := (k4 : Int)) (j := (a_s1.length : Int)) (.tmp rfl rfl) (.tmp rfl rfl)) ?_
  refine C_nil ?_
  refine K_in ?_
  refine CW_cond (b := (decide (((k4 : Int) : Int) < (a_s1.length : Int)))) (.tmp rfl rfl) (fun _ => ?_) (fun hb => absurd (hfe11.symm.trans hb) (by decide))
  refine CW_skip ?_
  refine K_block ?_
  refine K_region ?_
  refine C_val (V_move (v := (.int .i64 (k4 : Int))) (.tmp rfl rfl)) ?_
  refine C_idx (a := x6) sl46 ty126.sz (.tmp rfl rfl) (.tmp rfl rfl) (.t .h) (Int.natCast_nonneg k4) hx9 (fun k13 j14 => ?_)
  refine C_ldA1 (ul126_0_126 x6) ag126 ty126.sz rfl (.tmp rfl rfl) .h la126_0_126 (fun p15 => ?_)
  refine C_new rfl (N_allocT (g := true) ty126 rfl rfl) (fun k16 => ?_)
  refine C_val (V_assign (v := (.int .i64 (k4 : Int))) (.tmp rfl rfl)) ?_
  refine C_x1 (.cons .h .nil) (X_storeB (e := (.agg [(.int .i64 0), (.int .i64 0), (.slice none 0 0)].toArray)) (e' := (.agg [(.int .i64 x6.From), (.int .i64 x6.To), p15.v].toArray)) (v := (.agg [(.int .i64 x6.From), (.int .i64 x6.To), p15.v].toArray)) ty126.sz (.tmp rfl rfl) (.tmp rfl rfl) rfl rfl rfl rfl rfl) (fun _ => ?_)
  refine C_nil ?_
  refine K_region ?_
  refine C_val (V_move (v := v1_0.v) (.tmp rfl rfl)) ?_
  refine C_val (V_move (v := (.int .i64 (k4 : Int))) (.tmp rfl rfl)) ?_
  obtain ⟨x17, hx18, hF⟩ := bind_some hF
  obtain ⟨hp19, hx20⟩ := ix_some hx18
  refine C_idx (a := x17) sl46 ty126.sz (.tmp rfl rfl) (.tmp rfl rfl) (.t (.t (.t .h))) hp19 hx20 (fun k21 j22 => ?_)
  refine C_ldA1 (ul126_0_126 x17) ag126 ty126.sz rfl (.tmp rfl rfl) .h la126_0_126 (fun p23 => ?_)
  refine C_new rfl (N_allocT (g := true) ty126 rfl rfl) (fun k24 => ?_)
  refine C_x1 (.cons .h .nil) (X_storeB (e := (.agg [(.int .i64 0), (.int .i64 0), (.slice none 0 0)].toArray)) (e' := (.agg [(.int .i64 x17.From), (.int .i64 x17.To), p23.v].toArray)) (v := (.agg [(.int .i64 x17.From), (.int .i64 x17.To), p23.v].toArray)) ty126.sz (.tmp rfl rfl) (.tmp rfl rfl) rfl rfl rfl rfl rfl) (fun _ => ?_)
  refine C_nil ?_
  refine K_region ?_
  refine C_val (V_move (v := (.func (.func 100) [].toArray [].toArray)) (.tmp rfl rfl)) ?_
  refine C_at (.t (.t (.t .h))) (fun hp => V_loadBox ag126 ty126.sz rfl (.tmp rfl rfl) hp.2 rfl) ?_
  refine C_at .h (fun hp => V_loadBox ag126 ty126.sz rfl (.tmp rfl rfl) hp.2 rfl) ?_
  obtain ⟨r25, hx26, hF⟩ := bind_some hF
  refine C_x0 (.rd (.t (.t (.t (.t .h)))) rfl (.rd (.t .h) rfl .nil)) (X_callCS cf100 (.tmp rfl rfl) (.cons (.tmp rfl rfl) (.cons (.tmp rfl rfl) .nil)) (i_sameRule_ok x6 p15 x17 p23 _ hx26)) (fun _ => ?_)
  refine C_val (V_not (b := r25) (.tmp rfl rfl)) ?_
  refine C_nil ?_
  refine CW_cond (b := (!r25)) (.tmp rfl rfl) (fun hb29 => ?_) (fun hb29 => ?_)
  · rw [if_pos hb29] at hF
    refine K_region ?_
    refine C_val (V_assign (v := (.bool false)) (.bool _)) ?_
    refine C_nil ?_
    refine CW_ret ?_
    obtain rfl := Option.some.inj hF
    exact End_ret () (.tmp rfl rfl .nil) rfl (.sel .nil)
  rw [if_neg (by rw [hb29]; exact Bool.false_ne_true)] at hF
  refine CW_skip ?_
  refine CW_region ?_
  refine C_val (V_add (i := (k4 : Int)) (j := 1) (.tmp rfl rfl) (.int _ _)) ?_
  refine C_val (V_move (v := (.int .i64 (IntKind.i64.wrap ((k4 : Int) + 1)))) (.tmp rfl rfl)) ?_
  refine C_nil ?_
  have hw28 : IntKind.i64.wrap ((k4 : Int) + 1) = ((k4 + 1 : Nat) : Int) := by rw [wrap_in (by omega) (by omega)]; rfl
  rw [hw28]
  exact ⟨_, Nat.lt_succ_self _, _, k4 + 1, rest5, rfl, (EqL.cons rfl (EqL.cons rfl (EqL.cons rfl (EqL.cons rfl (EqL.cons rfl (EqL.nil)))))).eq, hd10, (.sel (.rd (.t (.t (.t (.t (.t (.t .h)))))) rfl (.rd (.t (.t (.t (.t (.t (.t (.t .h))))))) rfl .nil))), hF⟩

/-! cmp.isNaN[int] -/
def g_cmp_isNaN_int (a_x : Int) : Option (Bool) :=
  some ((a_x : Int) != a_x)
theorem g_cmp_isNaN_int_ok (a_x : Int) (R : Bool) (hF : g_cmp_isNaN_int a_x = some R) :
    Fw.Spec Try.prog 171 [(.int .i64 a_x)] [] (fun _ : Unit => (.bool R)) (fun _ => []) := by
  refine Spec_enter (n := 6) Try.func171 rfl rfl (rs := [.tmp 2]) rfl rfl rfl ?_
  intro H0 F0
  unfold g_cmp_isNaN_int at hF
  refine K_region ?_
  refine C_val (V_assign (v := (.bool false)) (.bool _)) ?_
  refine C_nil ?_
  refine K_region ?_
  refine C_val (V_move (v := (.int .i64 a_x)) (.tmp rfl rfl)) ?_
  refine C_val (V_move (v := (.int .i64 a_x)) (.tmp rfl rfl)) ?_
  refine C_val (V_neq (i := a_x) (j := a_x) (.tmp rfl rfl) (.tmp rfl rfl)) ?_
  refine C_val (V_assign (v := (.bool ((a_x : Int) != a_x))) (.tmp rfl rfl)) ?_
  refine C_nil ?_
  refine CW_ret ?_
  obtain rfl := Option.some.inj hF
  exact End_ret () (.tmp rfl rfl .nil) rfl (.sel .nil)

/-! cmp.Compare[int] -/
def g_cmp_Compare_int (a_x : Int) (a_y : Int) : Option (Int) :=
  (g_cmp_isNaN_int a_x).bind fun r1 =>
  (g_cmp_isNaN_int a_y).bind fun r4 =>
  if r1 then (
    if r4 then (
      some 0)
    else (
      some (-1)))
  else (
    if r4 then (
      some 1)
    else (
      if (decide ((a_x : Int) < a_y)) then (
        some (-1))
      else (
        if (decide ((a_y : Int) < a_x)) then (
          some 1)
        else (
          some 0))))
theorem g_cmp_Compare_int_ok (a_x : Int) (a_y : Int) (R : Int) (hF : g_cmp_Compare_int a_x a_y = some R) :
    Fw.Spec Try.prog 164 [(.int .i64 a_x), (.int .i64 a_y)] [] (fun _ : Unit => (.int .i64 R)) (fun _ => []) := by
  refine Spec_enter (n := 20) Try.func164 rfl rfl (rs := [.tmp 4]) rfl rfl rfl ?_
  intro H0 F0
  unfold g_cmp_Compare_int at hF
  refine K_region ?_
  refine C_val (V_assign (v := (.int .i64 0)) (.int _ _)) ?_
  refine C_nil ?_
  refine K_region ?_
  refine C_val (V_move (v := (.int .i64 a_x)) (.tmp rfl rfl)) ?_
  obtain ⟨r1, hx2, hF⟩ := bind_some hF
  refine C_x0 .nil (X_callS cf171 (.cons (.tmp rfl rfl) .nil) (g_cmp_isNaN_int_ok a_x _ hx2)) (fun _ => ?_)
  refine C_val (V_assign (v := (.bool r1)) (.tmp rfl rfl)) ?_
  refine C_nil ?_
  refine K_region ?_
  refine C_val (V_move (v := (.int .i64 a_y)) (.tmp rfl rfl)) ?_
  obtain ⟨r4, hx5, hF⟩ := bind_some hF
  refine C_x0 .nil (X_callS cf171 (.cons (.tmp rfl rfl) .nil) (g_cmp_isNaN_int_ok a_y _ hx5)) (fun _ => ?_)
  refine C_val (V_assign (v := (.bool r4)) (.tmp rfl rfl)) ?_
  refine C_nil ?_
  refine K_in ?_
  refine K_region ?_
  refine C_val (V_move (v := (.bool r1)) (.tmp rfl rfl)) ?_
  refine C_nil ?_
  refine CW_cond (b := r1) (.tmp rfl rfl) (fun hb11 => ?_) (fun hb11 => ?_)
  · rw [if_pos hb11] at hF
    refine K_in ?_
    refine K_region ?_
    refine C_val (V_move (v := (.bool r4)) (.tmp rfl rfl)) ?_
    refine C_nil ?_
    refine CW_cond (b := r4) (.tmp rfl rfl) (fun hb7 => ?_) (fun hb7 => ?_)
    · rw [if_pos hb7] at hF
      refine K_region ?_
      refine C_val (V_assign (v := (.int .i64 0)) (.int _ _)) ?_
      refine C_nil ?_
      refine CW_ret ?_
      obtain rfl := Option.some.inj hF
      exact End_ret () (.tmp rfl rfl .nil) rfl (.sel .nil)
    rw [if_neg (by rw [hb7]; exact Bool.false_ne_true)] at hF
    refine CW_skip ?_
    refine K_region ?_
    refine C_val (V_assign (v := (.int .i64 (-1))) (.int _ _)) ?_
    refine C_nil ?_
    refine CW_ret ?_
    obtain rfl := Option.some.inj hF
    exact End_ret () (.tmp rfl rfl .nil) rfl (.sel .nil)
  rw [if_neg (by rw [hb11]; exact Bool.false_ne_true)] at hF
  refine CW_skip ?_
  refine K_in ?_
  refine K_region ?_
  refine C_val (V_move (v := (.bool r4)) (.tmp rfl rfl)) ?_
  refine C_nil ?_
  refine CW_cond (b := r4) (.tmp rfl rfl) (fun hb10 => ?_) (fun hb10 => ?_)
  · rw [if_pos hb10] at hF
    refine K_region ?_
    refine C_val (V_assign (v := (.int .i64 1)) (.int _ _)) ?_
    refine C_nil ?_
    refine CW_ret ?_
    obtain rfl := Option.some.inj hF
    exact End_ret () (.tmp rfl rfl .nil) rfl (.sel .nil)
  rw [if_neg (by rw [hb10]; exact Bool.false_ne_true)] at hF
  refine CW_skip ?_
  refine K_in ?_
  refine K_region ?_
  refine C_val (V_move (v := (.int .i64 a_x)) (.tmp rfl rfl)) ?_
  refine C_val (V_move (v := (.int .i64 a_y)) (.tmp rfl rfl)) ?_
  refine C_val (V_lss (i := a_x) (j := a_y) (.tmp rfl rfl) (.tmp rfl rfl)) ?_
  refine C_nil ?_
  refine CW_cond (b := (decide ((a_x : Int) < a_y))) (.tmp rfl rfl) (fun hb9 => ?_) (fun hb9 => ?_)
  · rw [if_pos hb9] at hF
    refine K_region ?_
    refine C_val (V_assign (v := (.int .i64 (-1))) (.int _ _)) ?_
    refine C_nil ?_
    refine CW_ret ?_
    obtain rfl := Option.some.inj hF
    exact End_ret () (.tmp rfl rfl .nil) rfl (.sel .nil)
  rw [if_neg (by rw [hb9]; exact Bool.false_ne_true)] at hF
  refine CW_skip ?_
  refine K_in ?_
  refine K_region ?_
  refine C_val (V_move (v := (.int .i64 a_x)) (.tmp rfl rfl)) ?_
  refine C_val (V_move (v := (.int .i64 a_y)) (.tmp rfl rfl)) ?_
  refine C_val (V_gtr (i := a_x) (j := a_y) (.tmp rfl rfl) (.tmp rfl rfl)) ?_
  refine C_nil ?_
  refine CW_cond (b := (decide ((a_y : Int) < a_x))) (.tmp rfl rfl) (fun hb8 => ?_) (fun hb8 => ?_)
  · rw [if_pos hb8] at hF
    refine K_region ?_
    refine C_val (V_assign (v := (.int .i64 1)) (.int _ _)) ?_
    refine C_nil ?_
    refine CW_ret ?_
    obtain rfl := Option.some.inj hF
    exact End_ret () (.tmp rfl rfl .nil) rfl (.sel .nil)
  rw [if_neg (by rw [hb8]; exact Bool.false_ne_true)] at hF
  refine CW_skip ?_
  refine K_region ?_
  refine C_val (V_assign (v := (.int .i64 0)) (.int _ _)) ?_
  refine C_nil ?_
  refine CW_ret ?_
  obtain rfl := Option.some.inj hF
  exact End_ret () (.tmp rfl rfl .nil) rfl (.sel .nil)

/-! slices.Compare[[]int,int] -/
def g_slices_Compare_int_int_L1 (a_s1 : List Int) (a_s2 : List Int) : List Int → Nat → Option (Int)
  | [], k4 => if (decide (((a_s1.length : Int) : Int) < (a_s2.length : Int))) then (
      some (-1))
    else (
      some 0)
  | x6 :: rest5, k4 => if (decide (((a_s2.length : Int) : Int) ≤ (k4 : Int))) then (
      some 1)
    else (
      (ix a_s2 (k4 : Int)).bind fun x16 =>
      (g_cmp_Compare_int x6 x16).bind fun r22 =>
      if ((r22 : Int) != 0) then (
        some r22)
      else (
        g_slices_Compare_int_int_L1 a_s1 a_s2 rest5 (k4 + 1)))
def g_slices_Compare_int_int (a_s1 : List Int) (a_s2 : List Int) : Option (Int) :=
  g_slices_Compare_int_int_L1 a_s1 a_s2 a_s1 0
theorem g_slices_Compare_int_int_ok (a_s1 : List Int) (v0_0 : Sv) (a_s2 : List Int) (v1_0 : Sv) (R : Int) (hF : g_slices_Compare_int_int a_s1 a_s2 = some R) :
    Fw.Spec Try.prog 165 [v0_0.v, v1_0.v] [crd (RdS 3 rdInt) v0_0.v a_s1, crd (RdS 3 rdInt) v1_0.v a_s2] (fun _ : Unit => (.int .i64 R)) (fun _ => []) := by
  refine Spec_enter (n := 36) Try.func165 rfl rfl (rs := [.tmp 4]) rfl rfl rfl ?_
  intro H0 F0
  unfold g_slices_Compare_int_int at hF
  refine K_region ?_
  refine C_val (V_assign (v := (.int .i64 0)) (.int _ _)) ?_
  refine C_nil ?_
  refine K_in ?_
  refine K_region ?_
  refine C_val (V_move (v := v0_0.v) (.tmp rfl rfl)) ?_
  refine C_at .h (fun hp => V_lenR (l := a_s1.length) sl45 (.tmp rfl rfl) (crd_len hp)) ?_
  refine C_val (V_move (v := (.int .i64 0)) (.int _ _)) ?_
  refine C_nil ?_
  refine CW_block ?_
  refine CW_loop (m := a_s1.length) (fun m2 f' cs' => ∃ (g : Fr) (k4 : Nat) (rest5 : List Int), m2 = rest5.length ∧ f' = updL g [(0, v0_0.v), (1, v1_0.v), (9, v0_0.v), (10, (.int .i64 (a_s1.length : Int))), (11, (.int .i64 (k4 : Int)))] ∧ List.drop k4 a_s1 = rest5 ∧ Ent cs' [crd (RdS 3 rdInt) v0_0.v a_s1, crd (RdS 3 rdInt) v1_0.v a_s2] ∧ g_slices_Compare_int_int_L1 a_s1 a_s2 rest5 k4 = some R) ⟨_, 0, _, rfl, (EqL.cons rfl (EqL.cons rfl (EqL.cons rfl (EqL.cons rfl (EqL.cons rfl (EqL.nil)))))).eq, rfl, (.sel (.rd .h rfl (.rd (.t .h) rfl .nil))), hF⟩ ?_
  clear hF
  rintro m2 _ _ ⟨g3, k4, rest5, rfl, rfl, hd7, hE, hF⟩
  refine K_ent hE ?_
  clear hE
  refine K_pure (c := crd (RdS 3 rdInt) v0_0.v a_s1) .h crd_bound (fun hbd12 => ?_)
  rcases rest5 with _ | ⟨x6, rest5⟩
  · have hk8 := List.drop_eq_nil_iff.1 hd7
    have hfe11 : (decide (((k4 : Int) : Int) < (a_s1.length : Int))) = false := decide_eq_false (by omega)
    rw [g_slices_Compare_int_int_L1] at hF
    refine K_region ?_
    refine C_val (V_lss (i := (k4 : Int)) (j := (a_s1.length : Int)) (.tmp rfl rfl) (.tmp rfl rfl)) ?_
    refine C_nil ?_
    refine K_in ?_
    refine CW_cond (b := (decide (((k4 : Int) : Int) < (a_s1.length : Int)))) (.tmp rfl rfl) (fun hb => absurd (hfe11.symm.trans hb) (by decide)) (fun _ => ?_)
    refine CW_exit ?_
    refine CThen_exit ?_
    refine CThen_exit ?_
    refine CIn_self ?_
    refine K_in ?_
    refine K_region ?_
    refine C_val (V_move (v := v0_0.v) (.tmp rfl rfl)) ?_
    refine C_at .h (fun hp => V_lenR (l := a_s1.length) sl45 (.tmp rfl rfl) (crd_len hp)) ?_
    refine C_val (V_move (v := v1_0.v) (.tmp rfl rfl)) ?_
    refine C_at (.t .h) (fun hp => V_lenR (l := a_s2.length) sl45 (.tmp rfl rfl) (crd_len hp)) ?_
    refine C_val (V_lss (i := (a_s1.length : Int)) (j := (a_s2.length : Int)) (.tmp rfl rfl) (.tmp rfl rfl)) ?_
    refine C_nil ?_
    refine CW_cond (b := (decide (((a_s1.length : Int) : Int) < (a_s2.length : Int)))) (.tmp rfl rfl) (fun hb13 => ?_) (fun hb13 => ?_)
    · rw [if_pos hb13] at hF
      refine K_region ?_
      refine C_val (V_assign (v := (.int .i64 (-1))) (.int _ _)) ?_
      refine C_nil ?_
      refine CW_ret ?_
      obtain rfl := Option.some.inj hF
      exact End_ret () (.tmp rfl rfl .nil) rfl (.sel .nil)
    rw [if_neg (by rw [hb13]; exact Bool.false_ne_true)] at hF
    refine CW_skip ?_
    refine K_region ?_
    refine C_val (V_assign (v := (.int .i64 0)) (.int _ _)) ?_
    refine C_nil ?_
    refine CW_ret ?_
    obtain rfl := Option.some.inj hF
    exact End_ret () (.tmp rfl rfl .nil) rfl (.sel .nil)
  obtain ⟨hk8, hx9, hd10⟩ := drop_cons hd7
  have hfe11 : (decide (((k4 : Int) : Int) < (a_s1.length : Int))) = true := decide_eq_true (by omega)
  rw [g_slices_Compare_int_int_L1] at hF
  refine K_region ?_
  refine C_val (V_lss (i := (k4 : Int)) (j := (a_s1.length : Int)) (.tmp rfl rfl) (.tmp rfl rfl)) ?_
  refine C_nil ?_
  refine K_in ?_
  refine CW_cond (b := (decide (((k4 : Int) : Int) < (a_s1.length : Int)))) (.tmp rfl rfl) (fun _ => ?_) (fun hb => absurd (hfe11.symm.trans hb) (by decide))
  refine CW_skip ?_
  refine K_block ?_
  refine K_region ?_
  refine C_val (V_move (v := (.int .i64 (k4 : Int))) (.tmp rfl rfl)) ?_
  refine C_idx (a := x6) sl45 ty3.sz (.tmp rfl rfl) (.tmp rfl rfl) .h (Int.natCast_nonneg k4) hx9 (fun k14 j15 => ?_)
  refine C_ldS (w := (.int .i64 x6)) ag3 (.tmp rfl rfl) .h ls3_0 ?_
  refine C_val (V_assign (v := (.int .i64 (k4 : Int))) (.tmp rfl rfl)) ?_
  refine C_val (V_assign (v := (.int .i64 x6)) (.tmp rfl rfl)) ?_
  refine C_nil ?_
  refine K_in ?_
  refine K_region ?_
  refine C_val (V_move (v := (.int .i64 (k4 : Int))) (.tmp rfl rfl)) ?_
  refine C_val (V_move (v := v1_0.v) (.tmp rfl rfl)) ?_
  refine C_at (.t (.t .h)) (fun hp => V_lenR (l := a_s2.length) sl45 (.tmp rfl rfl) (crd_len hp)) ?_
  refine C_val (V_geq (i := (k4 : Int)) (j := (a_s2.length : Int)) (.tmp rfl rfl) (.tmp rfl rfl)) ?_
  refine C_nil ?_
  refine CW_cond (b := (decide (((a_s2.length : Int) : Int) ≤ (k4 : Int)))) (.tmp rfl rfl) (fun hb27 => ?_) (fun hb27 => ?_)
  · rw [if_pos hb27] at hF
    refine K_region ?_
    refine C_val (V_assign (v := (.int .i64 1)) (.int _ _)) ?_
    refine C_nil ?_
    refine CW_ret ?_
    obtain rfl := Option.some.inj hF
    exact End_ret () (.tmp rfl rfl .nil) rfl (.sel .nil)
  rw [if_neg (by rw [hb27]; exact Bool.false_ne_true)] at hF
  refine CW_skip ?_
  refine K_region ?_
  refine C_val (V_move (v := v1_0.v) (.tmp rfl rfl)) ?_
  refine C_val (V_move (v := (.int .i64 (k4 : Int))) (.tmp rfl rfl)) ?_
  obtain ⟨x16, hx17, hF⟩ := bind_some hF
  obtain ⟨hp18, hx19⟩ := ix_some hx17
  refine C_idx (a := x16) sl45 ty3.sz (.tmp rfl rfl) (.tmp rfl rfl) (.t (.t .h)) hp18 hx19 (fun k20 j21 => ?_)
  refine C_ldS (w := (.int .i64 x16)) ag3 (.tmp rfl rfl) .h ls3_0 ?_
  refine C_val (V_assign (v := (.int .i64 x16)) (.tmp rfl rfl)) ?_
  refine C_nil ?_
  refine K_region ?_
  refine C_val (V_move (v := (.int .i64 x6)) (.tmp rfl rfl)) ?_
  refine C_val (V_move (v := (.int .i64 x16)) (.tmp rfl rfl)) ?_
  obtain ⟨r22, hx23, hF⟩ := bind_some hF
  refine C_x0 .nil (X_callS cf164 (.cons (.tmp rfl rfl) (.cons (.tmp rfl rfl) .nil)) (g_cmp_Compare_int_ok x6 x16 _ hx23)) (fun _ => ?_)
  refine C_val (V_assign (v := (.int .i64 r22)) (.tmp rfl rfl)) ?_
  refine C_nil ?_
  refine K_region ?_
  refine C_val (V_move (v := (.int .i64 r22)) (.tmp rfl rfl)) ?_
  refine C_val (V_neq (i := r22) (j := 0) (.tmp rfl rfl) (.int _ _)) ?_
  refine C_nil ?_
  refine CW_cond (b := ((r22 : Int) != 0)) (.tmp rfl rfl) (fun hb26 => ?_) (fun hb26 => ?_)
  · rw [if_pos hb26] at hF
    refine K_region ?_
    refine C_val (V_move (v := (.int .i64 r22)) (.tmp rfl rfl)) ?_
    refine C_val (V_assign (v := (.int .i64 r22)) (.tmp rfl rfl)) ?_
    refine C_nil ?_
    refine CW_ret ?_
    obtain rfl := Option.some.inj hF
    exact End_ret () (.tmp rfl rfl .nil) rfl (.sel .nil)
  rw [if_neg (by rw [hb26]; exact Bool.false_ne_true)] at hF
  refine CW_skip ?_
  refine CW_region ?_
  refine C_val (V_add (i := (k4 : Int)) (j := 1) (.tmp rfl rfl) (.int _ _)) ?_
  refine C_val (V_move (v := (.int .i64 (IntKind.i64.wrap ((k4 : Int) + 1)))) (.tmp rfl rfl)) ?_
  refine C_nil ?_
  have hw25 : IntKind.i64.wrap ((k4 : Int) + 1) = ((k4 + 1 : Nat) : Int) := by rw [wrap_in (by omega) (by omega)]; rfl
  rw [hw25]
  exact ⟨_, Nat.lt_succ_self _, _, k4 + 1, rest5, rfl, (EqL.cons rfl (EqL.cons rfl (EqL.cons rfl (EqL.cons rfl (EqL.cons rfl (EqL.nil)))))).eq, hd10, (.sel (.rd (.t (.t .h)) rfl (.rd (.t (.t (.t .h))) rfl .nil))), hF⟩

/-! cmp.Or[int] -/
def g_cmp_Or_int_L1 : List Int → Nat → Option (Int)
  | [], k4 => some 0
  | x6 :: rest5, k4 => if ((x6 : Int) != 0) then (
      some x6)
    else (
      g_cmp_Or_int_L1 rest5 (k4 + 1))
def g_cmp_Or_int (a_vals : List Int) : Option (Int) :=
  g_cmp_Or_int_L1 a_vals 0
theorem g_cmp_Or_int_ok (a_vals : List Int) (v0_0 : Sv) (R : Int) (hF : g_cmp_Or_int a_vals = some R) :
    Fw.Spec Try.prog 163 [v0_0.v] [crd (RdS 3 rdInt) v0_0.v a_vals] (fun _ : Unit => (.int .i64 R)) (fun _ => []) := by
  refine Spec_enter (n := 18) Try.func163 rfl rfl (rs := [.tmp 2]) rfl rfl rfl ?_
  intro H0 F0
  unfold g_cmp_Or_int at hF
  refine K_region ?_
  refine C_val (V_assign (v := (.int .i64 0)) (.int _ _)) ?_
  refine C_nil ?_
  refine K_region ?_
  refine C_val (V_assign (v := (.int .i64 0)) (.int _ _)) ?_
  refine C_nil ?_
  refine K_in ?_
  refine K_region ?_
  refine C_val (V_move (v := v0_0.v) (.tmp rfl rfl)) ?_
  refine C_at .h (fun hp => V_lenR (l := a_vals.length) sl45 (.tmp rfl rfl) (crd_len hp)) ?_
  refine C_val (V_move (v := (.int .i64 0)) (.int _ _)) ?_
  refine C_nil ?_
  refine CW_block ?_
  refine CW_loop (m := a_vals.length) (fun m2 f' cs' => ∃ (g : Fr) (k4 : Nat) (rest5 : List Int), m2 = rest5.length ∧ f' = updL g [(3, (.int .i64 0)), (6, v0_0.v), (7, (.int .i64 (a_vals.length : Int))), (8, (.int .i64 (k4 : Int)))] ∧ List.drop k4 a_vals = rest5 ∧ Ent cs' [crd (RdS 3 rdInt) v0_0.v a_vals] ∧ g_cmp_Or_int_L1 rest5 k4 = some R) ⟨_, 0, _, rfl, (EqL.cons rfl (EqL.cons rfl (EqL.cons rfl (EqL.cons rfl (EqL.nil))))).eq, rfl, (.sel (.rd .h rfl .nil)), hF⟩ ?_
  clear hF
  rintro m2 _ _ ⟨g3, k4, rest5, rfl, rfl, hd7, hE, hF⟩
  refine K_ent hE ?_
  clear hE
  refine K_pure (c := crd (RdS 3 rdInt) v0_0.v a_vals) .h crd_bound (fun hbd12 => ?_)
  rcases rest5 with _ | ⟨x6, rest5⟩
  · have hk8 := List.drop_eq_nil_iff.1 hd7
    have hfe11 : (decide (((k4 : Int) : Int) < (a_vals.length : Int))) = false := decide_eq_false (by omega)
    rw [g_cmp_Or_int_L1] at hF
    refine K_region ?_
    refine C_val (V_lss (i := (k4 : Int)) (j := (a_vals.length : Int)) (.tmp rfl rfl) (.tmp rfl rfl)) ?_
    refine C_nil ?_
    refine K_in ?_
    refine CW_cond (b := (decide (((k4 : Int) : Int) < (a_vals.length : Int)))) (.tmp rfl rfl) (fun hb => absurd (hfe11.symm.trans hb) (by decide)) (fun _ => ?_)
    refine CW_exit ?_
    refine CThen_exit ?_
    refine CThen_exit ?_
    refine CIn_self ?_
    refine K_region ?_
    refine C_val (V_move (v := (.int .i64 0)) (.tmp rfl rfl)) ?_
    refine C_val (V_assign (v := (.int .i64 0)) (.tmp rfl rfl)) ?_
    refine C_nil ?_
    refine CW_ret ?_
    obtain rfl := Option.some.inj hF
    exact End_ret () (.tmp rfl rfl .nil) rfl (.sel .nil)
  obtain ⟨hk8, hx9, hd10⟩ := drop_cons hd7
  have hfe11 : (decide (((k4 : Int) : Int) < (a_vals.length : Int))) = true := decide_eq_true (by omega)
  rw [g_cmp_Or_int_L1] at hF
  refine K_region ?_
  refine C_val (V_lss (i := (k4 : Int)) (j := (a_vals.length : Int)) (.tmp rfl rfl) (.tmp rfl rfl)) ?_
  refine C_nil ?_
  refine K_in ?_
  refine CW_cond (b := (decide (((k4 : Int) : Int) < (a_vals.length : Int)))) (.tmp rfl rfl) (fun _ => ?_) (fun hb => absurd (hfe11.symm.trans hb) (by decide))
  refine CW_skip ?_
  refine K_block ?_
  refine K_region ?_
  refine C_idx (a := x6) sl45 ty3.sz (.tmp rfl rfl) (.tmp rfl rfl) .h (Int.natCast_nonneg k4) hx9 (fun k13 j14 => ?_)
  refine C_ldS (w := (.int .i64 x6)) ag3 (.tmp rfl rfl) .h ls3_0 ?_
  refine C_val (V_assign (v := (.int .i64 x6)) (.tmp rfl rfl)) ?_
  refine C_nil ?_
  refine K_region ?_
  refine C_val (V_move (v := (.int .i64 x6)) (.tmp rfl rfl)) ?_
  refine C_val (V_move (v := (.int .i64 0)) (.tmp rfl rfl)) ?_
  refine C_val (V_neq (i := x6) (j := 0) (.tmp rfl rfl) (.tmp rfl rfl)) ?_
  refine C_nil ?_
  refine CW_cond (b := ((x6 : Int) != 0)) (.tmp rfl rfl) (fun hb16 => ?_) (fun hb16 => ?_)
  · rw [if_pos hb16] at hF
    refine K_region ?_
    refine C_val (V_move (v := (.int .i64 x6)) (.tmp rfl rfl)) ?_
    refine C_val (V_assign (v := (.int .i64 x6)) (.tmp rfl rfl)) ?_
    refine C_nil ?_
    refine CW_ret ?_
    obtain rfl := Option.some.inj hF
    exact End_ret () (.tmp rfl rfl .nil) rfl (.sel .nil)
  rw [if_neg (by rw [hb16]; exact Bool.false_ne_true)] at hF
  refine CW_skip ?_
  refine CW_region ?_
  refine C_val (V_add (i := (k4 : Int)) (j := 1) (.tmp rfl rfl) (.int _ _)) ?_
  refine C_val (V_move (v := (.int .i64 (IntKind.i64.wrap ((k4 : Int) + 1)))) (.tmp rfl rfl)) ?_
  refine C_nil ?_
  have hw15 : IntKind.i64.wrap ((k4 : Int) + 1) = ((k4 + 1 : Nat) : Int) := by rw [wrap_in (by omega) (by omega)]; rfl
  rw [hw15]
  exact ⟨_, Nat.lt_succ_self _, _, k4 + 1, rest5, rfl, (EqL.cons rfl (EqL.cons rfl (EqL.cons rfl (EqL.cons rfl (EqL.nil))))).eq, hd10, (.sel (.rd (.t .h) rfl .nil)), hF⟩

/-! impl.CompareFacts -/
def i_CompareFacts (a_a : Fact) (a_b : Fact) : Option (Int) :=
  (g_cmp_Compare_int a_a.Rel a_b.Rel).bind fun r3 =>
  (g_slices_Compare_int_int a_a.Values a_b.Values).bind fun r6 =>
  (g_cmp_Or_int ([r3, r6] : List Int)).bind fun r10 =>
  some r10
theorem i_CompareFacts_ok (a_a : Fact) (v0_1 : Sv) (a_b : Fact) (v1_1 : Sv) (R : Int) (hF : i_CompareFacts a_a a_b = some R) :
    Fw.Spec Try.prog 139 [(.agg [(.int .i64 a_a.Rel), v0_1.v].toArray), (.agg [(.int .i64 a_b.Rel), v1_1.v].toArray)] [crd (RdS 3 rdInt) v0_1.v a_a.Values, crd (RdS 3 rdInt) v1_1.v a_b.Values] (fun _ : Unit => (.int .i64 R)) (fun _ => []) := by
  refine Spec_enter (n := 17) Try.func139 rfl rfl (rs := [.tmp 4]) rfl rfl rfl ?_
  intro H0 F0
  unfold i_CompareFacts at hF
  refine K_region ?_
  refine C_newR rfl (N_box (g := false) (v := (.agg [(.int .i64 a_a.Rel), v0_1.v].toArray)) ty157.sz (.tmp rfl rfl) rfl) (fun k1 => ?_)
  refine C_newR rfl (N_box (g := false) (v := (.agg [(.int .i64 a_b.Rel), v1_1.v].toArray)) ty157.sz (.tmp rfl rfl) rfl) (fun k2 => ?_)
  refine C_val (V_assign (v := (.int .i64 0)) (.int _ _)) ?_
  refine C_nil ?_
  refine K_draw [0, 1, 2, 3, 5, 6, 7, 8, 4, 9, 10, 11, 12] [0, 1, 0, 4, 15, 0, 32, 0, 128, 511, 1023, 2047, 4095] [4, 9, 11] mixed (by decide +kernel) ?_
  refine D_val rfl .no (fun ha => V_fieldAddr (off := 0) fd157_0 (EN ha (.tmp rfl rfl) rfl)) ?_
  refine D_at rfl .no (.t .h) rfl (fun ha hp => V_load (v := (.int .i64 a_a.Rel)) ag3 (EN ha (.tmp rfl rfl) rfl) hp.2 rfl rfl) ?_
  refine D_val rfl .no (fun ha => V_fieldAddr (off := 0) fd157_0 (EN ha (.tmp rfl rfl) rfl)) ?_
  refine D_at rfl .no .h rfl (fun ha hp => V_load (v := (.int .i64 a_b.Rel)) ag3 (EN ha (.tmp rfl rfl) rfl) hp.2 rfl rfl) ?_
  refine D_val rfl .no (fun ha => V_fieldAddr (off := 1) fd157_1 (EN ha (.tmp rfl rfl) rfl)) ?_
  refine D_at rfl .no (.t .h) rfl (fun ha hp => V_load (v := v0_1.v) ag45 (EN ha (.tmp rfl rfl) rfl) hp.2 rfl rfl) ?_
  refine D_val rfl .no (fun ha => V_fieldAddr (off := 1) fd157_1 (EN ha (.tmp rfl rfl) rfl)) ?_
  refine D_at rfl .no .h rfl (fun ha hp => V_load (v := v1_1.v) ag45 (EN ha (.tmp rfl rfl) rfl) hp.2 rfl rfl) ?_
  obtain ⟨r3, hx4, hF⟩ := bind_some hF
  refine D_act0 rfl rfl .no .nil .nil (fun ha => X_callS cf164 (.cons (EN ha (.tmp rfl rfl) rfl) (.cons (EN ha (.tmp rfl rfl) rfl) .nil)) (g_cmp_Compare_int_ok a_a.Rel a_b.Rel _ hx4)) (fun _ => ?_)
  obtain ⟨r6, hx7, hF⟩ := bind_some hF
  refine D_act0 rfl rfl .no (.rd (.t (.t .h)) rfl (.rd (.t (.t (.t .h))) rfl .nil)) .nil (fun ha => X_callS cf165 (.cons (EN ha (.tmp rfl rfl) rfl) (.cons (EN ha (.tmp rfl rfl) rfl) .nil)) (g_slices_Compare_int_int_ok a_a.Values v0_1 a_b.Values v1_1 _ hx7)) (fun _ => ?_)
  refine D_new rfl .no rfl (fun ha => N_buildSliceT (g := true) sl45 ty3 (.cons (EN ha (.tmp rfl rfl) rfl) (.cons (EN ha (.tmp rfl rfl) rfl) .nil)) (vs := [(.int .i64 r3), (.int .i64 r6)]) rfl rfl rfl (by intro v hv; simp at hv; rcases hv with rfl | rfl <;> rfl)) (fun k9 => ?_)
  refine D_conv (.cons .h .nil) (own_lit (Ro := (roE rdInt)) (E := 3) (F := ([] ++ ([] ++ []))) (xs := ([r3, r6] : List Int)) (MkL_cons (Mk_pure (fun _ => rfl)) (MkL_cons (Mk_pure (fun _ => rfl)) MkL_nil apps) apps) rfl rfl) apps ?_
  obtain ⟨r10, hx11, hF⟩ := bind_some hF
  refine D_act1 rfl rfl .no (.cons .h .nil) (.dep rfl .nil) (fun ha => XC_borL (pre := []) (.cons frz_own .nil) (fun _ => .nil) (X_callS cf163 (.cons (EN ha (.tmp rfl rfl) rfl) .nil) (g_cmp_Or_int_ok ([r3, r6] : List Int) (⟨(some ⟨k9, 0, none⟩), 2, 1⟩) _ hx11))) (fun _ => ?_)
  refine D_val rfl .no (fun ha => V_assign (v := (.int .i64 r10)) (EN ha (.tmp rfl rfl) rfl)) ?_
  refine D_nil ?_
  refine CW_ret ?_
  obtain rfl := Option.some.inj hF
  exact End_ret () (.tmp rfl rfl .nil) rfl (.sel .nil)

/-! impl.SameFacts$1 -/
def i_SameFacts_1 (a_x : Fact) (a_y : Fact) : Option (Bool) :=
  (i_CompareFacts a_x a_y).bind fun r3 =>
  some ((r3 : Int) == 0)
theorem i_SameFacts_1_ok (a_x : Fact) (v0_1 : Sv) (a_y : Fact) (v1_1 : Sv) (R : Bool) (hF : i_SameFacts_1 a_x a_y = some R) :
    Fw.Spec Try.prog 138 [(.agg [(.int .i64 a_x.Rel), v0_1.v].toArray), (.agg [(.int .i64 a_y.Rel), v1_1.v].toArray)] [crd (RdS 3 rdInt) v0_1.v a_x.Values, crd (RdS 3 rdInt) v1_1.v a_y.Values] (fun _ : Unit => (.bool R)) (fun _ => []) := by
  refine Spec_enter (n := 9) Try.func138 rfl rfl (rs := [.tmp 4]) rfl rfl rfl ?_
  intro H0 F0
  unfold i_SameFacts_1 at hF
  refine K_region ?_
  refine C_newR rfl (N_box (g := false) (v := (.agg [(.int .i64 a_x.Rel), v0_1.v].toArray)) ty157.sz (.tmp rfl rfl) rfl) (fun k1 => ?_)
  refine C_newR rfl (N_box (g := false) (v := (.agg [(.int .i64 a_y.Rel), v1_1.v].toArray)) ty157.sz (.tmp rfl rfl) rfl) (fun k2 => ?_)
  refine C_val (V_assign (v := (.bool false)) (.bool _)) ?_
  refine C_nil ?_
  refine K_region ?_
  refine C_at (.t .h) (fun hp => V_loadBox ag157 ty157.sz rfl (.tmp rfl rfl) hp.2 rfl) ?_
  refine C_at .h (fun hp => V_loadBox ag157 ty157.sz rfl (.tmp rfl rfl) hp.2 rfl) ?_
  obtain ⟨r3, hx4, hF⟩ := bind_some hF
  refine C_x0 (.rd (.t (.t .h)) rfl (.rd (.t (.t (.t .h))) rfl .nil)) (X_callS cf139 (.cons (.tmp rfl rfl) (.cons (.tmp rfl rfl) .nil)) (i_CompareFacts_ok a_x v0_1 a_y v1_1 _ hx4)) (fun _ => ?_)
  refine C_val (V_eql (i := r3) (j := 0) (.tmp rfl rfl) (.int _ _)) ?_
  refine C_val (V_assign (v := (.bool ((r3 : Int) == 0))) (.tmp rfl rfl)) ?_
  refine C_nil ?_
  refine CW_ret ?_
  obtain rfl := Option.some.inj hF
  exact End_ret () (.tmp rfl rfl .nil) rfl (.sel .nil)

/-! impl.Fact] -/
def g_slices_EqualFunc_impl_Fact_impl_Fact_impl_Fact_impl_Fact_iSameFacts1_L1 (a_s2 : List Fact) : List Fact → Nat → Option (Bool)
  | [], k4 => some true
  | x6 :: rest5, k4 => (ix a_s2 (k4 : Int)).bind fun x17 =>
    (i_SameFacts_1 x6 x17).bind fun r25 =>
    if (!r25) then (
      some false)
    else (
      g_slices_EqualFunc_impl_Fact_impl_Fact_impl_Fact_impl_Fact_iSameFacts1_L1 a_s2 rest5 (k4 + 1))
def g_slices_EqualFunc_impl_Fact_impl_Fact_impl_Fact_impl_Fact_iSameFacts1 (a_s1 : List Fact) (a_s2 : List Fact) : Option (Bool) :=
  if (((a_s1.length : Int) : Int) != (a_s2.length : Int)) then (
    some false)
  else (
    g_slices_EqualFunc_impl_Fact_impl_Fact_impl_Fact_impl_Fact_iSameFacts1_L1 a_s2 a_s1 0)
theorem g_slices_EqualFunc_impl_Fact_impl_Fact_impl_Fact_impl_Fact_iSameFacts1_ok (a_s1 : List Fact) (v0_0 : Sv) (a_s2 : List Fact) (v1_0 : Sv) (R : Bool) (hF : g_slices_EqualFunc_impl_Fact_impl_Fact_impl_Fact_impl_Fact_iSameFacts1 a_s1 a_s2 = some R) :
    Fw.Spec Try.prog 137 [v0_0.v, v1_0.v, (.func (.func 138) [].toArray [].toArray)] [crd (RdS 157 rd157) v0_0.v a_s1, crd (RdS 157 rd157) v1_0.v a_s2] (fun _ : Unit => (.bool R)) (fun _ => []) := by
  refine Spec_enter (n := 32) Try.func137 rfl rfl (rs := [.tmp 6]) rfl rfl rfl ?_
  intro H0 F0
  unfold g_slices_EqualFunc_impl_Fact_impl_Fact_impl_Fact_impl_Fact_iSameFacts1 at hF
  refine K_region ?_
  refine C_val (V_assign (v := (.bool false)) (.bool _)) ?_
  refine C_nil ?_
  refine K_in ?_
  refine K_region ?_
  refine C_val (V_move (v := v0_0.v) (.tmp rfl rfl)) ?_
  refine C_at .h (fun hp => V_lenR (l := a_s1.length) sl47 (.tmp rfl rfl) (crd_len hp)) ?_
  refine C_val (V_move (v := v1_0.v) (.tmp rfl rfl)) ?_
  refine C_at (.t .h) (fun hp => V_lenR (l := a_s2.length) sl47 (.tmp rfl rfl) (crd_len hp)) ?_
  refine C_val (V_neq (i := (a_s1.length : Int)) (j := (a_s2.length : Int)) (.tmp rfl rfl) (.tmp rfl rfl)) ?_
  refine C_nil ?_
  refine CW_cond (b := (((a_s1.length : Int) : Int) != (a_s2.length : Int))) (.tmp rfl rfl) (fun hb30 => ?_) (fun hb30 => ?_)
  · rw [if_pos hb30] at hF
    refine K_region ?_
    refine C_val (V_assign (v := (.bool false)) (.bool _)) ?_
    refine C_nil ?_
    refine CW_ret ?_
    obtain rfl := Option.some.inj hF
    exact End_ret () (.tmp rfl rfl .nil) rfl (.sel .nil)
  rw [if_neg (by rw [hb30]; exact Bool.false_ne_true)] at hF
  refine CW_skip ?_
  refine K_in ?_
  refine K_region ?_
  refine C_val (V_move (v := v0_0.v) (.tmp rfl rfl)) ?_
  refine C_at .h (fun hp => V_lenR (l := a_s1.length) sl47 (.tmp rfl rfl) (crd_len hp)) ?_
  refine C_val (V_move (v := (.int .i64 0)) (.int _ _)) ?_
  refine C_nil ?_
  refine CW_block ?_
  refine CW_loop (m := a_s1.length) (fun m2 f' cs' => ∃ (g : Fr) (k4 : Nat) (rest5 : List Fact), m2 = rest5.length ∧ f' = updL g [(1, v1_0.v), (2, (.func (.func 138) [].toArray [].toArray)), (15, v0_0.v), (16, (.int .i64 (a_s1.length : Int))), (17, (.int .i64 (k4 : Int)))] ∧ List.drop k4 a_s1 = rest5 ∧ Ent cs' [crd (RdS 157 rd157) v1_0.v a_s2, crd (RdS 157 rd157) v0_0.v a_s1] ∧ g_slices_EqualFunc_impl_Fact_impl_Fact_impl_Fact_impl_Fact_iSameFacts1_L1 a_s2 rest5 k4 = some R) ⟨_, 0, _, rfl, (EqL.cons rfl (EqL.cons rfl (EqL.cons rfl (EqL.cons rfl (EqL.cons rfl (EqL.nil)))))).eq, rfl, (.sel (.rd (.t .h) rfl (.rd .h rfl .nil))), hF⟩ ?_
  clear hF
  rintro m2 _ _ ⟨g3, k4, rest5, rfl, rfl, hd7, hE, hF⟩
  refine K_ent hE ?_
  clear hE
  refine K_pure (c := crd (RdS 157 rd157) v0_0.v a_s1) (.t .h) crd_bound (fun hbd12 => ?_)
  rcases rest5 with _ | ⟨x6, rest5⟩
  · have hk8 := List.drop_eq_nil_iff.1 hd7
    have hfe11 : (decide (((k4 : Int) : Int) < (a_s1.length : Int))) = false := decide_eq_false (by omega)
    rw [g_slices_EqualFunc_impl_Fact_impl_Fact_impl_Fact_impl_Fact_iSameFacts1_L1] at hF
    refine K_region ?_
    refine C_val (V_lss (i := (k4 : Int)) (j := (a_s1.length : Int)) (.tmp rfl rfl) (.tmp rfl rfl)) ?_
    refine C_nil ?_
    refine K_in ?_
    refine CW_cond (b := (decide (((k4 : Int) : Int) < (a_s1.length : Int)))) (.tmp rfl rfl) (fun hb => absurd (hfe11.symm.trans hb) (by decide)) (fun _ => ?_)
    refine CW_exit ?_
    refine CThen_exit ?_
    refine CThen_exit ?_
    refine CIn_self ?_
    refine K_region ?_
    refine C_val (V_assign (v := (.bool true)) (.bool _)) ?_
    refine C_nil ?_
    refine CW_ret ?_
    obtain rfl := Option.some.inj hF
    exact End_ret () (.tmp rfl rfl .nil) rfl (.sel .nil)
  obtain ⟨hk8, hx9, hd10⟩ := drop_cons hd7
  have hfe11 : (decide (((k4 : Int) : Int) < (a_s1.length : Int))) = true := decide_eq_true (by omega)
  rw [g_slices_EqualFunc_impl_Fact_impl_Fact_impl_Fact_impl_Fact_iSameFacts1_L1] at hF
  refine K_region ?_
  refine C_val (V_lss (i := (k4 : Int)) (j := (a_s1.length : Int)) (.tmp rfl rfl) (.tmp rfl rfl)) ?_
  refine C_nil ?_
  refine K_in ?_
  refine CW_cond (b := (decide (((k4 : Int) : Int) < (a_s1.length : Int)))) (.tmp rfl rfl) (fun _ => ?_) (fun hb => absurd (hfe11.symm.trans hb) (by decide))
  refine CW_skip ?_
  refine K_block ?_
  refine K_region ?_
  refine C_val (V_move (v := (.int .i64 (k4 : Int))) (.tmp rfl rfl)) ?_
  refine C_idx (a := x6) sl47 ty157.sz (.tmp rfl rfl) (.tmp rfl rfl) (.t .h) (Int.natCast_nonneg k4) hx9 (fun k13 j14 => ?_)
  refine C_ldA1 (ul157_0_157 x6) ag157 ty157.sz rfl (.tmp rfl rfl) .h la157_0_157 (fun p15 => ?_)
  refine C_new rfl (N_allocT (g := true) ty157 rfl rfl) (fun k16 => ?_)
  refine C_val (V_assign (v := (.int .i64 (k4 : Int))) (.tmp rfl rfl)) ?_
  refine C_x1 (.cons .h .nil) (X_storeB (e := (.agg [(.int .i64 0), (.slice none 0 0)].toArray)) (e' := (.agg [(.int .i64 x6.Rel), p15.v].toArray)) (v := (.agg [(.int .i64 x6.Rel), p15.v].toArray)) ty157.sz (.tmp rfl rfl) (.tmp rfl rfl) rfl rfl rfl rfl rfl) (fun _ => ?_)
  refine C_nil ?_
  refine K_region ?_
  refine C_val (V_move (v := v1_0.v) (.tmp rfl rfl)) ?_
  refine C_val (V_move (v := (.int .i64 (k4 : Int))) (.tmp rfl rfl)) ?_
  obtain ⟨x17, hx18, hF⟩ := bind_some hF
  obtain ⟨hp19, hx20⟩ := ix_some hx18
  refine C_idx (a := x17) sl47 ty157.sz (.tmp rfl rfl) (.tmp rfl rfl) (.t (.t (.t .h))) hp19 hx20 (fun k21 j22 => ?_)
  refine C_ldA1 (ul157_0_157 x17) ag157 ty157.sz rfl (.tmp rfl rfl) .h la157_0_157 (fun p23 => ?_)
  refine C_new rfl (N_allocT (g := true) ty157 rfl rfl) (fun k24 => ?_)
  refine C_x1 (.cons .h .nil) (X_storeB (e := (.agg [(.int .i64 0), (.slice none 0 0)].toArray)) (e' := (.agg [(.int .i64 x17.Rel), p23.v].toArray)) (v := (.agg [(.int .i64 x17.Rel), p23.v].toArray)) ty157.sz (.tmp rfl rfl) (.tmp rfl rfl) rfl rfl rfl rfl rfl) (fun _ => ?_)
  refine C_nil ?_
  refine K_region ?_
  refine C_val (V_move (v := (.func (.func 138) [].toArray [].toArray)) (.tmp rfl rfl)) ?_
  refine C_at (.t (.t (.t .h))) (fun hp => V_loadBox ag157 ty157.sz rfl (.tmp rfl rfl) hp.2 rfl) ?_
  refine C_at .h (fun hp => V_loadBox ag157 ty157.sz rfl (.tmp rfl rfl) hp.2 rfl) ?_
  obtain ⟨r25, hx26, hF⟩ := bind_some hF
  refine C_x0 (.rd (.t (.t (.t (.t .h)))) rfl (.rd (.t .h) rfl .nil)) (X_callCS cf138 (.tmp rfl rfl) (.cons (.tmp rfl rfl) (.cons (.tmp rfl rfl) .nil)) (i_SameFacts_1_ok x6 p15 x17 p23 _ hx26)) (fun _ => ?_)
  refine C_val (V_not (b := r25) (.tmp rfl rfl)) ?_
  refine C_nil ?_
  refine CW_cond (b := (!r25)) (.tmp rfl rfl) (fun hb29 => ?_) (fun hb29 => ?_)
  · rw [if_pos hb29] at hF
    refine K_region ?_
    refine C_val (V_assign (v := (.bool false)) (.bool _)) ?_
    refine C_nil ?_
    refine CW_ret ?_
    obtain rfl := Option.some.inj hF
    exact End_ret () (.tmp rfl rfl .nil) rfl (.sel .nil)
  rw [if_neg (by rw [hb29]; exact Bool.false_ne_true)] at hF
  refine CW_skip ?_
  refine CW_region ?_
  refine C_val (V_add (i := (k4 : Int)) (j := 1) (.tmp rfl rfl) (.int _ _)) ?_
  refine C_val (V_move (v := (.int .i64 (IntKind.i64.wrap ((k4 : Int) + 1)))) (.tmp rfl rfl)) ?_
  refine C_nil ?_
  have hw28 : IntKind.i64.wrap ((k4 : Int) + 1) = ((k4 + 1 : Nat) : Int) := by rw [wrap_in (by omega) (by omega)]; rfl
  rw [hw28]
  exact ⟨_, Nat.lt_succ_self _, _, k4 + 1, rest5, rfl, (EqL.cons rfl (EqL.cons rfl (EqL.cons rfl (EqL.cons rfl (EqL.cons rfl (EqL.nil)))))).eq, hd10, (.sel (.rd (.t (.t (.t (.t (.t (.t .h)))))) rfl (.rd (.t (.t (.t (.t (.t (.t (.t .h))))))) rfl .nil))), hF⟩

/-! impl.SameFacts -/
def i_SameFacts (a_a : List Fact) (a_b : List Fact) : Option (Bool) :=
  (g_slices_EqualFunc_impl_Fact_impl_Fact_impl_Fact_impl_Fact_iSameFacts1 a_a a_b).bind fun r1 =>
  some r1
theorem i_SameFacts_ok (a_a : List Fact) (v0_0 : Sv) (a_b : List Fact) (v1_0 : Sv) (R : Bool) (hF : i_SameFacts a_a a_b = some R) :
    Fw.Spec Try.prog 101 [v0_0.v, v1_0.v] [crd (RdS 157 rd157) v0_0.v a_a, crd (RdS 157 rd157) v1_0.v a_b] (fun _ : Unit => (.bool R)) (fun _ => []) := by
  refine Spec_enter (n := 8) Try.func101 rfl rfl (rs := [.tmp 4]) rfl rfl rfl ?_
  intro H0 F0
  unfold i_SameFacts at hF
  refine K_region ?_
  refine C_val (V_assign (v := (.bool false)) (.bool _)) ?_
  refine C_nil ?_
  refine K_region ?_
  refine C_val (V_move (v := v0_0.v) (.tmp rfl rfl)) ?_
  refine C_val (V_move (v := v1_0.v) (.tmp rfl rfl)) ?_
  obtain ⟨r1, hx2, hF⟩ := bind_some hF
  refine C_x0 (.rd .h rfl (.rd (.t .h) rfl .nil)) (X_callS cf137 (.cons (.tmp rfl rfl) (.cons (.tmp rfl rfl) (.cons (.fn _) .nil))) (g_slices_EqualFunc_impl_Fact_impl_Fact_impl_Fact_impl_Fact_iSameFacts1_ok a_a v0_0 a_b v1_0 _ hx2)) (fun _ => ?_)
  refine C_val (V_assign (v := (.bool r1)) (.tmp rfl rfl)) ?_
  refine C_nil ?_
  refine CW_ret ?_
  obtain rfl := Option.some.inj hF
  exact End_ret () (.tmp rfl rfl .nil) rfl (.sel .nil)

/-! impl.sameAccess -/
def i_sameAccess (a_a : Access) (a_b : Access) : Option (Bool) :=
  (bif ((a_a.Method : Int) == a_b.Method) then ((g_slices_Equal_int_int a_a.Values a_b.Values).bind fun r6 =>
      some r6)
    else (some false)).bind fun o3 =>
  match o3 with
  | c9 => some c9
theorem i_sameAccess_ok (a_a : Access) (v0_1 : Sv) (a_b : Access) (v1_1 : Sv) (R : Bool) (hF : i_sameAccess a_a a_b = some R) :
    Fw.Spec Try.prog 112 [(.agg [(.int .i64 a_a.Method), v0_1.v].toArray), (.agg [(.int .i64 a_b.Method), v1_1.v].toArray)] [crd (RdS 3 rdInt) v0_1.v a_a.Values, crd (RdS 3 rdInt) v1_1.v a_b.Values] (fun _ : Unit => (.bool R)) (fun _ => []) := by
  refine Spec_enter (n := 17) Try.func112 rfl rfl (rs := [.tmp 4]) rfl rfl rfl ?_
  intro H0 F0
  unfold i_sameAccess at hF
  refine K_region ?_
  refine C_newR rfl (N_box (g := false) (v := (.agg [(.int .i64 a_a.Method), v0_1.v].toArray)) ty100.sz (.tmp rfl rfl) rfl) (fun k1 => ?_)
  refine C_newR rfl (N_box (g := false) (v := (.agg [(.int .i64 a_b.Method), v1_1.v].toArray)) ty100.sz (.tmp rfl rfl) rfl) (fun k2 => ?_)
  refine C_val (V_assign (v := (.bool false)) (.bool _)) ?_
  refine C_nil ?_
  obtain ⟨o3, hio3, hO4⟩ := bind_some hF
  refine K_region ?_
  refine C_cut (fun f' cs' => ∃ (c9 : Bool) (g : Fr), c9 = o3 ∧ f' = updL g [(4, (.bool c9))] ∧ Ent cs' []) ?_ ?_
  · replace hF := hio3
    refine C_val (V_fieldAddr (off := 0) fd100_0 (.tmp rfl rfl)) ?_
    refine C_at (.t .h) (fun hp => V_load (v := (.int .i64 a_a.Method)) ag3 (.tmp rfl rfl) hp.2 rfl rfl) ?_
    refine C_val (V_fieldAddr (off := 0) fd100_0 (.tmp rfl rfl)) ?_
    refine C_at .h (fun hp => V_load (v := (.int .i64 a_b.Method)) ag3 (.tmp rfl rfl) hp.2 rfl rfl) ?_
    refine C_val (V_eql (i := a_a.Method) (j := a_b.Method) (.tmp rfl rfl) (.tmp rfl rfl)) ?_
    refine C_val (V_move (v := (.bool ((a_a.Method : Int) == a_b.Method))) (.tmp rfl rfl)) ?_
    rcases Bool.eq_false_or_eq_true ((a_a.Method : Int) == a_b.Method) with hg5 | hg5
    · rw [hg5]
      try rw [hg5] at hF; dsimp only [cond_true, cond_false] at hF
      refine C_on (t := 10) rfl rfl rfl ?_
      refine C_val (V_fieldAddr (off := 1) fd100_1 (.tmp rfl rfl)) ?_
      refine C_on (t := 10) rfl rfl rfl ?_
      refine C_at (.t .h) (fun hp => V_load (v := v0_1.v) ag45 (.tmp rfl rfl) hp.2 rfl rfl) ?_
      refine C_on (t := 10) rfl rfl rfl ?_
      refine C_val (V_fieldAddr (off := 1) fd100_1 (.tmp rfl rfl)) ?_
      refine C_on (t := 10) rfl rfl rfl ?_
      refine C_at .h (fun hp => V_load (v := v1_1.v) ag45 (.tmp rfl rfl) hp.2 rfl rfl) ?_
      refine C_on (t := 10) rfl rfl rfl ?_
      obtain ⟨r6, hx7, hF⟩ := bind_some hF
      refine C_x0 (.rd (.t (.t .h)) rfl (.rd (.t (.t (.t .h))) rfl .nil)) (X_callS cf96 (.cons (.tmp rfl rfl) (.cons (.tmp rfl rfl) .nil)) (g_slices_Equal_int_int_ok a_a.Values v0_1 a_b.Values v1_1 _ hx7)) (fun _ => ?_)
      refine C_val (V_pick (b := true) (u := (.bool r6)) (v := (.bool false)) (.tmp rfl rfl) (.tmp rfl rfl) (.bool _)) ?_
      refine C_val (V_assign (v := (.bool r6)) (.tmp rfl rfl)) ?_
      refine C_nil ?_
      obtain rfl := Option.some.inj hF
      exact ⟨_, _, rfl, (EqL.cons rfl (EqL.nil)).eq, (.sel .nil)⟩
    rw [hg5]
    try rw [hg5] at hF; dsimp only [cond_true, cond_false] at hF
    refine C_off (t := 10) rfl rfl rfl ?_
    refine C_off (t := 10) rfl rfl rfl ?_
    refine C_off (t := 10) rfl rfl rfl ?_
    refine C_off (t := 10) rfl rfl rfl ?_
    refine C_off (t := 10) rfl rfl rfl ?_
    refine C_val (V_pick (b := false) (u := undef) (v := (.bool false)) (.tmp rfl rfl) (.tmp rfl rfl) (.bool _)) ?_
    refine C_val (V_assign (v := (.bool false)) (.tmp rfl rfl)) ?_
    refine C_nil ?_
    obtain rfl := Option.some.inj hF
    exact ⟨_, _, rfl, (EqL.cons rfl (EqL.nil)).eq, (.sel .nil)⟩
  rintro _ _ ⟨c9, g10, rfl, rfl, hE⟩
  replace hF := hO4
  clear hO4
  try dsimp only at hF
  refine K_ent hE ?_
  refine CW_ret ?_
  obtain rfl := Option.some.inj hF
  exact End_ret () (.tmp rfl rfl .nil) rfl (.sel .nil)

/-! impl.EqualCaches$1 -/
def i_EqualCaches_1 (a_x : Stored) (a_y : Stored) : Option (Bool) :=
  ((i_sameAccess a_x.Access a_y.Access).bind fun r5 =>
    bif r5 then ((i_SameFacts a_x.Facts a_y.Facts).bind fun r9 =>
      bif r9 then (some ((a_x.At : Int) == a_y.At))
      else (some false))
    else (some false)).bind fun o3 =>
  match o3 with
  | c13 => some c13
theorem i_EqualCaches_1_ok (a_x : Stored) (v0_1 : Sv) (v0_2 : Sv) (a_y : Stored) (v1_1 : Sv) (v1_2 : Sv) (R : Bool) (hF : i_EqualCaches_1 a_x a_y = some R) :
    Fw.Spec Try.prog 141 [(.agg [(.int .i64 a_x.Access.Method), v0_1.v, v0_2.v, (.int .i64 a_x.At)].toArray), (.agg [(.int .i64 a_y.Access.Method), v1_1.v, v1_2.v, (.int .i64 a_y.At)].toArray)] [crd (RdS 3 rdInt) v0_1.v a_x.Access.Values, crd (RdS 157 rd157) v0_2.v a_x.Facts, crd (RdS 3 rdInt) v1_1.v a_y.Access.Values, crd (RdS 157 rd157) v1_2.v a_y.Facts] (fun _ : Unit => (.bool R)) (fun _ => []) := by
  refine Spec_enter (n := 24) Try.func141 rfl rfl (rs := [.tmp 4]) rfl rfl rfl ?_
  intro H0 F0
  unfold i_EqualCaches_1 at hF
  refine K_region ?_
  refine C_newR rfl (N_box (g := false) (v := (.agg [(.int .i64 a_x.Access.Method), v0_1.v, v0_2.v, (.int .i64 a_x.At)].toArray)) ty159.sz (.tmp rfl rfl) rfl) (fun k1 => ?_)
  refine C_newR rfl (N_box (g := false) (v := (.agg [(.int .i64 a_y.Access.Method), v1_1.v, v1_2.v, (.int .i64 a_y.At)].toArray)) ty159.sz (.tmp rfl rfl) rfl) (fun k2 => ?_)
  refine C_val (V_assign (v := (.bool false)) (.bool _)) ?_
  refine C_nil ?_
  obtain ⟨o3, hio3, hO4⟩ := bind_some hF
  refine K_region ?_
  refine C_cut (fun f' cs' => ∃ (c13 : Bool) (g : Fr), c13 = o3 ∧ f' = updL g [(4, (.bool c13))] ∧ Ent cs' []) ?_ ?_
  · replace hF := hio3
    refine C_val (V_fieldAddr (off := 0) fd159_0 (.tmp rfl rfl)) ?_
    refine C_at (.t .h) (fun hp => V_loadA (s := 2) (l := [(.int .i64 a_x.Access.Method), v0_1.v]) ag100 ty100.sz (.tmp rfl rfl) hp.2 rfl (by decide) (Nat.le_of_ble_eq_true rfl) rfl) ?_
    refine C_val (V_fieldAddr (off := 0) fd159_0 (.tmp rfl rfl)) ?_
    refine C_at .h (fun hp => V_loadA (s := 2) (l := [(.int .i64 a_y.Access.Method), v1_1.v]) ag100 ty100.sz (.tmp rfl rfl) hp.2 rfl (by decide) (Nat.le_of_ble_eq_true rfl) rfl) ?_
    obtain ⟨r5, hx6, hF⟩ := bind_some hF
    refine C_x0 (.rd (.t (.t .h)) rfl (.rd (.t (.t (.t (.t .h)))) rfl .nil)) (X_callS cf112 (.cons (.tmp rfl rfl) (.cons (.tmp rfl rfl) .nil)) (i_sameAccess_ok a_x.Access v0_1 a_y.Access v1_1 _ hx6)) (fun _ => ?_)
    refine C_val (V_move (v := (.bool r5)) (.tmp rfl rfl)) ?_
    rcases Bool.eq_false_or_eq_true r5 with hg8 | hg8
    · rw [hg8]
      try rw [hg8] at hF; dsimp only [cond_true, cond_false] at hF
      refine C_on (t := 10) rfl rfl rfl ?_
      refine C_val (V_fieldAddr (off := 2) fd159_1 (.tmp rfl rfl)) ?_
      refine C_on (t := 10) rfl rfl rfl ?_
      refine C_at (.t .h) (fun hp => V_load (v := v0_2.v) ag47 (.tmp rfl rfl) hp.2 rfl rfl) ?_
      refine C_on (t := 10) rfl rfl rfl ?_
      refine C_val (V_fieldAddr (off := 2) fd159_1 (.tmp rfl rfl)) ?_
      refine C_on (t := 10) rfl rfl rfl ?_
      refine C_at .h (fun hp => V_load (v := v1_2.v) ag47 (.tmp rfl rfl) hp.2 rfl rfl) ?_
      refine C_on (t := 10) rfl rfl rfl ?_
      obtain ⟨r9, hx10, hF⟩ := bind_some hF
      refine C_x0 (.rd (.t (.t (.t .h))) rfl (.rd (.t (.t (.t (.t (.t .h))))) rfl .nil)) (X_callS cf101 (.cons (.tmp rfl rfl) (.cons (.tmp rfl rfl) .nil)) (i_SameFacts_ok a_x.Facts v0_2 a_y.Facts v1_2 _ hx10)) (fun _ => ?_)
      refine C_val (V_pick (b := true) (u := (.bool r9)) (v := (.bool false)) (.tmp rfl rfl) (.tmp rfl rfl) (.bool _)) ?_
      refine C_val (V_move (v := (.bool r9)) (.tmp rfl rfl)) ?_
      rcases Bool.eq_false_or_eq_true r9 with hg12 | hg12
      · rw [hg12]
        try rw [hg12] at hF; dsimp only [cond_true, cond_false] at hF
        refine C_on (t := 17) rfl rfl rfl ?_
        refine C_val (V_fieldAddr (off := 3) fd159_2 (.tmp rfl rfl)) ?_
        refine C_on (t := 17) rfl rfl rfl ?_
        refine C_at (.t .h) (fun hp => V_load (v := (.int .i64 a_x.At)) ag3 (.tmp rfl rfl) hp.2 rfl rfl) ?_
        refine C_on (t := 17) rfl rfl rfl ?_
        refine C_val (V_fieldAddr (off := 3) fd159_2 (.tmp rfl rfl)) ?_
        refine C_on (t := 17) rfl rfl rfl ?_
        refine C_at .h (fun hp => V_load (v := (.int .i64 a_y.At)) ag3 (.tmp rfl rfl) hp.2 rfl rfl) ?_
        refine C_on (t := 17) rfl rfl rfl ?_
        refine C_val (V_eql (i := a_x.At) (j := a_y.At) (.tmp rfl rfl) (.tmp rfl rfl)) ?_
        refine C_val (V_pick (b := true) (u := (.bool ((a_x.At : Int) == a_y.At))) (v := (.bool false)) (.tmp rfl rfl) (.tmp rfl rfl) (.bool _)) ?_
        refine C_val (V_assign (v := (.bool ((a_x.At : Int) == a_y.At))) (.tmp rfl rfl)) ?_
        refine C_nil ?_
        obtain rfl := Option.some.inj hF
        exact ⟨_, _, rfl, (EqL.cons rfl (EqL.nil)).eq, (.sel .nil)⟩
      rw [hg12]
      try rw [hg12] at hF; dsimp only [cond_true, cond_false] at hF
      refine C_off (t := 17) rfl rfl rfl ?_
      refine C_off (t := 17) rfl rfl rfl ?_
      refine C_off (t := 17) rfl rfl rfl ?_
      refine C_off (t := 17) rfl rfl rfl ?_
      refine C_off (t := 17) rfl rfl rfl ?_
      refine C_val (V_pick (b := false) (u := undef) (v := (.bool false)) (.tmp rfl rfl) (.tmp rfl rfl) (.bool _)) ?_
      refine C_val (V_assign (v := (.bool false)) (.tmp rfl rfl)) ?_
      refine C_nil ?_
      obtain rfl := Option.some.inj hF
      exact ⟨_, _, rfl, (EqL.cons rfl (EqL.nil)).eq, (.sel .nil)⟩
    rw [hg8]
    try rw [hg8] at hF; dsimp only [cond_true, cond_false] at hF
    refine C_off (t := 10) rfl rfl rfl ?_
    refine C_off (t := 10) rfl rfl rfl ?_
    refine C_off (t := 10) rfl rfl rfl ?_
    refine C_off (t := 10) rfl rfl rfl ?_
    refine C_off (t := 10) rfl rfl rfl ?_
    refine C_val (V_pick (b := false) (u := undef) (v := (.bool false)) (.tmp rfl rfl) (.tmp rfl rfl) (.bool _)) ?_
    refine C_val (V_move (v := (.bool false)) (.tmp rfl rfl)) ?_
    refine C_off (t := 17) rfl rfl rfl ?_
    refine C_off (t := 17) rfl rfl rfl ?_
    refine C_off (t := 17) rfl rfl rfl ?_
    refine C_off (t := 17) rfl rfl rfl ?_
    refine C_off (t := 17) rfl rfl rfl ?_
    refine C_val (V_pick (b := false) (u := undef) (v := (.bool false)) (.tmp rfl rfl) (.tmp rfl rfl) (.bool _)) ?_
    refine C_val (V_assign (v := (.bool false)) (.tmp rfl rfl)) ?_
    refine C_nil ?_
    obtain rfl := Option.some.inj hF
    exact ⟨_, _, rfl, (EqL.cons rfl (EqL.nil)).eq, (.sel .nil)⟩
  rintro _ _ ⟨c13, g14, rfl, rfl, hE⟩
  replace hF := hO4
  clear hO4
  try dsimp only at hF
  refine K_ent hE ?_
  refine CW_ret ?_
  obtain rfl := Option.some.inj hF
  exact End_ret () (.tmp rfl rfl .nil) rfl (.sel .nil)

/-! impl.Stored] -/
def g_slices_EqualFunc_impl_Stored_impl_Stored_impl_Stored_impl_Stored_iEqualCaches1_L1 (a_s2 : List Stored) : List Stored → Nat → Option (Bool)
  | [], k4 => some true
  | x6 :: rest5, k4 => (ix a_s2 (k4 : Int)).bind fun x17 =>
    (i_EqualCaches_1 x6 x17).bind fun r25 =>
    if (!r25) then (
      some false)
    else (
      g_slices_EqualFunc_impl_Stored_impl_Stored_impl_Stored_impl_Stored_iEqualCaches1_L1 a_s2 rest5 (k4 + 1))
def g_slices_EqualFunc_impl_Stored_impl_Stored_impl_Stored_impl_Stored_iEqualCaches1 (a_s1 : List Stored) (a_s2 : List Stored) : Option (Bool) :=
  if (((a_s1.length : Int) : Int) != (a_s2.length : Int)) then (
    some false)
  else (
    g_slices_EqualFunc_impl_Stored_impl_Stored_impl_Stored_impl_Stored_iEqualCaches1_L1 a_s2 a_s1 0)
theorem g_slices_EqualFunc_impl_Stored_impl_Stored_impl_Stored_impl_Stored_iEqualCaches1_ok (a_s1 : List Stored) (v0_0 : Sv) (a_s2 : List Stored) (v1_0 : Sv) (R : Bool) (hF : g_slices_EqualFunc_impl_Stored_impl_Stored_impl_Stored_impl_Stored_iEqualCaches1 a_s1 a_s2 = some R) :
    Fw.Spec Try.prog 140 [v0_0.v, v1_0.v, (.func (.func 141) [].toArray [].toArray)] [crd (RdS 159 rd159) v0_0.v a_s1, crd (RdS 159 rd159) v1_0.v a_s2] (fun _ : Unit => (.bool R)) (fun _ => []) := by
  refine Spec_enter (n := 32) Try.func140 rfl rfl (rs := [.tmp 6]) rfl rfl rfl ?_
  intro H0 F0
  unfold g_slices_EqualFunc_impl_Stored_impl_Stored_impl_Stored_impl_Stored_iEqualCaches1 at hF
  refine K_region ?_
  refine C_val (V_assign (v := (.bool false)) (.bool _)) ?_
  refine C_nil ?_
  refine K_in ?_
  refine K_region ?_
  refine C_val (V_move (v := v0_0.v) (.tmp rfl rfl)) ?_
  refine C_at .h (fun hp => V_lenR (l := a_s1.length) sl50 (.tmp rfl rfl) (crd_len hp)) ?_
  refine C_val (V_move (v := v1_0.v) (.tmp rfl rfl)) ?_
  refine C_at (.t .h) (fun hp => V_lenR (l := a_s2.length) sl50 (.tmp rfl rfl) (crd_len hp)) ?_
  refine C_val (V_neq (i := (a_s1.length : Int)) (j := (a_s2.length : Int)) (.tmp rfl rfl) (.tmp rfl rfl)) ?_
  refine C_nil ?_
  refine CW_cond (b := (((a_s1.length : Int) : Int) != (a_s2.length : Int))) (.tmp rfl rfl) (fun hb30 => ?_) (fun hb30 => ?_)
  · rw [if_pos hb30] at hF
    refine K_region ?_
    refine C_val (V_assign (v := (.bool false)) (.bool _)) ?_
    refine C_nil ?_
    refine CW_ret ?_
    obtain rfl := Option.some.inj hF
    exact End_ret () (.tmp rfl rfl .nil) rfl (.sel .nil)
  rw [if_neg (by rw [hb30]; exact Bool.false_ne_true)] at hF
  refine CW_skip ?_
  refine K_in ?_
  refine K_region ?_
  refine C_val (V_move (v := v0_0.v) (.tmp rfl rfl)) ?_
  refine C_at .h (fun hp => V_lenR (l := a_s1.length) sl50 (.tmp rfl rfl) (crd_len hp)) ?_
  refine C_val (V_move (v := (.int .i64 0)) (.int _ _)) ?_
  refine C_nil ?_
  refine CW_block ?_
  refine CW_loop (m := a_s1.length) (fun m2 f' cs' => ∃ (g : Fr) (k4 : Nat) (rest5 : List Stored), m2 = rest5.length ∧ f' = updL g [(1, v1_0.v), (2, (.func (.func 141) [].toArray [].toArray)), (15, v0_0.v), (16, (.int .i64 (a_s1.length : Int))), (17, (.int .i64 (k4 : Int)))] ∧ List.drop k4 a_s1 = rest5 ∧ Ent cs' [crd (RdS 159 rd159) v1_0.v a_s2, crd (RdS 159 rd159) v0_0.v a_s1] ∧ g_slices_EqualFunc_impl_Stored_impl_Stored_impl_Stored_impl_Stored_iEqualCaches1_L1 a_s2 rest5 k4 = some R) ⟨_, 0, _, rfl, (EqL.cons rfl (EqL.cons rfl (EqL.cons rfl (EqL.cons rfl (EqL.cons rfl (EqL.nil)))))).eq, rfl, (.sel (.rd (.t .h) rfl (.rd .h rfl .nil))), hF⟩ ?_
  clear hF
  rintro m2 _ _ ⟨g3, k4, rest5, rfl, rfl, hd7, hE, hF⟩
  refine K_ent hE ?_
  clear hE
  refine K_pure (c := crd (RdS 159 rd159) v0_0.v a_s1) (.t .h) crd_bound (fun hbd12 => ?_)
  rcases rest5 with _ | ⟨x6, rest5⟩
  · have hk8 := List.drop_eq_nil_iff.1 hd7
    have hfe11 : (decide (((k4 : Int) : Int) < (a_s1.length : Int))) = false := decide_eq_false (by omega)
    rw [g_slices_EqualFunc_impl_Stored_impl_Stored_impl_Stored_impl_Stored_iEqualCaches1_L1] at hF
    refine K_region ?_
    refine C_val (V_lss (i := (k4 : Int)) (j := (a_s1.length : Int)) (.tmp rfl rfl) (.tmp rfl rfl)) ?_
    refine C_nil ?_
    refine K_in ?_
    refine CW_cond (b := (decide (((k4 : Int) : Int) < (a_s1.length : Int)))) (.tmp rfl rfl) (fun hb => absurd (hfe11.symm.trans hb) (by decide)) (fun _ => ?_)
    refine CW_exit ?_
    refine CThen_exit ?_
    refine CThen_exit ?_
    refine CIn_self ?_
    refine K_region ?_
    refine C_val (V_assign (v := (.bool true)) (.bool _)) ?_
    refine C_nil ?_
    refine CW_ret ?_
    obtain rfl := Option.some.inj hF
    exact End_ret () (.tmp rfl rfl .nil) rfl (.sel .nil)
  obtain ⟨hk8, hx9, hd10⟩ := drop_cons hd7
  have hfe11 : (decide (((k4 : Int) : Int) < (a_s1.length : Int))) = true := decide_eq_true (by omega)
  rw [g_slices_EqualFunc_impl_Stored_impl_Stored_impl_Stored_impl_Stored_iEqualCaches1_L1] at hF
  refine K_region ?_
  refine C_val (V_lss (i := (k4 : Int)) (j := (a_s1.length : Int)) (.tmp rfl rfl) (.tmp rfl rfl)) ?_
  refine C_nil ?_
  refine K_in ?_
  refine CW_cond (b := (decide (((k4 : Int) : Int) < (a_s1.length : Int)))) (.tmp rfl rfl) (fun _ => ?_) (fun hb => absurd (hfe11.symm.trans hb) (by decide))
  refine CW_skip ?_
  refine K_block ?_
  refine K_region ?_
  refine C_val (V_move (v := (.int .i64 (k4 : Int))) (.tmp rfl rfl)) ?_
  refine C_idx (a := x6) sl50 ty159.sz (.tmp rfl rfl) (.tmp rfl rfl) (.t .h) (Int.natCast_nonneg k4) hx9 (fun k13 j14 => ?_)
  refine C_ldA2 (ul159_0_159 x6) ag159 ty159.sz rfl (.tmp rfl rfl) .h la159_0_159 (fun p15 => ?_)
  refine C_new rfl (N_allocT (g := true) ty159 rfl rfl) (fun k16 => ?_)
  refine C_val (V_assign (v := (.int .i64 (k4 : Int))) (.tmp rfl rfl)) ?_
  refine C_x1 (.cons .h .nil) (X_storeB (e := (.agg [(.int .i64 0), (.slice none 0 0), (.slice none 0 0), (.int .i64 0)].toArray)) (e' := (.agg [(.int .i64 x6.Access.Method), p15.1.v, p15.2.v, (.int .i64 x6.At)].toArray)) (v := (.agg [(.int .i64 x6.Access.Method), p15.1.v, p15.2.v, (.int .i64 x6.At)].toArray)) ty159.sz (.tmp rfl rfl) (.tmp rfl rfl) rfl rfl rfl rfl rfl) (fun _ => ?_)
  refine C_nil ?_
  refine K_region ?_
  refine C_val (V_move (v := v1_0.v) (.tmp rfl rfl)) ?_
  refine C_val (V_move (v := (.int .i64 (k4 : Int))) (.tmp rfl rfl)) ?_
  obtain ⟨x17, hx18, hF⟩ := bind_some hF
  obtain ⟨hp19, hx20⟩ := ix_some hx18
  refine C_idx (a := x17) sl50 ty159.sz (.tmp rfl rfl) (.tmp rfl rfl) (.t (.t (.t (.t .h)))) hp19 hx20 (fun k21 j22 => ?_)
  refine C_ldA2 (ul159_0_159 x17) ag159 ty159.sz rfl (.tmp rfl rfl) .h la159_0_159 (fun p23 => ?_)
  refine C_new rfl (N_allocT (g := true) ty159 rfl rfl) (fun k24 => ?_)
  refine C_x1 (.cons .h .nil) (X_storeB (e := (.agg [(.int .i64 0), (.slice none 0 0), (.slice none 0 0), (.int .i64 0)].toArray)) (e' := (.agg [(.int .i64 x17.Access.Method), p23.1.v, p23.2.v, (.int .i64 x17.At)].toArray)) (v := (.agg [(.int .i64 x17.Access.Method), p23.1.v, p23.2.v, (.int .i64 x17.At)].toArray)) ty159.sz (.tmp rfl rfl) (.tmp rfl rfl) rfl rfl rfl rfl rfl) (fun _ => ?_)
  refine C_nil ?_
  refine K_region ?_
  refine C_val (V_move (v := (.func (.func 141) [].toArray [].toArray)) (.tmp rfl rfl)) ?_
  refine C_at (.t (.t (.t (.t .h)))) (fun hp => V_loadBox ag159 ty159.sz rfl (.tmp rfl rfl) hp.2 rfl) ?_
  refine C_at .h (fun hp => V_loadBox ag159 ty159.sz rfl (.tmp rfl rfl) hp.2 rfl) ?_
  obtain ⟨r25, hx26, hF⟩ := bind_some hF
  refine C_x0 (.rd (.t (.t (.t (.t (.t .h))))) rfl (.rd (.t (.t (.t (.t (.t (.t .h)))))) rfl (.rd (.t .h) rfl (.rd (.t (.t .h)) rfl .nil)))) (X_callCS cf141 (.tmp rfl rfl) (.cons (.tmp rfl rfl) (.cons (.tmp rfl rfl) .nil)) (i_EqualCaches_1_ok x6 p15.1 p15.2 x17 p23.1 p23.2 _ hx26)) (fun _ => ?_)
  refine C_val (V_not (b := r25) (.tmp rfl rfl)) ?_
  refine C_nil ?_
  refine CW_cond (b := (!r25)) (.tmp rfl rfl) (fun hb29 => ?_) (fun hb29 => ?_)
  · rw [if_pos hb29] at hF
    refine K_region ?_
    refine C_val (V_assign (v := (.bool false)) (.bool _)) ?_
    refine C_nil ?_
    refine CW_ret ?_
    obtain rfl := Option.some.inj hF
    exact End_ret () (.tmp rfl rfl .nil) rfl (.sel .nil)
  rw [if_neg (by rw [hb29]; exact Bool.false_ne_true)] at hF
  refine CW_skip ?_
  refine CW_region ?_
  refine C_val (V_add (i := (k4 : Int)) (j := 1) (.tmp rfl rfl) (.int _ _)) ?_
  refine C_val (V_move (v := (.int .i64 (IntKind.i64.wrap ((k4 : Int) + 1)))) (.tmp rfl rfl)) ?_
  refine C_nil ?_
  have hw28 : IntKind.i64.wrap ((k4 : Int) + 1) = ((k4 + 1 : Nat) : Int) := by rw [wrap_in (by omega) (by omega)]; rfl
  rw [hw28]
  exact ⟨_, Nat.lt_succ_self _, _, k4 + 1, rest5, rfl, (EqL.cons rfl (EqL.cons rfl (EqL.cons rfl (EqL.cons rfl (EqL.cons rfl (EqL.nil)))))).eq, hd10, (.sel (.rd (.t (.t (.t (.t (.t (.t (.t (.t .h)))))))) rfl (.rd (.t (.t (.t (.t (.t (.t (.t (.t (.t .h))))))))) rfl .nil))), hF⟩

/-! impl.EqualCaches -/
def i_EqualCaches (a_a : Cache) (a_b : Cache) : Option (Bool) :=
  (bif ((a_a.Age : Int) == a_b.Age) then ((g_slices_EqualFunc_impl_Stored_impl_Stored_impl_Stored_impl_Stored_iEqualCaches1 a_a.Entries a_b.Entries).bind fun r6 =>
      some r6)
    else (some false)).bind fun o3 =>
  match o3 with
  | c9 => some c9
theorem i_EqualCaches_ok (a_a : Cache) (v0_0 : Sv) (a_b : Cache) (v1_0 : Sv) (R : Bool) (hF : i_EqualCaches a_a a_b = some R) :
    Fw.Spec Try.prog 102 [(.agg [v0_0.v, (.int .i64 a_a.Age)].toArray), (.agg [v1_0.v, (.int .i64 a_b.Age)].toArray)] [crd (RdS 159 rd159) v0_0.v a_a.Entries, crd (RdS 159 rd159) v1_0.v a_b.Entries] (fun _ : Unit => (.bool R)) (fun _ => []) := by
  refine Spec_enter (n := 17) Try.func102 rfl rfl (rs := [.tmp 4]) rfl rfl rfl ?_
  intro H0 F0
  unfold i_EqualCaches at hF
  refine K_region ?_
  refine C_newR rfl (N_box (g := false) (v := (.agg [v0_0.v, (.int .i64 a_a.Age)].toArray)) ty52.sz (.tmp rfl rfl) rfl) (fun k1 => ?_)
  refine C_newR rfl (N_box (g := false) (v := (.agg [v1_0.v, (.int .i64 a_b.Age)].toArray)) ty52.sz (.tmp rfl rfl) rfl) (fun k2 => ?_)
  refine C_val (V_assign (v := (.bool false)) (.bool _)) ?_
  refine C_nil ?_
  obtain ⟨o3, hio3, hO4⟩ := bind_some hF
  refine K_region ?_
  refine C_cut (fun f' cs' => ∃ (c9 : Bool) (g : Fr), c9 = o3 ∧ f' = updL g [(4, (.bool c9))] ∧ Ent cs' []) ?_ ?_
  · replace hF := hio3
    refine C_val (V_fieldAddr (off := 1) fd52_1 (.tmp rfl rfl)) ?_
    refine C_at (.t .h) (fun hp => V_load (v := (.int .i64 a_a.Age)) ag3 (.tmp rfl rfl) hp.2 rfl rfl) ?_
    refine C_val (V_fieldAddr (off := 1) fd52_1 (.tmp rfl rfl)) ?_
    refine C_at .h (fun hp => V_load (v := (.int .i64 a_b.Age)) ag3 (.tmp rfl rfl) hp.2 rfl rfl) ?_
    refine C_val (V_eql (i := a_a.Age) (j := a_b.Age) (.tmp rfl rfl) (.tmp rfl rfl)) ?_
    refine C_val (V_move (v := (.bool ((a_a.Age : Int) == a_b.Age))) (.tmp rfl rfl)) ?_
    rcases Bool.eq_false_or_eq_true ((a_a.Age : Int) == a_b.Age) with hg5 | hg5
    · rw [hg5]
      try rw [hg5] at hF; dsimp only [cond_true, cond_false] at hF
      refine C_on (t := 10) rfl rfl rfl ?_
      refine C_val (V_fieldAddr (off := 0) fd52_0 (.tmp rfl rfl)) ?_
      refine C_on (t := 10) rfl rfl rfl ?_
      refine C_at (.t .h) (fun hp => V_load (v := v0_0.v) ag50 (.tmp rfl rfl) hp.2 rfl rfl) ?_
      refine C_on (t := 10) rfl rfl rfl ?_
      refine C_val (V_fieldAddr (off := 0) fd52_0 (.tmp rfl rfl)) ?_
      refine C_on (t := 10) rfl rfl rfl ?_
      refine C_at .h (fun hp => V_load (v := v1_0.v) ag50 (.tmp rfl rfl) hp.2 rfl rfl) ?_
      refine C_on (t := 10) rfl rfl rfl ?_
      obtain ⟨r6, hx7, hF⟩ := bind_some hF
      refine C_x0 (.rd (.t (.t .h)) rfl (.rd (.t (.t (.t .h))) rfl .nil)) (X_callS cf140 (.cons (.tmp rfl rfl) (.cons (.tmp rfl rfl) (.cons (.fn _) .nil))) (g_slices_EqualFunc_impl_Stored_impl_Stored_impl_Stored_impl_Stored_iEqualCaches1_ok a_a.Entries v0_0 a_b.Entries v1_0 _ hx7)) (fun _ => ?_)
      refine C_val (V_pick (b := true) (u := (.bool r6)) (v := (.bool false)) (.tmp rfl rfl) (.tmp rfl rfl) (.bool _)) ?_
      refine C_val (V_assign (v := (.bool r6)) (.tmp rfl rfl)) ?_
      refine C_nil ?_
      obtain rfl := Option.some.inj hF
      exact ⟨_, _, rfl, (EqL.cons rfl (EqL.nil)).eq, (.sel .nil)⟩
    rw [hg5]
    try rw [hg5] at hF; dsimp only [cond_true, cond_false] at hF
    refine C_off (t := 10) rfl rfl rfl ?_
    refine C_off (t := 10) rfl rfl rfl ?_
    refine C_off (t := 10) rfl rfl rfl ?_
    refine C_off (t := 10) rfl rfl rfl ?_
    refine C_off (t := 10) rfl rfl rfl ?_
    refine C_val (V_pick (b := false) (u := undef) (v := (.bool false)) (.tmp rfl rfl) (.tmp rfl rfl) (.bool _)) ?_
    refine C_val (V_assign (v := (.bool false)) (.tmp rfl rfl)) ?_
    refine C_nil ?_
    obtain rfl := Option.some.inj hF
    exact ⟨_, _, rfl, (EqL.cons rfl (EqL.nil)).eq, (.sel .nil)⟩
  rintro _ _ ⟨c9, g10, rfl, rfl, hE⟩
  replace hF := hO4
  clear hO4
  try dsimp only at hF
  refine K_ent hE ?_
  refine CW_ret ?_
  obtain rfl := Option.some.inj hF
  exact End_ret () (.tmp rfl rfl .nil) rfl (.sel .nil)

/-! impl.Access] -/
def g_slices_EqualFunc_impl_Access_impl_Access_impl_Access_impl_Access_isameAccess_L1 (a_s2 : List Access) : List Access → Nat → Option (Bool)
  | [], k4 => some true
  | x6 :: rest5, k4 => (ix a_s2 (k4 : Int)).bind fun x17 =>
    (i_sameAccess x6 x17).bind fun r25 =>
    if (!r25) then (
      some false)
    else (
      g_slices_EqualFunc_impl_Access_impl_Access_impl_Access_impl_Access_isameAccess_L1 a_s2 rest5 (k4 + 1))
def g_slices_EqualFunc_impl_Access_impl_Access_impl_Access_impl_Access_isameAccess (a_s1 : List Access) (a_s2 : List Access) : Option (Bool) :=
  if (((a_s1.length : Int) : Int) != (a_s2.length : Int)) then (
    some false)
  else (
    g_slices_EqualFunc_impl_Access_impl_Access_impl_Access_impl_Access_isameAccess_L1 a_s2 a_s1 0)
theorem g_slices_EqualFunc_impl_Access_impl_Access_impl_Access_impl_Access_isameAccess_ok (a_s1 : List Access) (v0_0 : Sv) (a_s2 : List Access) (v1_0 : Sv) (R : Bool) (hF : g_slices_EqualFunc_impl_Access_impl_Access_impl_Access_impl_Access_isameAccess a_s1 a_s2 = some R) :
    Fw.Spec Try.prog 111 [v0_0.v, v1_0.v, (.func (.func 112) [].toArray [].toArray)] [crd (RdS 100 rd100) v0_0.v a_s1, crd (RdS 100 rd100) v1_0.v a_s2] (fun _ : Unit => (.bool R)) (fun _ => []) := by
  refine Spec_enter (n := 32) Try.func111 rfl rfl (rs := [.tmp 6]) rfl rfl rfl ?_
  intro H0 F0
  unfold g_slices_EqualFunc_impl_Access_impl_Access_impl_Access_impl_Access_isameAccess at hF
  refine K_region ?_
  refine C_val (V_assign (v := (.bool false)) (.bool _)) ?_
  refine C_nil ?_
  refine K_in ?_
  refine K_region ?_
  refine C_val (V_move (v := v0_0.v) (.tmp rfl rfl)) ?_
  refine C_at .h (fun hp => V_lenR (l := a_s1.length) sl33 (.tmp rfl rfl) (crd_len hp)) ?_
  refine C_val (V_move (v := v1_0.v) (.tmp rfl rfl)) ?_
  refine C_at (.t .h) (fun hp => V_lenR (l := a_s2.length) sl33 (.tmp rfl rfl) (crd_len hp)) ?_
  refine C_val (V_neq (i := (a_s1.length : Int)) (j := (a_s2.length : Int)) (.tmp rfl rfl) (.tmp rfl rfl)) ?_
  refine C_nil ?_
  refine CW_cond (b := (((a_s1.length : Int) : Int) != (a_s2.length : Int))) (.tmp rfl rfl) (fun hb30 => ?_) (fun hb30 => ?_)
  · rw [if_pos hb30] at hF
    refine K_region ?_
    refine C_val (V_assign (v := (.bool false)) (.bool _)) ?_
    refine C_nil ?_
    refine CW_ret ?_
    obtain rfl := Option.some.inj hF
    exact End_ret () (.tmp rfl rfl .nil) rfl (.sel .nil)
  rw [if_neg (by rw [hb30]; exact Bool.false_ne_true)] at hF
  refine CW_skip ?_
  refine K_in ?_
  refine K_region ?_
  refine C_val (V_move (v := v0_0.v) (.tmp rfl rfl)) ?_
  refine C_at .h (fun hp => V_lenR (l := a_s1.length) sl33 (.tmp rfl rfl) (crd_len hp)) ?_
  refine C_val (V_move (v := (.int .i64 0)) (.int _ _)) ?_
  refine C_nil ?_
  refine CW_block ?_
  refine CW_loop (m := a_s1.length) (fun m2 f' cs' => ∃ (g : Fr) (k4 : Nat) (rest5 : List Access), m2 = rest5.length ∧ f' = updL g [(1, v1_0.v), (2, (.func (.func 112) [].toArray [].toArray)), (15, v0_0.v), (16, (.int .i64 (a_s1.length : Int))), (17, (.int .i64 (k4 : Int)))] ∧ List.drop k4 a_s1 = rest5 ∧ Ent cs' [crd (RdS 100 rd100) v1_0.v a_s2, crd (RdS 100 rd100) v0_0.v a_s1] ∧ g_slices_EqualFunc_impl_Access_impl_Access_impl_Access_impl_Access_isameAccess_L1 a_s2 rest5 k4 = some R) ⟨_, 0, _, rfl, (EqL.cons rfl (EqL.cons rfl (EqL.cons rfl (EqL.cons rfl (EqL.cons rfl (EqL.nil)))))).eq, rfl, (.sel (.rd (.t .h) rfl (.rd .h rfl .nil))), hF⟩ ?_
  clear hF
  rintro m2 _ _ ⟨g3, k4, rest5, rfl, rfl, hd7, hE, hF⟩
  refine K_ent hE ?_
  clear hE
  refine K_pure (c := crd (RdS 100 rd100) v0_0.v a_s1) (.t .h) crd_bound (fun hbd12 => ?_)
  rcases rest5 with _ | ⟨x6, rest5⟩
  · have hk8 := List.drop_eq_nil_iff.1 hd7
    have hfe11 : (decide (((k4 : Int) : Int) < (a_s1.length : Int))) = false := decide_eq_false (by omega)
    rw [g_slices_EqualFunc_impl_Access_impl_Access_impl_Access_impl_Access_isameAccess_L1] at hF
    refine K_region ?_
    refine C_val (V_lss (i := (k4 : Int)) (j := (a_s1.length : Int)) (.tmp rfl rfl) (.tmp rfl rfl)) ?_
    refine C_nil ?_
    refine K_in ?_
    refine CW_cond (b := (decide (((k4 : Int) : Int) < (a_s1.length : Int)))) (.tmp rfl rfl) (fun hb => absurd (hfe11.symm.trans hb) (by decide)) (fun _ => ?_)
    refine CW_exit ?_
    refine CThen_exit ?_
    refine CThen_exit ?_
    refine CIn_self ?_
    refine K_region ?_
    refine C_val (V_assign (v := (.bool true)) (.bool _)) ?_
    refine C_nil ?_
    refine CW_ret ?_
    obtain rfl := Option.some.inj hF
    exact End_ret () (.tmp rfl rfl .nil) rfl (.sel .nil)
  obtain ⟨hk8, hx9, hd10⟩ := drop_cons hd7
  have hfe11 : (decide (((k4 : Int) : Int) < (a_s1.length : Int))) = true := decide_eq_true (by omega)
  rw [g_slices_EqualFunc_impl_Access_impl_Access_impl_Access_impl_Access_isameAccess_L1] at hF
  refine K_region ?_
  refine C_val (V_lss (i := (k4 : Int)) (j := (a_s1.length : Int)) (.tmp rfl rfl) (.tmp rfl rfl)) ?_
  refine C_nil ?_
  refine K_in ?_
  refine CW_cond (b := (decide (((k4 : Int) : Int) < (a_s1.length : Int)))) (.tmp rfl rfl) (fun _ => ?_) (fun hb => absurd (hfe11.symm.trans hb) (by decide))
  refine CW_skip ?_
  refine K_block ?_
  refine K_region ?_
  refine C_val (V_move (v := (.int .i64 (k4 : Int))) (.tmp rfl rfl)) ?_
  refine C_idx (a := x6) sl33 ty100.sz (.tmp rfl rfl) (.tmp rfl rfl) (.t .h) (Int.natCast_nonneg k4) hx9 (fun k13 j14 => ?_)
  refine C_ldA1 (ul100_0_100 x6) ag100 ty100.sz rfl (.tmp rfl rfl) .h la100_0_100 (fun p15 => ?_)
  refine C_new rfl (N_allocT (g := true) ty100 rfl rfl) (fun k16 => ?_)
  refine C_val (V_assign (v := (.int .i64 (k4 : Int))) (.tmp rfl rfl)) ?_
  refine C_x1 (.cons .h .nil) (X_storeB (e := (.agg [(.int .i64 0), (.slice none 0 0)].toArray)) (e' := (.agg [(.int .i64 x6.Method), p15.v].toArray)) (v := (.agg [(.int .i64 x6.Method), p15.v].toArray)) ty100.sz (.tmp rfl rfl) (.tmp rfl rfl) rfl rfl rfl rfl rfl) (fun _ => ?_)
  refine C_nil ?_
  refine K_region ?_
  refine C_val (V_move (v := v1_0.v) (.tmp rfl rfl)) ?_
  refine C_val (V_move (v := (.int .i64 (k4 : Int))) (.tmp rfl rfl)) ?_
  obtain ⟨x17, hx18, hF⟩ := bind_some hF
  obtain ⟨hp19, hx20⟩ := ix_some hx18
  refine C_idx (a := x17) sl33 ty100.sz (.tmp rfl rfl) (.tmp rfl rfl) (.t (.t (.t .h))) hp19 hx20 (fun k21 j22 => ?_)
  refine C_ldA1 (ul100_0_100 x17) ag100 ty100.sz rfl (.tmp rfl rfl) .h la100_0_100 (fun p23 => ?_)
  refine C_new rfl (N_allocT (g := true) ty100 rfl rfl) (fun k24 => ?_)
  refine C_x1 (.cons .h .nil) (X_storeB (e := (.agg [(.int .i64 0), (.slice none 0 0)].toArray)) (e' := (.agg [(.int .i64 x17.Method), p23.v].toArray)) (v := (.agg [(.int .i64 x17.Method), p23.v].toArray)) ty100.sz (.tmp rfl rfl) (.tmp rfl rfl) rfl rfl rfl rfl rfl) (fun _ => ?_)
  refine C_nil ?_
  refine K_region ?_
  refine C_val (V_move (v := (.func (.func 112) [].toArray [].toArray)) (.tmp rfl rfl)) ?_
  refine C_at (.t (.t (.t .h))) (fun hp => V_loadBox ag100 ty100.sz rfl (.tmp rfl rfl) hp.2 rfl) ?_
  refine C_at .h (fun hp => V_loadBox ag100 ty100.sz rfl (.tmp rfl rfl) hp.2 rfl) ?_
  obtain ⟨r25, hx26, hF⟩ := bind_some hF
  refine C_x0 (.rd (.t (.t (.t (.t .h)))) rfl (.rd (.t .h) rfl .nil)) (X_callCS cf112 (.tmp rfl rfl) (.cons (.tmp rfl rfl) (.cons (.tmp rfl rfl) .nil)) (i_sameAccess_ok x6 p15 x17 p23 _ hx26)) (fun _ => ?_)
  refine C_val (V_not (b := r25) (.tmp rfl rfl)) ?_
  refine C_nil ?_
  refine CW_cond (b := (!r25)) (.tmp rfl rfl) (fun hb29 => ?_) (fun hb29 => ?_)
  · rw [if_pos hb29] at hF
    refine K_region ?_
    refine C_val (V_assign (v := (.bool false)) (.bool _)) ?_
    refine C_nil ?_
    refine CW_ret ?_
    obtain rfl := Option.some.inj hF
    exact End_ret () (.tmp rfl rfl .nil) rfl (.sel .nil)
  rw [if_neg (by rw [hb29]; exact Bool.false_ne_true)] at hF
  refine CW_skip ?_
  refine CW_region ?_
  refine C_val (V_add (i := (k4 : Int)) (j := 1) (.tmp rfl rfl) (.int _ _)) ?_
  refine C_val (V_move (v := (.int .i64 (IntKind.i64.wrap ((k4 : Int) + 1)))) (.tmp rfl rfl)) ?_
  refine C_nil ?_
  have hw28 : IntKind.i64.wrap ((k4 : Int) + 1) = ((k4 + 1 : Nat) : Int) := by rw [wrap_in (by omega) (by omega)]; rfl
  rw [hw28]
  exact ⟨_, Nat.lt_succ_self _, _, k4 + 1, rest5, rfl, (EqL.cons rfl (EqL.cons rfl (EqL.cons rfl (EqL.cons rfl (EqL.cons rfl (EqL.nil)))))).eq, hd10, (.sel (.rd (.t (.t (.t (.t (.t (.t .h)))))) rfl (.rd (.t (.t (.t (.t (.t (.t (.t .h))))))) rfl .nil))), hF⟩

/-! impl.SameAccesses -/
def i_SameAccesses (a_a : List Access) (a_b : List Access) : Option (Bool) :=
  (g_slices_EqualFunc_impl_Access_impl_Access_impl_Access_impl_Access_isameAccess a_a a_b).bind fun r1 =>
  some r1
theorem i_SameAccesses_ok (a_a : List Access) (v0_0 : Sv) (a_b : List Access) (v1_0 : Sv) (R : Bool) (hF : i_SameAccesses a_a a_b = some R) :
    Fw.Spec Try.prog 62 [v0_0.v, v1_0.v] [crd (RdS 100 rd100) v0_0.v a_a, crd (RdS 100 rd100) v1_0.v a_b] (fun _ : Unit => (.bool R)) (fun _ => []) := by
  refine Spec_enter (n := 8) Try.func62 rfl rfl (rs := [.tmp 4]) rfl rfl rfl ?_
  intro H0 F0
  unfold i_SameAccesses at hF
  refine K_region ?_
  refine C_val (V_assign (v := (.bool false)) (.bool _)) ?_
  refine C_nil ?_
  refine K_region ?_
  refine C_val (V_move (v := v0_0.v) (.tmp rfl rfl)) ?_
  refine C_val (V_move (v := v1_0.v) (.tmp rfl rfl)) ?_
  obtain ⟨r1, hx2, hF⟩ := bind_some hF
  refine C_x0 (.rd .h rfl (.rd (.t .h) rfl .nil)) (X_callS cf111 (.cons (.tmp rfl rfl) (.cons (.tmp rfl rfl) (.cons (.fn _) .nil))) (g_slices_EqualFunc_impl_Access_impl_Access_impl_Access_impl_Access_isameAccess_ok a_a v0_0 a_b v1_0 _ hx2)) (fun _ => ?_)
  refine C_val (V_assign (v := (.bool r1)) (.tmp rfl rfl)) ?_
  refine C_nil ?_
  refine CW_ret ?_
  obtain rfl := Option.some.inj hF
  exact End_ret () (.tmp rfl rfl .nil) rfl (.sel .nil)

/-! slices.EqualFunc[[][]int,[][]int,[]int,[]int] -/
def g_slices_EqualFunc_int_int_int_int_gslicesEqualintint_L1 (a_s2 : List (List Int)) : List (List Int) → Nat → Option (Bool)
  | [], k4 => some true
  | x6 :: rest5, k4 => (ix a_s2 (k4 : Int)).bind fun x16 =>
    (g_slices_Equal_int_int x6 x16).bind fun r23 =>
    if (!r23) then (
      some false)
    else (
      g_slices_EqualFunc_int_int_int_int_gslicesEqualintint_L1 a_s2 rest5 (k4 + 1))
def g_slices_EqualFunc_int_int_int_int_gslicesEqualintint (a_s1 : List (List Int)) (a_s2 : List (List Int)) : Option (Bool) :=
  if (((a_s1.length : Int) : Int) != (a_s2.length : Int)) then (
    some false)
  else (
    g_slices_EqualFunc_int_int_int_int_gslicesEqualintint_L1 a_s2 a_s1 0)
theorem g_slices_EqualFunc_int_int_int_int_gslicesEqualintint_ok (a_s1 : List (List Int)) (v0_0 : Sv) (a_s2 : List (List Int)) (v1_0 : Sv) (R : Bool) (hF : g_slices_EqualFunc_int_int_int_int_gslicesEqualintint a_s1 a_s2 = some R) :
    Fw.Spec Try.prog 142 [v0_0.v, v1_0.v, (.func (.func 96) [].toArray [].toArray)] [crd (RdS 45 (RdS 3 rdInt)) v0_0.v a_s1, crd (RdS 45 (RdS 3 rdInt)) v1_0.v a_s2] (fun _ : Unit => (.bool R)) (fun _ => []) := by
  refine Spec_enter (n := 32) Try.func142 rfl rfl (rs := [.tmp 6]) rfl rfl rfl ?_
  intro H0 F0
  unfold g_slices_EqualFunc_int_int_int_int_gslicesEqualintint at hF
  refine K_region ?_
  refine C_val (V_assign (v := (.bool false)) (.bool _)) ?_
  refine C_nil ?_
  refine K_in ?_
  refine K_region ?_
  refine C_val (V_move (v := v0_0.v) (.tmp rfl rfl)) ?_
  refine C_at .h (fun hp => V_lenR (l := a_s1.length) sl128 (.tmp rfl rfl) (crd_len hp)) ?_
  refine C_val (V_move (v := v1_0.v) (.tmp rfl rfl)) ?_
  refine C_at (.t .h) (fun hp => V_lenR (l := a_s2.length) sl128 (.tmp rfl rfl) (crd_len hp)) ?_
  refine C_val (V_neq (i := (a_s1.length : Int)) (j := (a_s2.length : Int)) (.tmp rfl rfl) (.tmp rfl rfl)) ?_
  refine C_nil ?_
  refine CW_cond (b := (((a_s1.length : Int) : Int) != (a_s2.length : Int))) (.tmp rfl rfl) (fun hb28 => ?_) (fun hb28 => ?_)
  · rw [if_pos hb28] at hF
    refine K_region ?_
    refine C_val (V_assign (v := (.bool false)) (.bool _)) ?_
    refine C_nil ?_
    refine CW_ret ?_
    obtain rfl := Option.some.inj hF
    exact End_ret () (.tmp rfl rfl .nil) rfl (.sel .nil)
  rw [if_neg (by rw [hb28]; exact Bool.false_ne_true)] at hF
  refine CW_skip ?_
  refine K_in ?_
  refine K_region ?_
  refine C_val (V_move (v := v0_0.v) (.tmp rfl rfl)) ?_
  refine C_at .h (fun hp => V_lenR (l := a_s1.length) sl128 (.tmp rfl rfl) (crd_len hp)) ?_
  refine C_val (V_move (v := (.int .i64 0)) (.int _ _)) ?_
  refine C_nil ?_
  refine CW_block ?_
  refine CW_loop (m := a_s1.length) (fun m2 f' cs' => ∃ (g : Fr) (k4 : Nat) (rest5 : List (List Int)), m2 = rest5.length ∧ f' = updL g [(1, v1_0.v), (2, (.func (.func 96) [].toArray [].toArray)), (15, v0_0.v), (16, (.int .i64 (a_s1.length : Int))), (17, (.int .i64 (k4 : Int)))] ∧ List.drop k4 a_s1 = rest5 ∧ Ent cs' [crd (RdS 45 (RdS 3 rdInt)) v1_0.v a_s2, crd (RdS 45 (RdS 3 rdInt)) v0_0.v a_s1] ∧ g_slices_EqualFunc_int_int_int_int_gslicesEqualintint_L1 a_s2 rest5 k4 = some R) ⟨_, 0, _, rfl, (EqL.cons rfl (EqL.cons rfl (EqL.cons rfl (EqL.cons rfl (EqL.cons rfl (EqL.nil)))))).eq, rfl, (.sel (.rd (.t .h) rfl (.rd .h rfl .nil))), hF⟩ ?_
  clear hF
  rintro m2 _ _ ⟨g3, k4, rest5, rfl, rfl, hd7, hE, hF⟩
  refine K_ent hE ?_
  clear hE
  refine K_pure (c := crd (RdS 45 (RdS 3 rdInt)) v0_0.v a_s1) (.t .h) crd_bound (fun hbd12 => ?_)
  rcases rest5 with _ | ⟨x6, rest5⟩
  · have hk8 := List.drop_eq_nil_iff.1 hd7
    have hfe11 : (decide (((k4 : Int) : Int) < (a_s1.length : Int))) = false := decide_eq_false (by omega)
    rw [g_slices_EqualFunc_int_int_int_int_gslicesEqualintint_L1] at hF
    refine K_region ?_
    refine C_val (V_lss (i := (k4 : Int)) (j := (a_s1.length : Int)) (.tmp rfl rfl) (.tmp rfl rfl)) ?_
    refine C_nil ?_
    refine K_in ?_
    refine CW_cond (b := (decide (((k4 : Int) : Int) < (a_s1.length : Int)))) (.tmp rfl rfl) (fun hb => absurd (hfe11.symm.trans hb) (by decide)) (fun _ => ?_)
    refine CW_exit ?_
    refine CThen_exit ?_
    refine CThen_exit ?_
    refine CIn_self ?_
    refine K_region ?_
    refine C_val (V_assign (v := (.bool true)) (.bool _)) ?_
    refine C_nil ?_
    refine CW_ret ?_
    obtain rfl := Option.some.inj hF
    exact End_ret () (.tmp rfl rfl .nil) rfl (.sel .nil)
  obtain ⟨hk8, hx9, hd10⟩ := drop_cons hd7
  have hfe11 : (decide (((k4 : Int) : Int) < (a_s1.length : Int))) = true := decide_eq_true (by omega)
  rw [g_slices_EqualFunc_int_int_int_int_gslicesEqualintint_L1] at hF
  refine K_region ?_
  refine C_val (V_lss (i := (k4 : Int)) (j := (a_s1.length : Int)) (.tmp rfl rfl) (.tmp rfl rfl)) ?_
  refine C_nil ?_
  refine K_in ?_
  refine CW_cond (b := (decide (((k4 : Int) : Int) < (a_s1.length : Int)))) (.tmp rfl rfl) (fun _ => ?_) (fun hb => absurd (hfe11.symm.trans hb) (by decide))
  refine CW_skip ?_
  refine K_block ?_
  refine K_region ?_
  refine C_val (V_move (v := (.int .i64 (k4 : Int))) (.tmp rfl rfl)) ?_
  refine C_idx (a := x6) sl128 ty45.sz (.tmp rfl rfl) (.tmp rfl rfl) (.t .h) (Int.natCast_nonneg k4) hx9 (fun k13 j14 => ?_)
  refine C_ldV (R' := (RdS 3 rdInt)) ag45 (.tmp rfl rfl) .h lv45_0 (fun w15 => ?_)
  refine C_val (V_assign (v := (.int .i64 (k4 : Int))) (.tmp rfl rfl)) ?_
  refine C_val (V_assign (v := w15.v) (.tmp rfl rfl)) ?_
  refine C_nil ?_
  refine K_region ?_
  refine C_val (V_move (v := v1_0.v) (.tmp rfl rfl)) ?_
  refine C_val (V_move (v := (.int .i64 (k4 : Int))) (.tmp rfl rfl)) ?_
  obtain ⟨x16, hx17, hF⟩ := bind_some hF
  obtain ⟨hp18, hx19⟩ := ix_some hx17
  refine C_idx (a := x16) sl128 ty45.sz (.tmp rfl rfl) (.tmp rfl rfl) (.t (.t .h)) hp18 hx19 (fun k20 j21 => ?_)
  refine C_ldV (R' := (RdS 3 rdInt)) ag45 (.tmp rfl rfl) .h lv45_0 (fun w22 => ?_)
  refine C_val (V_assign (v := w22.v) (.tmp rfl rfl)) ?_
  refine C_nil ?_
  refine K_region ?_
  refine C_val (V_move (v := (.func (.func 96) [].toArray [].toArray)) (.tmp rfl rfl)) ?_
  refine C_val (V_move (v := w15.v) (.tmp rfl rfl)) ?_
  refine C_val (V_move (v := w22.v) (.tmp rfl rfl)) ?_
  obtain ⟨r23, hx24, hF⟩ := bind_some hF
  refine C_x0 (.rd (.t (.t .h)) rfl (.rd .h rfl .nil)) (X_callCS cf96 (.tmp rfl rfl) (.cons (.tmp rfl rfl) (.cons (.tmp rfl rfl) .nil)) (g_slices_Equal_int_int_ok x6 w15 x16 w22 _ hx24)) (fun _ => ?_)
  refine C_val (V_not (b := r23) (.tmp rfl rfl)) ?_
  refine C_nil ?_
  refine CW_cond (b := (!r23)) (.tmp rfl rfl) (fun hb27 => ?_) (fun hb27 => ?_)
  · rw [if_pos hb27] at hF
    refine K_region ?_
    refine C_val (V_assign (v := (.bool false)) (.bool _)) ?_
    refine C_nil ?_
    refine CW_ret ?_
    obtain rfl := Option.some.inj hF
    exact End_ret () (.tmp rfl rfl .nil) rfl (.sel .nil)
  rw [if_neg (by rw [hb27]; exact Bool.false_ne_true)] at hF
  refine CW_skip ?_
  refine CW_region ?_
  refine C_val (V_add (i := (k4 : Int)) (j := 1) (.tmp rfl rfl) (.int _ _)) ?_
  refine C_val (V_move (v := (.int .i64 (IntKind.i64.wrap ((k4 : Int) + 1)))) (.tmp rfl rfl)) ?_
  refine C_nil ?_
  have hw26 : IntKind.i64.wrap ((k4 : Int) + 1) = ((k4 + 1 : Nat) : Int) := by rw [wrap_in (by omega) (by omega)]; rfl
  rw [hw26]
  exact ⟨_, Nat.lt_succ_self _, _, k4 + 1, rest5, rfl, (EqL.cons rfl (EqL.cons rfl (EqL.cons rfl (EqL.cons rfl (EqL.cons rfl (EqL.nil)))))).eq, hd10, (.sel (.rd (.t (.t (.t (.t .h)))) rfl (.rd (.t (.t (.t (.t (.t .h))))) rfl .nil))), hF⟩

/-! impl.SameTuples -/
def i_SameTuples (a_a : List (List Int)) (a_b : List (List Int)) : Option (Bool) :=
  (g_slices_EqualFunc_int_int_int_int_gslicesEqualintint a_a a_b).bind fun r1 =>
  some r1
theorem i_SameTuples_ok (a_a : List (List Int)) (v0_0 : Sv) (a_b : List (List Int)) (v1_0 : Sv) (R : Bool) (hF : i_SameTuples a_a a_b = some R) :
    Fw.Spec Try.prog 104 [v0_0.v, v1_0.v] [crd (RdS 45 (RdS 3 rdInt)) v0_0.v a_a, crd (RdS 45 (RdS 3 rdInt)) v1_0.v a_b] (fun _ : Unit => (.bool R)) (fun _ => []) := by
  refine Spec_enter (n := 8) Try.func104 rfl rfl (rs := [.tmp 4]) rfl rfl rfl ?_
  intro H0 F0
  unfold i_SameTuples at hF
  refine K_region ?_
  refine C_val (V_assign (v := (.bool false)) (.bool _)) ?_
  refine C_nil ?_
  refine K_region ?_
  refine C_val (V_move (v := v0_0.v) (.tmp rfl rfl)) ?_
  refine C_val (V_move (v := v1_0.v) (.tmp rfl rfl)) ?_
  obtain ⟨r1, hx2, hF⟩ := bind_some hF
  refine C_x0 (.rd .h rfl (.rd (.t .h) rfl .nil)) (X_callS cf142 (.cons (.tmp rfl rfl) (.cons (.tmp rfl rfl) (.cons (.fn _) .nil))) (g_slices_EqualFunc_int_int_int_int_gslicesEqualintint_ok a_a v0_0 a_b v1_0 _ hx2)) (fun _ => ?_)
  refine C_val (V_assign (v := (.bool r1)) (.tmp rfl rfl)) ?_
  refine C_nil ?_
  refine CW_ret ?_
  obtain rfl := Option.some.inj hF
  exact End_ret () (.tmp rfl rfl .nil) rfl (.sel .nil)

end Go.Proofs.Ytabpeldbccicaaa
