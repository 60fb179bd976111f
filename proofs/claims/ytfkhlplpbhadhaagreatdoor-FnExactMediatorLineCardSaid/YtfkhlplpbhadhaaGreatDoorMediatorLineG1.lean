/-
  Functions of the program as Lean functions, and that the calls return what these say: part 2. No conditions.
-/
import Derived.Shelf.Strconv.Itoa3
import Derived.Shelf.Strings.OnBuilder
import Derived.Test.YtfkhlplpbhadhaaGreatDoorMediatorLineG0
import Derived.KernelRfl
set_option maxRecDepth 100000
set_option linter.unusedVariables false
namespace Go.Proofs.YtfkhlplpbhadhaaGreatDoor
open Go Go.Fw

/-! spec.AreRules -/
def s_AreRules_L1 (a_s : List Int) (a_l : List Rule) : List Rule → Nat → Option (Bool)
  | [], k4 => ((s_IsSchema a_s).bind fun r15 =>
      bif r15 then (some (decide (((a_l.length : Int) : Int) ≤ 4)))
      else (some false)).bind fun o13 =>
    match o13 with
    | c19 => some c19
  | x6 :: rest5, k4 => (s_IsRule a_s x6).bind fun r24 =>
    if (!r24) then (
      some false)
    else (
      s_AreRules_L1 a_s a_l rest5 (k4 + 1))
def s_AreRules (a_s : List Int) (a_l : List Rule) : Option (Bool) :=
  s_AreRules_L1 a_s a_l a_l 0
theorem s_AreRules_ok (a_s : List Int) (v0_0 : Sv) (a_l : List Rule) (v1_0 : Sv) (R : Bool) (hF : s_AreRules a_s a_l = some R) :
    Fw.Spec Tryz.prog 55 [v0_0.v, v1_0.v] [crd (RdS 3 rdInt) v0_0.v a_s, crd (RdS 110 rd110) v1_0.v a_l] (fun _ : Unit => (.bool R)) (fun _ => []) := by
  refine Spec_enter (n := 26) Tryz.func55 rfl rfl (rs := [.tmp 4]) rfl rfl rfl ?_
  intro H0 F0
  unfold s_AreRules at hF
  refine K_region (C_val (V_assign (v := (.bool false)) (.bool _)) ?_)
  refine C_nil (K_in (K_region (C_val (V_assign (v := (.int .i64 0)) (.int _ _)) ?_)))
  refine C_nil (CW_block (CW_loop (m := a_l.length) (fun m2 f' cs' => ∃ (g : Fr) (k4 : Nat) (rest5 : List Rule), m2 = rest5.length ∧ f' = updL g [(0, v0_0.v), (1, v1_0.v), (5, (.int .i64 (k4 : Int)))] ∧ List.drop k4 a_l = rest5 ∧ Ent cs' [crd (RdS 3 rdInt) v0_0.v a_s, crd (RdS 110 rd110) v1_0.v a_l] ∧ s_AreRules_L1 a_s a_l rest5 k4 = some R) ⟨_, 0, _, rfl, (EqL.cons rfl (EqL.cons rfl (EqL.cons rfl (EqL.nil)))).eq, rfl, (.sel (.rd .h rfl (.rd (.t .h) rfl .nil))), hF⟩ ?_))
  clear hF
  rintro m2 _ _ ⟨g3, k4, rest5, rfl, rfl, hd7, hE, hF⟩
  refine K_ent hE ?_
  clear hE
  refine K_pure (c := crd (RdS 110 rd110) v1_0.v a_l) (.t .h) crd_bound (fun hbd12 => ?_)
  rcases rest5 with _ | ⟨x6, rest5⟩
  · have hk8 := List.drop_eq_nil_iff.1 hd7
    have hfe11 : (decide (((k4 : Int) : Int) < (a_l.length : Int))) = false := decide_eq_false (by omega)
    rw [s_AreRules_L1] at hF
    refine K_in (K_region (Cm (.int .i64 (k4 : Int)) rfl rfl ?_))
    refine Cm v1_0.v rfl rfl ?_
    refine C_at (.t .h) (fun hp => V_lenR (l := a_l.length) sl38 (.tmp rfl rfl) (crd_len hp)) ?_
    refine C_val (V_lss (i := (k4 : Int)) (j := (a_l.length : Int)) (.tmp rfl rfl) (.tmp rfl rfl)) ?_
    refine C_nil (CW_cond (b := (decide (((k4 : Int) : Int) < (a_l.length : Int)))) (.tmp rfl rfl) (fun hb => absurd (hfe11.symm.trans hb) (by decide)) (fun _ => ?_))
    refine CW_exit ?_
    iterate 2 refine CThen_exit ?_
    refine CIn_self ?_
    obtain ⟨o13, hio13, hO14⟩ := bind_some hF
    refine K_region (C_cut (fun f' cs' => ∃ (c19 : Bool) (g : Fr), c19 = o13 ∧ f' = updL g [(4, (.bool c19))] ∧ Ent cs' []) ?_ ?_)
    · replace hF := hio13
      refine Cm v0_0.v rfl rfl ?_
      obtain ⟨r15, hx16, hF⟩ := bind_some hF
      refine C_x0 (.rd .h rfl .nil) (X_callS cf53 (.cons (.tmp rfl rfl) .nil) (s_IsSchema_ok a_s v0_0 _ hx16)) (fun _ => ?_)
      refine Cm (.bool r15) rfl rfl ?_
      rcases Bool.eq_false_or_eq_true r15 with hg18 | hg18
      · rw [hg18]
        try rw [hg18] at hF; dsimp only [cond_true, cond_false] at hF
        refine C_on (t := 21) rfl rfl rfl ?_
        refine Cm v1_0.v rfl rfl ?_
        refine C_on (t := 21) rfl rfl rfl ?_
        refine C_at (.t .h) (fun hp => V_lenR (l := a_l.length) sl38 (.tmp rfl rfl) (crd_len hp)) ?_
        refine C_on (t := 21) rfl rfl rfl ?_
        refine C_val (V_leq (i := (a_l.length : Int)) (j := 4) (.tmp rfl rfl) (.int _ _)) ?_
        refine C_val (V_pick (b := true) (u := (.bool (decide (((a_l.length : Int) : Int) ≤ 4)))) (v := (.bool false)) (.tmp rfl rfl) (.tmp rfl rfl) (.bool _)) ?_
        refine Ca (.bool (decide (((a_l.length : Int) : Int) ≤ 4))) rfl rfl ?_
        refine C_nil ?_
        obtain rfl := Option.some.inj hF
        exact ⟨_, _, rfl, (EqL.cons rfl (EqL.nil)).eq, (.sel .nil)⟩
      rw [hg18]
      try rw [hg18] at hF; dsimp only [cond_true, cond_false] at hF
      iterate 3 refine C_off (t := 21) rfl rfl rfl ?_
      refine C_val (V_pick (b := false) (u := undef) (v := (.bool false)) (.tmp rfl rfl) (.tmp rfl rfl) (.bool _)) ?_
      refine Ca (.bool false) rfl rfl ?_
      refine C_nil ?_
      obtain rfl := Option.some.inj hF
      exact ⟨_, _, rfl, (EqL.cons rfl (EqL.nil)).eq, (.sel .nil)⟩
    rintro _ _ ⟨c19, g20, rfl, rfl, hE⟩
    replace hF := hO14
    clear hO14
    try dsimp only at hF
    refine K_ent hE ?_
    refine CW_ret ?_
    obtain rfl := Option.some.inj hF
    exact End_ret () (.tmp rfl rfl .nil) rfl (.sel .nil)
  obtain ⟨hk8, hx9, hd10⟩ := drop_cons hd7
  have hfe11 : (decide (((k4 : Int) : Int) < (a_l.length : Int))) = true := decide_eq_true (by omega)
  rw [s_AreRules_L1] at hF
  refine K_in (K_region (Cm (.int .i64 (k4 : Int)) rfl rfl ?_))
  refine Cm v1_0.v rfl rfl ?_
  refine C_at (.t .h) (fun hp => V_lenR (l := a_l.length) sl38 (.tmp rfl rfl) (crd_len hp)) ?_
  refine C_val (V_lss (i := (k4 : Int)) (j := (a_l.length : Int)) (.tmp rfl rfl) (.tmp rfl rfl)) ?_
  refine C_nil (CW_cond (b := (decide (((k4 : Int) : Int) < (a_l.length : Int)))) (.tmp rfl rfl) (fun _ => ?_) (fun hb => absurd (hfe11.symm.trans hb) (by decide)))
  refine CW_skip (K_block (K_region (Cm v0_0.v rfl rfl ?_)))
  refine Cm v1_0.v rfl rfl ?_
  refine Cm (.int .i64 (k4 : Int)) rfl rfl ?_
  refine C_idx (a := x6) sl38 ty110.sz (.tmp rfl rfl) (.tmp rfl rfl) (.t .h) (Int.natCast_nonneg k4) hx9 (fun k21 j22 => ?_)
  refine C_ldA1 (ul110_0_110 x6) ag110 ty110.sz rfl (.tmp rfl rfl) .h la110_0_110 (fun p23 => ?_)
  obtain ⟨r24, hx25, hF⟩ := bind_some hF
  refine C_x0 (.rd (.t (.t .h)) rfl (.rd .h rfl .nil)) (X_callS cf96 (.cons (.tmp rfl rfl) (.cons (.tmp rfl rfl) .nil)) (s_IsRule_ok a_s v0_0 x6 p23 _ hx25)) (fun _ => ?_)
  refine C_val (V_not (b := r24) (.tmp rfl rfl)) ?_
  refine C_nil (CW_cond (b := (!r24)) (.tmp rfl rfl) (fun hb28 => ?_) (fun hb28 => ?_))
  · rw [if_pos hb28] at hF
    refine K_region (C_val (V_assign (v := (.bool false)) (.bool _)) ?_)
    refine C_nil (CW_ret ?_)
    obtain rfl := Option.some.inj hF
    exact End_ret () (.tmp rfl rfl .nil) rfl (.sel .nil)
  rw [if_neg (by rw [hb28]; exact Bool.false_ne_true)] at hF
  refine CW_skip (CW_region (Cm (.int .i64 (k4 : Int)) rfl rfl ?_))
  refine C_val (V_add (i := (k4 : Int)) (j := 1) (.tmp rfl rfl) (.int _ _)) ?_
  refine Ca (.int .i64 (IntKind.i64.wrap ((k4 : Int) + 1))) rfl rfl ?_
  refine C_nil ?_
  have hw27 : IntKind.i64.wrap ((k4 : Int) + 1) = ((k4 + 1 : Nat) : Int) := by rw [wrap_in (by omega) (by omega)]; rfl
  rw [hw27]
  exact ⟨_, Nat.lt_succ_self _, _, k4 + 1, rest5, rfl, (EqL.cons rfl (EqL.cons rfl (EqL.cons rfl (EqL.nil)))).eq, hd10, (.sel (.rd (.t (.t .h)) rfl (.rd (.t (.t (.t .h))) rfl .nil))), hF⟩

/-! spec.IsFact -/
def s_IsFact_L1 : List Int → Nat → Option (Bool)
  | [], k22 => some true
  | x24 :: rest23, k22 => (s_l1In x24 0 9).bind fun r33 =>
    if (!r33) then (
      some false)
    else (
      s_IsFact_L1 rest23 (k22 + 1))
def s_IsFact (a_s : List Int) (a_f : Fact) : Option (Bool) :=
  ((s_IsSchema a_s).bind fun r4 =>
    bif (!r4) then (some true)
    else ((s_l1In a_f.Rel 0 (IntKind.i64.wrap ((a_s.length : Int) - 1))).bind fun r8 =>
      bif (!r8) then (some true)
      else ((ix a_s a_f.Rel).bind fun x12 =>
        some (((a_f.Values.length : Int) : Int) != x12)))).bind fun o2 =>
  match o2 with
  | c18 => if c18 then (
      some false)
    else (
      s_IsFact_L1 a_f.Values 0)
theorem s_IsFact_ok (a_s : List Int) (v0_0 : Sv) (a_f : Fact) (v1_1 : Sv) (R : Bool) (hF : s_IsFact a_s a_f = some R) :
    Fw.Spec Tryz.prog 125 [v0_0.v, (.agg [(.int .i64 a_f.Rel), v1_1.v].toArray)] [crd (RdS 3 rdInt) v0_0.v a_s, crd (RdS 3 rdInt) v1_1.v a_f.Values] (fun _ : Unit => (.bool R)) (fun _ => []) := by
  refine Spec_enter (n := 43) Tryz.func125 rfl rfl (rs := [.tmp 4]) rfl rfl rfl ?_
  intro H0 F0
  unfold s_IsFact at hF
  refine K_region (C_newR rfl (N_box (g := false) (v := (.agg [(.int .i64 a_f.Rel), v1_1.v].toArray)) ty80.sz (.tmp rfl rfl) rfl) (fun k1 => ?_))
  refine C_val (V_assign (v := (.bool false)) (.bool _)) ?_
  refine C_nil (K_in ?_)
  obtain ⟨o2, hio2, hO3⟩ := bind_some hF
  refine K_draw [0, 1, 2, 3, 4, 5, 6, 7, 8, 9, 10, 11, 12, 13, 14, 15, 16, 17, 18, 19, 20, 21, 22] [0, 1, 3, 7, 15, 31, 15, 79, 207, 511, 1023, 2047, 4095, 8191, 16383, 32767, 8191, 8191, 139263, 466943, 991231, 2097151, 4194303] [1, 9] mixed (by decide +kernel) ?_
  refine D_cut (fun f' cs' => ∃ (c18 : Bool) (g : Fr), c18 = o2 ∧ f' = updL g [(3, (.pointer (some ⟨k1, 0, some 0⟩))), (28, (.bool c18))] ∧ Ent cs' [cboR k1 80 (.agg [(.int .i64 a_f.Rel), v1_1.v].toArray), crd (RdS 3 rdInt) v1_1.v a_f.Values]) ?_ ?_
  · replace hF := hio2
    refine Dm v0_0.v rfl rfl rfl rfl ?_
    obtain ⟨r4, hx5, hF⟩ := bind_some hF
    refine D_act0 rfl rfl .no (.rd (.t .h) rfl .nil) .nil (fun ha => X_callS cf53 (.cons (EN ha (.tmp rfl rfl) rfl) .nil) (s_IsSchema_ok a_s v0_0 _ hx5)) (fun _ => ?_)
    refine D_val rfl .no (fun ha => V_not (b := r4) (EN ha (.tmp rfl rfl) rfl)) ?_
    refine Dm (.bool (!r4)) rfl rfl rfl rfl ?_
    rcases Bool.eq_false_or_eq_true (!r4) with hg7 | hg7
    · rw [hg7]
      try rw [hg7] at hF; dsimp only [cond_true, cond_false] at hF
      iterate 7 refine D_off 9 rfl rfl rfl rfl ?_
      refine D_val rfl .no (fun ha => V_pick (b := true) (u := (.bool true)) (v := undef) (EN ha (.tmp rfl rfl) rfl) (EN ha (.bool _) rfl) (EN ha (.tmp rfl rfl) rfl)) ?_
      refine Dm (.bool true) rfl rfl rfl rfl ?_
      iterate 9 refine D_off 18 rfl rfl rfl rfl ?_
      refine D_val rfl .no (fun ha => V_pick (b := true) (u := (.bool true)) (v := undef) (EN ha (.tmp rfl rfl) rfl) (EN ha (.bool _) rfl) (EN ha (.tmp rfl rfl) rfl)) ?_
      refine D_nil ?_
      obtain rfl := Option.some.inj hF
      exact ⟨_, _, rfl, (EqL.cons rfl (EqL.cons rfl (EqL.nil))).eq, (.sel (.rd .h rfl (.rd (.t (.t .h)) rfl .nil)))⟩
    rw [hg7]
    try rw [hg7] at hF; dsimp only [cond_true, cond_false] at hF
    refine D_val rfl (.on 9 rfl rfl rfl) (fun ha => V_fieldAddr (off := 0) fd80_0 (EN ha (.tmp rfl rfl) rfl)) ?_
    refine D_at rfl (.on 9 rfl rfl rfl) .h rfl (fun ha hp => V_load (v := (.int .i64 a_f.Rel)) ag3 (EN ha (.tmp rfl rfl) rfl) hp.2 rfl rfl) ?_
    refine D_val rfl (.on 9 rfl rfl rfl) (fun ha => V_move (v := v0_0.v) (EN ha (.tmp rfl rfl) rfl)) ?_
    refine D_at rfl (.on 9 rfl rfl rfl) (.t .h) rfl (fun ha hp => V_lenR (l := a_s.length) sl22 (EN ha (.tmp rfl rfl) rfl) (crd_len hp)) ?_
    refine D_val rfl (.on 9 rfl rfl rfl) (fun ha => V_sub (i := (a_s.length : Int)) (j := 1) (EN ha (.tmp rfl rfl) rfl) (EN ha (.int _ _) rfl)) ?_
    obtain ⟨r8, hx9, hF⟩ := bind_some hF
    refine D_act0 rfl rfl (.on 9 rfl rfl rfl) .nil .nil (fun ha => X_callS cf59 (.cons (EN ha (.tmp rfl rfl) rfl) (.cons (EN ha (.int _ _) rfl) (.cons (EN ha (.tmp rfl rfl) rfl) .nil))) (s_l1In_ok a_f.Rel 0 (IntKind.i64.wrap ((a_s.length : Int) - 1)) _ hx9)) (fun _ => ?_)
    refine D_val rfl (.on 9 rfl rfl rfl) (fun ha => V_not (b := r8) (EN ha (.tmp rfl rfl) rfl)) ?_
    refine D_val rfl .no (fun ha => V_pick (b := false) (u := (.bool true)) (v := (.bool (!r8))) (EN ha (.tmp rfl rfl) rfl) (EN ha (.bool _) rfl) (EN ha (.tmp rfl rfl) rfl)) ?_
    refine Dm (.bool (!r8)) rfl rfl rfl rfl ?_
    rcases Bool.eq_false_or_eq_true (!r8) with hg11 | hg11
    · rw [hg11]
      try rw [hg11] at hF; dsimp only [cond_true, cond_false] at hF
      iterate 9 refine D_off 18 rfl rfl rfl rfl ?_
      refine D_val rfl .no (fun ha => V_pick (b := true) (u := (.bool true)) (v := undef) (EN ha (.tmp rfl rfl) rfl) (EN ha (.bool _) rfl) (EN ha (.tmp rfl rfl) rfl)) ?_
      refine D_nil ?_
      obtain rfl := Option.some.inj hF
      exact ⟨_, _, rfl, (EqL.cons rfl (EqL.cons rfl (EqL.nil))).eq, (.sel (.rd .h rfl (.rd (.t (.t .h)) rfl .nil)))⟩
    rw [hg11]
    try rw [hg11] at hF; dsimp only [cond_true, cond_false] at hF
    refine D_val rfl (.on 18 rfl rfl rfl) (fun ha => V_fieldAddr (off := 1) fd80_1 (EN ha (.tmp rfl rfl) rfl)) ?_
    refine D_at rfl (.on 18 rfl rfl rfl) .h rfl (fun ha hp => V_load (v := v1_1.v) ag22 (EN ha (.tmp rfl rfl) rfl) hp.2 rfl rfl) ?_
    refine D_at rfl (.on 18 rfl rfl rfl) (.t (.t .h)) rfl (fun ha hp => V_lenR (l := a_f.Values.length) sl22 (EN ha (.tmp rfl rfl) rfl) (crd_len hp)) ?_
    refine D_val rfl (.on 18 rfl rfl rfl) (fun ha => V_move (v := v0_0.v) (EN ha (.tmp rfl rfl) rfl)) ?_
    refine D_val rfl (.on 18 rfl rfl rfl) (fun ha => V_fieldAddr (off := 0) fd80_0 (EN ha (.tmp rfl rfl) rfl)) ?_
    refine D_at rfl (.on 18 rfl rfl rfl) .h rfl (fun ha hp => V_load (v := (.int .i64 a_f.Rel)) ag3 (EN ha (.tmp rfl rfl) rfl) hp.2 rfl rfl) ?_
    obtain ⟨x12, hx13, hF⟩ := bind_some hF
    obtain ⟨hp14, hx15⟩ := ix_some hx13
    refine D_idx (a := x12) sl22 ty3.sz rfl (.on 18 rfl rfl rfl) (.tmp rfl rfl) (.tmp rfl rfl) rfl rfl (.t .h) hp14 hx15 (fun k16 j17 => ?_)
    refine D_ldS (w := (.int .i64 x12)) ag3 rfl (.on 18 rfl rfl rfl) (.tmp rfl rfl) rfl .h ls3_0 ?_
    refine D_val rfl (.on 18 rfl rfl rfl) (fun ha => V_neq (i := (a_f.Values.length : Int)) (j := x12) (EN ha (.tmp rfl rfl) rfl) (EN ha (.tmp rfl rfl) rfl)) ?_
    refine D_val rfl .no (fun ha => V_pick (b := false) (u := (.bool true)) (v := (.bool (((a_f.Values.length : Int) : Int) != x12))) (EN ha (.tmp rfl rfl) rfl) (EN ha (.bool _) rfl) (EN ha (.tmp rfl rfl) rfl)) ?_
    refine D_nil ?_
    obtain rfl := Option.some.inj hF
    exact ⟨_, _, rfl, (EqL.cons rfl (EqL.cons rfl (EqL.nil))).eq, (.sel (.rd (.t .h) rfl (.rd (.t (.t (.t .h))) rfl .nil)))⟩
  rintro _ _ ⟨c18, g39, rfl, rfl, hE⟩
  replace hF := hO3
  clear hO3
  try dsimp only at hF
  refine K_ent hE ?_
  refine CW_cond (b := c18) (.tmp rfl rfl) (fun hb38 => ?_) (fun hb38 => ?_)
  · rw [if_pos hb38] at hF
    refine K_region (C_val (V_assign (v := (.bool false)) (.bool _)) ?_)
    refine C_nil (CW_ret ?_)
    obtain rfl := Option.some.inj hF
    exact End_ret () (.tmp rfl rfl .nil) rfl (.sel .nil)
  rw [if_neg (by rw [hb38]; exact Bool.false_ne_true)] at hF
  refine CW_skip (K_in (K_region (C_val (V_assign (v := (.int .i64 0)) (.int _ _)) ?_)))
  refine C_nil (CW_block (CW_loop (m := a_f.Values.length) (fun m20 f' cs' => ∃ (g : Fr) (k22 : Nat) (rest23 : List Int), m20 = rest23.length ∧ f' = updL g [(3, (.pointer (some ⟨k1, 0, some 0⟩))), (5, (.int .i64 (k22 : Int)))] ∧ List.drop k22 a_f.Values = rest23 ∧ Ent cs' [cboR k1 80 (.agg [(.int .i64 a_f.Rel), v1_1.v].toArray), crd (RdS 3 rdInt) v1_1.v a_f.Values] ∧ s_IsFact_L1 rest23 k22 = some R) ⟨_, 0, _, rfl, (EqL.cons rfl (EqL.cons rfl (EqL.nil))).eq, rfl, (.sel (.rd .h rfl (.rd (.t .h) rfl .nil))), hF⟩ ?_))
  clear hF
  rintro m20 _ _ ⟨g21, k22, rest23, rfl, rfl, hd25, hE, hF⟩
  refine K_ent hE ?_
  clear hE
  refine K_pure (c := crd (RdS 3 rdInt) v1_1.v a_f.Values) (.t .h) crd_bound (fun hbd30 => ?_)
  rcases rest23 with _ | ⟨x24, rest23⟩
  · have hk26 := List.drop_eq_nil_iff.1 hd25
    have hfe29 : (decide (((k22 : Int) : Int) < (a_f.Values.length : Int))) = false := decide_eq_false (by omega)
    rw [s_IsFact_L1] at hF
    refine K_in (K_region (Cm (.int .i64 (k22 : Int)) rfl rfl ?_))
    refine C_val (V_fieldAddr (off := 1) fd80_1 (.tmp rfl rfl)) ?_
    refine C_at .h (fun hp => V_load (v := v1_1.v) ag22 (.tmp rfl rfl) hp.2 rfl rfl) ?_
    refine C_at (.t .h) (fun hp => V_lenR (l := a_f.Values.length) sl22 (.tmp rfl rfl) (crd_len hp)) ?_
    refine C_val (V_lss (i := (k22 : Int)) (j := (a_f.Values.length : Int)) (.tmp rfl rfl) (.tmp rfl rfl)) ?_
    refine C_nil (CW_cond (b := (decide (((k22 : Int) : Int) < (a_f.Values.length : Int)))) (.tmp rfl rfl) (fun hb => absurd (hfe29.symm.trans hb) (by decide)) (fun _ => ?_))
    refine CW_exit ?_
    iterate 2 refine CThen_exit ?_
    refine CIn_self (K_region (C_val (V_assign (v := (.bool true)) (.bool _)) ?_))
    refine C_nil (CW_ret ?_)
    obtain rfl := Option.some.inj hF
    exact End_ret () (.tmp rfl rfl .nil) rfl (.sel .nil)
  obtain ⟨hk26, hx27, hd28⟩ := drop_cons hd25
  have hfe29 : (decide (((k22 : Int) : Int) < (a_f.Values.length : Int))) = true := decide_eq_true (by omega)
  rw [s_IsFact_L1] at hF
  refine K_in (K_region (Cm (.int .i64 (k22 : Int)) rfl rfl ?_))
  refine C_val (V_fieldAddr (off := 1) fd80_1 (.tmp rfl rfl)) ?_
  refine C_at .h (fun hp => V_load (v := v1_1.v) ag22 (.tmp rfl rfl) hp.2 rfl rfl) ?_
  refine C_at (.t .h) (fun hp => V_lenR (l := a_f.Values.length) sl22 (.tmp rfl rfl) (crd_len hp)) ?_
  refine C_val (V_lss (i := (k22 : Int)) (j := (a_f.Values.length : Int)) (.tmp rfl rfl) (.tmp rfl rfl)) ?_
  refine C_nil (CW_cond (b := (decide (((k22 : Int) : Int) < (a_f.Values.length : Int)))) (.tmp rfl rfl) (fun _ => ?_) (fun hb => absurd (hfe29.symm.trans hb) (by decide)))
  refine CW_skip (K_block (K_region (C_val (V_fieldAddr (off := 1) fd80_1 (.tmp rfl rfl)) ?_)))
  refine C_at .h (fun hp => V_load (v := v1_1.v) ag22 (.tmp rfl rfl) hp.2 rfl rfl) ?_
  refine Cm (.int .i64 (k22 : Int)) rfl rfl ?_
  refine C_idx (a := x24) sl22 ty3.sz (.tmp rfl rfl) (.tmp rfl rfl) (.t .h) (Int.natCast_nonneg k22) hx27 (fun k31 j32 => ?_)
  refine C_ldS (w := (.int .i64 x24)) ag3 (.tmp rfl rfl) .h ls3_0 ?_
  obtain ⟨r33, hx34, hF⟩ := bind_some hF
  refine C_x0 .nil (X_callS cf59 (.cons (.tmp rfl rfl) (.cons (.int _ _) (.cons (.int _ _) .nil))) (s_l1In_ok x24 0 9 _ hx34)) (fun _ => ?_)
  refine C_val (V_not (b := r33) (.tmp rfl rfl)) ?_
  refine C_nil (CW_cond (b := (!r33)) (.tmp rfl rfl) (fun hb37 => ?_) (fun hb37 => ?_))
  · rw [if_pos hb37] at hF
    refine K_region (C_val (V_assign (v := (.bool false)) (.bool _)) ?_)
    refine C_nil (CW_ret ?_)
    obtain rfl := Option.some.inj hF
    exact End_ret () (.tmp rfl rfl .nil) rfl (.sel .nil)
  rw [if_neg (by rw [hb37]; exact Bool.false_ne_true)] at hF
  refine CW_skip (CW_region (Cm (.int .i64 (k22 : Int)) rfl rfl ?_))
  refine C_val (V_add (i := (k22 : Int)) (j := 1) (.tmp rfl rfl) (.int _ _)) ?_
  refine Ca (.int .i64 (IntKind.i64.wrap ((k22 : Int) + 1))) rfl rfl ?_
  refine C_nil ?_
  have hw36 : IntKind.i64.wrap ((k22 : Int) + 1) = ((k22 + 1 : Nat) : Int) := by rw [wrap_in (by omega) (by omega)]; rfl
  rw [hw36]
  exact ⟨_, Nat.lt_succ_self _, _, k22 + 1, rest23, rfl, (EqL.cons rfl (EqL.cons rfl (EqL.nil))).eq, hd28, (.sel (.rd (.t .h) rfl (.rd (.t (.t .h)) rfl .nil))), hF⟩

/-! spec.CompareFacts -/
def s_CompareFacts_L1 (a_a : Fact) (a_b : Fact) : Nat → Int → Option (Int)
  | 0, _ => none
  | m5 + 1, c4 => if ((decide ((c4 : Int) < (a_a.Values.length : Int))) && (decide ((c4 : Int) < (a_b.Values.length : Int)))) then (
      (ix a_a.Values c4).bind fun x15 =>
      (ix a_b.Values c4).bind fun x21 =>
      if (decide ((x15 : Int) < x21)) then (
        some (-1))
      else (
        (ix a_a.Values c4).bind fun x27 =>
        (ix a_b.Values c4).bind fun x33 =>
        if (decide ((x33 : Int) < x27)) then (
          some 1)
        else (
          s_CompareFacts_L1 a_a a_b m5 (IntKind.i64.wrap (c4 + 1)))))
    else (
      if (decide (((a_a.Values.length : Int) : Int) < (a_b.Values.length : Int))) then (
        some (-1))
      else (
        if (decide (((a_b.Values.length : Int) : Int) < (a_a.Values.length : Int))) then (
          some 1)
        else (
          some 0)))
def s_CompareFacts (a_a : Fact) (a_b : Fact) : Option (Int) :=
  if ((a_a.Rel : Int) != a_b.Rel) then (
    if (decide ((a_a.Rel : Int) < a_b.Rel)) then (
      some (-1))
    else (
      some 1))
  else (
    s_CompareFacts_L1 a_a a_b (((a_a.Values.length : Int) - 0).toNat + 2) 0)
theorem s_CompareFacts_ok (a_a : Fact) (v0_1 : Sv) (a_b : Fact) (v1_1 : Sv) (R : Int) (hF : s_CompareFacts a_a a_b = some R) :
    Fw.Spec Tryz.prog 126 [(.agg [(.int .i64 a_a.Rel), v0_1.v].toArray), (.agg [(.int .i64 a_b.Rel), v1_1.v].toArray)] [crd (RdS 3 rdInt) v0_1.v a_a.Values, crd (RdS 3 rdInt) v1_1.v a_b.Values] (fun _ : Unit => (.int .i64 R)) (fun _ => []) := by
  refine Spec_enter (n := 66) Tryz.func126 rfl rfl (rs := [.tmp 4]) rfl rfl rfl ?_
  intro H0 F0
  unfold s_CompareFacts at hF
  refine K_region (C_newR rfl (N_box (g := false) (v := (.agg [(.int .i64 a_a.Rel), v0_1.v].toArray)) ty80.sz (.tmp rfl rfl) rfl) (fun k1 => ?_))
  refine C_newR rfl (N_box (g := false) (v := (.agg [(.int .i64 a_b.Rel), v1_1.v].toArray)) ty80.sz (.tmp rfl rfl) rfl) (fun k2 => ?_)
  refine C_val (V_assign (v := (.int .i64 0)) (.int _ _)) ?_
  refine C_nil (K_in (K_region (C_val (V_fieldAddr (off := 0) fd80_0 (.tmp rfl rfl)) ?_)))
  refine C_at (.t .h) (fun hp => V_load (v := (.int .i64 a_a.Rel)) ag3 (.tmp rfl rfl) hp.2 rfl rfl) ?_
  refine C_val (V_fieldAddr (off := 0) fd80_0 (.tmp rfl rfl)) ?_
  refine C_at .h (fun hp => V_load (v := (.int .i64 a_b.Rel)) ag3 (.tmp rfl rfl) hp.2 rfl rfl) ?_
  refine C_val (V_neq (i := a_a.Rel) (j := a_b.Rel) (.tmp rfl rfl) (.tmp rfl rfl)) ?_
  refine C_nil (CW_cond (b := ((a_a.Rel : Int) != a_b.Rel)) (.tmp rfl rfl) (fun hb44 => ?_) (fun hb44 => ?_))
  · rw [if_pos hb44] at hF
    refine K_in (K_region (C_val (V_fieldAddr (off := 0) fd80_0 (.tmp rfl rfl)) ?_))
    refine C_at (.t .h) (fun hp => V_load (v := (.int .i64 a_a.Rel)) ag3 (.tmp rfl rfl) hp.2 rfl rfl) ?_
    refine C_val (V_fieldAddr (off := 0) fd80_0 (.tmp rfl rfl)) ?_
    refine C_at .h (fun hp => V_load (v := (.int .i64 a_b.Rel)) ag3 (.tmp rfl rfl) hp.2 rfl rfl) ?_
    refine C_val (V_lss (i := a_a.Rel) (j := a_b.Rel) (.tmp rfl rfl) (.tmp rfl rfl)) ?_
    refine C_nil (CW_cond (b := (decide ((a_a.Rel : Int) < a_b.Rel))) (.tmp rfl rfl) (fun hb3 => ?_) (fun hb3 => ?_))
    · rw [if_pos hb3] at hF
      refine K_region (C_val (V_assign (v := (.int .i64 (-1))) (.int _ _)) ?_)
      refine C_nil (CW_ret ?_)
      obtain rfl := Option.some.inj hF
      exact End_ret () (.tmp rfl rfl .nil) rfl (.sel .nil)
    rw [if_neg (by rw [hb3]; exact Bool.false_ne_true)] at hF
    refine CW_skip (K_region (C_val (V_assign (v := (.int .i64 1)) (.int _ _)) ?_))
    refine C_nil (CW_ret ?_)
    obtain rfl := Option.some.inj hF
    exact End_ret () (.tmp rfl rfl .nil) rfl (.sel .nil)
  rw [if_neg (by rw [hb44]; exact Bool.false_ne_true)] at hF
  refine CW_skip (K_in (K_region (C_val (V_assign (v := (.int .i64 0)) (.int _ _)) ?_)))
  refine C_nil (CW_block (CW_loop (m := (((a_a.Values.length : Int) - 0).toNat + 2)) (fun m5 f' cs' => ∃ (g : Fr) (c4 : Int), f' = updL g [(2, (.pointer (some ⟨k1, 0, some 0⟩))), (3, (.pointer (some ⟨k2, 0, some 0⟩))), (5, (.int .i64 c4))] ∧ Ent cs' [cboR k1 80 (.agg [(.int .i64 a_a.Rel), v0_1.v].toArray), crd (RdS 3 rdInt) v0_1.v a_a.Values, cboR k2 80 (.agg [(.int .i64 a_b.Rel), v1_1.v].toArray), crd (RdS 3 rdInt) v1_1.v a_b.Values] ∧ s_CompareFacts_L1 a_a a_b m5 c4 = some R) ⟨_, _, (EqL.cons rfl (EqL.cons rfl (EqL.cons rfl (EqL.nil)))).eq, (.sel (.rd (.t .h) rfl (.rd (.t (.t .h)) rfl (.rd .h rfl (.rd (.t (.t (.t .h))) rfl .nil))))), hF⟩ ?_))
  clear hF
  rintro m5 _ _ ⟨g6, c4, rfl, hE, hF⟩
  refine K_ent hE ?_
  clear hE
  rcases m5 with _ | m5
  · rw [s_CompareFacts_L1] at hF
    exact absurd hF (by simp)
  rw [s_CompareFacts_L1] at hF
  refine K_in (K_region (C_cut (fun f' cs' => ∃ (g : Fr), f' = updL g [(2, (.pointer (some ⟨k1, 0, some 0⟩))), (3, (.pointer (some ⟨k2, 0, some 0⟩))), (5, (.int .i64 c4)), (27, (.bool ((decide ((c4 : Int) < (a_a.Values.length : Int))) && (decide ((c4 : Int) < (a_b.Values.length : Int))))))] ∧ Ent cs' [cboR k1 80 (.agg [(.int .i64 a_a.Rel), v0_1.v].toArray), crd (RdS 3 rdInt) v0_1.v a_a.Values, cboR k2 80 (.agg [(.int .i64 a_b.Rel), v1_1.v].toArray), crd (RdS 3 rdInt) v1_1.v a_b.Values]) ?_ ?_))
  · refine Cm (.int .i64 c4) rfl rfl ?_
    refine C_val (V_fieldAddr (off := 1) fd80_1 (.tmp rfl rfl)) ?_
    refine C_at .h (fun hp => V_load (v := v0_1.v) ag22 (.tmp rfl rfl) hp.2 rfl rfl) ?_
    refine C_at (.t .h) (fun hp => V_lenR (l := a_a.Values.length) sl22 (.tmp rfl rfl) (crd_len hp)) ?_
    refine C_val (V_lss (i := c4) (j := (a_a.Values.length : Int)) (.tmp rfl rfl) (.tmp rfl rfl)) ?_
    refine Cm (.bool (decide ((c4 : Int) < (a_a.Values.length : Int)))) rfl rfl ?_
    rcases Bool.eq_false_or_eq_true (decide ((c4 : Int) < (a_a.Values.length : Int))) with hg13 | hg13
    · rw [hg13]
      try rw [hg13] at hF; dsimp only [cond_true, cond_false] at hF
      refine C_on (t := 21) rfl rfl rfl ?_
      refine Cm (.int .i64 c4) rfl rfl ?_
      refine C_on (t := 21) rfl rfl rfl ?_
      refine C_val (V_fieldAddr (off := 1) fd80_1 (.tmp rfl rfl)) ?_
      refine C_on (t := 21) rfl rfl rfl ?_
      refine C_at (.t (.t .h)) (fun hp => V_load (v := v1_1.v) ag22 (.tmp rfl rfl) hp.2 rfl rfl) ?_
      refine C_on (t := 21) rfl rfl rfl ?_
      refine C_at (.t (.t (.t .h))) (fun hp => V_lenR (l := a_b.Values.length) sl22 (.tmp rfl rfl) (crd_len hp)) ?_
      refine C_on (t := 21) rfl rfl rfl ?_
      refine C_val (V_lss (i := c4) (j := (a_b.Values.length : Int)) (.tmp rfl rfl) (.tmp rfl rfl)) ?_
      refine C_val (V_pick (b := true) (u := (.bool (decide ((c4 : Int) < (a_b.Values.length : Int))))) (v := (.bool false)) (.tmp rfl rfl) (.tmp rfl rfl) (.bool _)) ?_
      refine C_nil ?_
      exact ⟨_, (EqL.cons rfl (EqL.cons rfl (EqL.cons rfl (EqL.cons rfl (EqL.nil))))).eq, (.sel (.rd .h rfl (.rd (.t .h) rfl (.rd (.t (.t .h)) rfl (.rd (.t (.t (.t .h))) rfl .nil)))))⟩
    rw [hg13]
    try rw [hg13] at hF; dsimp only [cond_true, cond_false] at hF
    iterate 5 refine C_off (t := 21) rfl rfl rfl ?_
    refine C_val (V_pick (b := false) (u := undef) (v := (.bool false)) (.tmp rfl rfl) (.tmp rfl rfl) (.bool _)) ?_
    refine C_nil ?_
    exact ⟨_, (EqL.cons rfl (EqL.cons rfl (EqL.cons rfl (EqL.cons rfl (EqL.nil))))).eq, (.sel (.rd .h rfl (.rd (.t .h) rfl (.rd (.t (.t .h)) rfl (.rd (.t (.t (.t .h))) rfl .nil)))))⟩
  rintro _ _ ⟨g14, rfl, hE⟩
  refine K_ent hE ?_
  refine CW_cond (b := ((decide ((c4 : Int) < (a_a.Values.length : Int))) && (decide ((c4 : Int) < (a_b.Values.length : Int))))) (.tmp rfl rfl) (fun hb43 => ?_) (fun hb43 => ?_)
  · rw [if_pos hb43] at hF
    refine CW_skip (K_block (K_in (K_draw [0, 1, 2, 3, 4, 5, 6, 7, 8, 9, 10] [0, 1, 0, 7, 15, 0, 32, 0, 224, 480, 1023] [] mixed (by decide +kernel) ?_)))
    refine D_val rfl .no (fun ha => V_fieldAddr (off := 1) fd80_1 (EN ha (.tmp rfl rfl) rfl)) ?_
    refine D_at rfl .no .h rfl (fun ha hp => V_load (v := v0_1.v) ag22 (EN ha (.tmp rfl rfl) rfl) hp.2 rfl rfl) ?_
    refine Dm (.int .i64 c4) rfl rfl rfl rfl ?_
    obtain ⟨x15, hx16, hF⟩ := bind_some hF
    obtain ⟨hp17, hx18⟩ := ix_some hx16
    refine D_idx (a := x15) sl22 ty3.sz rfl .no (.tmp rfl rfl) (.tmp rfl rfl) rfl rfl (.t .h) hp17 hx18 (fun k19 j20 => ?_)
    refine D_ldS (w := (.int .i64 x15)) ag3 rfl .no (.tmp rfl rfl) rfl .h ls3_0 ?_
    refine D_val rfl .no (fun ha => V_fieldAddr (off := 1) fd80_1 (EN ha (.tmp rfl rfl) rfl)) ?_
    refine D_at rfl .no (.t (.t (.t .h))) rfl (fun ha hp => V_load (v := v1_1.v) ag22 (EN ha (.tmp rfl rfl) rfl) hp.2 rfl rfl) ?_
    refine Dm (.int .i64 c4) rfl rfl rfl rfl ?_
    obtain ⟨x21, hx22, hF⟩ := bind_some hF
    obtain ⟨hp23, hx24⟩ := ix_some hx22
    refine D_idx (a := x21) sl22 ty3.sz rfl .no (.tmp rfl rfl) (.tmp rfl rfl) rfl rfl (.t (.t (.t (.t .h)))) hp23 hx24 (fun k25 j26 => ?_)
    refine D_ldS (w := (.int .i64 x21)) ag3 rfl .no (.tmp rfl rfl) rfl .h ls3_0 ?_
    refine D_val rfl .no (fun ha => V_lss (i := x15) (j := x21) (EN ha (.tmp rfl rfl) rfl) (EN ha (.tmp rfl rfl) rfl)) ?_
    refine D_nil (CW_cond (b := (decide ((x15 : Int) < x21))) (.tmp rfl rfl) (fun hb40 => ?_) (fun hb40 => ?_))
    · rw [if_pos hb40] at hF
      refine K_region (C_val (V_assign (v := (.int .i64 (-1))) (.int _ _)) ?_)
      refine C_nil (CW_ret ?_)
      obtain rfl := Option.some.inj hF
      exact End_ret () (.tmp rfl rfl .nil) rfl (.sel .nil)
    rw [if_neg (by rw [hb40]; exact Bool.false_ne_true)] at hF
    refine CW_skip (K_draw [0, 1, 2, 3, 4, 5, 6, 7, 8, 9, 10] [0, 1, 0, 7, 15, 0, 32, 0, 224, 480, 1023] [] mixed (by decide +kernel) ?_)
    refine D_val rfl .no (fun ha => V_fieldAddr (off := 1) fd80_1 (EN ha (.tmp rfl rfl) rfl)) ?_
    refine D_at rfl .no (.t (.t .h)) rfl (fun ha hp => V_load (v := v0_1.v) ag22 (EN ha (.tmp rfl rfl) rfl) hp.2 rfl rfl) ?_
    refine Dm (.int .i64 c4) rfl rfl rfl rfl ?_
    obtain ⟨x27, hx28, hF⟩ := bind_some hF
    obtain ⟨hp29, hx30⟩ := ix_some hx28
    refine D_idx (a := x27) sl22 ty3.sz rfl .no (.tmp rfl rfl) (.tmp rfl rfl) rfl rfl (.t (.t (.t .h))) hp29 hx30 (fun k31 j32 => ?_)
    refine D_ldS (w := (.int .i64 x27)) ag3 rfl .no (.tmp rfl rfl) rfl .h ls3_0 ?_
    refine D_val rfl .no (fun ha => V_fieldAddr (off := 1) fd80_1 (EN ha (.tmp rfl rfl) rfl)) ?_
    refine D_at rfl .no (.t (.t (.t (.t (.t .h))))) rfl (fun ha hp => V_load (v := v1_1.v) ag22 (EN ha (.tmp rfl rfl) rfl) hp.2 rfl rfl) ?_
    refine Dm (.int .i64 c4) rfl rfl rfl rfl ?_
    obtain ⟨x33, hx34, hF⟩ := bind_some hF
    obtain ⟨hp35, hx36⟩ := ix_some hx34
    refine D_idx (a := x33) sl22 ty3.sz rfl .no (.tmp rfl rfl) (.tmp rfl rfl) rfl rfl (.t (.t (.t (.t (.t (.t .h)))))) hp35 hx36 (fun k37 j38 => ?_)
    refine D_ldS (w := (.int .i64 x33)) ag3 rfl .no (.tmp rfl rfl) rfl .h ls3_0 ?_
    refine D_val rfl .no (fun ha => V_gtr (i := x27) (j := x33) (EN ha (.tmp rfl rfl) rfl) (EN ha (.tmp rfl rfl) rfl)) ?_
    refine D_nil (CW_cond (b := (decide ((x33 : Int) < x27))) (.tmp rfl rfl) (fun hb39 => ?_) (fun hb39 => ?_))
    · rw [if_pos hb39] at hF
      refine K_region (C_val (V_assign (v := (.int .i64 1)) (.int _ _)) ?_)
      refine C_nil (CW_ret ?_)
      obtain rfl := Option.some.inj hF
      exact End_ret () (.tmp rfl rfl .nil) rfl (.sel .nil)
    rw [if_neg (by rw [hb39]; exact Bool.false_ne_true)] at hF
    refine CW_skip (CW_region (Cm (.int .i64 c4) rfl rfl ?_))
    refine C_val (V_add (i := c4) (j := 1) (.tmp rfl rfl) (.int _ _)) ?_
    refine Ca (.int .i64 (IntKind.i64.wrap (c4 + 1))) rfl rfl ?_
    refine C_nil ?_
    exact ⟨m5, Nat.lt_succ_self _, _, _, (EqL.cons rfl (EqL.cons rfl (EqL.cons rfl (EqL.nil)))).eq, (.sel (.rd (.t (.t (.t (.t .h)))) rfl (.rd (.t (.t (.t (.t (.t .h))))) rfl (.rd (.t (.t (.t (.t (.t (.t .h)))))) rfl (.rd (.t (.t (.t (.t (.t (.t (.t .h))))))) rfl .nil))))), hF⟩
  rw [if_neg (by rw [hb43]; exact Bool.false_ne_true)] at hF
  refine CW_exit ?_
  iterate 2 refine CThen_exit ?_
  refine CIn_self (K_in (K_region (C_val (V_fieldAddr (off := 1) fd80_1 (.tmp rfl rfl)) ?_)))
  refine C_at .h (fun hp => V_load (v := v0_1.v) ag22 (.tmp rfl rfl) hp.2 rfl rfl) ?_
  refine C_at (.t .h) (fun hp => V_lenR (l := a_a.Values.length) sl22 (.tmp rfl rfl) (crd_len hp)) ?_
  refine C_val (V_fieldAddr (off := 1) fd80_1 (.tmp rfl rfl)) ?_
  refine C_at (.t (.t .h)) (fun hp => V_load (v := v1_1.v) ag22 (.tmp rfl rfl) hp.2 rfl rfl) ?_
  refine C_at (.t (.t (.t .h))) (fun hp => V_lenR (l := a_b.Values.length) sl22 (.tmp rfl rfl) (crd_len hp)) ?_
  refine C_val (V_lss (i := (a_a.Values.length : Int)) (j := (a_b.Values.length : Int)) (.tmp rfl rfl) (.tmp rfl rfl)) ?_
  refine C_nil (CW_cond (b := (decide (((a_a.Values.length : Int) : Int) < (a_b.Values.length : Int)))) (.tmp rfl rfl) (fun hb42 => ?_) (fun hb42 => ?_))
  · rw [if_pos hb42] at hF
    refine K_region (C_val (V_assign (v := (.int .i64 (-1))) (.int _ _)) ?_)
    refine C_nil (CW_ret ?_)
    obtain rfl := Option.some.inj hF
    exact End_ret () (.tmp rfl rfl .nil) rfl (.sel .nil)
  rw [if_neg (by rw [hb42]; exact Bool.false_ne_true)] at hF
  refine CW_skip (K_in (K_region (C_val (V_fieldAddr (off := 1) fd80_1 (.tmp rfl rfl)) ?_)))
  refine C_at .h (fun hp => V_load (v := v0_1.v) ag22 (.tmp rfl rfl) hp.2 rfl rfl) ?_
  refine C_at (.t .h) (fun hp => V_lenR (l := a_a.Values.length) sl22 (.tmp rfl rfl) (crd_len hp)) ?_
  refine C_val (V_fieldAddr (off := 1) fd80_1 (.tmp rfl rfl)) ?_
  refine C_at (.t (.t .h)) (fun hp => V_load (v := v1_1.v) ag22 (.tmp rfl rfl) hp.2 rfl rfl) ?_
  refine C_at (.t (.t (.t .h))) (fun hp => V_lenR (l := a_b.Values.length) sl22 (.tmp rfl rfl) (crd_len hp)) ?_
  refine C_val (V_gtr (i := (a_a.Values.length : Int)) (j := (a_b.Values.length : Int)) (.tmp rfl rfl) (.tmp rfl rfl)) ?_
  refine C_nil (CW_cond (b := (decide (((a_b.Values.length : Int) : Int) < (a_a.Values.length : Int)))) (.tmp rfl rfl) (fun hb41 => ?_) (fun hb41 => ?_))
  · rw [if_pos hb41] at hF
    refine K_region (C_val (V_assign (v := (.int .i64 1)) (.int _ _)) ?_)
    refine C_nil (CW_ret ?_)
    obtain rfl := Option.some.inj hF
    exact End_ret () (.tmp rfl rfl .nil) rfl (.sel .nil)
  rw [if_neg (by rw [hb41]; exact Bool.false_ne_true)] at hF
  refine CW_skip (K_region (C_val (V_assign (v := (.int .i64 0)) (.int _ _)) ?_))
  refine C_nil (CW_ret ?_)
  obtain rfl := Option.some.inj hF
  exact End_ret () (.tmp rfl rfl .nil) rfl (.sel .nil)

/-! spec.AreFacts -/
def s_AreFacts_L1 (a_s : List Int) (a_l : List Fact) : List Fact → Nat → Option (Bool)
  | [], k4 => ((s_IsSchema a_s).bind fun r15 =>
      bif r15 then (some (decide (((a_l.length : Int) : Int) ≤ 24)))
      else (some false)).bind fun o13 =>
    match o13 with
    | c19 => some c19
  | x6 :: rest5, k4 => ((s_IsFact a_s x6).bind fun r26 =>
      bif (!r26) then (some true)
      else (bif (decide ((0 : Int) < (k4 : Int))) then ((ix a_l (IntKind.i64.wrap ((k4 : Int) - 1))).bind fun x31 =>
          (s_CompareFacts x31 x6).bind fun r41 =>
          some (decide ((0 : Int) ≤ r41)))
        else (some false))).bind fun o21 =>
    match o21 with
    | c44 => if c44 then (
        some false)
      else (
        s_AreFacts_L1 a_s a_l rest5 (k4 + 1))
def s_AreFacts (a_s : List Int) (a_l : List Fact) : Option (Bool) :=
  s_AreFacts_L1 a_s a_l a_l 0
theorem s_AreFacts_ok (a_s : List Int) (v0_0 : Sv) (a_l : List Fact) (v1_0 : Sv) (R : Bool) (hF : s_AreFacts a_s a_l = some R) :
    Fw.Spec Tryz.prog 97 [v0_0.v, v1_0.v] [crd (RdS 3 rdInt) v0_0.v a_s, crd (RdS 80 rd80) v1_0.v a_l] (fun _ : Unit => (.bool R)) (fun _ => []) := by
  refine Spec_enter (n := 43) Tryz.func97 rfl rfl (rs := [.tmp 4]) rfl rfl rfl ?_
  intro H0 F0
  unfold s_AreFacts at hF
  refine K_region (C_val (V_assign (v := (.bool false)) (.bool _)) ?_)
  refine C_nil (K_in (K_region (C_val (V_assign (v := (.int .i64 0)) (.int _ _)) ?_)))
  refine C_nil (CW_block (CW_loop (m := a_l.length) (fun m2 f' cs' => ∃ (g : Fr) (k4 : Nat) (rest5 : List Fact), m2 = rest5.length ∧ f' = updL g [(0, v0_0.v), (1, v1_0.v), (5, (.int .i64 (k4 : Int)))] ∧ List.drop k4 a_l = rest5 ∧ Ent cs' [crd (RdS 3 rdInt) v0_0.v a_s, crd (RdS 80 rd80) v1_0.v a_l] ∧ s_AreFacts_L1 a_s a_l rest5 k4 = some R) ⟨_, 0, _, rfl, (EqL.cons rfl (EqL.cons rfl (EqL.cons rfl (EqL.nil)))).eq, rfl, (.sel (.rd .h rfl (.rd (.t .h) rfl .nil))), hF⟩ ?_))
  clear hF
  rintro m2 _ _ ⟨g3, k4, rest5, rfl, rfl, hd7, hE, hF⟩
  refine K_ent hE ?_
  clear hE
  refine K_pure (c := crd (RdS 80 rd80) v1_0.v a_l) (.t .h) crd_bound (fun hbd12 => ?_)
  rcases rest5 with _ | ⟨x6, rest5⟩
  · have hk8 := List.drop_eq_nil_iff.1 hd7
    have hfe11 : (decide (((k4 : Int) : Int) < (a_l.length : Int))) = false := decide_eq_false (by omega)
    rw [s_AreFacts_L1] at hF
    refine K_in (K_region (Cm (.int .i64 (k4 : Int)) rfl rfl ?_))
    refine Cm v1_0.v rfl rfl ?_
    refine C_at (.t .h) (fun hp => V_lenR (l := a_l.length) sl39 (.tmp rfl rfl) (crd_len hp)) ?_
    refine C_val (V_lss (i := (k4 : Int)) (j := (a_l.length : Int)) (.tmp rfl rfl) (.tmp rfl rfl)) ?_
    refine C_nil (CW_cond (b := (decide (((k4 : Int) : Int) < (a_l.length : Int)))) (.tmp rfl rfl) (fun hb => absurd (hfe11.symm.trans hb) (by decide)) (fun _ => ?_))
    refine CW_exit ?_
    iterate 2 refine CThen_exit ?_
    refine CIn_self ?_
    obtain ⟨o13, hio13, hO14⟩ := bind_some hF
    refine K_region (C_cut (fun f' cs' => ∃ (c19 : Bool) (g : Fr), c19 = o13 ∧ f' = updL g [(4, (.bool c19))] ∧ Ent cs' []) ?_ ?_)
    · replace hF := hio13
      refine Cm v0_0.v rfl rfl ?_
      obtain ⟨r15, hx16, hF⟩ := bind_some hF
      refine C_x0 (.rd .h rfl .nil) (X_callS cf53 (.cons (.tmp rfl rfl) .nil) (s_IsSchema_ok a_s v0_0 _ hx16)) (fun _ => ?_)
      refine Cm (.bool r15) rfl rfl ?_
      rcases Bool.eq_false_or_eq_true r15 with hg18 | hg18
      · rw [hg18]
        try rw [hg18] at hF; dsimp only [cond_true, cond_false] at hF
        refine C_on (t := 38) rfl rfl rfl ?_
        refine Cm v1_0.v rfl rfl ?_
        refine C_on (t := 38) rfl rfl rfl ?_
        refine C_at (.t .h) (fun hp => V_lenR (l := a_l.length) sl39 (.tmp rfl rfl) (crd_len hp)) ?_
        refine C_on (t := 38) rfl rfl rfl ?_
        refine C_val (V_leq (i := (a_l.length : Int)) (j := 24) (.tmp rfl rfl) (.int _ _)) ?_
        refine C_val (V_pick (b := true) (u := (.bool (decide (((a_l.length : Int) : Int) ≤ 24)))) (v := (.bool false)) (.tmp rfl rfl) (.tmp rfl rfl) (.bool _)) ?_
        refine Ca (.bool (decide (((a_l.length : Int) : Int) ≤ 24))) rfl rfl ?_
        refine C_nil ?_
        obtain rfl := Option.some.inj hF
        exact ⟨_, _, rfl, (EqL.cons rfl (EqL.nil)).eq, (.sel .nil)⟩
      rw [hg18]
      try rw [hg18] at hF; dsimp only [cond_true, cond_false] at hF
      iterate 3 refine C_off (t := 38) rfl rfl rfl ?_
      refine C_val (V_pick (b := false) (u := undef) (v := (.bool false)) (.tmp rfl rfl) (.tmp rfl rfl) (.bool _)) ?_
      refine Ca (.bool false) rfl rfl ?_
      refine C_nil ?_
      obtain rfl := Option.some.inj hF
      exact ⟨_, _, rfl, (EqL.cons rfl (EqL.nil)).eq, (.sel .nil)⟩
    rintro _ _ ⟨c19, g20, rfl, rfl, hE⟩
    replace hF := hO14
    clear hO14
    try dsimp only at hF
    refine K_ent hE ?_
    refine CW_ret ?_
    obtain rfl := Option.some.inj hF
    exact End_ret () (.tmp rfl rfl .nil) rfl (.sel .nil)
  obtain ⟨hk8, hx9, hd10⟩ := drop_cons hd7
  have hfe11 : (decide (((k4 : Int) : Int) < (a_l.length : Int))) = true := decide_eq_true (by omega)
  rw [s_AreFacts_L1] at hF
  refine K_in (K_region (Cm (.int .i64 (k4 : Int)) rfl rfl ?_))
  refine Cm v1_0.v rfl rfl ?_
  refine C_at (.t .h) (fun hp => V_lenR (l := a_l.length) sl39 (.tmp rfl rfl) (crd_len hp)) ?_
  refine C_val (V_lss (i := (k4 : Int)) (j := (a_l.length : Int)) (.tmp rfl rfl) (.tmp rfl rfl)) ?_
  refine C_nil (CW_cond (b := (decide (((k4 : Int) : Int) < (a_l.length : Int)))) (.tmp rfl rfl) (fun _ => ?_) (fun hb => absurd (hfe11.symm.trans hb) (by decide)))
  refine CW_skip (K_block ?_)
  obtain ⟨o21, hio21, hO22⟩ := bind_some hF
  refine K_draw [0, 1, 2, 3, 4, 5, 6, 7, 8, 9, 10, 11, 12, 13, 14, 15, 16, 17, 18, 19, 20, 21, 22, 23] [0, 0, 0, 6, 14, 31, 63, 127, 255, 511, 1023, 2047, 2047, 6143, 16383, 32767, 2047, 2047, 198655, 460799, 1048575, 2097151, 4194303, 8388607] [5, 20] mixed (by decide +kernel) ?_
  refine D_cut (fun f' cs' => ∃ (c44 : Bool) (g : Fr), c44 = o21 ∧ f' = updL g [(0, v0_0.v), (1, v1_0.v), (5, (.int .i64 (k4 : Int))), (35, (.bool c44))] ∧ Ent cs' [crd (RdS 3 rdInt) v0_0.v a_s, crd (RdS 80 rd80) v1_0.v a_l]) ?_ ?_
  · replace hF := hio21
    refine Dm v0_0.v rfl rfl rfl rfl ?_
    refine Dm v1_0.v rfl rfl rfl rfl ?_
    refine Dm (.int .i64 (k4 : Int)) rfl rfl rfl rfl ?_
    refine D_idx (a := x6) sl39 ty80.sz rfl .no (.tmp rfl rfl) (.tmp rfl rfl) rfl rfl (.t .h) (Int.natCast_nonneg k4) hx9 (fun k23 j24 => ?_)
    refine D_ldA1 (ul80_0_80 x6) ag80 ty80.sz rfl rfl .no (.tmp rfl rfl) rfl .h la80_0_80 (fun p25 => ?_)
    obtain ⟨r26, hx27, hF⟩ := bind_some hF
    refine D_act0 rfl rfl .no (.rd (.t (.t .h)) rfl (.rd .h rfl .nil)) .nil (fun ha => X_callS cf125 (.cons (EN ha (.tmp rfl rfl) rfl) (.cons (EN ha (.tmp rfl rfl) rfl) .nil)) (s_IsFact_ok a_s v0_0 x6 p25 _ hx27)) (fun _ => ?_)
    refine D_val rfl .no (fun ha => V_not (b := r26) (EN ha (.tmp rfl rfl) rfl)) ?_
    refine Dm (.bool (!r26)) rfl rfl rfl rfl ?_
    rcases Bool.eq_false_or_eq_true (!r26) with hg29 | hg29
    · rw [hg29]
      try rw [hg29] at hF; dsimp only [cond_true, cond_false] at hF
      iterate 3 refine D_off 19 rfl rfl rfl rfl ?_
      iterate 11 refine D_offU 22 rfl rfl rfl rfl ?_
      refine D_off 19 rfl rfl rfl rfl ?_
      refine D_val rfl .no (fun ha => V_pick (b := true) (u := (.bool true)) (v := undef) (EN ha (.tmp rfl rfl) rfl) (EN ha (.bool _) rfl) (EN ha (.tmp rfl rfl) rfl)) ?_
      refine D_nil ?_
      obtain rfl := Option.some.inj hF
      exact ⟨_, _, rfl, (EqL.cons rfl (EqL.cons rfl (EqL.cons rfl (EqL.cons rfl (EqL.nil))))).eq, (.sel (.rd (.t (.t .h)) rfl (.rd (.t (.t (.t .h))) rfl .nil)))⟩
    rw [hg29]
    try rw [hg29] at hF; dsimp only [cond_true, cond_false] at hF
    refine D_val rfl (.on 19 rfl rfl rfl) (fun ha => V_move (v := (.int .i64 (k4 : Int))) (EN ha (.tmp rfl rfl) rfl)) ?_
    refine D_val rfl (.on 19 rfl rfl rfl) (fun ha => V_gtr (i := (k4 : Int)) (j := 0) (EN ha (.tmp rfl rfl) rfl) (EN ha (.int _ _) rfl)) ?_
    refine D_val rfl (.on 19 rfl rfl rfl) (fun ha => V_move (v := (.bool (decide ((0 : Int) < (k4 : Int))))) (EN ha (.tmp rfl rfl) rfl)) ?_
    rcases Bool.eq_false_or_eq_true (decide ((0 : Int) < (k4 : Int))) with hg30 | hg30
    · rw [hg30]
      try rw [hg30] at hF; dsimp only [cond_true, cond_false] at hF
      refine D_val rfl (.on 22 rfl rfl rfl) (fun ha => V_move (v := v1_0.v) (EN ha (.tmp rfl rfl) rfl)) ?_
      refine D_val rfl (.on 22 rfl rfl rfl) (fun ha => V_move (v := (.int .i64 (k4 : Int))) (EN ha (.tmp rfl rfl) rfl)) ?_
      refine D_val rfl (.on 22 rfl rfl rfl) (fun ha => V_sub (i := (k4 : Int)) (j := 1) (EN ha (.tmp rfl rfl) rfl) (EN ha (.int _ _) rfl)) ?_
      obtain ⟨x31, hx32, hF⟩ := bind_some hF
      obtain ⟨hp33, hx34⟩ := ix_some hx32
      refine D_idx (a := x31) sl39 ty80.sz rfl (.on 22 rfl rfl rfl) (.tmp rfl rfl) (.tmp rfl rfl) rfl rfl (.t (.t (.t .h))) hp33 hx34 (fun k35 j36 => ?_)
      refine D_ldA1 (ul80_0_80 x31) ag80 ty80.sz rfl rfl (.on 22 rfl rfl rfl) (.tmp rfl rfl) rfl .h la80_0_80 (fun p37 => ?_)
      refine D_val rfl (.on 22 rfl rfl rfl) (fun ha => V_move (v := v1_0.v) (EN ha (.tmp rfl rfl) rfl)) ?_
      refine D_val rfl (.on 22 rfl rfl rfl) (fun ha => V_move (v := (.int .i64 (k4 : Int))) (EN ha (.tmp rfl rfl) rfl)) ?_
      refine D_idx (a := x6) sl39 ty80.sz rfl (.on 22 rfl rfl rfl) (.tmp rfl rfl) (.tmp rfl rfl) rfl rfl (.t (.t (.t (.t (.t .h))))) (Int.natCast_nonneg k4) hx9 (fun k38 j39 => ?_)
      refine D_ldA1 (ul80_0_80 x6) ag80 ty80.sz rfl rfl (.on 22 rfl rfl rfl) (.tmp rfl rfl) rfl .h la80_0_80 (fun p40 => ?_)
      obtain ⟨r41, hx42, hF⟩ := bind_some hF
      refine D_act0 rfl rfl (.on 22 rfl rfl rfl) (.rd (.t (.t .h)) rfl (.rd .h rfl .nil)) .nil (fun ha => X_callS cf126 (.cons (EN ha (.tmp rfl rfl) rfl) (.cons (EN ha (.tmp rfl rfl) rfl) .nil)) (s_CompareFacts_ok x31 p37 x6 p40 _ hx42)) (fun _ => ?_)
      refine D_val rfl (.on 22 rfl rfl rfl) (fun ha => V_geq (i := r41) (j := 0) (EN ha (.tmp rfl rfl) rfl) (EN ha (.int _ _) rfl)) ?_
      refine D_val rfl (.on 19 rfl rfl rfl) (fun ha => V_pick (b := true) (u := (.bool (decide ((0 : Int) ≤ r41)))) (v := (.bool false)) (EN ha (.tmp rfl rfl) rfl) (EN ha (.tmp rfl rfl) rfl) (EN ha (.bool _) rfl)) ?_
      refine D_val rfl .no (fun ha => V_pick (b := false) (u := (.bool true)) (v := (.bool (decide ((0 : Int) ≤ r41)))) (EN ha (.tmp rfl rfl) rfl) (EN ha (.bool _) rfl) (EN ha (.tmp rfl rfl) rfl)) ?_
      refine D_nil ?_
      obtain rfl := Option.some.inj hF
      exact ⟨_, _, rfl, (EqL.cons rfl (EqL.cons rfl (EqL.cons rfl (EqL.cons rfl (EqL.nil))))).eq, (.sel (.rd (.t (.t (.t (.t (.t (.t .h)))))) rfl (.rd (.t (.t (.t (.t (.t (.t (.t .h))))))) rfl .nil)))⟩
    rw [hg30]
    try rw [hg30] at hF; dsimp only [cond_true, cond_false] at hF
    iterate 11 refine D_off 22 rfl rfl rfl rfl ?_
    refine D_val rfl (.on 19 rfl rfl rfl) (fun ha => V_pick (b := false) (u := undef) (v := (.bool false)) (EN ha (.tmp rfl rfl) rfl) (EN ha (.tmp rfl rfl) rfl) (EN ha (.bool _) rfl)) ?_
    refine D_val rfl .no (fun ha => V_pick (b := false) (u := (.bool true)) (v := (.bool false)) (EN ha (.tmp rfl rfl) rfl) (EN ha (.bool _) rfl) (EN ha (.tmp rfl rfl) rfl)) ?_
    refine D_nil ?_
    obtain rfl := Option.some.inj hF
    exact ⟨_, _, rfl, (EqL.cons rfl (EqL.cons rfl (EqL.cons rfl (EqL.cons rfl (EqL.nil))))).eq, (.sel (.rd (.t (.t .h)) rfl (.rd (.t (.t (.t .h))) rfl .nil)))⟩
  rintro _ _ ⟨c44, g47, rfl, rfl, hE⟩
  replace hF := hO22
  clear hO22
  try dsimp only at hF
  refine K_ent hE ?_
  refine CW_cond (b := c44) (.tmp rfl rfl) (fun hb46 => ?_) (fun hb46 => ?_)
  · rw [if_pos hb46] at hF
    refine K_region (C_val (V_assign (v := (.bool false)) (.bool _)) ?_)
    refine C_nil (CW_ret ?_)
    obtain rfl := Option.some.inj hF
    exact End_ret () (.tmp rfl rfl .nil) rfl (.sel .nil)
  rw [if_neg (by rw [hb46]; exact Bool.false_ne_true)] at hF
  refine CW_skip (CW_region (Cm (.int .i64 (k4 : Int)) rfl rfl ?_))
  refine C_val (V_add (i := (k4 : Int)) (j := 1) (.tmp rfl rfl) (.int _ _)) ?_
  refine Ca (.int .i64 (IntKind.i64.wrap ((k4 : Int) + 1))) rfl rfl ?_
  refine C_nil ?_
  have hw45 : IntKind.i64.wrap ((k4 : Int) + 1) = ((k4 + 1 : Nat) : Int) := by rw [wrap_in (by omega) (by omega)]; rfl
  rw [hw45]
  exact ⟨_, Nat.lt_succ_self _, _, k4 + 1, rest5, rfl, (EqL.cons rfl (EqL.cons rfl (EqL.cons rfl (EqL.nil)))).eq, hd10, (.sel (.rd .h rfl (.rd (.t .h) rfl .nil))), hF⟩

/-! spec.IsSource -/
def s_IsSource (a_s : List Int) (a_x : Source) : Option (Bool) :=
  ((s_AreFacts a_s a_x.Facts).bind fun r4 =>
    bif r4 then ((s_l1In a_x.Version 0 1000).bind fun r8 =>
      some r8)
    else (some false)).bind fun o2 =>
  match o2 with
  | c11 => some c11
theorem s_IsSource_ok (a_s : List Int) (v0_0 : Sv) (a_x : Source) (v1_0 : Sv) (R : Bool) (hF : s_IsSource a_s a_x = some R) :
    Fw.Spec Tryz.prog 56 [v0_0.v, (.agg [v1_0.v, (.int .i64 a_x.Version)].toArray)] [crd (RdS 3 rdInt) v0_0.v a_s, crd (RdS 80 rd80) v1_0.v a_x.Facts] (fun _ : Unit => (.bool R)) (fun _ => []) := by
  refine Spec_enter (n := 14) Tryz.func56 rfl rfl (rs := [.tmp 4]) rfl rfl rfl ?_
  intro H0 F0
  unfold s_IsSource at hF
  refine K_region (C_newR rfl (N_box (g := false) (v := (.agg [v1_0.v, (.int .i64 a_x.Version)].toArray)) ty41.sz (.tmp rfl rfl) rfl) (fun k1 => ?_))
  refine C_val (V_assign (v := (.bool false)) (.bool _)) ?_
  refine C_nil ?_
  obtain ⟨o2, hio2, hO3⟩ := bind_some hF
  refine K_region (C_cut (fun f' cs' => ∃ (c11 : Bool) (g : Fr), c11 = o2 ∧ f' = updL g [(4, (.bool c11))] ∧ Ent cs' []) ?_ ?_)
  · replace hF := hio2
    refine Cm v0_0.v rfl rfl ?_
    refine C_val (V_fieldAddr (off := 0) fd41_0 (.tmp rfl rfl)) ?_
    refine C_at .h (fun hp => V_load (v := v1_0.v) ag39 (.tmp rfl rfl) hp.2 rfl rfl) ?_
    obtain ⟨r4, hx5, hF⟩ := bind_some hF
    refine C_x0 (.rd (.t .h) rfl (.rd (.t (.t .h)) rfl .nil)) (X_callS cf97 (.cons (.tmp rfl rfl) (.cons (.tmp rfl rfl) .nil)) (s_AreFacts_ok a_s v0_0 a_x.Facts v1_0 _ hx5)) (fun _ => ?_)
    refine Cm (.bool r4) rfl rfl ?_
    rcases Bool.eq_false_or_eq_true r4 with hg7 | hg7
    · rw [hg7]
      try rw [hg7] at hF; dsimp only [cond_true, cond_false] at hF
      refine C_on (t := 9) rfl rfl rfl ?_
      refine C_val (V_fieldAddr (off := 1) fd41_1 (.tmp rfl rfl)) ?_
      refine C_on (t := 9) rfl rfl rfl ?_
      refine C_at .h (fun hp => V_load (v := (.int .i64 a_x.Version)) ag3 (.tmp rfl rfl) hp.2 rfl rfl) ?_
      refine C_on (t := 9) rfl rfl rfl ?_
      obtain ⟨r8, hx9, hF⟩ := bind_some hF
      refine C_x0 .nil (X_callS cf59 (.cons (.tmp rfl rfl) (.cons (.int _ _) (.cons (.int _ _) .nil))) (s_l1In_ok a_x.Version 0 1000 _ hx9)) (fun _ => ?_)
      refine C_val (V_pick (b := true) (u := (.bool r8)) (v := (.bool false)) (.tmp rfl rfl) (.tmp rfl rfl) (.bool _)) ?_
      refine Ca (.bool r8) rfl rfl ?_
      refine C_nil ?_
      obtain rfl := Option.some.inj hF
      exact ⟨_, _, rfl, (EqL.cons rfl (EqL.nil)).eq, (.sel .nil)⟩
    rw [hg7]
    try rw [hg7] at hF; dsimp only [cond_true, cond_false] at hF
    iterate 3 refine C_off (t := 9) rfl rfl rfl ?_
    refine C_val (V_pick (b := false) (u := undef) (v := (.bool false)) (.tmp rfl rfl) (.tmp rfl rfl) (.bool _)) ?_
    refine Ca (.bool false) rfl rfl ?_
    refine C_nil ?_
    obtain rfl := Option.some.inj hF
    exact ⟨_, _, rfl, (EqL.cons rfl (EqL.nil)).eq, (.sel .nil)⟩
  rintro _ _ ⟨c11, g12, rfl, rfl, hE⟩
  replace hF := hO3
  clear hO3
  try dsimp only at hF
  refine K_ent hE ?_
  refine CW_ret ?_
  obtain rfl := Option.some.inj hF
  exact End_ret () (.tmp rfl rfl .nil) rfl (.sel .nil)

/-! spec.IsAccess -/
def s_IsAccess_L1 : List Int → Nat → Option (Bool)
  | [], k23 => some true
  | x25 :: rest24, k23 => (s_l1In x25 0 9).bind fun r34 =>
    if (!r34) then (
      some false)
    else (
      s_IsAccess_L1 rest24 (k23 + 1))
def s_IsAccess (a_s : List Int) (a_l : List Method) (a_a : Access) : Option (Bool) :=
  ((s_AreMethods a_s a_l).bind fun r4 =>
    bif (!r4) then (some true)
    else ((s_l1In a_a.Method 0 (IntKind.i64.wrap ((a_l.length : Int) - 1))).bind fun r8 =>
      bif (!r8) then (some true)
      else ((ix a_l a_a.Method).bind fun x12 =>
        some (((a_a.Values.length : Int) : Int) != (x12.Inputs.length : Int))))).bind fun o2 =>
  match o2 with
  | c19 => if c19 then (
      some false)
    else (
      s_IsAccess_L1 a_a.Values 0)
theorem s_IsAccess_ok (a_s : List Int) (v0_0 : Sv) (a_l : List Method) (v1_0 : Sv) (a_a : Access) (v2_1 : Sv) (R : Bool) (hF : s_IsAccess a_s a_l a_a = some R) :
    Fw.Spec Tryz.prog 58 [v0_0.v, v1_0.v, (.agg [(.int .i64 a_a.Method), v2_1.v].toArray)] [crd (RdS 3 rdInt) v0_0.v a_s, crd (RdS 108 rd108) v1_0.v a_l, crd (RdS 3 rdInt) v2_1.v a_a.Values] (fun _ : Unit => (.bool R)) (fun _ => []) := by
  refine Spec_enter (n := 48) Tryz.func58 rfl rfl (rs := [.tmp 6]) rfl rfl rfl ?_
  intro H0 F0
  unfold s_IsAccess at hF
  refine K_region (C_newR rfl (N_box (g := false) (v := (.agg [(.int .i64 a_a.Method), v2_1.v].toArray)) ty105.sz (.tmp rfl rfl) rfl) (fun k1 => ?_))
  refine C_val (V_assign (v := (.bool false)) (.bool _)) ?_
  refine C_nil (K_in ?_)
  obtain ⟨o2, hio2, hO3⟩ := bind_some hF
  refine K_draw [0, 1, 2, 3, 4, 5, 6, 7, 8, 9, 10, 11, 12, 13, 14, 15, 16, 17, 18, 19, 20, 21, 22, 23, 24, 25] [0, 0, 3, 7, 15, 31, 63, 31, 159, 415, 1023, 2047, 4095, 8191, 16383, 32767, 65535, 16383, 16383, 278527, 933887, 1982463, 4079615, 8273919, 16777215, 33554431] [2, 10] mixed (by decide +kernel) ?_
  refine D_cut (fun f' cs' => ∃ (c19 : Bool) (g : Fr), c19 = o2 ∧ f' = updL g [(5, (.pointer (some ⟨k1, 0, some 0⟩))), (33, (.bool c19))] ∧ Ent cs' [cboR k1 105 (.agg [(.int .i64 a_a.Method), v2_1.v].toArray), crd (RdS 3 rdInt) v2_1.v a_a.Values]) ?_ ?_
  · replace hF := hio2
    refine Dm v0_0.v rfl rfl rfl rfl ?_
    refine Dm v1_0.v rfl rfl rfl rfl ?_
    obtain ⟨r4, hx5, hF⟩ := bind_some hF
    refine D_act0 rfl rfl .no (.rd (.t .h) rfl (.rd (.t (.t .h)) rfl .nil)) .nil (fun ha => X_callS cf54 (.cons (EN ha (.tmp rfl rfl) rfl) (.cons (EN ha (.tmp rfl rfl) rfl) .nil)) (s_AreMethods_ok a_s v0_0 a_l v1_0 _ hx5)) (fun _ => ?_)
    refine D_val rfl .no (fun ha => V_not (b := r4) (EN ha (.tmp rfl rfl) rfl)) ?_
    refine Dm (.bool (!r4)) rfl rfl rfl rfl ?_
    rcases Bool.eq_false_or_eq_true (!r4) with hg7 | hg7
    · rw [hg7]
      try rw [hg7] at hF; dsimp only [cond_true, cond_false] at hF
      iterate 7 refine D_off 12 rfl rfl rfl rfl ?_
      refine D_val rfl .no (fun ha => V_pick (b := true) (u := (.bool true)) (v := undef) (EN ha (.tmp rfl rfl) rfl) (EN ha (.bool _) rfl) (EN ha (.tmp rfl rfl) rfl)) ?_
      refine Dm (.bool true) rfl rfl rfl rfl ?_
      iterate 11 refine D_off 21 rfl rfl rfl rfl ?_
      refine D_val rfl .no (fun ha => V_pick (b := true) (u := (.bool true)) (v := undef) (EN ha (.tmp rfl rfl) rfl) (EN ha (.bool _) rfl) (EN ha (.tmp rfl rfl) rfl)) ?_
      refine D_nil ?_
      obtain rfl := Option.some.inj hF
      exact ⟨_, _, rfl, (EqL.cons rfl (EqL.cons rfl (EqL.nil))).eq, (.sel (.rd .h rfl (.rd (.t (.t (.t .h))) rfl .nil)))⟩
    rw [hg7]
    try rw [hg7] at hF; dsimp only [cond_true, cond_false] at hF
    refine D_val rfl (.on 12 rfl rfl rfl) (fun ha => V_fieldAddr (off := 0) fd105_0 (EN ha (.tmp rfl rfl) rfl)) ?_
    refine D_at rfl (.on 12 rfl rfl rfl) .h rfl (fun ha hp => V_load (v := (.int .i64 a_a.Method)) ag3 (EN ha (.tmp rfl rfl) rfl) hp.2 rfl rfl) ?_
    refine D_val rfl (.on 12 rfl rfl rfl) (fun ha => V_move (v := v1_0.v) (EN ha (.tmp rfl rfl) rfl)) ?_
    refine D_at rfl (.on 12 rfl rfl rfl) (.t (.t .h)) rfl (fun ha hp => V_lenR (l := a_l.length) sl37 (EN ha (.tmp rfl rfl) rfl) (crd_len hp)) ?_
    refine D_val rfl (.on 12 rfl rfl rfl) (fun ha => V_sub (i := (a_l.length : Int)) (j := 1) (EN ha (.tmp rfl rfl) rfl) (EN ha (.int _ _) rfl)) ?_
    obtain ⟨r8, hx9, hF⟩ := bind_some hF
    refine D_act0 rfl rfl (.on 12 rfl rfl rfl) .nil .nil (fun ha => X_callS cf59 (.cons (EN ha (.tmp rfl rfl) rfl) (.cons (EN ha (.int _ _) rfl) (.cons (EN ha (.tmp rfl rfl) rfl) .nil))) (s_l1In_ok a_a.Method 0 (IntKind.i64.wrap ((a_l.length : Int) - 1)) _ hx9)) (fun _ => ?_)
    refine D_val rfl (.on 12 rfl rfl rfl) (fun ha => V_not (b := r8) (EN ha (.tmp rfl rfl) rfl)) ?_
    refine D_val rfl .no (fun ha => V_pick (b := false) (u := (.bool true)) (v := (.bool (!r8))) (EN ha (.tmp rfl rfl) rfl) (EN ha (.bool _) rfl) (EN ha (.tmp rfl rfl) rfl)) ?_
    refine Dm (.bool (!r8)) rfl rfl rfl rfl ?_
    rcases Bool.eq_false_or_eq_true (!r8) with hg11 | hg11
    · rw [hg11]
      try rw [hg11] at hF; dsimp only [cond_true, cond_false] at hF
      iterate 11 refine D_off 21 rfl rfl rfl rfl ?_
      refine D_val rfl .no (fun ha => V_pick (b := true) (u := (.bool true)) (v := undef) (EN ha (.tmp rfl rfl) rfl) (EN ha (.bool _) rfl) (EN ha (.tmp rfl rfl) rfl)) ?_
      refine D_nil ?_
      obtain rfl := Option.some.inj hF
      exact ⟨_, _, rfl, (EqL.cons rfl (EqL.cons rfl (EqL.nil))).eq, (.sel (.rd .h rfl (.rd (.t (.t (.t .h))) rfl .nil)))⟩
    rw [hg11]
    try rw [hg11] at hF; dsimp only [cond_true, cond_false] at hF
    refine D_val rfl (.on 21 rfl rfl rfl) (fun ha => V_fieldAddr (off := 1) fd105_1 (EN ha (.tmp rfl rfl) rfl)) ?_
    refine D_at rfl (.on 21 rfl rfl rfl) .h rfl (fun ha hp => V_load (v := v2_1.v) ag22 (EN ha (.tmp rfl rfl) rfl) hp.2 rfl rfl) ?_
    refine D_at rfl (.on 21 rfl rfl rfl) (.t (.t (.t .h))) rfl (fun ha hp => V_lenR (l := a_a.Values.length) sl22 (EN ha (.tmp rfl rfl) rfl) (crd_len hp)) ?_
    refine D_val rfl (.on 21 rfl rfl rfl) (fun ha => V_move (v := v1_0.v) (EN ha (.tmp rfl rfl) rfl)) ?_
    refine D_val rfl (.on 21 rfl rfl rfl) (fun ha => V_fieldAddr (off := 0) fd105_0 (EN ha (.tmp rfl rfl) rfl)) ?_
    refine D_at rfl (.on 21 rfl rfl rfl) .h rfl (fun ha hp => V_load (v := (.int .i64 a_a.Method)) ag3 (EN ha (.tmp rfl rfl) rfl) hp.2 rfl rfl) ?_
    obtain ⟨x12, hx13, hF⟩ := bind_some hF
    obtain ⟨hp14, hx15⟩ := ix_some hx13
    refine D_idx (a := x12) sl37 ty108.sz rfl (.on 21 rfl rfl rfl) (.tmp rfl rfl) (.tmp rfl rfl) rfl rfl (.t (.t .h)) hp14 hx15 (fun k16 j17 => ?_)
    refine D_val rfl (.on 21 rfl rfl rfl) (fun ha => V_fieldAddr (off := 1) fd108_1 (EN ha (.tmp rfl rfl) rfl)) ?_
    refine D_ldV (R' := (RdS 3 rdInt)) ag22 rfl (.on 21 rfl rfl rfl) (.tmp rfl rfl) rfl .h lv108_1 (fun w18 => ?_)
    refine D_at rfl (.on 21 rfl rfl rfl) .h rfl (fun ha hp => V_lenR (l := x12.Inputs.length) sl22 (EN ha (.tmp rfl rfl) rfl) (crd_len hp)) ?_
    refine D_val rfl (.on 21 rfl rfl rfl) (fun ha => V_neq (i := (a_a.Values.length : Int)) (j := (x12.Inputs.length : Int)) (EN ha (.tmp rfl rfl) rfl) (EN ha (.tmp rfl rfl) rfl)) ?_
    refine D_val rfl .no (fun ha => V_pick (b := false) (u := (.bool true)) (v := (.bool (((a_a.Values.length : Int) : Int) != (x12.Inputs.length : Int)))) (EN ha (.tmp rfl rfl) rfl) (EN ha (.bool _) rfl) (EN ha (.tmp rfl rfl) rfl)) ?_
    refine D_nil ?_
    obtain rfl := Option.some.inj hF
    exact ⟨_, _, rfl, (EqL.cons rfl (EqL.cons rfl (EqL.nil))).eq, (.sel (.rd (.t (.t .h)) rfl (.rd (.t (.t (.t (.t (.t .h))))) rfl .nil)))⟩
  rintro _ _ ⟨c19, g40, rfl, rfl, hE⟩
  replace hF := hO3
  clear hO3
  try dsimp only at hF
  refine K_ent hE ?_
  refine CW_cond (b := c19) (.tmp rfl rfl) (fun hb39 => ?_) (fun hb39 => ?_)
  · rw [if_pos hb39] at hF
    refine K_region (C_val (V_assign (v := (.bool false)) (.bool _)) ?_)
    refine C_nil (CW_ret ?_)
    obtain rfl := Option.some.inj hF
    exact End_ret () (.tmp rfl rfl .nil) rfl (.sel .nil)
  rw [if_neg (by rw [hb39]; exact Bool.false_ne_true)] at hF
  refine CW_skip (K_in (K_region (C_val (V_assign (v := (.int .i64 0)) (.int _ _)) ?_)))
  refine C_nil (CW_block (CW_loop (m := a_a.Values.length) (fun m21 f' cs' => ∃ (g : Fr) (k23 : Nat) (rest24 : List Int), m21 = rest24.length ∧ f' = updL g [(5, (.pointer (some ⟨k1, 0, some 0⟩))), (7, (.int .i64 (k23 : Int)))] ∧ List.drop k23 a_a.Values = rest24 ∧ Ent cs' [cboR k1 105 (.agg [(.int .i64 a_a.Method), v2_1.v].toArray), crd (RdS 3 rdInt) v2_1.v a_a.Values] ∧ s_IsAccess_L1 rest24 k23 = some R) ⟨_, 0, _, rfl, (EqL.cons rfl (EqL.cons rfl (EqL.nil))).eq, rfl, (.sel (.rd .h rfl (.rd (.t .h) rfl .nil))), hF⟩ ?_))
  clear hF
  rintro m21 _ _ ⟨g22, k23, rest24, rfl, rfl, hd26, hE, hF⟩
  refine K_ent hE ?_
  clear hE
  refine K_pure (c := crd (RdS 3 rdInt) v2_1.v a_a.Values) (.t .h) crd_bound (fun hbd31 => ?_)
  rcases rest24 with _ | ⟨x25, rest24⟩
  · have hk27 := List.drop_eq_nil_iff.1 hd26
    have hfe30 : (decide (((k23 : Int) : Int) < (a_a.Values.length : Int))) = false := decide_eq_false (by omega)
    rw [s_IsAccess_L1] at hF
    refine K_in (K_region (Cm (.int .i64 (k23 : Int)) rfl rfl ?_))
    refine C_val (V_fieldAddr (off := 1) fd105_1 (.tmp rfl rfl)) ?_
    refine C_at .h (fun hp => V_load (v := v2_1.v) ag22 (.tmp rfl rfl) hp.2 rfl rfl) ?_
    refine C_at (.t .h) (fun hp => V_lenR (l := a_a.Values.length) sl22 (.tmp rfl rfl) (crd_len hp)) ?_
    refine C_val (V_lss (i := (k23 : Int)) (j := (a_a.Values.length : Int)) (.tmp rfl rfl) (.tmp rfl rfl)) ?_
    refine C_nil (CW_cond (b := (decide (((k23 : Int) : Int) < (a_a.Values.length : Int)))) (.tmp rfl rfl) (fun hb => absurd (hfe30.symm.trans hb) (by decide)) (fun _ => ?_))
    refine CW_exit ?_
    iterate 2 refine CThen_exit ?_
    refine CIn_self (K_region (C_val (V_assign (v := (.bool true)) (.bool _)) ?_))
    refine C_nil (CW_ret ?_)
    obtain rfl := Option.some.inj hF
    exact End_ret () (.tmp rfl rfl .nil) rfl (.sel .nil)
  obtain ⟨hk27, hx28, hd29⟩ := drop_cons hd26
  have hfe30 : (decide (((k23 : Int) : Int) < (a_a.Values.length : Int))) = true := decide_eq_true (by omega)
  rw [s_IsAccess_L1] at hF
  refine K_in (K_region (Cm (.int .i64 (k23 : Int)) rfl rfl ?_))
  refine C_val (V_fieldAddr (off := 1) fd105_1 (.tmp rfl rfl)) ?_
  refine C_at .h (fun hp => V_load (v := v2_1.v) ag22 (.tmp rfl rfl) hp.2 rfl rfl) ?_
  refine C_at (.t .h) (fun hp => V_lenR (l := a_a.Values.length) sl22 (.tmp rfl rfl) (crd_len hp)) ?_
  refine C_val (V_lss (i := (k23 : Int)) (j := (a_a.Values.length : Int)) (.tmp rfl rfl) (.tmp rfl rfl)) ?_
  refine C_nil (CW_cond (b := (decide (((k23 : Int) : Int) < (a_a.Values.length : Int)))) (.tmp rfl rfl) (fun _ => ?_) (fun hb => absurd (hfe30.symm.trans hb) (by decide)))
  refine CW_skip (K_block (K_region (C_val (V_fieldAddr (off := 1) fd105_1 (.tmp rfl rfl)) ?_)))
  refine C_at .h (fun hp => V_load (v := v2_1.v) ag22 (.tmp rfl rfl) hp.2 rfl rfl) ?_
  refine Cm (.int .i64 (k23 : Int)) rfl rfl ?_
  refine C_idx (a := x25) sl22 ty3.sz (.tmp rfl rfl) (.tmp rfl rfl) (.t .h) (Int.natCast_nonneg k23) hx28 (fun k32 j33 => ?_)
  refine C_ldS (w := (.int .i64 x25)) ag3 (.tmp rfl rfl) .h ls3_0 ?_
  obtain ⟨r34, hx35, hF⟩ := bind_some hF
  refine C_x0 .nil (X_callS cf59 (.cons (.tmp rfl rfl) (.cons (.int _ _) (.cons (.int _ _) .nil))) (s_l1In_ok x25 0 9 _ hx35)) (fun _ => ?_)
  refine C_val (V_not (b := r34) (.tmp rfl rfl)) ?_
  refine C_nil (CW_cond (b := (!r34)) (.tmp rfl rfl) (fun hb38 => ?_) (fun hb38 => ?_))
  · rw [if_pos hb38] at hF
    refine K_region (C_val (V_assign (v := (.bool false)) (.bool _)) ?_)
    refine C_nil (CW_ret ?_)
    obtain rfl := Option.some.inj hF
    exact End_ret () (.tmp rfl rfl .nil) rfl (.sel .nil)
  rw [if_neg (by rw [hb38]; exact Bool.false_ne_true)] at hF
  refine CW_skip (CW_region (Cm (.int .i64 (k23 : Int)) rfl rfl ?_))
  refine C_val (V_add (i := (k23 : Int)) (j := 1) (.tmp rfl rfl) (.int _ _)) ?_
  refine Ca (.int .i64 (IntKind.i64.wrap ((k23 : Int) + 1))) rfl rfl ?_
  refine C_nil ?_
  have hw37 : IntKind.i64.wrap ((k23 : Int) + 1) = ((k23 + 1 : Nat) : Int) := by rw [wrap_in (by omega) (by omega)]; rfl
  rw [hw37]
  exact ⟨_, Nat.lt_succ_self _, _, k23 + 1, rest24, rfl, (EqL.cons rfl (EqL.cons rfl (EqL.nil))).eq, hd29, (.sel (.rd (.t .h) rfl (.rd (.t (.t .h)) rfl .nil))), hF⟩

/-! spec.l4Less -/
def s_l4Less_L1 (a_a : List Int) (a_b : List Int) : Nat → Int → Option (Bool)
  | 0, _ => none
  | m2 + 1, c1 => if ((decide ((c1 : Int) < (a_a.length : Int))) && (decide ((c1 : Int) < (a_b.length : Int)))) then (
      (ix a_a c1).bind fun x12 =>
      (ix a_b c1).bind fun x18 =>
      if ((x12 : Int) != x18) then (
        (ix a_a c1).bind fun x24 =>
        (ix a_b c1).bind fun x30 =>
        some (decide ((x24 : Int) < x30)))
      else (
        s_l4Less_L1 a_a a_b m2 (IntKind.i64.wrap (c1 + 1))))
    else (
      some (decide (((a_a.length : Int) : Int) < (a_b.length : Int))))
def s_l4Less (a_a : List Int) (a_b : List Int) : Option (Bool) :=
  s_l4Less_L1 a_a a_b (((a_a.length : Int) - 0).toNat + 2) 0
theorem s_l4Less_ok (a_a : List Int) (v0_0 : Sv) (a_b : List Int) (v1_0 : Sv) (R : Bool) (hF : s_l4Less a_a a_b = some R) :
    Fw.Spec Tryz.prog 127 [v0_0.v, v1_0.v] [crd (RdS 3 rdInt) v0_0.v a_a, crd (RdS 3 rdInt) v1_0.v a_b] (fun _ : Unit => (.bool R)) (fun _ => []) := by
  refine Spec_enter (n := 41) Tryz.func127 rfl rfl (rs := [.tmp 4]) rfl rfl rfl ?_
  intro H0 F0
  unfold s_l4Less at hF
  refine K_region (C_val (V_assign (v := (.bool false)) (.bool _)) ?_)
  refine C_nil (K_in (K_region (C_val (V_assign (v := (.int .i64 0)) (.int _ _)) ?_)))
  refine C_nil (CW_block (CW_loop (m := (((a_a.length : Int) - 0).toNat + 2)) (fun m2 f' cs' => ∃ (g : Fr) (c1 : Int), f' = updL g [(0, v0_0.v), (1, v1_0.v), (5, (.int .i64 c1))] ∧ Ent cs' [crd (RdS 3 rdInt) v0_0.v a_a, crd (RdS 3 rdInt) v1_0.v a_b] ∧ s_l4Less_L1 a_a a_b m2 c1 = some R) ⟨_, _, (EqL.cons rfl (EqL.cons rfl (EqL.cons rfl (EqL.nil)))).eq, (.sel (.rd .h rfl (.rd (.t .h) rfl .nil))), hF⟩ ?_))
  clear hF
  rintro m2 _ _ ⟨g3, c1, rfl, hE, hF⟩
  refine K_ent hE ?_
  clear hE
  rcases m2 with _ | m2
  · rw [s_l4Less_L1] at hF
    exact absurd hF (by simp)
  rw [s_l4Less_L1] at hF
  refine K_in (K_region (C_cut (fun f' cs' => ∃ (g : Fr), f' = updL g [(0, v0_0.v), (1, v1_0.v), (5, (.int .i64 c1)), (15, (.bool ((decide ((c1 : Int) < (a_a.length : Int))) && (decide ((c1 : Int) < (a_b.length : Int))))))] ∧ Ent cs' [crd (RdS 3 rdInt) v0_0.v a_a, crd (RdS 3 rdInt) v1_0.v a_b]) ?_ ?_))
  · refine Cm (.int .i64 c1) rfl rfl ?_
    refine Cm v0_0.v rfl rfl ?_
    refine C_at .h (fun hp => V_lenR (l := a_a.length) sl22 (.tmp rfl rfl) (crd_len hp)) ?_
    refine C_val (V_lss (i := c1) (j := (a_a.length : Int)) (.tmp rfl rfl) (.tmp rfl rfl)) ?_
    refine Cm (.bool (decide ((c1 : Int) < (a_a.length : Int)))) rfl rfl ?_
    rcases Bool.eq_false_or_eq_true (decide ((c1 : Int) < (a_a.length : Int))) with hg10 | hg10
    · rw [hg10]
      try rw [hg10] at hF; dsimp only [cond_true, cond_false] at hF
      refine C_on (t := 10) rfl rfl rfl ?_
      refine Cm (.int .i64 c1) rfl rfl ?_
      refine C_on (t := 10) rfl rfl rfl ?_
      refine Cm v1_0.v rfl rfl ?_
      refine C_on (t := 10) rfl rfl rfl ?_
      refine C_at (.t .h) (fun hp => V_lenR (l := a_b.length) sl22 (.tmp rfl rfl) (crd_len hp)) ?_
      refine C_on (t := 10) rfl rfl rfl ?_
      refine C_val (V_lss (i := c1) (j := (a_b.length : Int)) (.tmp rfl rfl) (.tmp rfl rfl)) ?_
      refine C_val (V_pick (b := true) (u := (.bool (decide ((c1 : Int) < (a_b.length : Int))))) (v := (.bool false)) (.tmp rfl rfl) (.tmp rfl rfl) (.bool _)) ?_
      refine C_nil ?_
      exact ⟨_, (EqL.cons rfl (EqL.cons rfl (EqL.cons rfl (EqL.cons rfl (EqL.nil))))).eq, (.sel (.rd .h rfl (.rd (.t .h) rfl .nil)))⟩
    rw [hg10]
    try rw [hg10] at hF; dsimp only [cond_true, cond_false] at hF
    iterate 4 refine C_off (t := 10) rfl rfl rfl ?_
    refine C_val (V_pick (b := false) (u := undef) (v := (.bool false)) (.tmp rfl rfl) (.tmp rfl rfl) (.bool _)) ?_
    refine C_nil ?_
    exact ⟨_, (EqL.cons rfl (EqL.cons rfl (EqL.cons rfl (EqL.cons rfl (EqL.nil))))).eq, (.sel (.rd .h rfl (.rd (.t .h) rfl .nil)))⟩
  rintro _ _ ⟨g11, rfl, hE⟩
  refine K_ent hE ?_
  refine CW_cond (b := ((decide ((c1 : Int) < (a_a.length : Int))) && (decide ((c1 : Int) < (a_b.length : Int))))) (.tmp rfl rfl) (fun hb37 => ?_) (fun hb37 => ?_)
  · rw [if_pos hb37] at hF
    refine CW_skip (K_block (K_draw [0, 1, 2, 3, 4, 5, 6, 7, 8] [0, 0, 3, 7, 0, 0, 48, 112, 255] [] mixed (by decide +kernel) ?_))
    refine Dm v0_0.v rfl rfl rfl rfl ?_
    refine Dm (.int .i64 c1) rfl rfl rfl rfl ?_
    obtain ⟨x12, hx13, hF⟩ := bind_some hF
    obtain ⟨hp14, hx15⟩ := ix_some hx13
    refine D_idx (a := x12) sl22 ty3.sz rfl .no (.tmp rfl rfl) (.tmp rfl rfl) rfl rfl .h hp14 hx15 (fun k16 j17 => ?_)
    refine D_ldS (w := (.int .i64 x12)) ag3 rfl .no (.tmp rfl rfl) rfl .h ls3_0 ?_
    refine Dm v1_0.v rfl rfl rfl rfl ?_
    refine Dm (.int .i64 c1) rfl rfl rfl rfl ?_
    obtain ⟨x18, hx19, hF⟩ := bind_some hF
    obtain ⟨hp20, hx21⟩ := ix_some hx19
    refine D_idx (a := x18) sl22 ty3.sz rfl .no (.tmp rfl rfl) (.tmp rfl rfl) rfl rfl (.t (.t .h)) hp20 hx21 (fun k22 j23 => ?_)
    refine D_ldS (w := (.int .i64 x18)) ag3 rfl .no (.tmp rfl rfl) rfl .h ls3_0 ?_
    refine D_val rfl .no (fun ha => V_neq (i := x12) (j := x18) (EN ha (.tmp rfl rfl) rfl) (EN ha (.tmp rfl rfl) rfl)) ?_
    refine D_nil (CW_cond (b := ((x12 : Int) != x18)) (.tmp rfl rfl) (fun hb36 => ?_) (fun hb36 => ?_))
    · rw [if_pos hb36] at hF
      refine K_draw [0, 1, 2, 3, 4, 5, 6, 7, 8, 9] [0, 0, 3, 7, 0, 0, 48, 112, 255, 511] [] mixed (by decide +kernel) ?_
      refine Dm v0_0.v rfl rfl rfl rfl ?_
      refine Dm (.int .i64 c1) rfl rfl rfl rfl ?_
      obtain ⟨x24, hx25, hF⟩ := bind_some hF
      obtain ⟨hp26, hx27⟩ := ix_some hx25
      refine D_idx (a := x24) sl22 ty3.sz rfl .no (.tmp rfl rfl) (.tmp rfl rfl) rfl rfl (.t (.t .h)) hp26 hx27 (fun k28 j29 => ?_)
      refine D_ldS (w := (.int .i64 x24)) ag3 rfl .no (.tmp rfl rfl) rfl .h ls3_0 ?_
      refine Dm v1_0.v rfl rfl rfl rfl ?_
      refine Dm (.int .i64 c1) rfl rfl rfl rfl ?_
      obtain ⟨x30, hx31, hF⟩ := bind_some hF
      obtain ⟨hp32, hx33⟩ := ix_some hx31
      refine D_idx (a := x30) sl22 ty3.sz rfl .no (.tmp rfl rfl) (.tmp rfl rfl) rfl rfl (.t (.t (.t (.t .h)))) hp32 hx33 (fun k34 j35 => ?_)
      refine D_ldS (w := (.int .i64 x30)) ag3 rfl .no (.tmp rfl rfl) rfl .h ls3_0 ?_
      refine D_val rfl .no (fun ha => V_lss (i := x24) (j := x30) (EN ha (.tmp rfl rfl) rfl) (EN ha (.tmp rfl rfl) rfl)) ?_
      refine Da (.bool (decide ((x24 : Int) < x30))) rfl rfl rfl rfl ?_
      refine D_nil (CW_ret ?_)
      obtain rfl := Option.some.inj hF
      exact End_ret () (.tmp rfl rfl .nil) rfl (.sel .nil)
    rw [if_neg (by rw [hb36]; exact Bool.false_ne_true)] at hF
    refine CW_skip (CW_region (Cm (.int .i64 c1) rfl rfl ?_))
    refine C_val (V_add (i := c1) (j := 1) (.tmp rfl rfl) (.int _ _)) ?_
    refine Ca (.int .i64 (IntKind.i64.wrap (c1 + 1))) rfl rfl ?_
    refine C_nil ?_
    exact ⟨m2, Nat.lt_succ_self _, _, _, (EqL.cons rfl (EqL.cons rfl (EqL.cons rfl (EqL.nil)))).eq, (.sel (.rd (.t (.t .h)) rfl (.rd (.t (.t (.t .h))) rfl .nil))), hF⟩
  rw [if_neg (by rw [hb37]; exact Bool.false_ne_true)] at hF
  refine CW_exit ?_
  iterate 2 refine CThen_exit ?_
  refine CIn_self (K_region (Cm v0_0.v rfl rfl ?_))
  refine C_at .h (fun hp => V_lenR (l := a_a.length) sl22 (.tmp rfl rfl) (crd_len hp)) ?_
  refine Cm v1_0.v rfl rfl ?_
  refine C_at (.t .h) (fun hp => V_lenR (l := a_b.length) sl22 (.tmp rfl rfl) (crd_len hp)) ?_
  refine C_val (V_lss (i := (a_a.length : Int)) (j := (a_b.length : Int)) (.tmp rfl rfl) (.tmp rfl rfl)) ?_
  refine Ca (.bool (decide (((a_a.length : Int) : Int) < (a_b.length : Int)))) rfl rfl ?_
  refine C_nil (CW_ret ?_)
  obtain rfl := Option.some.inj hF
  exact End_ret () (.tmp rfl rfl .nil) rfl (.sel .nil)

/-! spec.l22Less -/
def s_l22Less (a_a : Access) (a_b : Access) : Option (Bool) :=
  if ((a_a.Method : Int) != a_b.Method) then (
    some (decide ((a_a.Method : Int) < a_b.Method)))
  else (
    (s_l4Less a_a.Values a_b.Values).bind fun r3 =>
    some r3)
theorem s_l22Less_ok (a_a : Access) (v0_1 : Sv) (a_b : Access) (v1_1 : Sv) (R : Bool) (hF : s_l22Less a_a a_b = some R) :
    Fw.Spec Tryz.prog 98 [(.agg [(.int .i64 a_a.Method), v0_1.v].toArray), (.agg [(.int .i64 a_b.Method), v1_1.v].toArray)] [crd (RdS 3 rdInt) v0_1.v a_a.Values, crd (RdS 3 rdInt) v1_1.v a_b.Values] (fun _ : Unit => (.bool R)) (fun _ => []) := by
  refine Spec_enter (n := 20) Tryz.func98 rfl rfl (rs := [.tmp 4]) rfl rfl rfl ?_
  intro H0 F0
  unfold s_l22Less at hF
  refine K_region (C_newR rfl (N_box (g := false) (v := (.agg [(.int .i64 a_a.Method), v0_1.v].toArray)) ty105.sz (.tmp rfl rfl) rfl) (fun k1 => ?_))
  refine C_newR rfl (N_box (g := false) (v := (.agg [(.int .i64 a_b.Method), v1_1.v].toArray)) ty105.sz (.tmp rfl rfl) rfl) (fun k2 => ?_)
  refine C_val (V_assign (v := (.bool false)) (.bool _)) ?_
  refine C_nil (K_in (K_region (C_val (V_fieldAddr (off := 0) fd105_0 (.tmp rfl rfl)) ?_)))
  refine C_at (.t .h) (fun hp => V_load (v := (.int .i64 a_a.Method)) ag3 (.tmp rfl rfl) hp.2 rfl rfl) ?_
  refine C_val (V_fieldAddr (off := 0) fd105_0 (.tmp rfl rfl)) ?_
  refine C_at .h (fun hp => V_load (v := (.int .i64 a_b.Method)) ag3 (.tmp rfl rfl) hp.2 rfl rfl) ?_
  refine C_val (V_neq (i := a_a.Method) (j := a_b.Method) (.tmp rfl rfl) (.tmp rfl rfl)) ?_
  refine C_nil (CW_cond (b := ((a_a.Method : Int) != a_b.Method)) (.tmp rfl rfl) (fun hb6 => ?_) (fun hb6 => ?_))
  · rw [if_pos hb6] at hF
    refine K_region (C_val (V_fieldAddr (off := 0) fd105_0 (.tmp rfl rfl)) ?_)
    refine C_at (.t .h) (fun hp => V_load (v := (.int .i64 a_a.Method)) ag3 (.tmp rfl rfl) hp.2 rfl rfl) ?_
    refine C_val (V_fieldAddr (off := 0) fd105_0 (.tmp rfl rfl)) ?_
    refine C_at .h (fun hp => V_load (v := (.int .i64 a_b.Method)) ag3 (.tmp rfl rfl) hp.2 rfl rfl) ?_
    refine C_val (V_lss (i := a_a.Method) (j := a_b.Method) (.tmp rfl rfl) (.tmp rfl rfl)) ?_
    refine Ca (.bool (decide ((a_a.Method : Int) < a_b.Method))) rfl rfl ?_
    refine C_nil (CW_ret ?_)
    obtain rfl := Option.some.inj hF
    exact End_ret () (.tmp rfl rfl .nil) rfl (.sel .nil)
  rw [if_neg (by rw [hb6]; exact Bool.false_ne_true)] at hF
  refine CW_skip (K_region (C_val (V_fieldAddr (off := 1) fd105_1 (.tmp rfl rfl)) ?_))
  refine C_at (.t .h) (fun hp => V_load (v := v0_1.v) ag22 (.tmp rfl rfl) hp.2 rfl rfl) ?_
  refine C_val (V_fieldAddr (off := 1) fd105_1 (.tmp rfl rfl)) ?_
  refine C_at .h (fun hp => V_load (v := v1_1.v) ag22 (.tmp rfl rfl) hp.2 rfl rfl) ?_
  obtain ⟨r3, hx4, hF⟩ := bind_some hF
  refine C_x0 (.rd (.t (.t .h)) rfl (.rd (.t (.t (.t .h))) rfl .nil)) (X_callS cf127 (.cons (.tmp rfl rfl) (.cons (.tmp rfl rfl) .nil)) (s_l4Less_ok a_a.Values v0_1 a_b.Values v1_1 _ hx4)) (fun _ => ?_)
  refine Ca (.bool r3) rfl rfl ?_
  refine C_nil (CW_ret ?_)
  obtain rfl := Option.some.inj hF
  exact End_ret () (.tmp rfl rfl .nil) rfl (.sel .nil)

/-! spec.l5Fits -/
def s_l5Fits_L1 (a_values : List Int) (a_f : Fact) : List Int → Nat → Option (Bool)
  | [], k6 => some true
  | x8 :: rest7, k6 => (ix a_f.Values x8).bind fun x17 =>
    (ix a_values (k6 : Int)).bind fun x23 =>
    if ((x17 : Int) != x23) then (
      some false)
    else (
      s_l5Fits_L1 a_values a_f rest7 (k6 + 1))
def s_l5Fits (a_m : Method) (a_values : List Int) (a_f : Fact) : Option (Bool) :=
  if ((a_f.Rel : Int) != a_m.Rel) then (
    some false)
  else (
    s_l5Fits_L1 a_values a_f a_m.Inputs 0)
theorem s_l5Fits_ok (a_m : Method) (v0_1 : Sv) (a_values : List Int) (v1_0 : Sv) (a_f : Fact) (v2_1 : Sv) (R : Bool) (hF : s_l5Fits a_m a_values a_f = some R) :
    Fw.Spec Tryz.prog 99 [(.agg [(.int .i64 a_m.Rel), v0_1.v, (.int .i64 a_m.Limit), (.int .i64 a_m.Cost), (.int .i64 a_m.Quota)].toArray), v1_0.v, (.agg [(.int .i64 a_f.Rel), v2_1.v].toArray)] [crd (RdS 3 rdInt) v0_1.v a_m.Inputs, crd (RdS 3 rdInt) v1_0.v a_values, crd (RdS 3 rdInt) v2_1.v a_f.Values] (fun _ : Unit => (.bool R)) (fun _ => []) := by
  refine Spec_enter (n := 34) Tryz.func99 rfl rfl (rs := [.tmp 6]) rfl rfl rfl ?_
  intro H0 F0
  unfold s_l5Fits at hF
  refine K_region (C_newR rfl (N_box (g := false) (v := (.agg [(.int .i64 a_m.Rel), v0_1.v, (.int .i64 a_m.Limit), (.int .i64 a_m.Cost), (.int .i64 a_m.Quota)].toArray)) ty108.sz (.tmp rfl rfl) rfl) (fun k1 => ?_))
  refine C_newR rfl (N_box (g := false) (v := (.agg [(.int .i64 a_f.Rel), v2_1.v].toArray)) ty80.sz (.tmp rfl rfl) rfl) (fun k2 => ?_)
  refine C_val (V_assign (v := (.bool false)) (.bool _)) ?_
  refine C_nil (K_in (K_region (C_val (V_fieldAddr (off := 0) fd80_0 (.tmp rfl rfl)) ?_)))
  refine C_at .h (fun hp => V_load (v := (.int .i64 a_f.Rel)) ag3 (.tmp rfl rfl) hp.2 rfl rfl) ?_
  refine C_val (V_fieldAddr (off := 0) fd108_0 (.tmp rfl rfl)) ?_
  refine C_at (.t .h) (fun hp => V_load (v := (.int .i64 a_m.Rel)) ag3 (.tmp rfl rfl) hp.2 rfl rfl) ?_
  refine C_val (V_neq (i := a_f.Rel) (j := a_m.Rel) (.tmp rfl rfl) (.tmp rfl rfl)) ?_
  refine C_nil (CW_cond (b := ((a_f.Rel : Int) != a_m.Rel)) (.tmp rfl rfl) (fun hb31 => ?_) (fun hb31 => ?_))
  · rw [if_pos hb31] at hF
    refine K_region (C_val (V_assign (v := (.bool false)) (.bool _)) ?_)
    refine C_nil (CW_ret ?_)
    obtain rfl := Option.some.inj hF
    exact End_ret () (.tmp rfl rfl .nil) rfl (.sel .nil)
  rw [if_neg (by rw [hb31]; exact Bool.false_ne_true)] at hF
  refine CW_skip (K_in (K_region (C_val (V_assign (v := (.int .i64 0)) (.int _ _)) ?_)))
  refine C_nil (CW_block (CW_loop (m := a_m.Inputs.length) (fun m4 f' cs' => ∃ (g : Fr) (k6 : Nat) (rest7 : List Int), m4 = rest7.length ∧ f' = updL g [(1, v1_0.v), (3, (.pointer (some ⟨k1, 0, some 0⟩))), (5, (.pointer (some ⟨k2, 0, some 0⟩))), (7, (.int .i64 (k6 : Int)))] ∧ List.drop k6 a_m.Inputs = rest7 ∧ Ent cs' [crd (RdS 3 rdInt) v1_0.v a_values, cboR k1 108 (.agg [(.int .i64 a_m.Rel), v0_1.v, (.int .i64 a_m.Limit), (.int .i64 a_m.Cost), (.int .i64 a_m.Quota)].toArray), crd (RdS 3 rdInt) v0_1.v a_m.Inputs, cboR k2 80 (.agg [(.int .i64 a_f.Rel), v2_1.v].toArray), crd (RdS 3 rdInt) v2_1.v a_f.Values] ∧ s_l5Fits_L1 a_values a_f rest7 k6 = some R) ⟨_, 0, _, rfl, (EqL.cons rfl (EqL.cons rfl (EqL.cons rfl (EqL.cons rfl (EqL.nil))))).eq, rfl, (.sel (.rd (.t (.t (.t .h))) rfl (.rd (.t .h) rfl (.rd (.t (.t .h)) rfl (.rd .h rfl (.rd (.t (.t (.t (.t .h)))) rfl .nil)))))), hF⟩ ?_))
  clear hF
  rintro m4 _ _ ⟨g5, k6, rest7, rfl, rfl, hd9, hE, hF⟩
  refine K_ent hE ?_
  clear hE
  refine K_pure (c := crd (RdS 3 rdInt) v0_1.v a_m.Inputs) (.t (.t .h)) crd_bound (fun hbd14 => ?_)
  rcases rest7 with _ | ⟨x8, rest7⟩
  · have hk10 := List.drop_eq_nil_iff.1 hd9
    have hfe13 : (decide (((k6 : Int) : Int) < (a_m.Inputs.length : Int))) = false := decide_eq_false (by omega)
    rw [s_l5Fits_L1] at hF
    refine K_in (K_region (Cm (.int .i64 (k6 : Int)) rfl rfl ?_))
    refine C_val (V_fieldAddr (off := 1) fd108_1 (.tmp rfl rfl)) ?_
    refine C_at (.t .h) (fun hp => V_load (v := v0_1.v) ag22 (.tmp rfl rfl) hp.2 rfl rfl) ?_
    refine C_at (.t (.t .h)) (fun hp => V_lenR (l := a_m.Inputs.length) sl22 (.tmp rfl rfl) (crd_len hp)) ?_
    refine C_val (V_lss (i := (k6 : Int)) (j := (a_m.Inputs.length : Int)) (.tmp rfl rfl) (.tmp rfl rfl)) ?_
    refine C_nil (CW_cond (b := (decide (((k6 : Int) : Int) < (a_m.Inputs.length : Int)))) (.tmp rfl rfl) (fun hb => absurd (hfe13.symm.trans hb) (by decide)) (fun _ => ?_))
    refine CW_exit ?_
    iterate 2 refine CThen_exit ?_
    refine CIn_self (K_region (C_val (V_assign (v := (.bool true)) (.bool _)) ?_))
    refine C_nil (CW_ret ?_)
    obtain rfl := Option.some.inj hF
    exact End_ret () (.tmp rfl rfl .nil) rfl (.sel .nil)
  obtain ⟨hk10, hx11, hd12⟩ := drop_cons hd9
  have hfe13 : (decide (((k6 : Int) : Int) < (a_m.Inputs.length : Int))) = true := decide_eq_true (by omega)
  rw [s_l5Fits_L1] at hF
  refine K_in (K_region (Cm (.int .i64 (k6 : Int)) rfl rfl ?_))
  refine C_val (V_fieldAddr (off := 1) fd108_1 (.tmp rfl rfl)) ?_
  refine C_at (.t .h) (fun hp => V_load (v := v0_1.v) ag22 (.tmp rfl rfl) hp.2 rfl rfl) ?_
  refine C_at (.t (.t .h)) (fun hp => V_lenR (l := a_m.Inputs.length) sl22 (.tmp rfl rfl) (crd_len hp)) ?_
  refine C_val (V_lss (i := (k6 : Int)) (j := (a_m.Inputs.length : Int)) (.tmp rfl rfl) (.tmp rfl rfl)) ?_
  refine C_nil (CW_cond (b := (decide (((k6 : Int) : Int) < (a_m.Inputs.length : Int)))) (.tmp rfl rfl) (fun _ => ?_) (fun hb => absurd (hfe13.symm.trans hb) (by decide)))
  refine CW_skip (K_block (K_draw [0, 1, 2, 3, 4, 5, 6, 7, 8, 9, 10, 11, 12, 13] [0, 1, 0, 4, 0, 28, 60, 127, 255, 0, 0, 1536, 3584, 8191] [] mixed (by decide +kernel) ?_))
  refine D_val rfl .no (fun ha => V_fieldAddr (off := 1) fd80_1 (EN ha (.tmp rfl rfl) rfl)) ?_
  refine D_at rfl .no (.t (.t (.t .h))) rfl (fun ha hp => V_load (v := v2_1.v) ag22 (EN ha (.tmp rfl rfl) rfl) hp.2 rfl rfl) ?_
  refine D_val rfl .no (fun ha => V_fieldAddr (off := 1) fd108_1 (EN ha (.tmp rfl rfl) rfl)) ?_
  refine D_at rfl .no (.t .h) rfl (fun ha hp => V_load (v := v0_1.v) ag22 (EN ha (.tmp rfl rfl) rfl) hp.2 rfl rfl) ?_
  refine Dm (.int .i64 (k6 : Int)) rfl rfl rfl rfl ?_
  refine D_idx (a := x8) sl22 ty3.sz rfl .no (.tmp rfl rfl) (.tmp rfl rfl) rfl rfl (.t (.t .h)) (Int.natCast_nonneg k6) hx11 (fun k15 j16 => ?_)
  refine D_ldS (w := (.int .i64 x8)) ag3 rfl .no (.tmp rfl rfl) rfl .h ls3_0 ?_
  obtain ⟨x17, hx18, hF⟩ := bind_some hF
  obtain ⟨hp19, hx20⟩ := ix_some hx18
  refine D_idx (a := x17) sl22 ty3.sz rfl .no (.tmp rfl rfl) (.tmp rfl rfl) rfl rfl (.t (.t (.t (.t (.t .h))))) hp19 hx20 (fun k21 j22 => ?_)
  refine D_ldS (w := (.int .i64 x17)) ag3 rfl .no (.tmp rfl rfl) rfl .h ls3_0 ?_
  refine Dm v1_0.v rfl rfl rfl rfl ?_
  refine Dm (.int .i64 (k6 : Int)) rfl rfl rfl rfl ?_
  obtain ⟨x23, hx24, hF⟩ := bind_some hF
  obtain ⟨hp25, hx26⟩ := ix_some hx24
  refine D_idx (a := x23) sl22 ty3.sz rfl .no (.tmp rfl rfl) (.tmp rfl rfl) rfl rfl (.t (.t .h)) hp25 hx26 (fun k27 j28 => ?_)
  refine D_ldS (w := (.int .i64 x23)) ag3 rfl .no (.tmp rfl rfl) rfl .h ls3_0 ?_
  refine D_val rfl .no (fun ha => V_neq (i := x17) (j := x23) (EN ha (.tmp rfl rfl) rfl) (EN ha (.tmp rfl rfl) rfl)) ?_
  refine D_nil (CW_cond (b := ((x17 : Int) != x23)) (.tmp rfl rfl) (fun hb30 => ?_) (fun hb30 => ?_))
  · rw [if_pos hb30] at hF
    refine K_region (C_val (V_assign (v := (.bool false)) (.bool _)) ?_)
    refine C_nil (CW_ret ?_)
    obtain rfl := Option.some.inj hF
    exact End_ret () (.tmp rfl rfl .nil) rfl (.sel .nil)
  rw [if_neg (by rw [hb30]; exact Bool.false_ne_true)] at hF
  refine CW_skip (CW_region (Cm (.int .i64 (k6 : Int)) rfl rfl ?_))
  refine C_val (V_add (i := (k6 : Int)) (j := 1) (.tmp rfl rfl) (.int _ _)) ?_
  refine Ca (.int .i64 (IntKind.i64.wrap ((k6 : Int) + 1))) rfl rfl ?_
  refine C_nil ?_
  have hw29 : IntKind.i64.wrap ((k6 : Int) + 1) = ((k6 + 1 : Nat) : Int) := by rw [wrap_in (by omega) (by omega)]; rfl
  rw [hw29]
  exact ⟨_, Nat.lt_succ_self _, _, k6 + 1, rest7, rfl, (EqL.cons rfl (EqL.cons rfl (EqL.cons rfl (EqL.cons rfl (EqL.nil))))).eq, hd12, (.sel (.rd (.t (.t (.t .h))) rfl (.rd (.t (.t (.t (.t .h)))) rfl (.rd (.t (.t (.t (.t (.t .h))))) rfl (.rd (.t (.t (.t (.t (.t (.t .h)))))) rfl (.rd (.t (.t (.t (.t (.t (.t (.t .h))))))) rfl .nil)))))), hF⟩

/-! spec.IsCache -/
def s_IsCache_L2 (a_l : List Method) (x18 : Stored) : List Fact → Nat → Option (Sum (Bool) (Unit))
  | [], k60 => some (.inr ())
  | x62 :: rest61, k60 => (ix a_l x18.Access.Method).bind fun x69 =>
    (s_l5Fits x69 x18.Access.Values x62).bind fun r79 =>
    if (!r79) then (
      some (.inl false))
    else (
      s_IsCache_L2 a_l x18 rest61 (k60 + 1))
def s_IsCache_L1 (a_s : List Int) (a_l : List Method) (a_c : Cache) : List Stored → Nat → Option (Bool)
  | [], k16 => some true
  | x18 :: rest17, k16 => ((((s_IsAccess a_s a_l x18.Access).bind fun r33 =>
        bif (!r33) then (some true)
        else ((s_AreFacts a_s x18.Facts).bind fun r37 =>
          bif (!r37) then (some true)
          else ((s_l1In x18.At 0 10000).bind fun r41 =>
            bif (!r41) then (some true)
            else (bif (decide ((0 : Int) < (k16 : Int))) then ((ix a_c.Entries (IntKind.i64.wrap ((k16 : Int) - 1))).bind fun x46 =>
                (s_l22Less x46.Access x18.Access).bind fun r53 =>
                some (!r53))
              else (some false))))).bind fun o31 =>
      match o31 with
      | c56 => if c56 then (
          some (.inl false))
        else (
          s_IsCache_L2 a_l x18 x18.Facts 0)) : Option (Sum (Bool) (Unit))).bind fun o25 =>
    match o25 with
    | .inl r => some r
    | .inr _ => s_IsCache_L1 a_s a_l a_c rest17 (k16 + 1)
def s_IsCache (a_s : List Int) (a_l : List Method) (a_c : Cache) : Option (Bool) :=
  ((s_AreMethods a_s a_l).bind fun r4 =>
    bif (!r4) then (some true)
    else ((s_l1In a_c.Age 0 100).bind fun r8 =>
      bif (!r8) then (some true)
      else (some (decide ((100 : Int) < (a_c.Entries.length : Int)))))).bind fun o2 =>
  match o2 with
  | c12 => if c12 then (
      some false)
    else (
      s_IsCache_L1 a_s a_l a_c a_c.Entries 0)
theorem s_IsCache_ok (a_s : List Int) (v0_0 : Sv) (a_l : List Method) (v1_0 : Sv) (a_c : Cache) (v2_0 : Sv) (R : Bool) (hF : s_IsCache a_s a_l a_c = some R) :
    Fw.Spec Tryz.prog 57 [v0_0.v, v1_0.v, (.agg [v2_0.v, (.int .i64 a_c.Age)].toArray)] [crd (RdS 3 rdInt) v0_0.v a_s, crd (RdS 108 rd108) v1_0.v a_l, crd (RdS 147 rd147) v2_0.v a_c.Entries] (fun _ : Unit => (.bool R)) (fun _ => []) := by
  refine Spec_enter (n := 97) Tryz.func57 rfl rfl (rs := [.tmp 6]) rfl rfl rfl ?_
  intro H0 F0
  unfold s_IsCache at hF
  refine K_region (C_newR rfl (N_box (g := false) (v := (.agg [v2_0.v, (.int .i64 a_c.Age)].toArray)) ty44.sz (.tmp rfl rfl) rfl) (fun k1 => ?_))
  refine C_val (V_assign (v := (.bool false)) (.bool _)) ?_
  refine C_nil (K_in ?_)
  obtain ⟨o2, hio2, hO3⟩ := bind_some hF
  refine K_region (C_cut (fun f' cs' => ∃ (c12 : Bool) (g : Fr), c12 = o2 ∧ f' = updL g [(0, v0_0.v), (1, v1_0.v), (5, (.pointer (some ⟨k1, 0, some 0⟩))), (25, (.bool c12))] ∧ Ent cs' [crd (RdS 3 rdInt) v0_0.v a_s, crd (RdS 108 rd108) v1_0.v a_l, cboR k1 44 (.agg [v2_0.v, (.int .i64 a_c.Age)].toArray), crd (RdS 147 rd147) v2_0.v a_c.Entries]) ?_ ?_)
  · replace hF := hio2
    refine Cm v0_0.v rfl rfl ?_
    refine Cm v1_0.v rfl rfl ?_
    obtain ⟨r4, hx5, hF⟩ := bind_some hF
    refine C_x0 (.rd (.t .h) rfl (.rd (.t (.t .h)) rfl .nil)) (X_callS cf54 (.cons (.tmp rfl rfl) (.cons (.tmp rfl rfl) .nil)) (s_AreMethods_ok a_s v0_0 a_l v1_0 _ hx5)) (fun _ => ?_)
    refine C_val (V_not (b := r4) (.tmp rfl rfl)) ?_
    refine Cm (.bool (!r4)) rfl rfl ?_
    rcases Bool.eq_false_or_eq_true (!r4) with hg7 | hg7
    · rw [hg7]
      try rw [hg7] at hF; dsimp only [cond_true, cond_false] at hF
      iterate 4 refine C_off (t := 14) rfl rfl rfl ?_
      refine C_val (V_pick (b := true) (u := (.bool true)) (v := undef) (.tmp rfl rfl) (.bool _) (.tmp rfl rfl)) ?_
      refine Cm (.bool true) rfl rfl ?_
      iterate 4 refine C_off (t := 20) rfl rfl rfl ?_
      refine C_val (V_pick (b := true) (u := (.bool true)) (v := undef) (.tmp rfl rfl) (.bool _) (.tmp rfl rfl)) ?_
      refine C_nil ?_
      obtain rfl := Option.some.inj hF
      exact ⟨_, _, rfl, (EqL.cons rfl (EqL.cons rfl (EqL.cons rfl (EqL.cons rfl (EqL.nil))))).eq, (.sel (.rd (.t .h) rfl (.rd (.t (.t .h)) rfl (.rd .h rfl (.rd (.t (.t (.t .h))) rfl .nil)))))⟩
    rw [hg7]
    try rw [hg7] at hF; dsimp only [cond_true, cond_false] at hF
    refine C_on (t := 14) rfl rfl rfl ?_
    refine C_val (V_fieldAddr (off := 1) fd44_1 (.tmp rfl rfl)) ?_
    refine C_on (t := 14) rfl rfl rfl ?_
    refine C_at .h (fun hp => V_load (v := (.int .i64 a_c.Age)) ag3 (.tmp rfl rfl) hp.2 rfl rfl) ?_
    refine C_on (t := 14) rfl rfl rfl ?_
    obtain ⟨r8, hx9, hF⟩ := bind_some hF
    refine C_x0 .nil (X_callS cf59 (.cons (.tmp rfl rfl) (.cons (.int _ _) (.cons (.int _ _) .nil))) (s_l1In_ok a_c.Age 0 100 _ hx9)) (fun _ => ?_)
    refine C_on (t := 14) rfl rfl rfl ?_
    refine C_val (V_not (b := r8) (.tmp rfl rfl)) ?_
    refine C_val (V_pick (b := false) (u := (.bool true)) (v := (.bool (!r8))) (.tmp rfl rfl) (.bool _) (.tmp rfl rfl)) ?_
    refine Cm (.bool (!r8)) rfl rfl ?_
    rcases Bool.eq_false_or_eq_true (!r8) with hg11 | hg11
    · rw [hg11]
      try rw [hg11] at hF; dsimp only [cond_true, cond_false] at hF
      iterate 4 refine C_off (t := 20) rfl rfl rfl ?_
      refine C_val (V_pick (b := true) (u := (.bool true)) (v := undef) (.tmp rfl rfl) (.bool _) (.tmp rfl rfl)) ?_
      refine C_nil ?_
      obtain rfl := Option.some.inj hF
      exact ⟨_, _, rfl, (EqL.cons rfl (EqL.cons rfl (EqL.cons rfl (EqL.cons rfl (EqL.nil))))).eq, (.sel (.rd (.t .h) rfl (.rd (.t (.t .h)) rfl (.rd .h rfl (.rd (.t (.t (.t .h))) rfl .nil)))))⟩
    rw [hg11]
    try rw [hg11] at hF; dsimp only [cond_true, cond_false] at hF
    refine C_on (t := 20) rfl rfl rfl ?_
    refine C_val (V_fieldAddr (off := 0) fd44_0 (.tmp rfl rfl)) ?_
    refine C_on (t := 20) rfl rfl rfl ?_
    refine C_at .h (fun hp => V_load (v := v2_0.v) ag42 (.tmp rfl rfl) hp.2 rfl rfl) ?_
    refine C_on (t := 20) rfl rfl rfl ?_
    refine C_at (.t (.t (.t .h))) (fun hp => V_lenR (l := a_c.Entries.length) sl42 (.tmp rfl rfl) (crd_len hp)) ?_
    refine C_on (t := 20) rfl rfl rfl ?_
    refine C_val (V_gtr (i := (a_c.Entries.length : Int)) (j := 100) (.tmp rfl rfl) (.int _ _)) ?_
    refine C_val (V_pick (b := false) (u := (.bool true)) (v := (.bool (decide ((100 : Int) < (a_c.Entries.length : Int))))) (.tmp rfl rfl) (.bool _) (.tmp rfl rfl)) ?_
    refine C_nil ?_
    obtain rfl := Option.some.inj hF
    exact ⟨_, _, rfl, (EqL.cons rfl (EqL.cons rfl (EqL.cons rfl (EqL.cons rfl (EqL.nil))))).eq, (.sel (.rd (.t .h) rfl (.rd (.t (.t .h)) rfl (.rd .h rfl (.rd (.t (.t (.t .h))) rfl .nil)))))⟩
  rintro _ _ ⟨c12, g89, rfl, rfl, hE⟩
  replace hF := hO3
  clear hO3
  try dsimp only at hF
  refine K_ent hE ?_
  refine CW_cond (b := c12) (.tmp rfl rfl) (fun hb88 => ?_) (fun hb88 => ?_)
  · rw [if_pos hb88] at hF
    refine K_region (C_val (V_assign (v := (.bool false)) (.bool _)) ?_)
    refine C_nil (CW_ret ?_)
    obtain rfl := Option.some.inj hF
    exact End_ret () (.tmp rfl rfl .nil) rfl (.sel .nil)
  rw [if_neg (by rw [hb88]; exact Bool.false_ne_true)] at hF
  refine CW_skip (K_in (K_region (C_val (V_assign (v := (.int .i64 0)) (.int _ _)) ?_)))
  refine C_nil (CW_block (CW_loop (m := a_c.Entries.length) (fun m14 f' cs' => ∃ (g : Fr) (k16 : Nat) (rest17 : List Stored), m14 = rest17.length ∧ f' = updL g [(0, v0_0.v), (1, v1_0.v), (5, (.pointer (some ⟨k1, 0, some 0⟩))), (7, (.int .i64 (k16 : Int)))] ∧ List.drop k16 a_c.Entries = rest17 ∧ Ent cs' [crd (RdS 3 rdInt) v0_0.v a_s, crd (RdS 108 rd108) v1_0.v a_l, cboR k1 44 (.agg [v2_0.v, (.int .i64 a_c.Age)].toArray), crd (RdS 147 rd147) v2_0.v a_c.Entries] ∧ s_IsCache_L1 a_s a_l a_c rest17 k16 = some R) ⟨_, 0, _, rfl, (EqL.cons rfl (EqL.cons rfl (EqL.cons rfl (EqL.cons rfl (EqL.nil))))).eq, rfl, (.sel (.rd .h rfl (.rd (.t .h) rfl (.rd (.t (.t .h)) rfl (.rd (.t (.t (.t .h))) rfl .nil))))), hF⟩ ?_))
  clear hF
  rintro m14 _ _ ⟨g15, k16, rest17, rfl, rfl, hd19, hE, hF⟩
  refine K_ent hE ?_
  clear hE
  refine K_pure (c := crd (RdS 147 rd147) v2_0.v a_c.Entries) (.t (.t (.t .h))) crd_bound (fun hbd24 => ?_)
  rcases rest17 with _ | ⟨x18, rest17⟩
  · have hk20 := List.drop_eq_nil_iff.1 hd19
    have hfe23 : (decide (((k16 : Int) : Int) < (a_c.Entries.length : Int))) = false := decide_eq_false (by omega)
    rw [s_IsCache_L1] at hF
    refine K_in (K_region (Cm (.int .i64 (k16 : Int)) rfl rfl ?_))
    refine C_val (V_fieldAddr (off := 0) fd44_0 (.tmp rfl rfl)) ?_
    refine C_at (.t (.t .h)) (fun hp => V_load (v := v2_0.v) ag42 (.tmp rfl rfl) hp.2 rfl rfl) ?_
    refine C_at (.t (.t (.t .h))) (fun hp => V_lenR (l := a_c.Entries.length) sl42 (.tmp rfl rfl) (crd_len hp)) ?_
    refine C_val (V_lss (i := (k16 : Int)) (j := (a_c.Entries.length : Int)) (.tmp rfl rfl) (.tmp rfl rfl)) ?_
    refine C_nil (CW_cond (b := (decide (((k16 : Int) : Int) < (a_c.Entries.length : Int)))) (.tmp rfl rfl) (fun hb => absurd (hfe23.symm.trans hb) (by decide)) (fun _ => ?_))
    refine CW_exit ?_
    iterate 2 refine CThen_exit ?_
    refine CIn_self (K_region (C_val (V_assign (v := (.bool true)) (.bool _)) ?_))
    refine C_nil (CW_ret ?_)
    obtain rfl := Option.some.inj hF
    exact End_ret () (.tmp rfl rfl .nil) rfl (.sel .nil)
  obtain ⟨hk20, hx21, hd22⟩ := drop_cons hd19
  have hfe23 : (decide (((k16 : Int) : Int) < (a_c.Entries.length : Int))) = true := decide_eq_true (by omega)
  rw [s_IsCache_L1] at hF
  refine K_in (K_region (Cm (.int .i64 (k16 : Int)) rfl rfl ?_))
  refine C_val (V_fieldAddr (off := 0) fd44_0 (.tmp rfl rfl)) ?_
  refine C_at (.t (.t .h)) (fun hp => V_load (v := v2_0.v) ag42 (.tmp rfl rfl) hp.2 rfl rfl) ?_
  refine C_at (.t (.t (.t .h))) (fun hp => V_lenR (l := a_c.Entries.length) sl42 (.tmp rfl rfl) (crd_len hp)) ?_
  refine C_val (V_lss (i := (k16 : Int)) (j := (a_c.Entries.length : Int)) (.tmp rfl rfl) (.tmp rfl rfl)) ?_
  refine C_nil (CW_cond (b := (decide (((k16 : Int) : Int) < (a_c.Entries.length : Int)))) (.tmp rfl rfl) (fun _ => ?_) (fun hb => absurd (hfe23.symm.trans hb) (by decide)))
  refine CW_skip ?_
  obtain ⟨o25, hio25, hO26⟩ := bind_some hF
  refine K_cut (fun f' cs' => ∃ (g : Fr), o25 = .inr () ∧ f' = updL g [(0, v0_0.v), (1, v1_0.v), (5, (.pointer (some ⟨k1, 0, some 0⟩))), (7, (.int .i64 (k16 : Int)))] ∧ Ent cs' [crd (RdS 3 rdInt) v0_0.v a_s, crd (RdS 108 rd108) v1_0.v a_l, cboR k1 44 (.agg [v2_0.v, (.int .i64 a_c.Age)].toArray), crd (RdS 147 rd147) v2_0.v a_c.Entries]) ?_ ?_
  · replace hF := hio25
    refine CW_block (K_region (C_val (V_fieldAddr (off := 0) fd44_0 (.tmp rfl rfl)) ?_))
    refine C_at (.t (.t .h)) (fun hp => V_load (v := v2_0.v) ag42 (.tmp rfl rfl) hp.2 rfl rfl) ?_
    refine Cm (.int .i64 (k16 : Int)) rfl rfl ?_
    refine C_idx (a := x18) sl42 ty147.sz (.tmp rfl rfl) (.tmp rfl rfl) (.t (.t (.t .h))) (Int.natCast_nonneg k16) hx21 (fun k27 j28 => ?_)
    refine C_ldA2 (ul147_0_147 x18) ag147 ty147.sz rfl (.tmp rfl rfl) .h la147_0_147 (fun p29 => ?_)
    refine C_new rfl (N_allocT (g := true) ty147 rfl rfl) (fun k30 => ?_)
    refine C_x1 (.cons .h .nil) (X_storeB (e' := (.agg [(.int .i64 x18.Access.Method), p29.1.v, p29.2.v, (.int .i64 x18.At)].toArray)) (v := (.agg [(.int .i64 x18.Access.Method), p29.1.v, p29.2.v, (.int .i64 x18.At)].toArray)) ty147.sz (.tmp rfl rfl) (.tmp rfl rfl) rfl rfl rfl rfl rfl) (fun _ => ?_)
    refine C_nil (K_in ?_)
    obtain ⟨o31, hio31, hO32⟩ := bind_some hF
    refine K_draw [0, 1, 2, 3, 4, 5, 6, 7, 8, 9, 10, 11, 12, 13, 14, 15, 16, 17, 18, 19, 20, 21, 22, 23, 24, 25, 26, 27, 28, 29, 30, 31, 32, 33, 34, 35] [0, 0, 0, 4, 15, 31, 63, 127, 127, 383, 1023, 2047, 4095, 8191, 16383, 32767, 65535, 131071, 262143, 524287, 1048575, 2097151, 4194303, 8388607, 16777215, 8388607, 41943039, 134217727, 268435455, 536870911, 8388607, 1082130431, 4294967295, 8589934591, 17179869183, 34359738367] [4, 10, 16, 32] mixed (by decide +kernel) ?_
    refine D_cut (fun f' cs' => ∃ (c56 : Bool) (g : Fr), c56 = o31 ∧ f' = updL g [(0, v0_0.v), (1, v1_0.v), (5, (.pointer (some ⟨k1, 0, some 0⟩))), (7, (.int .i64 (k16 : Int))), (8, (.pointer (some ⟨k30, 0, some 0⟩))), (73, (.bool c56))] ∧ Ent cs' [crd (RdS 3 rdInt) v0_0.v a_s, crd (RdS 108 rd108) v1_0.v a_l, cboR k1 44 (.agg [v2_0.v, (.int .i64 a_c.Age)].toArray), crd (RdS 147 rd147) v2_0.v a_c.Entries, cbox k30 147 (.agg [(.int .i64 x18.Access.Method), p29.1.v, p29.2.v, (.int .i64 x18.At)].toArray), crd (RdS 3 rdInt) p29.1.v x18.Access.Values, crd (RdS 80 rd80) p29.2.v x18.Facts]) ?_ ?_
    · replace hF := hio31
      refine Dm v0_0.v rfl rfl rfl rfl ?_
      refine Dm v1_0.v rfl rfl rfl rfl ?_
      refine D_val rfl .no (fun ha => V_fieldAddr (off := 0) fd147_0 (EN ha (.tmp rfl rfl) rfl)) ?_
      refine D_atO rfl .no .h (fun ha hp => V_loadA (s := 2) (l := [(.int .i64 x18.Access.Method), p29.1.v]) ag105 ty105.sz (EN ha (.tmp rfl rfl) rfl) hp.2 rfl (by decide) (Nat.le_of_ble_eq_true rfl) rfl) ?_
      obtain ⟨r33, hx34, hF⟩ := bind_some hF
      refine D_act0 rfl rfl .no (.rd (.t (.t (.t (.t .h)))) rfl (.rd (.t (.t (.t (.t (.t .h))))) rfl (.rd (.t .h) rfl .nil))) (.dep rfl .nil) (fun ha => X_callS cf58 (.cons (EN ha (.tmp rfl rfl) rfl) (.cons (EN ha (.tmp rfl rfl) rfl) (.cons (EN ha (.tmp rfl rfl) rfl) .nil))) (s_IsAccess_ok a_s v0_0 a_l v1_0 x18.Access p29.1 _ hx34)) (fun _ => ?_)
      refine D_val rfl .no (fun ha => V_not (b := r33) (EN ha (.tmp rfl rfl) rfl)) ?_
      refine Dm (.bool (!r33)) rfl rfl rfl rfl ?_
      rcases Bool.eq_false_or_eq_true (!r33) with hg36 | hg36
      · rw [hg36]
        try rw [hg36] at hF; dsimp only [cond_true, cond_false] at hF
        iterate 5 refine D_off 44 rfl rfl rfl rfl ?_
        refine D_val rfl .no (fun ha => V_pick (b := true) (u := (.bool true)) (v := undef) (EN ha (.tmp rfl rfl) rfl) (EN ha (.bool _) rfl) (EN ha (.tmp rfl rfl) rfl)) ?_
        refine Dm (.bool true) rfl rfl rfl rfl ?_
        iterate 4 refine D_off 51 rfl rfl rfl rfl ?_
        refine D_val rfl .no (fun ha => V_pick (b := true) (u := (.bool true)) (v := undef) (EN ha (.tmp rfl rfl) rfl) (EN ha (.bool _) rfl) (EN ha (.tmp rfl rfl) rfl)) ?_
        refine Dm (.bool true) rfl rfl rfl rfl ?_
        iterate 3 refine D_off 57 rfl rfl rfl rfl ?_
        iterate 11 refine D_offU 60 rfl rfl rfl rfl ?_
        refine D_off 57 rfl rfl rfl rfl ?_
        refine D_val rfl .no (fun ha => V_pick (b := true) (u := (.bool true)) (v := undef) (EN ha (.tmp rfl rfl) rfl) (EN ha (.bool _) rfl) (EN ha (.tmp rfl rfl) rfl)) ?_
        refine D_nil ?_
        obtain rfl := Option.some.inj hF
        exact ⟨_, _, rfl, (EqL.cons rfl (EqL.cons rfl (EqL.cons rfl (EqL.cons rfl (EqL.cons rfl (EqL.cons rfl (EqL.nil))))))).eq, (.sel (.rd (.t (.t (.t (.t .h)))) rfl (.rd (.t (.t (.t (.t (.t .h))))) rfl (.rd (.t (.t (.t (.t (.t (.t .h)))))) rfl (.rd (.t (.t (.t (.t (.t (.t (.t .h))))))) rfl (.cons .h (.rd .h rfl (.rd (.t .h) rfl .nil))))))))⟩
      rw [hg36]
      try rw [hg36] at hF; dsimp only [cond_true, cond_false] at hF
      refine D_val rfl (.on 44 rfl rfl rfl) (fun ha => V_move (v := v0_0.v) (EN ha (.tmp rfl rfl) rfl)) ?_
      refine D_val rfl (.on 44 rfl rfl rfl) (fun ha => V_fieldAddr (off := 2) fd147_1 (EN ha (.tmp rfl rfl) rfl)) ?_
      refine D_atO rfl (.on 44 rfl rfl rfl) .h (fun ha hp => V_load (v := p29.2.v) ag39 (EN ha (.tmp rfl rfl) rfl) hp.2 rfl rfl) ?_
      obtain ⟨r37, hx38, hF⟩ := bind_some hF
      refine D_act0 rfl rfl (.on 44 rfl rfl rfl) (.rd (.t (.t (.t (.t .h)))) rfl (.rd (.t (.t .h)) rfl .nil)) (.dep rfl (.dep rfl .nil)) (fun ha => X_callS cf97 (.cons (EN ha (.tmp rfl rfl) rfl) (.cons (EN ha (.tmp rfl rfl) rfl) .nil)) (s_AreFacts_ok a_s v0_0 x18.Facts p29.2 _ hx38)) (fun _ => ?_)
      refine D_val rfl (.on 44 rfl rfl rfl) (fun ha => V_not (b := r37) (EN ha (.tmp rfl rfl) rfl)) ?_
      refine D_val rfl .no (fun ha => V_pick (b := false) (u := (.bool true)) (v := (.bool (!r37))) (EN ha (.tmp rfl rfl) rfl) (EN ha (.bool _) rfl) (EN ha (.tmp rfl rfl) rfl)) ?_
      refine Dm (.bool (!r37)) rfl rfl rfl rfl ?_
      rcases Bool.eq_false_or_eq_true (!r37) with hg40 | hg40
      · rw [hg40]
        try rw [hg40] at hF; dsimp only [cond_true, cond_false] at hF
        iterate 4 refine D_off 51 rfl rfl rfl rfl ?_
        refine D_val rfl .no (fun ha => V_pick (b := true) (u := (.bool true)) (v := undef) (EN ha (.tmp rfl rfl) rfl) (EN ha (.bool _) rfl) (EN ha (.tmp rfl rfl) rfl)) ?_
        refine Dm (.bool true) rfl rfl rfl rfl ?_
        iterate 3 refine D_off 57 rfl rfl rfl rfl ?_
        iterate 11 refine D_offU 60 rfl rfl rfl rfl ?_
        refine D_off 57 rfl rfl rfl rfl ?_
        refine D_val rfl .no (fun ha => V_pick (b := true) (u := (.bool true)) (v := undef) (EN ha (.tmp rfl rfl) rfl) (EN ha (.bool _) rfl) (EN ha (.tmp rfl rfl) rfl)) ?_
        refine D_nil ?_
        obtain rfl := Option.some.inj hF
        exact ⟨_, _, rfl, (EqL.cons rfl (EqL.cons rfl (EqL.cons rfl (EqL.cons rfl (EqL.cons rfl (EqL.cons rfl (EqL.nil))))))).eq, (.sel (.rd (.t (.t (.t (.t .h)))) rfl (.rd (.t (.t (.t (.t (.t .h))))) rfl (.rd (.t (.t (.t (.t (.t (.t .h)))))) rfl (.rd (.t (.t (.t (.t (.t (.t (.t .h))))))) rfl (.cons .h (.rd .h rfl (.rd (.t .h) rfl .nil))))))))⟩
      rw [hg40]
      try rw [hg40] at hF; dsimp only [cond_true, cond_false] at hF
      refine D_val rfl (.on 51 rfl rfl rfl) (fun ha => V_fieldAddr (off := 3) fd147_2 (EN ha (.tmp rfl rfl) rfl)) ?_
      refine D_atO rfl (.on 51 rfl rfl rfl) .h (fun ha hp => V_load (v := (.int .i64 x18.At)) ag3 (EN ha (.tmp rfl rfl) rfl) hp.2 rfl rfl) ?_
      obtain ⟨r41, hx42, hF⟩ := bind_some hF
      refine D_act0 rfl rfl (.on 51 rfl rfl rfl) .nil (.dep rfl (.dep rfl (.dep rfl .nil))) (fun ha => X_callS cf59 (.cons (EN ha (.tmp rfl rfl) rfl) (.cons (EN ha (.int _ _) rfl) (.cons (EN ha (.int _ _) rfl) .nil))) (s_l1In_ok x18.At 0 10000 _ hx42)) (fun _ => ?_)
      refine D_val rfl (.on 51 rfl rfl rfl) (fun ha => V_not (b := r41) (EN ha (.tmp rfl rfl) rfl)) ?_
      refine D_val rfl .no (fun ha => V_pick (b := false) (u := (.bool true)) (v := (.bool (!r41))) (EN ha (.tmp rfl rfl) rfl) (EN ha (.bool _) rfl) (EN ha (.tmp rfl rfl) rfl)) ?_
      refine Dm (.bool (!r41)) rfl rfl rfl rfl ?_
      rcases Bool.eq_false_or_eq_true (!r41) with hg44 | hg44
      · rw [hg44]
        try rw [hg44] at hF; dsimp only [cond_true, cond_false] at hF
        iterate 3 refine D_off 57 rfl rfl rfl rfl ?_
        iterate 11 refine D_offU 60 rfl rfl rfl rfl ?_
        refine D_off 57 rfl rfl rfl rfl ?_
        refine D_val rfl .no (fun ha => V_pick (b := true) (u := (.bool true)) (v := undef) (EN ha (.tmp rfl rfl) rfl) (EN ha (.bool _) rfl) (EN ha (.tmp rfl rfl) rfl)) ?_
        refine D_nil ?_
        obtain rfl := Option.some.inj hF
        exact ⟨_, _, rfl, (EqL.cons rfl (EqL.cons rfl (EqL.cons rfl (EqL.cons rfl (EqL.cons rfl (EqL.cons rfl (EqL.nil))))))).eq, (.sel (.rd (.t (.t (.t (.t .h)))) rfl (.rd (.t (.t (.t (.t (.t .h))))) rfl (.rd (.t (.t (.t (.t (.t (.t .h)))))) rfl (.rd (.t (.t (.t (.t (.t (.t (.t .h))))))) rfl (.cons .h (.rd .h rfl (.rd (.t .h) rfl .nil))))))))⟩
      rw [hg44]
      try rw [hg44] at hF; dsimp only [cond_true, cond_false] at hF
      refine D_val rfl (.on 57 rfl rfl rfl) (fun ha => V_move (v := (.int .i64 (k16 : Int))) (EN ha (.tmp rfl rfl) rfl)) ?_
      refine D_val rfl (.on 57 rfl rfl rfl) (fun ha => V_gtr (i := (k16 : Int)) (j := 0) (EN ha (.tmp rfl rfl) rfl) (EN ha (.int _ _) rfl)) ?_
      refine D_val rfl (.on 57 rfl rfl rfl) (fun ha => V_move (v := (.bool (decide ((0 : Int) < (k16 : Int))))) (EN ha (.tmp rfl rfl) rfl)) ?_
      rcases Bool.eq_false_or_eq_true (decide ((0 : Int) < (k16 : Int))) with hg45 | hg45
      · rw [hg45]
        try rw [hg45] at hF; dsimp only [cond_true, cond_false] at hF
        refine D_val rfl (.on 60 rfl rfl rfl) (fun ha => V_fieldAddr (off := 0) fd44_0 (EN ha (.tmp rfl rfl) rfl)) ?_
        refine D_at rfl (.on 60 rfl rfl rfl) (.t (.t (.t (.t (.t (.t .h)))))) rfl (fun ha hp => V_load (v := v2_0.v) ag42 (EN ha (.tmp rfl rfl) rfl) hp.2 rfl rfl) ?_
        refine D_val rfl (.on 60 rfl rfl rfl) (fun ha => V_move (v := (.int .i64 (k16 : Int))) (EN ha (.tmp rfl rfl) rfl)) ?_
        refine D_val rfl (.on 60 rfl rfl rfl) (fun ha => V_sub (i := (k16 : Int)) (j := 1) (EN ha (.tmp rfl rfl) rfl) (EN ha (.int _ _) rfl)) ?_
        obtain ⟨x46, hx47, hF⟩ := bind_some hF
        obtain ⟨hp48, hx49⟩ := ix_some hx47
        refine D_idx (a := x46) sl42 ty147.sz rfl (.on 60 rfl rfl rfl) (.tmp rfl rfl) (.tmp rfl rfl) rfl rfl (.t (.t (.t (.t (.t (.t (.t .h))))))) hp48 hx49 (fun k50 j51 => ?_)
        refine D_val rfl (.on 60 rfl rfl rfl) (fun ha => V_fieldAddr (off := 0) fd147_0 (EN ha (.tmp rfl rfl) rfl)) ?_
        refine D_ldA1 (ul147_0_105 x46) ag105 ty105.sz rfl rfl (.on 60 rfl rfl rfl) (.tmp rfl rfl) rfl .h la147_0_105 (fun p52 => ?_)
        refine D_val rfl (.on 60 rfl rfl rfl) (fun ha => V_fieldAddr (off := 0) fd147_0 (EN ha (.tmp rfl rfl) rfl)) ?_
        refine D_atO rfl (.on 60 rfl rfl rfl) (.t (.t .h)) (fun ha hp => V_loadA (s := 2) (l := [(.int .i64 x18.Access.Method), p29.1.v]) ag105 ty105.sz (EN ha (.tmp rfl rfl) rfl) hp.2 rfl (by decide) (Nat.le_of_ble_eq_true rfl) rfl) ?_
        obtain ⟨r53, hx54, hF⟩ := bind_some hF
        refine D_act0 rfl rfl (.on 60 rfl rfl rfl) (.rd .h rfl (.rd (.t (.t (.t .h))) rfl .nil)) (.dep rfl (.dep rfl (.dep rfl (.dep rfl .nil)))) (fun ha => X_callS cf98 (.cons (EN ha (.tmp rfl rfl) rfl) (.cons (EN ha (.tmp rfl rfl) rfl) .nil)) (s_l22Less_ok x46.Access p52 x18.Access p29.1 _ hx54)) (fun _ => ?_)
        refine D_val rfl (.on 60 rfl rfl rfl) (fun ha => V_not (b := r53) (EN ha (.tmp rfl rfl) rfl)) ?_
        refine D_val rfl (.on 57 rfl rfl rfl) (fun ha => V_pick (b := true) (u := (.bool (!r53))) (v := (.bool false)) (EN ha (.tmp rfl rfl) rfl) (EN ha (.tmp rfl rfl) rfl) (EN ha (.bool _) rfl)) ?_
        refine D_val rfl .no (fun ha => V_pick (b := false) (u := (.bool true)) (v := (.bool (!r53))) (EN ha (.tmp rfl rfl) rfl) (EN ha (.bool _) rfl) (EN ha (.tmp rfl rfl) rfl)) ?_
        refine D_nil ?_
        obtain rfl := Option.some.inj hF
        exact ⟨_, _, rfl, (EqL.cons rfl (EqL.cons rfl (EqL.cons rfl (EqL.cons rfl (EqL.cons rfl (EqL.cons rfl (EqL.nil))))))).eq, (.sel (.rd (.t (.t (.t (.t (.t (.t .h)))))) rfl (.rd (.t (.t (.t (.t (.t (.t (.t .h))))))) rfl (.rd (.t (.t (.t (.t (.t (.t (.t (.t .h)))))))) rfl (.rd (.t (.t (.t (.t (.t (.t (.t (.t (.t .h))))))))) rfl (.cons (.t (.t .h)) (.rd (.t (.t .h)) rfl (.rd (.t (.t (.t .h))) rfl .nil))))))))⟩
      rw [hg45]
      try rw [hg45] at hF; dsimp only [cond_true, cond_false] at hF
      iterate 11 refine D_off 60 rfl rfl rfl rfl ?_
      refine D_val rfl (.on 57 rfl rfl rfl) (fun ha => V_pick (b := false) (u := undef) (v := (.bool false)) (EN ha (.tmp rfl rfl) rfl) (EN ha (.tmp rfl rfl) rfl) (EN ha (.bool _) rfl)) ?_
      refine D_val rfl .no (fun ha => V_pick (b := false) (u := (.bool true)) (v := (.bool false)) (EN ha (.tmp rfl rfl) rfl) (EN ha (.bool _) rfl) (EN ha (.tmp rfl rfl) rfl)) ?_
      refine D_nil ?_
      obtain rfl := Option.some.inj hF
      exact ⟨_, _, rfl, (EqL.cons rfl (EqL.cons rfl (EqL.cons rfl (EqL.cons rfl (EqL.cons rfl (EqL.cons rfl (EqL.nil))))))).eq, (.sel (.rd (.t (.t (.t (.t .h)))) rfl (.rd (.t (.t (.t (.t (.t .h))))) rfl (.rd (.t (.t (.t (.t (.t (.t .h)))))) rfl (.rd (.t (.t (.t (.t (.t (.t (.t .h))))))) rfl (.cons .h (.rd .h rfl (.rd (.t .h) rfl .nil))))))))⟩
    rintro _ _ ⟨c56, g85, rfl, rfl, hE⟩
    replace hF := hO32
    clear hO32
    try dsimp only at hF
    refine K_ent hE ?_
    refine CW_cond (b := c56) (.tmp rfl rfl) (fun hb84 => ?_) (fun hb84 => ?_)
    · rw [if_pos hb84] at hF
      refine K_region (C_val (V_assign (v := (.bool false)) (.bool _)) ?_)
      refine C_nil (CW_ret ?_)
      obtain rfl := Option.some.inj hF
      replace hF := hO26
      try dsimp only at hF
      obtain rfl := Option.some.inj hF
      exact End_ret () (.tmp rfl rfl .nil) rfl (.sel .nil)
    rw [if_neg (by rw [hb84]; exact Bool.false_ne_true)] at hF
    refine CW_skip (K_region (C_val (V_assign (v := (.int .i64 0)) (.int _ _)) ?_))
    refine C_nil (CW_block (CW_loop (m := x18.Facts.length) (fun m58 f' cs' => ∃ (g : Fr) (k60 : Nat) (rest61 : List Fact), m58 = rest61.length ∧ f' = updL g [(0, v0_0.v), (1, v1_0.v), (5, (.pointer (some ⟨k1, 0, some 0⟩))), (7, (.int .i64 (k16 : Int))), (8, (.pointer (some ⟨k30, 0, some 0⟩))), (9, (.int .i64 (k60 : Int)))] ∧ List.drop k60 x18.Facts = rest61 ∧ Ent cs' [crd (RdS 3 rdInt) v0_0.v a_s, crd (RdS 108 rd108) v1_0.v a_l, cboR k1 44 (.agg [v2_0.v, (.int .i64 a_c.Age)].toArray), crd (RdS 147 rd147) v2_0.v a_c.Entries, cbox k30 147 (.agg [(.int .i64 x18.Access.Method), p29.1.v, p29.2.v, (.int .i64 x18.At)].toArray), crd (RdS 3 rdInt) p29.1.v x18.Access.Values, crd (RdS 80 rd80) p29.2.v x18.Facts] ∧ s_IsCache_L2 a_l x18 rest61 k60 = some o25) ⟨_, 0, _, rfl, (EqL.cons rfl (EqL.cons rfl (EqL.cons rfl (EqL.cons rfl (EqL.cons rfl (EqL.cons rfl (EqL.nil))))))).eq, rfl, (.sel (.rd .h rfl (.rd (.t .h) rfl (.rd (.t (.t .h)) rfl (.rd (.t (.t (.t .h))) rfl (.cons (.t (.t (.t (.t .h)))) (.rd (.t (.t (.t (.t .h)))) rfl (.rd (.t (.t (.t (.t (.t .h))))) rfl .nil)))))))), hF⟩ ?_))
    clear hF
    rintro m58 _ _ ⟨g59, k60, rest61, rfl, rfl, hd63, hE, hF⟩
    refine K_ent hE ?_
    clear hE
    refine K_pure (c := crd (RdS 80 rd80) p29.2.v x18.Facts) (.t (.t (.t (.t (.t (.t .h)))))) crd_bound (fun hbd68 => ?_)
    rcases rest61 with _ | ⟨x62, rest61⟩
    · have hk64 := List.drop_eq_nil_iff.1 hd63
      have hfe67 : (decide (((k60 : Int) : Int) < (x18.Facts.length : Int))) = false := decide_eq_false (by omega)
      rw [s_IsCache_L2] at hF
      refine K_in (K_region (Cm (.int .i64 (k60 : Int)) rfl rfl ?_))
      refine C_val (V_fieldAddr (off := 2) fd147_1 (.tmp rfl rfl)) ?_
      refine C_at (.t (.t (.t (.t .h)))) (fun hp => V_load (v := p29.2.v) ag39 (.tmp rfl rfl) hp.2 rfl rfl) ?_
      refine C_at (.t (.t (.t (.t (.t (.t .h)))))) (fun hp => V_lenR (l := x18.Facts.length) sl39 (.tmp rfl rfl) (crd_len hp)) ?_
      refine C_val (V_lss (i := (k60 : Int)) (j := (x18.Facts.length : Int)) (.tmp rfl rfl) (.tmp rfl rfl)) ?_
      refine C_nil (CW_cond (b := (decide (((k60 : Int) : Int) < (x18.Facts.length : Int)))) (.tmp rfl rfl) (fun hb => absurd (hfe67.symm.trans hb) (by decide)) (fun _ => ?_))
      refine CW_exit ?_
      iterate 2 refine CThen_exit ?_
      refine CIn_self ?_
      obtain rfl := Option.some.inj hF
      exact ⟨_, rfl, (EqL.cons rfl (EqL.cons rfl (EqL.cons rfl (EqL.cons rfl (EqL.nil))))).eq, (.sel (.rd .h rfl (.rd (.t .h) rfl (.rd (.t (.t .h)) rfl (.rd (.t (.t (.t .h))) rfl .nil)))))⟩
    obtain ⟨hk64, hx65, hd66⟩ := drop_cons hd63
    have hfe67 : (decide (((k60 : Int) : Int) < (x18.Facts.length : Int))) = true := decide_eq_true (by omega)
    rw [s_IsCache_L2] at hF
    refine K_in (K_region (Cm (.int .i64 (k60 : Int)) rfl rfl ?_))
    refine C_val (V_fieldAddr (off := 2) fd147_1 (.tmp rfl rfl)) ?_
    refine C_at (.t (.t (.t (.t .h)))) (fun hp => V_load (v := p29.2.v) ag39 (.tmp rfl rfl) hp.2 rfl rfl) ?_
    refine C_at (.t (.t (.t (.t (.t (.t .h)))))) (fun hp => V_lenR (l := x18.Facts.length) sl39 (.tmp rfl rfl) (crd_len hp)) ?_
    refine C_val (V_lss (i := (k60 : Int)) (j := (x18.Facts.length : Int)) (.tmp rfl rfl) (.tmp rfl rfl)) ?_
    refine C_nil (CW_cond (b := (decide (((k60 : Int) : Int) < (x18.Facts.length : Int)))) (.tmp rfl rfl) (fun _ => ?_) (fun hb => absurd (hfe67.symm.trans hb) (by decide)))
    refine CW_skip (K_block (K_draw [0, 1, 2, 3, 4, 5, 6, 7, 8, 9, 10, 11, 12, 13, 14, 15] [0, 0, 2, 6, 15, 31, 0, 64, 192, 0, 512, 0, 3584, 7680, 16383, 32767] [14] mixed (by decide +kernel) ?_))
    refine Dm v1_0.v rfl rfl rfl rfl ?_
    refine D_val rfl .no (fun ha => V_fieldAddr (off := 0) fd147_0 (EN ha (.tmp rfl rfl) rfl)) ?_
    refine D_val rfl .no (fun ha => V_fieldAddr (off := 0) fd105_0 (EN ha (.tmp rfl rfl) rfl)) ?_
    refine D_atO rfl .no (.t (.t (.t (.t .h)))) (fun ha hp => V_load (v := (.int .i64 x18.Access.Method)) ag3 (EN ha (.tmp rfl rfl) rfl) hp.2 rfl rfl) ?_
    obtain ⟨x69, hx70, hF⟩ := bind_some hF
    obtain ⟨hp71, hx72⟩ := ix_some hx70
    refine D_idx (a := x69) sl37 ty108.sz rfl .no (.tmp rfl rfl) (.tmp rfl rfl) rfl rfl (.t .h) hp71 hx72 (fun k73 j74 => ?_)
    refine D_ldA1 (ul108_0_108 x69) ag108 ty108.sz rfl rfl .no (.tmp rfl rfl) rfl .h la108_0_108 (fun p75 => ?_)
    refine D_val rfl .no (fun ha => V_fieldAddr (off := 0) fd147_0 (EN ha (.tmp rfl rfl) rfl)) ?_
    refine D_val rfl .no (fun ha => V_fieldAddr (off := 1) fd105_1 (EN ha (.tmp rfl rfl) rfl)) ?_
    refine D_atO rfl .no (.t (.t (.t (.t (.t (.t .h)))))) (fun ha hp => V_load (v := p29.1.v) ag22 (EN ha (.tmp rfl rfl) rfl) hp.2 rfl rfl) ?_
    refine D_val rfl .no (fun ha => V_fieldAddr (off := 2) fd147_1 (EN ha (.tmp rfl rfl) rfl)) ?_
    refine D_atO rfl .no (.t (.t (.t (.t (.t (.t .h)))))) (fun ha hp => V_load (v := p29.2.v) ag39 (EN ha (.tmp rfl rfl) rfl) hp.2 rfl rfl) ?_
    refine Dm (.int .i64 (k60 : Int)) rfl rfl rfl rfl ?_
    refine D_idx (a := x62) sl39 ty80.sz rfl .no (.tmp rfl rfl) (.tmp rfl rfl) rfl rfl (.t (.t (.t (.t (.t (.t (.t (.t .h)))))))) (Int.natCast_nonneg k60) hx65 (fun k76 j77 => ?_)
    refine D_ldA1 (ul80_0_80 x62) ag80 ty80.sz rfl rfl .no (.tmp rfl rfl) rfl .h la80_0_80 (fun p78 => ?_)
    obtain ⟨r79, hx80, hF⟩ := bind_some hF
    refine D_act0 rfl rfl .no (.rd (.t (.t .h)) rfl (.rd (.t (.t (.t (.t (.t (.t (.t (.t (.t .h))))))))) rfl (.rd .h rfl .nil))) (.dep rfl (.dep rfl (.dep rfl .nil))) (fun ha => X_callS cf99 (.cons (EN ha (.tmp rfl rfl) rfl) (.cons (EN ha (.tmp rfl rfl) rfl) (.cons (EN ha (.tmp rfl rfl) rfl) .nil))) (s_l5Fits_ok x69 p75 x18.Access.Values p29.1 x62 p78 _ hx80)) (fun _ => ?_)
    refine D_val rfl .no (fun ha => V_not (b := r79) (EN ha (.tmp rfl rfl) rfl)) ?_
    refine D_nil (CW_cond (b := (!r79)) (.tmp rfl rfl) (fun hb83 => ?_) (fun hb83 => ?_))
    · rw [if_pos hb83] at hF
      refine K_region (C_val (V_assign (v := (.bool false)) (.bool _)) ?_)
      refine C_nil (CW_ret ?_)
      obtain rfl := Option.some.inj hF
      replace hF := hO26
      try dsimp only at hF
      obtain rfl := Option.some.inj hF
      exact End_ret () (.tmp rfl rfl .nil) rfl (.sel .nil)
    rw [if_neg (by rw [hb83]; exact Bool.false_ne_true)] at hF
    refine CW_skip (CW_region (Cm (.int .i64 (k60 : Int)) rfl rfl ?_))
    refine C_val (V_add (i := (k60 : Int)) (j := 1) (.tmp rfl rfl) (.int _ _)) ?_
    refine Ca (.int .i64 (IntKind.i64.wrap ((k60 : Int) + 1))) rfl rfl ?_
    refine C_nil ?_
    have hw82 : IntKind.i64.wrap ((k60 : Int) + 1) = ((k60 + 1 : Nat) : Int) := by rw [wrap_in (by omega) (by omega)]; rfl
    rw [hw82]
    exact ⟨_, Nat.lt_succ_self _, _, k60 + 1, rest61, rfl, (EqL.cons rfl (EqL.cons rfl (EqL.cons rfl (EqL.cons rfl (EqL.cons rfl (EqL.cons rfl (EqL.nil))))))).eq, hd66, (.sel (.rd (.t (.t (.t (.t .h)))) rfl (.rd (.t (.t (.t (.t (.t .h))))) rfl (.rd (.t (.t (.t (.t (.t (.t .h)))))) rfl (.rd (.t (.t (.t (.t (.t (.t (.t .h))))))) rfl (.cons (.t (.t (.t (.t (.t (.t (.t (.t .h)))))))) (.rd (.t (.t (.t (.t (.t (.t (.t (.t .h)))))))) rfl (.rd (.t (.t (.t (.t (.t (.t (.t (.t (.t .h))))))))) rfl .nil)))))))), hF⟩
  rintro _ _ ⟨g87, rfl, rfl, hE⟩
  replace hF := hO26
  clear hO26
  try dsimp only at hF
  refine K_ent hE ?_
  refine CW_region (Cm (.int .i64 (k16 : Int)) rfl rfl ?_)
  refine C_val (V_add (i := (k16 : Int)) (j := 1) (.tmp rfl rfl) (.int _ _)) ?_
  refine Ca (.int .i64 (IntKind.i64.wrap ((k16 : Int) + 1))) rfl rfl ?_
  refine C_nil ?_
  have hw86 : IntKind.i64.wrap ((k16 : Int) + 1) = ((k16 + 1 : Nat) : Int) := by rw [wrap_in (by omega) (by omega)]; rfl
  rw [hw86]
  exact ⟨_, Nat.lt_succ_self _, _, k16 + 1, rest17, rfl, (EqL.cons rfl (EqL.cons rfl (EqL.cons rfl (EqL.cons rfl (EqL.nil))))).eq, hd22, (.sel (.rd .h rfl (.rd (.t .h) rfl (.rd (.t (.t .h)) rfl (.rd (.t (.t (.t .h))) rfl .nil))))), hF⟩

/-! spec.l18Times -/
def s_l18Times_L1 (a_times : List Int) : List Int → Nat → Option (Bool)
  | [], k4 => some (decide (((a_times.length : Int) : Int) ≤ 1000))
  | x6 :: rest5, k4 => ((s_l1In x6 0 10000).bind fun r17 =>
      bif (!r17) then (some true)
      else (bif (decide ((0 : Int) < (k4 : Int))) then ((ix a_times (IntKind.i64.wrap ((k4 : Int) - 1))).bind fun x24 =>
          some (decide ((x6 : Int) < x24)))
        else (some false))).bind fun o13 =>
    match o13 with
    | c30 => if c30 then (
        some false)
      else (
        s_l18Times_L1 a_times rest5 (k4 + 1))
def s_l18Times (a_times : List Int) : Option (Bool) :=
  s_l18Times_L1 a_times a_times 0
theorem s_l18Times_ok (a_times : List Int) (v0_0 : Sv) (R : Bool) (hF : s_l18Times a_times = some R) :
    Fw.Spec Tryz.prog 60 [v0_0.v] [crd (RdS 3 rdInt) v0_0.v a_times] (fun _ : Unit => (.bool R)) (fun _ => []) := by
  refine Spec_enter (n := 35) Tryz.func60 rfl rfl (rs := [.tmp 2]) rfl rfl rfl ?_
  intro H0 F0
  unfold s_l18Times at hF
  refine K_region (C_val (V_assign (v := (.bool false)) (.bool _)) ?_)
  refine C_nil (K_in (K_region (C_val (V_assign (v := (.int .i64 0)) (.int _ _)) ?_)))
  refine C_nil (CW_block (CW_loop (m := a_times.length) (fun m2 f' cs' => ∃ (g : Fr) (k4 : Nat) (rest5 : List Int), m2 = rest5.length ∧ f' = updL g [(0, v0_0.v), (3, (.int .i64 (k4 : Int)))] ∧ List.drop k4 a_times = rest5 ∧ Ent cs' [crd (RdS 3 rdInt) v0_0.v a_times] ∧ s_l18Times_L1 a_times rest5 k4 = some R) ⟨_, 0, _, rfl, (EqL.cons rfl (EqL.cons rfl (EqL.nil))).eq, rfl, (.sel (.rd .h rfl .nil)), hF⟩ ?_))
  clear hF
  rintro m2 _ _ ⟨g3, k4, rest5, rfl, rfl, hd7, hE, hF⟩
  refine K_ent hE ?_
  clear hE
  refine K_pure (c := crd (RdS 3 rdInt) v0_0.v a_times) .h crd_bound (fun hbd12 => ?_)
  rcases rest5 with _ | ⟨x6, rest5⟩
  · have hk8 := List.drop_eq_nil_iff.1 hd7
    have hfe11 : (decide (((k4 : Int) : Int) < (a_times.length : Int))) = false := decide_eq_false (by omega)
    rw [s_l18Times_L1] at hF
    refine K_in (K_region (Cm (.int .i64 (k4 : Int)) rfl rfl ?_))
    refine Cm v0_0.v rfl rfl ?_
    refine C_at .h (fun hp => V_lenR (l := a_times.length) sl22 (.tmp rfl rfl) (crd_len hp)) ?_
    refine C_val (V_lss (i := (k4 : Int)) (j := (a_times.length : Int)) (.tmp rfl rfl) (.tmp rfl rfl)) ?_
    refine C_nil (CW_cond (b := (decide (((k4 : Int) : Int) < (a_times.length : Int)))) (.tmp rfl rfl) (fun hb => absurd (hfe11.symm.trans hb) (by decide)) (fun _ => ?_))
    refine CW_exit ?_
    iterate 2 refine CThen_exit ?_
    refine CIn_self (K_region (Cm v0_0.v rfl rfl ?_))
    refine C_at .h (fun hp => V_lenR (l := a_times.length) sl22 (.tmp rfl rfl) (crd_len hp)) ?_
    refine C_val (V_leq (i := (a_times.length : Int)) (j := 1000) (.tmp rfl rfl) (.int _ _)) ?_
    refine Ca (.bool (decide (((a_times.length : Int) : Int) ≤ 1000))) rfl rfl ?_
    refine C_nil (CW_ret ?_)
    obtain rfl := Option.some.inj hF
    exact End_ret () (.tmp rfl rfl .nil) rfl (.sel .nil)
  obtain ⟨hk8, hx9, hd10⟩ := drop_cons hd7
  have hfe11 : (decide (((k4 : Int) : Int) < (a_times.length : Int))) = true := decide_eq_true (by omega)
  rw [s_l18Times_L1] at hF
  refine K_in (K_region (Cm (.int .i64 (k4 : Int)) rfl rfl ?_))
  refine Cm v0_0.v rfl rfl ?_
  refine C_at .h (fun hp => V_lenR (l := a_times.length) sl22 (.tmp rfl rfl) (crd_len hp)) ?_
  refine C_val (V_lss (i := (k4 : Int)) (j := (a_times.length : Int)) (.tmp rfl rfl) (.tmp rfl rfl)) ?_
  refine C_nil (CW_cond (b := (decide (((k4 : Int) : Int) < (a_times.length : Int)))) (.tmp rfl rfl) (fun _ => ?_) (fun hb => absurd (hfe11.symm.trans hb) (by decide)))
  refine CW_skip (K_block ?_)
  obtain ⟨o13, hio13, hO14⟩ := bind_some hF
  refine K_draw [0, 1, 2, 3, 4, 5, 6, 7, 8, 9, 10, 11, 12, 13, 14, 15, 16, 17, 18, 19, 20, 21] [0, 0, 3, 7, 15, 31, 63, 127, 255, 511, 1023, 1023, 4095, 8191, 1023, 1023, 33791, 115711, 246783, 524287, 1048575, 2097151] [4] mixed (by decide +kernel) ?_
  refine D_cut (fun f' cs' => ∃ (c30 : Bool) (g : Fr), c30 = o13 ∧ f' = updL g [(0, v0_0.v), (3, (.int .i64 (k4 : Int))), (31, (.bool c30))] ∧ Ent cs' [crd (RdS 3 rdInt) v0_0.v a_times]) ?_ ?_
  · replace hF := hio13
    refine Dm v0_0.v rfl rfl rfl rfl ?_
    refine Dm (.int .i64 (k4 : Int)) rfl rfl rfl rfl ?_
    refine D_idx (a := x6) sl22 ty3.sz rfl .no (.tmp rfl rfl) (.tmp rfl rfl) rfl rfl .h (Int.natCast_nonneg k4) hx9 (fun k15 j16 => ?_)
    refine D_ldS (w := (.int .i64 x6)) ag3 rfl .no (.tmp rfl rfl) rfl .h ls3_0 ?_
    obtain ⟨r17, hx18, hF⟩ := bind_some hF
    refine D_act0 rfl rfl .no .nil .nil (fun ha => X_callS cf59 (.cons (EN ha (.tmp rfl rfl) rfl) (.cons (EN ha (.int _ _) rfl) (.cons (EN ha (.int _ _) rfl) .nil))) (s_l1In_ok x6 0 10000 _ hx18)) (fun _ => ?_)
    refine D_val rfl .no (fun ha => V_not (b := r17) (EN ha (.tmp rfl rfl) rfl)) ?_
    refine Dm (.bool (!r17)) rfl rfl rfl rfl ?_
    rcases Bool.eq_false_or_eq_true (!r17) with hg20 | hg20
    · rw [hg20]
      try rw [hg20] at hF; dsimp only [cond_true, cond_false] at hF
      iterate 3 refine D_off 16 rfl rfl rfl rfl ?_
      iterate 10 refine D_offU 19 rfl rfl rfl rfl ?_
      refine D_off 16 rfl rfl rfl rfl ?_
      refine D_val rfl .no (fun ha => V_pick (b := true) (u := (.bool true)) (v := undef) (EN ha (.tmp rfl rfl) rfl) (EN ha (.bool _) rfl) (EN ha (.tmp rfl rfl) rfl)) ?_
      refine D_nil ?_
      obtain rfl := Option.some.inj hF
      exact ⟨_, _, rfl, (EqL.cons rfl (EqL.cons rfl (EqL.cons rfl (EqL.nil)))).eq, (.sel (.rd (.t .h) rfl .nil))⟩
    rw [hg20]
    try rw [hg20] at hF; dsimp only [cond_true, cond_false] at hF
    refine D_val rfl (.on 16 rfl rfl rfl) (fun ha => V_move (v := (.int .i64 (k4 : Int))) (EN ha (.tmp rfl rfl) rfl)) ?_
    refine D_val rfl (.on 16 rfl rfl rfl) (fun ha => V_gtr (i := (k4 : Int)) (j := 0) (EN ha (.tmp rfl rfl) rfl) (EN ha (.int _ _) rfl)) ?_
    refine D_val rfl (.on 16 rfl rfl rfl) (fun ha => V_move (v := (.bool (decide ((0 : Int) < (k4 : Int))))) (EN ha (.tmp rfl rfl) rfl)) ?_
    rcases Bool.eq_false_or_eq_true (decide ((0 : Int) < (k4 : Int))) with hg21 | hg21
    · rw [hg21]
      try rw [hg21] at hF; dsimp only [cond_true, cond_false] at hF
      refine D_val rfl (.on 19 rfl rfl rfl) (fun ha => V_move (v := v0_0.v) (EN ha (.tmp rfl rfl) rfl)) ?_
      refine D_val rfl (.on 19 rfl rfl rfl) (fun ha => V_move (v := (.int .i64 (k4 : Int))) (EN ha (.tmp rfl rfl) rfl)) ?_
      refine D_idx (a := x6) sl22 ty3.sz rfl (.on 19 rfl rfl rfl) (.tmp rfl rfl) (.tmp rfl rfl) rfl rfl (.t .h) (Int.natCast_nonneg k4) hx9 (fun k22 j23 => ?_)
      refine D_ldS (w := (.int .i64 x6)) ag3 rfl (.on 19 rfl rfl rfl) (.tmp rfl rfl) rfl .h ls3_0 ?_
      refine D_val rfl (.on 19 rfl rfl rfl) (fun ha => V_move (v := v0_0.v) (EN ha (.tmp rfl rfl) rfl)) ?_
      refine D_val rfl (.on 19 rfl rfl rfl) (fun ha => V_move (v := (.int .i64 (k4 : Int))) (EN ha (.tmp rfl rfl) rfl)) ?_
      refine D_val rfl (.on 19 rfl rfl rfl) (fun ha => V_sub (i := (k4 : Int)) (j := 1) (EN ha (.tmp rfl rfl) rfl) (EN ha (.int _ _) rfl)) ?_
      obtain ⟨x24, hx25, hF⟩ := bind_some hF
      obtain ⟨hp26, hx27⟩ := ix_some hx25
      refine D_idx (a := x24) sl22 ty3.sz rfl (.on 19 rfl rfl rfl) (.tmp rfl rfl) (.tmp rfl rfl) rfl rfl (.t (.t .h)) hp26 hx27 (fun k28 j29 => ?_)
      refine D_ldS (w := (.int .i64 x24)) ag3 rfl (.on 19 rfl rfl rfl) (.tmp rfl rfl) rfl .h ls3_0 ?_
      refine D_val rfl (.on 19 rfl rfl rfl) (fun ha => V_lss (i := x6) (j := x24) (EN ha (.tmp rfl rfl) rfl) (EN ha (.tmp rfl rfl) rfl)) ?_
      refine D_val rfl (.on 16 rfl rfl rfl) (fun ha => V_pick (b := true) (u := (.bool (decide ((x6 : Int) < x24)))) (v := (.bool false)) (EN ha (.tmp rfl rfl) rfl) (EN ha (.tmp rfl rfl) rfl) (EN ha (.bool _) rfl)) ?_
      refine D_val rfl .no (fun ha => V_pick (b := false) (u := (.bool true)) (v := (.bool (decide ((x6 : Int) < x24)))) (EN ha (.tmp rfl rfl) rfl) (EN ha (.bool _) rfl) (EN ha (.tmp rfl rfl) rfl)) ?_
      refine D_nil ?_
      obtain rfl := Option.some.inj hF
      exact ⟨_, _, rfl, (EqL.cons rfl (EqL.cons rfl (EqL.cons rfl (EqL.nil)))).eq, (.sel (.rd (.t (.t (.t .h))) rfl .nil))⟩
    rw [hg21]
    try rw [hg21] at hF; dsimp only [cond_true, cond_false] at hF
    iterate 10 refine D_off 19 rfl rfl rfl rfl ?_
    refine D_val rfl (.on 16 rfl rfl rfl) (fun ha => V_pick (b := false) (u := undef) (v := (.bool false)) (EN ha (.tmp rfl rfl) rfl) (EN ha (.tmp rfl rfl) rfl) (EN ha (.bool _) rfl)) ?_
    refine D_val rfl .no (fun ha => V_pick (b := false) (u := (.bool true)) (v := (.bool false)) (EN ha (.tmp rfl rfl) rfl) (EN ha (.bool _) rfl) (EN ha (.tmp rfl rfl) rfl)) ?_
    refine D_nil ?_
    obtain rfl := Option.some.inj hF
    exact ⟨_, _, rfl, (EqL.cons rfl (EqL.cons rfl (EqL.cons rfl (EqL.nil)))).eq, (.sel (.rd (.t .h) rfl .nil))⟩
  rintro _ _ ⟨c30, g33, rfl, rfl, hE⟩
  replace hF := hO14
  clear hO14
  try dsimp only at hF
  refine K_ent hE ?_
  refine CW_cond (b := c30) (.tmp rfl rfl) (fun hb32 => ?_) (fun hb32 => ?_)
  · rw [if_pos hb32] at hF
    refine K_region (C_val (V_assign (v := (.bool false)) (.bool _)) ?_)
    refine C_nil (CW_ret ?_)
    obtain rfl := Option.some.inj hF
    exact End_ret () (.tmp rfl rfl .nil) rfl (.sel .nil)
  rw [if_neg (by rw [hb32]; exact Bool.false_ne_true)] at hF
  refine CW_skip (CW_region (Cm (.int .i64 (k4 : Int)) rfl rfl ?_))
  refine C_val (V_add (i := (k4 : Int)) (j := 1) (.tmp rfl rfl) (.int _ _)) ?_
  refine Ca (.int .i64 (IntKind.i64.wrap ((k4 : Int) + 1))) rfl rfl ?_
  refine C_nil ?_
  have hw31 : IntKind.i64.wrap ((k4 : Int) + 1) = ((k4 + 1 : Nat) : Int) := by rw [wrap_in (by omega) (by omega)]; rfl
  rw [hw31]
  exact ⟨_, Nat.lt_succ_self _, _, k4 + 1, rest5, rfl, (EqL.cons rfl (EqL.cons rfl (EqL.nil))).eq, hd10, (.sel (.rd .h rfl .nil)), hF⟩

/-! spec.IsMediator -/
def s_IsMediator_L1 (a_m : Mediator) : List Access → Nat → Option (Bool)
  | [], k27 => ((s_l1In a_m.Now 0 10000).bind fun r38 =>
      bif r38 then (bif (decide (((a_m.Log.length : Int) : Int) ≤ 1000)) then (bif (((a_m.Times.length : Int) : Int) == (a_m.Log.length : Int)) then ((s_l18Times a_m.Times).bind fun r44 =>
            bif r44 then ((s_l1In a_m.Spent 0 1000000).bind fun r48 =>
              bif r48 then (some (decide (((a_m.Results.length : Int) : Int) ≤ 100)))
              else (some false))
            else (some false))
          else (some false))
        else (some false))
      else (some false)).bind fun o36 =>
    match o36 with
    | c52 => some c52
  | x29 :: rest28, k27 => (s_IsAccess a_m.Schema a_m.Methods x29).bind fun r57 =>
    if (!r57) then (
      some false)
    else (
      s_IsMediator_L1 a_m rest28 (k27 + 1))
def s_IsMediator (a_m : Mediator) : Option (Bool) :=
  ((s_IsSchema a_m.Schema).bind fun r4 =>
    bif (!r4) then (some true)
    else ((s_AreMethods a_m.Schema a_m.Methods).bind fun r8 =>
      bif (!r8) then (some true)
      else ((s_AreRules a_m.Schema a_m.Rules).bind fun r12 =>
        bif (!r12) then (some true)
        else ((s_IsSource a_m.Schema a_m.Source).bind fun r16 =>
          bif (!r16) then (some true)
          else ((s_IsCache a_m.Schema a_m.Methods a_m.Cache).bind fun r20 =>
            some (!r20)))))).bind fun o2 =>
  match o2 with
  | c23 => if c23 then (
      some false)
    else (
      s_IsMediator_L1 a_m a_m.Log 0)
theorem s_IsMediator_ok (a_m : Mediator) (v0_0 : Sv) (v0_1 : Sv) (v0_2 : Sv) (v0_3 : Sv) (v0_5 : Sv) (v0_8 : Sv) (v0_9 : Sv) (v0_11 : Sv) (R : Bool) (hF : s_IsMediator a_m = some R) :
    Fw.Spec Tryz.prog 19 [(.agg [v0_0.v, v0_1.v, v0_2.v, v0_3.v, (.int .i64 a_m.Source.Version), v0_5.v, (.int .i64 a_m.Cache.Age), (.int .i64 a_m.Now), v0_8.v, v0_9.v, (.int .i64 a_m.Spent), v0_11.v].toArray)] [crd (RdS 3 rdInt) v0_0.v a_m.Schema, crd (RdS 108 rd108) v0_1.v a_m.Methods, crd (RdS 110 rd110) v0_2.v a_m.Rules, crd (RdS 80 rd80) v0_3.v a_m.Source.Facts, crd (RdS 147 rd147) v0_5.v a_m.Cache.Entries, crd (RdS 105 rd105) v0_8.v a_m.Log, crd (RdS 3 rdInt) v0_9.v a_m.Times, crd (RdS 83 (RdS 22 (RdS 3 rdInt))) v0_11.v a_m.Results] (fun _ : Unit => (.bool R)) (fun _ => []) := by
  refine Spec_enter (n := 94) Tryz.func19 rfl rfl (rs := [.tmp 2]) rfl rfl rfl ?_
  intro H0 F0
  unfold s_IsMediator at hF
  refine K_region (C_newR rfl (N_box (g := false) (v := (.agg [v0_0.v, v0_1.v, v0_2.v, v0_3.v, (.int .i64 a_m.Source.Version), v0_5.v, (.int .i64 a_m.Cache.Age), (.int .i64 a_m.Now), v0_8.v, v0_9.v, (.int .i64 a_m.Spent), v0_11.v].toArray)) ty47.sz (.tmp rfl rfl) rfl) (fun k1 => ?_))
  refine C_val (V_assign (v := (.bool false)) (.bool _)) ?_
  refine C_nil (K_in ?_)
  obtain ⟨o2, hio2, hO3⟩ := bind_some hF
  refine K_region (C_cut (fun f' cs' => ∃ (c23 : Bool) (g : Fr), c23 = o2 ∧ f' = updL g [(1, (.pointer (some ⟨k1, 0, some 0⟩))), (41, (.bool c23))] ∧ Ent cs' [cboR k1 47 (.agg [v0_0.v, v0_1.v, v0_2.v, v0_3.v, (.int .i64 a_m.Source.Version), v0_5.v, (.int .i64 a_m.Cache.Age), (.int .i64 a_m.Now), v0_8.v, v0_9.v, (.int .i64 a_m.Spent), v0_11.v].toArray), crd (RdS 3 rdInt) v0_0.v a_m.Schema, crd (RdS 108 rd108) v0_1.v a_m.Methods, crd (RdS 110 rd110) v0_2.v a_m.Rules, crd (RdS 80 rd80) v0_3.v a_m.Source.Facts, crd (RdS 147 rd147) v0_5.v a_m.Cache.Entries, crd (RdS 105 rd105) v0_8.v a_m.Log, crd (RdS 3 rdInt) v0_9.v a_m.Times, crd (RdS 83 (RdS 22 (RdS 3 rdInt))) v0_11.v a_m.Results]) ?_ ?_)
  · replace hF := hio2
    refine C_val (V_fieldAddr (off := 0) fd47_0 (.tmp rfl rfl)) ?_
    refine C_at .h (fun hp => V_load (v := v0_0.v) ag22 (.tmp rfl rfl) hp.2 rfl rfl) ?_
    obtain ⟨r4, hx5, hF⟩ := bind_some hF
    refine C_x0 (.rd (.t .h) rfl .nil) (X_callS cf53 (.cons (.tmp rfl rfl) .nil) (s_IsSchema_ok a_m.Schema v0_0 _ hx5)) (fun _ => ?_)
    refine C_val (V_not (b := r4) (.tmp rfl rfl)) ?_
    refine Cm (.bool (!r4)) rfl rfl ?_
    rcases Bool.eq_false_or_eq_true (!r4) with hg7 | hg7
    · rw [hg7]
      try rw [hg7] at hF; dsimp only [cond_true, cond_false] at hF
      iterate 6 refine C_off (t := 8) rfl rfl rfl ?_
      refine C_val (V_pick (b := true) (u := (.bool true)) (v := undef) (.tmp rfl rfl) (.bool _) (.tmp rfl rfl)) ?_
      refine Cm (.bool true) rfl rfl ?_
      iterate 6 refine C_off (t := 16) rfl rfl rfl ?_
      refine C_val (V_pick (b := true) (u := (.bool true)) (v := undef) (.tmp rfl rfl) (.bool _) (.tmp rfl rfl)) ?_
      refine Cm (.bool true) rfl rfl ?_
      iterate 6 refine C_off (t := 24) rfl rfl rfl ?_
      refine C_val (V_pick (b := true) (u := (.bool true)) (v := undef) (.tmp rfl rfl) (.bool _) (.tmp rfl rfl)) ?_
      refine Cm (.bool true) rfl rfl ?_
      iterate 8 refine C_off (t := 32) rfl rfl rfl ?_
      refine C_val (V_pick (b := true) (u := (.bool true)) (v := undef) (.tmp rfl rfl) (.bool _) (.tmp rfl rfl)) ?_
      refine C_nil ?_
      obtain rfl := Option.some.inj hF
      exact ⟨_, _, rfl, (EqL.cons rfl (EqL.cons rfl (EqL.nil))).eq, (.sel (.rd .h rfl (.rd (.t .h) rfl (.rd (.t (.t .h)) rfl (.rd (.t (.t (.t .h))) rfl (.rd (.t (.t (.t (.t .h)))) rfl (.rd (.t (.t (.t (.t (.t .h))))) rfl (.rd (.t (.t (.t (.t (.t (.t .h)))))) rfl (.rd (.t (.t (.t (.t (.t (.t (.t .h))))))) rfl (.rd (.t (.t (.t (.t (.t (.t (.t (.t .h)))))))) rfl .nil))))))))))⟩
    rw [hg7]
    try rw [hg7] at hF; dsimp only [cond_true, cond_false] at hF
    refine C_on (t := 8) rfl rfl rfl ?_
    refine C_val (V_fieldAddr (off := 0) fd47_0 (.tmp rfl rfl)) ?_
    refine C_on (t := 8) rfl rfl rfl ?_
    refine C_at .h (fun hp => V_load (v := v0_0.v) ag22 (.tmp rfl rfl) hp.2 rfl rfl) ?_
    refine C_on (t := 8) rfl rfl rfl ?_
    refine C_val (V_fieldAddr (off := 1) fd47_1 (.tmp rfl rfl)) ?_
    refine C_on (t := 8) rfl rfl rfl ?_
    refine C_at .h (fun hp => V_load (v := v0_1.v) ag37 (.tmp rfl rfl) hp.2 rfl rfl) ?_
    refine C_on (t := 8) rfl rfl rfl ?_
    obtain ⟨r8, hx9, hF⟩ := bind_some hF
    refine C_x0 (.rd (.t .h) rfl (.rd (.t (.t .h)) rfl .nil)) (X_callS cf54 (.cons (.tmp rfl rfl) (.cons (.tmp rfl rfl) .nil)) (s_AreMethods_ok a_m.Schema v0_0 a_m.Methods v0_1 _ hx9)) (fun _ => ?_)
    refine C_on (t := 8) rfl rfl rfl ?_
    refine C_val (V_not (b := r8) (.tmp rfl rfl)) ?_
    refine C_val (V_pick (b := false) (u := (.bool true)) (v := (.bool (!r8))) (.tmp rfl rfl) (.bool _) (.tmp rfl rfl)) ?_
    refine Cm (.bool (!r8)) rfl rfl ?_
    rcases Bool.eq_false_or_eq_true (!r8) with hg11 | hg11
    · rw [hg11]
      try rw [hg11] at hF; dsimp only [cond_true, cond_false] at hF
      iterate 6 refine C_off (t := 16) rfl rfl rfl ?_
      refine C_val (V_pick (b := true) (u := (.bool true)) (v := undef) (.tmp rfl rfl) (.bool _) (.tmp rfl rfl)) ?_
      refine Cm (.bool true) rfl rfl ?_
      iterate 6 refine C_off (t := 24) rfl rfl rfl ?_
      refine C_val (V_pick (b := true) (u := (.bool true)) (v := undef) (.tmp rfl rfl) (.bool _) (.tmp rfl rfl)) ?_
      refine Cm (.bool true) rfl rfl ?_
      iterate 8 refine C_off (t := 32) rfl rfl rfl ?_
      refine C_val (V_pick (b := true) (u := (.bool true)) (v := undef) (.tmp rfl rfl) (.bool _) (.tmp rfl rfl)) ?_
      refine C_nil ?_
      obtain rfl := Option.some.inj hF
      exact ⟨_, _, rfl, (EqL.cons rfl (EqL.cons rfl (EqL.nil))).eq, (.sel (.rd .h rfl (.rd (.t .h) rfl (.rd (.t (.t .h)) rfl (.rd (.t (.t (.t .h))) rfl (.rd (.t (.t (.t (.t .h)))) rfl (.rd (.t (.t (.t (.t (.t .h))))) rfl (.rd (.t (.t (.t (.t (.t (.t .h)))))) rfl (.rd (.t (.t (.t (.t (.t (.t (.t .h))))))) rfl (.rd (.t (.t (.t (.t (.t (.t (.t (.t .h)))))))) rfl .nil))))))))))⟩
    rw [hg11]
    try rw [hg11] at hF; dsimp only [cond_true, cond_false] at hF
    refine C_on (t := 16) rfl rfl rfl ?_
    refine C_val (V_fieldAddr (off := 0) fd47_0 (.tmp rfl rfl)) ?_
    refine C_on (t := 16) rfl rfl rfl ?_
    refine C_at .h (fun hp => V_load (v := v0_0.v) ag22 (.tmp rfl rfl) hp.2 rfl rfl) ?_
    refine C_on (t := 16) rfl rfl rfl ?_
    refine C_val (V_fieldAddr (off := 2) fd47_2 (.tmp rfl rfl)) ?_
    refine C_on (t := 16) rfl rfl rfl ?_
    refine C_at .h (fun hp => V_load (v := v0_2.v) ag38 (.tmp rfl rfl) hp.2 rfl rfl) ?_
    refine C_on (t := 16) rfl rfl rfl ?_
    obtain ⟨r12, hx13, hF⟩ := bind_some hF
    refine C_x0 (.rd (.t .h) rfl (.rd (.t (.t (.t .h))) rfl .nil)) (X_callS cf55 (.cons (.tmp rfl rfl) (.cons (.tmp rfl rfl) .nil)) (s_AreRules_ok a_m.Schema v0_0 a_m.Rules v0_2 _ hx13)) (fun _ => ?_)
    refine C_on (t := 16) rfl rfl rfl ?_
    refine C_val (V_not (b := r12) (.tmp rfl rfl)) ?_
    refine C_val (V_pick (b := false) (u := (.bool true)) (v := (.bool (!r12))) (.tmp rfl rfl) (.bool _) (.tmp rfl rfl)) ?_
    refine Cm (.bool (!r12)) rfl rfl ?_
    rcases Bool.eq_false_or_eq_true (!r12) with hg15 | hg15
    · rw [hg15]
      try rw [hg15] at hF; dsimp only [cond_true, cond_false] at hF
      iterate 6 refine C_off (t := 24) rfl rfl rfl ?_
      refine C_val (V_pick (b := true) (u := (.bool true)) (v := undef) (.tmp rfl rfl) (.bool _) (.tmp rfl rfl)) ?_
      refine Cm (.bool true) rfl rfl ?_
      iterate 8 refine C_off (t := 32) rfl rfl rfl ?_
      refine C_val (V_pick (b := true) (u := (.bool true)) (v := undef) (.tmp rfl rfl) (.bool _) (.tmp rfl rfl)) ?_
      refine C_nil ?_
      obtain rfl := Option.some.inj hF
      exact ⟨_, _, rfl, (EqL.cons rfl (EqL.cons rfl (EqL.nil))).eq, (.sel (.rd .h rfl (.rd (.t .h) rfl (.rd (.t (.t .h)) rfl (.rd (.t (.t (.t .h))) rfl (.rd (.t (.t (.t (.t .h)))) rfl (.rd (.t (.t (.t (.t (.t .h))))) rfl (.rd (.t (.t (.t (.t (.t (.t .h)))))) rfl (.rd (.t (.t (.t (.t (.t (.t (.t .h))))))) rfl (.rd (.t (.t (.t (.t (.t (.t (.t (.t .h)))))))) rfl .nil))))))))))⟩
    rw [hg15]
    try rw [hg15] at hF; dsimp only [cond_true, cond_false] at hF
    refine C_on (t := 24) rfl rfl rfl ?_
    refine C_val (V_fieldAddr (off := 0) fd47_0 (.tmp rfl rfl)) ?_
    refine C_on (t := 24) rfl rfl rfl ?_
    refine C_at .h (fun hp => V_load (v := v0_0.v) ag22 (.tmp rfl rfl) hp.2 rfl rfl) ?_
    refine C_on (t := 24) rfl rfl rfl ?_
    refine C_val (V_fieldAddr (off := 3) fd47_3 (.tmp rfl rfl)) ?_
    refine C_on (t := 24) rfl rfl rfl ?_
    refine C_at .h (fun hp => V_loadA (s := 2) (l := [v0_3.v, (.int .i64 a_m.Source.Version)]) ag41 ty41.sz (.tmp rfl rfl) hp.2 rfl (by decide) (Nat.le_of_ble_eq_true rfl) rfl) ?_
    refine C_on (t := 24) rfl rfl rfl ?_
    obtain ⟨r16, hx17, hF⟩ := bind_some hF
    refine C_x0 (.rd (.t .h) rfl (.rd (.t (.t (.t (.t .h)))) rfl .nil)) (X_callS cf56 (.cons (.tmp rfl rfl) (.cons (.tmp rfl rfl) .nil)) (s_IsSource_ok a_m.Schema v0_0 a_m.Source v0_3 _ hx17)) (fun _ => ?_)
    refine C_on (t := 24) rfl rfl rfl ?_
    refine C_val (V_not (b := r16) (.tmp rfl rfl)) ?_
    refine C_val (V_pick (b := false) (u := (.bool true)) (v := (.bool (!r16))) (.tmp rfl rfl) (.bool _) (.tmp rfl rfl)) ?_
    refine Cm (.bool (!r16)) rfl rfl ?_
    rcases Bool.eq_false_or_eq_true (!r16) with hg19 | hg19
    · rw [hg19]
      try rw [hg19] at hF; dsimp only [cond_true, cond_false] at hF
      iterate 8 refine C_off (t := 32) rfl rfl rfl ?_
      refine C_val (V_pick (b := true) (u := (.bool true)) (v := undef) (.tmp rfl rfl) (.bool _) (.tmp rfl rfl)) ?_
      refine C_nil ?_
      obtain rfl := Option.some.inj hF
      exact ⟨_, _, rfl, (EqL.cons rfl (EqL.cons rfl (EqL.nil))).eq, (.sel (.rd .h rfl (.rd (.t .h) rfl (.rd (.t (.t .h)) rfl (.rd (.t (.t (.t .h))) rfl (.rd (.t (.t (.t (.t .h)))) rfl (.rd (.t (.t (.t (.t (.t .h))))) rfl (.rd (.t (.t (.t (.t (.t (.t .h)))))) rfl (.rd (.t (.t (.t (.t (.t (.t (.t .h))))))) rfl (.rd (.t (.t (.t (.t (.t (.t (.t (.t .h)))))))) rfl .nil))))))))))⟩
    rw [hg19]
    try rw [hg19] at hF; dsimp only [cond_true, cond_false] at hF
    refine C_on (t := 32) rfl rfl rfl ?_
    refine C_val (V_fieldAddr (off := 0) fd47_0 (.tmp rfl rfl)) ?_
    refine C_on (t := 32) rfl rfl rfl ?_
    refine C_at .h (fun hp => V_load (v := v0_0.v) ag22 (.tmp rfl rfl) hp.2 rfl rfl) ?_
    refine C_on (t := 32) rfl rfl rfl ?_
    refine C_val (V_fieldAddr (off := 1) fd47_1 (.tmp rfl rfl)) ?_
    refine C_on (t := 32) rfl rfl rfl ?_
    refine C_at .h (fun hp => V_load (v := v0_1.v) ag37 (.tmp rfl rfl) hp.2 rfl rfl) ?_
    refine C_on (t := 32) rfl rfl rfl ?_
    refine C_val (V_fieldAddr (off := 5) fd47_4 (.tmp rfl rfl)) ?_
    refine C_on (t := 32) rfl rfl rfl ?_
    refine C_at .h (fun hp => V_loadA (s := 2) (l := [v0_5.v, (.int .i64 a_m.Cache.Age)]) ag44 ty44.sz (.tmp rfl rfl) hp.2 rfl (by decide) (Nat.le_of_ble_eq_true rfl) rfl) ?_
    refine C_on (t := 32) rfl rfl rfl ?_
    obtain ⟨r20, hx21, hF⟩ := bind_some hF
    refine C_x0 (.rd (.t .h) rfl (.rd (.t (.t .h)) rfl (.rd (.t (.t (.t (.t (.t .h))))) rfl .nil))) (X_callS cf57 (.cons (.tmp rfl rfl) (.cons (.tmp rfl rfl) (.cons (.tmp rfl rfl) .nil))) (s_IsCache_ok a_m.Schema v0_0 a_m.Methods v0_1 a_m.Cache v0_5 _ hx21)) (fun _ => ?_)
    refine C_on (t := 32) rfl rfl rfl ?_
    refine C_val (V_not (b := r20) (.tmp rfl rfl)) ?_
    refine C_val (V_pick (b := false) (u := (.bool true)) (v := (.bool (!r20))) (.tmp rfl rfl) (.bool _) (.tmp rfl rfl)) ?_
    refine C_nil ?_
    obtain rfl := Option.some.inj hF
    exact ⟨_, _, rfl, (EqL.cons rfl (EqL.cons rfl (EqL.nil))).eq, (.sel (.rd .h rfl (.rd (.t .h) rfl (.rd (.t (.t .h)) rfl (.rd (.t (.t (.t .h))) rfl (.rd (.t (.t (.t (.t .h)))) rfl (.rd (.t (.t (.t (.t (.t .h))))) rfl (.rd (.t (.t (.t (.t (.t (.t .h)))))) rfl (.rd (.t (.t (.t (.t (.t (.t (.t .h))))))) rfl (.rd (.t (.t (.t (.t (.t (.t (.t (.t .h)))))))) rfl .nil))))))))))⟩
  rintro _ _ ⟨c23, g63, rfl, rfl, hE⟩
  replace hF := hO3
  clear hO3
  try dsimp only at hF
  refine K_ent hE ?_
  refine CW_cond (b := c23) (.tmp rfl rfl) (fun hb62 => ?_) (fun hb62 => ?_)
  · rw [if_pos hb62] at hF
    refine K_region (C_val (V_assign (v := (.bool false)) (.bool _)) ?_)
    refine C_nil (CW_ret ?_)
    obtain rfl := Option.some.inj hF
    exact End_ret () (.tmp rfl rfl .nil) rfl (.sel .nil)
  rw [if_neg (by rw [hb62]; exact Bool.false_ne_true)] at hF
  refine CW_skip (K_in (K_region (C_val (V_assign (v := (.int .i64 0)) (.int _ _)) ?_)))
  refine C_nil (CW_block (CW_loop (m := a_m.Log.length) (fun m25 f' cs' => ∃ (g : Fr) (k27 : Nat) (rest28 : List Access), m25 = rest28.length ∧ f' = updL g [(1, (.pointer (some ⟨k1, 0, some 0⟩))), (3, (.int .i64 (k27 : Int)))] ∧ List.drop k27 a_m.Log = rest28 ∧ Ent cs' [cboR k1 47 (.agg [v0_0.v, v0_1.v, v0_2.v, v0_3.v, (.int .i64 a_m.Source.Version), v0_5.v, (.int .i64 a_m.Cache.Age), (.int .i64 a_m.Now), v0_8.v, v0_9.v, (.int .i64 a_m.Spent), v0_11.v].toArray), crd (RdS 3 rdInt) v0_0.v a_m.Schema, crd (RdS 108 rd108) v0_1.v a_m.Methods, crd (RdS 110 rd110) v0_2.v a_m.Rules, crd (RdS 80 rd80) v0_3.v a_m.Source.Facts, crd (RdS 147 rd147) v0_5.v a_m.Cache.Entries, crd (RdS 105 rd105) v0_8.v a_m.Log, crd (RdS 3 rdInt) v0_9.v a_m.Times, crd (RdS 83 (RdS 22 (RdS 3 rdInt))) v0_11.v a_m.Results] ∧ s_IsMediator_L1 a_m rest28 k27 = some R) ⟨_, 0, _, rfl, (EqL.cons rfl (EqL.cons rfl (EqL.nil))).eq, rfl, (.sel (.rd .h rfl (.rd (.t .h) rfl (.rd (.t (.t .h)) rfl (.rd (.t (.t (.t .h))) rfl (.rd (.t (.t (.t (.t .h)))) rfl (.rd (.t (.t (.t (.t (.t .h))))) rfl (.rd (.t (.t (.t (.t (.t (.t .h)))))) rfl (.rd (.t (.t (.t (.t (.t (.t (.t .h))))))) rfl (.rd (.t (.t (.t (.t (.t (.t (.t (.t .h)))))))) rfl .nil)))))))))), hF⟩ ?_))
  clear hF
  rintro m25 _ _ ⟨g26, k27, rest28, rfl, rfl, hd30, hE, hF⟩
  refine K_ent hE ?_
  clear hE
  refine K_pure (c := crd (RdS 105 rd105) v0_8.v a_m.Log) (.t (.t (.t (.t (.t (.t .h)))))) crd_bound (fun hbd35 => ?_)
  rcases rest28 with _ | ⟨x29, rest28⟩
  · have hk31 := List.drop_eq_nil_iff.1 hd30
    have hfe34 : (decide (((k27 : Int) : Int) < (a_m.Log.length : Int))) = false := decide_eq_false (by omega)
    rw [s_IsMediator_L1] at hF
    refine K_in (K_region (Cm (.int .i64 (k27 : Int)) rfl rfl ?_))
    refine C_val (V_fieldAddr (off := 8) fd47_6 (.tmp rfl rfl)) ?_
    refine C_at .h (fun hp => V_load (v := v0_8.v) ag45 (.tmp rfl rfl) hp.2 rfl rfl) ?_
    refine C_at (.t (.t (.t (.t (.t (.t .h)))))) (fun hp => V_lenR (l := a_m.Log.length) sl45 (.tmp rfl rfl) (crd_len hp)) ?_
    refine C_val (V_lss (i := (k27 : Int)) (j := (a_m.Log.length : Int)) (.tmp rfl rfl) (.tmp rfl rfl)) ?_
    refine C_nil (CW_cond (b := (decide (((k27 : Int) : Int) < (a_m.Log.length : Int)))) (.tmp rfl rfl) (fun hb => absurd (hfe34.symm.trans hb) (by decide)) (fun _ => ?_))
    refine CW_exit ?_
    iterate 2 refine CThen_exit ?_
    refine CIn_self ?_
    obtain ⟨o36, hio36, hO37⟩ := bind_some hF
    refine K_region (C_cut (fun f' cs' => ∃ (c52 : Bool) (g : Fr), c52 = o36 ∧ f' = updL g [(2, (.bool c52))] ∧ Ent cs' []) ?_ ?_)
    · replace hF := hio36
      refine C_val (V_fieldAddr (off := 7) fd47_5 (.tmp rfl rfl)) ?_
      refine C_at .h (fun hp => V_load (v := (.int .i64 a_m.Now)) ag3 (.tmp rfl rfl) hp.2 rfl rfl) ?_
      obtain ⟨r38, hx39, hF⟩ := bind_some hF
      refine C_x0 .nil (X_callS cf59 (.cons (.tmp rfl rfl) (.cons (.int _ _) (.cons (.int _ _) .nil))) (s_l1In_ok a_m.Now 0 10000 _ hx39)) (fun _ => ?_)
      refine Cm (.bool r38) rfl rfl ?_
      rcases Bool.eq_false_or_eq_true r38 with hg41 | hg41
      · rw [hg41]
        try rw [hg41] at hF; dsimp only [cond_true, cond_false] at hF
        refine C_on (t := 63) rfl rfl rfl ?_
        refine C_val (V_fieldAddr (off := 8) fd47_6 (.tmp rfl rfl)) ?_
        refine C_on (t := 63) rfl rfl rfl ?_
        refine C_at .h (fun hp => V_load (v := v0_8.v) ag45 (.tmp rfl rfl) hp.2 rfl rfl) ?_
        refine C_on (t := 63) rfl rfl rfl ?_
        refine C_at (.t (.t (.t (.t (.t (.t .h)))))) (fun hp => V_lenR (l := a_m.Log.length) sl45 (.tmp rfl rfl) (crd_len hp)) ?_
        refine C_on (t := 63) rfl rfl rfl ?_
        refine C_val (V_leq (i := (a_m.Log.length : Int)) (j := 1000) (.tmp rfl rfl) (.int _ _)) ?_
        refine C_val (V_pick (b := true) (u := (.bool (decide (((a_m.Log.length : Int) : Int) ≤ 1000)))) (v := (.bool false)) (.tmp rfl rfl) (.tmp rfl rfl) (.bool _)) ?_
        refine Cm (.bool (decide (((a_m.Log.length : Int) : Int) ≤ 1000))) rfl rfl ?_
        rcases Bool.eq_false_or_eq_true (decide (((a_m.Log.length : Int) : Int) ≤ 1000)) with hg42 | hg42
        · rw [hg42]
          try rw [hg42] at hF; dsimp only [cond_true, cond_false] at hF
          refine C_on (t := 69) rfl rfl rfl ?_
          refine C_val (V_fieldAddr (off := 9) fd47_7 (.tmp rfl rfl)) ?_
          refine C_on (t := 69) rfl rfl rfl ?_
          refine C_at .h (fun hp => V_load (v := v0_9.v) ag22 (.tmp rfl rfl) hp.2 rfl rfl) ?_
          refine C_on (t := 69) rfl rfl rfl ?_
          refine C_at (.t (.t (.t (.t (.t (.t (.t .h))))))) (fun hp => V_lenR (l := a_m.Times.length) sl22 (.tmp rfl rfl) (crd_len hp)) ?_
          refine C_on (t := 69) rfl rfl rfl ?_
          refine C_val (V_fieldAddr (off := 8) fd47_6 (.tmp rfl rfl)) ?_
          refine C_on (t := 69) rfl rfl rfl ?_
          refine C_at .h (fun hp => V_load (v := v0_8.v) ag45 (.tmp rfl rfl) hp.2 rfl rfl) ?_
          refine C_on (t := 69) rfl rfl rfl ?_
          refine C_at (.t (.t (.t (.t (.t (.t .h)))))) (fun hp => V_lenR (l := a_m.Log.length) sl45 (.tmp rfl rfl) (crd_len hp)) ?_
          refine C_on (t := 69) rfl rfl rfl ?_
          refine C_val (V_eql (i := (a_m.Times.length : Int)) (j := (a_m.Log.length : Int)) (.tmp rfl rfl) (.tmp rfl rfl)) ?_
          refine C_val (V_pick (b := true) (u := (.bool (((a_m.Times.length : Int) : Int) == (a_m.Log.length : Int)))) (v := (.bool false)) (.tmp rfl rfl) (.tmp rfl rfl) (.bool _)) ?_
          refine Cm (.bool (((a_m.Times.length : Int) : Int) == (a_m.Log.length : Int))) rfl rfl ?_
          rcases Bool.eq_false_or_eq_true (((a_m.Times.length : Int) : Int) == (a_m.Log.length : Int)) with hg43 | hg43
          · rw [hg43]
            try rw [hg43] at hF; dsimp only [cond_true, cond_false] at hF
            refine C_on (t := 78) rfl rfl rfl ?_
            refine C_val (V_fieldAddr (off := 9) fd47_7 (.tmp rfl rfl)) ?_
            refine C_on (t := 78) rfl rfl rfl ?_
            refine C_at .h (fun hp => V_load (v := v0_9.v) ag22 (.tmp rfl rfl) hp.2 rfl rfl) ?_
            refine C_on (t := 78) rfl rfl rfl ?_
            obtain ⟨r44, hx45, hF⟩ := bind_some hF
            refine C_x0 (.rd (.t (.t (.t (.t (.t (.t (.t .h))))))) rfl .nil) (X_callS cf60 (.cons (.tmp rfl rfl) .nil) (s_l18Times_ok a_m.Times v0_9 _ hx45)) (fun _ => ?_)
            refine C_val (V_pick (b := true) (u := (.bool r44)) (v := (.bool false)) (.tmp rfl rfl) (.tmp rfl rfl) (.bool _)) ?_
            refine Cm (.bool r44) rfl rfl ?_
            rcases Bool.eq_false_or_eq_true r44 with hg47 | hg47
            · rw [hg47]
              try rw [hg47] at hF; dsimp only [cond_true, cond_false] at hF
              refine C_on (t := 83) rfl rfl rfl ?_
              refine C_val (V_fieldAddr (off := 10) fd47_8 (.tmp rfl rfl)) ?_
              refine C_on (t := 83) rfl rfl rfl ?_
              refine C_at .h (fun hp => V_load (v := (.int .i64 a_m.Spent)) ag3 (.tmp rfl rfl) hp.2 rfl rfl) ?_
              refine C_on (t := 83) rfl rfl rfl ?_
              obtain ⟨r48, hx49, hF⟩ := bind_some hF
              refine C_x0 .nil (X_callS cf59 (.cons (.tmp rfl rfl) (.cons (.int _ _) (.cons (.int _ _) .nil))) (s_l1In_ok a_m.Spent 0 1000000 _ hx49)) (fun _ => ?_)
              refine C_val (V_pick (b := true) (u := (.bool r48)) (v := (.bool false)) (.tmp rfl rfl) (.tmp rfl rfl) (.bool _)) ?_
              refine Cm (.bool r48) rfl rfl ?_
              rcases Bool.eq_false_or_eq_true r48 with hg51 | hg51
              · rw [hg51]
                try rw [hg51] at hF; dsimp only [cond_true, cond_false] at hF
                refine C_on (t := 88) rfl rfl rfl ?_
                refine C_val (V_fieldAddr (off := 11) fd47_9 (.tmp rfl rfl)) ?_
                refine C_on (t := 88) rfl rfl rfl ?_
                refine C_at .h (fun hp => V_load (v := v0_11.v) ag32 (.tmp rfl rfl) hp.2 rfl rfl) ?_
                refine C_on (t := 88) rfl rfl rfl ?_
                refine C_at (.t (.t (.t (.t (.t (.t (.t (.t .h)))))))) (fun hp => V_lenR (l := a_m.Results.length) sl32 (.tmp rfl rfl) (crd_len hp)) ?_
                refine C_on (t := 88) rfl rfl rfl ?_
                refine C_val (V_leq (i := (a_m.Results.length : Int)) (j := 100) (.tmp rfl rfl) (.int _ _)) ?_
                refine C_val (V_pick (b := true) (u := (.bool (decide (((a_m.Results.length : Int) : Int) ≤ 100)))) (v := (.bool false)) (.tmp rfl rfl) (.tmp rfl rfl) (.bool _)) ?_
                refine Ca (.bool (decide (((a_m.Results.length : Int) : Int) ≤ 100))) rfl rfl ?_
                refine C_nil ?_
                obtain rfl := Option.some.inj hF
                exact ⟨_, _, rfl, (EqL.cons rfl (EqL.nil)).eq, (.sel .nil)⟩
              rw [hg51]
              try rw [hg51] at hF; dsimp only [cond_true, cond_false] at hF
              iterate 4 refine C_off (t := 88) rfl rfl rfl ?_
              refine C_val (V_pick (b := false) (u := undef) (v := (.bool false)) (.tmp rfl rfl) (.tmp rfl rfl) (.bool _)) ?_
              refine Ca (.bool false) rfl rfl ?_
              refine C_nil ?_
              obtain rfl := Option.some.inj hF
              exact ⟨_, _, rfl, (EqL.cons rfl (EqL.nil)).eq, (.sel .nil)⟩
            rw [hg47]
            try rw [hg47] at hF; dsimp only [cond_true, cond_false] at hF
            iterate 3 refine C_off (t := 83) rfl rfl rfl ?_
            refine C_val (V_pick (b := false) (u := undef) (v := (.bool false)) (.tmp rfl rfl) (.tmp rfl rfl) (.bool _)) ?_
            refine Cm (.bool false) rfl rfl ?_
            iterate 4 refine C_off (t := 88) rfl rfl rfl ?_
            refine C_val (V_pick (b := false) (u := undef) (v := (.bool false)) (.tmp rfl rfl) (.tmp rfl rfl) (.bool _)) ?_
            refine Ca (.bool false) rfl rfl ?_
            refine C_nil ?_
            obtain rfl := Option.some.inj hF
            exact ⟨_, _, rfl, (EqL.cons rfl (EqL.nil)).eq, (.sel .nil)⟩
          rw [hg43]
          try rw [hg43] at hF; dsimp only [cond_true, cond_false] at hF
          iterate 3 refine C_off (t := 78) rfl rfl rfl ?_
          refine C_val (V_pick (b := false) (u := undef) (v := (.bool false)) (.tmp rfl rfl) (.tmp rfl rfl) (.bool _)) ?_
          refine Cm (.bool false) rfl rfl ?_
          iterate 3 refine C_off (t := 83) rfl rfl rfl ?_
          refine C_val (V_pick (b := false) (u := undef) (v := (.bool false)) (.tmp rfl rfl) (.tmp rfl rfl) (.bool _)) ?_
          refine Cm (.bool false) rfl rfl ?_
          iterate 4 refine C_off (t := 88) rfl rfl rfl ?_
          refine C_val (V_pick (b := false) (u := undef) (v := (.bool false)) (.tmp rfl rfl) (.tmp rfl rfl) (.bool _)) ?_
          refine Ca (.bool false) rfl rfl ?_
          refine C_nil ?_
          obtain rfl := Option.some.inj hF
          exact ⟨_, _, rfl, (EqL.cons rfl (EqL.nil)).eq, (.sel .nil)⟩
        rw [hg42]
        try rw [hg42] at hF; dsimp only [cond_true, cond_false] at hF
        iterate 7 refine C_off (t := 69) rfl rfl rfl ?_
        refine C_val (V_pick (b := false) (u := undef) (v := (.bool false)) (.tmp rfl rfl) (.tmp rfl rfl) (.bool _)) ?_
        refine Cm (.bool false) rfl rfl ?_
        iterate 3 refine C_off (t := 78) rfl rfl rfl ?_
        refine C_val (V_pick (b := false) (u := undef) (v := (.bool false)) (.tmp rfl rfl) (.tmp rfl rfl) (.bool _)) ?_
        refine Cm (.bool false) rfl rfl ?_
        iterate 3 refine C_off (t := 83) rfl rfl rfl ?_
        refine C_val (V_pick (b := false) (u := undef) (v := (.bool false)) (.tmp rfl rfl) (.tmp rfl rfl) (.bool _)) ?_
        refine Cm (.bool false) rfl rfl ?_
        iterate 4 refine C_off (t := 88) rfl rfl rfl ?_
        refine C_val (V_pick (b := false) (u := undef) (v := (.bool false)) (.tmp rfl rfl) (.tmp rfl rfl) (.bool _)) ?_
        refine Ca (.bool false) rfl rfl ?_
        refine C_nil ?_
        obtain rfl := Option.some.inj hF
        exact ⟨_, _, rfl, (EqL.cons rfl (EqL.nil)).eq, (.sel .nil)⟩
      rw [hg41]
      try rw [hg41] at hF; dsimp only [cond_true, cond_false] at hF
      iterate 4 refine C_off (t := 63) rfl rfl rfl ?_
      refine C_val (V_pick (b := false) (u := undef) (v := (.bool false)) (.tmp rfl rfl) (.tmp rfl rfl) (.bool _)) ?_
      refine Cm (.bool false) rfl rfl ?_
      iterate 7 refine C_off (t := 69) rfl rfl rfl ?_
      refine C_val (V_pick (b := false) (u := undef) (v := (.bool false)) (.tmp rfl rfl) (.tmp rfl rfl) (.bool _)) ?_
      refine Cm (.bool false) rfl rfl ?_
      iterate 3 refine C_off (t := 78) rfl rfl rfl ?_
      refine C_val (V_pick (b := false) (u := undef) (v := (.bool false)) (.tmp rfl rfl) (.tmp rfl rfl) (.bool _)) ?_
      refine Cm (.bool false) rfl rfl ?_
      iterate 3 refine C_off (t := 83) rfl rfl rfl ?_
      refine C_val (V_pick (b := false) (u := undef) (v := (.bool false)) (.tmp rfl rfl) (.tmp rfl rfl) (.bool _)) ?_
      refine Cm (.bool false) rfl rfl ?_
      iterate 4 refine C_off (t := 88) rfl rfl rfl ?_
      refine C_val (V_pick (b := false) (u := undef) (v := (.bool false)) (.tmp rfl rfl) (.tmp rfl rfl) (.bool _)) ?_
      refine Ca (.bool false) rfl rfl ?_
      refine C_nil ?_
      obtain rfl := Option.some.inj hF
      exact ⟨_, _, rfl, (EqL.cons rfl (EqL.nil)).eq, (.sel .nil)⟩
    rintro _ _ ⟨c52, g53, rfl, rfl, hE⟩
    replace hF := hO37
    clear hO37
    try dsimp only at hF
    refine K_ent hE ?_
    refine CW_ret ?_
    obtain rfl := Option.some.inj hF
    exact End_ret () (.tmp rfl rfl .nil) rfl (.sel .nil)
  obtain ⟨hk31, hx32, hd33⟩ := drop_cons hd30
  have hfe34 : (decide (((k27 : Int) : Int) < (a_m.Log.length : Int))) = true := decide_eq_true (by omega)
  rw [s_IsMediator_L1] at hF
  refine K_in (K_region (Cm (.int .i64 (k27 : Int)) rfl rfl ?_))
  refine C_val (V_fieldAddr (off := 8) fd47_6 (.tmp rfl rfl)) ?_
  refine C_at .h (fun hp => V_load (v := v0_8.v) ag45 (.tmp rfl rfl) hp.2 rfl rfl) ?_
  refine C_at (.t (.t (.t (.t (.t (.t .h)))))) (fun hp => V_lenR (l := a_m.Log.length) sl45 (.tmp rfl rfl) (crd_len hp)) ?_
  refine C_val (V_lss (i := (k27 : Int)) (j := (a_m.Log.length : Int)) (.tmp rfl rfl) (.tmp rfl rfl)) ?_
  refine C_nil (CW_cond (b := (decide (((k27 : Int) : Int) < (a_m.Log.length : Int)))) (.tmp rfl rfl) (fun _ => ?_) (fun hb => absurd (hfe34.symm.trans hb) (by decide)))
  refine CW_skip (K_block (K_draw [0, 1, 2, 3, 4, 5, 6, 7, 8, 9, 10] [0, 1, 0, 4, 0, 16, 0, 112, 240, 511, 1023] [9] mixed (by decide +kernel) ?_))
  refine D_val rfl .no (fun ha => V_fieldAddr (off := 0) fd47_0 (EN ha (.tmp rfl rfl) rfl)) ?_
  refine D_at rfl .no .h rfl (fun ha hp => V_load (v := v0_0.v) ag22 (EN ha (.tmp rfl rfl) rfl) hp.2 rfl rfl) ?_
  refine D_val rfl .no (fun ha => V_fieldAddr (off := 1) fd47_1 (EN ha (.tmp rfl rfl) rfl)) ?_
  refine D_at rfl .no .h rfl (fun ha hp => V_load (v := v0_1.v) ag37 (EN ha (.tmp rfl rfl) rfl) hp.2 rfl rfl) ?_
  refine D_val rfl .no (fun ha => V_fieldAddr (off := 8) fd47_6 (EN ha (.tmp rfl rfl) rfl)) ?_
  refine D_at rfl .no .h rfl (fun ha hp => V_load (v := v0_8.v) ag45 (EN ha (.tmp rfl rfl) rfl) hp.2 rfl rfl) ?_
  refine Dm (.int .i64 (k27 : Int)) rfl rfl rfl rfl ?_
  refine D_idx (a := x29) sl45 ty105.sz rfl .no (.tmp rfl rfl) (.tmp rfl rfl) rfl rfl (.t (.t (.t (.t (.t (.t .h)))))) (Int.natCast_nonneg k27) hx32 (fun k54 j55 => ?_)
  refine D_ldA1 (ul105_0_105 x29) ag105 ty105.sz rfl rfl .no (.tmp rfl rfl) rfl .h la105_0_105 (fun p56 => ?_)
  obtain ⟨r57, hx58, hF⟩ := bind_some hF
  refine D_act0 rfl rfl .no (.rd (.t (.t (.t .h))) rfl (.rd (.t (.t (.t (.t .h)))) rfl (.rd .h rfl .nil))) .nil (fun ha => X_callS cf58 (.cons (EN ha (.tmp rfl rfl) rfl) (.cons (EN ha (.tmp rfl rfl) rfl) (.cons (EN ha (.tmp rfl rfl) rfl) .nil))) (s_IsAccess_ok a_m.Schema v0_0 a_m.Methods v0_1 x29 p56 _ hx58)) (fun _ => ?_)
  refine D_val rfl .no (fun ha => V_not (b := r57) (EN ha (.tmp rfl rfl) rfl)) ?_
  refine D_nil (CW_cond (b := (!r57)) (.tmp rfl rfl) (fun hb61 => ?_) (fun hb61 => ?_))
  · rw [if_pos hb61] at hF
    refine K_region (C_val (V_assign (v := (.bool false)) (.bool _)) ?_)
    refine C_nil (CW_ret ?_)
    obtain rfl := Option.some.inj hF
    exact End_ret () (.tmp rfl rfl .nil) rfl (.sel .nil)
  rw [if_neg (by rw [hb61]; exact Bool.false_ne_true)] at hF
  refine CW_skip (CW_region (Cm (.int .i64 (k27 : Int)) rfl rfl ?_))
  refine C_val (V_add (i := (k27 : Int)) (j := 1) (.tmp rfl rfl) (.int _ _)) ?_
  refine Ca (.int .i64 (IntKind.i64.wrap ((k27 : Int) + 1))) rfl rfl ?_
  refine C_nil ?_
  have hw60 : IntKind.i64.wrap ((k27 : Int) + 1) = ((k27 + 1 : Nat) : Int) := by rw [wrap_in (by omega) (by omega)]; rfl
  rw [hw60]
  exact ⟨_, Nat.lt_succ_self _, _, k27 + 1, rest28, rfl, (EqL.cons rfl (EqL.cons rfl (EqL.nil))).eq, hd33, (.sel (.rd (.t (.t .h)) rfl (.rd (.t (.t (.t .h))) rfl (.rd (.t (.t (.t (.t .h)))) rfl (.rd (.t (.t (.t (.t (.t .h))))) rfl (.rd (.t (.t (.t (.t (.t (.t .h)))))) rfl (.rd (.t (.t (.t (.t (.t (.t (.t .h))))))) rfl (.rd (.t (.t (.t (.t (.t (.t (.t (.t .h)))))))) rfl (.rd (.t (.t (.t (.t (.t (.t (.t (.t (.t .h))))))))) rfl (.rd (.t (.t (.t (.t (.t (.t (.t (.t (.t (.t .h)))))))))) rfl .nil)))))))))), hF⟩

/-! spec.FormatInt -/
def s_FormatInt_L1 : Nat → Int → (List UInt8) → Option ((List UInt8))
  | 0, _, _ => none
  | m5 + 1, c3, c4 => if ((c3 : Int) != 0) then (
      if (decide (((Int.tmod c3 10) : Int) < 0)) then (
        (cat [(u8of (IntKind.i64.wrap (48 + (IntKind.i64.wrap (-(Int.tmod c3 10))))))] c4).bind fun x14 =>
        s_FormatInt_L1 m5 (IntKind.i64.wrap (Int.tdiv c3 10)) x14)
      else (
        (cat [(u8of (IntKind.i64.wrap (48 + (Int.tmod c3 10))))] c4).bind fun x19 =>
        s_FormatInt_L1 m5 (IntKind.i64.wrap (Int.tdiv c3 10)) x19))
    else (
      some c4)
def s_FormatInt (fuel : Nat) (a_n : Int) : Option ((List UInt8)) :=
  if ((a_n : Int) == 0) then (
    some [48])
  else (
    (s_FormatInt_L1 fuel a_n []).bind fun o1 =>
    match o1 with
    | c25 => if (decide ((a_n : Int) < 0)) then (
        (cat [45] c25).bind fun x26 =>
        some x26)
      else (
        some c25))
theorem s_FormatInt_ok (fuel : Nat) (a_n : Int) (R : (List UInt8)) (hF : s_FormatInt fuel a_n = some R) :
    Fw.Spec Tryz.prog 20 [(.int .i64 a_n)] [] (fun _ : Unit => (sv R)) (fun _ => []) := by
  refine Spec_enter (n := 31) Tryz.func20 rfl rfl (rs := [.tmp 2]) rfl rfl rfl ?_
  intro H0 F0
  unfold s_FormatInt at hF
  refine K_region (C_val (V_assign (v := (sv [])) (.sv _)) ?_)
  refine C_nil (K_in (K_region (Cm (.int .i64 a_n) rfl rfl ?_)))
  refine C_val (V_eql (i := a_n) (j := 0) (.tmp rfl rfl) (.int _ _)) ?_
  refine C_nil (CW_cond (b := ((a_n : Int) == 0)) (.tmp rfl rfl) (fun hb32 => ?_) (fun hb32 => ?_))
  · rw [if_pos hb32] at hF
    refine K_region (C_val (V_assign (v := (sv [48])) (.sv _)) ?_)
    refine C_nil (CW_ret ?_)
    obtain rfl := Option.some.inj hF
    exact End_ret () (.tmp rfl rfl .nil) rfl (.sel .nil)
  rw [if_neg (by rw [hb32]; exact Bool.false_ne_true)] at hF
  refine CW_skip (K_region (C_val (V_assign (v := (sv [])) (.sv _)) ?_))
  refine C_nil (K_region (Cm (.int .i64 a_n) rfl rfl ?_))
  refine C_val (V_lss (i := a_n) (j := 0) (.tmp rfl rfl) (.int _ _)) ?_
  refine Ca (.bool (decide ((a_n : Int) < 0))) rfl rfl ?_
  refine C_nil ?_
  obtain ⟨o1, hio1, hO2⟩ := bind_some hF
  refine K_cut (fun f' cs' => ∃ (c25 : List UInt8) (g : Fr), c25 = o1 ∧ f' = updL g [(3, (sv c25)), (4, (.bool (decide ((a_n : Int) < 0))))] ∧ Ent cs' []) ?_ ?_
  · replace hF := hio1
    refine CW_block (CW_loop (m := fuel) (fun m5 f' cs' => ∃ (g : Fr) (c3 : Int) (c4 : List UInt8), f' = updL g [(0, (.int .i64 c3)), (3, (sv c4)), (4, (.bool (decide ((a_n : Int) < 0))))] ∧ Ent cs' [] ∧ s_FormatInt_L1 m5 c3 c4 = some o1) ⟨_, _, _, (EqL.cons rfl (EqL.cons rfl (EqL.cons rfl (EqL.nil)))).eq, (.sel .nil), hF⟩ ?_)
    clear hF
    rintro m5 _ _ ⟨g6, c3, c4, rfl, hE, hF⟩
    refine K_ent hE ?_
    clear hE
    rcases m5 with _ | m5
    · rw [s_FormatInt_L1] at hF
      exact absurd hF (by simp)
    rw [s_FormatInt_L1] at hF
    refine K_in (K_region (Cm (.int .i64 c3) rfl rfl ?_))
    refine C_val (V_neq (i := c3) (j := 0) (.tmp rfl rfl) (.int _ _)) ?_
    refine C_nil (CW_cond (b := ((c3 : Int) != 0)) (.tmp rfl rfl) (fun hb24 => ?_) (fun hb24 => ?_))
    · rw [if_pos hb24] at hF
      refine CW_skip (CW_block (K_region (Cm (.int .i64 c3) rfl rfl ?_)))
      refine C_val (V_rem (i := c3) (j := 10) (.tmp rfl rfl) (.int _ _) (by decide)) ?_
      refine Ca (.int .i64 (Int.tmod c3 10)) rfl rfl ?_
      refine C_nil (K_in (K_region (Cm (.int .i64 (Int.tmod c3 10)) rfl rfl ?_)))
      refine C_val (V_lss (i := (Int.tmod c3 10)) (j := 0) (.tmp rfl rfl) (.int _ _)) ?_
      refine C_nil (CW_cond (b := (decide (((Int.tmod c3 10) : Int) < 0))) (.tmp rfl rfl) (fun hb23 => ?_) (fun hb23 => ?_))
      · rw [if_pos hb23] at hF
        refine CW_region (Cm (.int .i64 (Int.tmod c3 10)) rfl rfl ?_)
        refine C_val (V_neg (i := (Int.tmod c3 10)) (.tmp rfl rfl)) ?_
        refine Ca (.int .i64 (IntKind.i64.wrap (-(Int.tmod c3 10)))) rfl rfl ?_
        refine C_nil (K_region (Cm (.int .i64 (IntKind.i64.wrap (-(Int.tmod c3 10)))) rfl rfl ?_))
        refine C_val (V_add (i := 48) (j := (IntKind.i64.wrap (-(Int.tmod c3 10)))) (.int _ _) (.tmp rfl rfl)) ?_
        refine C_val (V_convU8 (i := (IntKind.i64.wrap (48 + (IntKind.i64.wrap (-(Int.tmod c3 10)))))) ik3 ik5 (.tmp rfl rfl)) ?_
        refine C_new rfl (N_buildSliceT (g := true) sl107 ty5 (.cons (.tmp rfl rfl) .nil) (vs := [(.int .u8 ((u8of (IntKind.i64.wrap (48 + (IntKind.i64.wrap (-(Int.tmod c3 10)))))).toNat : Int))]) rfl rfl rfl (by intro v hv; simp at hv; rcases hv with rfl <;> rfl)) (fun k13 => ?_)
        refine C_conv (.cons .h .nil) (own_lit (Ro := (roE rdU8)) (E := 5) (F := ([] ++ [])) (xs := ([(u8of (IntKind.i64.wrap (48 + (IntKind.i64.wrap (-(Int.tmod c3 10))))))] : List UInt8)) (MkL_cons (Mk_pure (fun _ => rfl)) MkL_nil apps) rfl rfl) apps ?_
        refine C_at .h (fun hp => V_bytes1 (u := (u8of (IntKind.i64.wrap (48 + (IntKind.i64.wrap (-(Int.tmod c3 10))))))) sl107 ik5 str9 ty5.sz (.tmp rfl rfl) hp) ?_
        refine Cm (sv c4) rfl rfl ?_
        obtain ⟨x14, hx15, hF⟩ := bind_some hF
        obtain ⟨hq17, hz16⟩ := cat_some hx15
        refine C_val (V_concatN (s := [(u8of (IntKind.i64.wrap (48 + (IntKind.i64.wrap (-(Int.tmod c3 10))))))]) (t := c4) (u := x14) (.tmp rfl rfl) (.tmp rfl rfl) hx15) ?_
        refine Ca (sv x14) rfl rfl ?_
        refine C_nil (CW_region (Cm (.int .i64 c3) rfl rfl ?_))
        refine C_val (V_quo (i := c3) (j := 10) (.tmp rfl rfl) (.int _ _) (by decide)) ?_
        refine Ca (.int .i64 (IntKind.i64.wrap (Int.tdiv c3 10))) rfl rfl ?_
        refine C_nil ?_
        exact ⟨m5, Nat.lt_succ_self _, _, _, _, (EqL.cons rfl (EqL.cons rfl (EqL.cons rfl (EqL.nil)))).eq, (.sel .nil), hF⟩
      rw [if_neg (by rw [hb23]; exact Bool.false_ne_true)] at hF
      refine CW_skip (K_region (Cm (.int .i64 (Int.tmod c3 10)) rfl rfl ?_))
      refine C_val (V_add (i := 48) (j := (Int.tmod c3 10)) (.int _ _) (.tmp rfl rfl)) ?_
      refine C_val (V_convU8 (i := (IntKind.i64.wrap (48 + (Int.tmod c3 10)))) ik3 ik5 (.tmp rfl rfl)) ?_
      refine C_new rfl (N_buildSliceT (g := true) sl107 ty5 (.cons (.tmp rfl rfl) .nil) (vs := [(.int .u8 ((u8of (IntKind.i64.wrap (48 + (Int.tmod c3 10)))).toNat : Int))]) rfl rfl rfl (by intro v hv; simp at hv; rcases hv with rfl <;> rfl)) (fun k18 => ?_)
      refine C_conv (.cons .h .nil) (own_lit (Ro := (roE rdU8)) (E := 5) (F := ([] ++ [])) (xs := ([(u8of (IntKind.i64.wrap (48 + (Int.tmod c3 10))))] : List UInt8)) (MkL_cons (Mk_pure (fun _ => rfl)) MkL_nil apps) rfl rfl) apps ?_
      refine C_at .h (fun hp => V_bytes1 (u := (u8of (IntKind.i64.wrap (48 + (Int.tmod c3 10))))) sl107 ik5 str9 ty5.sz (.tmp rfl rfl) hp) ?_
      refine Cm (sv c4) rfl rfl ?_
      obtain ⟨x19, hx20, hF⟩ := bind_some hF
      obtain ⟨hq22, hz21⟩ := cat_some hx20
      refine C_val (V_concatN (s := [(u8of (IntKind.i64.wrap (48 + (Int.tmod c3 10))))]) (t := c4) (u := x19) (.tmp rfl rfl) (.tmp rfl rfl) hx20) ?_
      refine Ca (sv x19) rfl rfl ?_
      refine C_nil (CW_region (Cm (.int .i64 c3) rfl rfl ?_))
      refine C_val (V_quo (i := c3) (j := 10) (.tmp rfl rfl) (.int _ _) (by decide)) ?_
      refine Ca (.int .i64 (IntKind.i64.wrap (Int.tdiv c3 10))) rfl rfl ?_
      refine C_nil ?_
      exact ⟨m5, Nat.lt_succ_self _, _, _, _, (EqL.cons rfl (EqL.cons rfl (EqL.cons rfl (EqL.nil)))).eq, (.sel .nil), hF⟩
    rw [if_neg (by rw [hb24]; exact Bool.false_ne_true)] at hF
    refine CW_exit ?_
    iterate 2 refine CThen_exit ?_
    refine CIn_self ?_
    obtain rfl := Option.some.inj hF
    exact ⟨_, _, rfl, (EqL.cons rfl (EqL.cons rfl (EqL.nil))).eq, (.sel .nil)⟩
  rintro _ _ ⟨c25, g31, rfl, rfl, hE⟩
  replace hF := hO2
  clear hO2
  try dsimp only at hF
  refine K_ent hE ?_
  refine K_in (K_region (Cm (.bool (decide ((a_n : Int) < 0))) rfl rfl ?_))
  refine C_nil (CW_cond (b := (decide ((a_n : Int) < 0))) (.tmp rfl rfl) (fun hb30 => ?_) (fun hb30 => ?_))
  · rw [if_pos hb30] at hF
    refine K_region (Cm (sv c25) rfl rfl ?_)
    obtain ⟨x26, hx27, hF⟩ := bind_some hF
    obtain ⟨hq29, hz28⟩ := cat_some hx27
    refine C_val (V_concatN (s := [45]) (t := c25) (u := x26) (.sv _) (.tmp rfl rfl) hx27) ?_
    refine Ca (sv x26) rfl rfl ?_
    refine C_nil (CW_ret ?_)
    obtain rfl := Option.some.inj hF
    exact End_ret () (.tmp rfl rfl .nil) rfl (.sel .nil)
  rw [if_neg (by rw [hb30]; exact Bool.false_ne_true)] at hF
  refine CW_skip (K_region (Cm (sv c25) rfl rfl ?_))
  refine Ca (sv c25) rfl rfl ?_
  refine C_nil (CW_ret ?_)
  obtain rfl := Option.some.inj hF
  exact End_ret () (.tmp rfl rfl .nil) rfl (.sel .nil)

/-! spec.MediatorLine -/
def s_MediatorLine (fuel : Nat) (a_m : Mediator) : Option ((List UInt8)) :=
  (s_IsMediator a_m).bind fun r2 =>
  if (!r2) then (
    some [])
  else (
    (s_FormatInt fuel a_m.Now).bind fun r5 =>
    (cat [116, 105, 109, 101, 32] r5).bind fun x8 =>
    (cat x8 [32, 118, 101, 114, 115, 105, 111, 110, 32]).bind fun x12 =>
    (s_FormatInt fuel a_m.Source.Version).bind fun r16 =>
    (cat x12 r16).bind fun x19 =>
    (cat x19 [32, 102, 97, 99, 116, 115, 32]).bind fun x23 =>
    (s_FormatInt fuel (a_m.Source.Facts.length : Int)).bind fun r27 =>
    (cat x23 r27).bind fun x30 =>
    (cat x30 [32, 99, 97, 99, 104, 101, 100, 32]).bind fun x34 =>
    (s_FormatInt fuel (a_m.Cache.Entries.length : Int)).bind fun r38 =>
    (cat x34 r38).bind fun x41 =>
    (cat x41 [32, 99, 97, 108, 108, 115, 32]).bind fun x45 =>
    (s_FormatInt fuel (a_m.Log.length : Int)).bind fun r49 =>
    (cat x45 r49).bind fun x52 =>
    (cat x52 [32, 115, 112, 101, 110, 116, 32]).bind fun x56 =>
    (s_FormatInt fuel a_m.Spent).bind fun r60 =>
    (cat x56 r60).bind fun x63 =>
    some x63)
theorem s_MediatorLine_ok (fuel : Nat) (a_m : Mediator) (v0_0 : Sv) (v0_1 : Sv) (v0_2 : Sv) (v0_3 : Sv) (v0_5 : Sv) (v0_8 : Sv) (v0_9 : Sv) (v0_11 : Sv) (R : (List UInt8)) (hF : s_MediatorLine fuel a_m = some R) :
    Fw.Spec Tryz.prog 6 [(.agg [v0_0.v, v0_1.v, v0_2.v, v0_3.v, (.int .i64 a_m.Source.Version), v0_5.v, (.int .i64 a_m.Cache.Age), (.int .i64 a_m.Now), v0_8.v, v0_9.v, (.int .i64 a_m.Spent), v0_11.v].toArray)] [crd (RdS 3 rdInt) v0_0.v a_m.Schema, crd (RdS 108 rd108) v0_1.v a_m.Methods, crd (RdS 110 rd110) v0_2.v a_m.Rules, crd (RdS 80 rd80) v0_3.v a_m.Source.Facts, crd (RdS 147 rd147) v0_5.v a_m.Cache.Entries, crd (RdS 105 rd105) v0_8.v a_m.Log, crd (RdS 3 rdInt) v0_9.v a_m.Times, crd (RdS 83 (RdS 22 (RdS 3 rdInt))) v0_11.v a_m.Results] (fun _ : Unit => (sv R)) (fun _ => []) := by
  refine Spec_enter (n := 41) Tryz.func6 rfl rfl (rs := [.tmp 2]) rfl rfl rfl ?_
  intro H0 F0
  unfold s_MediatorLine at hF
  refine K_region (C_newR rfl (N_box (g := false) (v := (.agg [v0_0.v, v0_1.v, v0_2.v, v0_3.v, (.int .i64 a_m.Source.Version), v0_5.v, (.int .i64 a_m.Cache.Age), (.int .i64 a_m.Now), v0_8.v, v0_9.v, (.int .i64 a_m.Spent), v0_11.v].toArray)) ty47.sz (.tmp rfl rfl) rfl) (fun k1 => ?_))
  refine C_val (V_assign (v := (sv [])) (.sv _)) ?_
  refine C_nil (K_in (K_region (C_at .h (fun hp => V_loadBox ag47 ty47.sz rfl (.tmp rfl rfl) hp.2 rfl) ?_)))
  obtain ⟨r2, hx3, hF⟩ := bind_some hF
  refine C_x0 (.rd (.t .h) rfl (.rd (.t (.t .h)) rfl (.rd (.t (.t (.t .h))) rfl (.rd (.t (.t (.t (.t .h)))) rfl (.rd (.t (.t (.t (.t (.t .h))))) rfl (.rd (.t (.t (.t (.t (.t (.t .h)))))) rfl (.rd (.t (.t (.t (.t (.t (.t (.t .h))))))) rfl (.rd (.t (.t (.t (.t (.t (.t (.t (.t .h)))))))) rfl .nil)))))))) (X_callS cf19 (.cons (.tmp rfl rfl) .nil) (s_IsMediator_ok a_m v0_0 v0_1 v0_2 v0_3 v0_5 v0_8 v0_9 v0_11 _ hx3)) (fun _ => ?_)
  refine C_val (V_not (b := r2) (.tmp rfl rfl)) ?_
  refine C_nil (CW_cond (b := (!r2)) (.tmp rfl rfl) (fun hb67 => ?_) (fun hb67 => ?_))
  · rw [if_pos hb67] at hF
    refine K_region (C_val (V_assign (v := (sv [])) (.sv _)) ?_)
    refine C_nil (CW_ret ?_)
    obtain rfl := Option.some.inj hF
    exact End_ret () (.tmp rfl rfl .nil) rfl (.sel .nil)
  rw [if_neg (by rw [hb67]; exact Bool.false_ne_true)] at hF
  refine CW_skip (K_draw [0, 1, 5, 6, 7, 11, 12, 13, 14, 18, 19, 20, 21, 25, 26, 27, 31, 32, 2, 3, 4, 8, 9, 10, 15, 16, 17, 22, 23, 24, 28, 29, 30, 33, 34, 35] [0, 1, 3, 7, 15, 0, 32, 96, 231, 511, 1023, 0, 2048, 6144, 14336, 31207, 65535, 131071, 0, 262144, 786432, 1835008, 3996135, 8388607, 16777215, 0, 33554432, 100663296, 243071463, 536870911, 1073741823, 0, 2147483648, 6953957863, 17179869183, 34359738367] [2, 8, 15, 22, 28, 33] mixed (by decide +kernel) ?_)
  refine D_val rfl .no (fun ha => V_fieldAddr (off := 7) fd47_5 (EN ha (.tmp rfl rfl) rfl)) ?_
  refine D_at rfl .no .h rfl (fun ha hp => V_load (v := (.int .i64 a_m.Now)) ag3 (EN ha (.tmp rfl rfl) rfl) hp.2 rfl rfl) ?_
  refine D_val rfl .no (fun ha => V_fieldAddr (off := 3) fd47_3 (EN ha (.tmp rfl rfl) rfl)) ?_
  refine D_val rfl .no (fun ha => V_fieldAddr (off := 1) fd41_1 (EN ha (.tmp rfl rfl) rfl)) ?_
  refine D_at rfl .no .h rfl (fun ha hp => V_load (v := (.int .i64 a_m.Source.Version)) ag3 (EN ha (.tmp rfl rfl) rfl) hp.2 rfl rfl) ?_
  refine D_val rfl .no (fun ha => V_fieldAddr (off := 3) fd47_3 (EN ha (.tmp rfl rfl) rfl)) ?_
  refine D_val rfl .no (fun ha => V_fieldAddr (off := 0) fd41_0 (EN ha (.tmp rfl rfl) rfl)) ?_
  refine D_at rfl .no .h rfl (fun ha hp => V_load (v := v0_3.v) ag39 (EN ha (.tmp rfl rfl) rfl) hp.2 rfl rfl) ?_
  refine D_at rfl .no (.t (.t (.t (.t .h)))) rfl (fun ha hp => V_lenR (l := a_m.Source.Facts.length) sl39 (EN ha (.tmp rfl rfl) rfl) (crd_len hp)) ?_
  refine D_val rfl .no (fun ha => V_fieldAddr (off := 5) fd47_4 (EN ha (.tmp rfl rfl) rfl)) ?_
  refine D_val rfl .no (fun ha => V_fieldAddr (off := 0) fd44_0 (EN ha (.tmp rfl rfl) rfl)) ?_
  refine D_at rfl .no .h rfl (fun ha hp => V_load (v := v0_5.v) ag42 (EN ha (.tmp rfl rfl) rfl) hp.2 rfl rfl) ?_
  refine D_at rfl .no (.t (.t (.t (.t (.t .h))))) rfl (fun ha hp => V_lenR (l := a_m.Cache.Entries.length) sl42 (EN ha (.tmp rfl rfl) rfl) (crd_len hp)) ?_
  refine D_val rfl .no (fun ha => V_fieldAddr (off := 8) fd47_6 (EN ha (.tmp rfl rfl) rfl)) ?_
  refine D_at rfl .no .h rfl (fun ha hp => V_load (v := v0_8.v) ag45 (EN ha (.tmp rfl rfl) rfl) hp.2 rfl rfl) ?_
  refine D_at rfl .no (.t (.t (.t (.t (.t (.t .h)))))) rfl (fun ha hp => V_lenR (l := a_m.Log.length) sl45 (EN ha (.tmp rfl rfl) rfl) (crd_len hp)) ?_
  refine D_val rfl .no (fun ha => V_fieldAddr (off := 10) fd47_8 (EN ha (.tmp rfl rfl) rfl)) ?_
  refine D_at rfl .no .h rfl (fun ha hp => V_load (v := (.int .i64 a_m.Spent)) ag3 (EN ha (.tmp rfl rfl) rfl) hp.2 rfl rfl) ?_
  obtain ⟨r5, hx6, hF⟩ := bind_some hF
  refine D_act0 rfl rfl .no .nil .nil (fun ha => X_callS cf20 (.cons (EN ha (.tmp rfl rfl) rfl) .nil) (s_FormatInt_ok fuel a_m.Now _ hx6)) (fun _ => ?_)
  obtain ⟨x8, hx9, hF⟩ := bind_some hF
  obtain ⟨hq11, hz10⟩ := cat_some hx9
  refine D_val rfl .no (fun ha => V_concatN (s := [116, 105, 109, 101, 32]) (t := r5) (u := x8) (EN ha (.sv _) rfl) (EN ha (.tmp rfl rfl) rfl) hx9) ?_
  obtain ⟨x12, hx13, hF⟩ := bind_some hF
  obtain ⟨hq15, hz14⟩ := cat_some hx13
  refine D_val rfl .no (fun ha => V_concatN (s := x8) (t := [32, 118, 101, 114, 115, 105, 111, 110, 32]) (u := x12) (EN ha (.tmp rfl rfl) rfl) (EN ha (.sv _) rfl) hx13) ?_
  obtain ⟨r16, hx17, hF⟩ := bind_some hF
  refine D_act0 rfl rfl .no .nil .nil (fun ha => X_callS cf20 (.cons (EN ha (.tmp rfl rfl) rfl) .nil) (s_FormatInt_ok fuel a_m.Source.Version _ hx17)) (fun _ => ?_)
  obtain ⟨x19, hx20, hF⟩ := bind_some hF
  obtain ⟨hq22, hz21⟩ := cat_some hx20
  refine D_val rfl .no (fun ha => V_concatN (s := x12) (t := r16) (u := x19) (EN ha (.tmp rfl rfl) rfl) (EN ha (.tmp rfl rfl) rfl) hx20) ?_
  obtain ⟨x23, hx24, hF⟩ := bind_some hF
  obtain ⟨hq26, hz25⟩ := cat_some hx24
  refine D_val rfl .no (fun ha => V_concatN (s := x19) (t := [32, 102, 97, 99, 116, 115, 32]) (u := x23) (EN ha (.tmp rfl rfl) rfl) (EN ha (.sv _) rfl) hx24) ?_
  obtain ⟨r27, hx28, hF⟩ := bind_some hF
  refine D_act0 rfl rfl .no .nil .nil (fun ha => X_callS cf20 (.cons (EN ha (.tmp rfl rfl) rfl) .nil) (s_FormatInt_ok fuel (a_m.Source.Facts.length : Int) _ hx28)) (fun _ => ?_)
  obtain ⟨x30, hx31, hF⟩ := bind_some hF
  obtain ⟨hq33, hz32⟩ := cat_some hx31
  refine D_val rfl .no (fun ha => V_concatN (s := x23) (t := r27) (u := x30) (EN ha (.tmp rfl rfl) rfl) (EN ha (.tmp rfl rfl) rfl) hx31) ?_
  obtain ⟨x34, hx35, hF⟩ := bind_some hF
  obtain ⟨hq37, hz36⟩ := cat_some hx35
  refine D_val rfl .no (fun ha => V_concatN (s := x30) (t := [32, 99, 97, 99, 104, 101, 100, 32]) (u := x34) (EN ha (.tmp rfl rfl) rfl) (EN ha (.sv _) rfl) hx35) ?_
  obtain ⟨r38, hx39, hF⟩ := bind_some hF
  refine D_act0 rfl rfl .no .nil .nil (fun ha => X_callS cf20 (.cons (EN ha (.tmp rfl rfl) rfl) .nil) (s_FormatInt_ok fuel (a_m.Cache.Entries.length : Int) _ hx39)) (fun _ => ?_)
  obtain ⟨x41, hx42, hF⟩ := bind_some hF
  obtain ⟨hq44, hz43⟩ := cat_some hx42
  refine D_val rfl .no (fun ha => V_concatN (s := x34) (t := r38) (u := x41) (EN ha (.tmp rfl rfl) rfl) (EN ha (.tmp rfl rfl) rfl) hx42) ?_
  obtain ⟨x45, hx46, hF⟩ := bind_some hF
  obtain ⟨hq48, hz47⟩ := cat_some hx46
  refine D_val rfl .no (fun ha => V_concatN (s := x41) (t := [32, 99, 97, 108, 108, 115, 32]) (u := x45) (EN ha (.tmp rfl rfl) rfl) (EN ha (.sv _) rfl) hx46) ?_
  obtain ⟨r49, hx50, hF⟩ := bind_some hF
  refine D_act0 rfl rfl .no .nil .nil (fun ha => X_callS cf20 (.cons (EN ha (.tmp rfl rfl) rfl) .nil) (s_FormatInt_ok fuel (a_m.Log.length : Int) _ hx50)) (fun _ => ?_)
  obtain ⟨x52, hx53, hF⟩ := bind_some hF
  obtain ⟨hq55, hz54⟩ := cat_some hx53
  refine D_val rfl .no (fun ha => V_concatN (s := x45) (t := r49) (u := x52) (EN ha (.tmp rfl rfl) rfl) (EN ha (.tmp rfl rfl) rfl) hx53) ?_
  obtain ⟨x56, hx57, hF⟩ := bind_some hF
  obtain ⟨hq59, hz58⟩ := cat_some hx57
  refine D_val rfl .no (fun ha => V_concatN (s := x52) (t := [32, 115, 112, 101, 110, 116, 32]) (u := x56) (EN ha (.tmp rfl rfl) rfl) (EN ha (.sv _) rfl) hx57) ?_
  obtain ⟨r60, hx61, hF⟩ := bind_some hF
  refine D_act0 rfl rfl .no .nil .nil (fun ha => X_callS cf20 (.cons (EN ha (.tmp rfl rfl) rfl) .nil) (s_FormatInt_ok fuel a_m.Spent _ hx61)) (fun _ => ?_)
  obtain ⟨x63, hx64, hF⟩ := bind_some hF
  obtain ⟨hq66, hz65⟩ := cat_some hx64
  refine D_val rfl .no (fun ha => V_concatN (s := x56) (t := r60) (u := x63) (EN ha (.tmp rfl rfl) rfl) (EN ha (.tmp rfl rfl) rfl) hx64) ?_
  refine Da (sv x63) rfl rfl rfl rfl ?_
  refine D_nil (CW_ret ?_)
  obtain rfl := Option.some.inj hF
  exact End_ret () (.tmp rfl rfl .nil) rfl (.sel .nil)

/-! impl.within -/
def i_within (a_n : Int) (a_low : Int) (a_high : Int) : Option (Bool) :=
  some ((decide ((a_low : Int) ≤ a_n)) && (decide ((a_n : Int) ≤ a_high)))
theorem i_within_ok (a_n : Int) (a_low : Int) (a_high : Int) (R : Bool) (hF : i_within a_n a_low a_high = some R) :
    Fw.Spec Tryz.prog 76 [(.int .i64 a_n), (.int .i64 a_low), (.int .i64 a_high)] [] (fun _ : Unit => (.bool R)) (fun _ => []) := by
  refine Spec_enter (n := 15) Tryz.func76 rfl rfl (rs := [.tmp 6]) rfl rfl rfl ?_
  intro H0 F0
  unfold i_within at hF
  refine K_region (C_val (V_assign (v := (.bool false)) (.bool _)) ?_)
  refine C_nil (K_region (C_cut (fun f' cs' => ∃ (g : Fr), f' = updL g [(6, (.bool ((decide ((a_low : Int) ≤ a_n)) && (decide ((a_n : Int) ≤ a_high)))))] ∧ Ent cs' []) ?_ ?_))
  · refine Cm (.int .i64 a_n) rfl rfl ?_
    refine Cm (.int .i64 a_low) rfl rfl ?_
    refine C_val (V_geq (i := a_n) (j := a_low) (.tmp rfl rfl) (.tmp rfl rfl)) ?_
    refine Cm (.bool (decide ((a_low : Int) ≤ a_n))) rfl rfl ?_
    rcases Bool.eq_false_or_eq_true (decide ((a_low : Int) ≤ a_n)) with hg1 | hg1
    · rw [hg1]
      try rw [hg1] at hF; dsimp only [cond_true, cond_false] at hF
      refine C_on (t := 10) rfl rfl rfl ?_
      refine Cm (.int .i64 a_n) rfl rfl ?_
      refine C_on (t := 10) rfl rfl rfl ?_
      refine Cm (.int .i64 a_high) rfl rfl ?_
      refine C_on (t := 10) rfl rfl rfl ?_
      refine C_val (V_leq (i := a_n) (j := a_high) (.tmp rfl rfl) (.tmp rfl rfl)) ?_
      refine C_val (V_pick (b := true) (u := (.bool (decide ((a_n : Int) ≤ a_high)))) (v := (.bool false)) (.tmp rfl rfl) (.tmp rfl rfl) (.bool _)) ?_
      refine Ca (.bool (decide ((a_n : Int) ≤ a_high))) rfl rfl ?_
      refine C_nil ?_
      exact ⟨_, (EqL.cons rfl (EqL.nil)).eq, (.sel .nil)⟩
    rw [hg1]
    try rw [hg1] at hF; dsimp only [cond_true, cond_false] at hF
    iterate 3 refine C_off (t := 10) rfl rfl rfl ?_
    refine C_val (V_pick (b := false) (u := undef) (v := (.bool false)) (.tmp rfl rfl) (.tmp rfl rfl) (.bool _)) ?_
    refine Ca (.bool false) rfl rfl ?_
    refine C_nil ?_
    exact ⟨_, (EqL.cons rfl (EqL.nil)).eq, (.sel .nil)⟩
  rintro _ _ ⟨g2, rfl, hE⟩
  refine K_ent hE ?_
  refine CW_ret ?_
  obtain rfl := Option.some.inj hF
  exact End_ret () (.tmp rfl rfl .nil) rfl (.sel .nil)

/-! impl.IsSchema$1 -/
def i_IsSchema_1 (a_n : Int) : Option (Bool) :=
  (i_within a_n 1 3).bind fun r1 =>
  some (!r1)
theorem i_IsSchema_1_ok (a_n : Int) (R : Bool) (hF : i_IsSchema_1 a_n = some R) :
    Fw.Spec Tryz.prog 128 [(.int .i64 a_n)] [] (fun _ : Unit => (.bool R)) (fun _ => []) := by
  refine Spec_enter (n := 6) Tryz.func128 rfl rfl (rs := [.tmp 2]) rfl rfl rfl ?_
  intro H0 F0
  unfold i_IsSchema_1 at hF
  refine K_region (C_val (V_assign (v := (.bool false)) (.bool _)) ?_)
  refine C_nil (K_region (Cm (.int .i64 a_n) rfl rfl ?_))
  obtain ⟨r1, hx2, hF⟩ := bind_some hF
  refine C_x0 .nil (X_callS cf76 (.cons (.tmp rfl rfl) (.cons (.int _ _) (.cons (.int _ _) .nil))) (i_within_ok a_n 1 3 _ hx2)) (fun _ => ?_)
  refine C_val (V_not (b := r1) (.tmp rfl rfl)) ?_
  refine Ca (.bool (!r1)) rfl rfl ?_
  refine C_nil (CW_ret ?_)
  obtain rfl := Option.some.inj hF
  exact End_ret () (.tmp rfl rfl .nil) rfl (.sel .nil)

/-! slices.IndexFunc[[]int,int] -/
def g_slices_IndexFunc_int_int_iIsSchema1_L1 : List Int → Nat → Option (Int)
  | [], k4 => some (-1)
  | x6 :: rest5, k4 => (i_IsSchema_1 x6).bind fun r15 =>
    if r15 then (
      some (k4 : Int))
    else (
      g_slices_IndexFunc_int_int_iIsSchema1_L1 rest5 (k4 + 1))
def g_slices_IndexFunc_int_int_iIsSchema1 (a_s : List Int) : Option (Int) :=
  g_slices_IndexFunc_int_int_iIsSchema1_L1 a_s 0
theorem g_slices_IndexFunc_int_int_iIsSchema1_ok (a_s : List Int) (v0_0 : Sv) (R : Int) (hF : g_slices_IndexFunc_int_int_iIsSchema1 a_s = some R) :
    Fw.Spec Tryz.prog 141 [v0_0.v, (.func (.func 128) [].toArray [].toArray)] [crd (RdS 3 rdInt) v0_0.v a_s] (fun _ : Unit => (.int .i64 R)) (fun _ => []) := by
  refine Spec_enter (n := 19) Tryz.func141 rfl rfl (rs := [.tmp 4]) rfl rfl rfl ?_
  intro H0 F0
  unfold g_slices_IndexFunc_int_int_iIsSchema1 at hF
  refine K_region (C_val (V_assign (v := (.int .i64 0)) (.int _ _)) ?_)
  refine C_nil (K_in (K_region (Cm v0_0.v rfl rfl ?_)))
  refine C_at .h (fun hp => V_lenR (l := a_s.length) sl22 (.tmp rfl rfl) (crd_len hp)) ?_
  refine C_val (V_move (v := (.int .i64 0)) (.int _ _)) ?_
  refine C_nil (CW_block (CW_loop (m := a_s.length) (fun m2 f' cs' => ∃ (g : Fr) (k4 : Nat) (rest5 : List Int), m2 = rest5.length ∧ f' = updL g [(0, v0_0.v), (1, (.func (.func 128) [].toArray [].toArray)), (7, (.int .i64 (a_s.length : Int))), (8, (.int .i64 (k4 : Int)))] ∧ List.drop k4 a_s = rest5 ∧ Ent cs' [crd (RdS 3 rdInt) v0_0.v a_s] ∧ g_slices_IndexFunc_int_int_iIsSchema1_L1 rest5 k4 = some R) ⟨_, 0, _, rfl, (EqL.cons rfl (EqL.cons rfl (EqL.cons rfl (EqL.cons rfl (EqL.nil))))).eq, rfl, (.sel (.rd .h rfl .nil)), hF⟩ ?_))
  clear hF
  rintro m2 _ _ ⟨g3, k4, rest5, rfl, rfl, hd7, hE, hF⟩
  refine K_ent hE ?_
  clear hE
  refine K_pure (c := crd (RdS 3 rdInt) v0_0.v a_s) .h crd_bound (fun hbd12 => ?_)
  rcases rest5 with _ | ⟨x6, rest5⟩
  · have hk8 := List.drop_eq_nil_iff.1 hd7
    have hfe11 : (decide (((k4 : Int) : Int) < (a_s.length : Int))) = false := decide_eq_false (by omega)
    rw [g_slices_IndexFunc_int_int_iIsSchema1_L1] at hF
    refine K_region (C_val (V_lss (i := (k4 : Int)) (j := (a_s.length : Int)) (.tmp rfl rfl) (.tmp rfl rfl)) ?_)
    refine C_nil (K_in (CW_cond (b := (decide (((k4 : Int) : Int) < (a_s.length : Int)))) (.tmp rfl rfl) (fun hb => absurd (hfe11.symm.trans hb) (by decide)) (fun _ => ?_)))
    refine CW_exit ?_
    iterate 2 refine CThen_exit ?_
    refine CIn_self (K_region (C_val (V_assign (v := (.int .i64 (-1))) (.int _ _)) ?_))
    refine C_nil (CW_ret ?_)
    obtain rfl := Option.some.inj hF
    exact End_ret () (.tmp rfl rfl .nil) rfl (.sel .nil)
  obtain ⟨hk8, hx9, hd10⟩ := drop_cons hd7
  have hfe11 : (decide (((k4 : Int) : Int) < (a_s.length : Int))) = true := decide_eq_true (by omega)
  rw [g_slices_IndexFunc_int_int_iIsSchema1_L1] at hF
  refine K_region (C_val (V_lss (i := (k4 : Int)) (j := (a_s.length : Int)) (.tmp rfl rfl) (.tmp rfl rfl)) ?_)
  refine C_nil (K_in (CW_cond (b := (decide (((k4 : Int) : Int) < (a_s.length : Int)))) (.tmp rfl rfl) (fun _ => ?_) (fun hb => absurd (hfe11.symm.trans hb) (by decide))))
  refine CW_skip (K_block (K_region (Cm (.int .i64 (k4 : Int)) rfl rfl ?_)))
  refine Ca (.int .i64 (k4 : Int)) rfl rfl ?_
  refine C_nil (K_region (Cm (.func (.func 128) [].toArray [].toArray) rfl rfl ?_))
  refine Cm v0_0.v rfl rfl ?_
  refine Cm (.int .i64 (k4 : Int)) rfl rfl ?_
  refine C_idx (a := x6) sl22 ty3.sz (.tmp rfl rfl) (.tmp rfl rfl) .h (Int.natCast_nonneg k4) hx9 (fun k13 j14 => ?_)
  refine C_ldS (w := (.int .i64 x6)) ag3 (.tmp rfl rfl) .h ls3_0 ?_
  obtain ⟨r15, hx16, hF⟩ := bind_some hF
  refine C_x0 .nil (X_callCS cf128 (.tmp rfl rfl) (.cons (.tmp rfl rfl) .nil) (i_IsSchema_1_ok x6 _ hx16)) (fun _ => ?_)
  refine C_nil (CW_cond (b := r15) (.tmp rfl rfl) (fun hb19 => ?_) (fun hb19 => ?_))
  · rw [if_pos hb19] at hF
    refine K_region (Cm (.int .i64 (k4 : Int)) rfl rfl ?_)
    refine Ca (.int .i64 (k4 : Int)) rfl rfl ?_
    refine C_nil (CW_ret ?_)
    obtain rfl := Option.some.inj hF
    exact End_ret () (.tmp rfl rfl .nil) rfl (.sel .nil)
  rw [if_neg (by rw [hb19]; exact Bool.false_ne_true)] at hF
  refine CW_skip (CW_region (C_val (V_add (i := (k4 : Int)) (j := 1) (.tmp rfl rfl) (.int _ _)) ?_))
  refine Cm (.int .i64 (IntKind.i64.wrap ((k4 : Int) + 1))) rfl rfl ?_
  refine C_nil ?_
  have hw18 : IntKind.i64.wrap ((k4 : Int) + 1) = ((k4 + 1 : Nat) : Int) := by rw [wrap_in (by omega) (by omega)]; rfl
  rw [hw18]
  exact ⟨_, Nat.lt_succ_self _, _, k4 + 1, rest5, rfl, (EqL.cons rfl (EqL.cons rfl (EqL.cons rfl (EqL.cons rfl (EqL.nil))))).eq, hd10, (.sel (.rd (.t .h) rfl .nil)), hF⟩

/-! slices.ContainsFunc[[]int,int] -/
def g_slices_ContainsFunc_int_int_iIsSchema1 (a_s : List Int) : Option (Bool) :=
  (g_slices_IndexFunc_int_int_iIsSchema1 a_s).bind fun r1 =>
  some (decide ((0 : Int) ≤ r1))
theorem g_slices_ContainsFunc_int_int_iIsSchema1_ok (a_s : List Int) (v0_0 : Sv) (R : Bool) (hF : g_slices_ContainsFunc_int_int_iIsSchema1 a_s = some R) :
    Fw.Spec Tryz.prog 114 [v0_0.v, (.func (.func 128) [].toArray [].toArray)] [crd (RdS 3 rdInt) v0_0.v a_s] (fun _ : Unit => (.bool R)) (fun _ => []) := by
  refine Spec_enter (n := 9) Tryz.func114 rfl rfl (rs := [.tmp 4]) rfl rfl rfl ?_
  intro H0 F0
  unfold g_slices_ContainsFunc_int_int_iIsSchema1 at hF
  refine K_region (C_val (V_assign (v := (.bool false)) (.bool _)) ?_)
  refine C_nil (K_region (Cm v0_0.v rfl rfl ?_))
  refine Cm (.func (.func 128) [].toArray [].toArray) rfl rfl ?_
  obtain ⟨r1, hx2, hF⟩ := bind_some hF
  refine C_x0 (.rd .h rfl .nil) (X_callS cf141 (.cons (.tmp rfl rfl) (.cons (.tmp rfl rfl) .nil)) (g_slices_IndexFunc_int_int_iIsSchema1_ok a_s v0_0 _ hx2)) (fun _ => ?_)
  refine C_val (V_geq (i := r1) (j := 0) (.tmp rfl rfl) (.int _ _)) ?_
  refine Ca (.bool (decide ((0 : Int) ≤ r1))) rfl rfl ?_
  refine C_nil (CW_ret ?_)
  obtain rfl := Option.some.inj hF
  exact End_ret () (.tmp rfl rfl .nil) rfl (.sel .nil)

/-! impl.IsSchema -/
def i_IsSchema (a_s : List Int) : Option (Bool) :=
  ((i_within (a_s.length : Int) 1 3).bind fun r3 =>
    bif r3 then ((g_slices_ContainsFunc_int_int_iIsSchema1 a_s).bind fun r7 =>
      some (!r7))
    else (some false)).bind fun o1 =>
  match o1 with
  | c10 => some c10
theorem i_IsSchema_ok (a_s : List Int) (v0_0 : Sv) (R : Bool) (hF : i_IsSchema a_s = some R) :
    Fw.Spec Tryz.prog 102 [v0_0.v] [crd (RdS 3 rdInt) v0_0.v a_s] (fun _ : Unit => (.bool R)) (fun _ => []) := by
  refine Spec_enter (n := 11) Tryz.func102 rfl rfl (rs := [.tmp 2]) rfl rfl rfl ?_
  intro H0 F0
  unfold i_IsSchema at hF
  refine K_region (C_val (V_assign (v := (.bool false)) (.bool _)) ?_)
  refine C_nil ?_
  obtain ⟨o1, hio1, hO2⟩ := bind_some hF
  refine K_region (C_cut (fun f' cs' => ∃ (c10 : Bool) (g : Fr), c10 = o1 ∧ f' = updL g [(2, (.bool c10))] ∧ Ent cs' []) ?_ ?_)
  · replace hF := hio1
    refine Cm v0_0.v rfl rfl ?_
    refine C_at .h (fun hp => V_lenR (l := a_s.length) sl22 (.tmp rfl rfl) (crd_len hp)) ?_
    obtain ⟨r3, hx4, hF⟩ := bind_some hF
    refine C_x0 .nil (X_callS cf76 (.cons (.tmp rfl rfl) (.cons (.int _ _) (.cons (.int _ _) .nil))) (i_within_ok (a_s.length : Int) 1 3 _ hx4)) (fun _ => ?_)
    refine Cm (.bool r3) rfl rfl ?_
    rcases Bool.eq_false_or_eq_true r3 with hg6 | hg6
    · rw [hg6]
      try rw [hg6] at hF; dsimp only [cond_true, cond_false] at hF
      refine C_on (t := 6) rfl rfl rfl ?_
      refine Cm v0_0.v rfl rfl ?_
      refine C_on (t := 6) rfl rfl rfl ?_
      obtain ⟨r7, hx8, hF⟩ := bind_some hF
      refine C_x0 (.rd .h rfl .nil) (X_callS cf114 (.cons (.tmp rfl rfl) (.cons (.fn _) .nil)) (g_slices_ContainsFunc_int_int_iIsSchema1_ok a_s v0_0 _ hx8)) (fun _ => ?_)
      refine C_on (t := 6) rfl rfl rfl ?_
      refine C_val (V_not (b := r7) (.tmp rfl rfl)) ?_
      refine C_val (V_pick (b := true) (u := (.bool (!r7))) (v := (.bool false)) (.tmp rfl rfl) (.tmp rfl rfl) (.bool _)) ?_
      refine Ca (.bool (!r7)) rfl rfl ?_
      refine C_nil ?_
      obtain rfl := Option.some.inj hF
      exact ⟨_, _, rfl, (EqL.cons rfl (EqL.nil)).eq, (.sel .nil)⟩
    rw [hg6]
    try rw [hg6] at hF; dsimp only [cond_true, cond_false] at hF
    iterate 3 refine C_off (t := 6) rfl rfl rfl ?_
    refine C_val (V_pick (b := false) (u := undef) (v := (.bool false)) (.tmp rfl rfl) (.tmp rfl rfl) (.bool _)) ?_
    refine Ca (.bool false) rfl rfl ?_
    refine C_nil ?_
    obtain rfl := Option.some.inj hF
    exact ⟨_, _, rfl, (EqL.cons rfl (EqL.nil)).eq, (.sel .nil)⟩
  rintro _ _ ⟨c10, g11, rfl, rfl, hE⟩
  replace hF := hO2
  clear hO2
  try dsimp only at hF
  refine K_ent hE ?_
  refine CW_ret ?_
  obtain rfl := Option.some.inj hF
  exact End_ret () (.tmp rfl rfl .nil) rfl (.sel .nil)

/-! impl.hasRel -/
def i_hasRel (a_s : List Int) (a_rel : Int) : Option (Bool) :=
  ((i_IsSchema a_s).bind fun r3 =>
    bif r3 then ((i_within a_rel 0 (IntKind.i64.wrap ((a_s.length : Int) - 1))).bind fun r7 =>
      some r7)
    else (some false)).bind fun o1 =>
  match o1 with
  | c10 => some c10
theorem i_hasRel_ok (a_s : List Int) (v0_0 : Sv) (a_rel : Int) (R : Bool) (hF : i_hasRel a_s a_rel = some R) :
    Fw.Spec Tryz.prog 130 [v0_0.v, (.int .i64 a_rel)] [crd (RdS 3 rdInt) v0_0.v a_s] (fun _ : Unit => (.bool R)) (fun _ => []) := by
  refine Spec_enter (n := 14) Tryz.func130 rfl rfl (rs := [.tmp 4]) rfl rfl rfl ?_
  intro H0 F0
  unfold i_hasRel at hF
  refine K_region (C_val (V_assign (v := (.bool false)) (.bool _)) ?_)
  refine C_nil ?_
  obtain ⟨o1, hio1, hO2⟩ := bind_some hF
  refine K_region (C_cut (fun f' cs' => ∃ (c10 : Bool) (g : Fr), c10 = o1 ∧ f' = updL g [(4, (.bool c10))] ∧ Ent cs' []) ?_ ?_)
  · replace hF := hio1
    refine Cm v0_0.v rfl rfl ?_
    obtain ⟨r3, hx4, hF⟩ := bind_some hF
    refine C_x0 (.rd .h rfl .nil) (X_callS cf102 (.cons (.tmp rfl rfl) .nil) (i_IsSchema_ok a_s v0_0 _ hx4)) (fun _ => ?_)
    refine Cm (.bool r3) rfl rfl ?_
    rcases Bool.eq_false_or_eq_true r3 with hg6 | hg6
    · rw [hg6]
      try rw [hg6] at hF; dsimp only [cond_true, cond_false] at hF
      refine C_on (t := 7) rfl rfl rfl ?_
      refine Cm (.int .i64 a_rel) rfl rfl ?_
      refine C_on (t := 7) rfl rfl rfl ?_
      refine Cm v0_0.v rfl rfl ?_
      refine C_on (t := 7) rfl rfl rfl ?_
      refine C_at .h (fun hp => V_lenR (l := a_s.length) sl22 (.tmp rfl rfl) (crd_len hp)) ?_
      refine C_on (t := 7) rfl rfl rfl ?_
      refine C_val (V_sub (i := (a_s.length : Int)) (j := 1) (.tmp rfl rfl) (.int _ _)) ?_
      refine C_on (t := 7) rfl rfl rfl ?_
      obtain ⟨r7, hx8, hF⟩ := bind_some hF
      refine C_x0 .nil (X_callS cf76 (.cons (.tmp rfl rfl) (.cons (.int _ _) (.cons (.tmp rfl rfl) .nil))) (i_within_ok a_rel 0 (IntKind.i64.wrap ((a_s.length : Int) - 1)) _ hx8)) (fun _ => ?_)
      refine C_val (V_pick (b := true) (u := (.bool r7)) (v := (.bool false)) (.tmp rfl rfl) (.tmp rfl rfl) (.bool _)) ?_
      refine Ca (.bool r7) rfl rfl ?_
      refine C_nil ?_
      obtain rfl := Option.some.inj hF
      exact ⟨_, _, rfl, (EqL.cons rfl (EqL.nil)).eq, (.sel .nil)⟩
    rw [hg6]
    try rw [hg6] at hF; dsimp only [cond_true, cond_false] at hF
    iterate 5 refine C_off (t := 7) rfl rfl rfl ?_
    refine C_val (V_pick (b := false) (u := undef) (v := (.bool false)) (.tmp rfl rfl) (.tmp rfl rfl) (.bool _)) ?_
    refine Ca (.bool false) rfl rfl ?_
    refine C_nil ?_
    obtain rfl := Option.some.inj hF
    exact ⟨_, _, rfl, (EqL.cons rfl (EqL.nil)).eq, (.sel .nil)⟩
  rintro _ _ ⟨c10, g11, rfl, rfl, hE⟩
  replace hF := hO2
  clear hO2
  try dsimp only at hF
  refine K_ent hE ?_
  refine CW_ret ?_
  obtain rfl := Option.some.inj hF
  exact End_ret () (.tmp rfl rfl .nil) rfl (.sel .nil)

/-! impl.ascending -/
def i_ascending_L1 (a_l : List Int) : List Int → Nat → Option (Bool)
  | [], k4 => some true
  | x6 :: rest5, k4 => (bif (decide ((0 : Int) < (k4 : Int))) then ((ix a_l (IntKind.i64.wrap ((k4 : Int) - 1))).bind fun x18 =>
        some (decide ((x6 : Int) ≤ x18)))
      else (some false)).bind fun o13 =>
    match o13 with
    | c24 => if c24 then (
        some false)
      else (
        i_ascending_L1 a_l rest5 (k4 + 1))
def i_ascending (a_l : List Int) : Option (Bool) :=
  i_ascending_L1 a_l a_l 0
theorem i_ascending_ok (a_l : List Int) (v0_0 : Sv) (R : Bool) (hF : i_ascending a_l = some R) :
    Fw.Spec Tryz.prog 145 [v0_0.v] [crd (RdS 3 rdInt) v0_0.v a_l] (fun _ : Unit => (.bool R)) (fun _ => []) := by
  refine Spec_enter (n := 24) Tryz.func145 rfl rfl (rs := [.tmp 2]) rfl rfl rfl ?_
  intro H0 F0
  unfold i_ascending at hF
  refine K_region (C_val (V_assign (v := (.bool false)) (.bool _)) ?_)
  refine C_nil (K_in (K_region (Cm v0_0.v rfl rfl ?_)))
  refine C_at .h (fun hp => V_lenR (l := a_l.length) sl22 (.tmp rfl rfl) (crd_len hp)) ?_
  refine C_val (V_move (v := (.int .i64 0)) (.int _ _)) ?_
  refine C_nil (CW_block (CW_loop (m := a_l.length) (fun m2 f' cs' => ∃ (g : Fr) (k4 : Nat) (rest5 : List Int), m2 = rest5.length ∧ f' = updL g [(0, v0_0.v), (5, (.int .i64 (a_l.length : Int))), (6, (.int .i64 (k4 : Int)))] ∧ List.drop k4 a_l = rest5 ∧ Ent cs' [crd (RdS 3 rdInt) v0_0.v a_l] ∧ i_ascending_L1 a_l rest5 k4 = some R) ⟨_, 0, _, rfl, (EqL.cons rfl (EqL.cons rfl (EqL.cons rfl (EqL.nil)))).eq, rfl, (.sel (.rd .h rfl .nil)), hF⟩ ?_))
  clear hF
  rintro m2 _ _ ⟨g3, k4, rest5, rfl, rfl, hd7, hE, hF⟩
  refine K_ent hE ?_
  clear hE
  refine K_pure (c := crd (RdS 3 rdInt) v0_0.v a_l) .h crd_bound (fun hbd12 => ?_)
  rcases rest5 with _ | ⟨x6, rest5⟩
  · have hk8 := List.drop_eq_nil_iff.1 hd7
    have hfe11 : (decide (((k4 : Int) : Int) < (a_l.length : Int))) = false := decide_eq_false (by omega)
    rw [i_ascending_L1] at hF
    refine K_region (C_val (V_lss (i := (k4 : Int)) (j := (a_l.length : Int)) (.tmp rfl rfl) (.tmp rfl rfl)) ?_)
    refine C_nil (K_in (CW_cond (b := (decide (((k4 : Int) : Int) < (a_l.length : Int)))) (.tmp rfl rfl) (fun hb => absurd (hfe11.symm.trans hb) (by decide)) (fun _ => ?_)))
    refine CW_exit ?_
    iterate 2 refine CThen_exit ?_
    refine CIn_self (K_region (C_val (V_assign (v := (.bool true)) (.bool _)) ?_))
    refine C_nil (CW_ret ?_)
    obtain rfl := Option.some.inj hF
    exact End_ret () (.tmp rfl rfl .nil) rfl (.sel .nil)
  obtain ⟨hk8, hx9, hd10⟩ := drop_cons hd7
  have hfe11 : (decide (((k4 : Int) : Int) < (a_l.length : Int))) = true := decide_eq_true (by omega)
  rw [i_ascending_L1] at hF
  refine K_region (C_val (V_lss (i := (k4 : Int)) (j := (a_l.length : Int)) (.tmp rfl rfl) (.tmp rfl rfl)) ?_)
  refine C_nil (K_in (CW_cond (b := (decide (((k4 : Int) : Int) < (a_l.length : Int)))) (.tmp rfl rfl) (fun _ => ?_) (fun hb => absurd (hfe11.symm.trans hb) (by decide))))
  refine CW_skip (K_block (K_region (Cm (.int .i64 (k4 : Int)) rfl rfl ?_)))
  refine Ca (.int .i64 (k4 : Int)) rfl rfl ?_
  refine C_nil ?_
  obtain ⟨o13, hio13, hO14⟩ := bind_some hF
  refine K_draw [0, 1, 2, 3, 4, 5, 6, 7, 8, 9, 10, 11, 12, 13] [0, 1, 3, 7, 7, 31, 63, 7, 7, 263, 903, 1927, 4095, 8191] [] mixed (by decide +kernel) ?_
  refine D_cut (fun f' cs' => ∃ (c24 : Bool) (g : Fr), c24 = o13 ∧ f' = updL g [(0, v0_0.v), (5, (.int .i64 (a_l.length : Int))), (6, (.int .i64 (k4 : Int))), (22, (.bool c24))] ∧ Ent cs' [crd (RdS 3 rdInt) v0_0.v a_l]) ?_ ?_
  · replace hF := hio13
    refine Dm (.int .i64 (k4 : Int)) rfl rfl rfl rfl ?_
    refine D_val rfl .no (fun ha => V_gtr (i := (k4 : Int)) (j := 0) (EN ha (.tmp rfl rfl) rfl) (EN ha (.int _ _) rfl)) ?_
    refine Dm (.bool (decide ((0 : Int) < (k4 : Int)))) rfl rfl rfl rfl ?_
    rcases Bool.eq_false_or_eq_true (decide ((0 : Int) < (k4 : Int))) with hg15 | hg15
    · rw [hg15]
      try rw [hg15] at hF; dsimp only [cond_true, cond_false] at hF
      refine D_val rfl (.on 11 rfl rfl rfl) (fun ha => V_move (v := v0_0.v) (EN ha (.tmp rfl rfl) rfl)) ?_
      refine D_val rfl (.on 11 rfl rfl rfl) (fun ha => V_move (v := (.int .i64 (k4 : Int))) (EN ha (.tmp rfl rfl) rfl)) ?_
      refine D_idx (a := x6) sl22 ty3.sz rfl (.on 11 rfl rfl rfl) (.tmp rfl rfl) (.tmp rfl rfl) rfl rfl .h (Int.natCast_nonneg k4) hx9 (fun k16 j17 => ?_)
      refine D_ldS (w := (.int .i64 x6)) ag3 rfl (.on 11 rfl rfl rfl) (.tmp rfl rfl) rfl .h ls3_0 ?_
      refine D_val rfl (.on 11 rfl rfl rfl) (fun ha => V_move (v := v0_0.v) (EN ha (.tmp rfl rfl) rfl)) ?_
      refine D_val rfl (.on 11 rfl rfl rfl) (fun ha => V_move (v := (.int .i64 (k4 : Int))) (EN ha (.tmp rfl rfl) rfl)) ?_
      refine D_val rfl (.on 11 rfl rfl rfl) (fun ha => V_sub (i := (k4 : Int)) (j := 1) (EN ha (.tmp rfl rfl) rfl) (EN ha (.int _ _) rfl)) ?_
      obtain ⟨x18, hx19, hF⟩ := bind_some hF
      obtain ⟨hp20, hx21⟩ := ix_some hx19
      refine D_idx (a := x18) sl22 ty3.sz rfl (.on 11 rfl rfl rfl) (.tmp rfl rfl) (.tmp rfl rfl) rfl rfl (.t .h) hp20 hx21 (fun k22 j23 => ?_)
      refine D_ldS (w := (.int .i64 x18)) ag3 rfl (.on 11 rfl rfl rfl) (.tmp rfl rfl) rfl .h ls3_0 ?_
      refine D_val rfl (.on 11 rfl rfl rfl) (fun ha => V_leq (i := x6) (j := x18) (EN ha (.tmp rfl rfl) rfl) (EN ha (.tmp rfl rfl) rfl)) ?_
      refine D_val rfl .no (fun ha => V_pick (b := true) (u := (.bool (decide ((x6 : Int) ≤ x18)))) (v := (.bool false)) (EN ha (.tmp rfl rfl) rfl) (EN ha (.tmp rfl rfl) rfl) (EN ha (.bool _) rfl)) ?_
      refine D_nil ?_
      obtain rfl := Option.some.inj hF
      exact ⟨_, _, rfl, (EqL.cons rfl (EqL.cons rfl (EqL.cons rfl (EqL.cons rfl (EqL.nil))))).eq, (.sel (.rd (.t (.t .h)) rfl .nil))⟩
    rw [hg15]
    try rw [hg15] at hF; dsimp only [cond_true, cond_false] at hF
    iterate 10 refine D_off 11 rfl rfl rfl rfl ?_
    refine D_val rfl .no (fun ha => V_pick (b := false) (u := undef) (v := (.bool false)) (EN ha (.tmp rfl rfl) rfl) (EN ha (.tmp rfl rfl) rfl) (EN ha (.bool _) rfl)) ?_
    refine D_nil ?_
    obtain rfl := Option.some.inj hF
    exact ⟨_, _, rfl, (EqL.cons rfl (EqL.cons rfl (EqL.cons rfl (EqL.cons rfl (EqL.nil))))).eq, (.sel (.rd .h rfl .nil))⟩
  rintro _ _ ⟨c24, g27, rfl, rfl, hE⟩
  replace hF := hO14
  clear hO14
  try dsimp only at hF
  refine K_ent hE ?_
  refine CW_cond (b := c24) (.tmp rfl rfl) (fun hb26 => ?_) (fun hb26 => ?_)
  · rw [if_pos hb26] at hF
    refine K_region (C_val (V_assign (v := (.bool false)) (.bool _)) ?_)
    refine C_nil (CW_ret ?_)
    obtain rfl := Option.some.inj hF
    exact End_ret () (.tmp rfl rfl .nil) rfl (.sel .nil)
  rw [if_neg (by rw [hb26]; exact Bool.false_ne_true)] at hF
  refine CW_skip (CW_region (C_val (V_add (i := (k4 : Int)) (j := 1) (.tmp rfl rfl) (.int _ _)) ?_))
  refine Cm (.int .i64 (IntKind.i64.wrap ((k4 : Int) + 1))) rfl rfl ?_
  refine C_nil ?_
  have hw25 : IntKind.i64.wrap ((k4 : Int) + 1) = ((k4 + 1 : Nat) : Int) := by rw [wrap_in (by omega) (by omega)]; rfl
  rw [hw25]
  exact ⟨_, Nat.lt_succ_self _, _, k4 + 1, rest5, rfl, (EqL.cons rfl (EqL.cons rfl (EqL.cons rfl (EqL.nil)))).eq, hd10, (.sel (.rd .h rfl .nil)), hF⟩

/-! impl.Method).fits$1 -/
def i_Method_fits_1 (a_i : Int) (a_e1 : Int) : Option (Bool) :=
  (i_within a_i 0 (IntKind.i64.wrap (a_e1 - 1))).bind fun r1 =>
  some (!r1)
theorem i_Method_fits_1_ok (a_i : Int) (kc1 : Nat) (a_e1 : Int) (R : Bool) (hF : i_Method_fits_1 a_i a_e1 = some R) :
    Fw.Spec Tryz.prog 146 [(.int .i64 a_i), (.pointer (some ⟨kc1, 0, some 0⟩))] [cboR kc1 3 (.int .i64 a_e1)] (fun _ : Unit => (.bool R)) (fun _ => []) := by
  refine Spec_enter (n := 9) Tryz.func146 rfl rfl (rs := [.tmp 3]) rfl rfl rfl ?_
  intro H0 F0
  unfold i_Method_fits_1 at hF
  refine K_region (C_val (V_assign (v := (.bool false)) (.bool _)) ?_)
  refine C_nil (K_region (Cm (.int .i64 a_i) rfl rfl ?_))
  refine C_at .h (fun hp => V_load (v := (.int .i64 a_e1)) ag3 (.tmp rfl rfl) hp.2 rfl rfl) ?_
  refine C_val (V_sub (i := a_e1) (j := 1) (.tmp rfl rfl) (.int _ _)) ?_
  obtain ⟨r1, hx2, hF⟩ := bind_some hF
  refine C_x0 .nil (X_callS cf76 (.cons (.tmp rfl rfl) (.cons (.int _ _) (.cons (.tmp rfl rfl) .nil))) (i_within_ok a_i 0 (IntKind.i64.wrap (a_e1 - 1)) _ hx2)) (fun _ => ?_)
  refine C_val (V_not (b := r1) (.tmp rfl rfl)) ?_
  refine Ca (.bool (!r1)) rfl rfl ?_
  refine C_nil (CW_ret ?_)
  obtain rfl := Option.some.inj hF
  exact End_ret () (.tmp rfl rfl .nil) rfl (.sel .nil)

/-! slices.IndexFunc[[]int,int] -/
def g_slices_IndexFunc_int_int_iMethodfits1_L1 (a_e1 : Int) : List Int → Nat → Option (Int)
  | [], k4 => some (-1)
  | x6 :: rest5, k4 => (i_Method_fits_1 x6 a_e1).bind fun r15 =>
    if r15 then (
      some (k4 : Int))
    else (
      g_slices_IndexFunc_int_int_iMethodfits1_L1 a_e1 rest5 (k4 + 1))
def g_slices_IndexFunc_int_int_iMethodfits1 (a_s : List Int) (a_e1 : Int) : Option (Int) :=
  g_slices_IndexFunc_int_int_iMethodfits1_L1 a_e1 a_s 0
theorem g_slices_IndexFunc_int_int_iMethodfits1_ok (a_s : List Int) (v0_0 : Sv) (kc1 : Nat) (a_e1 : Int) (R : Int) (hF : g_slices_IndexFunc_int_int_iMethodfits1 a_s a_e1 = some R) :
    Fw.Spec Tryz.prog 141 [v0_0.v, (.func (.func 146) [].toArray [(.pointer (some ⟨kc1, 0, some 0⟩))].toArray)] [crd (RdS 3 rdInt) v0_0.v a_s, cboR kc1 3 (.int .i64 a_e1)] (fun _ : Unit => (.int .i64 R)) (fun _ => []) := by
  refine Spec_enter (n := 19) Tryz.func141 rfl rfl (rs := [.tmp 4]) rfl rfl rfl ?_
  intro H0 F0
  unfold g_slices_IndexFunc_int_int_iMethodfits1 at hF
  refine K_region (C_val (V_assign (v := (.int .i64 0)) (.int _ _)) ?_)
  refine C_nil (K_in (K_region (Cm v0_0.v rfl rfl ?_)))
  refine C_at .h (fun hp => V_lenR (l := a_s.length) sl22 (.tmp rfl rfl) (crd_len hp)) ?_
  refine C_val (V_move (v := (.int .i64 0)) (.int _ _)) ?_
  refine C_nil (CW_block (CW_loop (m := a_s.length) (fun m2 f' cs' => ∃ (g : Fr) (k4 : Nat) (rest5 : List Int), m2 = rest5.length ∧ f' = updL g [(0, v0_0.v), (1, (.func (.func 146) [].toArray [(.pointer (some ⟨kc1, 0, some 0⟩))].toArray)), (7, (.int .i64 (a_s.length : Int))), (8, (.int .i64 (k4 : Int)))] ∧ List.drop k4 a_s = rest5 ∧ Ent cs' [crd (RdS 3 rdInt) v0_0.v a_s, cboR kc1 3 (.int .i64 a_e1)] ∧ g_slices_IndexFunc_int_int_iMethodfits1_L1 a_e1 rest5 k4 = some R) ⟨_, 0, _, rfl, (EqL.cons rfl (EqL.cons rfl (EqL.cons rfl (EqL.cons rfl (EqL.nil))))).eq, rfl, (.sel (.rd .h rfl (.rd (.t .h) rfl .nil))), hF⟩ ?_))
  clear hF
  rintro m2 _ _ ⟨g3, k4, rest5, rfl, rfl, hd7, hE, hF⟩
  refine K_ent hE ?_
  clear hE
  refine K_pure (c := crd (RdS 3 rdInt) v0_0.v a_s) .h crd_bound (fun hbd12 => ?_)
  rcases rest5 with _ | ⟨x6, rest5⟩
  · have hk8 := List.drop_eq_nil_iff.1 hd7
    have hfe11 : (decide (((k4 : Int) : Int) < (a_s.length : Int))) = false := decide_eq_false (by omega)
    rw [g_slices_IndexFunc_int_int_iMethodfits1_L1] at hF
    refine K_region (C_val (V_lss (i := (k4 : Int)) (j := (a_s.length : Int)) (.tmp rfl rfl) (.tmp rfl rfl)) ?_)
    refine C_nil (K_in (CW_cond (b := (decide (((k4 : Int) : Int) < (a_s.length : Int)))) (.tmp rfl rfl) (fun hb => absurd (hfe11.symm.trans hb) (by decide)) (fun _ => ?_)))
    refine CW_exit ?_
    iterate 2 refine CThen_exit ?_
    refine CIn_self (K_region (C_val (V_assign (v := (.int .i64 (-1))) (.int _ _)) ?_))
    refine C_nil (CW_ret ?_)
    obtain rfl := Option.some.inj hF
    exact End_ret () (.tmp rfl rfl .nil) rfl (.sel .nil)
  obtain ⟨hk8, hx9, hd10⟩ := drop_cons hd7
  have hfe11 : (decide (((k4 : Int) : Int) < (a_s.length : Int))) = true := decide_eq_true (by omega)
  rw [g_slices_IndexFunc_int_int_iMethodfits1_L1] at hF
  refine K_region (C_val (V_lss (i := (k4 : Int)) (j := (a_s.length : Int)) (.tmp rfl rfl) (.tmp rfl rfl)) ?_)
  refine C_nil (K_in (CW_cond (b := (decide (((k4 : Int) : Int) < (a_s.length : Int)))) (.tmp rfl rfl) (fun _ => ?_) (fun hb => absurd (hfe11.symm.trans hb) (by decide))))
  refine CW_skip (K_block (K_region (Cm (.int .i64 (k4 : Int)) rfl rfl ?_)))
  refine Ca (.int .i64 (k4 : Int)) rfl rfl ?_
  refine C_nil (K_region (Cm (.func (.func 146) [].toArray [(.pointer (some ⟨kc1, 0, some 0⟩))].toArray) rfl rfl ?_))
  refine Cm v0_0.v rfl rfl ?_
  refine Cm (.int .i64 (k4 : Int)) rfl rfl ?_
  refine C_idx (a := x6) sl22 ty3.sz (.tmp rfl rfl) (.tmp rfl rfl) .h (Int.natCast_nonneg k4) hx9 (fun k13 j14 => ?_)
  refine C_ldS (w := (.int .i64 x6)) ag3 (.tmp rfl rfl) .h ls3_0 ?_
  obtain ⟨r15, hx16, hF⟩ := bind_some hF
  refine C_x0 (.rd (.t (.t .h)) rfl .nil) (X_callCS cf146 (.tmp rfl rfl) (.cons (.tmp rfl rfl) .nil) (i_Method_fits_1_ok x6 kc1 a_e1 _ hx16)) (fun _ => ?_)
  refine C_nil (CW_cond (b := r15) (.tmp rfl rfl) (fun hb19 => ?_) (fun hb19 => ?_))
  · rw [if_pos hb19] at hF
    refine K_region (Cm (.int .i64 (k4 : Int)) rfl rfl ?_)
    refine Ca (.int .i64 (k4 : Int)) rfl rfl ?_
    refine C_nil (CW_ret ?_)
    obtain rfl := Option.some.inj hF
    exact End_ret () (.tmp rfl rfl .nil) rfl (.sel .nil)
  rw [if_neg (by rw [hb19]; exact Bool.false_ne_true)] at hF
  refine CW_skip (CW_region (C_val (V_add (i := (k4 : Int)) (j := 1) (.tmp rfl rfl) (.int _ _)) ?_))
  refine Cm (.int .i64 (IntKind.i64.wrap ((k4 : Int) + 1))) rfl rfl ?_
  refine C_nil ?_
  have hw18 : IntKind.i64.wrap ((k4 : Int) + 1) = ((k4 + 1 : Nat) : Int) := by rw [wrap_in (by omega) (by omega)]; rfl
  rw [hw18]
  exact ⟨_, Nat.lt_succ_self _, _, k4 + 1, rest5, rfl, (EqL.cons rfl (EqL.cons rfl (EqL.cons rfl (EqL.cons rfl (EqL.nil))))).eq, hd10, (.sel (.rd (.t .h) rfl (.rd (.t (.t .h)) rfl .nil))), hF⟩

/-! slices.ContainsFunc[[]int,int] -/
def g_slices_ContainsFunc_int_int_iMethodfits1 (a_s : List Int) (a_e1 : Int) : Option (Bool) :=
  (g_slices_IndexFunc_int_int_iMethodfits1 a_s a_e1).bind fun r1 =>
  some (decide ((0 : Int) ≤ r1))
theorem g_slices_ContainsFunc_int_int_iMethodfits1_ok (a_s : List Int) (v0_0 : Sv) (kc1 : Nat) (a_e1 : Int) (R : Bool) (hF : g_slices_ContainsFunc_int_int_iMethodfits1 a_s a_e1 = some R) :
    Fw.Spec Tryz.prog 114 [v0_0.v, (.func (.func 146) [].toArray [(.pointer (some ⟨kc1, 0, some 0⟩))].toArray)] [crd (RdS 3 rdInt) v0_0.v a_s, cboR kc1 3 (.int .i64 a_e1)] (fun _ : Unit => (.bool R)) (fun _ => []) := by
  refine Spec_enter (n := 9) Tryz.func114 rfl rfl (rs := [.tmp 4]) rfl rfl rfl ?_
  intro H0 F0
  unfold g_slices_ContainsFunc_int_int_iMethodfits1 at hF
  refine K_region (C_val (V_assign (v := (.bool false)) (.bool _)) ?_)
  refine C_nil (K_region (Cm v0_0.v rfl rfl ?_))
  refine Cm (.func (.func 146) [].toArray [(.pointer (some ⟨kc1, 0, some 0⟩))].toArray) rfl rfl ?_
  obtain ⟨r1, hx2, hF⟩ := bind_some hF
  refine C_x0 (.rd .h rfl (.rd (.t .h) rfl .nil)) (X_callS cf141 (.cons (.tmp rfl rfl) (.cons (.tmp rfl rfl) .nil)) (g_slices_IndexFunc_int_int_iMethodfits1_ok a_s v0_0 kc1 a_e1 _ hx2)) (fun _ => ?_)
  refine C_val (V_geq (i := r1) (j := 0) (.tmp rfl rfl) (.int _ _)) ?_
  refine Ca (.bool (decide ((0 : Int) ≤ r1))) rfl rfl ?_
  refine C_nil (CW_ret ?_)
  obtain rfl := Option.some.inj hF
  exact End_ret () (.tmp rfl rfl .nil) rfl (.sel .nil)

/-! impl.isCost -/
def i_isCost (a_n : Int) : Option (Bool) :=
  (i_within a_n 0 99).bind fun r1 =>
  some r1
theorem i_isCost_ok (a_n : Int) (R : Bool) (hF : i_isCost a_n = some R) :
    Fw.Spec Tryz.prog 147 [(.int .i64 a_n)] [] (fun _ : Unit => (.bool R)) (fun _ => []) := by
  refine Spec_enter (n := 5) Tryz.func147 rfl rfl (rs := [.tmp 2]) rfl rfl rfl ?_
  intro H0 F0
  unfold i_isCost at hF
  refine K_region (C_val (V_assign (v := (.bool false)) (.bool _)) ?_)
  refine C_nil (K_region (Cm (.int .i64 a_n) rfl rfl ?_))
  obtain ⟨r1, hx2, hF⟩ := bind_some hF
  refine C_x0 .nil (X_callS cf76 (.cons (.tmp rfl rfl) (.cons (.int _ _) (.cons (.int _ _) .nil))) (i_within_ok a_n 0 99 _ hx2)) (fun _ => ?_)
  refine Ca (.bool r1) rfl rfl ?_
  refine C_nil (CW_ret ?_)
  obtain rfl := Option.some.inj hF
  exact End_ret () (.tmp rfl rfl .nil) rfl (.sel .nil)

/-! impl.Method).fits -/
def i_Method_fits (a_m : Method) (a_arity : Int) : Option (Bool) :=
  ((i_ascending a_m.Inputs).bind fun r5 =>
    bif r5 then ((g_slices_ContainsFunc_int_int_iMethodfits1 a_m.Inputs a_arity).bind fun r9 =>
      bif (!r9) then ((i_within a_m.Limit 0 9).bind fun r13 =>
        bif r13 then ((i_isCost a_m.Cost).bind fun r17 =>
          bif r17 then ((i_within a_m.Quota 1 99).bind fun r21 =>
            some r21)
          else (some false))
        else (some false))
      else (some false))
    else (some false)).bind fun o3 =>
  match o3 with
  | c24 => some c24
theorem i_Method_fits_ok (a_m : Method) (v0_1 : Sv) (a_arity : Int) (R : Bool) (hF : i_Method_fits a_m a_arity = some R) :
    Fw.Spec Tryz.prog 131 [(.agg [(.int .i64 a_m.Rel), v0_1.v, (.int .i64 a_m.Limit), (.int .i64 a_m.Cost), (.int .i64 a_m.Quota)].toArray), (.int .i64 a_arity)] [crd (RdS 3 rdInt) v0_1.v a_m.Inputs] (fun _ : Unit => (.bool R)) (fun _ => []) := by
  refine Spec_enter (n := 30) Tryz.func131 rfl rfl (rs := [.tmp 4]) rfl rfl rfl ?_
  intro H0 F0
  unfold i_Method_fits at hF
  refine K_region (C_newR rfl (N_box (g := false) (v := (.agg [(.int .i64 a_m.Rel), v0_1.v, (.int .i64 a_m.Limit), (.int .i64 a_m.Cost), (.int .i64 a_m.Quota)].toArray)) ty108.sz (.tmp rfl rfl) rfl) (fun k1 => ?_))
  refine C_newR rfl (N_box (g := false) (v := (.int .i64 a_arity)) ty3.sz (.tmp rfl rfl) rfl) (fun k2 => ?_)
  refine C_val (V_assign (v := (.bool false)) (.bool _)) ?_
  refine C_nil ?_
  obtain ⟨o3, hio3, hO4⟩ := bind_some hF
  refine K_region (C_cut (fun f' cs' => ∃ (c24 : Bool) (g : Fr), c24 = o3 ∧ f' = updL g [(4, (.bool c24))] ∧ Ent cs' []) ?_ ?_)
  · replace hF := hio3
    refine C_val (V_fieldAddr (off := 1) fd108_1 (.tmp rfl rfl)) ?_
    refine C_at (.t .h) (fun hp => V_load (v := v0_1.v) ag22 (.tmp rfl rfl) hp.2 rfl rfl) ?_
    obtain ⟨r5, hx6, hF⟩ := bind_some hF
    refine C_x0 (.rd (.t (.t .h)) rfl .nil) (X_callS cf145 (.cons (.tmp rfl rfl) .nil) (i_ascending_ok a_m.Inputs v0_1 _ hx6)) (fun _ => ?_)
    refine Cm (.bool r5) rfl rfl ?_
    rcases Bool.eq_false_or_eq_true r5 with hg8 | hg8
    · rw [hg8]
      try rw [hg8] at hF; dsimp only [cond_true, cond_false] at hF
      refine C_on (t := 8) rfl rfl rfl ?_
      refine C_val (V_fieldAddr (off := 1) fd108_1 (.tmp rfl rfl)) ?_
      refine C_on (t := 8) rfl rfl rfl ?_
      refine C_at (.t .h) (fun hp => V_load (v := v0_1.v) ag22 (.tmp rfl rfl) hp.2 rfl rfl) ?_
      refine C_on (t := 8) rfl rfl rfl ?_
      refine C_val (V_makeFunc (fn := .func 146) (vs := []) (us := [(.pointer (some ⟨k2, 0, some 0⟩))]) .nil (.cons (.tmp rfl rfl) .nil)) ?_
      refine C_on (t := 8) rfl rfl rfl ?_
      obtain ⟨r9, hx10, hF⟩ := bind_some hF
      refine C_x0 (.rd (.t (.t .h)) rfl (.rd .h rfl .nil)) (X_callS cf114 (.cons (.tmp rfl rfl) (.cons (.tmp rfl rfl) .nil)) (g_slices_ContainsFunc_int_int_iMethodfits1_ok a_m.Inputs v0_1 k2 a_arity _ hx10)) (fun _ => ?_)
      refine C_on (t := 8) rfl rfl rfl ?_
      refine C_val (V_not (b := r9) (.tmp rfl rfl)) ?_
      refine C_val (V_pick (b := true) (u := (.bool (!r9))) (v := (.bool false)) (.tmp rfl rfl) (.tmp rfl rfl) (.bool _)) ?_
      refine Cm (.bool (!r9)) rfl rfl ?_
      rcases Bool.eq_false_or_eq_true (!r9) with hg12 | hg12
      · rw [hg12]
        try rw [hg12] at hF; dsimp only [cond_true, cond_false] at hF
        refine C_on (t := 15) rfl rfl rfl ?_
        refine C_val (V_fieldAddr (off := 2) fd108_2 (.tmp rfl rfl)) ?_
        refine C_on (t := 15) rfl rfl rfl ?_
        refine C_at (.t .h) (fun hp => V_load (v := (.int .i64 a_m.Limit)) ag3 (.tmp rfl rfl) hp.2 rfl rfl) ?_
        refine C_on (t := 15) rfl rfl rfl ?_
        obtain ⟨r13, hx14, hF⟩ := bind_some hF
        refine C_x0 .nil (X_callS cf76 (.cons (.tmp rfl rfl) (.cons (.int _ _) (.cons (.int _ _) .nil))) (i_within_ok a_m.Limit 0 9 _ hx14)) (fun _ => ?_)
        refine C_val (V_pick (b := true) (u := (.bool r13)) (v := (.bool false)) (.tmp rfl rfl) (.tmp rfl rfl) (.bool _)) ?_
        refine Cm (.bool r13) rfl rfl ?_
        rcases Bool.eq_false_or_eq_true r13 with hg16 | hg16
        · rw [hg16]
          try rw [hg16] at hF; dsimp only [cond_true, cond_false] at hF
          refine C_on (t := 20) rfl rfl rfl ?_
          refine C_val (V_fieldAddr (off := 3) fd108_3 (.tmp rfl rfl)) ?_
          refine C_on (t := 20) rfl rfl rfl ?_
          refine C_at (.t .h) (fun hp => V_load (v := (.int .i64 a_m.Cost)) ag3 (.tmp rfl rfl) hp.2 rfl rfl) ?_
          refine C_on (t := 20) rfl rfl rfl ?_
          obtain ⟨r17, hx18, hF⟩ := bind_some hF
          refine C_x0 .nil (X_callS cf147 (.cons (.tmp rfl rfl) .nil) (i_isCost_ok a_m.Cost _ hx18)) (fun _ => ?_)
          refine C_val (V_pick (b := true) (u := (.bool r17)) (v := (.bool false)) (.tmp rfl rfl) (.tmp rfl rfl) (.bool _)) ?_
          refine Cm (.bool r17) rfl rfl ?_
          rcases Bool.eq_false_or_eq_true r17 with hg20 | hg20
          · rw [hg20]
            try rw [hg20] at hF; dsimp only [cond_true, cond_false] at hF
            refine C_on (t := 25) rfl rfl rfl ?_
            refine C_val (V_fieldAddr (off := 4) fd108_4 (.tmp rfl rfl)) ?_
            refine C_on (t := 25) rfl rfl rfl ?_
            refine C_at (.t .h) (fun hp => V_load (v := (.int .i64 a_m.Quota)) ag3 (.tmp rfl rfl) hp.2 rfl rfl) ?_
            refine C_on (t := 25) rfl rfl rfl ?_
            obtain ⟨r21, hx22, hF⟩ := bind_some hF
            refine C_x0 .nil (X_callS cf76 (.cons (.tmp rfl rfl) (.cons (.int _ _) (.cons (.int _ _) .nil))) (i_within_ok a_m.Quota 1 99 _ hx22)) (fun _ => ?_)
            refine C_val (V_pick (b := true) (u := (.bool r21)) (v := (.bool false)) (.tmp rfl rfl) (.tmp rfl rfl) (.bool _)) ?_
            refine Ca (.bool r21) rfl rfl ?_
            refine C_nil ?_
            obtain rfl := Option.some.inj hF
            exact ⟨_, _, rfl, (EqL.cons rfl (EqL.nil)).eq, (.sel .nil)⟩
          rw [hg20]
          try rw [hg20] at hF; dsimp only [cond_true, cond_false] at hF
          iterate 3 refine C_off (t := 25) rfl rfl rfl ?_
          refine C_val (V_pick (b := false) (u := undef) (v := (.bool false)) (.tmp rfl rfl) (.tmp rfl rfl) (.bool _)) ?_
          refine Ca (.bool false) rfl rfl ?_
          refine C_nil ?_
          obtain rfl := Option.some.inj hF
          exact ⟨_, _, rfl, (EqL.cons rfl (EqL.nil)).eq, (.sel .nil)⟩
        rw [hg16]
        try rw [hg16] at hF; dsimp only [cond_true, cond_false] at hF
        iterate 3 refine C_off (t := 20) rfl rfl rfl ?_
        refine C_val (V_pick (b := false) (u := undef) (v := (.bool false)) (.tmp rfl rfl) (.tmp rfl rfl) (.bool _)) ?_
        refine Cm (.bool false) rfl rfl ?_
        iterate 3 refine C_off (t := 25) rfl rfl rfl ?_
        refine C_val (V_pick (b := false) (u := undef) (v := (.bool false)) (.tmp rfl rfl) (.tmp rfl rfl) (.bool _)) ?_
        refine Ca (.bool false) rfl rfl ?_
        refine C_nil ?_
        obtain rfl := Option.some.inj hF
        exact ⟨_, _, rfl, (EqL.cons rfl (EqL.nil)).eq, (.sel .nil)⟩
      rw [hg12]
      try rw [hg12] at hF; dsimp only [cond_true, cond_false] at hF
      iterate 3 refine C_off (t := 15) rfl rfl rfl ?_
      refine C_val (V_pick (b := false) (u := undef) (v := (.bool false)) (.tmp rfl rfl) (.tmp rfl rfl) (.bool _)) ?_
      refine Cm (.bool false) rfl rfl ?_
      iterate 3 refine C_off (t := 20) rfl rfl rfl ?_
      refine C_val (V_pick (b := false) (u := undef) (v := (.bool false)) (.tmp rfl rfl) (.tmp rfl rfl) (.bool _)) ?_
      refine Cm (.bool false) rfl rfl ?_
      iterate 3 refine C_off (t := 25) rfl rfl rfl ?_
      refine C_val (V_pick (b := false) (u := undef) (v := (.bool false)) (.tmp rfl rfl) (.tmp rfl rfl) (.bool _)) ?_
      refine Ca (.bool false) rfl rfl ?_
      refine C_nil ?_
      obtain rfl := Option.some.inj hF
      exact ⟨_, _, rfl, (EqL.cons rfl (EqL.nil)).eq, (.sel .nil)⟩
    rw [hg8]
    try rw [hg8] at hF; dsimp only [cond_true, cond_false] at hF
    iterate 5 refine C_off (t := 8) rfl rfl rfl ?_
    refine C_val (V_pick (b := false) (u := undef) (v := (.bool false)) (.tmp rfl rfl) (.tmp rfl rfl) (.bool _)) ?_
    refine Cm (.bool false) rfl rfl ?_
    iterate 3 refine C_off (t := 15) rfl rfl rfl ?_
    refine C_val (V_pick (b := false) (u := undef) (v := (.bool false)) (.tmp rfl rfl) (.tmp rfl rfl) (.bool _)) ?_
    refine Cm (.bool false) rfl rfl ?_
    iterate 3 refine C_off (t := 20) rfl rfl rfl ?_
    refine C_val (V_pick (b := false) (u := undef) (v := (.bool false)) (.tmp rfl rfl) (.tmp rfl rfl) (.bool _)) ?_
    refine Cm (.bool false) rfl rfl ?_
    iterate 3 refine C_off (t := 25) rfl rfl rfl ?_
    refine C_val (V_pick (b := false) (u := undef) (v := (.bool false)) (.tmp rfl rfl) (.tmp rfl rfl) (.bool _)) ?_
    refine Ca (.bool false) rfl rfl ?_
    refine C_nil ?_
    obtain rfl := Option.some.inj hF
    exact ⟨_, _, rfl, (EqL.cons rfl (EqL.nil)).eq, (.sel .nil)⟩
  rintro _ _ ⟨c24, g25, rfl, rfl, hE⟩
  replace hF := hO4
  clear hO4
  try dsimp only at hF
  refine K_ent hE ?_
  refine CW_ret ?_
  obtain rfl := Option.some.inj hF
  exact End_ret () (.tmp rfl rfl .nil) rfl (.sel .nil)

/-! impl.IsMethod -/
def i_IsMethod (a_s : List Int) (a_m : Method) : Option (Bool) :=
  ((i_hasRel a_s a_m.Rel).bind fun r4 =>
    bif r4 then ((ix a_s a_m.Rel).bind fun x8 =>
      (i_Method_fits a_m x8).bind fun r14 =>
      some r14)
    else (some false)).bind fun o2 =>
  match o2 with
  | c17 => some c17
theorem i_IsMethod_ok (a_s : List Int) (v0_0 : Sv) (a_m : Method) (v1_1 : Sv) (R : Bool) (hF : i_IsMethod a_s a_m = some R) :
    Fw.Spec Tryz.prog 105 [v0_0.v, (.agg [(.int .i64 a_m.Rel), v1_1.v, (.int .i64 a_m.Limit), (.int .i64 a_m.Cost), (.int .i64 a_m.Quota)].toArray)] [crd (RdS 3 rdInt) v0_0.v a_s, crd (RdS 3 rdInt) v1_1.v a_m.Inputs] (fun _ : Unit => (.bool R)) (fun _ => []) := by
  refine Spec_enter (n := 18) Tryz.func105 rfl rfl (rs := [.tmp 4]) rfl rfl rfl ?_
  intro H0 F0
  unfold i_IsMethod at hF
  refine K_region (C_newR rfl (N_box (g := false) (v := (.agg [(.int .i64 a_m.Rel), v1_1.v, (.int .i64 a_m.Limit), (.int .i64 a_m.Cost), (.int .i64 a_m.Quota)].toArray)) ty108.sz (.tmp rfl rfl) rfl) (fun k1 => ?_))
  refine C_val (V_assign (v := (.bool false)) (.bool _)) ?_
  refine C_nil ?_
  obtain ⟨o2, hio2, hO3⟩ := bind_some hF
  refine K_draw [0, 1, 2, 3, 4, 5, 6, 7, 8, 9, 10, 11, 12, 13] [0, 0, 2, 7, 15, 31, 31, 31, 159, 479, 991, 2047, 4095, 8191] [3, 11] mixed (by decide +kernel) ?_
  refine D_cut (fun f' cs' => ∃ (c17 : Bool) (g : Fr), c17 = o2 ∧ f' = updL g [(4, (.bool c17))] ∧ Ent cs' []) ?_ ?_
  · replace hF := hio2
    refine Dm v0_0.v rfl rfl rfl rfl ?_
    refine D_val rfl .no (fun ha => V_fieldAddr (off := 0) fd108_0 (EN ha (.tmp rfl rfl) rfl)) ?_
    refine D_at rfl .no .h rfl (fun ha hp => V_load (v := (.int .i64 a_m.Rel)) ag3 (EN ha (.tmp rfl rfl) rfl) hp.2 rfl rfl) ?_
    obtain ⟨r4, hx5, hF⟩ := bind_some hF
    refine D_act0 rfl rfl .no (.rd (.t .h) rfl .nil) .nil (fun ha => X_callS cf130 (.cons (EN ha (.tmp rfl rfl) rfl) (.cons (EN ha (.tmp rfl rfl) rfl) .nil)) (i_hasRel_ok a_s v0_0 a_m.Rel _ hx5)) (fun _ => ?_)
    refine Dm (.bool r4) rfl rfl rfl rfl ?_
    rcases Bool.eq_false_or_eq_true r4 with hg7 | hg7
    · rw [hg7]
      try rw [hg7] at hF; dsimp only [cond_true, cond_false] at hF
      refine D_at rfl (.on 9 rfl rfl rfl) .h rfl (fun ha hp => V_loadBox ag108 ty108.sz rfl (EN ha (.tmp rfl rfl) rfl) hp.2 rfl) ?_
      refine D_val rfl (.on 9 rfl rfl rfl) (fun ha => V_move (v := v0_0.v) (EN ha (.tmp rfl rfl) rfl)) ?_
      refine D_val rfl (.on 9 rfl rfl rfl) (fun ha => V_fieldAddr (off := 0) fd108_0 (EN ha (.tmp rfl rfl) rfl)) ?_
      refine D_at rfl (.on 9 rfl rfl rfl) .h rfl (fun ha hp => V_load (v := (.int .i64 a_m.Rel)) ag3 (EN ha (.tmp rfl rfl) rfl) hp.2 rfl rfl) ?_
      obtain ⟨x8, hx9, hF⟩ := bind_some hF
      obtain ⟨hp10, hx11⟩ := ix_some hx9
      refine D_idx (a := x8) sl22 ty3.sz rfl (.on 9 rfl rfl rfl) (.tmp rfl rfl) (.tmp rfl rfl) rfl rfl (.t .h) hp10 hx11 (fun k12 j13 => ?_)
      refine D_ldS (w := (.int .i64 x8)) ag3 rfl (.on 9 rfl rfl rfl) (.tmp rfl rfl) rfl .h ls3_0 ?_
      obtain ⟨r14, hx15, hF⟩ := bind_some hF
      refine D_act0 rfl rfl (.on 9 rfl rfl rfl) (.rd (.t (.t (.t .h))) rfl .nil) .nil (fun ha => X_callS cf131 (.cons (EN ha (.tmp rfl rfl) rfl) (.cons (EN ha (.tmp rfl rfl) rfl) .nil)) (i_Method_fits_ok a_m v1_1 x8 _ hx15)) (fun _ => ?_)
      refine D_val rfl .no (fun ha => V_pick (b := true) (u := (.bool r14)) (v := (.bool false)) (EN ha (.tmp rfl rfl) rfl) (EN ha (.tmp rfl rfl) rfl) (EN ha (.bool _) rfl)) ?_
      refine Da (.bool r14) rfl rfl rfl rfl ?_
      refine D_nil ?_
      obtain rfl := Option.some.inj hF
      exact ⟨_, _, rfl, (EqL.cons rfl (EqL.nil)).eq, (.sel .nil)⟩
    rw [hg7]
    try rw [hg7] at hF; dsimp only [cond_true, cond_false] at hF
    iterate 7 refine D_off 9 rfl rfl rfl rfl ?_
    refine D_val rfl .no (fun ha => V_pick (b := false) (u := undef) (v := (.bool false)) (EN ha (.tmp rfl rfl) rfl) (EN ha (.tmp rfl rfl) rfl) (EN ha (.bool _) rfl)) ?_
    refine Da (.bool false) rfl rfl rfl rfl ?_
    refine D_nil ?_
    obtain rfl := Option.some.inj hF
    exact ⟨_, _, rfl, (EqL.cons rfl (EqL.nil)).eq, (.sel .nil)⟩
  rintro _ _ ⟨c17, g18, rfl, rfl, hE⟩
  replace hF := hO3
  clear hO3
  try dsimp only at hF
  refine K_ent hE ?_
  refine CW_ret ?_
  obtain rfl := Option.some.inj hF
  exact End_ret () (.tmp rfl rfl .nil) rfl (.sel .nil)

/-! impl.AreMethods$1 -/
def i_AreMethods_1 (a_m : Method) (a_e1 : List Int) : Option (Bool) :=
  (i_IsMethod a_e1 a_m).bind fun r2 =>
  some (!r2)
theorem i_AreMethods_1_ok (a_m : Method) (v0_1 : Sv) (kc1 : Nat) (a_e1 : List Int) (vc1_0 : Sv) (R : Bool) (hF : i_AreMethods_1 a_m a_e1 = some R) :
    Fw.Spec Tryz.prog 104 [(.agg [(.int .i64 a_m.Rel), v0_1.v, (.int .i64 a_m.Limit), (.int .i64 a_m.Cost), (.int .i64 a_m.Quota)].toArray), (.pointer (some ⟨kc1, 0, some 0⟩))] [crd (RdS 3 rdInt) v0_1.v a_m.Inputs, cboR kc1 22 vc1_0.v, crd (RdS 3 rdInt) vc1_0.v a_e1] (fun _ : Unit => (.bool R)) (fun _ => []) := by
  refine Spec_enter (n := 8) Tryz.func104 rfl rfl (rs := [.tmp 3]) rfl rfl rfl ?_
  intro H0 F0
  unfold i_AreMethods_1 at hF
  refine K_region (C_newR rfl (N_box (g := false) (v := (.agg [(.int .i64 a_m.Rel), v0_1.v, (.int .i64 a_m.Limit), (.int .i64 a_m.Cost), (.int .i64 a_m.Quota)].toArray)) ty108.sz (.tmp rfl rfl) rfl) (fun k1 => ?_))
  refine C_val (V_assign (v := (.bool false)) (.bool _)) ?_
  refine C_nil (K_region (C_at (.t (.t .h)) (fun hp => V_load (v := vc1_0.v) ag22 (.tmp rfl rfl) hp.2 rfl rfl) ?_))
  refine C_at .h (fun hp => V_loadBox ag108 ty108.sz rfl (.tmp rfl rfl) hp.2 rfl) ?_
  obtain ⟨r2, hx3, hF⟩ := bind_some hF
  refine C_x0 (.rd (.t (.t (.t .h))) rfl (.rd (.t .h) rfl .nil)) (X_callS cf105 (.cons (.tmp rfl rfl) (.cons (.tmp rfl rfl) .nil)) (i_IsMethod_ok a_e1 vc1_0 a_m v0_1 _ hx3)) (fun _ => ?_)
  refine C_val (V_not (b := r2) (.tmp rfl rfl)) ?_
  refine Ca (.bool (!r2)) rfl rfl ?_
  refine C_nil (CW_ret ?_)
  obtain rfl := Option.some.inj hF
  exact End_ret () (.tmp rfl rfl .nil) rfl (.sel .nil)

/-! impl.Method] -/
def g_slices_IndexFunc_impl_Method_impl_Method_iAreMethods1_L1 (a_e1 : List Int) : List Method → Nat → Option (Int)
  | [], k4 => some (-1)
  | x6 :: rest5, k4 => (i_AreMethods_1 x6 a_e1).bind fun r16 =>
    if r16 then (
      some (k4 : Int))
    else (
      g_slices_IndexFunc_impl_Method_impl_Method_iAreMethods1_L1 a_e1 rest5 (k4 + 1))
def g_slices_IndexFunc_impl_Method_impl_Method_iAreMethods1 (a_s : List Method) (a_e1 : List Int) : Option (Int) :=
  g_slices_IndexFunc_impl_Method_impl_Method_iAreMethods1_L1 a_e1 a_s 0
theorem g_slices_IndexFunc_impl_Method_impl_Method_iAreMethods1_ok (a_s : List Method) (v0_0 : Sv) (kc1 : Nat) (a_e1 : List Int) (vc1_0 : Sv) (R : Int) (hF : g_slices_IndexFunc_impl_Method_impl_Method_iAreMethods1 a_s a_e1 = some R) :
    Fw.Spec Tryz.prog 129 [v0_0.v, (.func (.func 104) [].toArray [(.pointer (some ⟨kc1, 0, some 0⟩))].toArray)] [crd (RdS 108 rd108) v0_0.v a_s, cboR kc1 22 vc1_0.v, crd (RdS 3 rdInt) vc1_0.v a_e1] (fun _ : Unit => (.int .i64 R)) (fun _ => []) := by
  refine Spec_enter (n := 19) Tryz.func129 rfl rfl (rs := [.tmp 4]) rfl rfl rfl ?_
  intro H0 F0
  unfold g_slices_IndexFunc_impl_Method_impl_Method_iAreMethods1 at hF
  refine K_region (C_val (V_assign (v := (.int .i64 0)) (.int _ _)) ?_)
  refine C_nil (K_in (K_region (Cm v0_0.v rfl rfl ?_)))
  refine C_at .h (fun hp => V_lenR (l := a_s.length) sl37 (.tmp rfl rfl) (crd_len hp)) ?_
  refine C_val (V_move (v := (.int .i64 0)) (.int _ _)) ?_
  refine C_nil (CW_block (CW_loop (m := a_s.length) (fun m2 f' cs' => ∃ (g : Fr) (k4 : Nat) (rest5 : List Method), m2 = rest5.length ∧ f' = updL g [(0, v0_0.v), (1, (.func (.func 104) [].toArray [(.pointer (some ⟨kc1, 0, some 0⟩))].toArray)), (7, (.int .i64 (a_s.length : Int))), (8, (.int .i64 (k4 : Int)))] ∧ List.drop k4 a_s = rest5 ∧ Ent cs' [crd (RdS 108 rd108) v0_0.v a_s, cboR kc1 22 vc1_0.v, crd (RdS 3 rdInt) vc1_0.v a_e1] ∧ g_slices_IndexFunc_impl_Method_impl_Method_iAreMethods1_L1 a_e1 rest5 k4 = some R) ⟨_, 0, _, rfl, (EqL.cons rfl (EqL.cons rfl (EqL.cons rfl (EqL.cons rfl (EqL.nil))))).eq, rfl, (.sel (.rd .h rfl (.rd (.t .h) rfl (.rd (.t (.t .h)) rfl .nil)))), hF⟩ ?_))
  clear hF
  rintro m2 _ _ ⟨g3, k4, rest5, rfl, rfl, hd7, hE, hF⟩
  refine K_ent hE ?_
  clear hE
  refine K_pure (c := crd (RdS 108 rd108) v0_0.v a_s) .h crd_bound (fun hbd12 => ?_)
  rcases rest5 with _ | ⟨x6, rest5⟩
  · have hk8 := List.drop_eq_nil_iff.1 hd7
    have hfe11 : (decide (((k4 : Int) : Int) < (a_s.length : Int))) = false := decide_eq_false (by omega)
    rw [g_slices_IndexFunc_impl_Method_impl_Method_iAreMethods1_L1] at hF
    refine K_region (C_val (V_lss (i := (k4 : Int)) (j := (a_s.length : Int)) (.tmp rfl rfl) (.tmp rfl rfl)) ?_)
    refine C_nil (K_in (CW_cond (b := (decide (((k4 : Int) : Int) < (a_s.length : Int)))) (.tmp rfl rfl) (fun hb => absurd (hfe11.symm.trans hb) (by decide)) (fun _ => ?_)))
    refine CW_exit ?_
    iterate 2 refine CThen_exit ?_
    refine CIn_self (K_region (C_val (V_assign (v := (.int .i64 (-1))) (.int _ _)) ?_))
    refine C_nil (CW_ret ?_)
    obtain rfl := Option.some.inj hF
    exact End_ret () (.tmp rfl rfl .nil) rfl (.sel .nil)
  obtain ⟨hk8, hx9, hd10⟩ := drop_cons hd7
  have hfe11 : (decide (((k4 : Int) : Int) < (a_s.length : Int))) = true := decide_eq_true (by omega)
  rw [g_slices_IndexFunc_impl_Method_impl_Method_iAreMethods1_L1] at hF
  refine K_region (C_val (V_lss (i := (k4 : Int)) (j := (a_s.length : Int)) (.tmp rfl rfl) (.tmp rfl rfl)) ?_)
  refine C_nil (K_in (CW_cond (b := (decide (((k4 : Int) : Int) < (a_s.length : Int)))) (.tmp rfl rfl) (fun _ => ?_) (fun hb => absurd (hfe11.symm.trans hb) (by decide))))
  refine CW_skip (K_block (K_region (Cm (.int .i64 (k4 : Int)) rfl rfl ?_)))
  refine Ca (.int .i64 (k4 : Int)) rfl rfl ?_
  refine C_nil (K_region (Cm (.func (.func 104) [].toArray [(.pointer (some ⟨kc1, 0, some 0⟩))].toArray) rfl rfl ?_))
  refine Cm v0_0.v rfl rfl ?_
  refine Cm (.int .i64 (k4 : Int)) rfl rfl ?_
  refine C_idx (a := x6) sl37 ty108.sz (.tmp rfl rfl) (.tmp rfl rfl) .h (Int.natCast_nonneg k4) hx9 (fun k13 j14 => ?_)
  refine C_ldA1 (ul108_0_108 x6) ag108 ty108.sz rfl (.tmp rfl rfl) .h la108_0_108 (fun p15 => ?_)
  obtain ⟨r16, hx17, hF⟩ := bind_some hF
  refine C_x0 (.rd .h rfl (.rd (.t (.t (.t .h))) rfl (.rd (.t (.t (.t (.t .h)))) rfl .nil))) (X_callCS cf104 (.tmp rfl rfl) (.cons (.tmp rfl rfl) .nil) (i_AreMethods_1_ok x6 p15 kc1 a_e1 vc1_0 _ hx17)) (fun _ => ?_)
  refine C_nil (CW_cond (b := r16) (.tmp rfl rfl) (fun hb20 => ?_) (fun hb20 => ?_))
  · rw [if_pos hb20] at hF
    refine K_region (Cm (.int .i64 (k4 : Int)) rfl rfl ?_)
    refine Ca (.int .i64 (k4 : Int)) rfl rfl ?_
    refine C_nil (CW_ret ?_)
    obtain rfl := Option.some.inj hF
    exact End_ret () (.tmp rfl rfl .nil) rfl (.sel .nil)
  rw [if_neg (by rw [hb20]; exact Bool.false_ne_true)] at hF
  refine CW_skip (CW_region (C_val (V_add (i := (k4 : Int)) (j := 1) (.tmp rfl rfl) (.int _ _)) ?_))
  refine Cm (.int .i64 (IntKind.i64.wrap ((k4 : Int) + 1))) rfl rfl ?_
  refine C_nil ?_
  have hw19 : IntKind.i64.wrap ((k4 : Int) + 1) = ((k4 + 1 : Nat) : Int) := by rw [wrap_in (by omega) (by omega)]; rfl
  rw [hw19]
  exact ⟨_, Nat.lt_succ_self _, _, k4 + 1, rest5, rfl, (EqL.cons rfl (EqL.cons rfl (EqL.cons rfl (EqL.cons rfl (EqL.nil))))).eq, hd10, (.sel (.rd (.t (.t .h)) rfl (.rd (.t (.t (.t .h))) rfl (.rd (.t (.t (.t (.t .h)))) rfl .nil)))), hF⟩

/-! impl.Method] -/
def g_slices_ContainsFunc_impl_Method_impl_Method_iAreMethods1 (a_s : List Method) (a_e1 : List Int) : Option (Bool) :=
  (g_slices_IndexFunc_impl_Method_impl_Method_iAreMethods1 a_s a_e1).bind fun r1 =>
  some (decide ((0 : Int) ≤ r1))
theorem g_slices_ContainsFunc_impl_Method_impl_Method_iAreMethods1_ok (a_s : List Method) (v0_0 : Sv) (kc1 : Nat) (a_e1 : List Int) (vc1_0 : Sv) (R : Bool) (hF : g_slices_ContainsFunc_impl_Method_impl_Method_iAreMethods1 a_s a_e1 = some R) :
    Fw.Spec Tryz.prog 103 [v0_0.v, (.func (.func 104) [].toArray [(.pointer (some ⟨kc1, 0, some 0⟩))].toArray)] [crd (RdS 108 rd108) v0_0.v a_s, cboR kc1 22 vc1_0.v, crd (RdS 3 rdInt) vc1_0.v a_e1] (fun _ : Unit => (.bool R)) (fun _ => []) := by
  refine Spec_enter (n := 9) Tryz.func103 rfl rfl (rs := [.tmp 4]) rfl rfl rfl ?_
  intro H0 F0
  unfold g_slices_ContainsFunc_impl_Method_impl_Method_iAreMethods1 at hF
  refine K_region (C_val (V_assign (v := (.bool false)) (.bool _)) ?_)
  refine C_nil (K_region (Cm v0_0.v rfl rfl ?_))
  refine Cm (.func (.func 104) [].toArray [(.pointer (some ⟨kc1, 0, some 0⟩))].toArray) rfl rfl ?_
  obtain ⟨r1, hx2, hF⟩ := bind_some hF
  refine C_x0 (.rd .h rfl (.rd (.t .h) rfl (.rd (.t (.t .h)) rfl .nil))) (X_callS cf129 (.cons (.tmp rfl rfl) (.cons (.tmp rfl rfl) .nil)) (g_slices_IndexFunc_impl_Method_impl_Method_iAreMethods1_ok a_s v0_0 kc1 a_e1 vc1_0 _ hx2)) (fun _ => ?_)
  refine C_val (V_geq (i := r1) (j := 0) (.tmp rfl rfl) (.int _ _)) ?_
  refine Ca (.bool (decide ((0 : Int) ≤ r1))) rfl rfl ?_
  refine C_nil (CW_ret ?_)
  obtain rfl := Option.some.inj hF
  exact End_ret () (.tmp rfl rfl .nil) rfl (.sel .nil)

/-! impl.AreMethods -/
def i_AreMethods (a_s : List Int) (a_l : List Method) : Option (Bool) :=
  ((i_IsSchema a_s).bind fun r4 =>
    bif r4 then (bif (decide (((a_l.length : Int) : Int) ≤ 5)) then ((g_slices_ContainsFunc_impl_Method_impl_Method_iAreMethods1 a_l a_s).bind fun r9 =>
        some (!r9))
      else (some false))
    else (some false)).bind fun o2 =>
  match o2 with
  | c12 => some c12
theorem i_AreMethods_ok (a_s : List Int) (v0_0 : Sv) (a_l : List Method) (v1_0 : Sv) (R : Bool) (hF : i_AreMethods a_s a_l = some R) :
    Fw.Spec Tryz.prog 67 [v0_0.v, v1_0.v] [crd (RdS 3 rdInt) v0_0.v a_s, crd (RdS 108 rd108) v1_0.v a_l] (fun _ : Unit => (.bool R)) (fun _ => []) := by
  refine Spec_enter (n := 18) Tryz.func67 rfl rfl (rs := [.tmp 4]) rfl rfl rfl ?_
  intro H0 F0
  unfold i_AreMethods at hF
  refine K_region (C_newR rfl (N_box (g := false) (v := v0_0.v) ty22.sz (.tmp rfl rfl) rfl) (fun k1 => ?_))
  refine C_val (V_assign (v := (.bool false)) (.bool _)) ?_
  refine C_nil ?_
  obtain ⟨o2, hio2, hO3⟩ := bind_some hF
  refine K_region (C_cut (fun f' cs' => ∃ (c12 : Bool) (g : Fr), c12 = o2 ∧ f' = updL g [(4, (.bool c12))] ∧ Ent cs' []) ?_ ?_)
  · replace hF := hio2
    refine C_at .h (fun hp => V_load (v := v0_0.v) ag22 (.tmp rfl rfl) hp.2 rfl rfl) ?_
    obtain ⟨r4, hx5, hF⟩ := bind_some hF
    refine C_x0 (.rd (.t .h) rfl .nil) (X_callS cf102 (.cons (.tmp rfl rfl) .nil) (i_IsSchema_ok a_s v0_0 _ hx5)) (fun _ => ?_)
    refine Cm (.bool r4) rfl rfl ?_
    rcases Bool.eq_false_or_eq_true r4 with hg7 | hg7
    · rw [hg7]
      try rw [hg7] at hF; dsimp only [cond_true, cond_false] at hF
      refine C_on (t := 7) rfl rfl rfl ?_
      refine Cm v1_0.v rfl rfl ?_
      refine C_on (t := 7) rfl rfl rfl ?_
      refine C_at (.t (.t .h)) (fun hp => V_lenR (l := a_l.length) sl37 (.tmp rfl rfl) (crd_len hp)) ?_
      refine C_on (t := 7) rfl rfl rfl ?_
      refine C_val (V_leq (i := (a_l.length : Int)) (j := 5) (.tmp rfl rfl) (.int _ _)) ?_
      refine C_val (V_pick (b := true) (u := (.bool (decide (((a_l.length : Int) : Int) ≤ 5)))) (v := (.bool false)) (.tmp rfl rfl) (.tmp rfl rfl) (.bool _)) ?_
      refine Cm (.bool (decide (((a_l.length : Int) : Int) ≤ 5))) rfl rfl ?_
      rcases Bool.eq_false_or_eq_true (decide (((a_l.length : Int) : Int) ≤ 5)) with hg8 | hg8
      · rw [hg8]
        try rw [hg8] at hF; dsimp only [cond_true, cond_false] at hF
        refine C_on (t := 12) rfl rfl rfl ?_
        refine Cm v1_0.v rfl rfl ?_
        refine C_on (t := 12) rfl rfl rfl ?_
        refine C_val (V_makeFunc (fn := .func 104) (vs := []) (us := [(.pointer (some ⟨k1, 0, some 0⟩))]) .nil (.cons (.tmp rfl rfl) .nil)) ?_
        refine C_on (t := 12) rfl rfl rfl ?_
        obtain ⟨r9, hx10, hF⟩ := bind_some hF
        refine C_x0 (.rd (.t (.t .h)) rfl (.rd .h rfl (.rd (.t .h) rfl .nil))) (X_callS cf103 (.cons (.tmp rfl rfl) (.cons (.tmp rfl rfl) .nil)) (g_slices_ContainsFunc_impl_Method_impl_Method_iAreMethods1_ok a_l v1_0 k1 a_s v0_0 _ hx10)) (fun _ => ?_)
        refine C_on (t := 12) rfl rfl rfl ?_
        refine C_val (V_not (b := r9) (.tmp rfl rfl)) ?_
        refine C_val (V_pick (b := true) (u := (.bool (!r9))) (v := (.bool false)) (.tmp rfl rfl) (.tmp rfl rfl) (.bool _)) ?_
        refine Ca (.bool (!r9)) rfl rfl ?_
        refine C_nil ?_
        obtain rfl := Option.some.inj hF
        exact ⟨_, _, rfl, (EqL.cons rfl (EqL.nil)).eq, (.sel .nil)⟩
      rw [hg8]
      try rw [hg8] at hF; dsimp only [cond_true, cond_false] at hF
      iterate 4 refine C_off (t := 12) rfl rfl rfl ?_
      refine C_val (V_pick (b := false) (u := undef) (v := (.bool false)) (.tmp rfl rfl) (.tmp rfl rfl) (.bool _)) ?_
      refine Ca (.bool false) rfl rfl ?_
      refine C_nil ?_
      obtain rfl := Option.some.inj hF
      exact ⟨_, _, rfl, (EqL.cons rfl (EqL.nil)).eq, (.sel .nil)⟩
    rw [hg7]
    try rw [hg7] at hF; dsimp only [cond_true, cond_false] at hF
    iterate 3 refine C_off (t := 7) rfl rfl rfl ?_
    refine C_val (V_pick (b := false) (u := undef) (v := (.bool false)) (.tmp rfl rfl) (.tmp rfl rfl) (.bool _)) ?_
    refine Cm (.bool false) rfl rfl ?_
    iterate 4 refine C_off (t := 12) rfl rfl rfl ?_
    refine C_val (V_pick (b := false) (u := undef) (v := (.bool false)) (.tmp rfl rfl) (.tmp rfl rfl) (.bool _)) ?_
    refine Ca (.bool false) rfl rfl ?_
    refine C_nil ?_
    obtain rfl := Option.some.inj hF
    exact ⟨_, _, rfl, (EqL.cons rfl (EqL.nil)).eq, (.sel .nil)⟩
  rintro _ _ ⟨c12, g13, rfl, rfl, hE⟩
  replace hF := hO3
  clear hO3
  try dsimp only at hF
  refine K_ent hE ?_
  refine CW_ret ?_
  obtain rfl := Option.some.inj hF
  exact End_ret () (.tmp rfl rfl .nil) rfl (.sel .nil)

/-! impl.arePositions$1 -/
def i_arePositions_1 (a_i : Int) (a_e1 : Int) : Option (Bool) :=
  (i_within a_i 0 (IntKind.i64.wrap (a_e1 - 1))).bind fun r1 =>
  some (!r1)
theorem i_arePositions_1_ok (a_i : Int) (kc1 : Nat) (a_e1 : Int) (R : Bool) (hF : i_arePositions_1 a_i a_e1 = some R) :
    Fw.Spec Tryz.prog 148 [(.int .i64 a_i), (.pointer (some ⟨kc1, 0, some 0⟩))] [cboR kc1 3 (.int .i64 a_e1)] (fun _ : Unit => (.bool R)) (fun _ => []) := by
  refine Spec_enter (n := 9) Tryz.func148 rfl rfl (rs := [.tmp 3]) rfl rfl rfl ?_
  intro H0 F0
  unfold i_arePositions_1 at hF
  refine K_region (C_val (V_assign (v := (.bool false)) (.bool _)) ?_)
  refine C_nil (K_region (Cm (.int .i64 a_i) rfl rfl ?_))
  refine C_at .h (fun hp => V_load (v := (.int .i64 a_e1)) ag3 (.tmp rfl rfl) hp.2 rfl rfl) ?_
  refine C_val (V_sub (i := a_e1) (j := 1) (.tmp rfl rfl) (.int _ _)) ?_
  obtain ⟨r1, hx2, hF⟩ := bind_some hF
  refine C_x0 .nil (X_callS cf76 (.cons (.tmp rfl rfl) (.cons (.int _ _) (.cons (.tmp rfl rfl) .nil))) (i_within_ok a_i 0 (IntKind.i64.wrap (a_e1 - 1)) _ hx2)) (fun _ => ?_)
  refine C_val (V_not (b := r1) (.tmp rfl rfl)) ?_
  refine Ca (.bool (!r1)) rfl rfl ?_
  refine C_nil (CW_ret ?_)
  obtain rfl := Option.some.inj hF
  exact End_ret () (.tmp rfl rfl .nil) rfl (.sel .nil)

/-! slices.IndexFunc[[]int,int] -/
def g_slices_IndexFunc_int_int_iarePositions1_L1 (a_e1 : Int) : List Int → Nat → Option (Int)
  | [], k4 => some (-1)
  | x6 :: rest5, k4 => (i_arePositions_1 x6 a_e1).bind fun r15 =>
    if r15 then (
      some (k4 : Int))
    else (
      g_slices_IndexFunc_int_int_iarePositions1_L1 a_e1 rest5 (k4 + 1))
def g_slices_IndexFunc_int_int_iarePositions1 (a_s : List Int) (a_e1 : Int) : Option (Int) :=
  g_slices_IndexFunc_int_int_iarePositions1_L1 a_e1 a_s 0
theorem g_slices_IndexFunc_int_int_iarePositions1_ok (a_s : List Int) (v0_0 : Sv) (kc1 : Nat) (a_e1 : Int) (R : Int) (hF : g_slices_IndexFunc_int_int_iarePositions1 a_s a_e1 = some R) :
    Fw.Spec Tryz.prog 141 [v0_0.v, (.func (.func 148) [].toArray [(.pointer (some ⟨kc1, 0, some 0⟩))].toArray)] [crd (RdS 3 rdInt) v0_0.v a_s, cboR kc1 3 (.int .i64 a_e1)] (fun _ : Unit => (.int .i64 R)) (fun _ => []) := by
  refine Spec_enter (n := 19) Tryz.func141 rfl rfl (rs := [.tmp 4]) rfl rfl rfl ?_
  intro H0 F0
  unfold g_slices_IndexFunc_int_int_iarePositions1 at hF
  refine K_region (C_val (V_assign (v := (.int .i64 0)) (.int _ _)) ?_)
  refine C_nil (K_in (K_region (Cm v0_0.v rfl rfl ?_)))
  refine C_at .h (fun hp => V_lenR (l := a_s.length) sl22 (.tmp rfl rfl) (crd_len hp)) ?_
  refine C_val (V_move (v := (.int .i64 0)) (.int _ _)) ?_
  refine C_nil (CW_block (CW_loop (m := a_s.length) (fun m2 f' cs' => ∃ (g : Fr) (k4 : Nat) (rest5 : List Int), m2 = rest5.length ∧ f' = updL g [(0, v0_0.v), (1, (.func (.func 148) [].toArray [(.pointer (some ⟨kc1, 0, some 0⟩))].toArray)), (7, (.int .i64 (a_s.length : Int))), (8, (.int .i64 (k4 : Int)))] ∧ List.drop k4 a_s = rest5 ∧ Ent cs' [crd (RdS 3 rdInt) v0_0.v a_s, cboR kc1 3 (.int .i64 a_e1)] ∧ g_slices_IndexFunc_int_int_iarePositions1_L1 a_e1 rest5 k4 = some R) ⟨_, 0, _, rfl, (EqL.cons rfl (EqL.cons rfl (EqL.cons rfl (EqL.cons rfl (EqL.nil))))).eq, rfl, (.sel (.rd .h rfl (.rd (.t .h) rfl .nil))), hF⟩ ?_))
  clear hF
  rintro m2 _ _ ⟨g3, k4, rest5, rfl, rfl, hd7, hE, hF⟩
  refine K_ent hE ?_
  clear hE
  refine K_pure (c := crd (RdS 3 rdInt) v0_0.v a_s) .h crd_bound (fun hbd12 => ?_)
  rcases rest5 with _ | ⟨x6, rest5⟩
  · have hk8 := List.drop_eq_nil_iff.1 hd7
    have hfe11 : (decide (((k4 : Int) : Int) < (a_s.length : Int))) = false := decide_eq_false (by omega)
    rw [g_slices_IndexFunc_int_int_iarePositions1_L1] at hF
    refine K_region (C_val (V_lss (i := (k4 : Int)) (j := (a_s.length : Int)) (.tmp rfl rfl) (.tmp rfl rfl)) ?_)
    refine C_nil (K_in (CW_cond (b := (decide (((k4 : Int) : Int) < (a_s.length : Int)))) (.tmp rfl rfl) (fun hb => absurd (hfe11.symm.trans hb) (by decide)) (fun _ => ?_)))
    refine CW_exit ?_
    iterate 2 refine CThen_exit ?_
    refine CIn_self (K_region (C_val (V_assign (v := (.int .i64 (-1))) (.int _ _)) ?_))
    refine C_nil (CW_ret ?_)
    obtain rfl := Option.some.inj hF
    exact End_ret () (.tmp rfl rfl .nil) rfl (.sel .nil)
  obtain ⟨hk8, hx9, hd10⟩ := drop_cons hd7
  have hfe11 : (decide (((k4 : Int) : Int) < (a_s.length : Int))) = true := decide_eq_true (by omega)
  rw [g_slices_IndexFunc_int_int_iarePositions1_L1] at hF
  refine K_region (C_val (V_lss (i := (k4 : Int)) (j := (a_s.length : Int)) (.tmp rfl rfl) (.tmp rfl rfl)) ?_)
  refine C_nil (K_in (CW_cond (b := (decide (((k4 : Int) : Int) < (a_s.length : Int)))) (.tmp rfl rfl) (fun _ => ?_) (fun hb => absurd (hfe11.symm.trans hb) (by decide))))
  refine CW_skip (K_block (K_region (Cm (.int .i64 (k4 : Int)) rfl rfl ?_)))
  refine Ca (.int .i64 (k4 : Int)) rfl rfl ?_
  refine C_nil (K_region (Cm (.func (.func 148) [].toArray [(.pointer (some ⟨kc1, 0, some 0⟩))].toArray) rfl rfl ?_))
  refine Cm v0_0.v rfl rfl ?_
  refine Cm (.int .i64 (k4 : Int)) rfl rfl ?_
  refine C_idx (a := x6) sl22 ty3.sz (.tmp rfl rfl) (.tmp rfl rfl) .h (Int.natCast_nonneg k4) hx9 (fun k13 j14 => ?_)
  refine C_ldS (w := (.int .i64 x6)) ag3 (.tmp rfl rfl) .h ls3_0 ?_
  obtain ⟨r15, hx16, hF⟩ := bind_some hF
  refine C_x0 (.rd (.t (.t .h)) rfl .nil) (X_callCS cf148 (.tmp rfl rfl) (.cons (.tmp rfl rfl) .nil) (i_arePositions_1_ok x6 kc1 a_e1 _ hx16)) (fun _ => ?_)
  refine C_nil (CW_cond (b := r15) (.tmp rfl rfl) (fun hb19 => ?_) (fun hb19 => ?_))
  · rw [if_pos hb19] at hF
    refine K_region (Cm (.int .i64 (k4 : Int)) rfl rfl ?_)
    refine Ca (.int .i64 (k4 : Int)) rfl rfl ?_
    refine C_nil (CW_ret ?_)
    obtain rfl := Option.some.inj hF
    exact End_ret () (.tmp rfl rfl .nil) rfl (.sel .nil)
  rw [if_neg (by rw [hb19]; exact Bool.false_ne_true)] at hF
  refine CW_skip (CW_region (C_val (V_add (i := (k4 : Int)) (j := 1) (.tmp rfl rfl) (.int _ _)) ?_))
  refine Cm (.int .i64 (IntKind.i64.wrap ((k4 : Int) + 1))) rfl rfl ?_
  refine C_nil ?_
  have hw18 : IntKind.i64.wrap ((k4 : Int) + 1) = ((k4 + 1 : Nat) : Int) := by rw [wrap_in (by omega) (by omega)]; rfl
  rw [hw18]
  exact ⟨_, Nat.lt_succ_self _, _, k4 + 1, rest5, rfl, (EqL.cons rfl (EqL.cons rfl (EqL.cons rfl (EqL.cons rfl (EqL.nil))))).eq, hd10, (.sel (.rd (.t .h) rfl (.rd (.t (.t .h)) rfl .nil))), hF⟩

/-! slices.ContainsFunc[[]int,int] -/
def g_slices_ContainsFunc_int_int_iarePositions1 (a_s : List Int) (a_e1 : Int) : Option (Bool) :=
  (g_slices_IndexFunc_int_int_iarePositions1 a_s a_e1).bind fun r1 =>
  some (decide ((0 : Int) ≤ r1))
theorem g_slices_ContainsFunc_int_int_iarePositions1_ok (a_s : List Int) (v0_0 : Sv) (kc1 : Nat) (a_e1 : Int) (R : Bool) (hF : g_slices_ContainsFunc_int_int_iarePositions1 a_s a_e1 = some R) :
    Fw.Spec Tryz.prog 114 [v0_0.v, (.func (.func 148) [].toArray [(.pointer (some ⟨kc1, 0, some 0⟩))].toArray)] [crd (RdS 3 rdInt) v0_0.v a_s, cboR kc1 3 (.int .i64 a_e1)] (fun _ : Unit => (.bool R)) (fun _ => []) := by
  refine Spec_enter (n := 9) Tryz.func114 rfl rfl (rs := [.tmp 4]) rfl rfl rfl ?_
  intro H0 F0
  unfold g_slices_ContainsFunc_int_int_iarePositions1 at hF
  refine K_region (C_val (V_assign (v := (.bool false)) (.bool _)) ?_)
  refine C_nil (K_region (Cm v0_0.v rfl rfl ?_))
  refine Cm (.func (.func 148) [].toArray [(.pointer (some ⟨kc1, 0, some 0⟩))].toArray) rfl rfl ?_
  obtain ⟨r1, hx2, hF⟩ := bind_some hF
  refine C_x0 (.rd .h rfl (.rd (.t .h) rfl .nil)) (X_callS cf141 (.cons (.tmp rfl rfl) (.cons (.tmp rfl rfl) .nil)) (g_slices_IndexFunc_int_int_iarePositions1_ok a_s v0_0 kc1 a_e1 _ hx2)) (fun _ => ?_)
  refine C_val (V_geq (i := r1) (j := 0) (.tmp rfl rfl) (.int _ _)) ?_
  refine Ca (.bool (decide ((0 : Int) ≤ r1))) rfl rfl ?_
  refine C_nil (CW_ret ?_)
  obtain rfl := Option.some.inj hF
  exact End_ret () (.tmp rfl rfl .nil) rfl (.sel .nil)

/-! impl.arePositions -/
def i_arePositions (a_l : List Int) (a_arity : Int) : Option (Bool) :=
  (g_slices_ContainsFunc_int_int_iarePositions1 a_l a_arity).bind fun r2 =>
  some (!r2)
theorem i_arePositions_ok (a_l : List Int) (v0_0 : Sv) (a_arity : Int) (R : Bool) (hF : i_arePositions a_l a_arity = some R) :
    Fw.Spec Tryz.prog 133 [v0_0.v, (.int .i64 a_arity)] [crd (RdS 3 rdInt) v0_0.v a_l] (fun _ : Unit => (.bool R)) (fun _ => []) := by
  refine Spec_enter (n := 9) Tryz.func133 rfl rfl (rs := [.tmp 4]) rfl rfl rfl ?_
  intro H0 F0
  unfold i_arePositions at hF
  refine K_region (C_newR rfl (N_box (g := false) (v := (.int .i64 a_arity)) ty3.sz (.tmp rfl rfl) rfl) (fun k1 => ?_))
  refine C_val (V_assign (v := (.bool false)) (.bool _)) ?_
  refine C_nil (K_region (Cm v0_0.v rfl rfl ?_))
  refine C_val (V_makeFunc (fn := .func 148) (vs := []) (us := [(.pointer (some ⟨k1, 0, some 0⟩))]) .nil (.cons (.tmp rfl rfl) .nil)) ?_
  obtain ⟨r2, hx3, hF⟩ := bind_some hF
  refine C_x0 (.rd (.t .h) rfl (.rd .h rfl .nil)) (X_callS cf114 (.cons (.tmp rfl rfl) (.cons (.tmp rfl rfl) .nil)) (g_slices_ContainsFunc_int_int_iarePositions1_ok a_l v0_0 k1 a_arity _ hx3)) (fun _ => ?_)
  refine C_val (V_not (b := r2) (.tmp rfl rfl)) ?_
  refine Ca (.bool (!r2)) rfl rfl ?_
  refine C_nil (CW_ret ?_)
  obtain rfl := Option.some.inj hF
  exact End_ret () (.tmp rfl rfl .nil) rfl (.sel .nil)

/-! impl.IsRule -/
def i_IsRule (a_s : List Int) (a_r : Rule) : Option (Bool) :=
  ((i_hasRel a_s a_r.From).bind fun r4 =>
    bif r4 then ((i_hasRel a_s a_r.To).bind fun r8 =>
      bif r8 then ((ix a_s a_r.To).bind fun x12 =>
        bif (((a_r.Map.length : Int) : Int) == x12) then ((ix a_s a_r.From).bind fun x19 =>
          (i_arePositions a_r.Map x19).bind fun r25 =>
          some r25)
        else (some false))
      else (some false))
    else (some false)).bind fun o2 =>
  match o2 with
  | c28 => some c28
theorem i_IsRule_ok (a_s : List Int) (v0_0 : Sv) (a_r : Rule) (v1_2 : Sv) (R : Bool) (hF : i_IsRule a_s a_r = some R) :
    Fw.Spec Tryz.prog 108 [v0_0.v, (.agg [(.int .i64 a_r.From), (.int .i64 a_r.To), v1_2.v].toArray)] [crd (RdS 3 rdInt) v0_0.v a_s, crd (RdS 3 rdInt) v1_2.v a_r.Map] (fun _ : Unit => (.bool R)) (fun _ => []) := by
  refine Spec_enter (n := 36) Tryz.func108 rfl rfl (rs := [.tmp 4]) rfl rfl rfl ?_
  intro H0 F0
  unfold i_IsRule at hF
  refine K_region (C_newR rfl (N_box (g := false) (v := (.agg [(.int .i64 a_r.From), (.int .i64 a_r.To), v1_2.v].toArray)) ty110.sz (.tmp rfl rfl) rfl) (fun k1 => ?_))
  refine C_val (V_assign (v := (.bool false)) (.bool _)) ?_
  refine C_nil ?_
  obtain ⟨o2, hio2, hO3⟩ := bind_some hF
  refine K_draw [0, 1, 2, 3, 4, 5, 6, 7, 8, 9, 10, 11, 12, 13, 14, 15, 16, 17, 18, 19, 20, 21, 22, 23, 24, 25, 26, 27, 28, 29, 30, 31] [0, 0, 2, 7, 15, 31, 31, 95, 255, 511, 1023, 2047, 4095, 8191, 2047, 2047, 34815, 116735, 247807, 524287, 1048575, 2097151, 4194303, 8388607, 4194303, 4194303, 37748735, 121634815, 255852543, 536870911, 1073741823, 2147483647] [3, 8, 29] mixed (by decide +kernel) ?_
  refine D_cut (fun f' cs' => ∃ (c28 : Bool) (g : Fr), c28 = o2 ∧ f' = updL g [(4, (.bool c28))] ∧ Ent cs' []) ?_ ?_
  · replace hF := hio2
    refine Dm v0_0.v rfl rfl rfl rfl ?_
    refine D_val rfl .no (fun ha => V_fieldAddr (off := 0) fd110_0 (EN ha (.tmp rfl rfl) rfl)) ?_
    refine D_at rfl .no .h rfl (fun ha hp => V_load (v := (.int .i64 a_r.From)) ag3 (EN ha (.tmp rfl rfl) rfl) hp.2 rfl rfl) ?_
    obtain ⟨r4, hx5, hF⟩ := bind_some hF
    refine D_act0 rfl rfl .no (.rd (.t .h) rfl .nil) .nil (fun ha => X_callS cf130 (.cons (EN ha (.tmp rfl rfl) rfl) (.cons (EN ha (.tmp rfl rfl) rfl) .nil)) (i_hasRel_ok a_s v0_0 a_r.From _ hx5)) (fun _ => ?_)
    refine Dm (.bool r4) rfl rfl rfl rfl ?_
    rcases Bool.eq_false_or_eq_true r4 with hg7 | hg7
    · rw [hg7]
      try rw [hg7] at hF; dsimp only [cond_true, cond_false] at hF
      refine D_val rfl (.on 9 rfl rfl rfl) (fun ha => V_move (v := v0_0.v) (EN ha (.tmp rfl rfl) rfl)) ?_
      refine D_val rfl (.on 9 rfl rfl rfl) (fun ha => V_fieldAddr (off := 1) fd110_1 (EN ha (.tmp rfl rfl) rfl)) ?_
      refine D_at rfl (.on 9 rfl rfl rfl) .h rfl (fun ha hp => V_load (v := (.int .i64 a_r.To)) ag3 (EN ha (.tmp rfl rfl) rfl) hp.2 rfl rfl) ?_
      obtain ⟨r8, hx9, hF⟩ := bind_some hF
      refine D_act0 rfl rfl (.on 9 rfl rfl rfl) (.rd (.t .h) rfl .nil) .nil (fun ha => X_callS cf130 (.cons (EN ha (.tmp rfl rfl) rfl) (.cons (EN ha (.tmp rfl rfl) rfl) .nil)) (i_hasRel_ok a_s v0_0 a_r.To _ hx9)) (fun _ => ?_)
      refine D_val rfl .no (fun ha => V_pick (b := true) (u := (.bool r8)) (v := (.bool false)) (EN ha (.tmp rfl rfl) rfl) (EN ha (.tmp rfl rfl) rfl) (EN ha (.bool _) rfl)) ?_
      refine Dm (.bool r8) rfl rfl rfl rfl ?_
      rcases Bool.eq_false_or_eq_true r8 with hg11 | hg11
      · rw [hg11]
        try rw [hg11] at hF; dsimp only [cond_true, cond_false] at hF
        refine D_val rfl (.on 15 rfl rfl rfl) (fun ha => V_fieldAddr (off := 2) fd110_2 (EN ha (.tmp rfl rfl) rfl)) ?_
        refine D_at rfl (.on 15 rfl rfl rfl) .h rfl (fun ha hp => V_load (v := v1_2.v) ag22 (EN ha (.tmp rfl rfl) rfl) hp.2 rfl rfl) ?_
        refine D_at rfl (.on 15 rfl rfl rfl) (.t (.t .h)) rfl (fun ha hp => V_lenR (l := a_r.Map.length) sl22 (EN ha (.tmp rfl rfl) rfl) (crd_len hp)) ?_
        refine D_val rfl (.on 15 rfl rfl rfl) (fun ha => V_move (v := v0_0.v) (EN ha (.tmp rfl rfl) rfl)) ?_
        refine D_val rfl (.on 15 rfl rfl rfl) (fun ha => V_fieldAddr (off := 1) fd110_1 (EN ha (.tmp rfl rfl) rfl)) ?_
        refine D_at rfl (.on 15 rfl rfl rfl) .h rfl (fun ha hp => V_load (v := (.int .i64 a_r.To)) ag3 (EN ha (.tmp rfl rfl) rfl) hp.2 rfl rfl) ?_
        obtain ⟨x12, hx13, hF⟩ := bind_some hF
        obtain ⟨hp14, hx15⟩ := ix_some hx13
        refine D_idx (a := x12) sl22 ty3.sz rfl (.on 15 rfl rfl rfl) (.tmp rfl rfl) (.tmp rfl rfl) rfl rfl (.t .h) hp14 hx15 (fun k16 j17 => ?_)
        refine D_ldS (w := (.int .i64 x12)) ag3 rfl (.on 15 rfl rfl rfl) (.tmp rfl rfl) rfl .h ls3_0 ?_
        refine D_val rfl (.on 15 rfl rfl rfl) (fun ha => V_eql (i := (a_r.Map.length : Int)) (j := x12) (EN ha (.tmp rfl rfl) rfl) (EN ha (.tmp rfl rfl) rfl)) ?_
        refine D_val rfl .no (fun ha => V_pick (b := true) (u := (.bool (((a_r.Map.length : Int) : Int) == x12))) (v := (.bool false)) (EN ha (.tmp rfl rfl) rfl) (EN ha (.tmp rfl rfl) rfl) (EN ha (.bool _) rfl)) ?_
        refine Dm (.bool (((a_r.Map.length : Int) : Int) == x12)) rfl rfl rfl rfl ?_
        rcases Bool.eq_false_or_eq_true (((a_r.Map.length : Int) : Int) == x12) with hg18 | hg18
        · rw [hg18]
          try rw [hg18] at hF; dsimp only [cond_true, cond_false] at hF
          refine D_val rfl (.on 26 rfl rfl rfl) (fun ha => V_fieldAddr (off := 2) fd110_2 (EN ha (.tmp rfl rfl) rfl)) ?_
          refine D_at rfl (.on 26 rfl rfl rfl) (.t .h) rfl (fun ha hp => V_load (v := v1_2.v) ag22 (EN ha (.tmp rfl rfl) rfl) hp.2 rfl rfl) ?_
          refine D_val rfl (.on 26 rfl rfl rfl) (fun ha => V_move (v := v0_0.v) (EN ha (.tmp rfl rfl) rfl)) ?_
          refine D_val rfl (.on 26 rfl rfl rfl) (fun ha => V_fieldAddr (off := 0) fd110_0 (EN ha (.tmp rfl rfl) rfl)) ?_
          refine D_at rfl (.on 26 rfl rfl rfl) (.t .h) rfl (fun ha hp => V_load (v := (.int .i64 a_r.From)) ag3 (EN ha (.tmp rfl rfl) rfl) hp.2 rfl rfl) ?_
          obtain ⟨x19, hx20, hF⟩ := bind_some hF
          obtain ⟨hp21, hx22⟩ := ix_some hx20
          refine D_idx (a := x19) sl22 ty3.sz rfl (.on 26 rfl rfl rfl) (.tmp rfl rfl) (.tmp rfl rfl) rfl rfl (.t (.t .h)) hp21 hx22 (fun k23 j24 => ?_)
          refine D_ldS (w := (.int .i64 x19)) ag3 rfl (.on 26 rfl rfl rfl) (.tmp rfl rfl) rfl .h ls3_0 ?_
          obtain ⟨r25, hx26, hF⟩ := bind_some hF
          refine D_act0 rfl rfl (.on 26 rfl rfl rfl) (.rd (.t (.t (.t (.t .h)))) rfl .nil) .nil (fun ha => X_callS cf133 (.cons (EN ha (.tmp rfl rfl) rfl) (.cons (EN ha (.tmp rfl rfl) rfl) .nil)) (i_arePositions_ok a_r.Map v1_2 x19 _ hx26)) (fun _ => ?_)
          refine D_val rfl .no (fun ha => V_pick (b := true) (u := (.bool r25)) (v := (.bool false)) (EN ha (.tmp rfl rfl) rfl) (EN ha (.tmp rfl rfl) rfl) (EN ha (.bool _) rfl)) ?_
          refine Da (.bool r25) rfl rfl rfl rfl ?_
          refine D_nil ?_
          obtain rfl := Option.some.inj hF
          exact ⟨_, _, rfl, (EqL.cons rfl (EqL.nil)).eq, (.sel .nil)⟩
        rw [hg18]
        try rw [hg18] at hF; dsimp only [cond_true, cond_false] at hF
        iterate 8 refine D_off 26 rfl rfl rfl rfl ?_
        refine D_val rfl .no (fun ha => V_pick (b := false) (u := undef) (v := (.bool false)) (EN ha (.tmp rfl rfl) rfl) (EN ha (.tmp rfl rfl) rfl) (EN ha (.bool _) rfl)) ?_
        refine Da (.bool false) rfl rfl rfl rfl ?_
        refine D_nil ?_
        obtain rfl := Option.some.inj hF
        exact ⟨_, _, rfl, (EqL.cons rfl (EqL.nil)).eq, (.sel .nil)⟩
      rw [hg11]
      try rw [hg11] at hF; dsimp only [cond_true, cond_false] at hF
      iterate 9 refine D_off 15 rfl rfl rfl rfl ?_
      refine D_val rfl .no (fun ha => V_pick (b := false) (u := undef) (v := (.bool false)) (EN ha (.tmp rfl rfl) rfl) (EN ha (.tmp rfl rfl) rfl) (EN ha (.bool _) rfl)) ?_
      refine Dm (.bool false) rfl rfl rfl rfl ?_
      iterate 8 refine D_off 26 rfl rfl rfl rfl ?_
      refine D_val rfl .no (fun ha => V_pick (b := false) (u := undef) (v := (.bool false)) (EN ha (.tmp rfl rfl) rfl) (EN ha (.tmp rfl rfl) rfl) (EN ha (.bool _) rfl)) ?_
      refine Da (.bool false) rfl rfl rfl rfl ?_
      refine D_nil ?_
      obtain rfl := Option.some.inj hF
      exact ⟨_, _, rfl, (EqL.cons rfl (EqL.nil)).eq, (.sel .nil)⟩
    rw [hg7]
    try rw [hg7] at hF; dsimp only [cond_true, cond_false] at hF
    iterate 4 refine D_off 9 rfl rfl rfl rfl ?_
    refine D_val rfl .no (fun ha => V_pick (b := false) (u := undef) (v := (.bool false)) (EN ha (.tmp rfl rfl) rfl) (EN ha (.tmp rfl rfl) rfl) (EN ha (.bool _) rfl)) ?_
    refine Dm (.bool false) rfl rfl rfl rfl ?_
    iterate 9 refine D_off 15 rfl rfl rfl rfl ?_
    refine D_val rfl .no (fun ha => V_pick (b := false) (u := undef) (v := (.bool false)) (EN ha (.tmp rfl rfl) rfl) (EN ha (.tmp rfl rfl) rfl) (EN ha (.bool _) rfl)) ?_
    refine Dm (.bool false) rfl rfl rfl rfl ?_
    iterate 8 refine D_off 26 rfl rfl rfl rfl ?_
    refine D_val rfl .no (fun ha => V_pick (b := false) (u := undef) (v := (.bool false)) (EN ha (.tmp rfl rfl) rfl) (EN ha (.tmp rfl rfl) rfl) (EN ha (.bool _) rfl)) ?_
    refine Da (.bool false) rfl rfl rfl rfl ?_
    refine D_nil ?_
    obtain rfl := Option.some.inj hF
    exact ⟨_, _, rfl, (EqL.cons rfl (EqL.nil)).eq, (.sel .nil)⟩
  rintro _ _ ⟨c28, g29, rfl, rfl, hE⟩
  replace hF := hO3
  clear hO3
  try dsimp only at hF
  refine K_ent hE ?_
  refine CW_ret ?_
  obtain rfl := Option.some.inj hF
  exact End_ret () (.tmp rfl rfl .nil) rfl (.sel .nil)

/-! impl.AreRules$1 -/
def i_AreRules_1 (a_r : Rule) (a_e1 : List Int) : Option (Bool) :=
  (i_IsRule a_e1 a_r).bind fun r2 =>
  some (!r2)
theorem i_AreRules_1_ok (a_r : Rule) (v0_2 : Sv) (kc1 : Nat) (a_e1 : List Int) (vc1_0 : Sv) (R : Bool) (hF : i_AreRules_1 a_r a_e1 = some R) :
    Fw.Spec Tryz.prog 107 [(.agg [(.int .i64 a_r.From), (.int .i64 a_r.To), v0_2.v].toArray), (.pointer (some ⟨kc1, 0, some 0⟩))] [crd (RdS 3 rdInt) v0_2.v a_r.Map, cboR kc1 22 vc1_0.v, crd (RdS 3 rdInt) vc1_0.v a_e1] (fun _ : Unit => (.bool R)) (fun _ => []) := by
  refine Spec_enter (n := 8) Tryz.func107 rfl rfl (rs := [.tmp 3]) rfl rfl rfl ?_
  intro H0 F0
  unfold i_AreRules_1 at hF
  refine K_region (C_newR rfl (N_box (g := false) (v := (.agg [(.int .i64 a_r.From), (.int .i64 a_r.To), v0_2.v].toArray)) ty110.sz (.tmp rfl rfl) rfl) (fun k1 => ?_))
  refine C_val (V_assign (v := (.bool false)) (.bool _)) ?_
  refine C_nil (K_region (C_at (.t (.t .h)) (fun hp => V_load (v := vc1_0.v) ag22 (.tmp rfl rfl) hp.2 rfl rfl) ?_))
  refine C_at .h (fun hp => V_loadBox ag110 ty110.sz rfl (.tmp rfl rfl) hp.2 rfl) ?_
  obtain ⟨r2, hx3, hF⟩ := bind_some hF
  refine C_x0 (.rd (.t (.t (.t .h))) rfl (.rd (.t .h) rfl .nil)) (X_callS cf108 (.cons (.tmp rfl rfl) (.cons (.tmp rfl rfl) .nil)) (i_IsRule_ok a_e1 vc1_0 a_r v0_2 _ hx3)) (fun _ => ?_)
  refine C_val (V_not (b := r2) (.tmp rfl rfl)) ?_
  refine Ca (.bool (!r2)) rfl rfl ?_
  refine C_nil (CW_ret ?_)
  obtain rfl := Option.some.inj hF
  exact End_ret () (.tmp rfl rfl .nil) rfl (.sel .nil)

/-! impl.Rule] -/
def g_slices_IndexFunc_impl_Rule_impl_Rule_iAreRules1_L1 (a_e1 : List Int) : List Rule → Nat → Option (Int)
  | [], k4 => some (-1)
  | x6 :: rest5, k4 => (i_AreRules_1 x6 a_e1).bind fun r16 =>
    if r16 then (
      some (k4 : Int))
    else (
      g_slices_IndexFunc_impl_Rule_impl_Rule_iAreRules1_L1 a_e1 rest5 (k4 + 1))
def g_slices_IndexFunc_impl_Rule_impl_Rule_iAreRules1 (a_s : List Rule) (a_e1 : List Int) : Option (Int) :=
  g_slices_IndexFunc_impl_Rule_impl_Rule_iAreRules1_L1 a_e1 a_s 0
theorem g_slices_IndexFunc_impl_Rule_impl_Rule_iAreRules1_ok (a_s : List Rule) (v0_0 : Sv) (kc1 : Nat) (a_e1 : List Int) (vc1_0 : Sv) (R : Int) (hF : g_slices_IndexFunc_impl_Rule_impl_Rule_iAreRules1 a_s a_e1 = some R) :
    Fw.Spec Tryz.prog 132 [v0_0.v, (.func (.func 107) [].toArray [(.pointer (some ⟨kc1, 0, some 0⟩))].toArray)] [crd (RdS 110 rd110) v0_0.v a_s, cboR kc1 22 vc1_0.v, crd (RdS 3 rdInt) vc1_0.v a_e1] (fun _ : Unit => (.int .i64 R)) (fun _ => []) := by
  refine Spec_enter (n := 19) Tryz.func132 rfl rfl (rs := [.tmp 4]) rfl rfl rfl ?_
  intro H0 F0
  unfold g_slices_IndexFunc_impl_Rule_impl_Rule_iAreRules1 at hF
  refine K_region (C_val (V_assign (v := (.int .i64 0)) (.int _ _)) ?_)
  refine C_nil (K_in (K_region (Cm v0_0.v rfl rfl ?_)))
  refine C_at .h (fun hp => V_lenR (l := a_s.length) sl38 (.tmp rfl rfl) (crd_len hp)) ?_
  refine C_val (V_move (v := (.int .i64 0)) (.int _ _)) ?_
  refine C_nil (CW_block (CW_loop (m := a_s.length) (fun m2 f' cs' => ∃ (g : Fr) (k4 : Nat) (rest5 : List Rule), m2 = rest5.length ∧ f' = updL g [(0, v0_0.v), (1, (.func (.func 107) [].toArray [(.pointer (some ⟨kc1, 0, some 0⟩))].toArray)), (7, (.int .i64 (a_s.length : Int))), (8, (.int .i64 (k4 : Int)))] ∧ List.drop k4 a_s = rest5 ∧ Ent cs' [crd (RdS 110 rd110) v0_0.v a_s, cboR kc1 22 vc1_0.v, crd (RdS 3 rdInt) vc1_0.v a_e1] ∧ g_slices_IndexFunc_impl_Rule_impl_Rule_iAreRules1_L1 a_e1 rest5 k4 = some R) ⟨_, 0, _, rfl, (EqL.cons rfl (EqL.cons rfl (EqL.cons rfl (EqL.cons rfl (EqL.nil))))).eq, rfl, (.sel (.rd .h rfl (.rd (.t .h) rfl (.rd (.t (.t .h)) rfl .nil)))), hF⟩ ?_))
  clear hF
  rintro m2 _ _ ⟨g3, k4, rest5, rfl, rfl, hd7, hE, hF⟩
  refine K_ent hE ?_
  clear hE
  refine K_pure (c := crd (RdS 110 rd110) v0_0.v a_s) .h crd_bound (fun hbd12 => ?_)
  rcases rest5 with _ | ⟨x6, rest5⟩
  · have hk8 := List.drop_eq_nil_iff.1 hd7
    have hfe11 : (decide (((k4 : Int) : Int) < (a_s.length : Int))) = false := decide_eq_false (by omega)
    rw [g_slices_IndexFunc_impl_Rule_impl_Rule_iAreRules1_L1] at hF
    refine K_region (C_val (V_lss (i := (k4 : Int)) (j := (a_s.length : Int)) (.tmp rfl rfl) (.tmp rfl rfl)) ?_)
    refine C_nil (K_in (CW_cond (b := (decide (((k4 : Int) : Int) < (a_s.length : Int)))) (.tmp rfl rfl) (fun hb => absurd (hfe11.symm.trans hb) (by decide)) (fun _ => ?_)))
    refine CW_exit ?_
    iterate 2 refine CThen_exit ?_
    refine CIn_self (K_region (C_val (V_assign (v := (.int .i64 (-1))) (.int _ _)) ?_))
    refine C_nil (CW_ret ?_)
    obtain rfl := Option.some.inj hF
    exact End_ret () (.tmp rfl rfl .nil) rfl (.sel .nil)
  obtain ⟨hk8, hx9, hd10⟩ := drop_cons hd7
  have hfe11 : (decide (((k4 : Int) : Int) < (a_s.length : Int))) = true := decide_eq_true (by omega)
  rw [g_slices_IndexFunc_impl_Rule_impl_Rule_iAreRules1_L1] at hF
  refine K_region (C_val (V_lss (i := (k4 : Int)) (j := (a_s.length : Int)) (.tmp rfl rfl) (.tmp rfl rfl)) ?_)
  refine C_nil (K_in (CW_cond (b := (decide (((k4 : Int) : Int) < (a_s.length : Int)))) (.tmp rfl rfl) (fun _ => ?_) (fun hb => absurd (hfe11.symm.trans hb) (by decide))))
  refine CW_skip (K_block (K_region (Cm (.int .i64 (k4 : Int)) rfl rfl ?_)))
  refine Ca (.int .i64 (k4 : Int)) rfl rfl ?_
  refine C_nil (K_region (Cm (.func (.func 107) [].toArray [(.pointer (some ⟨kc1, 0, some 0⟩))].toArray) rfl rfl ?_))
  refine Cm v0_0.v rfl rfl ?_
  refine Cm (.int .i64 (k4 : Int)) rfl rfl ?_
  refine C_idx (a := x6) sl38 ty110.sz (.tmp rfl rfl) (.tmp rfl rfl) .h (Int.natCast_nonneg k4) hx9 (fun k13 j14 => ?_)
  refine C_ldA1 (ul110_0_110 x6) ag110 ty110.sz rfl (.tmp rfl rfl) .h la110_0_110 (fun p15 => ?_)
  obtain ⟨r16, hx17, hF⟩ := bind_some hF
  refine C_x0 (.rd .h rfl (.rd (.t (.t (.t .h))) rfl (.rd (.t (.t (.t (.t .h)))) rfl .nil))) (X_callCS cf107 (.tmp rfl rfl) (.cons (.tmp rfl rfl) .nil) (i_AreRules_1_ok x6 p15 kc1 a_e1 vc1_0 _ hx17)) (fun _ => ?_)
  refine C_nil (CW_cond (b := r16) (.tmp rfl rfl) (fun hb20 => ?_) (fun hb20 => ?_))
  · rw [if_pos hb20] at hF
    refine K_region (Cm (.int .i64 (k4 : Int)) rfl rfl ?_)
    refine Ca (.int .i64 (k4 : Int)) rfl rfl ?_
    refine C_nil (CW_ret ?_)
    obtain rfl := Option.some.inj hF
    exact End_ret () (.tmp rfl rfl .nil) rfl (.sel .nil)
  rw [if_neg (by rw [hb20]; exact Bool.false_ne_true)] at hF
  refine CW_skip (CW_region (C_val (V_add (i := (k4 : Int)) (j := 1) (.tmp rfl rfl) (.int _ _)) ?_))
  refine Cm (.int .i64 (IntKind.i64.wrap ((k4 : Int) + 1))) rfl rfl ?_
  refine C_nil ?_
  have hw19 : IntKind.i64.wrap ((k4 : Int) + 1) = ((k4 + 1 : Nat) : Int) := by rw [wrap_in (by omega) (by omega)]; rfl
  rw [hw19]
  exact ⟨_, Nat.lt_succ_self _, _, k4 + 1, rest5, rfl, (EqL.cons rfl (EqL.cons rfl (EqL.cons rfl (EqL.cons rfl (EqL.nil))))).eq, hd10, (.sel (.rd (.t (.t .h)) rfl (.rd (.t (.t (.t .h))) rfl (.rd (.t (.t (.t (.t .h)))) rfl .nil)))), hF⟩

/-! impl.Rule] -/
def g_slices_ContainsFunc_impl_Rule_impl_Rule_iAreRules1 (a_s : List Rule) (a_e1 : List Int) : Option (Bool) :=
  (g_slices_IndexFunc_impl_Rule_impl_Rule_iAreRules1 a_s a_e1).bind fun r1 =>
  some (decide ((0 : Int) ≤ r1))
theorem g_slices_ContainsFunc_impl_Rule_impl_Rule_iAreRules1_ok (a_s : List Rule) (v0_0 : Sv) (kc1 : Nat) (a_e1 : List Int) (vc1_0 : Sv) (R : Bool) (hF : g_slices_ContainsFunc_impl_Rule_impl_Rule_iAreRules1 a_s a_e1 = some R) :
    Fw.Spec Tryz.prog 106 [v0_0.v, (.func (.func 107) [].toArray [(.pointer (some ⟨kc1, 0, some 0⟩))].toArray)] [crd (RdS 110 rd110) v0_0.v a_s, cboR kc1 22 vc1_0.v, crd (RdS 3 rdInt) vc1_0.v a_e1] (fun _ : Unit => (.bool R)) (fun _ => []) := by
  refine Spec_enter (n := 9) Tryz.func106 rfl rfl (rs := [.tmp 4]) rfl rfl rfl ?_
  intro H0 F0
  unfold g_slices_ContainsFunc_impl_Rule_impl_Rule_iAreRules1 at hF
  refine K_region (C_val (V_assign (v := (.bool false)) (.bool _)) ?_)
  refine C_nil (K_region (Cm v0_0.v rfl rfl ?_))
  refine Cm (.func (.func 107) [].toArray [(.pointer (some ⟨kc1, 0, some 0⟩))].toArray) rfl rfl ?_
  obtain ⟨r1, hx2, hF⟩ := bind_some hF
  refine C_x0 (.rd .h rfl (.rd (.t .h) rfl (.rd (.t (.t .h)) rfl .nil))) (X_callS cf132 (.cons (.tmp rfl rfl) (.cons (.tmp rfl rfl) .nil)) (g_slices_IndexFunc_impl_Rule_impl_Rule_iAreRules1_ok a_s v0_0 kc1 a_e1 vc1_0 _ hx2)) (fun _ => ?_)
  refine C_val (V_geq (i := r1) (j := 0) (.tmp rfl rfl) (.int _ _)) ?_
  refine Ca (.bool (decide ((0 : Int) ≤ r1))) rfl rfl ?_
  refine C_nil (CW_ret ?_)
  obtain rfl := Option.some.inj hF
  exact End_ret () (.tmp rfl rfl .nil) rfl (.sel .nil)

/-! impl.AreRules -/
def i_AreRules (a_s : List Int) (a_l : List Rule) : Option (Bool) :=
  ((i_IsSchema a_s).bind fun r4 =>
    bif r4 then (bif (decide (((a_l.length : Int) : Int) ≤ 4)) then ((g_slices_ContainsFunc_impl_Rule_impl_Rule_iAreRules1 a_l a_s).bind fun r9 =>
        some (!r9))
      else (some false))
    else (some false)).bind fun o2 =>
  match o2 with
  | c12 => some c12
theorem i_AreRules_ok (a_s : List Int) (v0_0 : Sv) (a_l : List Rule) (v1_0 : Sv) (R : Bool) (hF : i_AreRules a_s a_l = some R) :
    Fw.Spec Tryz.prog 68 [v0_0.v, v1_0.v] [crd (RdS 3 rdInt) v0_0.v a_s, crd (RdS 110 rd110) v1_0.v a_l] (fun _ : Unit => (.bool R)) (fun _ => []) := by
  refine Spec_enter (n := 18) Tryz.func68 rfl rfl (rs := [.tmp 4]) rfl rfl rfl ?_
  intro H0 F0
  unfold i_AreRules at hF
  refine K_region (C_newR rfl (N_box (g := false) (v := v0_0.v) ty22.sz (.tmp rfl rfl) rfl) (fun k1 => ?_))
  refine C_val (V_assign (v := (.bool false)) (.bool _)) ?_
  refine C_nil ?_
  obtain ⟨o2, hio2, hO3⟩ := bind_some hF
  refine K_region (C_cut (fun f' cs' => ∃ (c12 : Bool) (g : Fr), c12 = o2 ∧ f' = updL g [(4, (.bool c12))] ∧ Ent cs' []) ?_ ?_)
  · replace hF := hio2
    refine C_at .h (fun hp => V_load (v := v0_0.v) ag22 (.tmp rfl rfl) hp.2 rfl rfl) ?_
    obtain ⟨r4, hx5, hF⟩ := bind_some hF
    refine C_x0 (.rd (.t .h) rfl .nil) (X_callS cf102 (.cons (.tmp rfl rfl) .nil) (i_IsSchema_ok a_s v0_0 _ hx5)) (fun _ => ?_)
    refine Cm (.bool r4) rfl rfl ?_
    rcases Bool.eq_false_or_eq_true r4 with hg7 | hg7
    · rw [hg7]
      try rw [hg7] at hF; dsimp only [cond_true, cond_false] at hF
      refine C_on (t := 7) rfl rfl rfl ?_
      refine Cm v1_0.v rfl rfl ?_
      refine C_on (t := 7) rfl rfl rfl ?_
      refine C_at (.t (.t .h)) (fun hp => V_lenR (l := a_l.length) sl38 (.tmp rfl rfl) (crd_len hp)) ?_
      refine C_on (t := 7) rfl rfl rfl ?_
      refine C_val (V_leq (i := (a_l.length : Int)) (j := 4) (.tmp rfl rfl) (.int _ _)) ?_
      refine C_val (V_pick (b := true) (u := (.bool (decide (((a_l.length : Int) : Int) ≤ 4)))) (v := (.bool false)) (.tmp rfl rfl) (.tmp rfl rfl) (.bool _)) ?_
      refine Cm (.bool (decide (((a_l.length : Int) : Int) ≤ 4))) rfl rfl ?_
      rcases Bool.eq_false_or_eq_true (decide (((a_l.length : Int) : Int) ≤ 4)) with hg8 | hg8
      · rw [hg8]
        try rw [hg8] at hF; dsimp only [cond_true, cond_false] at hF
        refine C_on (t := 12) rfl rfl rfl ?_
        refine Cm v1_0.v rfl rfl ?_
        refine C_on (t := 12) rfl rfl rfl ?_
        refine C_val (V_makeFunc (fn := .func 107) (vs := []) (us := [(.pointer (some ⟨k1, 0, some 0⟩))]) .nil (.cons (.tmp rfl rfl) .nil)) ?_
        refine C_on (t := 12) rfl rfl rfl ?_
        obtain ⟨r9, hx10, hF⟩ := bind_some hF
        refine C_x0 (.rd (.t (.t .h)) rfl (.rd .h rfl (.rd (.t .h) rfl .nil))) (X_callS cf106 (.cons (.tmp rfl rfl) (.cons (.tmp rfl rfl) .nil)) (g_slices_ContainsFunc_impl_Rule_impl_Rule_iAreRules1_ok a_l v1_0 k1 a_s v0_0 _ hx10)) (fun _ => ?_)
        refine C_on (t := 12) rfl rfl rfl ?_
        refine C_val (V_not (b := r9) (.tmp rfl rfl)) ?_
        refine C_val (V_pick (b := true) (u := (.bool (!r9))) (v := (.bool false)) (.tmp rfl rfl) (.tmp rfl rfl) (.bool _)) ?_
        refine Ca (.bool (!r9)) rfl rfl ?_
        refine C_nil ?_
        obtain rfl := Option.some.inj hF
        exact ⟨_, _, rfl, (EqL.cons rfl (EqL.nil)).eq, (.sel .nil)⟩
      rw [hg8]
      try rw [hg8] at hF; dsimp only [cond_true, cond_false] at hF
      iterate 4 refine C_off (t := 12) rfl rfl rfl ?_
      refine C_val (V_pick (b := false) (u := undef) (v := (.bool false)) (.tmp rfl rfl) (.tmp rfl rfl) (.bool _)) ?_
      refine Ca (.bool false) rfl rfl ?_
      refine C_nil ?_
      obtain rfl := Option.some.inj hF
      exact ⟨_, _, rfl, (EqL.cons rfl (EqL.nil)).eq, (.sel .nil)⟩
    rw [hg7]
    try rw [hg7] at hF; dsimp only [cond_true, cond_false] at hF
    iterate 3 refine C_off (t := 7) rfl rfl rfl ?_
    refine C_val (V_pick (b := false) (u := undef) (v := (.bool false)) (.tmp rfl rfl) (.tmp rfl rfl) (.bool _)) ?_
    refine Cm (.bool false) rfl rfl ?_
    iterate 4 refine C_off (t := 12) rfl rfl rfl ?_
    refine C_val (V_pick (b := false) (u := undef) (v := (.bool false)) (.tmp rfl rfl) (.tmp rfl rfl) (.bool _)) ?_
    refine Ca (.bool false) rfl rfl ?_
    refine C_nil ?_
    obtain rfl := Option.some.inj hF
    exact ⟨_, _, rfl, (EqL.cons rfl (EqL.nil)).eq, (.sel .nil)⟩
  rintro _ _ ⟨c12, g13, rfl, rfl, hE⟩
  replace hF := hO3
  clear hO3
  try dsimp only at hF
  refine K_ent hE ?_
  refine CW_ret ?_
  obtain rfl := Option.some.inj hF
  exact End_ret () (.tmp rfl rfl .nil) rfl (.sel .nil)

/-! impl.isValue -/
def i_isValue (a_n : Int) : Option (Bool) :=
  (i_within a_n 0 9).bind fun r1 =>
  some r1
theorem i_isValue_ok (a_n : Int) (R : Bool) (hF : i_isValue a_n = some R) :
    Fw.Spec Tryz.prog 123 [(.int .i64 a_n)] [] (fun _ : Unit => (.bool R)) (fun _ => []) := by
  refine Spec_enter (n := 5) Tryz.func123 rfl rfl (rs := [.tmp 2]) rfl rfl rfl ?_
  intro H0 F0
  unfold i_isValue at hF
  refine K_region (C_val (V_assign (v := (.bool false)) (.bool _)) ?_)
  refine C_nil (K_region (Cm (.int .i64 a_n) rfl rfl ?_))
  obtain ⟨r1, hx2, hF⟩ := bind_some hF
  refine C_x0 .nil (X_callS cf76 (.cons (.tmp rfl rfl) (.cons (.int _ _) (.cons (.int _ _) .nil))) (i_within_ok a_n 0 9 _ hx2)) (fun _ => ?_)
  refine Ca (.bool r1) rfl rfl ?_
  refine C_nil (CW_ret ?_)
  obtain rfl := Option.some.inj hF
  exact End_ret () (.tmp rfl rfl .nil) rfl (.sel .nil)

/-! impl.areValues$1 -/
def i_areValues_1 (a_n : Int) : Option (Bool) :=
  (i_isValue a_n).bind fun r1 =>
  some (!r1)
theorem i_areValues_1_ok (a_n : Int) (R : Bool) (hF : i_areValues_1 a_n = some R) :
    Fw.Spec Tryz.prog 122 [(.int .i64 a_n)] [] (fun _ : Unit => (.bool R)) (fun _ => []) := by
  refine Spec_enter (n := 6) Tryz.func122 rfl rfl (rs := [.tmp 2]) rfl rfl rfl ?_
  intro H0 F0
  unfold i_areValues_1 at hF
  refine K_region (C_val (V_assign (v := (.bool false)) (.bool _)) ?_)
  refine C_nil (K_region (Cm (.int .i64 a_n) rfl rfl ?_))
  obtain ⟨r1, hx2, hF⟩ := bind_some hF
  refine C_x0 .nil (X_callS cf123 (.cons (.tmp rfl rfl) .nil) (i_isValue_ok a_n _ hx2)) (fun _ => ?_)
  refine C_val (V_not (b := r1) (.tmp rfl rfl)) ?_
  refine Ca (.bool (!r1)) rfl rfl ?_
  refine C_nil (CW_ret ?_)
  obtain rfl := Option.some.inj hF
  exact End_ret () (.tmp rfl rfl .nil) rfl (.sel .nil)

/-! slices.IndexFunc[[]int,int] -/
def g_slices_IndexFunc_int_int_iareValues1_L1 : List Int → Nat → Option (Int)
  | [], k4 => some (-1)
  | x6 :: rest5, k4 => (i_areValues_1 x6).bind fun r15 =>
    if r15 then (
      some (k4 : Int))
    else (
      g_slices_IndexFunc_int_int_iareValues1_L1 rest5 (k4 + 1))
def g_slices_IndexFunc_int_int_iareValues1 (a_s : List Int) : Option (Int) :=
  g_slices_IndexFunc_int_int_iareValues1_L1 a_s 0
theorem g_slices_IndexFunc_int_int_iareValues1_ok (a_s : List Int) (v0_0 : Sv) (R : Int) (hF : g_slices_IndexFunc_int_int_iareValues1 a_s = some R) :
    Fw.Spec Tryz.prog 141 [v0_0.v, (.func (.func 122) [].toArray [].toArray)] [crd (RdS 3 rdInt) v0_0.v a_s] (fun _ : Unit => (.int .i64 R)) (fun _ => []) := by
  refine Spec_enter (n := 19) Tryz.func141 rfl rfl (rs := [.tmp 4]) rfl rfl rfl ?_
  intro H0 F0
  unfold g_slices_IndexFunc_int_int_iareValues1 at hF
  refine K_region (C_val (V_assign (v := (.int .i64 0)) (.int _ _)) ?_)
  refine C_nil (K_in (K_region (Cm v0_0.v rfl rfl ?_)))
  refine C_at .h (fun hp => V_lenR (l := a_s.length) sl22 (.tmp rfl rfl) (crd_len hp)) ?_
  refine C_val (V_move (v := (.int .i64 0)) (.int _ _)) ?_
  refine C_nil (CW_block (CW_loop (m := a_s.length) (fun m2 f' cs' => ∃ (g : Fr) (k4 : Nat) (rest5 : List Int), m2 = rest5.length ∧ f' = updL g [(0, v0_0.v), (1, (.func (.func 122) [].toArray [].toArray)), (7, (.int .i64 (a_s.length : Int))), (8, (.int .i64 (k4 : Int)))] ∧ List.drop k4 a_s = rest5 ∧ Ent cs' [crd (RdS 3 rdInt) v0_0.v a_s] ∧ g_slices_IndexFunc_int_int_iareValues1_L1 rest5 k4 = some R) ⟨_, 0, _, rfl, (EqL.cons rfl (EqL.cons rfl (EqL.cons rfl (EqL.cons rfl (EqL.nil))))).eq, rfl, (.sel (.rd .h rfl .nil)), hF⟩ ?_))
  clear hF
  rintro m2 _ _ ⟨g3, k4, rest5, rfl, rfl, hd7, hE, hF⟩
  refine K_ent hE ?_
  clear hE
  refine K_pure (c := crd (RdS 3 rdInt) v0_0.v a_s) .h crd_bound (fun hbd12 => ?_)
  rcases rest5 with _ | ⟨x6, rest5⟩
  · have hk8 := List.drop_eq_nil_iff.1 hd7
    have hfe11 : (decide (((k4 : Int) : Int) < (a_s.length : Int))) = false := decide_eq_false (by omega)
    rw [g_slices_IndexFunc_int_int_iareValues1_L1] at hF
    refine K_region (C_val (V_lss (i := (k4 : Int)) (j := (a_s.length : Int)) (.tmp rfl rfl) (.tmp rfl rfl)) ?_)
    refine C_nil (K_in (CW_cond (b := (decide (((k4 : Int) : Int) < (a_s.length : Int)))) (.tmp rfl rfl) (fun hb => absurd (hfe11.symm.trans hb) (by decide)) (fun _ => ?_)))
    refine CW_exit ?_
    iterate 2 refine CThen_exit ?_
    refine CIn_self (K_region (C_val (V_assign (v := (.int .i64 (-1))) (.int _ _)) ?_))
    refine C_nil (CW_ret ?_)
    obtain rfl := Option.some.inj hF
    exact End_ret () (.tmp rfl rfl .nil) rfl (.sel .nil)
  obtain ⟨hk8, hx9, hd10⟩ := drop_cons hd7
  have hfe11 : (decide (((k4 : Int) : Int) < (a_s.length : Int))) = true := decide_eq_true (by omega)
  rw [g_slices_IndexFunc_int_int_iareValues1_L1] at hF
  refine K_region (C_val (V_lss (i := (k4 : Int)) (j := (a_s.length : Int)) (.tmp rfl rfl) (.tmp rfl rfl)) ?_)
  refine C_nil (K_in (CW_cond (b := (decide (((k4 : Int) : Int) < (a_s.length : Int)))) (.tmp rfl rfl) (fun _ => ?_) (fun hb => absurd (hfe11.symm.trans hb) (by decide))))
  refine CW_skip (K_block (K_region (Cm (.int .i64 (k4 : Int)) rfl rfl ?_)))
  refine Ca (.int .i64 (k4 : Int)) rfl rfl ?_
  refine C_nil (K_region (Cm (.func (.func 122) [].toArray [].toArray) rfl rfl ?_))
  refine Cm v0_0.v rfl rfl ?_
  refine Cm (.int .i64 (k4 : Int)) rfl rfl ?_
  refine C_idx (a := x6) sl22 ty3.sz (.tmp rfl rfl) (.tmp rfl rfl) .h (Int.natCast_nonneg k4) hx9 (fun k13 j14 => ?_)
  refine C_ldS (w := (.int .i64 x6)) ag3 (.tmp rfl rfl) .h ls3_0 ?_
  obtain ⟨r15, hx16, hF⟩ := bind_some hF
  refine C_x0 .nil (X_callCS cf122 (.tmp rfl rfl) (.cons (.tmp rfl rfl) .nil) (i_areValues_1_ok x6 _ hx16)) (fun _ => ?_)
  refine C_nil (CW_cond (b := r15) (.tmp rfl rfl) (fun hb19 => ?_) (fun hb19 => ?_))
  · rw [if_pos hb19] at hF
    refine K_region (Cm (.int .i64 (k4 : Int)) rfl rfl ?_)
    refine Ca (.int .i64 (k4 : Int)) rfl rfl ?_
    refine C_nil (CW_ret ?_)
    obtain rfl := Option.some.inj hF
    exact End_ret () (.tmp rfl rfl .nil) rfl (.sel .nil)
  rw [if_neg (by rw [hb19]; exact Bool.false_ne_true)] at hF
  refine CW_skip (CW_region (C_val (V_add (i := (k4 : Int)) (j := 1) (.tmp rfl rfl) (.int _ _)) ?_))
  refine Cm (.int .i64 (IntKind.i64.wrap ((k4 : Int) + 1))) rfl rfl ?_
  refine C_nil ?_
  have hw18 : IntKind.i64.wrap ((k4 : Int) + 1) = ((k4 + 1 : Nat) : Int) := by rw [wrap_in (by omega) (by omega)]; rfl
  rw [hw18]
  exact ⟨_, Nat.lt_succ_self _, _, k4 + 1, rest5, rfl, (EqL.cons rfl (EqL.cons rfl (EqL.cons rfl (EqL.cons rfl (EqL.nil))))).eq, hd10, (.sel (.rd (.t .h) rfl .nil)), hF⟩

/-! slices.ContainsFunc[[]int,int] -/
def g_slices_ContainsFunc_int_int_iareValues1 (a_s : List Int) : Option (Bool) :=
  (g_slices_IndexFunc_int_int_iareValues1 a_s).bind fun r1 =>
  some (decide ((0 : Int) ≤ r1))
theorem g_slices_ContainsFunc_int_int_iareValues1_ok (a_s : List Int) (v0_0 : Sv) (R : Bool) (hF : g_slices_ContainsFunc_int_int_iareValues1 a_s = some R) :
    Fw.Spec Tryz.prog 114 [v0_0.v, (.func (.func 122) [].toArray [].toArray)] [crd (RdS 3 rdInt) v0_0.v a_s] (fun _ : Unit => (.bool R)) (fun _ => []) := by
  refine Spec_enter (n := 9) Tryz.func114 rfl rfl (rs := [.tmp 4]) rfl rfl rfl ?_
  intro H0 F0
  unfold g_slices_ContainsFunc_int_int_iareValues1 at hF
  refine K_region (C_val (V_assign (v := (.bool false)) (.bool _)) ?_)
  refine C_nil (K_region (Cm v0_0.v rfl rfl ?_))
  refine Cm (.func (.func 122) [].toArray [].toArray) rfl rfl ?_
  obtain ⟨r1, hx2, hF⟩ := bind_some hF
  refine C_x0 (.rd .h rfl .nil) (X_callS cf141 (.cons (.tmp rfl rfl) (.cons (.tmp rfl rfl) .nil)) (g_slices_IndexFunc_int_int_iareValues1_ok a_s v0_0 _ hx2)) (fun _ => ?_)
  refine C_val (V_geq (i := r1) (j := 0) (.tmp rfl rfl) (.int _ _)) ?_
  refine Ca (.bool (decide ((0 : Int) ≤ r1))) rfl rfl ?_
  refine C_nil (CW_ret ?_)
  obtain rfl := Option.some.inj hF
  exact End_ret () (.tmp rfl rfl .nil) rfl (.sel .nil)

end Go.Proofs.YtfkhlplpbhadhaaGreatDoor
