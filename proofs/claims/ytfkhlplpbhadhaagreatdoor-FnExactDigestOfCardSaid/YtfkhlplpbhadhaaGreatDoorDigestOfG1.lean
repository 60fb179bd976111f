/-
  Functions of the program as Lean functions, and that the calls return what these say: part 2. No conditions.
-/
import Derived.Shelf.Strings.OnBuilder
import Derived.Shelf.Strconv.Itoa3
import Derived.Test.YtfkhlplpbhadhaaGreatDoorDigestOfG0
import Derived.KernelRfl
set_option maxRecDepth 100000
set_option linter.unusedVariables false
namespace Go.Proofs.YtfkhlplpbhadhaaGreatDoor
open Go Go.Fw

/-! spec.AreRules -/
def s_AreRules_L1 (a_s : List Int) (a_l : List Rule) : List Rule → Nat → Option (Bool)
  | [], k4 => ((s_IsSchema a_s).bind fun r15 =>
      bif r15 then (some (decide (((a_l.length : Int) : Int) ≤ 4)))
      else (some false)).bind fun o13 =>
    match o13 with
    | c19 => some c19
  | x6 :: rest5, k4 => (s_IsRule a_s x6).bind fun r24 =>
    if (!r24) then (
      some false)
    else (
      s_AreRules_L1 a_s a_l rest5 (k4 + 1))
def s_AreRules (a_s : List Int) (a_l : List Rule) : Option (Bool) :=
  s_AreRules_L1 a_s a_l a_l 0
theorem s_AreRules_ok (a_s : List Int) (v0_0 : Sv) (a_l : List Rule) (v1_0 : Sv) (R : Bool) (hF : s_AreRules a_s a_l = some R) :
    Fw.Spec Tryz.prog 55 [v0_0.v, v1_0.v] [crd (RdS 3 rdInt) v0_0.v a_s, crd (RdS 110 rd110) v1_0.v a_l] (fun _ : Unit => (.bool R)) (fun _ => []) := by
  refine Spec_enter (n := 26) Tryz.func55 rfl rfl (rs := [.tmp 4]) rfl rfl rfl ?_
  intro H0 F0
  unfold s_AreRules at hF
  refine K_region (C_val (V_assign (v := (.bool false)) (.bool _)) ?_)
  refine C_nil (K_in (K_region (C_val (V_assign (v := (.int .i64 0)) (.int _ _)) ?_)))
  refine C_nil (CW_block (CW_loop (m := a_l.length) (fun m2 f' cs' => ∃ (g : Fr) (k4 : Nat) (rest5 : List Rule), m2 = rest5.length ∧ f' = updL g [(0, v0_0.v), (1, v1_0.v), (5, (.int .i64 (k4 : Int)))] ∧ List.drop k4 a_l = rest5 ∧ Ent cs' [crd (RdS 3 rdInt) v0_0.v a_s, crd (RdS 110 rd110) v1_0.v a_l] ∧ s_AreRules_L1 a_s a_l rest5 k4 = some R) ⟨_, 0, _, rfl, (EqL.cons rfl (EqL.cons rfl (EqL.cons rfl (EqL.nil)))).eq, rfl, (.sel (.rd .h rfl (.rd (.t .h) rfl .nil))), hF⟩ ?_))
  clear hF
  rintro m2 _ _ ⟨g3, k4, rest5, rfl, rfl, hd7, hE, hF⟩
  refine K_ent hE ?_
  clear hE
  refine K_pure (c := crd (RdS 110 rd110) v1_0.v a_l) (.t .h) crd_bound (fun hbd12 => ?_)
  rcases rest5 with _ | ⟨x6, rest5⟩
  · have hk8 := List.drop_eq_nil_iff.1 hd7
    have hfe11 : (decide (((k4 : Int) : Int) < (a_l.length : Int))) = false := decide_eq_false (by omega)
    rw [s_AreRules_L1] at hF
    refine K_in (K_region (Cm (.int .i64 (k4 : Int)) rfl rfl ?_))
    refine Cm v1_0.v rfl rfl ?_
    refine C_at (.t .h) (fun hp => V_lenR (l := a_l.length) sl38 (.tmp rfl rfl) (crd_len hp)) ?_
    refine C_val (V_lss (i := (k4 : Int)) (j := (a_l.length : Int)) (.tmp rfl rfl) (.tmp rfl rfl)) ?_
    refine C_nil (CW_cond (b := (decide (((k4 : Int) : Int) < (a_l.length : Int)))) (.tmp rfl rfl) (fun hb => absurd (hfe11.symm.trans hb) (by decide)) (fun _ => ?_))
    refine CW_exit ?_
    iterate 2 refine CThen_exit ?_
    refine CIn_self ?_
    obtain ⟨o13, hio13, hO14⟩ := bind_some hF
    refine K_region (C_cut (fun f' cs' => ∃ (c19 : Bool) (g : Fr), c19 = o13 ∧ f' = updL g [(4, (.bool c19))] ∧ Ent cs' []) ?_ ?_)
    · replace hF := hio13
      refine Cm v0_0.v rfl rfl ?_
      obtain ⟨r15, hx16, hF⟩ := bind_some hF
      refine C_x0 (.rd .h rfl .nil) (X_callS cf53 (.cons (.tmp rfl rfl) .nil) (s_IsSchema_ok a_s v0_0 _ hx16)) (fun _ => ?_)
      refine Cm (.bool r15) rfl rfl ?_
      rcases Bool.eq_false_or_eq_true r15 with hg18 | hg18
      · rw [hg18]
        try rw [hg18] at hF; dsimp only [cond_true, cond_false] at hF
        refine C_on (t := 21) rfl rfl rfl ?_
        refine Cm v1_0.v rfl rfl ?_
        refine C_on (t := 21) rfl rfl rfl ?_
        refine C_at (.t .h) (fun hp => V_lenR (l := a_l.length) sl38 (.tmp rfl rfl) (crd_len hp)) ?_
        refine C_on (t := 21) rfl rfl rfl ?_
        refine C_val (V_leq (i := (a_l.length : Int)) (j := 4) (.tmp rfl rfl) (.int _ _)) ?_
        refine C_val (V_pick (b := true) (u := (.bool (decide (((a_l.length : Int) : Int) ≤ 4)))) (v := (.bool false)) (.tmp rfl rfl) (.tmp rfl rfl) (.bool _)) ?_
        refine Ca (.bool (decide (((a_l.length : Int) : Int) ≤ 4))) rfl rfl ?_
        refine C_nil ?_
        obtain rfl := Option.some.inj hF
        exact ⟨_, _, rfl, (EqL.cons rfl (EqL.nil)).eq, (.sel .nil)⟩
      rw [hg18]
      try rw [hg18] at hF; dsimp only [cond_true, cond_false] at hF
      iterate 3 refine C_off (t := 21) rfl rfl rfl ?_
      refine C_val (V_pick (b := false) (u := undef) (v := (.bool false)) (.tmp rfl rfl) (.tmp rfl rfl) (.bool _)) ?_
      refine Ca (.bool false) rfl rfl ?_
      refine C_nil ?_
      obtain rfl := Option.some.inj hF
      exact ⟨_, _, rfl, (EqL.cons rfl (EqL.nil)).eq, (.sel .nil)⟩
    rintro _ _ ⟨c19, g20, rfl, rfl, hE⟩
    replace hF := hO14
    clear hO14
    try dsimp only at hF
    refine K_ent hE ?_
    refine CW_ret ?_
    obtain rfl := Option.some.inj hF
    exact End_ret () (.tmp rfl rfl .nil) rfl (.sel .nil)
  obtain ⟨hk8, hx9, hd10⟩ := drop_cons hd7
  have hfe11 : (decide (((k4 : Int) : Int) < (a_l.length : Int))) = true := decide_eq_true (by omega)
  rw [s_AreRules_L1] at hF
  refine K_in (K_region (Cm (.int .i64 (k4 : Int)) rfl rfl ?_))
  refine Cm v1_0.v rfl rfl ?_
  refine C_at (.t .h) (fun hp => V_lenR (l := a_l.length) sl38 (.tmp rfl rfl) (crd_len hp)) ?_
  refine C_val (V_lss (i := (k4 : Int)) (j := (a_l.length : Int)) (.tmp rfl rfl) (.tmp rfl rfl)) ?_
  refine C_nil (CW_cond (b := (decide (((k4 : Int) : Int) < (a_l.length : Int)))) (.tmp rfl rfl) (fun _ => ?_) (fun hb => absurd (hfe11.symm.trans hb) (by decide)))
  refine CW_skip (K_block (K_region (Cm v0_0.v rfl rfl ?_)))
  refine Cm v1_0.v rfl rfl ?_
  refine Cm (.int .i64 (k4 : Int)) rfl rfl ?_
  refine C_idx (a := x6) sl38 ty110.sz (.tmp rfl rfl) (.tmp rfl rfl) (.t .h) (Int.natCast_nonneg k4) hx9 (fun k21 j22 => ?_)
  refine C_ldA1 (ul110_0_110 x6) ag110 ty110.sz rfl (.tmp rfl rfl) .h la110_0_110 (fun p23 => ?_)
  obtain ⟨r24, hx25, hF⟩ := bind_some hF
  refine C_x0 (.rd (.t (.t .h)) rfl (.rd .h rfl .nil)) (X_callS cf96 (.cons (.tmp rfl rfl) (.cons (.tmp rfl rfl) .nil)) (s_IsRule_ok a_s v0_0 x6 p23 _ hx25)) (fun _ => ?_)
  refine C_val (V_not (b := r24) (.tmp rfl rfl)) ?_
  refine C_nil (CW_cond (b := (!r24)) (.tmp rfl rfl) (fun hb28 => ?_) (fun hb28 => ?_))
  · rw [if_pos hb28] at hF
    refine K_region (C_val (V_assign (v := (.bool false)) (.bool _)) ?_)
    refine C_nil (CW_ret ?_)
    obtain rfl := Option.some.inj hF
    exact End_ret () (.tmp rfl rfl .nil) rfl (.sel .nil)
  rw [if_neg (by rw [hb28]; exact Bool.false_ne_true)] at hF
  refine CW_skip (CW_region (Cm (.int .i64 (k4 : Int)) rfl rfl ?_))
  refine C_val (V_add (i := (k4 : Int)) (j := 1) (.tmp rfl rfl) (.int _ _)) ?_
  refine Ca (.int .i64 (IntKind.i64.wrap ((k4 : Int) + 1))) rfl rfl ?_
  refine C_nil ?_
  have hw27 : IntKind.i64.wrap ((k4 : Int) + 1) = ((k4 + 1 : Nat) : Int) := by rw [wrap_in (by omega) (by omega)]; rfl
  rw [hw27]
  exact ⟨_, Nat.lt_succ_self _, _, k4 + 1, rest5, rfl, (EqL.cons rfl (EqL.cons rfl (EqL.cons rfl (EqL.nil)))).eq, hd10, (.sel (.rd (.t (.t .h)) rfl (.rd (.t (.t (.t .h))) rfl .nil))), hF⟩

/-! spec.IsFact -/
def s_IsFact_L1 : List Int → Nat → Option (Bool)
  | [], k22 => some true
  | x24 :: rest23, k22 => (s_l1In x24 0 9).bind fun r33 =>
    if (!r33) then (
      some false)
    else (
      s_IsFact_L1 rest23 (k22 + 1))
def s_IsFact (a_s : List Int) (a_f : Fact) : Option (Bool) :=
  ((s_IsSchema a_s).bind fun r4 =>
    bif (!r4) then (some true)
    else ((s_l1In a_f.Rel 0 (IntKind.i64.wrap ((a_s.length : Int) - 1))).bind fun r8 =>
      bif (!r8) then (some true)
      else ((ix a_s a_f.Rel).bind fun x12 =>
        some (((a_f.Values.length : Int) : Int) != x12)))).bind fun o2 =>
  match o2 with
  | c18 => if c18 then (
      some false)
    else (
      s_IsFact_L1 a_f.Values 0)
theorem s_IsFact_ok (a_s : List Int) (v0_0 : Sv) (a_f : Fact) (v1_1 : Sv) (R : Bool) (hF : s_IsFact a_s a_f = some R) :
    Fw.Spec Tryz.prog 125 [v0_0.v, (.agg [(.int .i64 a_f.Rel), v1_1.v].toArray)] [crd (RdS 3 rdInt) v0_0.v a_s, crd (RdS 3 rdInt) v1_1.v a_f.Values] (fun _ : Unit => (.bool R)) (fun _ => []) := by
  refine Spec_enter (n := 43) Tryz.func125 rfl rfl (rs := [.tmp 4]) rfl rfl rfl ?_
  intro H0 F0
  unfold s_IsFact at hF
  refine K_region (C_newR rfl (N_box (g := false) (v := (.agg [(.int .i64 a_f.Rel), v1_1.v].toArray)) ty80.sz (.tmp rfl rfl) rfl) (fun k1 => ?_))
  refine C_val (V_assign (v := (.bool false)) (.bool _)) ?_
  refine C_nil (K_in ?_)
  obtain ⟨o2, hio2, hO3⟩ := bind_some hF
  refine K_draw [0, 1, 2, 3, 4, 5, 6, 7, 8, 9, 10, 11, 12, 13, 14, 15, 16, 17, 18, 19, 20, 21, 22] [0, 1, 3, 7, 15, 31, 15, 79, 207, 511, 1023, 2047, 4095, 8191, 16383, 32767, 8191, 8191, 139263, 466943, 991231, 2097151, 4194303] [1, 9] mixed (by decide +kernel) ?_
  refine D_cut (fun f' cs' => ∃ (c18 : Bool) (g : Fr), c18 = o2 ∧ f' = updL g [(3, (.pointer (some ⟨k1, 0, some 0⟩))), (28, (.bool c18))] ∧ Ent cs' [cboR k1 80 (.agg [(.int .i64 a_f.Rel), v1_1.v].toArray), crd (RdS 3 rdInt) v1_1.v a_f.Values]) ?_ ?_
  · replace hF := hio2
    refine Dm v0_0.v rfl rfl rfl rfl ?_
    obtain ⟨r4, hx5, hF⟩ := bind_some hF
    refine D_act0 rfl rfl .no (.rd (.t .h) rfl .nil) .nil (fun ha => X_callS cf53 (.cons (EN ha (.tmp rfl rfl) rfl) .nil) (s_IsSchema_ok a_s v0_0 _ hx5)) (fun _ => ?_)
    refine D_val rfl .no (fun ha => V_not (b := r4) (EN ha (.tmp rfl rfl) rfl)) ?_
    refine Dm (.bool (!r4)) rfl rfl rfl rfl ?_
    rcases Bool.eq_false_or_eq_true (!r4) with hg7 | hg7
    · rw [hg7]
      try rw [hg7] at hF; dsimp only [cond_true, cond_false] at hF
      iterate 7 refine D_off 9 rfl rfl rfl rfl ?_
      refine D_val rfl .no (fun ha => V_pick (b := true) (u := (.bool true)) (v := undef) (EN ha (.tmp rfl rfl) rfl) (EN ha (.bool _) rfl) (EN ha (.tmp rfl rfl) rfl)) ?_
      refine Dm (.bool true) rfl rfl rfl rfl ?_
      iterate 9 refine D_off 18 rfl rfl rfl rfl ?_
      refine D_val rfl .no (fun ha => V_pick (b := true) (u := (.bool true)) (v := undef) (EN ha (.tmp rfl rfl) rfl) (EN ha (.bool _) rfl) (EN ha (.tmp rfl rfl) rfl)) ?_
      refine D_nil ?_
      obtain rfl := Option.some.inj hF
      exact ⟨_, _, rfl, (EqL.cons rfl (EqL.cons rfl (EqL.nil))).eq, (.sel (.rd .h rfl (.rd (.t (.t .h)) rfl .nil)))⟩
    rw [hg7]
    try rw [hg7] at hF; dsimp only [cond_true, cond_false] at hF
    refine D_val rfl (.on 9 rfl rfl rfl) (fun ha => V_fieldAddr (off := 0) fd80_0 (EN ha (.tmp rfl rfl) rfl)) ?_
    refine D_at rfl (.on 9 rfl rfl rfl) .h rfl (fun ha hp => V_load (v := (.int .i64 a_f.Rel)) ag3 (EN ha (.tmp rfl rfl) rfl) hp.2 rfl rfl) ?_
    refine D_val rfl (.on 9 rfl rfl rfl) (fun ha => V_move (v := v0_0.v) (EN ha (.tmp rfl rfl) rfl)) ?_
    refine D_at rfl (.on 9 rfl rfl rfl) (.t .h) rfl (fun ha hp => V_lenR (l := a_s.length) sl22 (EN ha (.tmp rfl rfl) rfl) (crd_len hp)) ?_
    refine D_val rfl (.on 9 rfl rfl rfl) (fun ha => V_sub (i := (a_s.length : Int)) (j := 1) (EN ha (.tmp rfl rfl) rfl) (EN ha (.int _ _) rfl)) ?_
    obtain ⟨r8, hx9, hF⟩ := bind_some hF
    refine D_act0 rfl rfl (.on 9 rfl rfl rfl) .nil .nil (fun ha => X_callS cf59 (.cons (EN ha (.tmp rfl rfl) rfl) (.cons (EN ha (.int _ _) rfl) (.cons (EN ha (.tmp rfl rfl) rfl) .nil))) (s_l1In_ok a_f.Rel 0 (IntKind.i64.wrap ((a_s.length : Int) - 1)) _ hx9)) (fun _ => ?_)
    refine D_val rfl (.on 9 rfl rfl rfl) (fun ha => V_not (b := r8) (EN ha (.tmp rfl rfl) rfl)) ?_
    refine D_val rfl .no (fun ha => V_pick (b := false) (u := (.bool true)) (v := (.bool (!r8))) (EN ha (.tmp rfl rfl) rfl) (EN ha (.bool _) rfl) (EN ha (.tmp rfl rfl) rfl)) ?_
    refine Dm (.bool (!r8)) rfl rfl rfl rfl ?_
    rcases Bool.eq_false_or_eq_true (!r8) with hg11 | hg11
    · rw [hg11]
      try rw [hg11] at hF; dsimp only [cond_true, cond_false] at hF
      iterate 9 refine D_off 18 rfl rfl rfl rfl ?_
      refine D_val rfl .no (fun ha => V_pick (b := true) (u := (.bool true)) (v := undef) (EN ha (.tmp rfl rfl) rfl) (EN ha (.bool _) rfl) (EN ha (.tmp rfl rfl) rfl)) ?_
      refine D_nil ?_
      obtain rfl := Option.some.inj hF
      exact ⟨_, _, rfl, (EqL.cons rfl (EqL.cons rfl (EqL.nil))).eq, (.sel (.rd .h rfl (.rd (.t (.t .h)) rfl .nil)))⟩
    rw [hg11]
    try rw [hg11] at hF; dsimp only [cond_true, cond_false] at hF
    refine D_val rfl (.on 18 rfl rfl rfl) (fun ha => V_fieldAddr (off := 1) fd80_1 (EN ha (.tmp rfl rfl) rfl)) ?_
    refine D_at rfl (.on 18 rfl rfl rfl) .h rfl (fun ha hp => V_load (v := v1_1.v) ag22 (EN ha (.tmp rfl rfl) rfl) hp.2 rfl rfl) ?_
    refine D_at rfl (.on 18 rfl rfl rfl) (.t (.t .h)) rfl (fun ha hp => V_lenR (l := a_f.Values.length) sl22 (EN ha (.tmp rfl rfl) rfl) (crd_len hp)) ?_
    refine D_val rfl (.on 18 rfl rfl rfl) (fun ha => V_move (v := v0_0.v) (EN ha (.tmp rfl rfl) rfl)) ?_
    refine D_val rfl (.on 18 rfl rfl rfl) (fun ha => V_fieldAddr (off := 0) fd80_0 (EN ha (.tmp rfl rfl) rfl)) ?_
    refine D_at rfl (.on 18 rfl rfl rfl) .h rfl (fun ha hp => V_load (v := (.int .i64 a_f.Rel)) ag3 (EN ha (.tmp rfl rfl) rfl) hp.2 rfl rfl) ?_
    obtain ⟨x12, hx13, hF⟩ := bind_some hF
    obtain ⟨hp14, hx15⟩ := ix_some hx13
    refine D_idx (a := x12) sl22 ty3.sz rfl (.on 18 rfl rfl rfl) (.tmp rfl rfl) (.tmp rfl rfl) rfl rfl (.t .h) hp14 hx15 (fun k16 j17 => ?_)
    refine D_ldS (w := (.int .i64 x12)) ag3 rfl (.on 18 rfl rfl rfl) (.tmp rfl rfl) rfl .h ls3_0 ?_
    refine D_val rfl (.on 18 rfl rfl rfl) (fun ha => V_neq (i := (a_f.Values.length : Int)) (j := x12) (EN ha (.tmp rfl rfl) rfl) (EN ha (.tmp rfl rfl) rfl)) ?_
    refine D_val rfl .no (fun ha => V_pick (b := false) (u := (.bool true)) (v := (.bool (((a_f.Values.length : Int) : Int) != x12))) (EN ha (.tmp rfl rfl) rfl) (EN ha (.bool _) rfl) (EN ha (.tmp rfl rfl) rfl)) ?_
    refine D_nil ?_
    obtain rfl := Option.some.inj hF
    exact ⟨_, _, rfl, (EqL.cons rfl (EqL.cons rfl (EqL.nil))).eq, (.sel (.rd (.t .h) rfl (.rd (.t (.t (.t .h))) rfl .nil)))⟩
  rintro _ _ ⟨c18, g39, rfl, rfl, hE⟩
  replace hF := hO3
  clear hO3
  try dsimp only at hF
  refine K_ent hE ?_
  refine CW_cond (b := c18) (.tmp rfl rfl) (fun hb38 => ?_) (fun hb38 => ?_)
  · rw [if_pos hb38] at hF
    refine K_region (C_val (V_assign (v := (.bool false)) (.bool _)) ?_)
    refine C_nil (CW_ret ?_)
    obtain rfl := Option.some.inj hF
    exact End_ret () (.tmp rfl rfl .nil) rfl (.sel .nil)
  rw [if_neg (by rw [hb38]; exact Bool.false_ne_true)] at hF
  refine CW_skip (K_in (K_region (C_val (V_assign (v := (.int .i64 0)) (.int _ _)) ?_)))
  refine C_nil (CW_block (CW_loop (m := a_f.Values.length) (fun m20 f' cs' => ∃ (g : Fr) (k22 : Nat) (rest23 : List Int), m20 = rest23.length ∧ f' = updL g [(3, (.pointer (some ⟨k1, 0, some 0⟩))), (5, (.int .i64 (k22 : Int)))] ∧ List.drop k22 a_f.Values = rest23 ∧ Ent cs' [cboR k1 80 (.agg [(.int .i64 a_f.Rel), v1_1.v].toArray), crd (RdS 3 rdInt) v1_1.v a_f.Values] ∧ s_IsFact_L1 rest23 k22 = some R) ⟨_, 0, _, rfl, (EqL.cons rfl (EqL.cons rfl (EqL.nil))).eq, rfl, (.sel (.rd .h rfl (.rd (.t .h) rfl .nil))), hF⟩ ?_))
  clear hF
  rintro m20 _ _ ⟨g21, k22, rest23, rfl, rfl, hd25, hE, hF⟩
  refine K_ent hE ?_
  clear hE
  refine K_pure (c := crd (RdS 3 rdInt) v1_1.v a_f.Values) (.t .h) crd_bound (fun hbd30 => ?_)
  rcases rest23 with _ | ⟨x24, rest23⟩
  · have hk26 := List.drop_eq_nil_iff.1 hd25
    have hfe29 : (decide (((k22 : Int) : Int) < (a_f.Values.length : Int))) = false := decide_eq_false (by omega)
    rw [s_IsFact_L1] at hF
    refine K_in (K_region (Cm (.int .i64 (k22 : Int)) rfl rfl ?_))
    refine C_val (V_fieldAddr (off := 1) fd80_1 (.tmp rfl rfl)) ?_
    refine C_at .h (fun hp => V_load (v := v1_1.v) ag22 (.tmp rfl rfl) hp.2 rfl rfl) ?_
    refine C_at (.t .h) (fun hp => V_lenR (l := a_f.Values.length) sl22 (.tmp rfl rfl) (crd_len hp)) ?_
    refine C_val (V_lss (i := (k22 : Int)) (j := (a_f.Values.length : Int)) (.tmp rfl rfl) (.tmp rfl rfl)) ?_
    refine C_nil (CW_cond (b := (decide (((k22 : Int) : Int) < (a_f.Values.length : Int)))) (.tmp rfl rfl) (fun hb => absurd (hfe29.symm.trans hb) (by decide)) (fun _ => ?_))
    refine CW_exit ?_
    iterate 2 refine CThen_exit ?_
    refine CIn_self (K_region (C_val (V_assign (v := (.bool true)) (.bool _)) ?_))
    refine C_nil (CW_ret ?_)
    obtain rfl := Option.some.inj hF
    exact End_ret () (.tmp rfl rfl .nil) rfl (.sel .nil)
  obtain ⟨hk26, hx27, hd28⟩ := drop_cons hd25
  have hfe29 : (decide (((k22 : Int) : Int) < (a_f.Values.length : Int))) = true := decide_eq_true (by omega)
  rw [s_IsFact_L1] at hF
  refine K_in (K_region (Cm (.int .i64 (k22 : Int)) rfl rfl ?_))
  refine C_val (V_fieldAddr (off := 1) fd80_1 (.tmp rfl rfl)) ?_
  refine C_at .h (fun hp => V_load (v := v1_1.v) ag22 (.tmp rfl rfl) hp.2 rfl rfl) ?_
  refine C_at (.t .h) (fun hp => V_lenR (l := a_f.Values.length) sl22 (.tmp rfl rfl) (crd_len hp)) ?_
  refine C_val (V_lss (i := (k22 : Int)) (j := (a_f.Values.length : Int)) (.tmp rfl rfl) (.tmp rfl rfl)) ?_
  refine C_nil (CW_cond (b := (decide (((k22 : Int) : Int) < (a_f.Values.length : Int)))) (.tmp rfl rfl) (fun _ => ?_) (fun hb => absurd (hfe29.symm.trans hb) (by decide)))
  refine CW_skip (K_block (K_region (C_val (V_fieldAddr (off := 1) fd80_1 (.tmp rfl rfl)) ?_)))
  refine C_at .h (fun hp => V_load (v := v1_1.v) ag22 (.tmp rfl rfl) hp.2 rfl rfl) ?_
  refine Cm (.int .i64 (k22 : Int)) rfl rfl ?_
  refine C_idx (a := x24) sl22 ty3.sz (.tmp rfl rfl) (.tmp rfl rfl) (.t .h) (Int.natCast_nonneg k22) hx27 (fun k31 j32 => ?_)
  refine C_ldS (w := (.int .i64 x24)) ag3 (.tmp rfl rfl) .h ls3_0 ?_
  obtain ⟨r33, hx34, hF⟩ := bind_some hF
  refine C_x0 .nil (X_callS cf59 (.cons (.tmp rfl rfl) (.cons (.int _ _) (.cons (.int _ _) .nil))) (s_l1In_ok x24 0 9 _ hx34)) (fun _ => ?_)
  refine C_val (V_not (b := r33) (.tmp rfl rfl)) ?_
  refine C_nil (CW_cond (b := (!r33)) (.tmp rfl rfl) (fun hb37 => ?_) (fun hb37 => ?_))
  · rw [if_pos hb37] at hF
    refine K_region (C_val (V_assign (v := (.bool false)) (.bool _)) ?_)
    refine C_nil (CW_ret ?_)
    obtain rfl := Option.some.inj hF
    exact End_ret () (.tmp rfl rfl .nil) rfl (.sel .nil)
  rw [if_neg (by rw [hb37]; exact Bool.false_ne_true)] at hF
  refine CW_skip (CW_region (Cm (.int .i64 (k22 : Int)) rfl rfl ?_))
  refine C_val (V_add (i := (k22 : Int)) (j := 1) (.tmp rfl rfl) (.int _ _)) ?_
  refine Ca (.int .i64 (IntKind.i64.wrap ((k22 : Int) + 1))) rfl rfl ?_
  refine C_nil ?_
  have hw36 : IntKind.i64.wrap ((k22 : Int) + 1) = ((k22 + 1 : Nat) : Int) := by rw [wrap_in (by omega) (by omega)]; rfl
  rw [hw36]
  exact ⟨_, Nat.lt_succ_self _, _, k22 + 1, rest23, rfl, (EqL.cons rfl (EqL.cons rfl (EqL.nil))).eq, hd28, (.sel (.rd (.t .h) rfl (.rd (.t (.t .h)) rfl .nil))), hF⟩

/-! spec.CompareFacts -/
def s_CompareFacts_L1 (a_a : Fact) (a_b : Fact) : Nat → Int → Option (Int)
  | 0, _ => none
  | m5 + 1, c4 => if ((decide ((c4 : Int) < (a_a.Values.length : Int))) && (decide ((c4 : Int) < (a_b.Values.length : Int)))) then (
      (ix a_a.Values c4).bind fun x15 =>
      (ix a_b.Values c4).bind fun x21 =>
      if (decide ((x15 : Int) < x21)) then (
        some (-1))
      else (
        (ix a_a.Values c4).bind fun x27 =>
        (ix a_b.Values c4).bind fun x33 =>
        if (decide ((x33 : Int) < x27)) then (
          some 1)
        else (
          s_CompareFacts_L1 a_a a_b m5 (IntKind.i64.wrap (c4 + 1)))))
    else (
      if (decide (((a_a.Values.length : Int) : Int) < (a_b.Values.length : Int))) then (
        some (-1))
      else (
        if (decide (((a_b.Values.length : Int) : Int) < (a_a.Values.length : Int))) then (
          some 1)
        else (
          some 0)))
def s_CompareFacts (a_a : Fact) (a_b : Fact) : Option (Int) :=
  if ((a_a.Rel : Int) != a_b.Rel) then (
    if (decide ((a_a.Rel : Int) < a_b.Rel)) then (
      some (-1))
    else (
      some 1))
  else (
    s_CompareFacts_L1 a_a a_b (((a_a.Values.length : Int) - 0).toNat + 2) 0)
theorem s_CompareFacts_ok (a_a : Fact) (v0_1 : Sv) (a_b : Fact) (v1_1 : Sv) (R : Int) (hF : s_CompareFacts a_a a_b = some R) :
    Fw.Spec Tryz.prog 126 [(.agg [(.int .i64 a_a.Rel), v0_1.v].toArray), (.agg [(.int .i64 a_b.Rel), v1_1.v].toArray)] [crd (RdS 3 rdInt) v0_1.v a_a.Values, crd (RdS 3 rdInt) v1_1.v a_b.Values] (fun _ : Unit => (.int .i64 R)) (fun _ => []) := by
  refine Spec_enter (n := 66) Tryz.func126 rfl rfl (rs := [.tmp 4]) rfl rfl rfl ?_
  intro H0 F0
  unfold s_CompareFacts at hF
  refine K_region (C_newR rfl (N_box (g := false) (v := (.agg [(.int .i64 a_a.Rel), v0_1.v].toArray)) ty80.sz (.tmp rfl rfl) rfl) (fun k1 => ?_))
  refine C_newR rfl (N_box (g := false) (v := (.agg [(.int .i64 a_b.Rel), v1_1.v].toArray)) ty80.sz (.tmp rfl rfl) rfl) (fun k2 => ?_)
  refine C_val (V_assign (v := (.int .i64 0)) (.int _ _)) ?_
  refine C_nil (K_in (K_region (C_val (V_fieldAddr (off := 0) fd80_0 (.tmp rfl rfl)) ?_)))
  refine C_at (.t .h) (fun hp => V_load (v := (.int .i64 a_a.Rel)) ag3 (.tmp rfl rfl) hp.2 rfl rfl) ?_
  refine C_val (V_fieldAddr (off := 0) fd80_0 (.tmp rfl rfl)) ?_
  refine C_at .h (fun hp => V_load (v := (.int .i64 a_b.Rel)) ag3 (.tmp rfl rfl) hp.2 rfl rfl) ?_
  refine C_val (V_neq (i := a_a.Rel) (j := a_b.Rel) (.tmp rfl rfl) (.tmp rfl rfl)) ?_
  refine C_nil (CW_cond (b := ((a_a.Rel : Int) != a_b.Rel)) (.tmp rfl rfl) (fun hb44 => ?_) (fun hb44 => ?_))
  · rw [if_pos hb44] at hF
    refine K_in (K_region (C_val (V_fieldAddr (off := 0) fd80_0 (.tmp rfl rfl)) ?_))
    refine C_at (.t .h) (fun hp => V_load (v := (.int .i64 a_a.Rel)) ag3 (.tmp rfl rfl) hp.2 rfl rfl) ?_
    refine C_val (V_fieldAddr (off := 0) fd80_0 (.tmp rfl rfl)) ?_
    refine C_at .h (fun hp => V_load (v := (.int .i64 a_b.Rel)) ag3 (.tmp rfl rfl) hp.2 rfl rfl) ?_
    refine C_val (V_lss (i := a_a.Rel) (j := a_b.Rel) (.tmp rfl rfl) (.tmp rfl rfl)) ?_
    refine C_nil (CW_cond (b := (decide ((a_a.Rel : Int) < a_b.Rel))) (.tmp rfl rfl) (fun hb3 => ?_) (fun hb3 => ?_))
    · rw [if_pos hb3] at hF
      refine K_region (C_val (V_assign (v := (.int .i64 (-1))) (.int _ _)) ?_)
      refine C_nil (CW_ret ?_)
      obtain rfl := Option.some.inj hF
      exact End_ret () (.tmp rfl rfl .nil) rfl (.sel .nil)
    rw [if_neg (by rw [hb3]; exact Bool.false_ne_true)] at hF
    refine CW_skip (K_region (C_val (V_assign (v := (.int .i64 1)) (.int _ _)) ?_))
    refine C_nil (CW_ret ?_)
    obtain rfl := Option.some.inj hF
    exact End_ret () (.tmp rfl rfl .nil) rfl (.sel .nil)
  rw [if_neg (by rw [hb44]; exact Bool.false_ne_true)] at hF
  refine CW_skip (K_in (K_region (C_val (V_assign (v := (.int .i64 0)) (.int _ _)) ?_)))
  refine C_nil (CW_block (CW_loop (m := (((a_a.Values.length : Int) - 0).toNat + 2)) (fun m5 f' cs' => ∃ (g : Fr) (c4 : Int), f' = updL g [(2, (.pointer (some ⟨k1, 0, some 0⟩))), (3, (.pointer (some ⟨k2, 0, some 0⟩))), (5, (.int .i64 c4))] ∧ Ent cs' [cboR k1 80 (.agg [(.int .i64 a_a.Rel), v0_1.v].toArray), crd (RdS 3 rdInt) v0_1.v a_a.Values, cboR k2 80 (.agg [(.int .i64 a_b.Rel), v1_1.v].toArray), crd (RdS 3 rdInt) v1_1.v a_b.Values] ∧ s_CompareFacts_L1 a_a a_b m5 c4 = some R) ⟨_, _, (EqL.cons rfl (EqL.cons rfl (EqL.cons rfl (EqL.nil)))).eq, (.sel (.rd (.t .h) rfl (.rd (.t (.t .h)) rfl (.rd .h rfl (.rd (.t (.t (.t .h))) rfl .nil))))), hF⟩ ?_))
  clear hF
  rintro m5 _ _ ⟨g6, c4, rfl, hE, hF⟩
  refine K_ent hE ?_
  clear hE
  rcases m5 with _ | m5
  · rw [s_CompareFacts_L1] at hF
    exact absurd hF (by simp)
  rw [s_CompareFacts_L1] at hF
  refine K_in (K_region (C_cut (fun f' cs' => ∃ (g : Fr), f' = updL g [(2, (.pointer (some ⟨k1, 0, some 0⟩))), (3, (.pointer (some ⟨k2, 0, some 0⟩))), (5, (.int .i64 c4)), (27, (.bool ((decide ((c4 : Int) < (a_a.Values.length : Int))) && (decide ((c4 : Int) < (a_b.Values.length : Int))))))] ∧ Ent cs' [cboR k1 80 (.agg [(.int .i64 a_a.Rel), v0_1.v].toArray), crd (RdS 3 rdInt) v0_1.v a_a.Values, cboR k2 80 (.agg [(.int .i64 a_b.Rel), v1_1.v].toArray), crd (RdS 3 rdInt) v1_1.v a_b.Values]) ?_ ?_))
  · refine Cm (.int .i64 c4) rfl rfl ?_
    refine C_val (V_fieldAddr (off := 1) fd80_1 (.tmp rfl rfl)) ?_
    refine C_at .h (fun hp => V_load (v := v0_1.v) ag22 (.tmp rfl rfl) hp.2 rfl rfl) ?_
    refine C_at (.t .h) (fun hp => V_lenR (l := a_a.Values.length) sl22 (.tmp rfl rfl) (crd_len hp)) ?_
    refine C_val (V_lss (i := c4) (j := (a_a.Values.length : Int)) (.tmp rfl rfl) (.tmp rfl rfl)) ?_
    refine Cm (.bool (decide ((c4 : Int) < (a_a.Values.length : Int)))) rfl rfl ?_
    rcases Bool.eq_false_or_eq_true (decide ((c4 : Int) < (a_a.Values.length : Int))) with hg13 | hg13
    · rw [hg13]
      try rw [hg13] at hF; dsimp only [cond_true, cond_false] at hF
      refine C_on (t := 21) rfl rfl rfl ?_
      refine Cm (.int .i64 c4) rfl rfl ?_
      refine C_on (t := 21) rfl rfl rfl ?_
      refine C_val (V_fieldAddr (off := 1) fd80_1 (.tmp rfl rfl)) ?_
      refine C_on (t := 21) rfl rfl rfl ?_
      refine C_at (.t (.t .h)) (fun hp => V_load (v := v1_1.v) ag22 (.tmp rfl rfl) hp.2 rfl rfl) ?_
      refine C_on (t := 21) rfl rfl rfl ?_
      refine C_at (.t (.t (.t .h))) (fun hp => V_lenR (l := a_b.Values.length) sl22 (.tmp rfl rfl) (crd_len hp)) ?_
      refine C_on (t := 21) rfl rfl rfl ?_
      refine C_val (V_lss (i := c4) (j := (a_b.Values.length : Int)) (.tmp rfl rfl) (.tmp rfl rfl)) ?_
      refine C_val (V_pick (b := true) (u := (.bool (decide ((c4 : Int) < (a_b.Values.length : Int))))) (v := (.bool false)) (.tmp rfl rfl) (.tmp rfl rfl) (.bool _)) ?_
      refine C_nil ?_
      exact ⟨_, (EqL.cons rfl (EqL.cons rfl (EqL.cons rfl (EqL.cons rfl (EqL.nil))))).eq, (.sel (.rd .h rfl (.rd (.t .h) rfl (.rd (.t (.t .h)) rfl (.rd (.t (.t (.t .h))) rfl .nil)))))⟩
    rw [hg13]
    try rw [hg13] at hF; dsimp only [cond_true, cond_false] at hF
    iterate 5 refine C_off (t := 21) rfl rfl rfl ?_
    refine C_val (V_pick (b := false) (u := undef) (v := (.bool false)) (.tmp rfl rfl) (.tmp rfl rfl) (.bool _)) ?_
    refine C_nil ?_
    exact ⟨_, (EqL.cons rfl (EqL.cons rfl (EqL.cons rfl (EqL.cons rfl (EqL.nil))))).eq, (.sel (.rd .h rfl (.rd (.t .h) rfl (.rd (.t (.t .h)) rfl (.rd (.t (.t (.t .h))) rfl .nil)))))⟩
  rintro _ _ ⟨g14, rfl, hE⟩
  refine K_ent hE ?_
  refine CW_cond (b := ((decide ((c4 : Int) < (a_a.Values.length : Int))) && (decide ((c4 : Int) < (a_b.Values.length : Int))))) (.tmp rfl rfl) (fun hb43 => ?_) (fun hb43 => ?_)
  · rw [if_pos hb43] at hF
    refine CW_skip (K_block (K_in (K_draw [0, 1, 2, 3, 4, 5, 6, 7, 8, 9, 10] [0, 1, 0, 7, 15, 0, 32, 0, 224, 480, 1023] [] mixed (by decide +kernel) ?_)))
    refine D_val rfl .no (fun ha => V_fieldAddr (off := 1) fd80_1 (EN ha (.tmp rfl rfl) rfl)) ?_
    refine D_at rfl .no .h rfl (fun ha hp => V_load (v := v0_1.v) ag22 (EN ha (.tmp rfl rfl) rfl) hp.2 rfl rfl) ?_
    refine Dm (.int .i64 c4) rfl rfl rfl rfl ?_
    obtain ⟨x15, hx16, hF⟩ := bind_some hF
    obtain ⟨hp17, hx18⟩ := ix_some hx16
    refine D_idx (a := x15) sl22 ty3.sz rfl .no (.tmp rfl rfl) (.tmp rfl rfl) rfl rfl (.t .h) hp17 hx18 (fun k19 j20 => ?_)
    refine D_ldS (w := (.int .i64 x15)) ag3 rfl .no (.tmp rfl rfl) rfl .h ls3_0 ?_
    refine D_val rfl .no (fun ha => V_fieldAddr (off := 1) fd80_1 (EN ha (.tmp rfl rfl) rfl)) ?_
    refine D_at rfl .no (.t (.t (.t .h))) rfl (fun ha hp => V_load (v := v1_1.v) ag22 (EN ha (.tmp rfl rfl) rfl) hp.2 rfl rfl) ?_
    refine Dm (.int .i64 c4) rfl rfl rfl rfl ?_
    obtain ⟨x21, hx22, hF⟩ := bind_some hF
    obtain ⟨hp23, hx24⟩ := ix_some hx22
    refine D_idx (a := x21) sl22 ty3.sz rfl .no (.tmp rfl rfl) (.tmp rfl rfl) rfl rfl (.t (.t (.t (.t .h)))) hp23 hx24 (fun k25 j26 => ?_)
    refine D_ldS (w := (.int .i64 x21)) ag3 rfl .no (.tmp rfl rfl) rfl .h ls3_0 ?_
    refine D_val rfl .no (fun ha => V_lss (i := x15) (j := x21) (EN ha (.tmp rfl rfl) rfl) (EN ha (.tmp rfl rfl) rfl)) ?_
    refine D_nil (CW_cond (b := (decide ((x15 : Int) < x21))) (.tmp rfl rfl) (fun hb40 => ?_) (fun hb40 => ?_))
    · rw [if_pos hb40] at hF
      refine K_region (C_val (V_assign (v := (.int .i64 (-1))) (.int _ _)) ?_)
      refine C_nil (CW_ret ?_)
      obtain rfl := Option.some.inj hF
      exact End_ret () (.tmp rfl rfl .nil) rfl (.sel .nil)
    rw [if_neg (by rw [hb40]; exact Bool.false_ne_true)] at hF
    refine CW_skip (K_draw [0, 1, 2, 3, 4, 5, 6, 7, 8, 9, 10] [0, 1, 0, 7, 15, 0, 32, 0, 224, 480, 1023] [] mixed (by decide +kernel) ?_)
    refine D_val rfl .no (fun ha => V_fieldAddr (off := 1) fd80_1 (EN ha (.tmp rfl rfl) rfl)) ?_
    refine D_at rfl .no (.t (.t .h)) rfl (fun ha hp => V_load (v := v0_1.v) ag22 (EN ha (.tmp rfl rfl) rfl) hp.2 rfl rfl) ?_
    refine Dm (.int .i64 c4) rfl rfl rfl rfl ?_
    obtain ⟨x27, hx28, hF⟩ := bind_some hF
    obtain ⟨hp29, hx30⟩ := ix_some hx28
    refine D_idx (a := x27) sl22 ty3.sz rfl .no (.tmp rfl rfl) (.tmp rfl rfl) rfl rfl (.t (.t (.t .h))) hp29 hx30 (fun k31 j32 => ?_)
    refine D_ldS (w := (.int .i64 x27)) ag3 rfl .no (.tmp rfl rfl) rfl .h ls3_0 ?_
    refine D_val rfl .no (fun ha => V_fieldAddr (off := 1) fd80_1 (EN ha (.tmp rfl rfl) rfl)) ?_
    refine D_at rfl .no (.t (.t (.t (.t (.t .h))))) rfl (fun ha hp => V_load (v := v1_1.v) ag22 (EN ha (.tmp rfl rfl) rfl) hp.2 rfl rfl) ?_
    refine Dm (.int .i64 c4) rfl rfl rfl rfl ?_
    obtain ⟨x33, hx34, hF⟩ := bind_some hF
    obtain ⟨hp35, hx36⟩ := ix_some hx34
    refine D_idx (a := x33) sl22 ty3.sz rfl .no (.tmp rfl rfl) (.tmp rfl rfl) rfl rfl (.t (.t (.t (.t (.t (.t .h)))))) hp35 hx36 (fun k37 j38 => ?_)
    refine D_ldS (w := (.int .i64 x33)) ag3 rfl .no (.tmp rfl rfl) rfl .h ls3_0 ?_
    refine D_val rfl .no (fun ha => V_gtr (i := x27) (j := x33) (EN ha (.tmp rfl rfl) rfl) (EN ha (.tmp rfl rfl) rfl)) ?_
    refine D_nil (CW_cond (b := (decide ((x33 : Int) < x27))) (.tmp rfl rfl) (fun hb39 => ?_) (fun hb39 => ?_))
    · rw [if_pos hb39] at hF
      refine K_region (C_val (V_assign (v := (.int .i64 1)) (.int _ _)) ?_)
      refine C_nil (CW_ret ?_)
      obtain rfl := Option.some.inj hF
      exact End_ret () (.tmp rfl rfl .nil) rfl (.sel .nil)
    rw [if_neg (by rw [hb39]; exact Bool.false_ne_true)] at hF
    refine CW_skip (CW_region (Cm (.int .i64 c4) rfl rfl ?_))
    refine C_val (V_add (i := c4) (j := 1) (.tmp rfl rfl) (.int _ _)) ?_
    refine Ca (.int .i64 (IntKind.i64.wrap (c4 + 1))) rfl rfl ?_
    refine C_nil ?_
    exact ⟨m5, Nat.lt_succ_self _, _, _, (EqL.cons rfl (EqL.cons rfl (EqL.cons rfl (EqL.nil)))).eq, (.sel (.rd (.t (.t (.t (.t .h)))) rfl (.rd (.t (.t (.t (.t (.t .h))))) rfl (.rd (.t (.t (.t (.t (.t (.t .h)))))) rfl (.rd (.t (.t (.t (.t (.t (.t (.t .h))))))) rfl .nil))))), hF⟩
  rw [if_neg (by rw [hb43]; exact Bool.false_ne_true)] at hF
  refine CW_exit ?_
  iterate 2 refine CThen_exit ?_
  refine CIn_self (K_in (K_region (C_val (V_fieldAddr (off := 1) fd80_1 (.tmp rfl rfl)) ?_)))
  refine C_at .h (fun hp => V_load (v := v0_1.v) ag22 (.tmp rfl rfl) hp.2 rfl rfl) ?_
  refine C_at (.t .h) (fun hp => V_lenR (l := a_a.Values.length) sl22 (.tmp rfl rfl) (crd_len hp)) ?_
  refine C_val (V_fieldAddr (off := 1) fd80_1 (.tmp rfl rfl)) ?_
  refine C_at (.t (.t .h)) (fun hp => V_load (v := v1_1.v) ag22 (.tmp rfl rfl) hp.2 rfl rfl) ?_
  refine C_at (.t (.t (.t .h))) (fun hp => V_lenR (l := a_b.Values.length) sl22 (.tmp rfl rfl) (crd_len hp)) ?_
  refine C_val (V_lss (i := (a_a.Values.length : Int)) (j := (a_b.Values.length : Int)) (.tmp rfl rfl) (.tmp rfl rfl)) ?_
  refine C_nil (CW_cond (b := (decide (((a_a.Values.length : Int) : Int) < (a_b.Values.length : Int)))) (.tmp rfl rfl) (fun hb42 => ?_) (fun hb42 => ?_))
  · rw [if_pos hb42] at hF
    refine K_region (C_val (V_assign (v := (.int .i64 (-1))) (.int _ _)) ?_)
    refine C_nil (CW_ret ?_)
    obtain rfl := Option.some.inj hF
    exact End_ret () (.tmp rfl rfl .nil) rfl (.sel .nil)
  rw [if_neg (by rw [hb42]; exact Bool.false_ne_true)] at hF
  refine CW_skip (K_in (K_region (C_val (V_fieldAddr (off := 1) fd80_1 (.tmp rfl rfl)) ?_)))
  refine C_at .h (fun hp => V_load (v := v0_1.v) ag22 (.tmp rfl rfl) hp.2 rfl rfl) ?_
  refine C_at (.t .h) (fun hp => V_lenR (l := a_a.Values.length) sl22 (.tmp rfl rfl) (crd_len hp)) ?_
  refine C_val (V_fieldAddr (off := 1) fd80_1 (.tmp rfl rfl)) ?_
  refine C_at (.t (.t .h)) (fun hp => V_load (v := v1_1.v) ag22 (.tmp rfl rfl) hp.2 rfl rfl) ?_
  refine C_at (.t (.t (.t .h))) (fun hp => V_lenR (l := a_b.Values.length) sl22 (.tmp rfl rfl) (crd_len hp)) ?_
  refine C_val (V_gtr (i := (a_a.Values.length : Int)) (j := (a_b.Values.length : Int)) (.tmp rfl rfl) (.tmp rfl rfl)) ?_
  refine C_nil (CW_cond (b := (decide (((a_b.Values.length : Int) : Int) < (a_a.Values.length : Int)))) (.tmp rfl rfl) (fun hb41 => ?_) (fun hb41 => ?_))
  · rw [if_pos hb41] at hF
    refine K_region (C_val (V_assign (v := (.int .i64 1)) (.int _ _)) ?_)
    refine C_nil (CW_ret ?_)
    obtain rfl := Option.some.inj hF
    exact End_ret () (.tmp rfl rfl .nil) rfl (.sel .nil)
  rw [if_neg (by rw [hb41]; exact Bool.false_ne_true)] at hF
  refine CW_skip (K_region (C_val (V_assign (v := (.int .i64 0)) (.int _ _)) ?_))
  refine C_nil (CW_ret ?_)
  obtain rfl := Option.some.inj hF
  exact End_ret () (.tmp rfl rfl .nil) rfl (.sel .nil)

/-! spec.AreFacts -/
def s_AreFacts_L1 (a_s : List Int) (a_l : List Fact) : List Fact → Nat → Option (Bool)
  | [], k4 => ((s_IsSchema a_s).bind fun r15 =>
      bif r15 then (some (decide (((a_l.length : Int) : Int) ≤ 24)))
      else (some false)).bind fun o13 =>
    match o13 with
    | c19 => some c19
  | x6 :: rest5, k4 => ((s_IsFact a_s x6).bind fun r26 =>
      bif (!r26) then (some true)
      else (bif (decide ((0 : Int) < (k4 : Int))) then ((ix a_l (IntKind.i64.wrap ((k4 : Int) - 1))).bind fun x31 =>
          (s_CompareFacts x31 x6).bind fun r41 =>
          some (decide ((0 : Int) ≤ r41)))
        else (some false))).bind fun o21 =>
    match o21 with
    | c44 => if c44 then (
        some false)
      else (
        s_AreFacts_L1 a_s a_l rest5 (k4 + 1))
def s_AreFacts (a_s : List Int) (a_l : List Fact) : Option (Bool) :=
  s_AreFacts_L1 a_s a_l a_l 0
theorem s_AreFacts_ok (a_s : List Int) (v0_0 : Sv) (a_l : List Fact) (v1_0 : Sv) (R : Bool) (hF : s_AreFacts a_s a_l = some R) :
    Fw.Spec Tryz.prog 97 [v0_0.v, v1_0.v] [crd (RdS 3 rdInt) v0_0.v a_s, crd (RdS 80 rd80) v1_0.v a_l] (fun _ : Unit => (.bool R)) (fun _ => []) := by
  refine Spec_enter (n := 43) Tryz.func97 rfl rfl (rs := [.tmp 4]) rfl rfl rfl ?_
  intro H0 F0
  unfold s_AreFacts at hF
  refine K_region (C_val (V_assign (v := (.bool false)) (.bool _)) ?_)
  refine C_nil (K_in (K_region (C_val (V_assign (v := (.int .i64 0)) (.int _ _)) ?_)))
  refine C_nil (CW_block (CW_loop (m := a_l.length) (fun m2 f' cs' => ∃ (g : Fr) (k4 : Nat) (rest5 : List Fact), m2 = rest5.length ∧ f' = updL g [(0, v0_0.v), (1, v1_0.v), (5, (.int .i64 (k4 : Int)))] ∧ List.drop k4 a_l = rest5 ∧ Ent cs' [crd (RdS 3 rdInt) v0_0.v a_s, crd (RdS 80 rd80) v1_0.v a_l] ∧ s_AreFacts_L1 a_s a_l rest5 k4 = some R) ⟨_, 0, _, rfl, (EqL.cons rfl (EqL.cons rfl (EqL.cons rfl (EqL.nil)))).eq, rfl, (.sel (.rd .h rfl (.rd (.t .h) rfl .nil))), hF⟩ ?_))
  clear hF
  rintro m2 _ _ ⟨g3, k4, rest5, rfl, rfl, hd7, hE, hF⟩
  refine K_ent hE ?_
  clear hE
  refine K_pure (c := crd (RdS 80 rd80) v1_0.v a_l) (.t .h) crd_bound (fun hbd12 => ?_)
  rcases rest5 with _ | ⟨x6, rest5⟩
  · have hk8 := List.drop_eq_nil_iff.1 hd7
    have hfe11 : (decide (((k4 : Int) : Int) < (a_l.length : Int))) = false := decide_eq_false (by omega)
    rw [s_AreFacts_L1] at hF
    refine K_in (K_region (Cm (.int .i64 (k4 : Int)) rfl rfl ?_))
    refine Cm v1_0.v rfl rfl ?_
    refine C_at (.t .h) (fun hp => V_lenR (l := a_l.length) sl39 (.tmp rfl rfl) (crd_len hp)) ?_
    refine C_val (V_lss (i := (k4 : Int)) (j := (a_l.length : Int)) (.tmp rfl rfl) (.tmp rfl rfl)) ?_
    refine C_nil (CW_cond (b := (decide (((k4 : Int) : Int) < (a_l.length : Int)))) (.tmp rfl rfl) (fun hb => absurd (hfe11.symm.trans hb) (by decide)) (fun _ => ?_))
    refine CW_exit ?_
    iterate 2 refine CThen_exit ?_
    refine CIn_self ?_
    obtain ⟨o13, hio13, hO14⟩ := bind_some hF
    refine K_region (C_cut (fun f' cs' => ∃ (c19 : Bool) (g : Fr), c19 = o13 ∧ f' = updL g [(4, (.bool c19))] ∧ Ent cs' []) ?_ ?_)
    · replace hF := hio13
      refine Cm v0_0.v rfl rfl ?_
      obtain ⟨r15, hx16, hF⟩ := bind_some hF
      refine C_x0 (.rd .h rfl .nil) (X_callS cf53 (.cons (.tmp rfl rfl) .nil) (s_IsSchema_ok a_s v0_0 _ hx16)) (fun _ => ?_)
      refine Cm (.bool r15) rfl rfl ?_
      rcases Bool.eq_false_or_eq_true r15 with hg18 | hg18
      · rw [hg18]
        try rw [hg18] at hF; dsimp only [cond_true, cond_false] at hF
        refine C_on (t := 38) rfl rfl rfl ?_
        refine Cm v1_0.v rfl rfl ?_
        refine C_on (t := 38) rfl rfl rfl ?_
        refine C_at (.t .h) (fun hp => V_lenR (l := a_l.length) sl39 (.tmp rfl rfl) (crd_len hp)) ?_
        refine C_on (t := 38) rfl rfl rfl ?_
        refine C_val (V_leq (i := (a_l.length : Int)) (j := 24) (.tmp rfl rfl) (.int _ _)) ?_
        refine C_val (V_pick (b := true) (u := (.bool (decide (((a_l.length : Int) : Int) ≤ 24)))) (v := (.bool false)) (.tmp rfl rfl) (.tmp rfl rfl) (.bool _)) ?_
        refine Ca (.bool (decide (((a_l.length : Int) : Int) ≤ 24))) rfl rfl ?_
        refine C_nil ?_
        obtain rfl := Option.some.inj hF
        exact ⟨_, _, rfl, (EqL.cons rfl (EqL.nil)).eq, (.sel .nil)⟩
      rw [hg18]
      try rw [hg18] at hF; dsimp only [cond_true, cond_false] at hF
      iterate 3 refine C_off (t := 38) rfl rfl rfl ?_
      refine C_val (V_pick (b := false) (u := undef) (v := (.bool false)) (.tmp rfl rfl) (.tmp rfl rfl) (.bool _)) ?_
      refine Ca (.bool false) rfl rfl ?_
      refine C_nil ?_
      obtain rfl := Option.some.inj hF
      exact ⟨_, _, rfl, (EqL.cons rfl (EqL.nil)).eq, (.sel .nil)⟩
    rintro _ _ ⟨c19, g20, rfl, rfl, hE⟩
    replace hF := hO14
    clear hO14
    try dsimp only at hF
    refine K_ent hE ?_
    refine CW_ret ?_
    obtain rfl := Option.some.inj hF
    exact End_ret () (.tmp rfl rfl .nil) rfl (.sel .nil)
  obtain ⟨hk8, hx9, hd10⟩ := drop_cons hd7
  have hfe11 : (decide (((k4 : Int) : Int) < (a_l.length : Int))) = true := decide_eq_true (by omega)
  rw [s_AreFacts_L1] at hF
  refine K_in (K_region (Cm (.int .i64 (k4 : Int)) rfl rfl ?_))
  refine Cm v1_0.v rfl rfl ?_
  refine C_at (.t .h) (fun hp => V_lenR (l := a_l.length) sl39 (.tmp rfl rfl) (crd_len hp)) ?_
  refine C_val (V_lss (i := (k4 : Int)) (j := (a_l.length : Int)) (.tmp rfl rfl) (.tmp rfl rfl)) ?_
  refine C_nil (CW_cond (b := (decide (((k4 : Int) : Int) < (a_l.length : Int)))) (.tmp rfl rfl) (fun _ => ?_) (fun hb => absurd (hfe11.symm.trans hb) (by decide)))
  refine CW_skip (K_block ?_)
  obtain ⟨o21, hio21, hO22⟩ := bind_some hF
  refine K_draw [0, 1, 2, 3, 4, 5, 6, 7, 8, 9, 10, 11, 12, 13, 14, 15, 16, 17, 18, 19, 20, 21, 22, 23] [0, 0, 0, 6, 14, 31, 63, 127, 255, 511, 1023, 2047, 2047, 6143, 16383, 32767, 2047, 2047, 198655, 460799, 1048575, 2097151, 4194303, 8388607] [5, 20] mixed (by decide +kernel) ?_
  refine D_cut (fun f' cs' => ∃ (c44 : Bool) (g : Fr), c44 = o21 ∧ f' = updL g [(0, v0_0.v), (1, v1_0.v), (5, (.int .i64 (k4 : Int))), (35, (.bool c44))] ∧ Ent cs' [crd (RdS 3 rdInt) v0_0.v a_s, crd (RdS 80 rd80) v1_0.v a_l]) ?_ ?_
  · replace hF := hio21
    refine Dm v0_0.v rfl rfl rfl rfl ?_
    refine Dm v1_0.v rfl rfl rfl rfl ?_
    refine Dm (.int .i64 (k4 : Int)) rfl rfl rfl rfl ?_
    refine D_idx (a := x6) sl39 ty80.sz rfl .no (.tmp rfl rfl) (.tmp rfl rfl) rfl rfl (.t .h) (Int.natCast_nonneg k4) hx9 (fun k23 j24 => ?_)
    refine D_ldA1 (ul80_0_80 x6) ag80 ty80.sz rfl rfl .no (.tmp rfl rfl) rfl .h la80_0_80 (fun p25 => ?_)
    obtain ⟨r26, hx27, hF⟩ := bind_some hF
    refine D_act0 rfl rfl .no (.rd (.t (.t .h)) rfl (.rd .h rfl .nil)) .nil (fun ha => X_callS cf125 (.cons (EN ha (.tmp rfl rfl) rfl) (.cons (EN ha (.tmp rfl rfl) rfl) .nil)) (s_IsFact_ok a_s v0_0 x6 p25 _ hx27)) (fun _ => ?_)
    refine D_val rfl .no (fun ha => V_not (b := r26) (EN ha (.tmp rfl rfl) rfl)) ?_
    refine Dm (.bool (!r26)) rfl rfl rfl rfl ?_
    rcases Bool.eq_false_or_eq_true (!r26) with hg29 | hg29
    · rw [hg29]
      try rw [hg29] at hF; dsimp only [cond_true, cond_false] at hF
      iterate 3 refine D_off 19 rfl rfl rfl rfl ?_
      iterate 11 refine D_offU 22 rfl rfl rfl rfl ?_
      refine D_off 19 rfl rfl rfl rfl ?_
      refine D_val rfl .no (fun ha => V_pick (b := true) (u := (.bool true)) (v := undef) (EN ha (.tmp rfl rfl) rfl) (EN ha (.bool _) rfl) (EN ha (.tmp rfl rfl) rfl)) ?_
      refine D_nil ?_
      obtain rfl := Option.some.inj hF
      exact ⟨_, _, rfl, (EqL.cons rfl (EqL.cons rfl (EqL.cons rfl (EqL.cons rfl (EqL.nil))))).eq, (.sel (.rd (.t (.t .h)) rfl (.rd (.t (.t (.t .h))) rfl .nil)))⟩
    rw [hg29]
    try rw [hg29] at hF; dsimp only [cond_true, cond_false] at hF
    refine D_val rfl (.on 19 rfl rfl rfl) (fun ha => V_move (v := (.int .i64 (k4 : Int))) (EN ha (.tmp rfl rfl) rfl)) ?_
    refine D_val rfl (.on 19 rfl rfl rfl) (fun ha => V_gtr (i := (k4 : Int)) (j := 0) (EN ha (.tmp rfl rfl) rfl) (EN ha (.int _ _) rfl)) ?_
    refine D_val rfl (.on 19 rfl rfl rfl) (fun ha => V_move (v := (.bool (decide ((0 : Int) < (k4 : Int))))) (EN ha (.tmp rfl rfl) rfl)) ?_
    rcases Bool.eq_false_or_eq_true (decide ((0 : Int) < (k4 : Int))) with hg30 | hg30
    · rw [hg30]
      try rw [hg30] at hF; dsimp only [cond_true, cond_false] at hF
      refine D_val rfl (.on 22 rfl rfl rfl) (fun ha => V_move (v := v1_0.v) (EN ha (.tmp rfl rfl) rfl)) ?_
      refine D_val rfl (.on 22 rfl rfl rfl) (fun ha => V_move (v := (.int .i64 (k4 : Int))) (EN ha (.tmp rfl rfl) rfl)) ?_
      refine D_val rfl (.on 22 rfl rfl rfl) (fun ha => V_sub (i := (k4 : Int)) (j := 1) (EN ha (.tmp rfl rfl) rfl) (EN ha (.int _ _) rfl)) ?_
      obtain ⟨x31, hx32, hF⟩ := bind_some hF
      obtain ⟨hp33, hx34⟩ := ix_some hx32
      refine D_idx (a := x31) sl39 ty80.sz rfl (.on 22 rfl rfl rfl) (.tmp rfl rfl) (.tmp rfl rfl) rfl rfl (.t (.t (.t .h))) hp33 hx34 (fun k35 j36 => ?_)
      refine D_ldA1 (ul80_0_80 x31) ag80 ty80.sz rfl rfl (.on 22 rfl rfl rfl) (.tmp rfl rfl) rfl .h la80_0_80 (fun p37 => ?_)
      refine D_val rfl (.on 22 rfl rfl rfl) (fun ha => V_move (v := v1_0.v) (EN ha (.tmp rfl rfl) rfl)) ?_
      refine D_val rfl (.on 22 rfl rfl rfl) (fun ha => V_move (v := (.int .i64 (k4 : Int))) (EN ha (.tmp rfl rfl) rfl)) ?_
      refine D_idx (a := x6) sl39 ty80.sz rfl (.on 22 rfl rfl rfl) (.tmp rfl rfl) (.tmp rfl rfl) rfl rfl (.t (.t (.t (.t (.t .h))))) (Int.natCast_nonneg k4) hx9 (fun k38 j39 => ?_)
      refine D_ldA1 (ul80_0_80 x6) ag80 ty80.sz rfl rfl (.on 22 rfl rfl rfl) (.tmp rfl rfl) rfl .h la80_0_80 (fun p40 => ?_)
      obtain ⟨r41, hx42, hF⟩ := bind_some hF
      refine D_act0 rfl rfl (.on 22 rfl rfl rfl) (.rd (.t (.t .h)) rfl (.rd .h rfl .nil)) .nil (fun ha => X_callS cf126 (.cons (EN ha (.tmp rfl rfl) rfl) (.cons (EN ha (.tmp rfl rfl) rfl) .nil)) (s_CompareFacts_ok x31 p37 x6 p40 _ hx42)) (fun _ => ?_)
      refine D_val rfl (.on 22 rfl rfl rfl) (fun ha => V_geq (i := r41) (j := 0) (EN ha (.tmp rfl rfl) rfl) (EN ha (.int _ _) rfl)) ?_
      refine D_val rfl (.on 19 rfl rfl rfl) (fun ha => V_pick (b := true) (u := (.bool (decide ((0 : Int) ≤ r41)))) (v := (.bool false)) (EN ha (.tmp rfl rfl) rfl) (EN ha (.tmp rfl rfl) rfl) (EN ha (.bool _) rfl)) ?_
      refine D_val rfl .no (fun ha => V_pick (b := false) (u := (.bool true)) (v := (.bool (decide ((0 : Int) ≤ r41)))) (EN ha (.tmp rfl rfl) rfl) (EN ha (.bool _) rfl) (EN ha (.tmp rfl rfl) rfl)) ?_
      refine D_nil ?_
      obtain rfl := Option.some.inj hF
      exact ⟨_, _, rfl, (EqL.cons rfl (EqL.cons rfl (EqL.cons rfl (EqL.cons rfl (EqL.nil))))).eq, (.sel (.rd (.t (.t (.t (.t (.t (.t .h)))))) rfl (.rd (.t (.t (.t (.t (.t (.t (.t .h))))))) rfl .nil)))⟩
    rw [hg30]
    try rw [hg30] at hF; dsimp only [cond_true, cond_false] at hF
    iterate 11 refine D_off 22 rfl rfl rfl rfl ?_
    refine D_val rfl (.on 19 rfl rfl rfl) (fun ha => V_pick (b := false) (u := undef) (v := (.bool false)) (EN ha (.tmp rfl rfl) rfl) (EN ha (.tmp rfl rfl) rfl) (EN ha (.bool _) rfl)) ?_
    refine D_val rfl .no (fun ha => V_pick (b := false) (u := (.bool true)) (v := (.bool false)) (EN ha (.tmp rfl rfl) rfl) (EN ha (.bool _) rfl) (EN ha (.tmp rfl rfl) rfl)) ?_
    refine D_nil ?_
    obtain rfl := Option.some.inj hF
    exact ⟨_, _, rfl, (EqL.cons rfl (EqL.cons rfl (EqL.cons rfl (EqL.cons rfl (EqL.nil))))).eq, (.sel (.rd (.t (.t .h)) rfl (.rd (.t (.t (.t .h))) rfl .nil)))⟩
  rintro _ _ ⟨c44, g47, rfl, rfl, hE⟩
  replace hF := hO22
  clear hO22
  try dsimp only at hF
  refine K_ent hE ?_
  refine CW_cond (b := c44) (.tmp rfl rfl) (fun hb46 => ?_) (fun hb46 => ?_)
  · rw [if_pos hb46] at hF
    refine K_region (C_val (V_assign (v := (.bool false)) (.bool _)) ?_)
    refine C_nil (CW_ret ?_)
    obtain rfl := Option.some.inj hF
    exact End_ret () (.tmp rfl rfl .nil) rfl (.sel .nil)
  rw [if_neg (by rw [hb46]; exact Bool.false_ne_true)] at hF
  refine CW_skip (CW_region (Cm (.int .i64 (k4 : Int)) rfl rfl ?_))
  refine C_val (V_add (i := (k4 : Int)) (j := 1) (.tmp rfl rfl) (.int _ _)) ?_
  refine Ca (.int .i64 (IntKind.i64.wrap ((k4 : Int) + 1))) rfl rfl ?_
  refine C_nil ?_
  have hw45 : IntKind.i64.wrap ((k4 : Int) + 1) = ((k4 + 1 : Nat) : Int) := by rw [wrap_in (by omega) (by omega)]; rfl
  rw [hw45]
  exact ⟨_, Nat.lt_succ_self _, _, k4 + 1, rest5, rfl, (EqL.cons rfl (EqL.cons rfl (EqL.cons rfl (EqL.nil)))).eq, hd10, (.sel (.rd .h rfl (.rd (.t .h) rfl .nil))), hF⟩

/-! spec.IsSource -/
def s_IsSource (a_s : List Int) (a_x : Source) : Option (Bool) :=
  ((s_AreFacts a_s a_x.Facts).bind fun r4 =>
    bif r4 then ((s_l1In a_x.Version 0 1000).bind fun r8 =>
      some r8)
    else (some false)).bind fun o2 =>
  match o2 with
  | c11 => some c11
theorem s_IsSource_ok (a_s : List Int) (v0_0 : Sv) (a_x : Source) (v1_0 : Sv) (R : Bool) (hF : s_IsSource a_s a_x = some R) :
    Fw.Spec Tryz.prog 56 [v0_0.v, (.agg [v1_0.v, (.int .i64 a_x.Version)].toArray)] [crd (RdS 3 rdInt) v0_0.v a_s, crd (RdS 80 rd80) v1_0.v a_x.Facts] (fun _ : Unit => (.bool R)) (fun _ => []) := by
  refine Spec_enter (n := 14) Tryz.func56 rfl rfl (rs := [.tmp 4]) rfl rfl rfl ?_
  intro H0 F0
  unfold s_IsSource at hF
  refine K_region (C_newR rfl (N_box (g := false) (v := (.agg [v1_0.v, (.int .i64 a_x.Version)].toArray)) ty41.sz (.tmp rfl rfl) rfl) (fun k1 => ?_))
  refine C_val (V_assign (v := (.bool false)) (.bool _)) ?_
  refine C_nil ?_
  obtain ⟨o2, hio2, hO3⟩ := bind_some hF
  refine K_region (C_cut (fun f' cs' => ∃ (c11 : Bool) (g : Fr), c11 = o2 ∧ f' = updL g [(4, (.bool c11))] ∧ Ent cs' []) ?_ ?_)
  · replace hF := hio2
    refine Cm v0_0.v rfl rfl ?_
    refine C_val (V_fieldAddr (off := 0) fd41_0 (.tmp rfl rfl)) ?_
    refine C_at .h (fun hp => V_load (v := v1_0.v) ag39 (.tmp rfl rfl) hp.2 rfl rfl) ?_
    obtain ⟨r4, hx5, hF⟩ := bind_some hF
    refine C_x0 (.rd (.t .h) rfl (.rd (.t (.t .h)) rfl .nil)) (X_callS cf97 (.cons (.tmp rfl rfl) (.cons (.tmp rfl rfl) .nil)) (s_AreFacts_ok a_s v0_0 a_x.Facts v1_0 _ hx5)) (fun _ => ?_)
    refine Cm (.bool r4) rfl rfl ?_
    rcases Bool.eq_false_or_eq_true r4 with hg7 | hg7
    · rw [hg7]
      try rw [hg7] at hF; dsimp only [cond_true, cond_false] at hF
      refine C_on (t := 9) rfl rfl rfl ?_
      refine C_val (V_fieldAddr (off := 1) fd41_1 (.tmp rfl rfl)) ?_
      refine C_on (t := 9) rfl rfl rfl ?_
      refine C_at .h (fun hp => V_load (v := (.int .i64 a_x.Version)) ag3 (.tmp rfl rfl) hp.2 rfl rfl) ?_
      refine C_on (t := 9) rfl rfl rfl ?_
      obtain ⟨r8, hx9, hF⟩ := bind_some hF
      refine C_x0 .nil (X_callS cf59 (.cons (.tmp rfl rfl) (.cons (.int _ _) (.cons (.int _ _) .nil))) (s_l1In_ok a_x.Version 0 1000 _ hx9)) (fun _ => ?_)
      refine C_val (V_pick (b := true) (u := (.bool r8)) (v := (.bool false)) (.tmp rfl rfl) (.tmp rfl rfl) (.bool _)) ?_
      refine Ca (.bool r8) rfl rfl ?_
      refine C_nil ?_
      obtain rfl := Option.some.inj hF
      exact ⟨_, _, rfl, (EqL.cons rfl (EqL.nil)).eq, (.sel .nil)⟩
    rw [hg7]
    try rw [hg7] at hF; dsimp only [cond_true, cond_false] at hF
    iterate 3 refine C_off (t := 9) rfl rfl rfl ?_
    refine C_val (V_pick (b := false) (u := undef) (v := (.bool false)) (.tmp rfl rfl) (.tmp rfl rfl) (.bool _)) ?_
    refine Ca (.bool false) rfl rfl ?_
    refine C_nil ?_
    obtain rfl := Option.some.inj hF
    exact ⟨_, _, rfl, (EqL.cons rfl (EqL.nil)).eq, (.sel .nil)⟩
  rintro _ _ ⟨c11, g12, rfl, rfl, hE⟩
  replace hF := hO3
  clear hO3
  try dsimp only at hF
  refine K_ent hE ?_
  refine CW_ret ?_
  obtain rfl := Option.some.inj hF
  exact End_ret () (.tmp rfl rfl .nil) rfl (.sel .nil)

/-! spec.IsAccess -/
def s_IsAccess_L1 : List Int → Nat → Option (Bool)
  | [], k23 => some true
  | x25 :: rest24, k23 => (s_l1In x25 0 9).bind fun r34 =>
    if (!r34) then (
      some false)
    else (
      s_IsAccess_L1 rest24 (k23 + 1))
def s_IsAccess (a_s : List Int) (a_l : List Method) (a_a : Access) : Option (Bool) :=
  ((s_AreMethods a_s a_l).bind fun r4 =>
    bif (!r4) then (some true)
    else ((s_l1In a_a.Method 0 (IntKind.i64.wrap ((a_l.length : Int) - 1))).bind fun r8 =>
      bif (!r8) then (some true)
      else ((ix a_l a_a.Method).bind fun x12 =>
        some (((a_a.Values.length : Int) : Int) != (x12.Inputs.length : Int))))).bind fun o2 =>
  match o2 with
  | c19 => if c19 then (
      some false)
    else (
      s_IsAccess_L1 a_a.Values 0)
theorem s_IsAccess_ok (a_s : List Int) (v0_0 : Sv) (a_l : List Method) (v1_0 : Sv) (a_a : Access) (v2_1 : Sv) (R : Bool) (hF : s_IsAccess a_s a_l a_a = some R) :
    Fw.Spec Tryz.prog 58 [v0_0.v, v1_0.v, (.agg [(.int .i64 a_a.Method), v2_1.v].toArray)] [crd (RdS 3 rdInt) v0_0.v a_s, crd (RdS 108 rd108) v1_0.v a_l, crd (RdS 3 rdInt) v2_1.v a_a.Values] (fun _ : Unit => (.bool R)) (fun _ => []) := by
  refine Spec_enter (n := 48) Tryz.func58 rfl rfl (rs := [.tmp 6]) rfl rfl rfl ?_
  intro H0 F0
  unfold s_IsAccess at hF
  refine K_region (C_newR rfl (N_box (g := false) (v := (.agg [(.int .i64 a_a.Method), v2_1.v].toArray)) ty105.sz (.tmp rfl rfl) rfl) (fun k1 => ?_))
  refine C_val (V_assign (v := (.bool false)) (.bool _)) ?_
  refine C_nil (K_in ?_)
  obtain ⟨o2, hio2, hO3⟩ := bind_some hF
  refine K_draw [0, 1, 2, 3, 4, 5, 6, 7, 8, 9, 10, 11, 12, 13, 14, 15, 16, 17, 18, 19, 20, 21, 22, 23, 24, 25] [0, 0, 3, 7, 15, 31, 63, 31, 159, 415, 1023, 2047, 4095, 8191, 16383, 32767, 65535, 16383, 16383, 278527, 933887, 1982463, 4079615, 8273919, 16777215, 33554431] [2, 10] mixed (by decide +kernel) ?_
  refine D_cut (fun f' cs' => ∃ (c19 : Bool) (g : Fr), c19 = o2 ∧ f' = updL g [(5, (.pointer (some ⟨k1, 0, some 0⟩))), (33, (.bool c19))] ∧ Ent cs' [cboR k1 105 (.agg [(.int .i64 a_a.Method), v2_1.v].toArray), crd (RdS 3 rdInt) v2_1.v a_a.Values]) ?_ ?_
  · replace hF := hio2
    refine Dm v0_0.v rfl rfl rfl rfl ?_
    refine Dm v1_0.v rfl rfl rfl rfl ?_
    obtain ⟨r4, hx5, hF⟩ := bind_some hF
    refine D_act0 rfl rfl .no (.rd (.t .h) rfl (.rd (.t (.t .h)) rfl .nil)) .nil (fun ha => X_callS cf54 (.cons (EN ha (.tmp rfl rfl) rfl) (.cons (EN ha (.tmp rfl rfl) rfl) .nil)) (s_AreMethods_ok a_s v0_0 a_l v1_0 _ hx5)) (fun _ => ?_)
    refine D_val rfl .no (fun ha => V_not (b := r4) (EN ha (.tmp rfl rfl) rfl)) ?_
    refine Dm (.bool (!r4)) rfl rfl rfl rfl ?_
    rcases Bool.eq_false_or_eq_true (!r4) with hg7 | hg7
    · rw [hg7]
      try rw [hg7] at hF; dsimp only [cond_true, cond_false] at hF
      iterate 7 refine D_off 12 rfl rfl rfl rfl ?_
      refine D_val rfl .no (fun ha => V_pick (b := true) (u := (.bool true)) (v := undef) (EN ha (.tmp rfl rfl) rfl) (EN ha (.bool _) rfl) (EN ha (.tmp rfl rfl) rfl)) ?_
      refine Dm (.bool true) rfl rfl rfl rfl ?_
      iterate 11 refine D_off 21 rfl rfl rfl rfl ?_
      refine D_val rfl .no (fun ha => V_pick (b := true) (u := (.bool true)) (v := undef) (EN ha (.tmp rfl rfl) rfl) (EN ha (.bool _) rfl) (EN ha (.tmp rfl rfl) rfl)) ?_
      refine D_nil ?_
      obtain rfl := Option.some.inj hF
      exact ⟨_, _, rfl, (EqL.cons rfl (EqL.cons rfl (EqL.nil))).eq, (.sel (.rd .h rfl (.rd (.t (.t (.t .h))) rfl .nil)))⟩
    rw [hg7]
    try rw [hg7] at hF; dsimp only [cond_true, cond_false] at hF
    refine D_val rfl (.on 12 rfl rfl rfl) (fun ha => V_fieldAddr (off := 0) fd105_0 (EN ha (.tmp rfl rfl) rfl)) ?_
    refine D_at rfl (.on 12 rfl rfl rfl) .h rfl (fun ha hp => V_load (v := (.int .i64 a_a.Method)) ag3 (EN ha (.tmp rfl rfl) rfl) hp.2 rfl rfl) ?_
    refine D_val rfl (.on 12 rfl rfl rfl) (fun ha => V_move (v := v1_0.v) (EN ha (.tmp rfl rfl) rfl)) ?_
    refine D_at rfl (.on 12 rfl rfl rfl) (.t (.t .h)) rfl (fun ha hp => V_lenR (l := a_l.length) sl37 (EN ha (.tmp rfl rfl) rfl) (crd_len hp)) ?_
    refine D_val rfl (.on 12 rfl rfl rfl) (fun ha => V_sub (i := (a_l.length : Int)) (j := 1) (EN ha (.tmp rfl rfl) rfl) (EN ha (.int _ _) rfl)) ?_
    obtain ⟨r8, hx9, hF⟩ := bind_some hF
    refine D_act0 rfl rfl (.on 12 rfl rfl rfl) .nil .nil (fun ha => X_callS cf59 (.cons (EN ha (.tmp rfl rfl) rfl) (.cons (EN ha (.int _ _) rfl) (.cons (EN ha (.tmp rfl rfl) rfl) .nil))) (s_l1In_ok a_a.Method 0 (IntKind.i64.wrap ((a_l.length : Int) - 1)) _ hx9)) (fun _ => ?_)
    refine D_val rfl (.on 12 rfl rfl rfl) (fun ha => V_not (b := r8) (EN ha (.tmp rfl rfl) rfl)) ?_
    refine D_val rfl .no (fun ha => V_pick (b := false) (u := (.bool true)) (v := (.bool (!r8))) (EN ha (.tmp rfl rfl) rfl) (EN ha (.bool _) rfl) (EN ha (.tmp rfl rfl) rfl)) ?_
    refine Dm (.bool (!r8)) rfl rfl rfl rfl ?_
    rcases Bool.eq_false_or_eq_true (!r8) with hg11 | hg11
    · rw [hg11]
      try rw [hg11] at hF; dsimp only [cond_true, cond_false] at hF
      iterate 11 refine D_off 21 rfl rfl rfl rfl ?_
      refine D_val rfl .no (fun ha => V_pick (b := true) (u := (.bool true)) (v := undef) (EN ha (.tmp rfl rfl) rfl) (EN ha (.bool _) rfl) (EN ha (.tmp rfl rfl) rfl)) ?_
      refine D_nil ?_
      obtain rfl := Option.some.inj hF
      exact ⟨_, _, rfl, (EqL.cons rfl (EqL.cons rfl (EqL.nil))).eq, (.sel (.rd .h rfl (.rd (.t (.t (.t .h))) rfl .nil)))⟩
    rw [hg11]
    try rw [hg11] at hF; dsimp only [cond_true, cond_false] at hF
    refine D_val rfl (.on 21 rfl rfl rfl) (fun ha => V_fieldAddr (off := 1) fd105_1 (EN ha (.tmp rfl rfl) rfl)) ?_
    refine D_at rfl (.on 21 rfl rfl rfl) .h rfl (fun ha hp => V_load (v := v2_1.v) ag22 (EN ha (.tmp rfl rfl) rfl) hp.2 rfl rfl) ?_
    refine D_at rfl (.on 21 rfl rfl rfl) (.t (.t (.t .h))) rfl (fun ha hp => V_lenR (l := a_a.Values.length) sl22 (EN ha (.tmp rfl rfl) rfl) (crd_len hp)) ?_
    refine D_val rfl (.on 21 rfl rfl rfl) (fun ha => V_move (v := v1_0.v) (EN ha (.tmp rfl rfl) rfl)) ?_
    refine D_val rfl (.on 21 rfl rfl rfl) (fun ha => V_fieldAddr (off := 0) fd105_0 (EN ha (.tmp rfl rfl) rfl)) ?_
    refine D_at rfl (.on 21 rfl rfl rfl) .h rfl (fun ha hp => V_load (v := (.int .i64 a_a.Method)) ag3 (EN ha (.tmp rfl rfl) rfl) hp.2 rfl rfl) ?_
    obtain ⟨x12, hx13, hF⟩ := bind_some hF
    obtain ⟨hp14, hx15⟩ := ix_some hx13
    refine D_idx (a := x12) sl37 ty108.sz rfl (.on 21 rfl rfl rfl) (.tmp rfl rfl) (.tmp rfl rfl) rfl rfl (.t (.t .h)) hp14 hx15 (fun k16 j17 => ?_)
    refine D_val rfl (.on 21 rfl rfl rfl) (fun ha => V_fieldAddr (off := 1) fd108_1 (EN ha (.tmp rfl rfl) rfl)) ?_
    refine D_ldV (R' := (RdS 3 rdInt)) ag22 rfl (.on 21 rfl rfl rfl) (.tmp rfl rfl) rfl .h lv108_1 (fun w18 => ?_)
    refine D_at rfl (.on 21 rfl rfl rfl) .h rfl (fun ha hp => V_lenR (l := x12.Inputs.length) sl22 (EN ha (.tmp rfl rfl) rfl) (crd_len hp)) ?_
    refine D_val rfl (.on 21 rfl rfl rfl) (fun ha => V_neq (i := (a_a.Values.length : Int)) (j := (x12.Inputs.length : Int)) (EN ha (.tmp rfl rfl) rfl) (EN ha (.tmp rfl rfl) rfl)) ?_
    refine D_val rfl .no (fun ha => V_pick (b := false) (u := (.bool true)) (v := (.bool (((a_a.Values.length : Int) : Int) != (x12.Inputs.length : Int)))) (EN ha (.tmp rfl rfl) rfl) (EN ha (.bool _) rfl) (EN ha (.tmp rfl rfl) rfl)) ?_
    refine D_nil ?_
    obtain rfl := Option.some.inj hF
    exact ⟨_, _, rfl, (EqL.cons rfl (EqL.cons rfl (EqL.nil))).eq, (.sel (.rd (.t (.t .h)) rfl (.rd (.t (.t (.t (.t (.t .h))))) rfl .nil)))⟩
  rintro _ _ ⟨c19, g40, rfl, rfl, hE⟩
  replace hF := hO3
  clear hO3
  try dsimp only at hF
  refine K_ent hE ?_
  refine CW_cond (b := c19) (.tmp rfl rfl) (fun hb39 => ?_) (fun hb39 => ?_)
  · rw [if_pos hb39] at hF
    refine K_region (C_val (V_assign (v := (.bool false)) (.bool _)) ?_)
    refine C_nil (CW_ret ?_)
    obtain rfl := Option.some.inj hF
    exact End_ret () (.tmp rfl rfl .nil) rfl (.sel .nil)
  rw [if_neg (by rw [hb39]; exact Bool.false_ne_true)] at hF
  refine CW_skip (K_in (K_region (C_val (V_assign (v := (.int .i64 0)) (.int _ _)) ?_)))
  refine C_nil (CW_block (CW_loop (m := a_a.Values.length) (fun m21 f' cs' => ∃ (g : Fr) (k23 : Nat) (rest24 : List Int), m21 = rest24.length ∧ f' = updL g [(5, (.pointer (some ⟨k1, 0, some 0⟩))), (7, (.int .i64 (k23 : Int)))] ∧ List.drop k23 a_a.Values = rest24 ∧ Ent cs' [cboR k1 105 (.agg [(.int .i64 a_a.Method), v2_1.v].toArray), crd (RdS 3 rdInt) v2_1.v a_a.Values] ∧ s_IsAccess_L1 rest24 k23 = some R) ⟨_, 0, _, rfl, (EqL.cons rfl (EqL.cons rfl (EqL.nil))).eq, rfl, (.sel (.rd .h rfl (.rd (.t .h) rfl .nil))), hF⟩ ?_))
  clear hF
  rintro m21 _ _ ⟨g22, k23, rest24, rfl, rfl, hd26, hE, hF⟩
  refine K_ent hE ?_
  clear hE
  refine K_pure (c := crd (RdS 3 rdInt) v2_1.v a_a.Values) (.t .h) crd_bound (fun hbd31 => ?_)
  rcases rest24 with _ | ⟨x25, rest24⟩
  · have hk27 := List.drop_eq_nil_iff.1 hd26
    have hfe30 : (decide (((k23 : Int) : Int) < (a_a.Values.length : Int))) = false := decide_eq_false (by omega)
    rw [s_IsAccess_L1] at hF
    refine K_in (K_region (Cm (.int .i64 (k23 : Int)) rfl rfl ?_))
    refine C_val (V_fieldAddr (off := 1) fd105_1 (.tmp rfl rfl)) ?_
    refine C_at .h (fun hp => V_load (v := v2_1.v) ag22 (.tmp rfl rfl) hp.2 rfl rfl) ?_
    refine C_at (.t .h) (fun hp => V_lenR (l := a_a.Values.length) sl22 (.tmp rfl rfl) (crd_len hp)) ?_
    refine C_val (V_lss (i := (k23 : Int)) (j := (a_a.Values.length : Int)) (.tmp rfl rfl) (.tmp rfl rfl)) ?_
    refine C_nil (CW_cond (b := (decide (((k23 : Int) : Int) < (a_a.Values.length : Int)))) (.tmp rfl rfl) (fun hb => absurd (hfe30.symm.trans hb) (by decide)) (fun _ => ?_))
    refine CW_exit ?_
    iterate 2 refine CThen_exit ?_
    refine CIn_self (K_region (C_val (V_assign (v := (.bool true)) (.bool _)) ?_))
    refine C_nil (CW_ret ?_)
    obtain rfl := Option.some.inj hF
    exact End_ret () (.tmp rfl rfl .nil) rfl (.sel .nil)
  obtain ⟨hk27, hx28, hd29⟩ := drop_cons hd26
  have hfe30 : (decide (((k23 : Int) : Int) < (a_a.Values.length : Int))) = true := decide_eq_true (by omega)
  rw [s_IsAccess_L1] at hF
  refine K_in (K_region (Cm (.int .i64 (k23 : Int)) rfl rfl ?_))
  refine C_val (V_fieldAddr (off := 1) fd105_1 (.tmp rfl rfl)) ?_
  refine C_at .h (fun hp => V_load (v := v2_1.v) ag22 (.tmp rfl rfl) hp.2 rfl rfl) ?_
  refine C_at (.t .h) (fun hp => V_lenR (l := a_a.Values.length) sl22 (.tmp rfl rfl) (crd_len hp)) ?_
  refine C_val (V_lss (i := (k23 : Int)) (j := (a_a.Values.length : Int)) (.tmp rfl rfl) (.tmp rfl rfl)) ?_
  refine C_nil (CW_cond (b := (decide (((k23 : Int) : Int) < (a_a.Values.length : Int)))) (.tmp rfl rfl) (fun _ => ?_) (fun hb => absurd (hfe30.symm.trans hb) (by decide)))
  refine CW_skip (K_block (K_region (C_val (V_fieldAddr (off := 1) fd105_1 (.tmp rfl rfl)) ?_)))
  refine C_at .h (fun hp => V_load (v := v2_1.v) ag22 (.tmp rfl rfl) hp.2 rfl rfl) ?_
  refine Cm (.int .i64 (k23 : Int)) rfl rfl ?_
  refine C_idx (a := x25) sl22 ty3.sz (.tmp rfl rfl) (.tmp rfl rfl) (.t .h) (Int.natCast_nonneg k23) hx28 (fun k32 j33 => ?_)
  refine C_ldS (w := (.int .i64 x25)) ag3 (.tmp rfl rfl) .h ls3_0 ?_
  obtain ⟨r34, hx35, hF⟩ := bind_some hF
  refine C_x0 .nil (X_callS cf59 (.cons (.tmp rfl rfl) (.cons (.int _ _) (.cons (.int _ _) .nil))) (s_l1In_ok x25 0 9 _ hx35)) (fun _ => ?_)
  refine C_val (V_not (b := r34) (.tmp rfl rfl)) ?_
  refine C_nil (CW_cond (b := (!r34)) (.tmp rfl rfl) (fun hb38 => ?_) (fun hb38 => ?_))
  · rw [if_pos hb38] at hF
    refine K_region (C_val (V_assign (v := (.bool false)) (.bool _)) ?_)
    refine C_nil (CW_ret ?_)
    obtain rfl := Option.some.inj hF
    exact End_ret () (.tmp rfl rfl .nil) rfl (.sel .nil)
  rw [if_neg (by rw [hb38]; exact Bool.false_ne_true)] at hF
  refine CW_skip (CW_region (Cm (.int .i64 (k23 : Int)) rfl rfl ?_))
  refine C_val (V_add (i := (k23 : Int)) (j := 1) (.tmp rfl rfl) (.int _ _)) ?_
  refine Ca (.int .i64 (IntKind.i64.wrap ((k23 : Int) + 1))) rfl rfl ?_
  refine C_nil ?_
  have hw37 : IntKind.i64.wrap ((k23 : Int) + 1) = ((k23 + 1 : Nat) : Int) := by rw [wrap_in (by omega) (by omega)]; rfl
  rw [hw37]
  exact ⟨_, Nat.lt_succ_self _, _, k23 + 1, rest24, rfl, (EqL.cons rfl (EqL.cons rfl (EqL.nil))).eq, hd29, (.sel (.rd (.t .h) rfl (.rd (.t (.t .h)) rfl .nil))), hF⟩

/-! spec.l4Less -/
def s_l4Less_L1 (a_a : List Int) (a_b : List Int) : Nat → Int → Option (Bool)
  | 0, _ => none
  | m2 + 1, c1 => if ((decide ((c1 : Int) < (a_a.length : Int))) && (decide ((c1 : Int) < (a_b.length : Int)))) then (
      (ix a_a c1).bind fun x12 =>
      (ix a_b c1).bind fun x18 =>
      if ((x12 : Int) != x18) then (
        (ix a_a c1).bind fun x24 =>
        (ix a_b c1).bind fun x30 =>
        some (decide ((x24 : Int) < x30)))
      else (
        s_l4Less_L1 a_a a_b m2 (IntKind.i64.wrap (c1 + 1))))
    else (
      some (decide (((a_a.length : Int) : Int) < (a_b.length : Int))))
def s_l4Less (a_a : List Int) (a_b : List Int) : Option (Bool) :=
  s_l4Less_L1 a_a a_b (((a_a.length : Int) - 0).toNat + 2) 0
theorem s_l4Less_ok (a_a : List Int) (v0_0 : Sv) (a_b : List Int) (v1_0 : Sv) (R : Bool) (hF : s_l4Less a_a a_b = some R) :
    Fw.Spec Tryz.prog 127 [v0_0.v, v1_0.v] [crd (RdS 3 rdInt) v0_0.v a_a, crd (RdS 3 rdInt) v1_0.v a_b] (fun _ : Unit => (.bool R)) (fun _ => []) := by
  refine Spec_enter (n := 41) Tryz.func127 rfl rfl (rs := [.tmp 4]) rfl rfl rfl ?_
  intro H0 F0
  unfold s_l4Less at hF
  refine K_region (C_val (V_assign (v := (.bool false)) (.bool _)) ?_)
  refine C_nil (K_in (K_region (C_val (V_assign (v := (.int .i64 0)) (.int _ _)) ?_)))
  refine C_nil (CW_block (CW_loop (m := (((a_a.length : Int) - 0).toNat + 2)) (fun m2 f' cs' => ∃ (g : Fr) (c1 : Int), f' = updL g [(0, v0_0.v), (1, v1_0.v), (5, (.int .i64 c1))] ∧ Ent cs' [crd (RdS 3 rdInt) v0_0.v a_a, crd (RdS 3 rdInt) v1_0.v a_b] ∧ s_l4Less_L1 a_a a_b m2 c1 = some R) ⟨_, _, (EqL.cons rfl (EqL.cons rfl (EqL.cons rfl (EqL.nil)))).eq, (.sel (.rd .h rfl (.rd (.t .h) rfl .nil))), hF⟩ ?_))
  clear hF
  rintro m2 _ _ ⟨g3, c1, rfl, hE, hF⟩
  refine K_ent hE ?_
  clear hE
  rcases m2 with _ | m2
  · rw [s_l4Less_L1] at hF
    exact absurd hF (by simp)
  rw [s_l4Less_L1] at hF
  refine K_in (K_region (C_cut (fun f' cs' => ∃ (g : Fr), f' = updL g [(0, v0_0.v), (1, v1_0.v), (5, (.int .i64 c1)), (15, (.bool ((decide ((c1 : Int) < (a_a.length : Int))) && (decide ((c1 : Int) < (a_b.length : Int))))))] ∧ Ent cs' [crd (RdS 3 rdInt) v0_0.v a_a, crd (RdS 3 rdInt) v1_0.v a_b]) ?_ ?_))
  · refine Cm (.int .i64 c1) rfl rfl ?_
    refine Cm v0_0.v rfl rfl ?_
    refine C_at .h (fun hp => V_lenR (l := a_a.length) sl22 (.tmp rfl rfl) (crd_len hp)) ?_
    refine C_val (V_lss (i := c1) (j := (a_a.length : Int)) (.tmp rfl rfl) (.tmp rfl rfl)) ?_
    refine Cm (.bool (decide ((c1 : Int) < (a_a.length : Int)))) rfl rfl ?_
    rcases Bool.eq_false_or_eq_true (decide ((c1 : Int) < (a_a.length : Int))) with hg10 | hg10
    · rw [hg10]
      try rw [hg10] at hF; dsimp only [cond_true, cond_false] at hF
      refine C_on (t := 10) rfl rfl rfl ?_
      refine Cm (.int .i64 c1) rfl rfl ?_
      refine C_on (t := 10) rfl rfl rfl ?_
      refine Cm v1_0.v rfl rfl ?_
      refine C_on (t := 10) rfl rfl rfl ?_
      refine C_at (.t .h) (fun hp => V_lenR (l := a_b.length) sl22 (.tmp rfl rfl) (crd_len hp)) ?_
      refine C_on (t := 10) rfl rfl rfl ?_
      refine C_val (V_lss (i := c1) (j := (a_b.length : Int)) (.tmp rfl rfl) (.tmp rfl rfl)) ?_
      refine C_val (V_pick (b := true) (u := (.bool (decide ((c1 : Int) < (a_b.length : Int))))) (v := (.bool false)) (.tmp rfl rfl) (.tmp rfl rfl) (.bool _)) ?_
      refine C_nil ?_
      exact ⟨_, (EqL.cons rfl (EqL.cons rfl (EqL.cons rfl (EqL.cons rfl (EqL.nil))))).eq, (.sel (.rd .h rfl (.rd (.t .h) rfl .nil)))⟩
    rw [hg10]
    try rw [hg10] at hF; dsimp only [cond_true, cond_false] at hF
    iterate 4 refine C_off (t := 10) rfl rfl rfl ?_
    refine C_val (V_pick (b := false) (u := undef) (v := (.bool false)) (.tmp rfl rfl) (.tmp rfl rfl) (.bool _)) ?_
    refine C_nil ?_
    exact ⟨_, (EqL.cons rfl (EqL.cons rfl (EqL.cons rfl (EqL.cons rfl (EqL.nil))))).eq, (.sel (.rd .h rfl (.rd (.t .h) rfl .nil)))⟩
  rintro _ _ ⟨g11, rfl, hE⟩
  refine K_ent hE ?_
  refine CW_cond (b := ((decide ((c1 : Int) < (a_a.length : Int))) && (decide ((c1 : Int) < (a_b.length : Int))))) (.tmp rfl rfl) (fun hb37 => ?_) (fun hb37 => ?_)
  · rw [if_pos hb37] at hF
    refine CW_skip (K_block (K_draw [0, 1, 2, 3, 4, 5, 6, 7, 8] [0, 0, 3, 7, 0, 0, 48, 112, 255] [] mixed (by decide +kernel) ?_))
    refine Dm v0_0.v rfl rfl rfl rfl ?_
    refine Dm (.int .i64 c1) rfl rfl rfl rfl ?_
    obtain ⟨x12, hx13, hF⟩ := bind_some hF
    obtain ⟨hp14, hx15⟩ := ix_some hx13
    refine D_idx (a := x12) sl22 ty3.sz rfl .no (.tmp rfl rfl) (.tmp rfl rfl) rfl rfl .h hp14 hx15 (fun k16 j17 => ?_)
    refine D_ldS (w := (.int .i64 x12)) ag3 rfl .no (.tmp rfl rfl) rfl .h ls3_0 ?_
    refine Dm v1_0.v rfl rfl rfl rfl ?_
    refine Dm (.int .i64 c1) rfl rfl rfl rfl ?_
    obtain ⟨x18, hx19, hF⟩ := bind_some hF
    obtain ⟨hp20, hx21⟩ := ix_some hx19
    refine D_idx (a := x18) sl22 ty3.sz rfl .no (.tmp rfl rfl) (.tmp rfl rfl) rfl rfl (.t (.t .h)) hp20 hx21 (fun k22 j23 => ?_)
    refine D_ldS (w := (.int .i64 x18)) ag3 rfl .no (.tmp rfl rfl) rfl .h ls3_0 ?_
    refine D_val rfl .no (fun ha => V_neq (i := x12) (j := x18) (EN ha (.tmp rfl rfl) rfl) (EN ha (.tmp rfl rfl) rfl)) ?_
    refine D_nil (CW_cond (b := ((x12 : Int) != x18)) (.tmp rfl rfl) (fun hb36 => ?_) (fun hb36 => ?_))
    · rw [if_pos hb36] at hF
      refine K_draw [0, 1, 2, 3, 4, 5, 6, 7, 8, 9] [0, 0, 3, 7, 0, 0, 48, 112, 255, 511] [] mixed (by decide +kernel) ?_
      refine Dm v0_0.v rfl rfl rfl rfl ?_
      refine Dm (.int .i64 c1) rfl rfl rfl rfl ?_
      obtain ⟨x24, hx25, hF⟩ := bind_some hF
      obtain ⟨hp26, hx27⟩ := ix_some hx25
      refine D_idx (a := x24) sl22 ty3.sz rfl .no (.tmp rfl rfl) (.tmp rfl rfl) rfl rfl (.t (.t .h)) hp26 hx27 (fun k28 j29 => ?_)
      refine D_ldS (w := (.int .i64 x24)) ag3 rfl .no (.tmp rfl rfl) rfl .h ls3_0 ?_
      refine Dm v1_0.v rfl rfl rfl rfl ?_
      refine Dm (.int .i64 c1) rfl rfl rfl rfl ?_
      obtain ⟨x30, hx31, hF⟩ := bind_some hF
      obtain ⟨hp32, hx33⟩ := ix_some hx31
      refine D_idx (a := x30) sl22 ty3.sz rfl .no (.tmp rfl rfl) (.tmp rfl rfl) rfl rfl (.t (.t (.t (.t .h)))) hp32 hx33 (fun k34 j35 => ?_)
      refine D_ldS (w := (.int .i64 x30)) ag3 rfl .no (.tmp rfl rfl) rfl .h ls3_0 ?_
      refine D_val rfl .no (fun ha => V_lss (i := x24) (j := x30) (EN ha (.tmp rfl rfl) rfl) (EN ha (.tmp rfl rfl) rfl)) ?_
      refine Da (.bool (decide ((x24 : Int) < x30))) rfl rfl rfl rfl ?_
      refine D_nil (CW_ret ?_)
      obtain rfl := Option.some.inj hF
      exact End_ret () (.tmp rfl rfl .nil) rfl (.sel .nil)
    rw [if_neg (by rw [hb36]; exact Bool.false_ne_true)] at hF
    refine CW_skip (CW_region (Cm (.int .i64 c1) rfl rfl ?_))
    refine C_val (V_add (i := c1) (j := 1) (.tmp rfl rfl) (.int _ _)) ?_
    refine Ca (.int .i64 (IntKind.i64.wrap (c1 + 1))) rfl rfl ?_
    refine C_nil ?_
    exact ⟨m2, Nat.lt_succ_self _, _, _, (EqL.cons rfl (EqL.cons rfl (EqL.cons rfl (EqL.nil)))).eq, (.sel (.rd (.t (.t .h)) rfl (.rd (.t (.t (.t .h))) rfl .nil))), hF⟩
  rw [if_neg (by rw [hb37]; exact Bool.false_ne_true)] at hF
  refine CW_exit ?_
  iterate 2 refine CThen_exit ?_
  refine CIn_self (K_region (Cm v0_0.v rfl rfl ?_))
  refine C_at .h (fun hp => V_lenR (l := a_a.length) sl22 (.tmp rfl rfl) (crd_len hp)) ?_
  refine Cm v1_0.v rfl rfl ?_
  refine C_at (.t .h) (fun hp => V_lenR (l := a_b.length) sl22 (.tmp rfl rfl) (crd_len hp)) ?_
  refine C_val (V_lss (i := (a_a.length : Int)) (j := (a_b.length : Int)) (.tmp rfl rfl) (.tmp rfl rfl)) ?_
  refine Ca (.bool (decide (((a_a.length : Int) : Int) < (a_b.length : Int)))) rfl rfl ?_
  refine C_nil (CW_ret ?_)
  obtain rfl := Option.some.inj hF
  exact End_ret () (.tmp rfl rfl .nil) rfl (.sel .nil)

/-! spec.l22Less -/
def s_l22Less (a_a : Access) (a_b : Access) : Option (Bool) :=
  if ((a_a.Method : Int) != a_b.Method) then (
    some (decide ((a_a.Method : Int) < a_b.Method)))
  else (
    (s_l4Less a_a.Values a_b.Values).bind fun r3 =>
    some r3)
theorem s_l22Less_ok (a_a : Access) (v0_1 : Sv) (a_b : Access) (v1_1 : Sv) (R : Bool) (hF : s_l22Less a_a a_b = some R) :
    Fw.Spec Tryz.prog 98 [(.agg [(.int .i64 a_a.Method), v0_1.v].toArray), (.agg [(.int .i64 a_b.Method), v1_1.v].toArray)] [crd (RdS 3 rdInt) v0_1.v a_a.Values, crd (RdS 3 rdInt) v1_1.v a_b.Values] (fun _ : Unit => (.bool R)) (fun _ => []) := by
  refine Spec_enter (n := 20) Tryz.func98 rfl rfl (rs := [.tmp 4]) rfl rfl rfl ?_
  intro H0 F0
  unfold s_l22Less at hF
  refine K_region (C_newR rfl (N_box (g := false) (v := (.agg [(.int .i64 a_a.Method), v0_1.v].toArray)) ty105.sz (.tmp rfl rfl) rfl) (fun k1 => ?_))
  refine C_newR rfl (N_box (g := false) (v := (.agg [(.int .i64 a_b.Method), v1_1.v].toArray)) ty105.sz (.tmp rfl rfl) rfl) (fun k2 => ?_)
  refine C_val (V_assign (v := (.bool false)) (.bool _)) ?_
  refine C_nil (K_in (K_region (C_val (V_fieldAddr (off := 0) fd105_0 (.tmp rfl rfl)) ?_)))
  refine C_at (.t .h) (fun hp => V_load (v := (.int .i64 a_a.Method)) ag3 (.tmp rfl rfl) hp.2 rfl rfl) ?_
  refine C_val (V_fieldAddr (off := 0) fd105_0 (.tmp rfl rfl)) ?_
  refine C_at .h (fun hp => V_load (v := (.int .i64 a_b.Method)) ag3 (.tmp rfl rfl) hp.2 rfl rfl) ?_
  refine C_val (V_neq (i := a_a.Method) (j := a_b.Method) (.tmp rfl rfl) (.tmp rfl rfl)) ?_
  refine C_nil (CW_cond (b := ((a_a.Method : Int) != a_b.Method)) (.tmp rfl rfl) (fun hb6 => ?_) (fun hb6 => ?_))
  · rw [if_pos hb6] at hF
    refine K_region (C_val (V_fieldAddr (off := 0) fd105_0 (.tmp rfl rfl)) ?_)
    refine C_at (.t .h) (fun hp => V_load (v := (.int .i64 a_a.Method)) ag3 (.tmp rfl rfl) hp.2 rfl rfl) ?_
    refine C_val (V_fieldAddr (off := 0) fd105_0 (.tmp rfl rfl)) ?_
    refine C_at .h (fun hp => V_load (v := (.int .i64 a_b.Method)) ag3 (.tmp rfl rfl) hp.2 rfl rfl) ?_
    refine C_val (V_lss (i := a_a.Method) (j := a_b.Method) (.tmp rfl rfl) (.tmp rfl rfl)) ?_
    refine Ca (.bool (decide ((a_a.Method : Int) < a_b.Method))) rfl rfl ?_
    refine C_nil (CW_ret ?_)
    obtain rfl := Option.some.inj hF
    exact End_ret () (.tmp rfl rfl .nil) rfl (.sel .nil)
  rw [if_neg (by rw [hb6]; exact Bool.false_ne_true)] at hF
  refine CW_skip (K_region (C_val (V_fieldAddr (off := 1) fd105_1 (.tmp rfl rfl)) ?_))
  refine C_at (.t .h) (fun hp => V_load (v := v0_1.v) ag22 (.tmp rfl rfl) hp.2 rfl rfl) ?_
  refine C_val (V_fieldAddr (off := 1) fd105_1 (.tmp rfl rfl)) ?_
  refine C_at .h (fun hp => V_load (v := v1_1.v) ag22 (.tmp rfl rfl) hp.2 rfl rfl) ?_
  obtain ⟨r3, hx4, hF⟩ := bind_some hF
  refine C_x0 (.rd (.t (.t .h)) rfl (.rd (.t (.t (.t .h))) rfl .nil)) (X_callS cf127 (.cons (.tmp rfl rfl) (.cons (.tmp rfl rfl) .nil)) (s_l4Less_ok a_a.Values v0_1 a_b.Values v1_1 _ hx4)) (fun _ => ?_)
  refine Ca (.bool r3) rfl rfl ?_
  refine C_nil (CW_ret ?_)
  obtain rfl := Option.some.inj hF
  exact End_ret () (.tmp rfl rfl .nil) rfl (.sel .nil)

/-! spec.l5Fits -/
def s_l5Fits_L1 (a_values : List Int) (a_f : Fact) : List Int → Nat → Option (Bool)
  | [], k6 => some true
  | x8 :: rest7, k6 => (ix a_f.Values x8).bind fun x17 =>
    (ix a_values (k6 : Int)).bind fun x23 =>
    if ((x17 : Int) != x23) then (
      some false)
    else (
      s_l5Fits_L1 a_values a_f rest7 (k6 + 1))
def s_l5Fits (a_m : Method) (a_values : List Int) (a_f : Fact) : Option (Bool) :=
  if ((a_f.Rel : Int) != a_m.Rel) then (
    some false)
  else (
    s_l5Fits_L1 a_values a_f a_m.Inputs 0)
theorem s_l5Fits_ok (a_m : Method) (v0_1 : Sv) (a_values : List Int) (v1_0 : Sv) (a_f : Fact) (v2_1 : Sv) (R : Bool) (hF : s_l5Fits a_m a_values a_f = some R) :
    Fw.Spec Tryz.prog 99 [(.agg [(.int .i64 a_m.Rel), v0_1.v, (.int .i64 a_m.Limit), (.int .i64 a_m.Cost), (.int .i64 a_m.Quota)].toArray), v1_0.v, (.agg [(.int .i64 a_f.Rel), v2_1.v].toArray)] [crd (RdS 3 rdInt) v0_1.v a_m.Inputs, crd (RdS 3 rdInt) v1_0.v a_values, crd (RdS 3 rdInt) v2_1.v a_f.Values] (fun _ : Unit => (.bool R)) (fun _ => []) := by
  refine Spec_enter (n := 34) Tryz.func99 rfl rfl (rs := [.tmp 6]) rfl rfl rfl ?_
  intro H0 F0
  unfold s_l5Fits at hF
  refine K_region (C_newR rfl (N_box (g := false) (v := (.agg [(.int .i64 a_m.Rel), v0_1.v, (.int .i64 a_m.Limit), (.int .i64 a_m.Cost), (.int .i64 a_m.Quota)].toArray)) ty108.sz (.tmp rfl rfl) rfl) (fun k1 => ?_))
  refine C_newR rfl (N_box (g := false) (v := (.agg [(.int .i64 a_f.Rel), v2_1.v].toArray)) ty80.sz (.tmp rfl rfl) rfl) (fun k2 => ?_)
  refine C_val (V_assign (v := (.bool false)) (.bool _)) ?_
  refine C_nil (K_in (K_region (C_val (V_fieldAddr (off := 0) fd80_0 (.tmp rfl rfl)) ?_)))
  refine C_at .h (fun hp => V_load (v := (.int .i64 a_f.Rel)) ag3 (.tmp rfl rfl) hp.2 rfl rfl) ?_
  refine C_val (V_fieldAddr (off := 0) fd108_0 (.tmp rfl rfl)) ?_
  refine C_at (.t .h) (fun hp => V_load (v := (.int .i64 a_m.Rel)) ag3 (.tmp rfl rfl) hp.2 rfl rfl) ?_
  refine C_val (V_neq (i := a_f.Rel) (j := a_m.Rel) (.tmp rfl rfl) (.tmp rfl rfl)) ?_
  refine C_nil (CW_cond (b := ((a_f.Rel : Int) != a_m.Rel)) (.tmp rfl rfl) (fun hb31 => ?_) (fun hb31 => ?_))
  · rw [if_pos hb31] at hF
    refine K_region (C_val (V_assign (v := (.bool false)) (.bool _)) ?_)
    refine C_nil (CW_ret ?_)
    obtain rfl := Option.some.inj hF
    exact End_ret () (.tmp rfl rfl .nil) rfl (.sel .nil)
  rw [if_neg (by rw [hb31]; exact Bool.false_ne_true)] at hF
  refine CW_skip (K_in (K_region (C_val (V_assign (v := (.int .i64 0)) (.int _ _)) ?_)))
  refine C_nil (CW_block (CW_loop (m := a_m.Inputs.length) (fun m4 f' cs' => ∃ (g : Fr) (k6 : Nat) (rest7 : List Int), m4 = rest7.length ∧ f' = updL g [(1, v1_0.v), (3, (.pointer (some ⟨k1, 0, some 0⟩))), (5, (.pointer (some ⟨k2, 0, some 0⟩))), (7, (.int .i64 (k6 : Int)))] ∧ List.drop k6 a_m.Inputs = rest7 ∧ Ent cs' [crd (RdS 3 rdInt) v1_0.v a_values, cboR k1 108 (.agg [(.int .i64 a_m.Rel), v0_1.v, (.int .i64 a_m.Limit), (.int .i64 a_m.Cost), (.int .i64 a_m.Quota)].toArray), crd (RdS 3 rdInt) v0_1.v a_m.Inputs, cboR k2 80 (.agg [(.int .i64 a_f.Rel), v2_1.v].toArray), crd (RdS 3 rdInt) v2_1.v a_f.Values] ∧ s_l5Fits_L1 a_values a_f rest7 k6 = some R) ⟨_, 0, _, rfl, (EqL.cons rfl (EqL.cons rfl (EqL.cons rfl (EqL.cons rfl (EqL.nil))))).eq, rfl, (.sel (.rd (.t (.t (.t .h))) rfl (.rd (.t .h) rfl (.rd (.t (.t .h)) rfl (.rd .h rfl (.rd (.t (.t (.t (.t .h)))) rfl .nil)))))), hF⟩ ?_))
  clear hF
  rintro m4 _ _ ⟨g5, k6, rest7, rfl, rfl, hd9, hE, hF⟩
  refine K_ent hE ?_
  clear hE
  refine K_pure (c := crd (RdS 3 rdInt) v0_1.v a_m.Inputs) (.t (.t .h)) crd_bound (fun hbd14 => ?_)
  rcases rest7 with _ | ⟨x8, rest7⟩
  · have hk10 := List.drop_eq_nil_iff.1 hd9
    have hfe13 : (decide (((k6 : Int) : Int) < (a_m.Inputs.length : Int))) = false := decide_eq_false (by omega)
    rw [s_l5Fits_L1] at hF
    refine K_in (K_region (Cm (.int .i64 (k6 : Int)) rfl rfl ?_))
    refine C_val (V_fieldAddr (off := 1) fd108_1 (.tmp rfl rfl)) ?_
    refine C_at (.t .h) (fun hp => V_load (v := v0_1.v) ag22 (.tmp rfl rfl) hp.2 rfl rfl) ?_
    refine C_at (.t (.t .h)) (fun hp => V_lenR (l := a_m.Inputs.length) sl22 (.tmp rfl rfl) (crd_len hp)) ?_
    refine C_val (V_lss (i := (k6 : Int)) (j := (a_m.Inputs.length : Int)) (.tmp rfl rfl) (.tmp rfl rfl)) ?_
    refine C_nil (CW_cond (b := (decide (((k6 : Int) : Int) < (a_m.Inputs.length : Int)))) (.tmp rfl rfl) (fun hb => absurd (hfe13.symm.trans hb) (by decide)) (fun _ => ?_))
    refine CW_exit ?_
    iterate 2 refine CThen_exit ?_
    refine CIn_self (K_region (C_val (V_assign (v := (.bool true)) (.bool _)) ?_))
    refine C_nil (CW_ret ?_)
    obtain rfl := Option.some.inj hF
    exact End_ret () (.tmp rfl rfl .nil) rfl (.sel .nil)
  obtain ⟨hk10, hx11, hd12⟩ := drop_cons hd9
  have hfe13 : (decide (((k6 : Int) : Int) < (a_m.Inputs.length : Int))) = true := decide_eq_true (by omega)
  rw [s_l5Fits_L1] at hF
  refine K_in (K_region (Cm (.int .i64 (k6 : Int)) rfl rfl ?_))
  refine C_val (V_fieldAddr (off := 1) fd108_1 (.tmp rfl rfl)) ?_
  refine C_at (.t .h) (fun hp => V_load (v := v0_1.v) ag22 (.tmp rfl rfl) hp.2 rfl rfl) ?_
  refine C_at (.t (.t .h)) (fun hp => V_lenR (l := a_m.Inputs.length) sl22 (.tmp rfl rfl) (crd_len hp)) ?_
  refine C_val (V_lss (i := (k6 : Int)) (j := (a_m.Inputs.length : Int)) (.tmp rfl rfl) (.tmp rfl rfl)) ?_
  refine C_nil (CW_cond (b := (decide (((k6 : Int) : Int) < (a_m.Inputs.length : Int)))) (.tmp rfl rfl) (fun _ => ?_) (fun hb => absurd (hfe13.symm.trans hb) (by decide)))
  refine CW_skip (K_block (K_draw [0, 1, 2, 3, 4, 5, 6, 7, 8, 9, 10, 11, 12, 13] [0, 1, 0, 4, 0, 28, 60, 127, 255, 0, 0, 1536, 3584, 8191] [] mixed (by decide +kernel) ?_))
  refine D_val rfl .no (fun ha => V_fieldAddr (off := 1) fd80_1 (EN ha (.tmp rfl rfl) rfl)) ?_
  refine D_at rfl .no (.t (.t (.t .h))) rfl (fun ha hp => V_load (v := v2_1.v) ag22 (EN ha (.tmp rfl rfl) rfl) hp.2 rfl rfl) ?_
  refine D_val rfl .no (fun ha => V_fieldAddr (off := 1) fd108_1 (EN ha (.tmp rfl rfl) rfl)) ?_
  refine D_at rfl .no (.t .h) rfl (fun ha hp => V_load (v := v0_1.v) ag22 (EN ha (.tmp rfl rfl) rfl) hp.2 rfl rfl) ?_
  refine Dm (.int .i64 (k6 : Int)) rfl rfl rfl rfl ?_
  refine D_idx (a := x8) sl22 ty3.sz rfl .no (.tmp rfl rfl) (.tmp rfl rfl) rfl rfl (.t (.t .h)) (Int.natCast_nonneg k6) hx11 (fun k15 j16 => ?_)
  refine D_ldS (w := (.int .i64 x8)) ag3 rfl .no (.tmp rfl rfl) rfl .h ls3_0 ?_
  obtain ⟨x17, hx18, hF⟩ := bind_some hF
  obtain ⟨hp19, hx20⟩ := ix_some hx18
  refine D_idx (a := x17) sl22 ty3.sz rfl .no (.tmp rfl rfl) (.tmp rfl rfl) rfl rfl (.t (.t (.t (.t (.t .h))))) hp19 hx20 (fun k21 j22 => ?_)
  refine D_ldS (w := (.int .i64 x17)) ag3 rfl .no (.tmp rfl rfl) rfl .h ls3_0 ?_
  refine Dm v1_0.v rfl rfl rfl rfl ?_
  refine Dm (.int .i64 (k6 : Int)) rfl rfl rfl rfl ?_
  obtain ⟨x23, hx24, hF⟩ := bind_some hF
  obtain ⟨hp25, hx26⟩ := ix_some hx24
  refine D_idx (a := x23) sl22 ty3.sz rfl .no (.tmp rfl rfl) (.tmp rfl rfl) rfl rfl (.t (.t .h)) hp25 hx26 (fun k27 j28 => ?_)
  refine D_ldS (w := (.int .i64 x23)) ag3 rfl .no (.tmp rfl rfl) rfl .h ls3_0 ?_
  refine D_val rfl .no (fun ha => V_neq (i := x17) (j := x23) (EN ha (.tmp rfl rfl) rfl) (EN ha (.tmp rfl rfl) rfl)) ?_
  refine D_nil (CW_cond (b := ((x17 : Int) != x23)) (.tmp rfl rfl) (fun hb30 => ?_) (fun hb30 => ?_))
  · rw [if_pos hb30] at hF
    refine K_region (C_val (V_assign (v := (.bool false)) (.bool _)) ?_)
    refine C_nil (CW_ret ?_)
    obtain rfl := Option.some.inj hF
    exact End_ret () (.tmp rfl rfl .nil) rfl (.sel .nil)
  rw [if_neg (by rw [hb30]; exact Bool.false_ne_true)] at hF
  refine CW_skip (CW_region (Cm (.int .i64 (k6 : Int)) rfl rfl ?_))
  refine C_val (V_add (i := (k6 : Int)) (j := 1) (.tmp rfl rfl) (.int _ _)) ?_
  refine Ca (.int .i64 (IntKind.i64.wrap ((k6 : Int) + 1))) rfl rfl ?_
  refine C_nil ?_
  have hw29 : IntKind.i64.wrap ((k6 : Int) + 1) = ((k6 + 1 : Nat) : Int) := by rw [wrap_in (by omega) (by omega)]; rfl
  rw [hw29]
  exact ⟨_, Nat.lt_succ_self _, _, k6 + 1, rest7, rfl, (EqL.cons rfl (EqL.cons rfl (EqL.cons rfl (EqL.cons rfl (EqL.nil))))).eq, hd12, (.sel (.rd (.t (.t (.t .h))) rfl (.rd (.t (.t (.t (.t .h)))) rfl (.rd (.t (.t (.t (.t (.t .h))))) rfl (.rd (.t (.t (.t (.t (.t (.t .h)))))) rfl (.rd (.t (.t (.t (.t (.t (.t (.t .h))))))) rfl .nil)))))), hF⟩

/-! spec.IsCache -/
def s_IsCache_L2 (a_l : List Method) (x18 : Stored) : List Fact → Nat → Option (Sum (Bool) (Unit))
  | [], k60 => some (.inr ())
  | x62 :: rest61, k60 => (ix a_l x18.Access.Method).bind fun x69 =>
    (s_l5Fits x69 x18.Access.Values x62).bind fun r79 =>
    if (!r79) then (
      some (.inl false))
    else (
      s_IsCache_L2 a_l x18 rest61 (k60 + 1))
def s_IsCache_L1 (a_s : List Int) (a_l : List Method) (a_c : Cache) : List Stored → Nat → Option (Bool)
  | [], k16 => some true
  | x18 :: rest17, k16 => ((((s_IsAccess a_s a_l x18.Access).bind fun r33 =>
        bif (!r33) then (some true)
        else ((s_AreFacts a_s x18.Facts).bind fun r37 =>
          bif (!r37) then (some true)
          else ((s_l1In x18.At 0 10000).bind fun r41 =>
            bif (!r41) then (some true)
            else (bif (decide ((0 : Int) < (k16 : Int))) then ((ix a_c.Entries (IntKind.i64.wrap ((k16 : Int) - 1))).bind fun x46 =>
                (s_l22Less x46.Access x18.Access).bind fun r53 =>
                some (!r53))
              else (some false))))).bind fun o31 =>
      match o31 with
      | c56 => if c56 then (
          some (.inl false))
        else (
          s_IsCache_L2 a_l x18 x18.Facts 0)) : Option (Sum (Bool) (Unit))).bind fun o25 =>
    match o25 with
    | .inl r => some r
    | .inr _ => s_IsCache_L1 a_s a_l a_c rest17 (k16 + 1)
def s_IsCache (a_s : List Int) (a_l : List Method) (a_c : Cache) : Option (Bool) :=
  ((s_AreMethods a_s a_l).bind fun r4 =>
    bif (!r4) then (some true)
    else ((s_l1In a_c.Age 0 100).bind fun r8 =>
      bif (!r8) then (some true)
      else (some (decide ((100 : Int) < (a_c.Entries.length : Int)))))).bind fun o2 =>
  match o2 with
  | c12 => if c12 then (
      some false)
    else (
      s_IsCache_L1 a_s a_l a_c a_c.Entries 0)
theorem s_IsCache_ok (a_s : List Int) (v0_0 : Sv) (a_l : List Method) (v1_0 : Sv) (a_c : Cache) (v2_0 : Sv) (R : Bool) (hF : s_IsCache a_s a_l a_c = some R) :
    Fw.Spec Tryz.prog 57 [v0_0.v, v1_0.v, (.agg [v2_0.v, (.int .i64 a_c.Age)].toArray)] [crd (RdS 3 rdInt) v0_0.v a_s, crd (RdS 108 rd108) v1_0.v a_l, crd (RdS 147 rd147) v2_0.v a_c.Entries] (fun _ : Unit => (.bool R)) (fun _ => []) := by
  refine Spec_enter (n := 97) Tryz.func57 rfl rfl (rs := [.tmp 6]) rfl rfl rfl ?_
  intro H0 F0
  unfold s_IsCache at hF
  refine K_region (C_newR rfl (N_box (g := false) (v := (.agg [v2_0.v, (.int .i64 a_c.Age)].toArray)) ty44.sz (.tmp rfl rfl) rfl) (fun k1 => ?_))
  refine C_val (V_assign (v := (.bool false)) (.bool _)) ?_
  refine C_nil (K_in ?_)
  obtain ⟨o2, hio2, hO3⟩ := bind_some hF
  refine K_region (C_cut (fun f' cs' => ∃ (c12 : Bool) (g : Fr), c12 = o2 ∧ f' = updL g [(0, v0_0.v), (1, v1_0.v), (5, (.pointer (some ⟨k1, 0, some 0⟩))), (25, (.bool c12))] ∧ Ent cs' [crd (RdS 3 rdInt) v0_0.v a_s, crd (RdS 108 rd108) v1_0.v a_l, cboR k1 44 (.agg [v2_0.v, (.int .i64 a_c.Age)].toArray), crd (RdS 147 rd147) v2_0.v a_c.Entries]) ?_ ?_)
  · replace hF := hio2
    refine Cm v0_0.v rfl rfl ?_
    refine Cm v1_0.v rfl rfl ?_
    obtain ⟨r4, hx5, hF⟩ := bind_some hF
    refine C_x0 (.rd (.t .h) rfl (.rd (.t (.t .h)) rfl .nil)) (X_callS cf54 (.cons (.tmp rfl rfl) (.cons (.tmp rfl rfl) .nil)) (s_AreMethods_ok a_s v0_0 a_l v1_0 _ hx5)) (fun _ => ?_)
    refine C_val (V_not (b := r4) (.tmp rfl rfl)) ?_
    refine Cm (.bool (!r4)) rfl rfl ?_
    rcases Bool.eq_false_or_eq_true (!r4) with hg7 | hg7
    · rw [hg7]
      try rw [hg7] at hF; dsimp only [cond_true, cond_false] at hF
      iterate 4 refine C_off (t := 14) rfl rfl rfl ?_
      refine C_val (V_pick (b := true) (u := (.bool true)) (v := undef) (.tmp rfl rfl) (.bool _) (.tmp rfl rfl)) ?_
      refine Cm (.bool true) rfl rfl ?_
      iterate 4 refine C_off (t := 20) rfl rfl rfl ?_
      refine C_val (V_pick (b := true) (u := (.bool true)) (v := undef) (.tmp rfl rfl) (.bool _) (.tmp rfl rfl)) ?_
      refine C_nil ?_
      obtain rfl := Option.some.inj hF
      exact ⟨_, _, rfl, (EqL.cons rfl (EqL.cons rfl (EqL.cons rfl (EqL.cons rfl (EqL.nil))))).eq, (.sel (.rd (.t .h) rfl (.rd (.t (.t .h)) rfl (.rd .h rfl (.rd (.t (.t (.t .h))) rfl .nil)))))⟩
    rw [hg7]
    try rw [hg7] at hF; dsimp only [cond_true, cond_false] at hF
    refine C_on (t := 14) rfl rfl rfl ?_
    refine C_val (V_fieldAddr (off := 1) fd44_1 (.tmp rfl rfl)) ?_
    refine C_on (t := 14) rfl rfl rfl ?_
    refine C_at .h (fun hp => V_load (v := (.int .i64 a_c.Age)) ag3 (.tmp rfl rfl) hp.2 rfl rfl) ?_
    refine C_on (t := 14) rfl rfl rfl ?_
    obtain ⟨r8, hx9, hF⟩ := bind_some hF
    refine C_x0 .nil (X_callS cf59 (.cons (.tmp rfl rfl) (.cons (.int _ _) (.cons (.int _ _) .nil))) (s_l1In_ok a_c.Age 0 100 _ hx9)) (fun _ => ?_)
    refine C_on (t := 14) rfl rfl rfl ?_
    refine C_val (V_not (b := r8) (.tmp rfl rfl)) ?_
    refine C_val (V_pick (b := false) (u := (.bool true)) (v := (.bool (!r8))) (.tmp rfl rfl) (.bool _) (.tmp rfl rfl)) ?_
    refine Cm (.bool (!r8)) rfl rfl ?_
    rcases Bool.eq_false_or_eq_true (!r8) with hg11 | hg11
    · rw [hg11]
      try rw [hg11] at hF; dsimp only [cond_true, cond_false] at hF
      iterate 4 refine C_off (t := 20) rfl rfl rfl ?_
      refine C_val (V_pick (b := true) (u := (.bool true)) (v := undef) (.tmp rfl rfl) (.bool _) (.tmp rfl rfl)) ?_
      refine C_nil ?_
      obtain rfl := Option.some.inj hF
      exact ⟨_, _, rfl, (EqL.cons rfl (EqL.cons rfl (EqL.cons rfl (EqL.cons rfl (EqL.nil))))).eq, (.sel (.rd (.t .h) rfl (.rd (.t (.t .h)) rfl (.rd .h rfl (.rd (.t (.t (.t .h))) rfl .nil)))))⟩
    rw [hg11]
    try rw [hg11] at hF; dsimp only [cond_true, cond_false] at hF
    refine C_on (t := 20) rfl rfl rfl ?_
    refine C_val (V_fieldAddr (off := 0) fd44_0 (.tmp rfl rfl)) ?_
    refine C_on (t := 20) rfl rfl rfl ?_
    refine C_at .h (fun hp => V_load (v := v2_0.v) ag42 (.tmp rfl rfl) hp.2 rfl rfl) ?_
    refine C_on (t := 20) rfl rfl rfl ?_
    refine C_at (.t (.t (.t .h))) (fun hp => V_lenR (l := a_c.Entries.length) sl42 (.tmp rfl rfl) (crd_len hp)) ?_
    refine C_on (t := 20) rfl rfl rfl ?_
    refine C_val (V_gtr (i := (a_c.Entries.length : Int)) (j := 100) (.tmp rfl rfl) (.int _ _)) ?_
    refine C_val (V_pick (b := false) (u := (.bool true)) (v := (.bool (decide ((100 : Int) < (a_c.Entries.length : Int))))) (.tmp rfl rfl) (.bool _) (.tmp rfl rfl)) ?_
    refine C_nil ?_
    obtain rfl := Option.some.inj hF
    exact ⟨_, _, rfl, (EqL.cons rfl (EqL.cons rfl (EqL.cons rfl (EqL.cons rfl (EqL.nil))))).eq, (.sel (.rd (.t .h) rfl (.rd (.t (.t .h)) rfl (.rd .h rfl (.rd (.t (.t (.t .h))) rfl .nil)))))⟩
  rintro _ _ ⟨c12, g89, rfl, rfl, hE⟩
  replace hF := hO3
  clear hO3
  try dsimp only at hF
  refine K_ent hE ?_
  refine CW_cond (b := c12) (.tmp rfl rfl) (fun hb88 => ?_) (fun hb88 => ?_)
  · rw [if_pos hb88] at hF
    refine K_region (C_val (V_assign (v := (.bool false)) (.bool _)) ?_)
    refine C_nil (CW_ret ?_)
    obtain rfl := Option.some.inj hF
    exact End_ret () (.tmp rfl rfl .nil) rfl (.sel .nil)
  rw [if_neg (by rw [hb88]; exact Bool.false_ne_true)] at hF
  refine CW_skip (K_in (K_region (C_val (V_assign (v := (.int .i64 0)) (.int _ _)) ?_)))
  refine C_nil (CW_block (CW_loop (m := a_c.Entries.length) (fun m14 f' cs' => ∃ (g : Fr) (k16 : Nat) (rest17 : List Stored), m14 = rest17.length ∧ f' = updL g [(0, v0_0.v), (1, v1_0.v), (5, (.pointer (some ⟨k1, 0, some 0⟩))), (7, (.int .i64 (k16 : Int)))] ∧ List.drop k16 a_c.Entries = rest17 ∧ Ent cs' [crd (RdS 3 rdInt) v0_0.v a_s, crd (RdS 108 rd108) v1_0.v a_l, cboR k1 44 (.agg [v2_0.v, (.int .i64 a_c.Age)].toArray), crd (RdS 147 rd147) v2_0.v a_c.Entries] ∧ s_IsCache_L1 a_s a_l a_c rest17 k16 = some R) ⟨_, 0, _, rfl, (EqL.cons rfl (EqL.cons rfl (EqL.cons rfl (EqL.cons rfl (EqL.nil))))).eq, rfl, (.sel (.rd .h rfl (.rd (.t .h) rfl (.rd (.t (.t .h)) rfl (.rd (.t (.t (.t .h))) rfl .nil))))), hF⟩ ?_))
  clear hF
  rintro m14 _ _ ⟨g15, k16, rest17, rfl, rfl, hd19, hE, hF⟩
  refine K_ent hE ?_
  clear hE
  refine K_pure (c := crd (RdS 147 rd147) v2_0.v a_c.Entries) (.t (.t (.t .h))) crd_bound (fun hbd24 => ?_)
  rcases rest17 with _ | ⟨x18, rest17⟩
  · have hk20 := List.drop_eq_nil_iff.1 hd19
    have hfe23 : (decide (((k16 : Int) : Int) < (a_c.Entries.length : Int))) = false := decide_eq_false (by omega)
    rw [s_IsCache_L1] at hF
    refine K_in (K_region (Cm (.int .i64 (k16 : Int)) rfl rfl ?_))
    refine C_val (V_fieldAddr (off := 0) fd44_0 (.tmp rfl rfl)) ?_
    refine C_at (.t (.t .h)) (fun hp => V_load (v := v2_0.v) ag42 (.tmp rfl rfl) hp.2 rfl rfl) ?_
    refine C_at (.t (.t (.t .h))) (fun hp => V_lenR (l := a_c.Entries.length) sl42 (.tmp rfl rfl) (crd_len hp)) ?_
    refine C_val (V_lss (i := (k16 : Int)) (j := (a_c.Entries.length : Int)) (.tmp rfl rfl) (.tmp rfl rfl)) ?_
    refine C_nil (CW_cond (b := (decide (((k16 : Int) : Int) < (a_c.Entries.length : Int)))) (.tmp rfl rfl) (fun hb => absurd (hfe23.symm.trans hb) (by decide)) (fun _ => ?_))
    refine CW_exit ?_
    iterate 2 refine CThen_exit ?_
    refine CIn_self (K_region (C_val (V_assign (v := (.bool true)) (.bool _)) ?_))
    refine C_nil (CW_ret ?_)
    obtain rfl := Option.some.inj hF
    exact End_ret () (.tmp rfl rfl .nil) rfl (.sel .nil)
  obtain ⟨hk20, hx21, hd22⟩ := drop_cons hd19
  have hfe23 : (decide (((k16 : Int) : Int) < (a_c.Entries.length : Int))) = true := decide_eq_true (by omega)
  rw [s_IsCache_L1] at hF
  refine K_in (K_region (Cm (.int .i64 (k16 : Int)) rfl rfl ?_))
  refine C_val (V_fieldAddr (off := 0) fd44_0 (.tmp rfl rfl)) ?_
  refine C_at (.t (.t .h)) (fun hp => V_load (v := v2_0.v) ag42 (.tmp rfl rfl) hp.2 rfl rfl) ?_
  refine C_at (.t (.t (.t .h))) (fun hp => V_lenR (l := a_c.Entries.length) sl42 (.tmp rfl rfl) (crd_len hp)) ?_
  refine C_val (V_lss (i := (k16 : Int)) (j := (a_c.Entries.length : Int)) (.tmp rfl rfl) (.tmp rfl rfl)) ?_
  refine C_nil (CW_cond (b := (decide (((k16 : Int) : Int) < (a_c.Entries.length : Int)))) (.tmp rfl rfl) (fun _ => ?_) (fun hb => absurd (hfe23.symm.trans hb) (by decide)))
  refine CW_skip ?_
  obtain ⟨o25, hio25, hO26⟩ := bind_some hF
  refine K_cut (fun f' cs' => ∃ (g : Fr), o25 = .inr () ∧ f' = updL g [(0, v0_0.v), (1, v1_0.v), (5, (.pointer (some ⟨k1, 0, some 0⟩))), (7, (.int .i64 (k16 : Int)))] ∧ Ent cs' [crd (RdS 3 rdInt) v0_0.v a_s, crd (RdS 108 rd108) v1_0.v a_l, cboR k1 44 (.agg [v2_0.v, (.int .i64 a_c.Age)].toArray), crd (RdS 147 rd147) v2_0.v a_c.Entries]) ?_ ?_
  · replace hF := hio25
    refine CW_block (K_region (C_val (V_fieldAddr (off := 0) fd44_0 (.tmp rfl rfl)) ?_))
    refine C_at (.t (.t .h)) (fun hp => V_load (v := v2_0.v) ag42 (.tmp rfl rfl) hp.2 rfl rfl) ?_
    refine Cm (.int .i64 (k16 : Int)) rfl rfl ?_
    refine C_idx (a := x18) sl42 ty147.sz (.tmp rfl rfl) (.tmp rfl rfl) (.t (.t (.t .h))) (Int.natCast_nonneg k16) hx21 (fun k27 j28 => ?_)
    refine C_ldA2 (ul147_0_147 x18) ag147 ty147.sz rfl (.tmp rfl rfl) .h la147_0_147 (fun p29 => ?_)
    refine C_new rfl (N_allocT (g := true) ty147 rfl rfl) (fun k30 => ?_)
    refine C_x1 (.cons .h .nil) (X_storeB (e' := (.agg [(.int .i64 x18.Access.Method), p29.1.v, p29.2.v, (.int .i64 x18.At)].toArray)) (v := (.agg [(.int .i64 x18.Access.Method), p29.1.v, p29.2.v, (.int .i64 x18.At)].toArray)) ty147.sz (.tmp rfl rfl) (.tmp rfl rfl) rfl rfl rfl rfl rfl) (fun _ => ?_)
    refine C_nil (K_in ?_)
    obtain ⟨o31, hio31, hO32⟩ := bind_some hF
    refine K_draw [0, 1, 2, 3, 4, 5, 6, 7, 8, 9, 10, 11, 12, 13, 14, 15, 16, 17, 18, 19, 20, 21, 22, 23, 24, 25, 26, 27, 28, 29, 30, 31, 32, 33, 34, 35] [0, 0, 0, 4, 15, 31, 63, 127, 127, 383, 1023, 2047, 4095, 8191, 16383, 32767, 65535, 131071, 262143, 524287, 1048575, 2097151, 4194303, 8388607, 16777215, 8388607, 41943039, 134217727, 268435455, 536870911, 8388607, 1082130431, 4294967295, 8589934591, 17179869183, 34359738367] [4, 10, 16, 32] mixed (by decide +kernel) ?_
    refine D_cut (fun f' cs' => ∃ (c56 : Bool) (g : Fr), c56 = o31 ∧ f' = updL g [(0, v0_0.v), (1, v1_0.v), (5, (.pointer (some ⟨k1, 0, some 0⟩))), (7, (.int .i64 (k16 : Int))), (8, (.pointer (some ⟨k30, 0, some 0⟩))), (73, (.bool c56))] ∧ Ent cs' [crd (RdS 3 rdInt) v0_0.v a_s, crd (RdS 108 rd108) v1_0.v a_l, cboR k1 44 (.agg [v2_0.v, (.int .i64 a_c.Age)].toArray), crd (RdS 147 rd147) v2_0.v a_c.Entries, cbox k30 147 (.agg [(.int .i64 x18.Access.Method), p29.1.v, p29.2.v, (.int .i64 x18.At)].toArray), crd (RdS 3 rdInt) p29.1.v x18.Access.Values, crd (RdS 80 rd80) p29.2.v x18.Facts]) ?_ ?_
    · replace hF := hio31
      refine Dm v0_0.v rfl rfl rfl rfl ?_
      refine Dm v1_0.v rfl rfl rfl rfl ?_
      refine D_val rfl .no (fun ha => V_fieldAddr (off := 0) fd147_0 (EN ha (.tmp rfl rfl) rfl)) ?_
      refine D_atO rfl .no .h (fun ha hp => V_loadA (s := 2) (l := [(.int .i64 x18.Access.Method), p29.1.v]) ag105 ty105.sz (EN ha (.tmp rfl rfl) rfl) hp.2 rfl (by decide) (Nat.le_of_ble_eq_true rfl) rfl) ?_
      obtain ⟨r33, hx34, hF⟩ := bind_some hF
      refine D_act0 rfl rfl .no (.rd (.t (.t (.t (.t .h)))) rfl (.rd (.t (.t (.t (.t (.t .h))))) rfl (.rd (.t .h) rfl .nil))) (.dep rfl .nil) (fun ha => X_callS cf58 (.cons (EN ha (.tmp rfl rfl) rfl) (.cons (EN ha (.tmp rfl rfl) rfl) (.cons (EN ha (.tmp rfl rfl) rfl) .nil))) (s_IsAccess_ok a_s v0_0 a_l v1_0 x18.Access p29.1 _ hx34)) (fun _ => ?_)
      refine D_val rfl .no (fun ha => V_not (b := r33) (EN ha (.tmp rfl rfl) rfl)) ?_
      refine Dm (.bool (!r33)) rfl rfl rfl rfl ?_
      rcases Bool.eq_false_or_eq_true (!r33) with hg36 | hg36
      · rw [hg36]
        try rw [hg36] at hF; dsimp only [cond_true, cond_false] at hF
        iterate 5 refine D_off 44 rfl rfl rfl rfl ?_
        refine D_val rfl .no (fun ha => V_pick (b := true) (u := (.bool true)) (v := undef) (EN ha (.tmp rfl rfl) rfl) (EN ha (.bool _) rfl) (EN ha (.tmp rfl rfl) rfl)) ?_
        refine Dm (.bool true) rfl rfl rfl rfl ?_
        iterate 4 refine D_off 51 rfl rfl rfl rfl ?_
        refine D_val rfl .no (fun ha => V_pick (b := true) (u := (.bool true)) (v := undef) (EN ha (.tmp rfl rfl) rfl) (EN ha (.bool _) rfl) (EN ha (.tmp rfl rfl) rfl)) ?_
        refine Dm (.bool true) rfl rfl rfl rfl ?_
        iterate 3 refine D_off 57 rfl rfl rfl rfl ?_
        iterate 11 refine D_offU 60 rfl rfl rfl rfl ?_
        refine D_off 57 rfl rfl rfl rfl ?_
        refine D_val rfl .no (fun ha => V_pick (b := true) (u := (.bool true)) (v := undef) (EN ha (.tmp rfl rfl) rfl) (EN ha (.bool _) rfl) (EN ha (.tmp rfl rfl) rfl)) ?_
        refine D_nil ?_
        obtain rfl := Option.some.inj hF
        exact ⟨_, _, rfl, (EqL.cons rfl (EqL.cons rfl (EqL.cons rfl (EqL.cons rfl (EqL.cons rfl (EqL.cons rfl (EqL.nil))))))).eq, (.sel (.rd (.t (.t (.t (.t .h)))) rfl (.rd (.t (.t (.t (.t (.t .h))))) rfl (.rd (.t (.t (.t (.t (.t (.t .h)))))) rfl (.rd (.t (.t (.t (.t (.t (.t (.t .h))))))) rfl (.cons .h (.rd .h rfl (.rd (.t .h) rfl .nil))))))))⟩
      rw [hg36]
      try rw [hg36] at hF; dsimp only [cond_true, cond_false] at hF
      refine D_val rfl (.on 44 rfl rfl rfl) (fun ha => V_move (v := v0_0.v) (EN ha (.tmp rfl rfl) rfl)) ?_
      refine D_val rfl (.on 44 rfl rfl rfl) (fun ha => V_fieldAddr (off := 2) fd147_1 (EN ha (.tmp rfl rfl) rfl)) ?_
      refine D_atO rfl (.on 44 rfl rfl rfl) .h (fun ha hp => V_load (v := p29.2.v) ag39 (EN ha (.tmp rfl rfl) rfl) hp.2 rfl rfl) ?_
      obtain ⟨r37, hx38, hF⟩ := bind_some hF
      refine D_act0 rfl rfl (.on 44 rfl rfl rfl) (.rd (.t (.t (.t (.t .h)))) rfl (.rd (.t (.t .h)) rfl .nil)) (.dep rfl (.dep rfl .nil)) (fun ha => X_callS cf97 (.cons (EN ha (.tmp rfl rfl) rfl) (.cons (EN ha (.tmp rfl rfl) rfl) .nil)) (s_AreFacts_ok a_s v0_0 x18.Facts p29.2 _ hx38)) (fun _ => ?_)
      refine D_val rfl (.on 44 rfl rfl rfl) (fun ha => V_not (b := r37) (EN ha (.tmp rfl rfl) rfl)) ?_
      refine D_val rfl .no (fun ha => V_pick (b := false) (u := (.bool true)) (v := (.bool (!r37))) (EN ha (.tmp rfl rfl) rfl) (EN ha (.bool _) rfl) (EN ha (.tmp rfl rfl) rfl)) ?_
      refine Dm (.bool (!r37)) rfl rfl rfl rfl ?_
      rcases Bool.eq_false_or_eq_true (!r37) with hg40 | hg40
      · rw [hg40]
        try rw [hg40] at hF; dsimp only [cond_true, cond_false] at hF
        iterate 4 refine D_off 51 rfl rfl rfl rfl ?_
        refine D_val rfl .no (fun ha => V_pick (b := true) (u := (.bool true)) (v := undef) (EN ha (.tmp rfl rfl) rfl) (EN ha (.bool _) rfl) (EN ha (.tmp rfl rfl) rfl)) ?_
        refine Dm (.bool true) rfl rfl rfl rfl ?_
        iterate 3 refine D_off 57 rfl rfl rfl rfl ?_
        iterate 11 refine D_offU 60 rfl rfl rfl rfl ?_
        refine D_off 57 rfl rfl rfl rfl ?_
        refine D_val rfl .no (fun ha => V_pick (b := true) (u := (.bool true)) (v := undef) (EN ha (.tmp rfl rfl) rfl) (EN ha (.bool _) rfl) (EN ha (.tmp rfl rfl) rfl)) ?_
        refine D_nil ?_
        obtain rfl := Option.some.inj hF
        exact ⟨_, _, rfl, (EqL.cons rfl (EqL.cons rfl (EqL.cons rfl (EqL.cons rfl (EqL.cons rfl (EqL.cons rfl (EqL.nil))))))).eq, (.sel (.rd (.t (.t (.t (.t .h)))) rfl (.rd (.t (.t (.t (.t (.t .h))))) rfl (.rd (.t (.t (.t (.t (.t (.t .h)))))) rfl (.rd (.t (.t (.t (.t (.t (.t (.t .h))))))) rfl (.cons .h (.rd .h rfl (.rd (.t .h) rfl .nil))))))))⟩
      rw [hg40]
      try rw [hg40] at hF; dsimp only [cond_true, cond_false] at hF
      refine D_val rfl (.on 51 rfl rfl rfl) (fun ha => V_fieldAddr (off := 3) fd147_2 (EN ha (.tmp rfl rfl) rfl)) ?_
      refine D_atO rfl (.on 51 rfl rfl rfl) .h (fun ha hp => V_load (v := (.int .i64 x18.At)) ag3 (EN ha (.tmp rfl rfl) rfl) hp.2 rfl rfl) ?_
      obtain ⟨r41, hx42, hF⟩ := bind_some hF
      refine D_act0 rfl rfl (.on 51 rfl rfl rfl) .nil (.dep rfl (.dep rfl (.dep rfl .nil))) (fun ha => X_callS cf59 (.cons (EN ha (.tmp rfl rfl) rfl) (.cons (EN ha (.int _ _) rfl) (.cons (EN ha (.int _ _) rfl) .nil))) (s_l1In_ok x18.At 0 10000 _ hx42)) (fun _ => ?_)
      refine D_val rfl (.on 51 rfl rfl rfl) (fun ha => V_not (b := r41) (EN ha (.tmp rfl rfl) rfl)) ?_
      refine D_val rfl .no (fun ha => V_pick (b := false) (u := (.bool true)) (v := (.bool (!r41))) (EN ha (.tmp rfl rfl) rfl) (EN ha (.bool _) rfl) (EN ha (.tmp rfl rfl) rfl)) ?_
      refine Dm (.bool (!r41)) rfl rfl rfl rfl ?_
      rcases Bool.eq_false_or_eq_true (!r41) with hg44 | hg44
      · rw [hg44]
        try rw [hg44] at hF; dsimp only [cond_true, cond_false] at hF
        iterate 3 refine D_off 57 rfl rfl rfl rfl ?_
        iterate 11 refine D_offU 60 rfl rfl rfl rfl ?_
        refine D_off 57 rfl rfl rfl rfl ?_
        refine D_val rfl .no (fun ha => V_pick (b := true) (u := (.bool true)) (v := undef) (EN ha (.tmp rfl rfl) rfl) (EN ha (.bool _) rfl) (EN ha (.tmp rfl rfl) rfl)) ?_
        refine D_nil ?_
        obtain rfl := Option.some.inj hF
        exact ⟨_, _, rfl, (EqL.cons rfl (EqL.cons rfl (EqL.cons rfl (EqL.cons rfl (EqL.cons rfl (EqL.cons rfl (EqL.nil))))))).eq, (.sel (.rd (.t (.t (.t (.t .h)))) rfl (.rd (.t (.t (.t (.t (.t .h))))) rfl (.rd (.t (.t (.t (.t (.t (.t .h)))))) rfl (.rd (.t (.t (.t (.t (.t (.t (.t .h))))))) rfl (.cons .h (.rd .h rfl (.rd (.t .h) rfl .nil))))))))⟩
      rw [hg44]
      try rw [hg44] at hF; dsimp only [cond_true, cond_false] at hF
      refine D_val rfl (.on 57 rfl rfl rfl) (fun ha => V_move (v := (.int .i64 (k16 : Int))) (EN ha (.tmp rfl rfl) rfl)) ?_
      refine D_val rfl (.on 57 rfl rfl rfl) (fun ha => V_gtr (i := (k16 : Int)) (j := 0) (EN ha (.tmp rfl rfl) rfl) (EN ha (.int _ _) rfl)) ?_
      refine D_val rfl (.on 57 rfl rfl rfl) (fun ha => V_move (v := (.bool (decide ((0 : Int) < (k16 : Int))))) (EN ha (.tmp rfl rfl) rfl)) ?_
      rcases Bool.eq_false_or_eq_true (decide ((0 : Int) < (k16 : Int))) with hg45 | hg45
      · rw [hg45]
        try rw [hg45] at hF; dsimp only [cond_true, cond_false] at hF
        refine D_val rfl (.on 60 rfl rfl rfl) (fun ha => V_fieldAddr (off := 0) fd44_0 (EN ha (.tmp rfl rfl) rfl)) ?_
        refine D_at rfl (.on 60 rfl rfl rfl) (.t (.t (.t (.t (.t (.t .h)))))) rfl (fun ha hp => V_load (v := v2_0.v) ag42 (EN ha (.tmp rfl rfl) rfl) hp.2 rfl rfl) ?_
        refine D_val rfl (.on 60 rfl rfl rfl) (fun ha => V_move (v := (.int .i64 (k16 : Int))) (EN ha (.tmp rfl rfl) rfl)) ?_
        refine D_val rfl (.on 60 rfl rfl rfl) (fun ha => V_sub (i := (k16 : Int)) (j := 1) (EN ha (.tmp rfl rfl) rfl) (EN ha (.int _ _) rfl)) ?_
        obtain ⟨x46, hx47, hF⟩ := bind_some hF
        obtain ⟨hp48, hx49⟩ := ix_some hx47
        refine D_idx (a := x46) sl42 ty147.sz rfl (.on 60 rfl rfl rfl) (.tmp rfl rfl) (.tmp rfl rfl) rfl rfl (.t (.t (.t (.t (.t (.t (.t .h))))))) hp48 hx49 (fun k50 j51 => ?_)
        refine D_val rfl (.on 60 rfl rfl rfl) (fun ha => V_fieldAddr (off := 0) fd147_0 (EN ha (.tmp rfl rfl) rfl)) ?_
        refine D_ldA1 (ul147_0_105 x46) ag105 ty105.sz rfl rfl (.on 60 rfl rfl rfl) (.tmp rfl rfl) rfl .h la147_0_105 (fun p52 => ?_)
        refine D_val rfl (.on 60 rfl rfl rfl) (fun ha => V_fieldAddr (off := 0) fd147_0 (EN ha (.tmp rfl rfl) rfl)) ?_
        refine D_atO rfl (.on 60 rfl rfl rfl) (.t (.t .h)) (fun ha hp => V_loadA (s := 2) (l := [(.int .i64 x18.Access.Method), p29.1.v]) ag105 ty105.sz (EN ha (.tmp rfl rfl) rfl) hp.2 rfl (by decide) (Nat.le_of_ble_eq_true rfl) rfl) ?_
        obtain ⟨r53, hx54, hF⟩ := bind_some hF
        refine D_act0 rfl rfl (.on 60 rfl rfl rfl) (.rd .h rfl (.rd (.t (.t (.t .h))) rfl .nil)) (.dep rfl (.dep rfl (.dep rfl (.dep rfl .nil)))) (fun ha => X_callS cf98 (.cons (EN ha (.tmp rfl rfl) rfl) (.cons (EN ha (.tmp rfl rfl) rfl) .nil)) (s_l22Less_ok x46.Access p52 x18.Access p29.1 _ hx54)) (fun _ => ?_)
        refine D_val rfl (.on 60 rfl rfl rfl) (fun ha => V_not (b := r53) (EN ha (.tmp rfl rfl) rfl)) ?_
        refine D_val rfl (.on 57 rfl rfl rfl) (fun ha => V_pick (b := true) (u := (.bool (!r53))) (v := (.bool false)) (EN ha (.tmp rfl rfl) rfl) (EN ha (.tmp rfl rfl) rfl) (EN ha (.bool _) rfl)) ?_
        refine D_val rfl .no (fun ha => V_pick (b := false) (u := (.bool true)) (v := (.bool (!r53))) (EN ha (.tmp rfl rfl) rfl) (EN ha (.bool _) rfl) (EN ha (.tmp rfl rfl) rfl)) ?_
        refine D_nil ?_
        obtain rfl := Option.some.inj hF
        exact ⟨_, _, rfl, (EqL.cons rfl (EqL.cons rfl (EqL.cons rfl (EqL.cons rfl (EqL.cons rfl (EqL.cons rfl (EqL.nil))))))).eq, (.sel (.rd (.t (.t (.t (.t (.t (.t .h)))))) rfl (.rd (.t (.t (.t (.t (.t (.t (.t .h))))))) rfl (.rd (.t (.t (.t (.t (.t (.t (.t (.t .h)))))))) rfl (.rd (.t (.t (.t (.t (.t (.t (.t (.t (.t .h))))))))) rfl (.cons (.t (.t .h)) (.rd (.t (.t .h)) rfl (.rd (.t (.t (.t .h))) rfl .nil))))))))⟩
      rw [hg45]
      try rw [hg45] at hF; dsimp only [cond_true, cond_false] at hF
      iterate 11 refine D_off 60 rfl rfl rfl rfl ?_
      refine D_val rfl (.on 57 rfl rfl rfl) (fun ha => V_pick (b := false) (u := undef) (v := (.bool false)) (EN ha (.tmp rfl rfl) rfl) (EN ha (.tmp rfl rfl) rfl) (EN ha (.bool _) rfl)) ?_
      refine D_val rfl .no (fun ha => V_pick (b := false) (u := (.bool true)) (v := (.bool false)) (EN ha (.tmp rfl rfl) rfl) (EN ha (.bool _) rfl) (EN ha (.tmp rfl rfl) rfl)) ?_
      refine D_nil ?_
      obtain rfl := Option.some.inj hF
      exact ⟨_, _, rfl, (EqL.cons rfl (EqL.cons rfl (EqL.cons rfl (EqL.cons rfl (EqL.cons rfl (EqL.cons rfl (EqL.nil))))))).eq, (.sel (.rd (.t (.t (.t (.t .h)))) rfl (.rd (.t (.t (.t (.t (.t .h))))) rfl (.rd (.t (.t (.t (.t (.t (.t .h)))))) rfl (.rd (.t (.t (.t (.t (.t (.t (.t .h))))))) rfl (.cons .h (.rd .h rfl (.rd (.t .h) rfl .nil))))))))⟩
    rintro _ _ ⟨c56, g85, rfl, rfl, hE⟩
    replace hF := hO32
    clear hO32
    try dsimp only at hF
    refine K_ent hE ?_
    refine CW_cond (b := c56) (.tmp rfl rfl) (fun hb84 => ?_) (fun hb84 => ?_)
    · rw [if_pos hb84] at hF
      refine K_region (C_val (V_assign (v := (.bool false)) (.bool _)) ?_)
      refine C_nil (CW_ret ?_)
      obtain rfl := Option.some.inj hF
      replace hF := hO26
      try dsimp only at hF
      obtain rfl := Option.some.inj hF
      exact End_ret () (.tmp rfl rfl .nil) rfl (.sel .nil)
    rw [if_neg (by rw [hb84]; exact Bool.false_ne_true)] at hF
    refine CW_skip (K_region (C_val (V_assign (v := (.int .i64 0)) (.int _ _)) ?_))
    refine C_nil (CW_block (CW_loop (m := x18.Facts.length) (fun m58 f' cs' => ∃ (g : Fr) (k60 : Nat) (rest61 : List Fact), m58 = rest61.length ∧ f' = updL g [(0, v0_0.v), (1, v1_0.v), (5, (.pointer (some ⟨k1, 0, some 0⟩))), (7, (.int .i64 (k16 : Int))), (8, (.pointer (some ⟨k30, 0, some 0⟩))), (9, (.int .i64 (k60 : Int)))] ∧ List.drop k60 x18.Facts = rest61 ∧ Ent cs' [crd (RdS 3 rdInt) v0_0.v a_s, crd (RdS 108 rd108) v1_0.v a_l, cboR k1 44 (.agg [v2_0.v, (.int .i64 a_c.Age)].toArray), crd (RdS 147 rd147) v2_0.v a_c.Entries, cbox k30 147 (.agg [(.int .i64 x18.Access.Method), p29.1.v, p29.2.v, (.int .i64 x18.At)].toArray), crd (RdS 3 rdInt) p29.1.v x18.Access.Values, crd (RdS 80 rd80) p29.2.v x18.Facts] ∧ s_IsCache_L2 a_l x18 rest61 k60 = some o25) ⟨_, 0, _, rfl, (EqL.cons rfl (EqL.cons rfl (EqL.cons rfl (EqL.cons rfl (EqL.cons rfl (EqL.cons rfl (EqL.nil))))))).eq, rfl, (.sel (.rd .h rfl (.rd (.t .h) rfl (.rd (.t (.t .h)) rfl (.rd (.t (.t (.t .h))) rfl (.cons (.t (.t (.t (.t .h)))) (.rd (.t (.t (.t (.t .h)))) rfl (.rd (.t (.t (.t (.t (.t .h))))) rfl .nil)))))))), hF⟩ ?_))
    clear hF
    rintro m58 _ _ ⟨g59, k60, rest61, rfl, rfl, hd63, hE, hF⟩
    refine K_ent hE ?_
    clear hE
    refine K_pure (c := crd (RdS 80 rd80) p29.2.v x18.Facts) (.t (.t (.t (.t (.t (.t .h)))))) crd_bound (fun hbd68 => ?_)
    rcases rest61 with _ | ⟨x62, rest61⟩
    · have hk64 := List.drop_eq_nil_iff.1 hd63
      have hfe67 : (decide (((k60 : Int) : Int) < (x18.Facts.length : Int))) = false := decide_eq_false (by omega)
      rw [s_IsCache_L2] at hF
      refine K_in (K_region (Cm (.int .i64 (k60 : Int)) rfl rfl ?_))
      refine C_val (V_fieldAddr (off := 2) fd147_1 (.tmp rfl rfl)) ?_
      refine C_at (.t (.t (.t (.t .h)))) (fun hp => V_load (v := p29.2.v) ag39 (.tmp rfl rfl) hp.2 rfl rfl) ?_
      refine C_at (.t (.t (.t (.t (.t (.t .h)))))) (fun hp => V_lenR (l := x18.Facts.length) sl39 (.tmp rfl rfl) (crd_len hp)) ?_
      refine C_val (V_lss (i := (k60 : Int)) (j := (x18.Facts.length : Int)) (.tmp rfl rfl) (.tmp rfl rfl)) ?_
      refine C_nil (CW_cond (b := (decide (((k60 : Int) : Int) < (x18.Facts.length : Int)))) (.tmp rfl rfl) (fun hb => absurd (hfe67.symm.trans hb) (by decide)) (fun _ => ?_))
      refine CW_exit ?_
      iterate 2 refine CThen_exit ?_
      refine CIn_self ?_
      obtain rfl := Option.some.inj hF
      exact ⟨_, rfl, (EqL.cons rfl (EqL.cons rfl (EqL.cons rfl (EqL.cons rfl (EqL.nil))))).eq, (.sel (.rd .h rfl (.rd (.t .h) rfl (.rd (.t (.t .h)) rfl (.rd (.t (.t (.t .h))) rfl .nil)))))⟩
    obtain ⟨hk64, hx65, hd66⟩ := drop_cons hd63
    have hfe67 : (decide (((k60 : Int) : Int) < (x18.Facts.length : Int))) = true := decide_eq_true (by omega)
    rw [s_IsCache_L2] at hF
    refine K_in (K_region (Cm (.int .i64 (k60 : Int)) rfl rfl ?_))
    refine C_val (V_fieldAddr (off := 2) fd147_1 (.tmp rfl rfl)) ?_
    refine C_at (.t (.t (.t (.t .h)))) (fun hp => V_load (v := p29.2.v) ag39 (.tmp rfl rfl) hp.2 rfl rfl) ?_
    refine C_at (.t (.t (.t (.t (.t (.t .h)))))) (fun hp => V_lenR (l := x18.Facts.length) sl39 (.tmp rfl rfl) (crd_len hp)) ?_
    refine C_val (V_lss (i := (k60 : Int)) (j := (x18.Facts.length : Int)) (.tmp rfl rfl) (.tmp rfl rfl)) ?_
    refine C_nil (CW_cond (b := (decide (((k60 : Int) : Int) < (x18.Facts.length : Int)))) (.tmp rfl rfl) (fun _ => ?_) (fun hb => absurd (hfe67.symm.trans hb) (by decide)))
    refine CW_skip (K_block (K_draw [0, 1, 2, 3, 4, 5, 6, 7, 8, 9, 10, 11, 12, 13, 14, 15] [0, 0, 2, 6, 15, 31, 0, 64, 192, 0, 512, 0, 3584, 7680, 16383, 32767] [14] mixed (by decide +kernel) ?_))
    refine Dm v1_0.v rfl rfl rfl rfl ?_
    refine D_val rfl .no (fun ha => V_fieldAddr (off := 0) fd147_0 (EN ha (.tmp rfl rfl) rfl)) ?_
    refine D_val rfl .no (fun ha => V_fieldAddr (off := 0) fd105_0 (EN ha (.tmp rfl rfl) rfl)) ?_
    refine D_atO rfl .no (.t (.t (.t (.t .h)))) (fun ha hp => V_load (v := (.int .i64 x18.Access.Method)) ag3 (EN ha (.tmp rfl rfl) rfl) hp.2 rfl rfl) ?_
    obtain ⟨x69, hx70, hF⟩ := bind_some hF
    obtain ⟨hp71, hx72⟩ := ix_some hx70
    refine D_idx (a := x69) sl37 ty108.sz rfl .no (.tmp rfl rfl) (.tmp rfl rfl) rfl rfl (.t .h) hp71 hx72 (fun k73 j74 => ?_)
    refine D_ldA1 (ul108_0_108 x69) ag108 ty108.sz rfl rfl .no (.tmp rfl rfl) rfl .h la108_0_108 (fun p75 => ?_)
    refine D_val rfl .no (fun ha => V_fieldAddr (off := 0) fd147_0 (EN ha (.tmp rfl rfl) rfl)) ?_
    refine D_val rfl .no (fun ha => V_fieldAddr (off := 1) fd105_1 (EN ha (.tmp rfl rfl) rfl)) ?_
    refine D_atO rfl .no (.t (.t (.t (.t (.t (.t .h)))))) (fun ha hp => V_load (v := p29.1.v) ag22 (EN ha (.tmp rfl rfl) rfl) hp.2 rfl rfl) ?_
    refine D_val rfl .no (fun ha => V_fieldAddr (off := 2) fd147_1 (EN ha (.tmp rfl rfl) rfl)) ?_
    refine D_atO rfl .no (.t (.t (.t (.t (.t (.t .h)))))) (fun ha hp => V_load (v := p29.2.v) ag39 (EN ha (.tmp rfl rfl) rfl) hp.2 rfl rfl) ?_
    refine Dm (.int .i64 (k60 : Int)) rfl rfl rfl rfl ?_
    refine D_idx (a := x62) sl39 ty80.sz rfl .no (.tmp rfl rfl) (.tmp rfl rfl) rfl rfl (.t (.t (.t (.t (.t (.t (.t (.t .h)))))))) (Int.natCast_nonneg k60) hx65 (fun k76 j77 => ?_)
    refine D_ldA1 (ul80_0_80 x62) ag80 ty80.sz rfl rfl .no (.tmp rfl rfl) rfl .h la80_0_80 (fun p78 => ?_)
    obtain ⟨r79, hx80, hF⟩ := bind_some hF
    refine D_act0 rfl rfl .no (.rd (.t (.t .h)) rfl (.rd (.t (.t (.t (.t (.t (.t (.t (.t (.t .h))))))))) rfl (.rd .h rfl .nil))) (.dep rfl (.dep rfl (.dep rfl .nil))) (fun ha => X_callS cf99 (.cons (EN ha (.tmp rfl rfl) rfl) (.cons (EN ha (.tmp rfl rfl) rfl) (.cons (EN ha (.tmp rfl rfl) rfl) .nil))) (s_l5Fits_ok x69 p75 x18.Access.Values p29.1 x62 p78 _ hx80)) (fun _ => ?_)
    refine D_val rfl .no (fun ha => V_not (b := r79) (EN ha (.tmp rfl rfl) rfl)) ?_
    refine D_nil (CW_cond (b := (!r79)) (.tmp rfl rfl) (fun hb83 => ?_) (fun hb83 => ?_))
    · rw [if_pos hb83] at hF
      refine K_region (C_val (V_assign (v := (.bool false)) (.bool _)) ?_)
      refine C_nil (CW_ret ?_)
      obtain rfl := Option.some.inj hF
      replace hF := hO26
      try dsimp only at hF
      obtain rfl := Option.some.inj hF
      exact End_ret () (.tmp rfl rfl .nil) rfl (.sel .nil)
    rw [if_neg (by rw [hb83]; exact Bool.false_ne_true)] at hF
    refine CW_skip (CW_region (Cm (.int .i64 (k60 : Int)) rfl rfl ?_))
    refine C_val (V_add (i := (k60 : Int)) (j := 1) (.tmp rfl rfl) (.int _ _)) ?_
    refine Ca (.int .i64 (IntKind.i64.wrap ((k60 : Int) + 1))) rfl rfl ?_
    refine C_nil ?_
    have hw82 : IntKind.i64.wrap ((k60 : Int) + 1) = ((k60 + 1 : Nat) : Int) := by rw [wrap_in (by omega) (by omega)]; rfl
    rw [hw82]
    exact ⟨_, Nat.lt_succ_self _, _, k60 + 1, rest61, rfl, (EqL.cons rfl (EqL.cons rfl (EqL.cons rfl (EqL.cons rfl (EqL.cons rfl (EqL.cons rfl (EqL.nil))))))).eq, hd66, (.sel (.rd (.t (.t (.t (.t .h)))) rfl (.rd (.t (.t (.t (.t (.t .h))))) rfl (.rd (.t (.t (.t (.t (.t (.t .h)))))) rfl (.rd (.t (.t (.t (.t (.t (.t (.t .h))))))) rfl (.cons (.t (.t (.t (.t (.t (.t (.t (.t .h)))))))) (.rd (.t (.t (.t (.t (.t (.t (.t (.t .h)))))))) rfl (.rd (.t (.t (.t (.t (.t (.t (.t (.t (.t .h))))))))) rfl .nil)))))))), hF⟩
  rintro _ _ ⟨g87, rfl, rfl, hE⟩
  replace hF := hO26
  clear hO26
  try dsimp only at hF
  refine K_ent hE ?_
  refine CW_region (Cm (.int .i64 (k16 : Int)) rfl rfl ?_)
  refine C_val (V_add (i := (k16 : Int)) (j := 1) (.tmp rfl rfl) (.int _ _)) ?_
  refine Ca (.int .i64 (IntKind.i64.wrap ((k16 : Int) + 1))) rfl rfl ?_
  refine C_nil ?_
  have hw86 : IntKind.i64.wrap ((k16 : Int) + 1) = ((k16 + 1 : Nat) : Int) := by rw [wrap_in (by omega) (by omega)]; rfl
  rw [hw86]
  exact ⟨_, Nat.lt_succ_self _, _, k16 + 1, rest17, rfl, (EqL.cons rfl (EqL.cons rfl (EqL.cons rfl (EqL.cons rfl (EqL.nil))))).eq, hd22, (.sel (.rd .h rfl (.rd (.t .h) rfl (.rd (.t (.t .h)) rfl (.rd (.t (.t (.t .h))) rfl .nil))))), hF⟩

/-! spec.l18Times -/
def s_l18Times_L1 (a_times : List Int) : List Int → Nat → Option (Bool)
  | [], k4 => some (decide (((a_times.length : Int) : Int) ≤ 1000))
  | x6 :: rest5, k4 => ((s_l1In x6 0 10000).bind fun r17 =>
      bif (!r17) then (some true)
      else (bif (decide ((0 : Int) < (k4 : Int))) then ((ix a_times (IntKind.i64.wrap ((k4 : Int) - 1))).bind fun x24 =>
          some (decide ((x6 : Int) < x24)))
        else (some false))).bind fun o13 =>
    match o13 with
    | c30 => if c30 then (
        some false)
      else (
        s_l18Times_L1 a_times rest5 (k4 + 1))
def s_l18Times (a_times : List Int) : Option (Bool) :=
  s_l18Times_L1 a_times a_times 0
theorem s_l18Times_ok (a_times : List Int) (v0_0 : Sv) (R : Bool) (hF : s_l18Times a_times = some R) :
    Fw.Spec Tryz.prog 60 [v0_0.v] [crd (RdS 3 rdInt) v0_0.v a_times] (fun _ : Unit => (.bool R)) (fun _ => []) := by
  refine Spec_enter (n := 35) Tryz.func60 rfl rfl (rs := [.tmp 2]) rfl rfl rfl ?_
  intro H0 F0
  unfold s_l18Times at hF
  refine K_region (C_val (V_assign (v := (.bool false)) (.bool _)) ?_)
  refine C_nil (K_in (K_region (C_val (V_assign (v := (.int .i64 0)) (.int _ _)) ?_)))
  refine C_nil (CW_block (CW_loop (m := a_times.length) (fun m2 f' cs' => ∃ (g : Fr) (k4 : Nat) (rest5 : List Int), m2 = rest5.length ∧ f' = updL g [(0, v0_0.v), (3, (.int .i64 (k4 : Int)))] ∧ List.drop k4 a_times = rest5 ∧ Ent cs' [crd (RdS 3 rdInt) v0_0.v a_times] ∧ s_l18Times_L1 a_times rest5 k4 = some R) ⟨_, 0, _, rfl, (EqL.cons rfl (EqL.cons rfl (EqL.nil))).eq, rfl, (.sel (.rd .h rfl .nil)), hF⟩ ?_))
  clear hF
  rintro m2 _ _ ⟨g3, k4, rest5, rfl, rfl, hd7, hE, hF⟩
  refine K_ent hE ?_
  clear hE
  refine K_pure (c := crd (RdS 3 rdInt) v0_0.v a_times) .h crd_bound (fun hbd12 => ?_)
  rcases rest5 with _ | ⟨x6, rest5⟩
  · have hk8 := List.drop_eq_nil_iff.1 hd7
    have hfe11 : (decide (((k4 : Int) : Int) < (a_times.length : Int))) = false := decide_eq_false (by omega)
    rw [s_l18Times_L1] at hF
    refine K_in (K_region (Cm (.int .i64 (k4 : Int)) rfl rfl ?_))
    refine Cm v0_0.v rfl rfl ?_
    refine C_at .h (fun hp => V_lenR (l := a_times.length) sl22 (.tmp rfl rfl) (crd_len hp)) ?_
    refine C_val (V_lss (i := (k4 : Int)) (j := (a_times.length : Int)) (.tmp rfl rfl) (.tmp rfl rfl)) ?_
    refine C_nil (CW_cond (b := (decide (((k4 : Int) : Int) < (a_times.length : Int)))) (.tmp rfl rfl) (fun hb => absurd (hfe11.symm.trans hb) (by decide)) (fun _ => ?_))
    refine CW_exit ?_
    iterate 2 refine CThen_exit ?_
    refine CIn_self (K_region (Cm v0_0.v rfl rfl ?_))
    refine C_at .h (fun hp => V_lenR (l := a_times.length) sl22 (.tmp rfl rfl) (crd_len hp)) ?_
    refine C_val (V_leq (i := (a_times.length : Int)) (j := 1000) (.tmp rfl rfl) (.int _ _)) ?_
    refine Ca (.bool (decide (((a_times.length : Int) : Int) ≤ 1000))) rfl rfl ?_
    refine C_nil (CW_ret ?_)
    obtain rfl := Option.some.inj hF
    exact End_ret () (.tmp rfl rfl .nil) rfl (.sel .nil)
  obtain ⟨hk8, hx9, hd10⟩ := drop_cons hd7
  have hfe11 : (decide (((k4 : Int) : Int) < (a_times.length : Int))) = true := decide_eq_true (by omega)
  rw [s_l18Times_L1] at hF
  refine K_in (K_region (Cm (.int .i64 (k4 : Int)) rfl rfl ?_))
  refine Cm v0_0.v rfl rfl ?_
  refine C_at .h (fun hp => V_lenR (l := a_times.length) sl22 (.tmp rfl rfl) (crd_len hp)) ?_
  refine C_val (V_lss (i := (k4 : Int)) (j := (a_times.length : Int)) (.tmp rfl rfl) (.tmp rfl rfl)) ?_
  refine C_nil (CW_cond (b := (decide (((k4 : Int) : Int) < (a_times.length : Int)))) (.tmp rfl rfl) (fun _ => ?_) (fun hb => absurd (hfe11.symm.trans hb) (by decide)))
  refine CW_skip (K_block ?_)
  obtain ⟨o13, hio13, hO14⟩ := bind_some hF
  refine K_draw [0, 1, 2, 3, 4, 5, 6, 7, 8, 9, 10, 11, 12, 13, 14, 15, 16, 17, 18, 19, 20, 21] [0, 0, 3, 7, 15, 31, 63, 127, 255, 511, 1023, 1023, 4095, 8191, 1023, 1023, 33791, 115711, 246783, 524287, 1048575, 2097151] [4] mixed (by decide +kernel) ?_
  refine D_cut (fun f' cs' => ∃ (c30 : Bool) (g : Fr), c30 = o13 ∧ f' = updL g [(0, v0_0.v), (3, (.int .i64 (k4 : Int))), (31, (.bool c30))] ∧ Ent cs' [crd (RdS 3 rdInt) v0_0.v a_times]) ?_ ?_
  · replace hF := hio13
    refine Dm v0_0.v rfl rfl rfl rfl ?_
    refine Dm (.int .i64 (k4 : Int)) rfl rfl rfl rfl ?_
    refine D_idx (a := x6) sl22 ty3.sz rfl .no (.tmp rfl rfl) (.tmp rfl rfl) rfl rfl .h (Int.natCast_nonneg k4) hx9 (fun k15 j16 => ?_)
    refine D_ldS (w := (.int .i64 x6)) ag3 rfl .no (.tmp rfl rfl) rfl .h ls3_0 ?_
    obtain ⟨r17, hx18, hF⟩ := bind_some hF
    refine D_act0 rfl rfl .no .nil .nil (fun ha => X_callS cf59 (.cons (EN ha (.tmp rfl rfl) rfl) (.cons (EN ha (.int _ _) rfl) (.cons (EN ha (.int _ _) rfl) .nil))) (s_l1In_ok x6 0 10000 _ hx18)) (fun _ => ?_)
    refine D_val rfl .no (fun ha => V_not (b := r17) (EN ha (.tmp rfl rfl) rfl)) ?_
    refine Dm (.bool (!r17)) rfl rfl rfl rfl ?_
    rcases Bool.eq_false_or_eq_true (!r17) with hg20 | hg20
    · rw [hg20]
      try rw [hg20] at hF; dsimp only [cond_true, cond_false] at hF
      iterate 3 refine D_off 16 rfl rfl rfl rfl ?_
      iterate 10 refine D_offU 19 rfl rfl rfl rfl ?_
      refine D_off 16 rfl rfl rfl rfl ?_
      refine D_val rfl .no (fun ha => V_pick (b := true) (u := (.bool true)) (v := undef) (EN ha (.tmp rfl rfl) rfl) (EN ha (.bool _) rfl) (EN ha (.tmp rfl rfl) rfl)) ?_
      refine D_nil ?_
      obtain rfl := Option.some.inj hF
      exact ⟨_, _, rfl, (EqL.cons rfl (EqL.cons rfl (EqL.cons rfl (EqL.nil)))).eq, (.sel (.rd (.t .h) rfl .nil))⟩
    rw [hg20]
    try rw [hg20] at hF; dsimp only [cond_true, cond_false] at hF
    refine D_val rfl (.on 16 rfl rfl rfl) (fun ha => V_move (v := (.int .i64 (k4 : Int))) (EN ha (.tmp rfl rfl) rfl)) ?_
    refine D_val rfl (.on 16 rfl rfl rfl) (fun ha => V_gtr (i := (k4 : Int)) (j := 0) (EN ha (.tmp rfl rfl) rfl) (EN ha (.int _ _) rfl)) ?_
    refine D_val rfl (.on 16 rfl rfl rfl) (fun ha => V_move (v := (.bool (decide ((0 : Int) < (k4 : Int))))) (EN ha (.tmp rfl rfl) rfl)) ?_
    rcases Bool.eq_false_or_eq_true (decide ((0 : Int) < (k4 : Int))) with hg21 | hg21
    · rw [hg21]
      try rw [hg21] at hF; dsimp only [cond_true, cond_false] at hF
      refine D_val rfl (.on 19 rfl rfl rfl) (fun ha => V_move (v := v0_0.v) (EN ha (.tmp rfl rfl) rfl)) ?_
      refine D_val rfl (.on 19 rfl rfl rfl) (fun ha => V_move (v := (.int .i64 (k4 : Int))) (EN ha (.tmp rfl rfl) rfl)) ?_
      refine D_idx (a := x6) sl22 ty3.sz rfl (.on 19 rfl rfl rfl) (.tmp rfl rfl) (.tmp rfl rfl) rfl rfl (.t .h) (Int.natCast_nonneg k4) hx9 (fun k22 j23 => ?_)
      refine D_ldS (w := (.int .i64 x6)) ag3 rfl (.on 19 rfl rfl rfl) (.tmp rfl rfl) rfl .h ls3_0 ?_
      refine D_val rfl (.on 19 rfl rfl rfl) (fun ha => V_move (v := v0_0.v) (EN ha (.tmp rfl rfl) rfl)) ?_
      refine D_val rfl (.on 19 rfl rfl rfl) (fun ha => V_move (v := (.int .i64 (k4 : Int))) (EN ha (.tmp rfl rfl) rfl)) ?_
      refine D_val rfl (.on 19 rfl rfl rfl) (fun ha => V_sub (i := (k4 : Int)) (j := 1) (EN ha (.tmp rfl rfl) rfl) (EN ha (.int _ _) rfl)) ?_
      obtain ⟨x24, hx25, hF⟩ := bind_some hF
      obtain ⟨hp26, hx27⟩ := ix_some hx25
      refine D_idx (a := x24) sl22 ty3.sz rfl (.on 19 rfl rfl rfl) (.tmp rfl rfl) (.tmp rfl rfl) rfl rfl (.t (.t .h)) hp26 hx27 (fun k28 j29 => ?_)
      refine D_ldS (w := (.int .i64 x24)) ag3 rfl (.on 19 rfl rfl rfl) (.tmp rfl rfl) rfl .h ls3_0 ?_
      refine D_val rfl (.on 19 rfl rfl rfl) (fun ha => V_lss (i := x6) (j := x24) (EN ha (.tmp rfl rfl) rfl) (EN ha (.tmp rfl rfl) rfl)) ?_
      refine D_val rfl (.on 16 rfl rfl rfl) (fun ha => V_pick (b := true) (u := (.bool (decide ((x6 : Int) < x24)))) (v := (.bool false)) (EN ha (.tmp rfl rfl) rfl) (EN ha (.tmp rfl rfl) rfl) (EN ha (.bool _) rfl)) ?_
      refine D_val rfl .no (fun ha => V_pick (b := false) (u := (.bool true)) (v := (.bool (decide ((x6 : Int) < x24)))) (EN ha (.tmp rfl rfl) rfl) (EN ha (.bool _) rfl) (EN ha (.tmp rfl rfl) rfl)) ?_
      refine D_nil ?_
      obtain rfl := Option.some.inj hF
      exact ⟨_, _, rfl, (EqL.cons rfl (EqL.cons rfl (EqL.cons rfl (EqL.nil)))).eq, (.sel (.rd (.t (.t (.t .h))) rfl .nil))⟩
    rw [hg21]
    try rw [hg21] at hF; dsimp only [cond_true, cond_false] at hF
    iterate 10 refine D_off 19 rfl rfl rfl rfl ?_
    refine D_val rfl (.on 16 rfl rfl rfl) (fun ha => V_pick (b := false) (u := undef) (v := (.bool false)) (EN ha (.tmp rfl rfl) rfl) (EN ha (.tmp rfl rfl) rfl) (EN ha (.bool _) rfl)) ?_
    refine D_val rfl .no (fun ha => V_pick (b := false) (u := (.bool true)) (v := (.bool false)) (EN ha (.tmp rfl rfl) rfl) (EN ha (.bool _) rfl) (EN ha (.tmp rfl rfl) rfl)) ?_
    refine D_nil ?_
    obtain rfl := Option.some.inj hF
    exact ⟨_, _, rfl, (EqL.cons rfl (EqL.cons rfl (EqL.cons rfl (EqL.nil)))).eq, (.sel (.rd (.t .h) rfl .nil))⟩
  rintro _ _ ⟨c30, g33, rfl, rfl, hE⟩
  replace hF := hO14
  clear hO14
  try dsimp only at hF
  refine K_ent hE ?_
  refine CW_cond (b := c30) (.tmp rfl rfl) (fun hb32 => ?_) (fun hb32 => ?_)
  · rw [if_pos hb32] at hF
    refine K_region (C_val (V_assign (v := (.bool false)) (.bool _)) ?_)
    refine C_nil (CW_ret ?_)
    obtain rfl := Option.some.inj hF
    exact End_ret () (.tmp rfl rfl .nil) rfl (.sel .nil)
  rw [if_neg (by rw [hb32]; exact Bool.false_ne_true)] at hF
  refine CW_skip (CW_region (Cm (.int .i64 (k4 : Int)) rfl rfl ?_))
  refine C_val (V_add (i := (k4 : Int)) (j := 1) (.tmp rfl rfl) (.int _ _)) ?_
  refine Ca (.int .i64 (IntKind.i64.wrap ((k4 : Int) + 1))) rfl rfl ?_
  refine C_nil ?_
  have hw31 : IntKind.i64.wrap ((k4 : Int) + 1) = ((k4 + 1 : Nat) : Int) := by rw [wrap_in (by omega) (by omega)]; rfl
  rw [hw31]
  exact ⟨_, Nat.lt_succ_self _, _, k4 + 1, rest5, rfl, (EqL.cons rfl (EqL.cons rfl (EqL.nil))).eq, hd10, (.sel (.rd .h rfl .nil)), hF⟩

/-! spec.IsMediator -/
def s_IsMediator_L1 (a_m : Mediator) : List Access → Nat → Option (Bool)
  | [], k27 => ((s_l1In a_m.Now 0 10000).bind fun r38 =>
      bif r38 then (bif (decide (((a_m.Log.length : Int) : Int) ≤ 1000)) then (bif (((a_m.Times.length : Int) : Int) == (a_m.Log.length : Int)) then ((s_l18Times a_m.Times).bind fun r44 =>
            bif r44 then ((s_l1In a_m.Spent 0 1000000).bind fun r48 =>
              bif r48 then (some (decide (((a_m.Results.length : Int) : Int) ≤ 100)))
              else (some false))
            else (some false))
          else (some false))
        else (some false))
      else (some false)).bind fun o36 =>
    match o36 with
    | c52 => some c52
  | x29 :: rest28, k27 => (s_IsAccess a_m.Schema a_m.Methods x29).bind fun r57 =>
    if (!r57) then (
      some false)
    else (
      s_IsMediator_L1 a_m rest28 (k27 + 1))
def s_IsMediator (a_m : Mediator) : Option (Bool) :=
  ((s_IsSchema a_m.Schema).bind fun r4 =>
    bif (!r4) then (some true)
    else ((s_AreMethods a_m.Schema a_m.Methods).bind fun r8 =>
      bif (!r8) then (some true)
      else ((s_AreRules a_m.Schema a_m.Rules).bind fun r12 =>
        bif (!r12) then (some true)
        else ((s_IsSource a_m.Schema a_m.Source).bind fun r16 =>
          bif (!r16) then (some true)
          else ((s_IsCache a_m.Schema a_m.Methods a_m.Cache).bind fun r20 =>
            some (!r20)))))).bind fun o2 =>
  match o2 with
  | c23 => if c23 then (
      some false)
    else (
      s_IsMediator_L1 a_m a_m.Log 0)
theorem s_IsMediator_ok (a_m : Mediator) (v0_0 : Sv) (v0_1 : Sv) (v0_2 : Sv) (v0_3 : Sv) (v0_5 : Sv) (v0_8 : Sv) (v0_9 : Sv) (v0_11 : Sv) (R : Bool) (hF : s_IsMediator a_m = some R) :
    Fw.Spec Tryz.prog 19 [(.agg [v0_0.v, v0_1.v, v0_2.v, v0_3.v, (.int .i64 a_m.Source.Version), v0_5.v, (.int .i64 a_m.Cache.Age), (.int .i64 a_m.Now), v0_8.v, v0_9.v, (.int .i64 a_m.Spent), v0_11.v].toArray)] [crd (RdS 3 rdInt) v0_0.v a_m.Schema, crd (RdS 108 rd108) v0_1.v a_m.Methods, crd (RdS 110 rd110) v0_2.v a_m.Rules, crd (RdS 80 rd80) v0_3.v a_m.Source.Facts, crd (RdS 147 rd147) v0_5.v a_m.Cache.Entries, crd (RdS 105 rd105) v0_8.v a_m.Log, crd (RdS 3 rdInt) v0_9.v a_m.Times, crd (RdS 83 (RdS 22 (RdS 3 rdInt))) v0_11.v a_m.Results] (fun _ : Unit => (.bool R)) (fun _ => []) := by
  refine Spec_enter (n := 94) Tryz.func19 rfl rfl (rs := [.tmp 2]) rfl rfl rfl ?_
  intro H0 F0
  unfold s_IsMediator at hF
  refine K_region (C_newR rfl (N_box (g := false) (v := (.agg [v0_0.v, v0_1.v, v0_2.v, v0_3.v, (.int .i64 a_m.Source.Version), v0_5.v, (.int .i64 a_m.Cache.Age), (.int .i64 a_m.Now), v0_8.v, v0_9.v, (.int .i64 a_m.Spent), v0_11.v].toArray)) ty47.sz (.tmp rfl rfl) rfl) (fun k1 => ?_))
  refine C_val (V_assign (v := (.bool false)) (.bool _)) ?_
  refine C_nil (K_in ?_)
  obtain ⟨o2, hio2, hO3⟩ := bind_some hF
  refine K_region (C_cut (fun f' cs' => ∃ (c23 : Bool) (g : Fr), c23 = o2 ∧ f' = updL g [(1, (.pointer (some ⟨k1, 0, some 0⟩))), (41, (.bool c23))] ∧ Ent cs' [cboR k1 47 (.agg [v0_0.v, v0_1.v, v0_2.v, v0_3.v, (.int .i64 a_m.Source.Version), v0_5.v, (.int .i64 a_m.Cache.Age), (.int .i64 a_m.Now), v0_8.v, v0_9.v, (.int .i64 a_m.Spent), v0_11.v].toArray), crd (RdS 3 rdInt) v0_0.v a_m.Schema, crd (RdS 108 rd108) v0_1.v a_m.Methods, crd (RdS 110 rd110) v0_2.v a_m.Rules, crd (RdS 80 rd80) v0_3.v a_m.Source.Facts, crd (RdS 147 rd147) v0_5.v a_m.Cache.Entries, crd (RdS 105 rd105) v0_8.v a_m.Log, crd (RdS 3 rdInt) v0_9.v a_m.Times, crd (RdS 83 (RdS 22 (RdS 3 rdInt))) v0_11.v a_m.Results]) ?_ ?_)
  · replace hF := hio2
    refine C_val (V_fieldAddr (off := 0) fd47_0 (.tmp rfl rfl)) ?_
    refine C_at .h (fun hp => V_load (v := v0_0.v) ag22 (.tmp rfl rfl) hp.2 rfl rfl) ?_
    obtain ⟨r4, hx5, hF⟩ := bind_some hF
    refine C_x0 (.rd (.t .h) rfl .nil) (X_callS cf53 (.cons (.tmp rfl rfl) .nil) (s_IsSchema_ok a_m.Schema v0_0 _ hx5)) (fun _ => ?_)
    refine C_val (V_not (b := r4) (.tmp rfl rfl)) ?_
    refine Cm (.bool (!r4)) rfl rfl ?_
    rcases Bool.eq_false_or_eq_true (!r4) with hg7 | hg7
    · rw [hg7]
      try rw [hg7] at hF; dsimp only [cond_true, cond_false] at hF
      iterate 6 refine C_off (t := 8) rfl rfl rfl ?_
      refine C_val (V_pick (b := true) (u := (.bool true)) (v := undef) (.tmp rfl rfl) (.bool _) (.tmp rfl rfl)) ?_
      refine Cm (.bool true) rfl rfl ?_
      iterate 6 refine C_off (t := 16) rfl rfl rfl ?_
      refine C_val (V_pick (b := true) (u := (.bool true)) (v := undef) (.tmp rfl rfl) (.bool _) (.tmp rfl rfl)) ?_
      refine Cm (.bool true) rfl rfl ?_
      iterate 6 refine C_off (t := 24) rfl rfl rfl ?_
      refine C_val (V_pick (b := true) (u := (.bool true)) (v := undef) (.tmp rfl rfl) (.bool _) (.tmp rfl rfl)) ?_
      refine Cm (.bool true) rfl rfl ?_
      iterate 8 refine C_off (t := 32) rfl rfl rfl ?_
      refine C_val (V_pick (b := true) (u := (.bool true)) (v := undef) (.tmp rfl rfl) (.bool _) (.tmp rfl rfl)) ?_
      refine C_nil ?_
      obtain rfl := Option.some.inj hF
      exact ⟨_, _, rfl, (EqL.cons rfl (EqL.cons rfl (EqL.nil))).eq, (.sel (.rd .h rfl (.rd (.t .h) rfl (.rd (.t (.t .h)) rfl (.rd (.t (.t (.t .h))) rfl (.rd (.t (.t (.t (.t .h)))) rfl (.rd (.t (.t (.t (.t (.t .h))))) rfl (.rd (.t (.t (.t (.t (.t (.t .h)))))) rfl (.rd (.t (.t (.t (.t (.t (.t (.t .h))))))) rfl (.rd (.t (.t (.t (.t (.t (.t (.t (.t .h)))))))) rfl .nil))))))))))⟩
    rw [hg7]
    try rw [hg7] at hF; dsimp only [cond_true, cond_false] at hF
    refine C_on (t := 8) rfl rfl rfl ?_
    refine C_val (V_fieldAddr (off := 0) fd47_0 (.tmp rfl rfl)) ?_
    refine C_on (t := 8) rfl rfl rfl ?_
    refine C_at .h (fun hp => V_load (v := v0_0.v) ag22 (.tmp rfl rfl) hp.2 rfl rfl) ?_
    refine C_on (t := 8) rfl rfl rfl ?_
    refine C_val (V_fieldAddr (off := 1) fd47_1 (.tmp rfl rfl)) ?_
    refine C_on (t := 8) rfl rfl rfl ?_
    refine C_at .h (fun hp => V_load (v := v0_1.v) ag37 (.tmp rfl rfl) hp.2 rfl rfl) ?_
    refine C_on (t := 8) rfl rfl rfl ?_
    obtain ⟨r8, hx9, hF⟩ := bind_some hF
    refine C_x0 (.rd (.t .h) rfl (.rd (.t (.t .h)) rfl .nil)) (X_callS cf54 (.cons (.tmp rfl rfl) (.cons (.tmp rfl rfl) .nil)) (s_AreMethods_ok a_m.Schema v0_0 a_m.Methods v0_1 _ hx9)) (fun _ => ?_)
    refine C_on (t := 8) rfl rfl rfl ?_
    refine C_val (V_not (b := r8) (.tmp rfl rfl)) ?_
    refine C_val (V_pick (b := false) (u := (.bool true)) (v := (.bool (!r8))) (.tmp rfl rfl) (.bool _) (.tmp rfl rfl)) ?_
    refine Cm (.bool (!r8)) rfl rfl ?_
    rcases Bool.eq_false_or_eq_true (!r8) with hg11 | hg11
    · rw [hg11]
      try rw [hg11] at hF; dsimp only [cond_true, cond_false] at hF
      iterate 6 refine C_off (t := 16) rfl rfl rfl ?_
      refine C_val (V_pick (b := true) (u := (.bool true)) (v := undef) (.tmp rfl rfl) (.bool _) (.tmp rfl rfl)) ?_
      refine Cm (.bool true) rfl rfl ?_
      iterate 6 refine C_off (t := 24) rfl rfl rfl ?_
      refine C_val (V_pick (b := true) (u := (.bool true)) (v := undef) (.tmp rfl rfl) (.bool _) (.tmp rfl rfl)) ?_
      refine Cm (.bool true) rfl rfl ?_
      iterate 8 refine C_off (t := 32) rfl rfl rfl ?_
      refine C_val (V_pick (b := true) (u := (.bool true)) (v := undef) (.tmp rfl rfl) (.bool _) (.tmp rfl rfl)) ?_
      refine C_nil ?_
      obtain rfl := Option.some.inj hF
      exact ⟨_, _, rfl, (EqL.cons rfl (EqL.cons rfl (EqL.nil))).eq, (.sel (.rd .h rfl (.rd (.t .h) rfl (.rd (.t (.t .h)) rfl (.rd (.t (.t (.t .h))) rfl (.rd (.t (.t (.t (.t .h)))) rfl (.rd (.t (.t (.t (.t (.t .h))))) rfl (.rd (.t (.t (.t (.t (.t (.t .h)))))) rfl (.rd (.t (.t (.t (.t (.t (.t (.t .h))))))) rfl (.rd (.t (.t (.t (.t (.t (.t (.t (.t .h)))))))) rfl .nil))))))))))⟩
    rw [hg11]
    try rw [hg11] at hF; dsimp only [cond_true, cond_false] at hF
    refine C_on (t := 16) rfl rfl rfl ?_
    refine C_val (V_fieldAddr (off := 0) fd47_0 (.tmp rfl rfl)) ?_
    refine C_on (t := 16) rfl rfl rfl ?_
    refine C_at .h (fun hp => V_load (v := v0_0.v) ag22 (.tmp rfl rfl) hp.2 rfl rfl) ?_
    refine C_on (t := 16) rfl rfl rfl ?_
    refine C_val (V_fieldAddr (off := 2) fd47_2 (.tmp rfl rfl)) ?_
    refine C_on (t := 16) rfl rfl rfl ?_
    refine C_at .h (fun hp => V_load (v := v0_2.v) ag38 (.tmp rfl rfl) hp.2 rfl rfl) ?_
    refine C_on (t := 16) rfl rfl rfl ?_
    obtain ⟨r12, hx13, hF⟩ := bind_some hF
    refine C_x0 (.rd (.t .h) rfl (.rd (.t (.t (.t .h))) rfl .nil)) (X_callS cf55 (.cons (.tmp rfl rfl) (.cons (.tmp rfl rfl) .nil)) (s_AreRules_ok a_m.Schema v0_0 a_m.Rules v0_2 _ hx13)) (fun _ => ?_)
    refine C_on (t := 16) rfl rfl rfl ?_
    refine C_val (V_not (b := r12) (.tmp rfl rfl)) ?_
    refine C_val (V_pick (b := false) (u := (.bool true)) (v := (.bool (!r12))) (.tmp rfl rfl) (.bool _) (.tmp rfl rfl)) ?_
    refine Cm (.bool (!r12)) rfl rfl ?_
    rcases Bool.eq_false_or_eq_true (!r12) with hg15 | hg15
    · rw [hg15]
      try rw [hg15] at hF; dsimp only [cond_true, cond_false] at hF
      iterate 6 refine C_off (t := 24) rfl rfl rfl ?_
      refine C_val (V_pick (b := true) (u := (.bool true)) (v := undef) (.tmp rfl rfl) (.bool _) (.tmp rfl rfl)) ?_
      refine Cm (.bool true) rfl rfl ?_
      iterate 8 refine C_off (t := 32) rfl rfl rfl ?_
      refine C_val (V_pick (b := true) (u := (.bool true)) (v := undef) (.tmp rfl rfl) (.bool _) (.tmp rfl rfl)) ?_
      refine C_nil ?_
      obtain rfl := Option.some.inj hF
      exact ⟨_, _, rfl, (EqL.cons rfl (EqL.cons rfl (EqL.nil))).eq, (.sel (.rd .h rfl (.rd (.t .h) rfl (.rd (.t (.t .h)) rfl (.rd (.t (.t (.t .h))) rfl (.rd (.t (.t (.t (.t .h)))) rfl (.rd (.t (.t (.t (.t (.t .h))))) rfl (.rd (.t (.t (.t (.t (.t (.t .h)))))) rfl (.rd (.t (.t (.t (.t (.t (.t (.t .h))))))) rfl (.rd (.t (.t (.t (.t (.t (.t (.t (.t .h)))))))) rfl .nil))))))))))⟩
    rw [hg15]
    try rw [hg15] at hF; dsimp only [cond_true, cond_false] at hF
    refine C_on (t := 24) rfl rfl rfl ?_
    refine C_val (V_fieldAddr (off := 0) fd47_0 (.tmp rfl rfl)) ?_
    refine C_on (t := 24) rfl rfl rfl ?_
    refine C_at .h (fun hp => V_load (v := v0_0.v) ag22 (.tmp rfl rfl) hp.2 rfl rfl) ?_
    refine C_on (t := 24) rfl rfl rfl ?_
    refine C_val (V_fieldAddr (off := 3) fd47_3 (.tmp rfl rfl)) ?_
    refine C_on (t := 24) rfl rfl rfl ?_
    refine C_at .h (fun hp => V_loadA (s := 2) (l := [v0_3.v, (.int .i64 a_m.Source.Version)]) ag41 ty41.sz (.tmp rfl rfl) hp.2 rfl (by decide) (Nat.le_of_ble_eq_true rfl) rfl) ?_
    refine C_on (t := 24) rfl rfl rfl ?_
    obtain ⟨r16, hx17, hF⟩ := bind_some hF
    refine C_x0 (.rd (.t .h) rfl (.rd (.t (.t (.t (.t .h)))) rfl .nil)) (X_callS cf56 (.cons (.tmp rfl rfl) (.cons (.tmp rfl rfl) .nil)) (s_IsSource_ok a_m.Schema v0_0 a_m.Source v0_3 _ hx17)) (fun _ => ?_)
    refine C_on (t := 24) rfl rfl rfl ?_
    refine C_val (V_not (b := r16) (.tmp rfl rfl)) ?_
    refine C_val (V_pick (b := false) (u := (.bool true)) (v := (.bool (!r16))) (.tmp rfl rfl) (.bool _) (.tmp rfl rfl)) ?_
    refine Cm (.bool (!r16)) rfl rfl ?_
    rcases Bool.eq_false_or_eq_true (!r16) with hg19 | hg19
    · rw [hg19]
      try rw [hg19] at hF; dsimp only [cond_true, cond_false] at hF
      iterate 8 refine C_off (t := 32) rfl rfl rfl ?_
      refine C_val (V_pick (b := true) (u := (.bool true)) (v := undef) (.tmp rfl rfl) (.bool _) (.tmp rfl rfl)) ?_
      refine C_nil ?_
      obtain rfl := Option.some.inj hF
      exact ⟨_, _, rfl, (EqL.cons rfl (EqL.cons rfl (EqL.nil))).eq, (.sel (.rd .h rfl (.rd (.t .h) rfl (.rd (.t (.t .h)) rfl (.rd (.t (.t (.t .h))) rfl (.rd (.t (.t (.t (.t .h)))) rfl (.rd (.t (.t (.t (.t (.t .h))))) rfl (.rd (.t (.t (.t (.t (.t (.t .h)))))) rfl (.rd (.t (.t (.t (.t (.t (.t (.t .h))))))) rfl (.rd (.t (.t (.t (.t (.t (.t (.t (.t .h)))))))) rfl .nil))))))))))⟩
    rw [hg19]
    try rw [hg19] at hF; dsimp only [cond_true, cond_false] at hF
    refine C_on (t := 32) rfl rfl rfl ?_
    refine C_val (V_fieldAddr (off := 0) fd47_0 (.tmp rfl rfl)) ?_
    refine C_on (t := 32) rfl rfl rfl ?_
    refine C_at .h (fun hp => V_load (v := v0_0.v) ag22 (.tmp rfl rfl) hp.2 rfl rfl) ?_
    refine C_on (t := 32) rfl rfl rfl ?_
    refine C_val (V_fieldAddr (off := 1) fd47_1 (.tmp rfl rfl)) ?_
    refine C_on (t := 32) rfl rfl rfl ?_
    refine C_at .h (fun hp => V_load (v := v0_1.v) ag37 (.tmp rfl rfl) hp.2 rfl rfl) ?_
    refine C_on (t := 32) rfl rfl rfl ?_
    refine C_val (V_fieldAddr (off := 5) fd47_4 (.tmp rfl rfl)) ?_
    refine C_on (t := 32) rfl rfl rfl ?_
    refine C_at .h (fun hp => V_loadA (s := 2) (l := [v0_5.v, (.int .i64 a_m.Cache.Age)]) ag44 ty44.sz (.tmp rfl rfl) hp.2 rfl (by decide) (Nat.le_of_ble_eq_true rfl) rfl) ?_
    refine C_on (t := 32) rfl rfl rfl ?_
    obtain ⟨r20, hx21, hF⟩ := bind_some hF
    refine C_x0 (.rd (.t .h) rfl (.rd (.t (.t .h)) rfl (.rd (.t (.t (.t (.t (.t .h))))) rfl .nil))) (X_callS cf57 (.cons (.tmp rfl rfl) (.cons (.tmp rfl rfl) (.cons (.tmp rfl rfl) .nil))) (s_IsCache_ok a_m.Schema v0_0 a_m.Methods v0_1 a_m.Cache v0_5 _ hx21)) (fun _ => ?_)
    refine C_on (t := 32) rfl rfl rfl ?_
    refine C_val (V_not (b := r20) (.tmp rfl rfl)) ?_
    refine C_val (V_pick (b := false) (u := (.bool true)) (v := (.bool (!r20))) (.tmp rfl rfl) (.bool _) (.tmp rfl rfl)) ?_
    refine C_nil ?_
    obtain rfl := Option.some.inj hF
    exact ⟨_, _, rfl, (EqL.cons rfl (EqL.cons rfl (EqL.nil))).eq, (.sel (.rd .h rfl (.rd (.t .h) rfl (.rd (.t (.t .h)) rfl (.rd (.t (.t (.t .h))) rfl (.rd (.t (.t (.t (.t .h)))) rfl (.rd (.t (.t (.t (.t (.t .h))))) rfl (.rd (.t (.t (.t (.t (.t (.t .h)))))) rfl (.rd (.t (.t (.t (.t (.t (.t (.t .h))))))) rfl (.rd (.t (.t (.t (.t (.t (.t (.t (.t .h)))))))) rfl .nil))))))))))⟩
  rintro _ _ ⟨c23, g63, rfl, rfl, hE⟩
  replace hF := hO3
  clear hO3
  try dsimp only at hF
  refine K_ent hE ?_
  refine CW_cond (b := c23) (.tmp rfl rfl) (fun hb62 => ?_) (fun hb62 => ?_)
  · rw [if_pos hb62] at hF
    refine K_region (C_val (V_assign (v := (.bool false)) (.bool _)) ?_)
    refine C_nil (CW_ret ?_)
    obtain rfl := Option.some.inj hF
    exact End_ret () (.tmp rfl rfl .nil) rfl (.sel .nil)
  rw [if_neg (by rw [hb62]; exact Bool.false_ne_true)] at hF
  refine CW_skip (K_in (K_region (C_val (V_assign (v := (.int .i64 0)) (.int _ _)) ?_)))
  refine C_nil (CW_block (CW_loop (m := a_m.Log.length) (fun m25 f' cs' => ∃ (g : Fr) (k27 : Nat) (rest28 : List Access), m25 = rest28.length ∧ f' = updL g [(1, (.pointer (some ⟨k1, 0, some 0⟩))), (3, (.int .i64 (k27 : Int)))] ∧ List.drop k27 a_m.Log = rest28 ∧ Ent cs' [cboR k1 47 (.agg [v0_0.v, v0_1.v, v0_2.v, v0_3.v, (.int .i64 a_m.Source.Version), v0_5.v, (.int .i64 a_m.Cache.Age), (.int .i64 a_m.Now), v0_8.v, v0_9.v, (.int .i64 a_m.Spent), v0_11.v].toArray), crd (RdS 3 rdInt) v0_0.v a_m.Schema, crd (RdS 108 rd108) v0_1.v a_m.Methods, crd (RdS 110 rd110) v0_2.v a_m.Rules, crd (RdS 80 rd80) v0_3.v a_m.Source.Facts, crd (RdS 147 rd147) v0_5.v a_m.Cache.Entries, crd (RdS 105 rd105) v0_8.v a_m.Log, crd (RdS 3 rdInt) v0_9.v a_m.Times, crd (RdS 83 (RdS 22 (RdS 3 rdInt))) v0_11.v a_m.Results] ∧ s_IsMediator_L1 a_m rest28 k27 = some R) ⟨_, 0, _, rfl, (EqL.cons rfl (EqL.cons rfl (EqL.nil))).eq, rfl, (.sel (.rd .h rfl (.rd (.t .h) rfl (.rd (.t (.t .h)) rfl (.rd (.t (.t (.t .h))) rfl (.rd (.t (.t (.t (.t .h)))) rfl (.rd (.t (.t (.t (.t (.t .h))))) rfl (.rd (.t (.t (.t (.t (.t (.t .h)))))) rfl (.rd (.t (.t (.t (.t (.t (.t (.t .h))))))) rfl (.rd (.t (.t (.t (.t (.t (.t (.t (.t .h)))))))) rfl .nil)))))))))), hF⟩ ?_))
  clear hF
  rintro m25 _ _ ⟨g26, k27, rest28, rfl, rfl, hd30, hE, hF⟩
  refine K_ent hE ?_
  clear hE
  refine K_pure (c := crd (RdS 105 rd105) v0_8.v a_m.Log) (.t (.t (.t (.t (.t (.t .h)))))) crd_bound (fun hbd35 => ?_)
  rcases rest28 with _ | ⟨x29, rest28⟩
  · have hk31 := List.drop_eq_nil_iff.1 hd30
    have hfe34 : (decide (((k27 : Int) : Int) < (a_m.Log.length : Int))) = false := decide_eq_false (by omega)
    rw [s_IsMediator_L1] at hF
    refine K_in (K_region (Cm (.int .i64 (k27 : Int)) rfl rfl ?_))
    refine C_val (V_fieldAddr (off := 8) fd47_6 (.tmp rfl rfl)) ?_
    refine C_at .h (fun hp => V_load (v := v0_8.v) ag45 (.tmp rfl rfl) hp.2 rfl rfl) ?_
    refine C_at (.t (.t (.t (.t (.t (.t .h)))))) (fun hp => V_lenR (l := a_m.Log.length) sl45 (.tmp rfl rfl) (crd_len hp)) ?_
    refine C_val (V_lss (i := (k27 : Int)) (j := (a_m.Log.length : Int)) (.tmp rfl rfl) (.tmp rfl rfl)) ?_
    refine C_nil (CW_cond (b := (decide (((k27 : Int) : Int) < (a_m.Log.length : Int)))) (.tmp rfl rfl) (fun hb => absurd (hfe34.symm.trans hb) (by decide)) (fun _ => ?_))
    refine CW_exit ?_
    iterate 2 refine CThen_exit ?_
    refine CIn_self ?_
    obtain ⟨o36, hio36, hO37⟩ := bind_some hF
    refine K_region (C_cut (fun f' cs' => ∃ (c52 : Bool) (g : Fr), c52 = o36 ∧ f' = updL g [(2, (.bool c52))] ∧ Ent cs' []) ?_ ?_)
    · replace hF := hio36
      refine C_val (V_fieldAddr (off := 7) fd47_5 (.tmp rfl rfl)) ?_
      refine C_at .h (fun hp => V_load (v := (.int .i64 a_m.Now)) ag3 (.tmp rfl rfl) hp.2 rfl rfl) ?_
      obtain ⟨r38, hx39, hF⟩ := bind_some hF
      refine C_x0 .nil (X_callS cf59 (.cons (.tmp rfl rfl) (.cons (.int _ _) (.cons (.int _ _) .nil))) (s_l1In_ok a_m.Now 0 10000 _ hx39)) (fun _ => ?_)
      refine Cm (.bool r38) rfl rfl ?_
      rcases Bool.eq_false_or_eq_true r38 with hg41 | hg41
      · rw [hg41]
        try rw [hg41] at hF; dsimp only [cond_true, cond_false] at hF
        refine C_on (t := 63) rfl rfl rfl ?_
        refine C_val (V_fieldAddr (off := 8) fd47_6 (.tmp rfl rfl)) ?_
        refine C_on (t := 63) rfl rfl rfl ?_
        refine C_at .h (fun hp => V_load (v := v0_8.v) ag45 (.tmp rfl rfl) hp.2 rfl rfl) ?_
        refine C_on (t := 63) rfl rfl rfl ?_
        refine C_at (.t (.t (.t (.t (.t (.t .h)))))) (fun hp => V_lenR (l := a_m.Log.length) sl45 (.tmp rfl rfl) (crd_len hp)) ?_
        refine C_on (t := 63) rfl rfl rfl ?_
        refine C_val (V_leq (i := (a_m.Log.length : Int)) (j := 1000) (.tmp rfl rfl) (.int _ _)) ?_
        refine C_val (V_pick (b := true) (u := (.bool (decide (((a_m.Log.length : Int) : Int) ≤ 1000)))) (v := (.bool false)) (.tmp rfl rfl) (.tmp rfl rfl) (.bool _)) ?_
        refine Cm (.bool (decide (((a_m.Log.length : Int) : Int) ≤ 1000))) rfl rfl ?_
        rcases Bool.eq_false_or_eq_true (decide (((a_m.Log.length : Int) : Int) ≤ 1000)) with hg42 | hg42
        · rw [hg42]
          try rw [hg42] at hF; dsimp only [cond_true, cond_false] at hF
          refine C_on (t := 69) rfl rfl rfl ?_
          refine C_val (V_fieldAddr (off := 9) fd47_7 (.tmp rfl rfl)) ?_
          refine C_on (t := 69) rfl rfl rfl ?_
          refine C_at .h (fun hp => V_load (v := v0_9.v) ag22 (.tmp rfl rfl) hp.2 rfl rfl) ?_
          refine C_on (t := 69) rfl rfl rfl ?_
          refine C_at (.t (.t (.t (.t (.t (.t (.t .h))))))) (fun hp => V_lenR (l := a_m.Times.length) sl22 (.tmp rfl rfl) (crd_len hp)) ?_
          refine C_on (t := 69) rfl rfl rfl ?_
          refine C_val (V_fieldAddr (off := 8) fd47_6 (.tmp rfl rfl)) ?_
          refine C_on (t := 69) rfl rfl rfl ?_
          refine C_at .h (fun hp => V_load (v := v0_8.v) ag45 (.tmp rfl rfl) hp.2 rfl rfl) ?_
          refine C_on (t := 69) rfl rfl rfl ?_
          refine C_at (.t (.t (.t (.t (.t (.t .h)))))) (fun hp => V_lenR (l := a_m.Log.length) sl45 (.tmp rfl rfl) (crd_len hp)) ?_
          refine C_on (t := 69) rfl rfl rfl ?_
          refine C_val (V_eql (i := (a_m.Times.length : Int)) (j := (a_m.Log.length : Int)) (.tmp rfl rfl) (.tmp rfl rfl)) ?_
          refine C_val (V_pick (b := true) (u := (.bool (((a_m.Times.length : Int) : Int) == (a_m.Log.length : Int)))) (v := (.bool false)) (.tmp rfl rfl) (.tmp rfl rfl) (.bool _)) ?_
          refine Cm (.bool (((a_m.Times.length : Int) : Int) == (a_m.Log.length : Int))) rfl rfl ?_
          rcases Bool.eq_false_or_eq_true (((a_m.Times.length : Int) : Int) == (a_m.Log.length : Int)) with hg43 | hg43
          · rw [hg43]
            try rw [hg43] at hF; dsimp only [cond_true, cond_false] at hF
            refine C_on (t := 78) rfl rfl rfl ?_
            refine C_val (V_fieldAddr (off := 9) fd47_7 (.tmp rfl rfl)) ?_
            refine C_on (t := 78) rfl rfl rfl ?_
            refine C_at .h (fun hp => V_load (v := v0_9.v) ag22 (.tmp rfl rfl) hp.2 rfl rfl) ?_
            refine C_on (t := 78) rfl rfl rfl ?_
            obtain ⟨r44, hx45, hF⟩ := bind_some hF
            refine C_x0 (.rd (.t (.t (.t (.t (.t (.t (.t .h))))))) rfl .nil) (X_callS cf60 (.cons (.tmp rfl rfl) .nil) (s_l18Times_ok a_m.Times v0_9 _ hx45)) (fun _ => ?_)
            refine C_val (V_pick (b := true) (u := (.bool r44)) (v := (.bool false)) (.tmp rfl rfl) (.tmp rfl rfl) (.bool _)) ?_
            refine Cm (.bool r44) rfl rfl ?_
            rcases Bool.eq_false_or_eq_true r44 with hg47 | hg47
            · rw [hg47]
              try rw [hg47] at hF; dsimp only [cond_true, cond_false] at hF
              refine C_on (t := 83) rfl rfl rfl ?_
              refine C_val (V_fieldAddr (off := 10) fd47_8 (.tmp rfl rfl)) ?_
              refine C_on (t := 83) rfl rfl rfl ?_
              refine C_at .h (fun hp => V_load (v := (.int .i64 a_m.Spent)) ag3 (.tmp rfl rfl) hp.2 rfl rfl) ?_
              refine C_on (t := 83) rfl rfl rfl ?_
              obtain ⟨r48, hx49, hF⟩ := bind_some hF
              refine C_x0 .nil (X_callS cf59 (.cons (.tmp rfl rfl) (.cons (.int _ _) (.cons (.int _ _) .nil))) (s_l1In_ok a_m.Spent 0 1000000 _ hx49)) (fun _ => ?_)
              refine C_val (V_pick (b := true) (u := (.bool r48)) (v := (.bool false)) (.tmp rfl rfl) (.tmp rfl rfl) (.bool _)) ?_
              refine Cm (.bool r48) rfl rfl ?_
              rcases Bool.eq_false_or_eq_true r48 with hg51 | hg51
              · rw [hg51]
                try rw [hg51] at hF; dsimp only [cond_true, cond_false] at hF
                refine C_on (t := 88) rfl rfl rfl ?_
                refine C_val (V_fieldAddr (off := 11) fd47_9 (.tmp rfl rfl)) ?_
                refine C_on (t := 88) rfl rfl rfl ?_
                refine C_at .h (fun hp => V_load (v := v0_11.v) ag32 (.tmp rfl rfl) hp.2 rfl rfl) ?_
                refine C_on (t := 88) rfl rfl rfl ?_
                refine C_at (.t (.t (.t (.t (.t (.t (.t (.t .h)))))))) (fun hp => V_lenR (l := a_m.Results.length) sl32 (.tmp rfl rfl) (crd_len hp)) ?_
                refine C_on (t := 88) rfl rfl rfl ?_
                refine C_val (V_leq (i := (a_m.Results.length : Int)) (j := 100) (.tmp rfl rfl) (.int _ _)) ?_
                refine C_val (V_pick (b := true) (u := (.bool (decide (((a_m.Results.length : Int) : Int) ≤ 100)))) (v := (.bool false)) (.tmp rfl rfl) (.tmp rfl rfl) (.bool _)) ?_
                refine Ca (.bool (decide (((a_m.Results.length : Int) : Int) ≤ 100))) rfl rfl ?_
                refine C_nil ?_
                obtain rfl := Option.some.inj hF
                exact ⟨_, _, rfl, (EqL.cons rfl (EqL.nil)).eq, (.sel .nil)⟩
              rw [hg51]
              try rw [hg51] at hF; dsimp only [cond_true, cond_false] at hF
              iterate 4 refine C_off (t := 88) rfl rfl rfl ?_
              refine C_val (V_pick (b := false) (u := undef) (v := (.bool false)) (.tmp rfl rfl) (.tmp rfl rfl) (.bool _)) ?_
              refine Ca (.bool false) rfl rfl ?_
              refine C_nil ?_
              obtain rfl := Option.some.inj hF
              exact ⟨_, _, rfl, (EqL.cons rfl (EqL.nil)).eq, (.sel .nil)⟩
            rw [hg47]
            try rw [hg47] at hF; dsimp only [cond_true, cond_false] at hF
            iterate 3 refine C_off (t := 83) rfl rfl rfl ?_
            refine C_val (V_pick (b := false) (u := undef) (v := (.bool false)) (.tmp rfl rfl) (.tmp rfl rfl) (.bool _)) ?_
            refine Cm (.bool false) rfl rfl ?_
            iterate 4 refine C_off (t := 88) rfl rfl rfl ?_
            refine C_val (V_pick (b := false) (u := undef) (v := (.bool false)) (.tmp rfl rfl) (.tmp rfl rfl) (.bool _)) ?_
            refine Ca (.bool false) rfl rfl ?_
            refine C_nil ?_
            obtain rfl := Option.some.inj hF
            exact ⟨_, _, rfl, (EqL.cons rfl (EqL.nil)).eq, (.sel .nil)⟩
          rw [hg43]
          try rw [hg43] at hF; dsimp only [cond_true, cond_false] at hF
          iterate 3 refine C_off (t := 78) rfl rfl rfl ?_
          refine C_val (V_pick (b := false) (u := undef) (v := (.bool false)) (.tmp rfl rfl) (.tmp rfl rfl) (.bool _)) ?_
          refine Cm (.bool false) rfl rfl ?_
          iterate 3 refine C_off (t := 83) rfl rfl rfl ?_
          refine C_val (V_pick (b := false) (u := undef) (v := (.bool false)) (.tmp rfl rfl) (.tmp rfl rfl) (.bool _)) ?_
          refine Cm (.bool false) rfl rfl ?_
          iterate 4 refine C_off (t := 88) rfl rfl rfl ?_
          refine C_val (V_pick (b := false) (u := undef) (v := (.bool false)) (.tmp rfl rfl) (.tmp rfl rfl) (.bool _)) ?_
          refine Ca (.bool false) rfl rfl ?_
          refine C_nil ?_
          obtain rfl := Option.some.inj hF
          exact ⟨_, _, rfl, (EqL.cons rfl (EqL.nil)).eq, (.sel .nil)⟩
        rw [hg42]
        try rw [hg42] at hF; dsimp only [cond_true, cond_false] at hF
        iterate 7 refine C_off (t := 69) rfl rfl rfl ?_
        refine C_val (V_pick (b := false) (u := undef) (v := (.bool false)) (.tmp rfl rfl) (.tmp rfl rfl) (.bool _)) ?_
        refine Cm (.bool false) rfl rfl ?_
        iterate 3 refine C_off (t := 78) rfl rfl rfl ?_
        refine C_val (V_pick (b := false) (u := undef) (v := (.bool false)) (.tmp rfl rfl) (.tmp rfl rfl) (.bool _)) ?_
        refine Cm (.bool false) rfl rfl ?_
        iterate 3 refine C_off (t := 83) rfl rfl rfl ?_
        refine C_val (V_pick (b := false) (u := undef) (v := (.bool false)) (.tmp rfl rfl) (.tmp rfl rfl) (.bool _)) ?_
        refine Cm (.bool false) rfl rfl ?_
        iterate 4 refine C_off (t := 88) rfl rfl rfl ?_
        refine C_val (V_pick (b := false) (u := undef) (v := (.bool false)) (.tmp rfl rfl) (.tmp rfl rfl) (.bool _)) ?_
        refine Ca (.bool false) rfl rfl ?_
        refine C_nil ?_
        obtain rfl := Option.some.inj hF
        exact ⟨_, _, rfl, (EqL.cons rfl (EqL.nil)).eq, (.sel .nil)⟩
      rw [hg41]
      try rw [hg41] at hF; dsimp only [cond_true, cond_false] at hF
      iterate 4 refine C_off (t := 63) rfl rfl rfl ?_
      refine C_val (V_pick (b := false) (u := undef) (v := (.bool false)) (.tmp rfl rfl) (.tmp rfl rfl) (.bool _)) ?_
      refine Cm (.bool false) rfl rfl ?_
      iterate 7 refine C_off (t := 69) rfl rfl rfl ?_
      refine C_val (V_pick (b := false) (u := undef) (v := (.bool false)) (.tmp rfl rfl) (.tmp rfl rfl) (.bool _)) ?_
      refine Cm (.bool false) rfl rfl ?_
      iterate 3 refine C_off (t := 78) rfl rfl rfl ?_
      refine C_val (V_pick (b := false) (u := undef) (v := (.bool false)) (.tmp rfl rfl) (.tmp rfl rfl) (.bool _)) ?_
      refine Cm (.bool false) rfl rfl ?_
      iterate 3 refine C_off (t := 83) rfl rfl rfl ?_
      refine C_val (V_pick (b := false) (u := undef) (v := (.bool false)) (.tmp rfl rfl) (.tmp rfl rfl) (.bool _)) ?_
      refine Cm (.bool false) rfl rfl ?_
      iterate 4 refine C_off (t := 88) rfl rfl rfl ?_
      refine C_val (V_pick (b := false) (u := undef) (v := (.bool false)) (.tmp rfl rfl) (.tmp rfl rfl) (.bool _)) ?_
      refine Ca (.bool false) rfl rfl ?_
      refine C_nil ?_
      obtain rfl := Option.some.inj hF
      exact ⟨_, _, rfl, (EqL.cons rfl (EqL.nil)).eq, (.sel .nil)⟩
    rintro _ _ ⟨c52, g53, rfl, rfl, hE⟩
    replace hF := hO37
    clear hO37
    try dsimp only at hF
    refine K_ent hE ?_
    refine CW_ret ?_
    obtain rfl := Option.some.inj hF
    exact End_ret () (.tmp rfl rfl .nil) rfl (.sel .nil)
  obtain ⟨hk31, hx32, hd33⟩ := drop_cons hd30
  have hfe34 : (decide (((k27 : Int) : Int) < (a_m.Log.length : Int))) = true := decide_eq_true (by omega)
  rw [s_IsMediator_L1] at hF
  refine K_in (K_region (Cm (.int .i64 (k27 : Int)) rfl rfl ?_))
  refine C_val (V_fieldAddr (off := 8) fd47_6 (.tmp rfl rfl)) ?_
  refine C_at .h (fun hp => V_load (v := v0_8.v) ag45 (.tmp rfl rfl) hp.2 rfl rfl) ?_
  refine C_at (.t (.t (.t (.t (.t (.t .h)))))) (fun hp => V_lenR (l := a_m.Log.length) sl45 (.tmp rfl rfl) (crd_len hp)) ?_
  refine C_val (V_lss (i := (k27 : Int)) (j := (a_m.Log.length : Int)) (.tmp rfl rfl) (.tmp rfl rfl)) ?_
  refine C_nil (CW_cond (b := (decide (((k27 : Int) : Int) < (a_m.Log.length : Int)))) (.tmp rfl rfl) (fun _ => ?_) (fun hb => absurd (hfe34.symm.trans hb) (by decide)))
  refine CW_skip (K_block (K_draw [0, 1, 2, 3, 4, 5, 6, 7, 8, 9, 10] [0, 1, 0, 4, 0, 16, 0, 112, 240, 511, 1023] [9] mixed (by decide +kernel) ?_))
  refine D_val rfl .no (fun ha => V_fieldAddr (off := 0) fd47_0 (EN ha (.tmp rfl rfl) rfl)) ?_
  refine D_at rfl .no .h rfl (fun ha hp => V_load (v := v0_0.v) ag22 (EN ha (.tmp rfl rfl) rfl) hp.2 rfl rfl) ?_
  refine D_val rfl .no (fun ha => V_fieldAddr (off := 1) fd47_1 (EN ha (.tmp rfl rfl) rfl)) ?_
  refine D_at rfl .no .h rfl (fun ha hp => V_load (v := v0_1.v) ag37 (EN ha (.tmp rfl rfl) rfl) hp.2 rfl rfl) ?_
  refine D_val rfl .no (fun ha => V_fieldAddr (off := 8) fd47_6 (EN ha (.tmp rfl rfl) rfl)) ?_
  refine D_at rfl .no .h rfl (fun ha hp => V_load (v := v0_8.v) ag45 (EN ha (.tmp rfl rfl) rfl) hp.2 rfl rfl) ?_
  refine Dm (.int .i64 (k27 : Int)) rfl rfl rfl rfl ?_
  refine D_idx (a := x29) sl45 ty105.sz rfl .no (.tmp rfl rfl) (.tmp rfl rfl) rfl rfl (.t (.t (.t (.t (.t (.t .h)))))) (Int.natCast_nonneg k27) hx32 (fun k54 j55 => ?_)
  refine D_ldA1 (ul105_0_105 x29) ag105 ty105.sz rfl rfl .no (.tmp rfl rfl) rfl .h la105_0_105 (fun p56 => ?_)
  obtain ⟨r57, hx58, hF⟩ := bind_some hF
  refine D_act0 rfl rfl .no (.rd (.t (.t (.t .h))) rfl (.rd (.t (.t (.t (.t .h)))) rfl (.rd .h rfl .nil))) .nil (fun ha => X_callS cf58 (.cons (EN ha (.tmp rfl rfl) rfl) (.cons (EN ha (.tmp rfl rfl) rfl) (.cons (EN ha (.tmp rfl rfl) rfl) .nil))) (s_IsAccess_ok a_m.Schema v0_0 a_m.Methods v0_1 x29 p56 _ hx58)) (fun _ => ?_)
  refine D_val rfl .no (fun ha => V_not (b := r57) (EN ha (.tmp rfl rfl) rfl)) ?_
  refine D_nil (CW_cond (b := (!r57)) (.tmp rfl rfl) (fun hb61 => ?_) (fun hb61 => ?_))
  · rw [if_pos hb61] at hF
    refine K_region (C_val (V_assign (v := (.bool false)) (.bool _)) ?_)
    refine C_nil (CW_ret ?_)
    obtain rfl := Option.some.inj hF
    exact End_ret () (.tmp rfl rfl .nil) rfl (.sel .nil)
  rw [if_neg (by rw [hb61]; exact Bool.false_ne_true)] at hF
  refine CW_skip (CW_region (Cm (.int .i64 (k27 : Int)) rfl rfl ?_))
  refine C_val (V_add (i := (k27 : Int)) (j := 1) (.tmp rfl rfl) (.int _ _)) ?_
  refine Ca (.int .i64 (IntKind.i64.wrap ((k27 : Int) + 1))) rfl rfl ?_
  refine C_nil ?_
  have hw60 : IntKind.i64.wrap ((k27 : Int) + 1) = ((k27 + 1 : Nat) : Int) := by rw [wrap_in (by omega) (by omega)]; rfl
  rw [hw60]
  exact ⟨_, Nat.lt_succ_self _, _, k27 + 1, rest28, rfl, (EqL.cons rfl (EqL.cons rfl (EqL.nil))).eq, hd33, (.sel (.rd (.t (.t .h)) rfl (.rd (.t (.t (.t .h))) rfl (.rd (.t (.t (.t (.t .h)))) rfl (.rd (.t (.t (.t (.t (.t .h))))) rfl (.rd (.t (.t (.t (.t (.t (.t .h)))))) rfl (.rd (.t (.t (.t (.t (.t (.t (.t .h))))))) rfl (.rd (.t (.t (.t (.t (.t (.t (.t (.t .h)))))))) rfl (.rd (.t (.t (.t (.t (.t (.t (.t (.t (.t .h))))))))) rfl (.rd (.t (.t (.t (.t (.t (.t (.t (.t (.t (.t .h)))))))))) rfl .nil)))))))))), hF⟩

/-! spec.FormatInt -/
def s_FormatInt_L1 : Nat → Int → (List UInt8) → Option ((List UInt8))
  | 0, _, _ => none
  | m5 + 1, c3, c4 => if ((c3 : Int) != 0) then (
      if (decide (((Int.tmod c3 10) : Int) < 0)) then (
        (cat [(u8of (IntKind.i64.wrap (48 + (IntKind.i64.wrap (-(Int.tmod c3 10))))))] c4).bind fun x14 =>
        s_FormatInt_L1 m5 (IntKind.i64.wrap (Int.tdiv c3 10)) x14)
      else (
        (cat [(u8of (IntKind.i64.wrap (48 + (Int.tmod c3 10))))] c4).bind fun x19 =>
        s_FormatInt_L1 m5 (IntKind.i64.wrap (Int.tdiv c3 10)) x19))
    else (
      some c4)
def s_FormatInt (fuel : Nat) (a_n : Int) : Option ((List UInt8)) :=
  if ((a_n : Int) == 0) then (
    some [48])
  else (
    (s_FormatInt_L1 fuel a_n []).bind fun o1 =>
    match o1 with
    | c25 => if (decide ((a_n : Int) < 0)) then (
        (cat [45] c25).bind fun x26 =>
        some x26)
      else (
        some c25))
theorem s_FormatInt_ok (fuel : Nat) (a_n : Int) (R : (List UInt8)) (hF : s_FormatInt fuel a_n = some R) :
    Fw.Spec Tryz.prog 20 [(.int .i64 a_n)] [] (fun _ : Unit => (sv R)) (fun _ => []) := by
  refine Spec_enter (n := 31) Tryz.func20 rfl rfl (rs := [.tmp 2]) rfl rfl rfl ?_
  intro H0 F0
  unfold s_FormatInt at hF
  refine K_region (C_val (V_assign (v := (sv [])) (.sv _)) ?_)
  refine C_nil (K_in (K_region (Cm (.int .i64 a_n) rfl rfl ?_)))
  refine C_val (V_eql (i := a_n) (j := 0) (.tmp rfl rfl) (.int _ _)) ?_
  refine C_nil (CW_cond (b := ((a_n : Int) == 0)) (.tmp rfl rfl) (fun hb32 => ?_) (fun hb32 => ?_))
  · rw [if_pos hb32] at hF
    refine K_region (C_val (V_assign (v := (sv [48])) (.sv _)) ?_)
    refine C_nil (CW_ret ?_)
    obtain rfl := Option.some.inj hF
    exact End_ret () (.tmp rfl rfl .nil) rfl (.sel .nil)
  rw [if_neg (by rw [hb32]; exact Bool.false_ne_true)] at hF
  refine CW_skip (K_region (C_val (V_assign (v := (sv [])) (.sv _)) ?_))
  refine C_nil (K_region (Cm (.int .i64 a_n) rfl rfl ?_))
  refine C_val (V_lss (i := a_n) (j := 0) (.tmp rfl rfl) (.int _ _)) ?_
  refine Ca (.bool (decide ((a_n : Int) < 0))) rfl rfl ?_
  refine C_nil ?_
  obtain ⟨o1, hio1, hO2⟩ := bind_some hF
  refine K_cut (fun f' cs' => ∃ (c25 : List UInt8) (g : Fr), c25 = o1 ∧ f' = updL g [(3, (sv c25)), (4, (.bool (decide ((a_n : Int) < 0))))] ∧ Ent cs' []) ?_ ?_
  · replace hF := hio1
    refine CW_block (CW_loop (m := fuel) (fun m5 f' cs' => ∃ (g : Fr) (c3 : Int) (c4 : List UInt8), f' = updL g [(0, (.int .i64 c3)), (3, (sv c4)), (4, (.bool (decide ((a_n : Int) < 0))))] ∧ Ent cs' [] ∧ s_FormatInt_L1 m5 c3 c4 = some o1) ⟨_, _, _, (EqL.cons rfl (EqL.cons rfl (EqL.cons rfl (EqL.nil)))).eq, (.sel .nil), hF⟩ ?_)
    clear hF
    rintro m5 _ _ ⟨g6, c3, c4, rfl, hE, hF⟩
    refine K_ent hE ?_
    clear hE
    rcases m5 with _ | m5
    · rw [s_FormatInt_L1] at hF
      exact absurd hF (by simp)
    rw [s_FormatInt_L1] at hF
    refine K_in (K_region (Cm (.int .i64 c3) rfl rfl ?_))
    refine C_val (V_neq (i := c3) (j := 0) (.tmp rfl rfl) (.int _ _)) ?_
    refine C_nil (CW_cond (b := ((c3 : Int) != 0)) (.tmp rfl rfl) (fun hb24 => ?_) (fun hb24 => ?_))
    · rw [if_pos hb24] at hF
      refine CW_skip (CW_block (K_region (Cm (.int .i64 c3) rfl rfl ?_)))
      refine C_val (V_rem (i := c3) (j := 10) (.tmp rfl rfl) (.int _ _) (by decide)) ?_
      refine Ca (.int .i64 (Int.tmod c3 10)) rfl rfl ?_
      refine C_nil (K_in (K_region (Cm (.int .i64 (Int.tmod c3 10)) rfl rfl ?_)))
      refine C_val (V_lss (i := (Int.tmod c3 10)) (j := 0) (.tmp rfl rfl) (.int _ _)) ?_
      refine C_nil (CW_cond (b := (decide (((Int.tmod c3 10) : Int) < 0))) (.tmp rfl rfl) (fun hb23 => ?_) (fun hb23 => ?_))
      · rw [if_pos hb23] at hF
        refine CW_region (Cm (.int .i64 (Int.tmod c3 10)) rfl rfl ?_)
        refine C_val (V_neg (i := (Int.tmod c3 10)) (.tmp rfl rfl)) ?_
        refine Ca (.int .i64 (IntKind.i64.wrap (-(Int.tmod c3 10)))) rfl rfl ?_
        refine C_nil (K_region (Cm (.int .i64 (IntKind.i64.wrap (-(Int.tmod c3 10)))) rfl rfl ?_))
        refine C_val (V_add (i := 48) (j := (IntKind.i64.wrap (-(Int.tmod c3 10)))) (.int _ _) (.tmp rfl rfl)) ?_
        refine C_val (V_convU8 (i := (IntKind.i64.wrap (48 + (IntKind.i64.wrap (-(Int.tmod c3 10)))))) ik3 ik5 (.tmp rfl rfl)) ?_
        refine C_new rfl (N_buildSliceT (g := true) sl107 ty5 (.cons (.tmp rfl rfl) .nil) (vs := [(.int .u8 ((u8of (IntKind.i64.wrap (48 + (IntKind.i64.wrap (-(Int.tmod c3 10)))))).toNat : Int))]) rfl rfl rfl (by intro v hv; simp at hv; rcases hv with rfl <;> rfl)) (fun k13 => ?_)
        refine C_conv (.cons .h .nil) (own_lit (Ro := (roE rdU8)) (E := 5) (F := ([] ++ [])) (xs := ([(u8of (IntKind.i64.wrap (48 + (IntKind.i64.wrap (-(Int.tmod c3 10))))))] : List UInt8)) (MkL_cons (Mk_pure (fun _ => rfl)) MkL_nil apps) rfl rfl) apps ?_
        refine C_at .h (fun hp => V_bytes1 (u := (u8of (IntKind.i64.wrap (48 + (IntKind.i64.wrap (-(Int.tmod c3 10))))))) sl107 ik5 str9 ty5.sz (.tmp rfl rfl) hp) ?_
        refine Cm (sv c4) rfl rfl ?_
        obtain ⟨x14, hx15, hF⟩ := bind_some hF
        obtain ⟨hq17, hz16⟩ := cat_some hx15
        refine C_val (V_concatN (s := [(u8of (IntKind.i64.wrap (48 + (IntKind.i64.wrap (-(Int.tmod c3 10))))))]) (t := c4) (u := x14) (.tmp rfl rfl) (.tmp rfl rfl) hx15) ?_
        refine Ca (sv x14) rfl rfl ?_
        refine C_nil (CW_region (Cm (.int .i64 c3) rfl rfl ?_))
        refine C_val (V_quo (i := c3) (j := 10) (.tmp rfl rfl) (.int _ _) (by decide)) ?_
        refine Ca (.int .i64 (IntKind.i64.wrap (Int.tdiv c3 10))) rfl rfl ?_
        refine C_nil ?_
        exact ⟨m5, Nat.lt_succ_self _, _, _, _, (EqL.cons rfl (EqL.cons rfl (EqL.cons rfl (EqL.nil)))).eq, (.sel .nil), hF⟩
      rw [if_neg (by rw [hb23]; exact Bool.false_ne_true)] at hF
      refine CW_skip (K_region (Cm (.int .i64 (Int.tmod c3 10)) rfl rfl ?_))
      refine C_val (V_add (i := 48) (j := (Int.tmod c3 10)) (.int _ _) (.tmp rfl rfl)) ?_
      refine C_val (V_convU8 (i := (IntKind.i64.wrap (48 + (Int.tmod c3 10)))) ik3 ik5 (.tmp rfl rfl)) ?_
      refine C_new rfl (N_buildSliceT (g := true) sl107 ty5 (.cons (.tmp rfl rfl) .nil) (vs := [(.int .u8 ((u8of (IntKind.i64.wrap (48 + (Int.tmod c3 10)))).toNat : Int))]) rfl rfl rfl (by intro v hv; simp at hv; rcases hv with rfl <;> rfl)) (fun k18 => ?_)
      refine C_conv (.cons .h .nil) (own_lit (Ro := (roE rdU8)) (E := 5) (F := ([] ++ [])) (xs := ([(u8of (IntKind.i64.wrap (48 + (Int.tmod c3 10))))] : List UInt8)) (MkL_cons (Mk_pure (fun _ => rfl)) MkL_nil apps) rfl rfl) apps ?_
      refine C_at .h (fun hp => V_bytes1 (u := (u8of (IntKind.i64.wrap (48 + (Int.tmod c3 10))))) sl107 ik5 str9 ty5.sz (.tmp rfl rfl) hp) ?_
      refine Cm (sv c4) rfl rfl ?_
      obtain ⟨x19, hx20, hF⟩ := bind_some hF
      obtain ⟨hq22, hz21⟩ := cat_some hx20
      refine C_val (V_concatN (s := [(u8of (IntKind.i64.wrap (48 + (Int.tmod c3 10))))]) (t := c4) (u := x19) (.tmp rfl rfl) (.tmp rfl rfl) hx20) ?_
      refine Ca (sv x19) rfl rfl ?_
      refine C_nil (CW_region (Cm (.int .i64 c3) rfl rfl ?_))
      refine C_val (V_quo (i := c3) (j := 10) (.tmp rfl rfl) (.int _ _) (by decide)) ?_
      refine Ca (.int .i64 (IntKind.i64.wrap (Int.tdiv c3 10))) rfl rfl ?_
      refine C_nil ?_
      exact ⟨m5, Nat.lt_succ_self _, _, _, _, (EqL.cons rfl (EqL.cons rfl (EqL.cons rfl (EqL.nil)))).eq, (.sel .nil), hF⟩
    rw [if_neg (by rw [hb24]; exact Bool.false_ne_true)] at hF
    refine CW_exit ?_
    iterate 2 refine CThen_exit ?_
    refine CIn_self ?_
    obtain rfl := Option.some.inj hF
    exact ⟨_, _, rfl, (EqL.cons rfl (EqL.cons rfl (EqL.nil))).eq, (.sel .nil)⟩
  rintro _ _ ⟨c25, g31, rfl, rfl, hE⟩
  replace hF := hO2
  clear hO2
  try dsimp only at hF
  refine K_ent hE ?_
  refine K_in (K_region (Cm (.bool (decide ((a_n : Int) < 0))) rfl rfl ?_))
  refine C_nil (CW_cond (b := (decide ((a_n : Int) < 0))) (.tmp rfl rfl) (fun hb30 => ?_) (fun hb30 => ?_))
  · rw [if_pos hb30] at hF
    refine K_region (Cm (sv c25) rfl rfl ?_)
    obtain ⟨x26, hx27, hF⟩ := bind_some hF
    obtain ⟨hq29, hz28⟩ := cat_some hx27
    refine C_val (V_concatN (s := [45]) (t := c25) (u := x26) (.sv _) (.tmp rfl rfl) hx27) ?_
    refine Ca (sv x26) rfl rfl ?_
    refine C_nil (CW_ret ?_)
    obtain rfl := Option.some.inj hF
    exact End_ret () (.tmp rfl rfl .nil) rfl (.sel .nil)
  rw [if_neg (by rw [hb30]; exact Bool.false_ne_true)] at hF
  refine CW_skip (K_region (Cm (sv c25) rfl rfl ?_))
  refine Ca (sv c25) rfl rfl ?_
  refine C_nil (CW_ret ?_)
  obtain rfl := Option.some.inj hF
  exact End_ret () (.tmp rfl rfl .nil) rfl (.sel .nil)

/-! spec.l2List -/
def s_l2List_L1 (fuel : Nat) : List Int → Nat → (List UInt8) → Option ((List UInt8))
  | [], k5, c1 => some c1
  | x7 :: rest6, k5, c1 => (if (decide ((0 : Int) < (k5 : Int))) then (
        (cat c1 [44]).bind fun x16 =>
        (s_FormatInt fuel x7).bind fun r22 =>
        (cat x16 r22).bind fun x25 =>
        some x25)
      else (
        (s_FormatInt fuel x7).bind fun r31 =>
        (cat c1 r31).bind fun x34 =>
        some x34)).bind fun o14 =>
    match o14 with
    | c39 => s_l2List_L1 fuel rest6 (k5 + 1) c39
def s_l2List (fuel : Nat) (a_l : List Int) : Option ((List UInt8)) :=
  s_l2List_L1 fuel a_l 0 []
theorem s_l2List_ok (fuel : Nat) (a_l : List Int) (v0_0 : Sv) (R : (List UInt8)) (hF : s_l2List fuel a_l = some R) :
    Fw.Spec Tryz.prog 87 [v0_0.v] [crd (RdS 3 rdInt) v0_0.v a_l] (fun _ : Unit => (sv R)) (fun _ => []) := by
  refine Spec_enter (n := 23) Tryz.func87 rfl rfl (rs := [.tmp 2]) rfl rfl rfl ?_
  intro H0 F0
  unfold s_l2List at hF
  refine K_region (C_val (V_assign (v := (sv [])) (.sv _)) ?_)
  refine C_nil (K_region (C_val (V_assign (v := (sv [])) (.sv _)) ?_))
  refine C_nil (K_in (K_region (C_val (V_assign (v := (.int .i64 0)) (.int _ _)) ?_)))
  refine C_nil (CW_block (CW_loop (m := a_l.length) (fun m3 f' cs' => ∃ (g : Fr) (k5 : Nat) (rest6 : List Int) (c1 : List UInt8), m3 = rest6.length ∧ f' = updL g [(0, v0_0.v), (3, (sv c1)), (4, (.int .i64 (k5 : Int)))] ∧ List.drop k5 a_l = rest6 ∧ Ent cs' [crd (RdS 3 rdInt) v0_0.v a_l] ∧ s_l2List_L1 fuel rest6 k5 c1 = some R) ⟨_, 0, _, _, rfl, (EqL.cons rfl (EqL.cons rfl (EqL.cons rfl (EqL.nil)))).eq, rfl, (.sel (.rd .h rfl .nil)), hF⟩ ?_))
  clear hF
  rintro m3 _ _ ⟨g4, k5, rest6, c1, rfl, rfl, hd8, hE, hF⟩
  refine K_ent hE ?_
  clear hE
  refine K_pure (c := crd (RdS 3 rdInt) v0_0.v a_l) .h crd_bound (fun hbd13 => ?_)
  rcases rest6 with _ | ⟨x7, rest6⟩
  · have hk9 := List.drop_eq_nil_iff.1 hd8
    have hfe12 : (decide (((k5 : Int) : Int) < (a_l.length : Int))) = false := decide_eq_false (by omega)
    rw [s_l2List_L1] at hF
    refine K_in (K_region (Cm (.int .i64 (k5 : Int)) rfl rfl ?_))
    refine Cm v0_0.v rfl rfl ?_
    refine C_at .h (fun hp => V_lenR (l := a_l.length) sl22 (.tmp rfl rfl) (crd_len hp)) ?_
    refine C_val (V_lss (i := (k5 : Int)) (j := (a_l.length : Int)) (.tmp rfl rfl) (.tmp rfl rfl)) ?_
    refine C_nil (CW_cond (b := (decide (((k5 : Int) : Int) < (a_l.length : Int)))) (.tmp rfl rfl) (fun hb => absurd (hfe12.symm.trans hb) (by decide)) (fun _ => ?_))
    refine CW_exit ?_
    iterate 2 refine CThen_exit ?_
    refine CIn_self (K_region (Cm (sv c1) rfl rfl ?_))
    refine Ca (sv c1) rfl rfl ?_
    refine C_nil (CW_ret ?_)
    obtain rfl := Option.some.inj hF
    exact End_ret () (.tmp rfl rfl .nil) rfl (.sel .nil)
  obtain ⟨hk9, hx10, hd11⟩ := drop_cons hd8
  have hfe12 : (decide (((k5 : Int) : Int) < (a_l.length : Int))) = true := decide_eq_true (by omega)
  rw [s_l2List_L1] at hF
  refine K_in (K_region (Cm (.int .i64 (k5 : Int)) rfl rfl ?_))
  refine Cm v0_0.v rfl rfl ?_
  refine C_at .h (fun hp => V_lenR (l := a_l.length) sl22 (.tmp rfl rfl) (crd_len hp)) ?_
  refine C_val (V_lss (i := (k5 : Int)) (j := (a_l.length : Int)) (.tmp rfl rfl) (.tmp rfl rfl)) ?_
  refine C_nil (CW_cond (b := (decide (((k5 : Int) : Int) < (a_l.length : Int)))) (.tmp rfl rfl) (fun _ => ?_) (fun hb => absurd (hfe12.symm.trans hb) (by decide)))
  refine CW_skip ?_
  obtain ⟨o14, hio14, hO15⟩ := bind_some hF
  refine K_cut (fun f' cs' => ∃ (c39 : List UInt8) (g : Fr), c39 = o14 ∧ f' = updL g [(0, v0_0.v), (3, (sv c39)), (4, (.int .i64 (k5 : Int)))] ∧ Ent cs' [crd (RdS 3 rdInt) v0_0.v a_l]) ?_ ?_
  · replace hF := hio14
    refine CW_block (K_in (K_region (Cm (.int .i64 (k5 : Int)) rfl rfl ?_)))
    refine C_val (V_gtr (i := (k5 : Int)) (j := 0) (.tmp rfl rfl) (.int _ _)) ?_
    refine C_nil (CW_cond (b := (decide ((0 : Int) < (k5 : Int)))) (.tmp rfl rfl) (fun hb38 => ?_) (fun hb38 => ?_))
    · rw [if_pos hb38] at hF
      refine CW_region (Cm (sv c1) rfl rfl ?_)
      obtain ⟨x16, hx17, hF⟩ := bind_some hF
      obtain ⟨hq19, hz18⟩ := cat_some hx17
      refine C_val (V_concatN (s := c1) (t := [44]) (u := x16) (.tmp rfl rfl) (.sv _) hx17) ?_
      refine Ca (sv x16) rfl rfl ?_
      refine C_nil (CW_region (Cm (sv x16) rfl rfl ?_))
      refine Cm v0_0.v rfl rfl ?_
      refine Cm (.int .i64 (k5 : Int)) rfl rfl ?_
      refine C_idx (a := x7) sl22 ty3.sz (.tmp rfl rfl) (.tmp rfl rfl) .h (Int.natCast_nonneg k5) hx10 (fun k20 j21 => ?_)
      refine C_ldS (w := (.int .i64 x7)) ag3 (.tmp rfl rfl) .h ls3_0 ?_
      obtain ⟨r22, hx23, hF⟩ := bind_some hF
      refine C_x0 .nil (X_callS cf20 (.cons (.tmp rfl rfl) .nil) (s_FormatInt_ok fuel x7 _ hx23)) (fun _ => ?_)
      obtain ⟨x25, hx26, hF⟩ := bind_some hF
      obtain ⟨hq28, hz27⟩ := cat_some hx26
      refine C_val (V_concatN (s := x16) (t := r22) (u := x25) (.tmp rfl rfl) (.tmp rfl rfl) hx26) ?_
      refine Ca (sv x25) rfl rfl ?_
      refine C_nil ?_
      obtain rfl := Option.some.inj hF
      exact ⟨_, _, rfl, (EqL.cons rfl (EqL.cons rfl (EqL.cons rfl (EqL.nil)))).eq, (.sel (.rd (.t .h) rfl .nil))⟩
    rw [if_neg (by rw [hb38]; exact Bool.false_ne_true)] at hF
    refine CW_skip (CW_region (Cm (sv c1) rfl rfl ?_))
    refine Cm v0_0.v rfl rfl ?_
    refine Cm (.int .i64 (k5 : Int)) rfl rfl ?_
    refine C_idx (a := x7) sl22 ty3.sz (.tmp rfl rfl) (.tmp rfl rfl) .h (Int.natCast_nonneg k5) hx10 (fun k29 j30 => ?_)
    refine C_ldS (w := (.int .i64 x7)) ag3 (.tmp rfl rfl) .h ls3_0 ?_
    obtain ⟨r31, hx32, hF⟩ := bind_some hF
    refine C_x0 .nil (X_callS cf20 (.cons (.tmp rfl rfl) .nil) (s_FormatInt_ok fuel x7 _ hx32)) (fun _ => ?_)
    obtain ⟨x34, hx35, hF⟩ := bind_some hF
    obtain ⟨hq37, hz36⟩ := cat_some hx35
    refine C_val (V_concatN (s := c1) (t := r31) (u := x34) (.tmp rfl rfl) (.tmp rfl rfl) hx35) ?_
    refine Ca (sv x34) rfl rfl ?_
    refine C_nil ?_
    obtain rfl := Option.some.inj hF
    exact ⟨_, _, rfl, (EqL.cons rfl (EqL.cons rfl (EqL.cons rfl (EqL.nil)))).eq, (.sel (.rd (.t .h) rfl .nil))⟩
  rintro _ _ ⟨c39, g41, rfl, rfl, hE⟩
  replace hF := hO15
  clear hO15
  try dsimp only at hF
  refine K_ent hE ?_
  refine CW_region (Cm (.int .i64 (k5 : Int)) rfl rfl ?_)
  refine C_val (V_add (i := (k5 : Int)) (j := 1) (.tmp rfl rfl) (.int _ _)) ?_
  refine Ca (.int .i64 (IntKind.i64.wrap ((k5 : Int) + 1))) rfl rfl ?_
  refine C_nil ?_
  have hw40 : IntKind.i64.wrap ((k5 : Int) + 1) = ((k5 + 1 : Nat) : Int) := by rw [wrap_in (by omega) (by omega)]; rfl
  rw [hw40]
  exact ⟨_, Nat.lt_succ_self _, _, k5 + 1, rest6, _, rfl, (EqL.cons rfl (EqL.cons rfl (EqL.cons rfl (EqL.nil)))).eq, hd11, (.sel (.rd .h rfl .nil)), hF⟩

/-! spec.FormatFact -/
def s_FormatFact_L1 (a_f : Fact) (fuel : Nat) : List Int → Nat → Option ((List UInt8))
  | [], k15 => (s_FormatInt fuel a_f.Rel).bind fun r24 =>
    (cat [114] r24).bind fun x27 =>
    (cat x27 [40]).bind fun x31 =>
    (s_l2List fuel a_f.Values).bind fun r35 =>
    (cat x31 r35).bind fun x38 =>
    (cat x38 [41]).bind fun x42 =>
    some x42
  | x17 :: rest16, k15 => (s_l1In x17 0 9).bind fun r48 =>
    if (!r48) then (
      some [])
    else (
      s_FormatFact_L1 a_f fuel rest16 (k15 + 1))
def s_FormatFact (fuel : Nat) (a_f : Fact) : Option ((List UInt8)) :=
  ((s_l1In a_f.Rel 0 2).bind fun r4 =>
    bif (!r4) then (some true)
    else ((s_l1In (a_f.Values.length : Int) 1 3).bind fun r8 =>
      some (!r8))).bind fun o2 =>
  match o2 with
  | c11 => if c11 then (
      some [])
    else (
      s_FormatFact_L1 a_f fuel a_f.Values 0)
theorem s_FormatFact_ok (fuel : Nat) (a_f : Fact) (v0_1 : Sv) (R : (List UInt8)) (hF : s_FormatFact fuel a_f = some R) :
    Fw.Spec Tryz.prog 39 [(.agg [(.int .i64 a_f.Rel), v0_1.v].toArray)] [crd (RdS 3 rdInt) v0_1.v a_f.Values] (fun _ : Unit => (sv R)) (fun _ => []) := by
  refine Spec_enter (n := 39) Tryz.func39 rfl rfl (rs := [.tmp 2]) rfl rfl rfl ?_
  intro H0 F0
  unfold s_FormatFact at hF
  refine K_region (C_newR rfl (N_box (g := false) (v := (.agg [(.int .i64 a_f.Rel), v0_1.v].toArray)) ty80.sz (.tmp rfl rfl) rfl) (fun k1 => ?_))
  refine C_val (V_assign (v := (sv [])) (.sv _)) ?_
  refine C_nil (K_in ?_)
  obtain ⟨o2, hio2, hO3⟩ := bind_some hF
  refine K_region (C_cut (fun f' cs' => ∃ (c11 : Bool) (g : Fr), c11 = o2 ∧ f' = updL g [(1, (.pointer (some ⟨k1, 0, some 0⟩))), (14, (.bool c11))] ∧ Ent cs' [cboR k1 80 (.agg [(.int .i64 a_f.Rel), v0_1.v].toArray), crd (RdS 3 rdInt) v0_1.v a_f.Values]) ?_ ?_)
  · replace hF := hio2
    refine C_val (V_fieldAddr (off := 0) fd80_0 (.tmp rfl rfl)) ?_
    refine C_at .h (fun hp => V_load (v := (.int .i64 a_f.Rel)) ag3 (.tmp rfl rfl) hp.2 rfl rfl) ?_
    obtain ⟨r4, hx5, hF⟩ := bind_some hF
    refine C_x0 .nil (X_callS cf59 (.cons (.tmp rfl rfl) (.cons (.int _ _) (.cons (.int _ _) .nil))) (s_l1In_ok a_f.Rel 0 2 _ hx5)) (fun _ => ?_)
    refine C_val (V_not (b := r4) (.tmp rfl rfl)) ?_
    refine Cm (.bool (!r4)) rfl rfl ?_
    rcases Bool.eq_false_or_eq_true (!r4) with hg7 | hg7
    · rw [hg7]
      try rw [hg7] at hF; dsimp only [cond_true, cond_false] at hF
      iterate 5 refine C_off (t := 8) rfl rfl rfl ?_
      refine C_val (V_pick (b := true) (u := (.bool true)) (v := undef) (.tmp rfl rfl) (.bool _) (.tmp rfl rfl)) ?_
      refine C_nil ?_
      obtain rfl := Option.some.inj hF
      exact ⟨_, _, rfl, (EqL.cons rfl (EqL.cons rfl (EqL.nil))).eq, (.sel (.rd .h rfl (.rd (.t .h) rfl .nil)))⟩
    rw [hg7]
    try rw [hg7] at hF; dsimp only [cond_true, cond_false] at hF
    refine C_on (t := 8) rfl rfl rfl ?_
    refine C_val (V_fieldAddr (off := 1) fd80_1 (.tmp rfl rfl)) ?_
    refine C_on (t := 8) rfl rfl rfl ?_
    refine C_at .h (fun hp => V_load (v := v0_1.v) ag22 (.tmp rfl rfl) hp.2 rfl rfl) ?_
    refine C_on (t := 8) rfl rfl rfl ?_
    refine C_at (.t .h) (fun hp => V_lenR (l := a_f.Values.length) sl22 (.tmp rfl rfl) (crd_len hp)) ?_
    refine C_on (t := 8) rfl rfl rfl ?_
    obtain ⟨r8, hx9, hF⟩ := bind_some hF
    refine C_x0 .nil (X_callS cf59 (.cons (.tmp rfl rfl) (.cons (.int _ _) (.cons (.int _ _) .nil))) (s_l1In_ok (a_f.Values.length : Int) 1 3 _ hx9)) (fun _ => ?_)
    refine C_on (t := 8) rfl rfl rfl ?_
    refine C_val (V_not (b := r8) (.tmp rfl rfl)) ?_
    refine C_val (V_pick (b := false) (u := (.bool true)) (v := (.bool (!r8))) (.tmp rfl rfl) (.bool _) (.tmp rfl rfl)) ?_
    refine C_nil ?_
    obtain rfl := Option.some.inj hF
    exact ⟨_, _, rfl, (EqL.cons rfl (EqL.cons rfl (EqL.nil))).eq, (.sel (.rd .h rfl (.rd (.t .h) rfl .nil)))⟩
  rintro _ _ ⟨c11, g54, rfl, rfl, hE⟩
  replace hF := hO3
  clear hO3
  try dsimp only at hF
  refine K_ent hE ?_
  refine CW_cond (b := c11) (.tmp rfl rfl) (fun hb53 => ?_) (fun hb53 => ?_)
  · rw [if_pos hb53] at hF
    refine K_region (C_val (V_assign (v := (sv [])) (.sv _)) ?_)
    refine C_nil (CW_ret ?_)
    obtain rfl := Option.some.inj hF
    exact End_ret () (.tmp rfl rfl .nil) rfl (.sel .nil)
  rw [if_neg (by rw [hb53]; exact Bool.false_ne_true)] at hF
  refine CW_skip (K_in (K_region (C_val (V_assign (v := (.int .i64 0)) (.int _ _)) ?_)))
  refine C_nil (CW_block (CW_loop (m := a_f.Values.length) (fun m13 f' cs' => ∃ (g : Fr) (k15 : Nat) (rest16 : List Int), m13 = rest16.length ∧ f' = updL g [(1, (.pointer (some ⟨k1, 0, some 0⟩))), (3, (.int .i64 (k15 : Int)))] ∧ List.drop k15 a_f.Values = rest16 ∧ Ent cs' [cboR k1 80 (.agg [(.int .i64 a_f.Rel), v0_1.v].toArray), crd (RdS 3 rdInt) v0_1.v a_f.Values] ∧ s_FormatFact_L1 a_f fuel rest16 k15 = some R) ⟨_, 0, _, rfl, (EqL.cons rfl (EqL.cons rfl (EqL.nil))).eq, rfl, (.sel (.rd .h rfl (.rd (.t .h) rfl .nil))), hF⟩ ?_))
  clear hF
  rintro m13 _ _ ⟨g14, k15, rest16, rfl, rfl, hd18, hE, hF⟩
  refine K_ent hE ?_
  clear hE
  refine K_pure (c := crd (RdS 3 rdInt) v0_1.v a_f.Values) (.t .h) crd_bound (fun hbd23 => ?_)
  rcases rest16 with _ | ⟨x17, rest16⟩
  · have hk19 := List.drop_eq_nil_iff.1 hd18
    have hfe22 : (decide (((k15 : Int) : Int) < (a_f.Values.length : Int))) = false := decide_eq_false (by omega)
    rw [s_FormatFact_L1] at hF
    refine K_in (K_region (Cm (.int .i64 (k15 : Int)) rfl rfl ?_))
    refine C_val (V_fieldAddr (off := 1) fd80_1 (.tmp rfl rfl)) ?_
    refine C_at .h (fun hp => V_load (v := v0_1.v) ag22 (.tmp rfl rfl) hp.2 rfl rfl) ?_
    refine C_at (.t .h) (fun hp => V_lenR (l := a_f.Values.length) sl22 (.tmp rfl rfl) (crd_len hp)) ?_
    refine C_val (V_lss (i := (k15 : Int)) (j := (a_f.Values.length : Int)) (.tmp rfl rfl) (.tmp rfl rfl)) ?_
    refine C_nil (CW_cond (b := (decide (((k15 : Int) : Int) < (a_f.Values.length : Int)))) (.tmp rfl rfl) (fun hb => absurd (hfe22.symm.trans hb) (by decide)) (fun _ => ?_))
    refine CW_exit ?_
    iterate 2 refine CThen_exit ?_
    refine CIn_self (K_draw [0, 1, 5, 6, 2, 3, 4, 7, 8, 9, 10] [0, 1, 3, 7, 15, 0, 32, 103, 255, 511, 1023] [2, 7] mixed (by decide +kernel) ?_)
    refine D_val rfl .no (fun ha => V_fieldAddr (off := 0) fd80_0 (EN ha (.tmp rfl rfl) rfl)) ?_
    refine D_at rfl .no .h rfl (fun ha hp => V_load (v := (.int .i64 a_f.Rel)) ag3 (EN ha (.tmp rfl rfl) rfl) hp.2 rfl rfl) ?_
    refine D_val rfl .no (fun ha => V_fieldAddr (off := 1) fd80_1 (EN ha (.tmp rfl rfl) rfl)) ?_
    refine D_at rfl .no .h rfl (fun ha hp => V_load (v := v0_1.v) ag22 (EN ha (.tmp rfl rfl) rfl) hp.2 rfl rfl) ?_
    obtain ⟨r24, hx25, hF⟩ := bind_some hF
    refine D_act0 rfl rfl .no .nil .nil (fun ha => X_callS cf20 (.cons (EN ha (.tmp rfl rfl) rfl) .nil) (s_FormatInt_ok fuel a_f.Rel _ hx25)) (fun _ => ?_)
    obtain ⟨x27, hx28, hF⟩ := bind_some hF
    obtain ⟨hq30, hz29⟩ := cat_some hx28
    refine D_val rfl .no (fun ha => V_concatN (s := [114]) (t := r24) (u := x27) (EN ha (.sv _) rfl) (EN ha (.tmp rfl rfl) rfl) hx28) ?_
    obtain ⟨x31, hx32, hF⟩ := bind_some hF
    obtain ⟨hq34, hz33⟩ := cat_some hx32
    refine D_val rfl .no (fun ha => V_concatN (s := x27) (t := [40]) (u := x31) (EN ha (.tmp rfl rfl) rfl) (EN ha (.sv _) rfl) hx32) ?_
    obtain ⟨r35, hx36, hF⟩ := bind_some hF
    refine D_act0 rfl rfl .no (.rd (.t .h) rfl .nil) .nil (fun ha => X_callS cf87 (.cons (EN ha (.tmp rfl rfl) rfl) .nil) (s_l2List_ok fuel a_f.Values v0_1 _ hx36)) (fun _ => ?_)
    obtain ⟨x38, hx39, hF⟩ := bind_some hF
    obtain ⟨hq41, hz40⟩ := cat_some hx39
    refine D_val rfl .no (fun ha => V_concatN (s := x31) (t := r35) (u := x38) (EN ha (.tmp rfl rfl) rfl) (EN ha (.tmp rfl rfl) rfl) hx39) ?_
    obtain ⟨x42, hx43, hF⟩ := bind_some hF
    obtain ⟨hq45, hz44⟩ := cat_some hx43
    refine D_val rfl .no (fun ha => V_concatN (s := x38) (t := [41]) (u := x42) (EN ha (.tmp rfl rfl) rfl) (EN ha (.sv _) rfl) hx43) ?_
    refine Da (sv x42) rfl rfl rfl rfl ?_
    refine D_nil (CW_ret ?_)
    obtain rfl := Option.some.inj hF
    exact End_ret () (.tmp rfl rfl .nil) rfl (.sel .nil)
  obtain ⟨hk19, hx20, hd21⟩ := drop_cons hd18
  have hfe22 : (decide (((k15 : Int) : Int) < (a_f.Values.length : Int))) = true := decide_eq_true (by omega)
  rw [s_FormatFact_L1] at hF
  refine K_in (K_region (Cm (.int .i64 (k15 : Int)) rfl rfl ?_))
  refine C_val (V_fieldAddr (off := 1) fd80_1 (.tmp rfl rfl)) ?_
  refine C_at .h (fun hp => V_load (v := v0_1.v) ag22 (.tmp rfl rfl) hp.2 rfl rfl) ?_
  refine C_at (.t .h) (fun hp => V_lenR (l := a_f.Values.length) sl22 (.tmp rfl rfl) (crd_len hp)) ?_
  refine C_val (V_lss (i := (k15 : Int)) (j := (a_f.Values.length : Int)) (.tmp rfl rfl) (.tmp rfl rfl)) ?_
  refine C_nil (CW_cond (b := (decide (((k15 : Int) : Int) < (a_f.Values.length : Int)))) (.tmp rfl rfl) (fun _ => ?_) (fun hb => absurd (hfe22.symm.trans hb) (by decide)))
  refine CW_skip (K_block (K_region (C_val (V_fieldAddr (off := 1) fd80_1 (.tmp rfl rfl)) ?_)))
  refine C_at .h (fun hp => V_load (v := v0_1.v) ag22 (.tmp rfl rfl) hp.2 rfl rfl) ?_
  refine Cm (.int .i64 (k15 : Int)) rfl rfl ?_
  refine C_idx (a := x17) sl22 ty3.sz (.tmp rfl rfl) (.tmp rfl rfl) (.t .h) (Int.natCast_nonneg k15) hx20 (fun k46 j47 => ?_)
  refine C_ldS (w := (.int .i64 x17)) ag3 (.tmp rfl rfl) .h ls3_0 ?_
  obtain ⟨r48, hx49, hF⟩ := bind_some hF
  refine C_x0 .nil (X_callS cf59 (.cons (.tmp rfl rfl) (.cons (.int _ _) (.cons (.int _ _) .nil))) (s_l1In_ok x17 0 9 _ hx49)) (fun _ => ?_)
  refine C_val (V_not (b := r48) (.tmp rfl rfl)) ?_
  refine C_nil (CW_cond (b := (!r48)) (.tmp rfl rfl) (fun hb52 => ?_) (fun hb52 => ?_))
  · rw [if_pos hb52] at hF
    refine K_region (C_val (V_assign (v := (sv [])) (.sv _)) ?_)
    refine C_nil (CW_ret ?_)
    obtain rfl := Option.some.inj hF
    exact End_ret () (.tmp rfl rfl .nil) rfl (.sel .nil)
  rw [if_neg (by rw [hb52]; exact Bool.false_ne_true)] at hF
  refine CW_skip (CW_region (Cm (.int .i64 (k15 : Int)) rfl rfl ?_))
  refine C_val (V_add (i := (k15 : Int)) (j := 1) (.tmp rfl rfl) (.int _ _)) ?_
  refine Ca (.int .i64 (IntKind.i64.wrap ((k15 : Int) + 1))) rfl rfl ?_
  refine C_nil ?_
  have hw51 : IntKind.i64.wrap ((k15 : Int) + 1) = ((k15 + 1 : Nat) : Int) := by rw [wrap_in (by omega) (by omega)]; rfl
  rw [hw51]
  exact ⟨_, Nat.lt_succ_self _, _, k15 + 1, rest16, rfl, (EqL.cons rfl (EqL.cons rfl (EqL.nil))).eq, hd21, (.sel (.rd (.t .h) rfl (.rd (.t (.t .h)) rfl .nil))), hF⟩

/-! spec.FormatAccess -/
def s_FormatAccess_L1 (a_a : Access) (fuel : Nat) : List Int → Nat → Option ((List UInt8))
  | [], k12 => (s_FormatInt fuel a_a.Method).bind fun r21 =>
    (cat [109] r21).bind fun x24 =>
    (cat x24 [40]).bind fun x28 =>
    (s_l2List fuel a_a.Values).bind fun r32 =>
    (cat x28 r32).bind fun x35 =>
    (cat x35 [41]).bind fun x39 =>
    some x39
  | x14 :: rest13, k12 => (s_l1In x14 0 9).bind fun r45 =>
    if (!r45) then (
      some [])
    else (
      s_FormatAccess_L1 a_a fuel rest13 (k12 + 1))
def s_FormatAccess (fuel : Nat) (a_a : Access) : Option ((List UInt8)) :=
  ((s_l1In a_a.Method 0 4).bind fun r4 =>
    bif (!r4) then (some true)
    else (some (decide ((3 : Int) < (a_a.Values.length : Int))))).bind fun o2 =>
  match o2 with
  | c8 => if c8 then (
      some [])
    else (
      s_FormatAccess_L1 a_a fuel a_a.Values 0)
theorem s_FormatAccess_ok (fuel : Nat) (a_a : Access) (v0_1 : Sv) (R : (List UInt8)) (hF : s_FormatAccess fuel a_a = some R) :
    Fw.Spec Tryz.prog 121 [(.agg [(.int .i64 a_a.Method), v0_1.v].toArray)] [crd (RdS 3 rdInt) v0_1.v a_a.Values] (fun _ : Unit => (sv R)) (fun _ => []) := by
  refine Spec_enter (n := 38) Tryz.func121 rfl rfl (rs := [.tmp 2]) rfl rfl rfl ?_
  intro H0 F0
  unfold s_FormatAccess at hF
  refine K_region (C_newR rfl (N_box (g := false) (v := (.agg [(.int .i64 a_a.Method), v0_1.v].toArray)) ty105.sz (.tmp rfl rfl) rfl) (fun k1 => ?_))
  refine C_val (V_assign (v := (sv [])) (.sv _)) ?_
  refine C_nil (K_in ?_)
  obtain ⟨o2, hio2, hO3⟩ := bind_some hF
  refine K_region (C_cut (fun f' cs' => ∃ (c8 : Bool) (g : Fr), c8 = o2 ∧ f' = updL g [(1, (.pointer (some ⟨k1, 0, some 0⟩))), (13, (.bool c8))] ∧ Ent cs' [cboR k1 105 (.agg [(.int .i64 a_a.Method), v0_1.v].toArray), crd (RdS 3 rdInt) v0_1.v a_a.Values]) ?_ ?_)
  · replace hF := hio2
    refine C_val (V_fieldAddr (off := 0) fd105_0 (.tmp rfl rfl)) ?_
    refine C_at .h (fun hp => V_load (v := (.int .i64 a_a.Method)) ag3 (.tmp rfl rfl) hp.2 rfl rfl) ?_
    obtain ⟨r4, hx5, hF⟩ := bind_some hF
    refine C_x0 .nil (X_callS cf59 (.cons (.tmp rfl rfl) (.cons (.int _ _) (.cons (.int _ _) .nil))) (s_l1In_ok a_a.Method 0 4 _ hx5)) (fun _ => ?_)
    refine C_val (V_not (b := r4) (.tmp rfl rfl)) ?_
    refine Cm (.bool (!r4)) rfl rfl ?_
    rcases Bool.eq_false_or_eq_true (!r4) with hg7 | hg7
    · rw [hg7]
      try rw [hg7] at hF; dsimp only [cond_true, cond_false] at hF
      iterate 4 refine C_off (t := 8) rfl rfl rfl ?_
      refine C_val (V_pick (b := true) (u := (.bool true)) (v := undef) (.tmp rfl rfl) (.bool _) (.tmp rfl rfl)) ?_
      refine C_nil ?_
      obtain rfl := Option.some.inj hF
      exact ⟨_, _, rfl, (EqL.cons rfl (EqL.cons rfl (EqL.nil))).eq, (.sel (.rd .h rfl (.rd (.t .h) rfl .nil)))⟩
    rw [hg7]
    try rw [hg7] at hF; dsimp only [cond_true, cond_false] at hF
    refine C_on (t := 8) rfl rfl rfl ?_
    refine C_val (V_fieldAddr (off := 1) fd105_1 (.tmp rfl rfl)) ?_
    refine C_on (t := 8) rfl rfl rfl ?_
    refine C_at .h (fun hp => V_load (v := v0_1.v) ag22 (.tmp rfl rfl) hp.2 rfl rfl) ?_
    refine C_on (t := 8) rfl rfl rfl ?_
    refine C_at (.t .h) (fun hp => V_lenR (l := a_a.Values.length) sl22 (.tmp rfl rfl) (crd_len hp)) ?_
    refine C_on (t := 8) rfl rfl rfl ?_
    refine C_val (V_gtr (i := (a_a.Values.length : Int)) (j := 3) (.tmp rfl rfl) (.int _ _)) ?_
    refine C_val (V_pick (b := false) (u := (.bool true)) (v := (.bool (decide ((3 : Int) < (a_a.Values.length : Int))))) (.tmp rfl rfl) (.bool _) (.tmp rfl rfl)) ?_
    refine C_nil ?_
    obtain rfl := Option.some.inj hF
    exact ⟨_, _, rfl, (EqL.cons rfl (EqL.cons rfl (EqL.nil))).eq, (.sel (.rd .h rfl (.rd (.t .h) rfl .nil)))⟩
  rintro _ _ ⟨c8, g51, rfl, rfl, hE⟩
  replace hF := hO3
  clear hO3
  try dsimp only at hF
  refine K_ent hE ?_
  refine CW_cond (b := c8) (.tmp rfl rfl) (fun hb50 => ?_) (fun hb50 => ?_)
  · rw [if_pos hb50] at hF
    refine K_region (C_val (V_assign (v := (sv [])) (.sv _)) ?_)
    refine C_nil (CW_ret ?_)
    obtain rfl := Option.some.inj hF
    exact End_ret () (.tmp rfl rfl .nil) rfl (.sel .nil)
  rw [if_neg (by rw [hb50]; exact Bool.false_ne_true)] at hF
  refine CW_skip (K_in (K_region (C_val (V_assign (v := (.int .i64 0)) (.int _ _)) ?_)))
  refine C_nil (CW_block (CW_loop (m := a_a.Values.length) (fun m10 f' cs' => ∃ (g : Fr) (k12 : Nat) (rest13 : List Int), m10 = rest13.length ∧ f' = updL g [(1, (.pointer (some ⟨k1, 0, some 0⟩))), (3, (.int .i64 (k12 : Int)))] ∧ List.drop k12 a_a.Values = rest13 ∧ Ent cs' [cboR k1 105 (.agg [(.int .i64 a_a.Method), v0_1.v].toArray), crd (RdS 3 rdInt) v0_1.v a_a.Values] ∧ s_FormatAccess_L1 a_a fuel rest13 k12 = some R) ⟨_, 0, _, rfl, (EqL.cons rfl (EqL.cons rfl (EqL.nil))).eq, rfl, (.sel (.rd .h rfl (.rd (.t .h) rfl .nil))), hF⟩ ?_))
  clear hF
  rintro m10 _ _ ⟨g11, k12, rest13, rfl, rfl, hd15, hE, hF⟩
  refine K_ent hE ?_
  clear hE
  refine K_pure (c := crd (RdS 3 rdInt) v0_1.v a_a.Values) (.t .h) crd_bound (fun hbd20 => ?_)
  rcases rest13 with _ | ⟨x14, rest13⟩
  · have hk16 := List.drop_eq_nil_iff.1 hd15
    have hfe19 : (decide (((k12 : Int) : Int) < (a_a.Values.length : Int))) = false := decide_eq_false (by omega)
    rw [s_FormatAccess_L1] at hF
    refine K_in (K_region (Cm (.int .i64 (k12 : Int)) rfl rfl ?_))
    refine C_val (V_fieldAddr (off := 1) fd105_1 (.tmp rfl rfl)) ?_
    refine C_at .h (fun hp => V_load (v := v0_1.v) ag22 (.tmp rfl rfl) hp.2 rfl rfl) ?_
    refine C_at (.t .h) (fun hp => V_lenR (l := a_a.Values.length) sl22 (.tmp rfl rfl) (crd_len hp)) ?_
    refine C_val (V_lss (i := (k12 : Int)) (j := (a_a.Values.length : Int)) (.tmp rfl rfl) (.tmp rfl rfl)) ?_
    refine C_nil (CW_cond (b := (decide (((k12 : Int) : Int) < (a_a.Values.length : Int)))) (.tmp rfl rfl) (fun hb => absurd (hfe19.symm.trans hb) (by decide)) (fun _ => ?_))
    refine CW_exit ?_
    iterate 2 refine CThen_exit ?_
    refine CIn_self (K_draw [0, 1, 5, 6, 2, 3, 4, 7, 8, 9, 10] [0, 1, 3, 7, 15, 0, 32, 103, 255, 511, 1023] [2, 7] mixed (by decide +kernel) ?_)
    refine D_val rfl .no (fun ha => V_fieldAddr (off := 0) fd105_0 (EN ha (.tmp rfl rfl) rfl)) ?_
    refine D_at rfl .no .h rfl (fun ha hp => V_load (v := (.int .i64 a_a.Method)) ag3 (EN ha (.tmp rfl rfl) rfl) hp.2 rfl rfl) ?_
    refine D_val rfl .no (fun ha => V_fieldAddr (off := 1) fd105_1 (EN ha (.tmp rfl rfl) rfl)) ?_
    refine D_at rfl .no .h rfl (fun ha hp => V_load (v := v0_1.v) ag22 (EN ha (.tmp rfl rfl) rfl) hp.2 rfl rfl) ?_
    obtain ⟨r21, hx22, hF⟩ := bind_some hF
    refine D_act0 rfl rfl .no .nil .nil (fun ha => X_callS cf20 (.cons (EN ha (.tmp rfl rfl) rfl) .nil) (s_FormatInt_ok fuel a_a.Method _ hx22)) (fun _ => ?_)
    obtain ⟨x24, hx25, hF⟩ := bind_some hF
    obtain ⟨hq27, hz26⟩ := cat_some hx25
    refine D_val rfl .no (fun ha => V_concatN (s := [109]) (t := r21) (u := x24) (EN ha (.sv _) rfl) (EN ha (.tmp rfl rfl) rfl) hx25) ?_
    obtain ⟨x28, hx29, hF⟩ := bind_some hF
    obtain ⟨hq31, hz30⟩ := cat_some hx29
    refine D_val rfl .no (fun ha => V_concatN (s := x24) (t := [40]) (u := x28) (EN ha (.tmp rfl rfl) rfl) (EN ha (.sv _) rfl) hx29) ?_
    obtain ⟨r32, hx33, hF⟩ := bind_some hF
    refine D_act0 rfl rfl .no (.rd (.t .h) rfl .nil) .nil (fun ha => X_callS cf87 (.cons (EN ha (.tmp rfl rfl) rfl) .nil) (s_l2List_ok fuel a_a.Values v0_1 _ hx33)) (fun _ => ?_)
    obtain ⟨x35, hx36, hF⟩ := bind_some hF
    obtain ⟨hq38, hz37⟩ := cat_some hx36
    refine D_val rfl .no (fun ha => V_concatN (s := x28) (t := r32) (u := x35) (EN ha (.tmp rfl rfl) rfl) (EN ha (.tmp rfl rfl) rfl) hx36) ?_
    obtain ⟨x39, hx40, hF⟩ := bind_some hF
    obtain ⟨hq42, hz41⟩ := cat_some hx40
    refine D_val rfl .no (fun ha => V_concatN (s := x35) (t := [41]) (u := x39) (EN ha (.tmp rfl rfl) rfl) (EN ha (.sv _) rfl) hx40) ?_
    refine Da (sv x39) rfl rfl rfl rfl ?_
    refine D_nil (CW_ret ?_)
    obtain rfl := Option.some.inj hF
    exact End_ret () (.tmp rfl rfl .nil) rfl (.sel .nil)
  obtain ⟨hk16, hx17, hd18⟩ := drop_cons hd15
  have hfe19 : (decide (((k12 : Int) : Int) < (a_a.Values.length : Int))) = true := decide_eq_true (by omega)
  rw [s_FormatAccess_L1] at hF
  refine K_in (K_region (Cm (.int .i64 (k12 : Int)) rfl rfl ?_))
  refine C_val (V_fieldAddr (off := 1) fd105_1 (.tmp rfl rfl)) ?_
  refine C_at .h (fun hp => V_load (v := v0_1.v) ag22 (.tmp rfl rfl) hp.2 rfl rfl) ?_
  refine C_at (.t .h) (fun hp => V_lenR (l := a_a.Values.length) sl22 (.tmp rfl rfl) (crd_len hp)) ?_
  refine C_val (V_lss (i := (k12 : Int)) (j := (a_a.Values.length : Int)) (.tmp rfl rfl) (.tmp rfl rfl)) ?_
  refine C_nil (CW_cond (b := (decide (((k12 : Int) : Int) < (a_a.Values.length : Int)))) (.tmp rfl rfl) (fun _ => ?_) (fun hb => absurd (hfe19.symm.trans hb) (by decide)))
  refine CW_skip (K_block (K_region (C_val (V_fieldAddr (off := 1) fd105_1 (.tmp rfl rfl)) ?_)))
  refine C_at .h (fun hp => V_load (v := v0_1.v) ag22 (.tmp rfl rfl) hp.2 rfl rfl) ?_
  refine Cm (.int .i64 (k12 : Int)) rfl rfl ?_
  refine C_idx (a := x14) sl22 ty3.sz (.tmp rfl rfl) (.tmp rfl rfl) (.t .h) (Int.natCast_nonneg k12) hx17 (fun k43 j44 => ?_)
  refine C_ldS (w := (.int .i64 x14)) ag3 (.tmp rfl rfl) .h ls3_0 ?_
  obtain ⟨r45, hx46, hF⟩ := bind_some hF
  refine C_x0 .nil (X_callS cf59 (.cons (.tmp rfl rfl) (.cons (.int _ _) (.cons (.int _ _) .nil))) (s_l1In_ok x14 0 9 _ hx46)) (fun _ => ?_)
  refine C_val (V_not (b := r45) (.tmp rfl rfl)) ?_
  refine C_nil (CW_cond (b := (!r45)) (.tmp rfl rfl) (fun hb49 => ?_) (fun hb49 => ?_))
  · rw [if_pos hb49] at hF
    refine K_region (C_val (V_assign (v := (sv [])) (.sv _)) ?_)
    refine C_nil (CW_ret ?_)
    obtain rfl := Option.some.inj hF
    exact End_ret () (.tmp rfl rfl .nil) rfl (.sel .nil)
  rw [if_neg (by rw [hb49]; exact Bool.false_ne_true)] at hF
  refine CW_skip (CW_region (Cm (.int .i64 (k12 : Int)) rfl rfl ?_))
  refine C_val (V_add (i := (k12 : Int)) (j := 1) (.tmp rfl rfl) (.int _ _)) ?_
  refine Ca (.int .i64 (IntKind.i64.wrap ((k12 : Int) + 1))) rfl rfl ?_
  refine C_nil ?_
  have hw48 : IntKind.i64.wrap ((k12 : Int) + 1) = ((k12 + 1 : Nat) : Int) := by rw [wrap_in (by omega) (by omega)]; rfl
  rw [hw48]
  exact ⟨_, Nat.lt_succ_self _, _, k12 + 1, rest13, rfl, (EqL.cons rfl (EqL.cons rfl (EqL.nil))).eq, hd18, (.sel (.rd (.t .h) rfl (.rd (.t (.t .h)) rfl .nil))), hF⟩

/-! spec.FormatLog -/
def s_FormatLog_L1 (fuel : Nat) : List Access → Nat → (List UInt8) → Option ((List UInt8))
  | [], k5, c1 => if (c1 == []) then (
      some [110, 111, 110, 101])
    else (
      some c1)
  | x7 :: rest6, k5, c1 => (((s_FormatAccess fuel x7).bind fun r20 =>
      if (r20 == []) then (
        some (.inl []))
      else (
        if (decide ((0 : Int) < (k5 : Int))) then (
          (cat c1 [32]).bind fun x23 =>
          (cat x23 r20).bind fun x27 =>
          some (.inr x27))
        else (
          (cat c1 r20).bind fun x31 =>
          some (.inr x31)))) : Option (Sum ((List UInt8)) ((List UInt8)))).bind fun o15 =>
    match o15 with
    | .inl r => some r
    | .inr c37 => s_FormatLog_L1 fuel rest6 (k5 + 1) c37
def s_FormatLog (fuel : Nat) (a_log : List Access) : Option ((List UInt8)) :=
  s_FormatLog_L1 fuel a_log 0 []
theorem s_FormatLog_ok (fuel : Nat) (a_log : List Access) (v0_0 : Sv) (R : (List UInt8)) (hF : s_FormatLog fuel a_log = some R) :
    Fw.Spec Tryz.prog 88 [v0_0.v] [crd (RdS 105 rd105) v0_0.v a_log] (fun _ : Unit => (sv R)) (fun _ => []) := by
  refine Spec_enter (n := 29) Tryz.func88 rfl rfl (rs := [.tmp 2]) rfl rfl rfl ?_
  intro H0 F0
  unfold s_FormatLog at hF
  refine K_region (C_val (V_assign (v := (sv [])) (.sv _)) ?_)
  refine C_nil (K_region (C_val (V_assign (v := (sv [])) (.sv _)) ?_))
  refine C_nil (K_in (K_region (C_val (V_assign (v := (.int .i64 0)) (.int _ _)) ?_)))
  refine C_nil (CW_block (CW_loop (m := a_log.length) (fun m3 f' cs' => ∃ (g : Fr) (k5 : Nat) (rest6 : List Access) (c1 : List UInt8), m3 = rest6.length ∧ f' = updL g [(0, v0_0.v), (3, (sv c1)), (4, (.int .i64 (k5 : Int)))] ∧ List.drop k5 a_log = rest6 ∧ Ent cs' [crd (RdS 105 rd105) v0_0.v a_log] ∧ s_FormatLog_L1 fuel rest6 k5 c1 = some R) ⟨_, 0, _, _, rfl, (EqL.cons rfl (EqL.cons rfl (EqL.cons rfl (EqL.nil)))).eq, rfl, (.sel (.rd .h rfl .nil)), hF⟩ ?_))
  clear hF
  rintro m3 _ _ ⟨g4, k5, rest6, c1, rfl, rfl, hd8, hE, hF⟩
  refine K_ent hE ?_
  clear hE
  refine K_pure (c := crd (RdS 105 rd105) v0_0.v a_log) .h crd_bound (fun hbd13 => ?_)
  rcases rest6 with _ | ⟨x7, rest6⟩
  · have hk9 := List.drop_eq_nil_iff.1 hd8
    have hfe12 : (decide (((k5 : Int) : Int) < (a_log.length : Int))) = false := decide_eq_false (by omega)
    rw [s_FormatLog_L1] at hF
    refine K_in (K_region (Cm (.int .i64 (k5 : Int)) rfl rfl ?_))
    refine Cm v0_0.v rfl rfl ?_
    refine C_at .h (fun hp => V_lenR (l := a_log.length) sl45 (.tmp rfl rfl) (crd_len hp)) ?_
    refine C_val (V_lss (i := (k5 : Int)) (j := (a_log.length : Int)) (.tmp rfl rfl) (.tmp rfl rfl)) ?_
    refine C_nil (CW_cond (b := (decide (((k5 : Int) : Int) < (a_log.length : Int)))) (.tmp rfl rfl) (fun hb => absurd (hfe12.symm.trans hb) (by decide)) (fun _ => ?_))
    refine CW_exit ?_
    iterate 2 refine CThen_exit ?_
    refine CIn_self (K_in (K_region (Cm (sv c1) rfl rfl ?_)))
    refine C_val (V_eqT (s := c1) (t := []) (.tmp rfl rfl) (.sv _)) ?_
    refine C_nil (CW_cond (b := (c1 == [])) (.tmp rfl rfl) (fun hb14 => ?_) (fun hb14 => ?_))
    · rw [if_pos hb14] at hF
      refine K_region (C_val (V_assign (v := (sv [110, 111, 110, 101])) (.sv _)) ?_)
      refine C_nil (CW_ret ?_)
      obtain rfl := Option.some.inj hF
      exact End_ret () (.tmp rfl rfl .nil) rfl (.sel .nil)
    rw [if_neg (by rw [hb14]; exact Bool.false_ne_true)] at hF
    refine CW_skip (K_region (Cm (sv c1) rfl rfl ?_))
    refine Ca (sv c1) rfl rfl ?_
    refine C_nil (CW_ret ?_)
    obtain rfl := Option.some.inj hF
    exact End_ret () (.tmp rfl rfl .nil) rfl (.sel .nil)
  obtain ⟨hk9, hx10, hd11⟩ := drop_cons hd8
  have hfe12 : (decide (((k5 : Int) : Int) < (a_log.length : Int))) = true := decide_eq_true (by omega)
  rw [s_FormatLog_L1] at hF
  refine K_in (K_region (Cm (.int .i64 (k5 : Int)) rfl rfl ?_))
  refine Cm v0_0.v rfl rfl ?_
  refine C_at .h (fun hp => V_lenR (l := a_log.length) sl45 (.tmp rfl rfl) (crd_len hp)) ?_
  refine C_val (V_lss (i := (k5 : Int)) (j := (a_log.length : Int)) (.tmp rfl rfl) (.tmp rfl rfl)) ?_
  refine C_nil (CW_cond (b := (decide (((k5 : Int) : Int) < (a_log.length : Int)))) (.tmp rfl rfl) (fun _ => ?_) (fun hb => absurd (hfe12.symm.trans hb) (by decide)))
  refine CW_skip ?_
  obtain ⟨o15, hio15, hO16⟩ := bind_some hF
  refine K_cut (fun f' cs' => ∃ (c37 : List UInt8) (g : Fr), o15 = .inr c37 ∧ f' = updL g [(0, v0_0.v), (3, (sv c37)), (4, (.int .i64 (k5 : Int)))] ∧ Ent cs' [crd (RdS 105 rd105) v0_0.v a_log]) ?_ ?_
  · replace hF := hio15
    refine CW_block (K_region (Cm v0_0.v rfl rfl ?_))
    refine Cm (.int .i64 (k5 : Int)) rfl rfl ?_
    refine C_idx (a := x7) sl45 ty105.sz (.tmp rfl rfl) (.tmp rfl rfl) .h (Int.natCast_nonneg k5) hx10 (fun k17 j18 => ?_)
    refine C_ldA1 (ul105_0_105 x7) ag105 ty105.sz rfl (.tmp rfl rfl) .h la105_0_105 (fun p19 => ?_)
    obtain ⟨r20, hx21, hF⟩ := bind_some hF
    refine C_x0 (.rd .h rfl .nil) (X_callS cf121 (.cons (.tmp rfl rfl) .nil) (s_FormatAccess_ok fuel x7 p19 _ hx21)) (fun _ => ?_)
    refine Ca (sv r20) rfl rfl ?_
    refine C_nil (K_in (K_region (Cm (sv r20) rfl rfl ?_)))
    refine C_val (V_eqT (s := r20) (t := []) (.tmp rfl rfl) (.sv _)) ?_
    refine C_nil (CW_cond (b := (r20 == [])) (.tmp rfl rfl) (fun hb36 => ?_) (fun hb36 => ?_))
    · rw [if_pos hb36] at hF
      refine K_region (C_val (V_assign (v := (sv [])) (.sv _)) ?_)
      refine C_nil (CW_ret ?_)
      obtain rfl := Option.some.inj hF
      replace hF := hO16
      try dsimp only at hF
      obtain rfl := Option.some.inj hF
      exact End_ret () (.tmp rfl rfl .nil) rfl (.sel .nil)
    rw [if_neg (by rw [hb36]; exact Bool.false_ne_true)] at hF
    refine CW_skip (K_in (K_region (Cm (.int .i64 (k5 : Int)) rfl rfl ?_)))
    refine C_val (V_gtr (i := (k5 : Int)) (j := 0) (.tmp rfl rfl) (.int _ _)) ?_
    refine C_nil (CW_cond (b := (decide ((0 : Int) < (k5 : Int)))) (.tmp rfl rfl) (fun hb35 => ?_) (fun hb35 => ?_))
    · rw [if_pos hb35] at hF
      refine CW_region (Cm (sv c1) rfl rfl ?_)
      obtain ⟨x23, hx24, hF⟩ := bind_some hF
      obtain ⟨hq26, hz25⟩ := cat_some hx24
      refine C_val (V_concatN (s := c1) (t := [32]) (u := x23) (.tmp rfl rfl) (.sv _) hx24) ?_
      refine Ca (sv x23) rfl rfl ?_
      refine C_nil (CW_region (Cm (sv x23) rfl rfl ?_))
      refine Cm (sv r20) rfl rfl ?_
      obtain ⟨x27, hx28, hF⟩ := bind_some hF
      obtain ⟨hq30, hz29⟩ := cat_some hx28
      refine C_val (V_concatN (s := x23) (t := r20) (u := x27) (.tmp rfl rfl) (.tmp rfl rfl) hx28) ?_
      refine Ca (sv x27) rfl rfl ?_
      refine C_nil ?_
      obtain rfl := Option.some.inj hF
      exact ⟨_, _, rfl, (EqL.cons rfl (EqL.cons rfl (EqL.cons rfl (EqL.nil)))).eq, (.sel (.rd (.t (.t .h)) rfl .nil))⟩
    rw [if_neg (by rw [hb35]; exact Bool.false_ne_true)] at hF
    refine CW_skip (CW_region (Cm (sv c1) rfl rfl ?_))
    refine Cm (sv r20) rfl rfl ?_
    obtain ⟨x31, hx32, hF⟩ := bind_some hF
    obtain ⟨hq34, hz33⟩ := cat_some hx32
    refine C_val (V_concatN (s := c1) (t := r20) (u := x31) (.tmp rfl rfl) (.tmp rfl rfl) hx32) ?_
    refine Ca (sv x31) rfl rfl ?_
    refine C_nil ?_
    obtain rfl := Option.some.inj hF
    exact ⟨_, _, rfl, (EqL.cons rfl (EqL.cons rfl (EqL.cons rfl (EqL.nil)))).eq, (.sel (.rd (.t (.t .h)) rfl .nil))⟩
  rintro _ _ ⟨c37, g39, rfl, rfl, hE⟩
  replace hF := hO16
  clear hO16
  try dsimp only at hF
  refine K_ent hE ?_
  refine CW_region (Cm (.int .i64 (k5 : Int)) rfl rfl ?_)
  refine C_val (V_add (i := (k5 : Int)) (j := 1) (.tmp rfl rfl) (.int _ _)) ?_
  refine Ca (.int .i64 (IntKind.i64.wrap ((k5 : Int) + 1))) rfl rfl ?_
  refine C_nil ?_
  have hw38 : IntKind.i64.wrap ((k5 : Int) + 1) = ((k5 + 1 : Nat) : Int) := by rw [wrap_in (by omega) (by omega)]; rfl
  rw [hw38]
  exact ⟨_, Nat.lt_succ_self _, _, k5 + 1, rest6, _, rfl, (EqL.cons rfl (EqL.cons rfl (EqL.cons rfl (EqL.nil)))).eq, hd11, (.sel (.rd .h rfl .nil)), hF⟩

/-! spec.ViewDigest -/
def s_ViewDigest_L1 (r1 : (List UInt8)) : Nat → Int → Int → Option (Int)
  | 0, _, _ => none
  | m6 + 1, c4, c5 => if (decide ((c5 : Int) < (r1.length : Int))) then (
      (ix r1 c5).bind fun u14 =>
      s_ViewDigest_L1 r1 m6 (Int.tmod (IntKind.i64.wrap ((IntKind.i64.wrap (c4 * 257)) + (u14.toNat : Int))) 1000003) (IntKind.i64.wrap (c5 + 1)))
    else (
      some c4)
def s_ViewDigest (fuel : Nat) (a_log : List Access) : Option (Int) :=
  (s_FormatLog fuel a_log).bind fun r1 =>
  s_ViewDigest_L1 r1 (((r1.length : Int) - 0).toNat + 2) 1 0
theorem s_ViewDigest_ok (fuel : Nat) (a_log : List Access) (v0_0 : Sv) (R : Int) (hF : s_ViewDigest fuel a_log = some R) :
    Fw.Spec Tryz.prog 40 [v0_0.v] [crd (RdS 105 rd105) v0_0.v a_log] (fun _ : Unit => (.int .i64 R)) (fun _ => []) := by
  refine Spec_enter (n := 23) Tryz.func40 rfl rfl (rs := [.tmp 2]) rfl rfl rfl ?_
  intro H0 F0
  unfold s_ViewDigest at hF
  refine K_region (C_val (V_assign (v := (.int .i64 0)) (.int _ _)) ?_)
  refine C_nil (K_region (Cm v0_0.v rfl rfl ?_))
  obtain ⟨r1, hx2, hF⟩ := bind_some hF
  refine C_x0 (.rd .h rfl .nil) (X_callS cf88 (.cons (.tmp rfl rfl) .nil) (s_FormatLog_ok fuel a_log v0_0 _ hx2)) (fun _ => ?_)
  refine Ca (sv r1) rfl rfl ?_
  refine C_nil (K_region (C_val (V_assign (v := (.int .i64 1)) (.int _ _)) ?_))
  refine C_nil (K_in (K_region (C_val (V_assign (v := (.int .i64 0)) (.int _ _)) ?_)))
  refine C_nil (CW_block (CW_loop (m := (((r1.length : Int) - 0).toNat + 2)) (fun m6 f' cs' => ∃ (g : Fr) (c4 : Int) (c5 : Int), f' = updL g [(3, (sv r1)), (4, (.int .i64 c4)), (5, (.int .i64 c5))] ∧ Ent cs' [] ∧ s_ViewDigest_L1 r1 m6 c4 c5 = some R) ⟨_, _, _, (EqL.cons rfl (EqL.cons rfl (EqL.cons rfl (EqL.nil)))).eq, (.sel .nil), hF⟩ ?_))
  clear hF
  rintro m6 _ _ ⟨g7, c4, c5, rfl, hE, hF⟩
  refine K_ent hE ?_
  clear hE
  rcases m6 with _ | m6
  · rw [s_ViewDigest_L1] at hF
    exact absurd hF (by simp)
  rw [s_ViewDigest_L1] at hF
  refine K_in (K_region (Cm (.int .i64 c5) rfl rfl ?_))
  refine Cm (sv r1) rfl rfl ?_
  refine C_val (V_lenStr (s := r1) st9 (.tmp rfl rfl)) ?_
  refine C_val (V_lss (i := c5) (j := (r1.length : Int)) (.tmp rfl rfl) (.tmp rfl rfl)) ?_
  refine C_nil (CW_cond (b := (decide ((c5 : Int) < (r1.length : Int)))) (.tmp rfl rfl) (fun hb18 => ?_) (fun hb18 => ?_))
  · rw [if_pos hb18] at hF
    refine CW_skip (K_block (CW_region (Cm (.int .i64 c4) rfl rfl ?_)))
    refine C_val (V_mul (i := c4) (j := 257) (.tmp rfl rfl) (.int _ _)) ?_
    refine Cm (sv r1) rfl rfl ?_
    refine Cm (.int .i64 c5) rfl rfl ?_
    obtain ⟨u14, hx15, hF⟩ := bind_some hF
    obtain ⟨hp16, hx17⟩ := ix_some hx15
    refine C_val (V_indexT (u := u14) st9 (.tmp rfl rfl) (.tmp rfl rfl) hp16 hx17) ?_
    refine C_val (V_convFromU8 (u := u14) ik5 ik3 (.tmp rfl rfl)) ?_
    refine C_val (V_add (i := (IntKind.i64.wrap (c4 * 257))) (j := (u14.toNat : Int)) (.tmp rfl rfl) (.tmp rfl rfl)) ?_
    refine C_val (V_rem (i := (IntKind.i64.wrap ((IntKind.i64.wrap (c4 * 257)) + (u14.toNat : Int)))) (j := 1000003) (.tmp rfl rfl) (.int _ _) (by decide)) ?_
    refine Ca (.int .i64 (Int.tmod (IntKind.i64.wrap ((IntKind.i64.wrap (c4 * 257)) + (u14.toNat : Int))) 1000003)) rfl rfl ?_
    refine C_nil (CW_region (Cm (.int .i64 c5) rfl rfl ?_))
    refine C_val (V_add (i := c5) (j := 1) (.tmp rfl rfl) (.int _ _)) ?_
    refine Ca (.int .i64 (IntKind.i64.wrap (c5 + 1))) rfl rfl ?_
    refine C_nil ?_
    exact ⟨m6, Nat.lt_succ_self _, _, _, _, (EqL.cons rfl (EqL.cons rfl (EqL.cons rfl (EqL.nil)))).eq, (.sel .nil), hF⟩
  rw [if_neg (by rw [hb18]; exact Bool.false_ne_true)] at hF
  refine CW_exit ?_
  iterate 2 refine CThen_exit ?_
  refine CIn_self (K_region (Cm (.int .i64 c4) rfl rfl ?_))
  refine Ca (.int .i64 c4) rfl rfl ?_
  refine C_nil (CW_ret ?_)
  obtain rfl := Option.some.inj hF
  exact End_ret () (.tmp rfl rfl .nil) rfl (.sel .nil)

/-! spec.FormatTuples -/
def s_FormatTuples_L1 (fuel : Nat) : List (List Int) → Nat → (List UInt8) → Option ((List UInt8))
  | [], k5, c1 => if (c1 == []) then (
      some [110, 111, 110, 101])
    else (
      some c1)
  | x7 :: rest6, k5, c1 => (if (decide ((0 : Int) < (k5 : Int))) then (
        (cat c1 [32]).bind fun x17 =>
        (cat x17 [40]).bind fun x21 =>
        (s_l2List fuel x7).bind fun r28 =>
        (cat x21 r28).bind fun x31 =>
        (cat x31 [41]).bind fun x35 =>
        some x35)
      else (
        (cat c1 [40]).bind fun x39 =>
        (s_l2List fuel x7).bind fun r46 =>
        (cat x39 r46).bind fun x49 =>
        (cat x49 [41]).bind fun x53 =>
        some x53)).bind fun o15 =>
    match o15 with
    | c58 => s_FormatTuples_L1 fuel rest6 (k5 + 1) c58
def s_FormatTuples (fuel : Nat) (a_l : List (List Int)) : Option ((List UInt8)) :=
  s_FormatTuples_L1 fuel a_l 0 []
theorem s_FormatTuples_ok (fuel : Nat) (a_l : List (List Int)) (v0_0 : Sv) (R : (List UInt8)) (hF : s_FormatTuples fuel a_l = some R) :
    Fw.Spec Tryz.prog 41 [v0_0.v] [crd (RdS 22 (RdS 3 rdInt)) v0_0.v a_l] (fun _ : Unit => (sv R)) (fun _ => []) := by
  refine Spec_enter (n := 27) Tryz.func41 rfl rfl (rs := [.tmp 2]) rfl rfl rfl ?_
  intro H0 F0
  unfold s_FormatTuples at hF
  refine K_region (C_val (V_assign (v := (sv [])) (.sv _)) ?_)
  refine C_nil (K_region (C_val (V_assign (v := (sv [])) (.sv _)) ?_))
  refine C_nil (K_in (K_region (C_val (V_assign (v := (.int .i64 0)) (.int _ _)) ?_)))
  refine C_nil (CW_block (CW_loop (m := a_l.length) (fun m3 f' cs' => ∃ (g : Fr) (k5 : Nat) (rest6 : List (List Int)) (c1 : List UInt8), m3 = rest6.length ∧ f' = updL g [(0, v0_0.v), (3, (sv c1)), (4, (.int .i64 (k5 : Int)))] ∧ List.drop k5 a_l = rest6 ∧ Ent cs' [crd (RdS 22 (RdS 3 rdInt)) v0_0.v a_l] ∧ s_FormatTuples_L1 fuel rest6 k5 c1 = some R) ⟨_, 0, _, _, rfl, (EqL.cons rfl (EqL.cons rfl (EqL.cons rfl (EqL.nil)))).eq, rfl, (.sel (.rd .h rfl .nil)), hF⟩ ?_))
  clear hF
  rintro m3 _ _ ⟨g4, k5, rest6, c1, rfl, rfl, hd8, hE, hF⟩
  refine K_ent hE ?_
  clear hE
  refine K_pure (c := crd (RdS 22 (RdS 3 rdInt)) v0_0.v a_l) .h crd_bound (fun hbd13 => ?_)
  rcases rest6 with _ | ⟨x7, rest6⟩
  · have hk9 := List.drop_eq_nil_iff.1 hd8
    have hfe12 : (decide (((k5 : Int) : Int) < (a_l.length : Int))) = false := decide_eq_false (by omega)
    rw [s_FormatTuples_L1] at hF
    refine K_in (K_region (Cm (.int .i64 (k5 : Int)) rfl rfl ?_))
    refine Cm v0_0.v rfl rfl ?_
    refine C_at .h (fun hp => V_lenR (l := a_l.length) sl83 (.tmp rfl rfl) (crd_len hp)) ?_
    refine C_val (V_lss (i := (k5 : Int)) (j := (a_l.length : Int)) (.tmp rfl rfl) (.tmp rfl rfl)) ?_
    refine C_nil (CW_cond (b := (decide (((k5 : Int) : Int) < (a_l.length : Int)))) (.tmp rfl rfl) (fun hb => absurd (hfe12.symm.trans hb) (by decide)) (fun _ => ?_))
    refine CW_exit ?_
    iterate 2 refine CThen_exit ?_
    refine CIn_self (K_in (K_region (Cm (sv c1) rfl rfl ?_)))
    refine C_val (V_eqT (s := c1) (t := []) (.tmp rfl rfl) (.sv _)) ?_
    refine C_nil (CW_cond (b := (c1 == [])) (.tmp rfl rfl) (fun hb14 => ?_) (fun hb14 => ?_))
    · rw [if_pos hb14] at hF
      refine K_region (C_val (V_assign (v := (sv [110, 111, 110, 101])) (.sv _)) ?_)
      refine C_nil (CW_ret ?_)
      obtain rfl := Option.some.inj hF
      exact End_ret () (.tmp rfl rfl .nil) rfl (.sel .nil)
    rw [if_neg (by rw [hb14]; exact Bool.false_ne_true)] at hF
    refine CW_skip (K_region (Cm (sv c1) rfl rfl ?_))
    refine Ca (sv c1) rfl rfl ?_
    refine C_nil (CW_ret ?_)
    obtain rfl := Option.some.inj hF
    exact End_ret () (.tmp rfl rfl .nil) rfl (.sel .nil)
  obtain ⟨hk9, hx10, hd11⟩ := drop_cons hd8
  have hfe12 : (decide (((k5 : Int) : Int) < (a_l.length : Int))) = true := decide_eq_true (by omega)
  rw [s_FormatTuples_L1] at hF
  refine K_in (K_region (Cm (.int .i64 (k5 : Int)) rfl rfl ?_))
  refine Cm v0_0.v rfl rfl ?_
  refine C_at .h (fun hp => V_lenR (l := a_l.length) sl83 (.tmp rfl rfl) (crd_len hp)) ?_
  refine C_val (V_lss (i := (k5 : Int)) (j := (a_l.length : Int)) (.tmp rfl rfl) (.tmp rfl rfl)) ?_
  refine C_nil (CW_cond (b := (decide (((k5 : Int) : Int) < (a_l.length : Int)))) (.tmp rfl rfl) (fun _ => ?_) (fun hb => absurd (hfe12.symm.trans hb) (by decide)))
  refine CW_skip ?_
  obtain ⟨o15, hio15, hO16⟩ := bind_some hF
  refine K_cut (fun f' cs' => ∃ (c58 : List UInt8) (g : Fr), c58 = o15 ∧ f' = updL g [(0, v0_0.v), (3, (sv c58)), (4, (.int .i64 (k5 : Int)))] ∧ Ent cs' [crd (RdS 22 (RdS 3 rdInt)) v0_0.v a_l]) ?_ ?_
  · replace hF := hio15
    refine CW_block (K_in (K_region (Cm (.int .i64 (k5 : Int)) rfl rfl ?_)))
    refine C_val (V_gtr (i := (k5 : Int)) (j := 0) (.tmp rfl rfl) (.int _ _)) ?_
    refine C_nil (CW_cond (b := (decide ((0 : Int) < (k5 : Int)))) (.tmp rfl rfl) (fun hb57 => ?_) (fun hb57 => ?_))
    · rw [if_pos hb57] at hF
      refine CW_region (Cm (sv c1) rfl rfl ?_)
      obtain ⟨x17, hx18, hF⟩ := bind_some hF
      obtain ⟨hq20, hz19⟩ := cat_some hx18
      refine C_val (V_concatN (s := c1) (t := [32]) (u := x17) (.tmp rfl rfl) (.sv _) hx18) ?_
      refine Ca (sv x17) rfl rfl ?_
      refine C_nil (CW_region (Cm (sv x17) rfl rfl ?_))
      obtain ⟨x21, hx22, hF⟩ := bind_some hF
      obtain ⟨hq24, hz23⟩ := cat_some hx22
      refine C_val (V_concatN (s := x17) (t := [40]) (u := x21) (.tmp rfl rfl) (.sv _) hx22) ?_
      refine Cm v0_0.v rfl rfl ?_
      refine Cm (.int .i64 (k5 : Int)) rfl rfl ?_
      refine C_idx (a := x7) sl83 ty22.sz (.tmp rfl rfl) (.tmp rfl rfl) .h (Int.natCast_nonneg k5) hx10 (fun k25 j26 => ?_)
      refine C_ldV (R' := (RdS 3 rdInt)) ag22 (.tmp rfl rfl) .h lv22_0 (fun w27 => ?_)
      obtain ⟨r28, hx29, hF⟩ := bind_some hF
      refine C_x0 (.rd .h rfl .nil) (X_callS cf87 (.cons (.tmp rfl rfl) .nil) (s_l2List_ok fuel x7 w27 _ hx29)) (fun _ => ?_)
      obtain ⟨x31, hx32, hF⟩ := bind_some hF
      obtain ⟨hq34, hz33⟩ := cat_some hx32
      refine C_val (V_concatN (s := x21) (t := r28) (u := x31) (.tmp rfl rfl) (.tmp rfl rfl) hx32) ?_
      obtain ⟨x35, hx36, hF⟩ := bind_some hF
      obtain ⟨hq38, hz37⟩ := cat_some hx36
      refine C_val (V_concatN (s := x31) (t := [41]) (u := x35) (.tmp rfl rfl) (.sv _) hx36) ?_
      refine Ca (sv x35) rfl rfl ?_
      refine C_nil ?_
      obtain rfl := Option.some.inj hF
      exact ⟨_, _, rfl, (EqL.cons rfl (EqL.cons rfl (EqL.cons rfl (EqL.nil)))).eq, (.sel (.rd (.t (.t .h)) rfl .nil))⟩
    rw [if_neg (by rw [hb57]; exact Bool.false_ne_true)] at hF
    refine CW_skip (CW_region (Cm (sv c1) rfl rfl ?_))
    obtain ⟨x39, hx40, hF⟩ := bind_some hF
    obtain ⟨hq42, hz41⟩ := cat_some hx40
    refine C_val (V_concatN (s := c1) (t := [40]) (u := x39) (.tmp rfl rfl) (.sv _) hx40) ?_
    refine Cm v0_0.v rfl rfl ?_
    refine Cm (.int .i64 (k5 : Int)) rfl rfl ?_
    refine C_idx (a := x7) sl83 ty22.sz (.tmp rfl rfl) (.tmp rfl rfl) .h (Int.natCast_nonneg k5) hx10 (fun k43 j44 => ?_)
    refine C_ldV (R' := (RdS 3 rdInt)) ag22 (.tmp rfl rfl) .h lv22_0 (fun w45 => ?_)
    obtain ⟨r46, hx47, hF⟩ := bind_some hF
    refine C_x0 (.rd .h rfl .nil) (X_callS cf87 (.cons (.tmp rfl rfl) .nil) (s_l2List_ok fuel x7 w45 _ hx47)) (fun _ => ?_)
    obtain ⟨x49, hx50, hF⟩ := bind_some hF
    obtain ⟨hq52, hz51⟩ := cat_some hx50
    refine C_val (V_concatN (s := x39) (t := r46) (u := x49) (.tmp rfl rfl) (.tmp rfl rfl) hx50) ?_
    obtain ⟨x53, hx54, hF⟩ := bind_some hF
    obtain ⟨hq56, hz55⟩ := cat_some hx54
    refine C_val (V_concatN (s := x49) (t := [41]) (u := x53) (.tmp rfl rfl) (.sv _) hx54) ?_
    refine Ca (sv x53) rfl rfl ?_
    refine C_nil ?_
    obtain rfl := Option.some.inj hF
    exact ⟨_, _, rfl, (EqL.cons rfl (EqL.cons rfl (EqL.cons rfl (EqL.nil)))).eq, (.sel (.rd (.t (.t .h)) rfl .nil))⟩
  rintro _ _ ⟨c58, g60, rfl, rfl, hE⟩
  replace hF := hO16
  clear hO16
  try dsimp only at hF
  refine K_ent hE ?_
  refine CW_region (Cm (.int .i64 (k5 : Int)) rfl rfl ?_)
  refine C_val (V_add (i := (k5 : Int)) (j := 1) (.tmp rfl rfl) (.int _ _)) ?_
  refine Ca (.int .i64 (IntKind.i64.wrap ((k5 : Int) + 1))) rfl rfl ?_
  refine C_nil ?_
  have hw59 : IntKind.i64.wrap ((k5 : Int) + 1) = ((k5 + 1 : Nat) : Int) := by rw [wrap_in (by omega) (by omega)]; rfl
  rw [hw59]
  exact ⟨_, Nat.lt_succ_self _, _, k5 + 1, rest6, _, rfl, (EqL.cons rfl (EqL.cons rfl (EqL.cons rfl (EqL.nil)))).eq, hd11, (.sel (.rd .h rfl .nil)), hF⟩

/-! spec.DigestOf -/
def s_DigestOf_L2 (r34 : (List UInt8)) : Nat → Int → Int → Option (Int)
  | 0, _, _ => none
  | m39 + 1, c37, c38 => if (decide ((c38 : Int) < (r34.length : Int))) then (
      (ix r34 c38).bind fun u47 =>
      (s_l35Mix c37 (u47.toNat : Int)).bind fun r51 =>
      s_DigestOf_L2 r34 m39 r51 (IntKind.i64.wrap (c38 + 1)))
    else (
      some c37)
def s_DigestOf_L4 (r84 : (List UInt8)) : Nat → Int → Int → Option (Int)
  | 0, _, _ => none
  | m89 + 1, c87, c88 => if (decide ((c88 : Int) < (r84.length : Int))) then (
      (ix r84 c88).bind fun u97 =>
      (s_l35Mix c87 (u97.toNat : Int)).bind fun r101 =>
      s_DigestOf_L4 r84 m89 r101 (IntKind.i64.wrap (c88 + 1)))
    else (
      some c87)
def s_DigestOf_L3 (fuel : Nat) : List (List (List Int)) → Nat → Int → Option (Int)
  | [], k70, c66 => some c66
  | x72 :: rest71, k70, c66 => ((s_FormatTuples fuel x72).bind fun r84 =>
      s_DigestOf_L4 r84 (((r84.length : Int) - 0).toNat + 2) c66 0).bind fun o79 =>
    match o79 with
    | c105 => s_DigestOf_L3 fuel rest71 (k70 + 1) c105
def s_DigestOf_L1 (a_m : Mediator) (fuel : Nat) : Nat → Int → Int → Option (Int)
  | 0, _, _ => none
  | m10 + 1, c8, c9 => (bif (decide ((c9 : Int) < (a_m.Source.Facts.length : Int))) then ((s_IsMediator a_m).bind fun r21 =>
        some r21)
      else (some false)).bind fun o18 =>
    match o18 with
    | c24 => if c24 then (
        ((ix a_m.Source.Facts c9).bind fun x27 =>
          (s_FormatFact fuel x27).bind fun r34 =>
          s_DigestOf_L2 r34 (((r34.length : Int) - 0).toNat + 2) c8 0).bind fun o25 =>
        match o25 with
        | c55 => s_DigestOf_L1 a_m fuel m10 c55 (IntKind.i64.wrap (c9 + 1)))
      else (
        (s_IsMediator a_m).bind fun r57 =>
        if (!r57) then (
          some 0)
        else (
          (s_ViewDigest fuel a_m.Log).bind fun r60 =>
          (s_l35Mix c8 r60).bind fun r63 =>
          s_DigestOf_L3 fuel a_m.Results 0 r63))
def s_DigestOf (fuel : Nat) (a_m : Mediator) : Option (Int) :=
  (s_l35Mix 1 (Int.tmod a_m.Source.Version 1000)).bind fun r2 =>
  (s_l35Mix r2 (Int.tmod a_m.Now 10000)).bind fun r5 =>
  s_DigestOf_L1 a_m fuel (((a_m.Source.Facts.length : Int) - 0).toNat + 2) r5 0
theorem s_DigestOf_ok (fuel : Nat) (a_m : Mediator) (v0_0 : Sv) (v0_1 : Sv) (v0_2 : Sv) (v0_3 : Sv) (v0_5 : Sv) (v0_8 : Sv) (v0_9 : Sv) (v0_11 : Sv) (R : Int) (hF : s_DigestOf fuel a_m = some R) :
    Fw.Spec Tryz.prog 10 [(.agg [v0_0.v, v0_1.v, v0_2.v, v0_3.v, (.int .i64 a_m.Source.Version), v0_5.v, (.int .i64 a_m.Cache.Age), (.int .i64 a_m.Now), v0_8.v, v0_9.v, (.int .i64 a_m.Spent), v0_11.v].toArray)] [crd (RdS 3 rdInt) v0_0.v a_m.Schema, crd (RdS 108 rd108) v0_1.v a_m.Methods, crd (RdS 110 rd110) v0_2.v a_m.Rules, crd (RdS 80 rd80) v0_3.v a_m.Source.Facts, crd (RdS 147 rd147) v0_5.v a_m.Cache.Entries, crd (RdS 105 rd105) v0_8.v a_m.Log, crd (RdS 3 rdInt) v0_9.v a_m.Times, crd (RdS 83 (RdS 22 (RdS 3 rdInt))) v0_11.v a_m.Results] (fun _ : Unit => (.int .i64 R)) (fun _ => []) := by
  refine Spec_enter (n := 84) Tryz.func10 rfl rfl (rs := [.tmp 2]) rfl rfl rfl ?_
  intro H0 F0
  unfold s_DigestOf at hF
  refine K_region (C_newR rfl (N_box (g := false) (v := (.agg [v0_0.v, v0_1.v, v0_2.v, v0_3.v, (.int .i64 a_m.Source.Version), v0_5.v, (.int .i64 a_m.Cache.Age), (.int .i64 a_m.Now), v0_8.v, v0_9.v, (.int .i64 a_m.Spent), v0_11.v].toArray)) ty47.sz (.tmp rfl rfl) rfl) (fun k1 => ?_))
  refine C_val (V_assign (v := (.int .i64 0)) (.int _ _)) ?_
  refine C_nil (K_draw [0, 1, 2, 3, 5, 6, 7, 4, 8, 9] [0, 1, 3, 7, 15, 0, 32, 96, 255, 511] [4, 8] mixed (by decide +kernel) ?_)
  refine D_val rfl .no (fun ha => V_fieldAddr (off := 3) fd47_3 (EN ha (.tmp rfl rfl) rfl)) ?_
  refine D_val rfl .no (fun ha => V_fieldAddr (off := 1) fd41_1 (EN ha (.tmp rfl rfl) rfl)) ?_
  refine D_at rfl .no .h rfl (fun ha hp => V_load (v := (.int .i64 a_m.Source.Version)) ag3 (EN ha (.tmp rfl rfl) rfl) hp.2 rfl rfl) ?_
  refine D_val rfl .no (fun ha => V_rem (i := a_m.Source.Version) (j := 1000) (EN ha (.tmp rfl rfl) rfl) (EN ha (.int _ _) rfl) (by decide)) ?_
  refine D_val rfl .no (fun ha => V_fieldAddr (off := 7) fd47_5 (EN ha (.tmp rfl rfl) rfl)) ?_
  refine D_at rfl .no .h rfl (fun ha hp => V_load (v := (.int .i64 a_m.Now)) ag3 (EN ha (.tmp rfl rfl) rfl) hp.2 rfl rfl) ?_
  refine D_val rfl .no (fun ha => V_rem (i := a_m.Now) (j := 10000) (EN ha (.tmp rfl rfl) rfl) (EN ha (.int _ _) rfl) (by decide)) ?_
  obtain ⟨r2, hx3, hF⟩ := bind_some hF
  refine D_act0 rfl rfl .no .nil .nil (fun ha => X_callS cf38 (.cons (EN ha (.int _ _) rfl) (.cons (EN ha (.tmp rfl rfl) rfl) .nil)) (s_l35Mix_ok 1 (Int.tmod a_m.Source.Version 1000) _ hx3)) (fun _ => ?_)
  obtain ⟨r5, hx6, hF⟩ := bind_some hF
  refine D_act0 rfl rfl .no .nil .nil (fun ha => X_callS cf38 (.cons (EN ha (.tmp rfl rfl) rfl) (.cons (EN ha (.tmp rfl rfl) rfl) .nil)) (s_l35Mix_ok r2 (Int.tmod a_m.Now 10000) _ hx6)) (fun _ => ?_)
  refine Da (.int .i64 r5) rfl rfl rfl rfl ?_
  refine D_nil (K_in (K_region (C_val (V_assign (v := (.int .i64 0)) (.int _ _)) ?_)))
  refine C_nil (CW_block (CW_loop (m := (((a_m.Source.Facts.length : Int) - 0).toNat + 2)) (fun m10 f' cs' => ∃ (g : Fr) (c8 : Int) (c9 : Int), f' = updL g [(1, (.pointer (some ⟨k1, 0, some 0⟩))), (3, (.int .i64 c8)), (4, (.int .i64 c9))] ∧ Ent cs' [cboR k1 47 (.agg [v0_0.v, v0_1.v, v0_2.v, v0_3.v, (.int .i64 a_m.Source.Version), v0_5.v, (.int .i64 a_m.Cache.Age), (.int .i64 a_m.Now), v0_8.v, v0_9.v, (.int .i64 a_m.Spent), v0_11.v].toArray), crd (RdS 3 rdInt) v0_0.v a_m.Schema, crd (RdS 108 rd108) v0_1.v a_m.Methods, crd (RdS 110 rd110) v0_2.v a_m.Rules, crd (RdS 80 rd80) v0_3.v a_m.Source.Facts, crd (RdS 147 rd147) v0_5.v a_m.Cache.Entries, crd (RdS 105 rd105) v0_8.v a_m.Log, crd (RdS 3 rdInt) v0_9.v a_m.Times, crd (RdS 83 (RdS 22 (RdS 3 rdInt))) v0_11.v a_m.Results] ∧ s_DigestOf_L1 a_m fuel m10 c8 c9 = some R) ⟨_, _, _, (EqL.cons rfl (EqL.cons rfl (EqL.cons rfl (EqL.nil)))).eq, (.sel (.rd .h rfl (.rd (.t .h) rfl (.rd (.t (.t .h)) rfl (.rd (.t (.t (.t .h))) rfl (.rd (.t (.t (.t (.t .h)))) rfl (.rd (.t (.t (.t (.t (.t .h))))) rfl (.rd (.t (.t (.t (.t (.t (.t .h)))))) rfl (.rd (.t (.t (.t (.t (.t (.t (.t .h))))))) rfl (.rd (.t (.t (.t (.t (.t (.t (.t (.t .h)))))))) rfl .nil)))))))))), hF⟩ ?_))
  clear hF
  rintro m10 _ _ ⟨g11, c8, c9, rfl, hE, hF⟩
  refine K_ent hE ?_
  clear hE
  rcases m10 with _ | m10
  · rw [s_DigestOf_L1] at hF
    exact absurd hF (by simp)
  rw [s_DigestOf_L1] at hF
  refine K_in ?_
  obtain ⟨o18, hio18, hO19⟩ := bind_some hF
  refine K_region (C_cut (fun f' cs' => ∃ (c24 : Bool) (g : Fr), c24 = o18 ∧ f' = updL g [(1, (.pointer (some ⟨k1, 0, some 0⟩))), (3, (.int .i64 c8)), (4, (.int .i64 c9)), (28, (.bool c24))] ∧ Ent cs' [cboR k1 47 (.agg [v0_0.v, v0_1.v, v0_2.v, v0_3.v, (.int .i64 a_m.Source.Version), v0_5.v, (.int .i64 a_m.Cache.Age), (.int .i64 a_m.Now), v0_8.v, v0_9.v, (.int .i64 a_m.Spent), v0_11.v].toArray), crd (RdS 3 rdInt) v0_0.v a_m.Schema, crd (RdS 108 rd108) v0_1.v a_m.Methods, crd (RdS 110 rd110) v0_2.v a_m.Rules, crd (RdS 80 rd80) v0_3.v a_m.Source.Facts, crd (RdS 147 rd147) v0_5.v a_m.Cache.Entries, crd (RdS 105 rd105) v0_8.v a_m.Log, crd (RdS 3 rdInt) v0_9.v a_m.Times, crd (RdS 83 (RdS 22 (RdS 3 rdInt))) v0_11.v a_m.Results]) ?_ ?_)
  · replace hF := hio18
    refine Cm (.int .i64 c9) rfl rfl ?_
    refine C_val (V_fieldAddr (off := 3) fd47_3 (.tmp rfl rfl)) ?_
    refine C_val (V_fieldAddr (off := 0) fd41_0 (.tmp rfl rfl)) ?_
    refine C_at .h (fun hp => V_load (v := v0_3.v) ag39 (.tmp rfl rfl) hp.2 rfl rfl) ?_
    refine C_at (.t (.t (.t (.t .h)))) (fun hp => V_lenR (l := a_m.Source.Facts.length) sl39 (.tmp rfl rfl) (crd_len hp)) ?_
    refine C_val (V_lss (i := c9) (j := (a_m.Source.Facts.length : Int)) (.tmp rfl rfl) (.tmp rfl rfl)) ?_
    refine Cm (.bool (decide ((c9 : Int) < (a_m.Source.Facts.length : Int)))) rfl rfl ?_
    rcases Bool.eq_false_or_eq_true (decide ((c9 : Int) < (a_m.Source.Facts.length : Int))) with hg20 | hg20
    · rw [hg20]
      try rw [hg20] at hF; dsimp only [cond_true, cond_false] at hF
      refine C_on (t := 25) rfl rfl rfl ?_
      refine C_at .h (fun hp => V_loadBox ag47 ty47.sz rfl (.tmp rfl rfl) hp.2 rfl) ?_
      refine C_on (t := 25) rfl rfl rfl ?_
      obtain ⟨r21, hx22, hF⟩ := bind_some hF
      refine C_x0 (.rd (.t .h) rfl (.rd (.t (.t .h)) rfl (.rd (.t (.t (.t .h))) rfl (.rd (.t (.t (.t (.t .h)))) rfl (.rd (.t (.t (.t (.t (.t .h))))) rfl (.rd (.t (.t (.t (.t (.t (.t .h)))))) rfl (.rd (.t (.t (.t (.t (.t (.t (.t .h))))))) rfl (.rd (.t (.t (.t (.t (.t (.t (.t (.t .h)))))))) rfl .nil)))))))) (X_callS cf19 (.cons (.tmp rfl rfl) .nil) (s_IsMediator_ok a_m v0_0 v0_1 v0_2 v0_3 v0_5 v0_8 v0_9 v0_11 _ hx22)) (fun _ => ?_)
      refine C_val (V_pick (b := true) (u := (.bool r21)) (v := (.bool false)) (.tmp rfl rfl) (.tmp rfl rfl) (.bool _)) ?_
      refine C_nil ?_
      obtain rfl := Option.some.inj hF
      exact ⟨_, _, rfl, (EqL.cons rfl (EqL.cons rfl (EqL.cons rfl (EqL.cons rfl (EqL.nil))))).eq, (.sel (.rd .h rfl (.rd (.t .h) rfl (.rd (.t (.t .h)) rfl (.rd (.t (.t (.t .h))) rfl (.rd (.t (.t (.t (.t .h)))) rfl (.rd (.t (.t (.t (.t (.t .h))))) rfl (.rd (.t (.t (.t (.t (.t (.t .h)))))) rfl (.rd (.t (.t (.t (.t (.t (.t (.t .h))))))) rfl (.rd (.t (.t (.t (.t (.t (.t (.t (.t .h)))))))) rfl .nil))))))))))⟩
    rw [hg20]
    try rw [hg20] at hF; dsimp only [cond_true, cond_false] at hF
    iterate 2 refine C_off (t := 25) rfl rfl rfl ?_
    refine C_val (V_pick (b := false) (u := undef) (v := (.bool false)) (.tmp rfl rfl) (.tmp rfl rfl) (.bool _)) ?_
    refine C_nil ?_
    obtain rfl := Option.some.inj hF
    exact ⟨_, _, rfl, (EqL.cons rfl (EqL.cons rfl (EqL.cons rfl (EqL.cons rfl (EqL.nil))))).eq, (.sel (.rd .h rfl (.rd (.t .h) rfl (.rd (.t (.t .h)) rfl (.rd (.t (.t (.t .h))) rfl (.rd (.t (.t (.t (.t .h)))) rfl (.rd (.t (.t (.t (.t (.t .h))))) rfl (.rd (.t (.t (.t (.t (.t (.t .h)))))) rfl (.rd (.t (.t (.t (.t (.t (.t (.t .h))))))) rfl (.rd (.t (.t (.t (.t (.t (.t (.t (.t .h)))))))) rfl .nil))))))))))⟩
  rintro _ _ ⟨c24, g110, rfl, rfl, hE⟩
  replace hF := hO19
  clear hO19
  try dsimp only at hF
  refine K_ent hE ?_
  refine CW_cond (b := c24) (.tmp rfl rfl) (fun hb109 => ?_) (fun hb109 => ?_)
  · rw [if_pos hb109] at hF
    refine CW_skip ?_
    obtain ⟨o25, hio25, hO26⟩ := bind_some hF
    refine K_cut (fun f' cs' => ∃ (c55 : Int) (g : Fr), c55 = o25 ∧ f' = updL g [(1, (.pointer (some ⟨k1, 0, some 0⟩))), (3, (.int .i64 c55)), (4, (.int .i64 c9))] ∧ Ent cs' [cboR k1 47 (.agg [v0_0.v, v0_1.v, v0_2.v, v0_3.v, (.int .i64 a_m.Source.Version), v0_5.v, (.int .i64 a_m.Cache.Age), (.int .i64 a_m.Now), v0_8.v, v0_9.v, (.int .i64 a_m.Spent), v0_11.v].toArray), crd (RdS 3 rdInt) v0_0.v a_m.Schema, crd (RdS 108 rd108) v0_1.v a_m.Methods, crd (RdS 110 rd110) v0_2.v a_m.Rules, crd (RdS 80 rd80) v0_3.v a_m.Source.Facts, crd (RdS 147 rd147) v0_5.v a_m.Cache.Entries, crd (RdS 105 rd105) v0_8.v a_m.Log, crd (RdS 3 rdInt) v0_9.v a_m.Times, crd (RdS 83 (RdS 22 (RdS 3 rdInt))) v0_11.v a_m.Results]) ?_ ?_
    · replace hF := hio25
      refine CW_block (K_region (C_val (V_fieldAddr (off := 3) fd47_3 (.tmp rfl rfl)) ?_))
      refine C_val (V_fieldAddr (off := 0) fd41_0 (.tmp rfl rfl)) ?_
      refine C_at .h (fun hp => V_load (v := v0_3.v) ag39 (.tmp rfl rfl) hp.2 rfl rfl) ?_
      refine Cm (.int .i64 c9) rfl rfl ?_
      obtain ⟨x27, hx28, hF⟩ := bind_some hF
      obtain ⟨hp29, hx30⟩ := ix_some hx28
      refine C_idx (a := x27) sl39 ty80.sz (.tmp rfl rfl) (.tmp rfl rfl) (.t (.t (.t (.t .h)))) hp29 hx30 (fun k31 j32 => ?_)
      refine C_ldA1 (ul80_0_80 x27) ag80 ty80.sz rfl (.tmp rfl rfl) .h la80_0_80 (fun p33 => ?_)
      obtain ⟨r34, hx35, hF⟩ := bind_some hF
      refine C_x0 (.rd .h rfl .nil) (X_callS cf39 (.cons (.tmp rfl rfl) .nil) (s_FormatFact_ok fuel x27 p33 _ hx35)) (fun _ => ?_)
      refine Ca (sv r34) rfl rfl ?_
      refine C_nil (K_region (C_val (V_assign (v := (.int .i64 0)) (.int _ _)) ?_))
      refine C_nil (CW_block (CW_loop (m := (((r34.length : Int) - 0).toNat + 2)) (fun m39 f' cs' => ∃ (g : Fr) (c37 : Int) (c38 : Int), f' = updL g [(1, (.pointer (some ⟨k1, 0, some 0⟩))), (3, (.int .i64 c37)), (4, (.int .i64 c9)), (5, (sv r34)), (6, (.int .i64 c38))] ∧ Ent cs' [cboR k1 47 (.agg [v0_0.v, v0_1.v, v0_2.v, v0_3.v, (.int .i64 a_m.Source.Version), v0_5.v, (.int .i64 a_m.Cache.Age), (.int .i64 a_m.Now), v0_8.v, v0_9.v, (.int .i64 a_m.Spent), v0_11.v].toArray), crd (RdS 3 rdInt) v0_0.v a_m.Schema, crd (RdS 108 rd108) v0_1.v a_m.Methods, crd (RdS 110 rd110) v0_2.v a_m.Rules, crd (RdS 80 rd80) v0_3.v a_m.Source.Facts, crd (RdS 147 rd147) v0_5.v a_m.Cache.Entries, crd (RdS 105 rd105) v0_8.v a_m.Log, crd (RdS 3 rdInt) v0_9.v a_m.Times, crd (RdS 83 (RdS 22 (RdS 3 rdInt))) v0_11.v a_m.Results] ∧ s_DigestOf_L2 r34 m39 c37 c38 = some o25) ⟨_, _, _, (EqL.cons rfl (EqL.cons rfl (EqL.cons rfl (EqL.cons rfl (EqL.cons rfl (EqL.nil)))))).eq, (.sel (.rd (.t (.t .h)) rfl (.rd (.t (.t (.t .h))) rfl (.rd (.t (.t (.t (.t .h)))) rfl (.rd (.t (.t (.t (.t (.t .h))))) rfl (.rd (.t (.t (.t (.t (.t (.t .h)))))) rfl (.rd (.t (.t (.t (.t (.t (.t (.t .h))))))) rfl (.rd (.t (.t (.t (.t (.t (.t (.t (.t .h)))))))) rfl (.rd (.t (.t (.t (.t (.t (.t (.t (.t (.t .h))))))))) rfl (.rd (.t (.t (.t (.t (.t (.t (.t (.t (.t (.t .h)))))))))) rfl .nil)))))))))), hF⟩ ?_))
      clear hF
      rintro m39 _ _ ⟨g40, c37, c38, rfl, hE, hF⟩
      refine K_ent hE ?_
      clear hE
      rcases m39 with _ | m39
      · rw [s_DigestOf_L2] at hF
        exact absurd hF (by simp)
      rw [s_DigestOf_L2] at hF
      refine K_in (K_region (Cm (.int .i64 c38) rfl rfl ?_))
      refine Cm (sv r34) rfl rfl ?_
      refine C_val (V_lenStr (s := r34) st9 (.tmp rfl rfl)) ?_
      refine C_val (V_lss (i := c38) (j := (r34.length : Int)) (.tmp rfl rfl) (.tmp rfl rfl)) ?_
      refine C_nil (CW_cond (b := (decide ((c38 : Int) < (r34.length : Int)))) (.tmp rfl rfl) (fun hb54 => ?_) (fun hb54 => ?_))
      · rw [if_pos hb54] at hF
        refine CW_skip (K_block (CW_region (Cm (.int .i64 c37) rfl rfl ?_)))
        refine Cm (sv r34) rfl rfl ?_
        refine Cm (.int .i64 c38) rfl rfl ?_
        obtain ⟨u47, hx48, hF⟩ := bind_some hF
        obtain ⟨hp49, hx50⟩ := ix_some hx48
        refine C_val (V_indexT (u := u47) st9 (.tmp rfl rfl) (.tmp rfl rfl) hp49 hx50) ?_
        refine C_val (V_convFromU8 (u := u47) ik5 ik3 (.tmp rfl rfl)) ?_
        obtain ⟨r51, hx52, hF⟩ := bind_some hF
        refine C_x0 .nil (X_callS cf38 (.cons (.tmp rfl rfl) (.cons (.tmp rfl rfl) .nil)) (s_l35Mix_ok c37 (u47.toNat : Int) _ hx52)) (fun _ => ?_)
        refine Ca (.int .i64 r51) rfl rfl ?_
        refine C_nil (CW_region (Cm (.int .i64 c38) rfl rfl ?_))
        refine C_val (V_add (i := c38) (j := 1) (.tmp rfl rfl) (.int _ _)) ?_
        refine Ca (.int .i64 (IntKind.i64.wrap (c38 + 1))) rfl rfl ?_
        refine C_nil ?_
        exact ⟨m39, Nat.lt_succ_self _, _, _, _, (EqL.cons rfl (EqL.cons rfl (EqL.cons rfl (EqL.cons rfl (EqL.cons rfl (EqL.nil)))))).eq, (.sel (.rd .h rfl (.rd (.t .h) rfl (.rd (.t (.t .h)) rfl (.rd (.t (.t (.t .h))) rfl (.rd (.t (.t (.t (.t .h)))) rfl (.rd (.t (.t (.t (.t (.t .h))))) rfl (.rd (.t (.t (.t (.t (.t (.t .h)))))) rfl (.rd (.t (.t (.t (.t (.t (.t (.t .h))))))) rfl (.rd (.t (.t (.t (.t (.t (.t (.t (.t .h)))))))) rfl .nil)))))))))), hF⟩
      rw [if_neg (by rw [hb54]; exact Bool.false_ne_true)] at hF
      refine CW_exit ?_
      iterate 2 refine CThen_exit ?_
      refine CIn_self ?_
      obtain rfl := Option.some.inj hF
      exact ⟨_, _, rfl, (EqL.cons rfl (EqL.cons rfl (EqL.cons rfl (EqL.nil)))).eq, (.sel (.rd .h rfl (.rd (.t .h) rfl (.rd (.t (.t .h)) rfl (.rd (.t (.t (.t .h))) rfl (.rd (.t (.t (.t (.t .h)))) rfl (.rd (.t (.t (.t (.t (.t .h))))) rfl (.rd (.t (.t (.t (.t (.t (.t .h)))))) rfl (.rd (.t (.t (.t (.t (.t (.t (.t .h))))))) rfl (.rd (.t (.t (.t (.t (.t (.t (.t (.t .h)))))))) rfl .nil))))))))))⟩
    rintro _ _ ⟨c55, g56, rfl, rfl, hE⟩
    replace hF := hO26
    clear hO26
    try dsimp only at hF
    refine K_ent hE ?_
    refine CW_region (Cm (.int .i64 c9) rfl rfl ?_)
    refine C_val (V_add (i := c9) (j := 1) (.tmp rfl rfl) (.int _ _)) ?_
    refine Ca (.int .i64 (IntKind.i64.wrap (c9 + 1))) rfl rfl ?_
    refine C_nil ?_
    exact ⟨m10, Nat.lt_succ_self _, _, _, _, (EqL.cons rfl (EqL.cons rfl (EqL.cons rfl (EqL.nil)))).eq, (.sel (.rd .h rfl (.rd (.t .h) rfl (.rd (.t (.t .h)) rfl (.rd (.t (.t (.t .h))) rfl (.rd (.t (.t (.t (.t .h)))) rfl (.rd (.t (.t (.t (.t (.t .h))))) rfl (.rd (.t (.t (.t (.t (.t (.t .h)))))) rfl (.rd (.t (.t (.t (.t (.t (.t (.t .h))))))) rfl (.rd (.t (.t (.t (.t (.t (.t (.t (.t .h)))))))) rfl .nil)))))))))), hF⟩
  rw [if_neg (by rw [hb109]; exact Bool.false_ne_true)] at hF
  refine CW_exit ?_
  iterate 2 refine CThen_exit ?_
  refine CIn_self (K_in (K_region (C_at .h (fun hp => V_loadBox ag47 ty47.sz rfl (.tmp rfl rfl) hp.2 rfl) ?_)))
  obtain ⟨r57, hx58, hF⟩ := bind_some hF
  refine C_x0 (.rd (.t .h) rfl (.rd (.t (.t .h)) rfl (.rd (.t (.t (.t .h))) rfl (.rd (.t (.t (.t (.t .h)))) rfl (.rd (.t (.t (.t (.t (.t .h))))) rfl (.rd (.t (.t (.t (.t (.t (.t .h)))))) rfl (.rd (.t (.t (.t (.t (.t (.t (.t .h))))))) rfl (.rd (.t (.t (.t (.t (.t (.t (.t (.t .h)))))))) rfl .nil)))))))) (X_callS cf19 (.cons (.tmp rfl rfl) .nil) (s_IsMediator_ok a_m v0_0 v0_1 v0_2 v0_3 v0_5 v0_8 v0_9 v0_11 _ hx58)) (fun _ => ?_)
  refine C_val (V_not (b := r57) (.tmp rfl rfl)) ?_
  refine C_nil (CW_cond (b := (!r57)) (.tmp rfl rfl) (fun hb108 => ?_) (fun hb108 => ?_))
  · rw [if_pos hb108] at hF
    refine K_region (C_val (V_assign (v := (.int .i64 0)) (.int _ _)) ?_)
    refine C_nil (CW_ret ?_)
    obtain rfl := Option.some.inj hF
    exact End_ret () (.tmp rfl rfl .nil) rfl (.sel .nil)
  rw [if_neg (by rw [hb108]; exact Bool.false_ne_true)] at hF
  refine CW_skip (K_region (Cm (.int .i64 c8) rfl rfl ?_))
  refine C_val (V_fieldAddr (off := 8) fd47_6 (.tmp rfl rfl)) ?_
  refine C_at .h (fun hp => V_load (v := v0_8.v) ag45 (.tmp rfl rfl) hp.2 rfl rfl) ?_
  obtain ⟨r60, hx61, hF⟩ := bind_some hF
  refine C_x0 (.rd (.t (.t (.t (.t (.t (.t .h)))))) rfl .nil) (X_callS cf40 (.cons (.tmp rfl rfl) .nil) (s_ViewDigest_ok fuel a_m.Log v0_8 _ hx61)) (fun _ => ?_)
  obtain ⟨r63, hx64, hF⟩ := bind_some hF
  refine C_x0 .nil (X_callS cf38 (.cons (.tmp rfl rfl) (.cons (.tmp rfl rfl) .nil)) (s_l35Mix_ok c8 r60 _ hx64)) (fun _ => ?_)
  refine Ca (.int .i64 r63) rfl rfl ?_
  refine C_nil (K_in (K_region (C_val (V_assign (v := (.int .i64 0)) (.int _ _)) ?_)))
  refine C_nil (CW_block (CW_loop (m := a_m.Results.length) (fun m68 f' cs' => ∃ (g : Fr) (k70 : Nat) (rest71 : List (List (List Int))) (c66 : Int), m68 = rest71.length ∧ f' = updL g [(1, (.pointer (some ⟨k1, 0, some 0⟩))), (3, (.int .i64 c66)), (7, (.int .i64 (k70 : Int)))] ∧ List.drop k70 a_m.Results = rest71 ∧ Ent cs' [cboR k1 47 (.agg [v0_0.v, v0_1.v, v0_2.v, v0_3.v, (.int .i64 a_m.Source.Version), v0_5.v, (.int .i64 a_m.Cache.Age), (.int .i64 a_m.Now), v0_8.v, v0_9.v, (.int .i64 a_m.Spent), v0_11.v].toArray), crd (RdS 3 rdInt) v0_0.v a_m.Schema, crd (RdS 108 rd108) v0_1.v a_m.Methods, crd (RdS 110 rd110) v0_2.v a_m.Rules, crd (RdS 80 rd80) v0_3.v a_m.Source.Facts, crd (RdS 147 rd147) v0_5.v a_m.Cache.Entries, crd (RdS 105 rd105) v0_8.v a_m.Log, crd (RdS 3 rdInt) v0_9.v a_m.Times, crd (RdS 83 (RdS 22 (RdS 3 rdInt))) v0_11.v a_m.Results] ∧ s_DigestOf_L3 fuel rest71 k70 c66 = some R) ⟨_, 0, _, _, rfl, (EqL.cons rfl (EqL.cons rfl (EqL.cons rfl (EqL.nil)))).eq, rfl, (.sel (.rd .h rfl (.rd (.t .h) rfl (.rd (.t (.t .h)) rfl (.rd (.t (.t (.t .h))) rfl (.rd (.t (.t (.t (.t .h)))) rfl (.rd (.t (.t (.t (.t (.t .h))))) rfl (.rd (.t (.t (.t (.t (.t (.t .h)))))) rfl (.rd (.t (.t (.t (.t (.t (.t (.t .h))))))) rfl (.rd (.t (.t (.t (.t (.t (.t (.t (.t .h)))))))) rfl .nil)))))))))), hF⟩ ?_))
  clear hF
  rintro m68 _ _ ⟨g69, k70, rest71, c66, rfl, rfl, hd73, hE, hF⟩
  refine K_ent hE ?_
  clear hE
  refine K_pure (c := crd (RdS 83 (RdS 22 (RdS 3 rdInt))) v0_11.v a_m.Results) (.t (.t (.t (.t (.t (.t (.t (.t .h)))))))) crd_bound (fun hbd78 => ?_)
  rcases rest71 with _ | ⟨x72, rest71⟩
  · have hk74 := List.drop_eq_nil_iff.1 hd73
    have hfe77 : (decide (((k70 : Int) : Int) < (a_m.Results.length : Int))) = false := decide_eq_false (by omega)
    rw [s_DigestOf_L3] at hF
    refine K_in (K_region (Cm (.int .i64 (k70 : Int)) rfl rfl ?_))
    refine C_val (V_fieldAddr (off := 11) fd47_9 (.tmp rfl rfl)) ?_
    refine C_at .h (fun hp => V_load (v := v0_11.v) ag32 (.tmp rfl rfl) hp.2 rfl rfl) ?_
    refine C_at (.t (.t (.t (.t (.t (.t (.t (.t .h)))))))) (fun hp => V_lenR (l := a_m.Results.length) sl32 (.tmp rfl rfl) (crd_len hp)) ?_
    refine C_val (V_lss (i := (k70 : Int)) (j := (a_m.Results.length : Int)) (.tmp rfl rfl) (.tmp rfl rfl)) ?_
    refine C_nil (CW_cond (b := (decide (((k70 : Int) : Int) < (a_m.Results.length : Int)))) (.tmp rfl rfl) (fun hb => absurd (hfe77.symm.trans hb) (by decide)) (fun _ => ?_))
    refine CW_exit ?_
    iterate 2 refine CThen_exit ?_
    refine CIn_self (K_region (Cm (.int .i64 c66) rfl rfl ?_))
    refine Ca (.int .i64 c66) rfl rfl ?_
    refine C_nil (CW_ret ?_)
    obtain rfl := Option.some.inj hF
    exact End_ret () (.tmp rfl rfl .nil) rfl (.sel .nil)
  obtain ⟨hk74, hx75, hd76⟩ := drop_cons hd73
  have hfe77 : (decide (((k70 : Int) : Int) < (a_m.Results.length : Int))) = true := decide_eq_true (by omega)
  rw [s_DigestOf_L3] at hF
  refine K_in (K_region (Cm (.int .i64 (k70 : Int)) rfl rfl ?_))
  refine C_val (V_fieldAddr (off := 11) fd47_9 (.tmp rfl rfl)) ?_
  refine C_at .h (fun hp => V_load (v := v0_11.v) ag32 (.tmp rfl rfl) hp.2 rfl rfl) ?_
  refine C_at (.t (.t (.t (.t (.t (.t (.t (.t .h)))))))) (fun hp => V_lenR (l := a_m.Results.length) sl32 (.tmp rfl rfl) (crd_len hp)) ?_
  refine C_val (V_lss (i := (k70 : Int)) (j := (a_m.Results.length : Int)) (.tmp rfl rfl) (.tmp rfl rfl)) ?_
  refine C_nil (CW_cond (b := (decide (((k70 : Int) : Int) < (a_m.Results.length : Int)))) (.tmp rfl rfl) (fun _ => ?_) (fun hb => absurd (hfe77.symm.trans hb) (by decide)))
  refine CW_skip ?_
  obtain ⟨o79, hio79, hO80⟩ := bind_some hF
  refine K_cut (fun f' cs' => ∃ (c105 : Int) (g : Fr), c105 = o79 ∧ f' = updL g [(1, (.pointer (some ⟨k1, 0, some 0⟩))), (3, (.int .i64 c105)), (7, (.int .i64 (k70 : Int)))] ∧ Ent cs' [cboR k1 47 (.agg [v0_0.v, v0_1.v, v0_2.v, v0_3.v, (.int .i64 a_m.Source.Version), v0_5.v, (.int .i64 a_m.Cache.Age), (.int .i64 a_m.Now), v0_8.v, v0_9.v, (.int .i64 a_m.Spent), v0_11.v].toArray), crd (RdS 3 rdInt) v0_0.v a_m.Schema, crd (RdS 108 rd108) v0_1.v a_m.Methods, crd (RdS 110 rd110) v0_2.v a_m.Rules, crd (RdS 80 rd80) v0_3.v a_m.Source.Facts, crd (RdS 147 rd147) v0_5.v a_m.Cache.Entries, crd (RdS 105 rd105) v0_8.v a_m.Log, crd (RdS 3 rdInt) v0_9.v a_m.Times, crd (RdS 83 (RdS 22 (RdS 3 rdInt))) v0_11.v a_m.Results]) ?_ ?_
  · replace hF := hio79
    refine CW_block (K_region (C_val (V_fieldAddr (off := 11) fd47_9 (.tmp rfl rfl)) ?_))
    refine C_at .h (fun hp => V_load (v := v0_11.v) ag32 (.tmp rfl rfl) hp.2 rfl rfl) ?_
    refine Cm (.int .i64 (k70 : Int)) rfl rfl ?_
    refine C_idx (a := x72) sl32 ty83.sz (.tmp rfl rfl) (.tmp rfl rfl) (.t (.t (.t (.t (.t (.t (.t (.t .h)))))))) (Int.natCast_nonneg k70) hx75 (fun k81 j82 => ?_)
    refine C_ldV (R' := (RdS 22 (RdS 3 rdInt))) ag83 (.tmp rfl rfl) .h lv83_0 (fun w83 => ?_)
    obtain ⟨r84, hx85, hF⟩ := bind_some hF
    refine C_x0 (.rd .h rfl .nil) (X_callS cf41 (.cons (.tmp rfl rfl) .nil) (s_FormatTuples_ok fuel x72 w83 _ hx85)) (fun _ => ?_)
    refine Ca (sv r84) rfl rfl ?_
    refine C_nil (K_region (C_val (V_assign (v := (.int .i64 0)) (.int _ _)) ?_))
    refine C_nil (CW_block (CW_loop (m := (((r84.length : Int) - 0).toNat + 2)) (fun m89 f' cs' => ∃ (g : Fr) (c87 : Int) (c88 : Int), f' = updL g [(1, (.pointer (some ⟨k1, 0, some 0⟩))), (3, (.int .i64 c87)), (7, (.int .i64 (k70 : Int))), (8, (sv r84)), (9, (.int .i64 c88))] ∧ Ent cs' [cboR k1 47 (.agg [v0_0.v, v0_1.v, v0_2.v, v0_3.v, (.int .i64 a_m.Source.Version), v0_5.v, (.int .i64 a_m.Cache.Age), (.int .i64 a_m.Now), v0_8.v, v0_9.v, (.int .i64 a_m.Spent), v0_11.v].toArray), crd (RdS 3 rdInt) v0_0.v a_m.Schema, crd (RdS 108 rd108) v0_1.v a_m.Methods, crd (RdS 110 rd110) v0_2.v a_m.Rules, crd (RdS 80 rd80) v0_3.v a_m.Source.Facts, crd (RdS 147 rd147) v0_5.v a_m.Cache.Entries, crd (RdS 105 rd105) v0_8.v a_m.Log, crd (RdS 3 rdInt) v0_9.v a_m.Times, crd (RdS 83 (RdS 22 (RdS 3 rdInt))) v0_11.v a_m.Results] ∧ s_DigestOf_L4 r84 m89 c87 c88 = some o79) ⟨_, _, _, (EqL.cons rfl (EqL.cons rfl (EqL.cons rfl (EqL.cons rfl (EqL.cons rfl (EqL.nil)))))).eq, (.sel (.rd (.t (.t .h)) rfl (.rd (.t (.t (.t .h))) rfl (.rd (.t (.t (.t (.t .h)))) rfl (.rd (.t (.t (.t (.t (.t .h))))) rfl (.rd (.t (.t (.t (.t (.t (.t .h)))))) rfl (.rd (.t (.t (.t (.t (.t (.t (.t .h))))))) rfl (.rd (.t (.t (.t (.t (.t (.t (.t (.t .h)))))))) rfl (.rd (.t (.t (.t (.t (.t (.t (.t (.t (.t .h))))))))) rfl (.rd (.t (.t (.t (.t (.t (.t (.t (.t (.t (.t .h)))))))))) rfl .nil)))))))))), hF⟩ ?_))
    clear hF
    rintro m89 _ _ ⟨g90, c87, c88, rfl, hE, hF⟩
    refine K_ent hE ?_
    clear hE
    rcases m89 with _ | m89
    · rw [s_DigestOf_L4] at hF
      exact absurd hF (by simp)
    rw [s_DigestOf_L4] at hF
    refine K_in (K_region (Cm (.int .i64 c88) rfl rfl ?_))
    refine Cm (sv r84) rfl rfl ?_
    refine C_val (V_lenStr (s := r84) st9 (.tmp rfl rfl)) ?_
    refine C_val (V_lss (i := c88) (j := (r84.length : Int)) (.tmp rfl rfl) (.tmp rfl rfl)) ?_
    refine C_nil (CW_cond (b := (decide ((c88 : Int) < (r84.length : Int)))) (.tmp rfl rfl) (fun hb104 => ?_) (fun hb104 => ?_))
    · rw [if_pos hb104] at hF
      refine CW_skip (K_block (CW_region (Cm (.int .i64 c87) rfl rfl ?_)))
      refine Cm (sv r84) rfl rfl ?_
      refine Cm (.int .i64 c88) rfl rfl ?_
      obtain ⟨u97, hx98, hF⟩ := bind_some hF
      obtain ⟨hp99, hx100⟩ := ix_some hx98
      refine C_val (V_indexT (u := u97) st9 (.tmp rfl rfl) (.tmp rfl rfl) hp99 hx100) ?_
      refine C_val (V_convFromU8 (u := u97) ik5 ik3 (.tmp rfl rfl)) ?_
      obtain ⟨r101, hx102, hF⟩ := bind_some hF
      refine C_x0 .nil (X_callS cf38 (.cons (.tmp rfl rfl) (.cons (.tmp rfl rfl) .nil)) (s_l35Mix_ok c87 (u97.toNat : Int) _ hx102)) (fun _ => ?_)
      refine Ca (.int .i64 r101) rfl rfl ?_
      refine C_nil (CW_region (Cm (.int .i64 c88) rfl rfl ?_))
      refine C_val (V_add (i := c88) (j := 1) (.tmp rfl rfl) (.int _ _)) ?_
      refine Ca (.int .i64 (IntKind.i64.wrap (c88 + 1))) rfl rfl ?_
      refine C_nil ?_
      exact ⟨m89, Nat.lt_succ_self _, _, _, _, (EqL.cons rfl (EqL.cons rfl (EqL.cons rfl (EqL.cons rfl (EqL.cons rfl (EqL.nil)))))).eq, (.sel (.rd .h rfl (.rd (.t .h) rfl (.rd (.t (.t .h)) rfl (.rd (.t (.t (.t .h))) rfl (.rd (.t (.t (.t (.t .h)))) rfl (.rd (.t (.t (.t (.t (.t .h))))) rfl (.rd (.t (.t (.t (.t (.t (.t .h)))))) rfl (.rd (.t (.t (.t (.t (.t (.t (.t .h))))))) rfl (.rd (.t (.t (.t (.t (.t (.t (.t (.t .h)))))))) rfl .nil)))))))))), hF⟩
    rw [if_neg (by rw [hb104]; exact Bool.false_ne_true)] at hF
    refine CW_exit ?_
    iterate 2 refine CThen_exit ?_
    refine CIn_self ?_
    obtain rfl := Option.some.inj hF
    exact ⟨_, _, rfl, (EqL.cons rfl (EqL.cons rfl (EqL.cons rfl (EqL.nil)))).eq, (.sel (.rd .h rfl (.rd (.t .h) rfl (.rd (.t (.t .h)) rfl (.rd (.t (.t (.t .h))) rfl (.rd (.t (.t (.t (.t .h)))) rfl (.rd (.t (.t (.t (.t (.t .h))))) rfl (.rd (.t (.t (.t (.t (.t (.t .h)))))) rfl (.rd (.t (.t (.t (.t (.t (.t (.t .h))))))) rfl (.rd (.t (.t (.t (.t (.t (.t (.t (.t .h)))))))) rfl .nil))))))))))⟩
  rintro _ _ ⟨c105, g107, rfl, rfl, hE⟩
  replace hF := hO80
  clear hO80
  try dsimp only at hF
  refine K_ent hE ?_
  refine CW_region (Cm (.int .i64 (k70 : Int)) rfl rfl ?_)
  refine C_val (V_add (i := (k70 : Int)) (j := 1) (.tmp rfl rfl) (.int _ _)) ?_
  refine Ca (.int .i64 (IntKind.i64.wrap ((k70 : Int) + 1))) rfl rfl ?_
  refine C_nil ?_
  have hw106 : IntKind.i64.wrap ((k70 : Int) + 1) = ((k70 + 1 : Nat) : Int) := by rw [wrap_in (by omega) (by omega)]; rfl
  rw [hw106]
  exact ⟨_, Nat.lt_succ_self _, _, k70 + 1, rest71, _, rfl, (EqL.cons rfl (EqL.cons rfl (EqL.cons rfl (EqL.nil)))).eq, hd76, (.sel (.rd .h rfl (.rd (.t .h) rfl (.rd (.t (.t .h)) rfl (.rd (.t (.t (.t .h))) rfl (.rd (.t (.t (.t (.t .h)))) rfl (.rd (.t (.t (.t (.t (.t .h))))) rfl (.rd (.t (.t (.t (.t (.t (.t .h)))))) rfl (.rd (.t (.t (.t (.t (.t (.t (.t .h))))))) rfl (.rd (.t (.t (.t (.t (.t (.t (.t (.t .h)))))))) rfl .nil)))))))))), hF⟩

/-! impl.within -/
def i_within (a_n : Int) (a_low : Int) (a_high : Int) : Option (Bool) :=
  some ((decide ((a_low : Int) ≤ a_n)) && (decide ((a_n : Int) ≤ a_high)))
theorem i_within_ok (a_n : Int) (a_low : Int) (a_high : Int) (R : Bool) (hF : i_within a_n a_low a_high = some R) :
    Fw.Spec Tryz.prog 76 [(.int .i64 a_n), (.int .i64 a_low), (.int .i64 a_high)] [] (fun _ : Unit => (.bool R)) (fun _ => []) := by
  refine Spec_enter (n := 15) Tryz.func76 rfl rfl (rs := [.tmp 6]) rfl rfl rfl ?_
  intro H0 F0
  unfold i_within at hF
  refine K_region (C_val (V_assign (v := (.bool false)) (.bool _)) ?_)
  refine C_nil (K_region (C_cut (fun f' cs' => ∃ (g : Fr), f' = updL g [(6, (.bool ((decide ((a_low : Int) ≤ a_n)) && (decide ((a_n : Int) ≤ a_high)))))] ∧ Ent cs' []) ?_ ?_))
  · refine Cm (.int .i64 a_n) rfl rfl ?_
    refine Cm (.int .i64 a_low) rfl rfl ?_
    refine C_val (V_geq (i := a_n) (j := a_low) (.tmp rfl rfl) (.tmp rfl rfl)) ?_
    refine Cm (.bool (decide ((a_low : Int) ≤ a_n))) rfl rfl ?_
    rcases Bool.eq_false_or_eq_true (decide ((a_low : Int) ≤ a_n)) with hg1 | hg1
    · rw [hg1]
      try rw [hg1] at hF; dsimp only [cond_true, cond_false] at hF
      refine C_on (t := 10) rfl rfl rfl ?_
      refine Cm (.int .i64 a_n) rfl rfl ?_
      refine C_on (t := 10) rfl rfl rfl ?_
      refine Cm (.int .i64 a_high) rfl rfl ?_
      refine C_on (t := 10) rfl rfl rfl ?_
      refine C_val (V_leq (i := a_n) (j := a_high) (.tmp rfl rfl) (.tmp rfl rfl)) ?_
      refine C_val (V_pick (b := true) (u := (.bool (decide ((a_n : Int) ≤ a_high)))) (v := (.bool false)) (.tmp rfl rfl) (.tmp rfl rfl) (.bool _)) ?_
      refine Ca (.bool (decide ((a_n : Int) ≤ a_high))) rfl rfl ?_
      refine C_nil ?_
      exact ⟨_, (EqL.cons rfl (EqL.nil)).eq, (.sel .nil)⟩
    rw [hg1]
    try rw [hg1] at hF; dsimp only [cond_true, cond_false] at hF
    iterate 3 refine C_off (t := 10) rfl rfl rfl ?_
    refine C_val (V_pick (b := false) (u := undef) (v := (.bool false)) (.tmp rfl rfl) (.tmp rfl rfl) (.bool _)) ?_
    refine Ca (.bool false) rfl rfl ?_
    refine C_nil ?_
    exact ⟨_, (EqL.cons rfl (EqL.nil)).eq, (.sel .nil)⟩
  rintro _ _ ⟨g2, rfl, hE⟩
  refine K_ent hE ?_
  refine CW_ret ?_
  obtain rfl := Option.some.inj hF
  exact End_ret () (.tmp rfl rfl .nil) rfl (.sel .nil)

/-! impl.IsSchema$1 -/
def i_IsSchema_1 (a_n : Int) : Option (Bool) :=
  (i_within a_n 1 3).bind fun r1 =>
  some (!r1)
theorem i_IsSchema_1_ok (a_n : Int) (R : Bool) (hF : i_IsSchema_1 a_n = some R) :
    Fw.Spec Tryz.prog 128 [(.int .i64 a_n)] [] (fun _ : Unit => (.bool R)) (fun _ => []) := by
  refine Spec_enter (n := 6) Tryz.func128 rfl rfl (rs := [.tmp 2]) rfl rfl rfl ?_
  intro H0 F0
  unfold i_IsSchema_1 at hF
  refine K_region (C_val (V_assign (v := (.bool false)) (.bool _)) ?_)
  refine C_nil (K_region (Cm (.int .i64 a_n) rfl rfl ?_))
  obtain ⟨r1, hx2, hF⟩ := bind_some hF
  refine C_x0 .nil (X_callS cf76 (.cons (.tmp rfl rfl) (.cons (.int _ _) (.cons (.int _ _) .nil))) (i_within_ok a_n 1 3 _ hx2)) (fun _ => ?_)
  refine C_val (V_not (b := r1) (.tmp rfl rfl)) ?_
  refine Ca (.bool (!r1)) rfl rfl ?_
  refine C_nil (CW_ret ?_)
  obtain rfl := Option.some.inj hF
  exact End_ret () (.tmp rfl rfl .nil) rfl (.sel .nil)

/-! slices.IndexFunc[[]int,int] -/
def g_slices_IndexFunc_int_int_iIsSchema1_L1 : List Int → Nat → Option (Int)
  | [], k4 => some (-1)
  | x6 :: rest5, k4 => (i_IsSchema_1 x6).bind fun r15 =>
    if r15 then (
      some (k4 : Int))
    else (
      g_slices_IndexFunc_int_int_iIsSchema1_L1 rest5 (k4 + 1))
def g_slices_IndexFunc_int_int_iIsSchema1 (a_s : List Int) : Option (Int) :=
  g_slices_IndexFunc_int_int_iIsSchema1_L1 a_s 0
theorem g_slices_IndexFunc_int_int_iIsSchema1_ok (a_s : List Int) (v0_0 : Sv) (R : Int) (hF : g_slices_IndexFunc_int_int_iIsSchema1 a_s = some R) :
    Fw.Spec Tryz.prog 141 [v0_0.v, (.func (.func 128) [].toArray [].toArray)] [crd (RdS 3 rdInt) v0_0.v a_s] (fun _ : Unit => (.int .i64 R)) (fun _ => []) := by
  refine Spec_enter (n := 19) Tryz.func141 rfl rfl (rs := [.tmp 4]) rfl rfl rfl ?_
  intro H0 F0
  unfold g_slices_IndexFunc_int_int_iIsSchema1 at hF
  refine K_region (C_val (V_assign (v := (.int .i64 0)) (.int _ _)) ?_)
  refine C_nil (K_in (K_region (Cm v0_0.v rfl rfl ?_)))
  refine C_at .h (fun hp => V_lenR (l := a_s.length) sl22 (.tmp rfl rfl) (crd_len hp)) ?_
  refine C_val (V_move (v := (.int .i64 0)) (.int _ _)) ?_
  refine C_nil (CW_block (CW_loop (m := a_s.length) (fun m2 f' cs' => ∃ (g : Fr) (k4 : Nat) (rest5 : List Int), m2 = rest5.length ∧ f' = updL g [(0, v0_0.v), (1, (.func (.func 128) [].toArray [].toArray)), (7, (.int .i64 (a_s.length : Int))), (8, (.int .i64 (k4 : Int)))] ∧ List.drop k4 a_s = rest5 ∧ Ent cs' [crd (RdS 3 rdInt) v0_0.v a_s] ∧ g_slices_IndexFunc_int_int_iIsSchema1_L1 rest5 k4 = some R) ⟨_, 0, _, rfl, (EqL.cons rfl (EqL.cons rfl (EqL.cons rfl (EqL.cons rfl (EqL.nil))))).eq, rfl, (.sel (.rd .h rfl .nil)), hF⟩ ?_))
  clear hF
  rintro m2 _ _ ⟨g3, k4, rest5, rfl, rfl, hd7, hE, hF⟩
  refine K_ent hE ?_
  clear hE
  refine K_pure (c := crd (RdS 3 rdInt) v0_0.v a_s) .h crd_bound (fun hbd12 => ?_)
  rcases rest5 with _ | ⟨x6, rest5⟩
  · have hk8 := List.drop_eq_nil_iff.1 hd7
    have hfe11 : (decide (((k4 : Int) : Int) < (a_s.length : Int))) = false := decide_eq_false (by omega)
    rw [g_slices_IndexFunc_int_int_iIsSchema1_L1] at hF
    refine K_region (C_val (V_lss (i := (k4 : Int)) (j := (a_s.length : Int)) (.tmp rfl rfl) (.tmp rfl rfl)) ?_)
    refine C_nil (K_in (CW_cond (b := (decide (((k4 : Int) : Int) < (a_s.length : Int)))) (.tmp rfl rfl) (fun hb => absurd (hfe11.symm.trans hb) (by decide)) (fun _ => ?_)))
    refine CW_exit ?_
    iterate 2 refine CThen_exit ?_
    refine CIn_self (K_region (C_val (V_assign (v := (.int .i64 (-1))) (.int _ _)) ?_))
    refine C_nil (CW_ret ?_)
    obtain rfl := Option.some.inj hF
    exact End_ret () (.tmp rfl rfl .nil) rfl (.sel .nil)
  obtain ⟨hk8, hx9, hd10⟩ := drop_cons hd7
  have hfe11 : (decide (((k4 : Int) : Int) < (a_s.length : Int))) = true := decide_eq_true (by omega)
  rw [g_slices_IndexFunc_int_int_iIsSchema1_L1] at hF
  refine K_region (C_val (V_lss (i := (k4 : Int)) (j := (a_s.length : Int)) (.tmp rfl rfl) (.tmp rfl rfl)) ?_)
  refine C_nil (K_in (CW_cond (b := (decide (((k4 : Int) : Int) < (a_s.length : Int)))) (.tmp rfl rfl) (fun _ => ?_) (fun hb => absurd (hfe11.symm.trans hb) (by decide))))
  refine CW_skip (K_block (K_region (Cm (.int .i64 (k4 : Int)) rfl rfl ?_)))
  refine Ca (.int .i64 (k4 : Int)) rfl rfl ?_
  refine C_nil (K_region (Cm (.func (.func 128) [].toArray [].toArray) rfl rfl ?_))
  refine Cm v0_0.v rfl rfl ?_
  refine Cm (.int .i64 (k4 : Int)) rfl rfl ?_
  refine C_idx (a := x6) sl22 ty3.sz (.tmp rfl rfl) (.tmp rfl rfl) .h (Int.natCast_nonneg k4) hx9 (fun k13 j14 => ?_)
  refine C_ldS (w := (.int .i64 x6)) ag3 (.tmp rfl rfl) .h ls3_0 ?_
  obtain ⟨r15, hx16, hF⟩ := bind_some hF
  refine C_x0 .nil (X_callCS cf128 (.tmp rfl rfl) (.cons (.tmp rfl rfl) .nil) (i_IsSchema_1_ok x6 _ hx16)) (fun _ => ?_)
  refine C_nil (CW_cond (b := r15) (.tmp rfl rfl) (fun hb19 => ?_) (fun hb19 => ?_))
  · rw [if_pos hb19] at hF
    refine K_region (Cm (.int .i64 (k4 : Int)) rfl rfl ?_)
    refine Ca (.int .i64 (k4 : Int)) rfl rfl ?_
    refine C_nil (CW_ret ?_)
    obtain rfl := Option.some.inj hF
    exact End_ret () (.tmp rfl rfl .nil) rfl (.sel .nil)
  rw [if_neg (by rw [hb19]; exact Bool.false_ne_true)] at hF
  refine CW_skip (CW_region (C_val (V_add (i := (k4 : Int)) (j := 1) (.tmp rfl rfl) (.int _ _)) ?_))
  refine Cm (.int .i64 (IntKind.i64.wrap ((k4 : Int) + 1))) rfl rfl ?_
  refine C_nil ?_
  have hw18 : IntKind.i64.wrap ((k4 : Int) + 1) = ((k4 + 1 : Nat) : Int) := by rw [wrap_in (by omega) (by omega)]; rfl
  rw [hw18]
  exact ⟨_, Nat.lt_succ_self _, _, k4 + 1, rest5, rfl, (EqL.cons rfl (EqL.cons rfl (EqL.cons rfl (EqL.cons rfl (EqL.nil))))).eq, hd10, (.sel (.rd (.t .h) rfl .nil)), hF⟩

/-! slices.ContainsFunc[[]int,int] -/
def g_slices_ContainsFunc_int_int_iIsSchema1 (a_s : List Int) : Option (Bool) :=
  (g_slices_IndexFunc_int_int_iIsSchema1 a_s).bind fun r1 =>
  some (decide ((0 : Int) ≤ r1))
theorem g_slices_ContainsFunc_int_int_iIsSchema1_ok (a_s : List Int) (v0_0 : Sv) (R : Bool) (hF : g_slices_ContainsFunc_int_int_iIsSchema1 a_s = some R) :
    Fw.Spec Tryz.prog 114 [v0_0.v, (.func (.func 128) [].toArray [].toArray)] [crd (RdS 3 rdInt) v0_0.v a_s] (fun _ : Unit => (.bool R)) (fun _ => []) := by
  refine Spec_enter (n := 9) Tryz.func114 rfl rfl (rs := [.tmp 4]) rfl rfl rfl ?_
  intro H0 F0
  unfold g_slices_ContainsFunc_int_int_iIsSchema1 at hF
  refine K_region (C_val (V_assign (v := (.bool false)) (.bool _)) ?_)
  refine C_nil (K_region (Cm v0_0.v rfl rfl ?_))
  refine Cm (.func (.func 128) [].toArray [].toArray) rfl rfl ?_
  obtain ⟨r1, hx2, hF⟩ := bind_some hF
  refine C_x0 (.rd .h rfl .nil) (X_callS cf141 (.cons (.tmp rfl rfl) (.cons (.tmp rfl rfl) .nil)) (g_slices_IndexFunc_int_int_iIsSchema1_ok a_s v0_0 _ hx2)) (fun _ => ?_)
  refine C_val (V_geq (i := r1) (j := 0) (.tmp rfl rfl) (.int _ _)) ?_
  refine Ca (.bool (decide ((0 : Int) ≤ r1))) rfl rfl ?_
  refine C_nil (CW_ret ?_)
  obtain rfl := Option.some.inj hF
  exact End_ret () (.tmp rfl rfl .nil) rfl (.sel .nil)

/-! impl.IsSchema -/
def i_IsSchema (a_s : List Int) : Option (Bool) :=
  ((i_within (a_s.length : Int) 1 3).bind fun r3 =>
    bif r3 then ((g_slices_ContainsFunc_int_int_iIsSchema1 a_s).bind fun r7 =>
      some (!r7))
    else (some false)).bind fun o1 =>
  match o1 with
  | c10 => some c10
theorem i_IsSchema_ok (a_s : List Int) (v0_0 : Sv) (R : Bool) (hF : i_IsSchema a_s = some R) :
    Fw.Spec Tryz.prog 102 [v0_0.v] [crd (RdS 3 rdInt) v0_0.v a_s] (fun _ : Unit => (.bool R)) (fun _ => []) := by
  refine Spec_enter (n := 11) Tryz.func102 rfl rfl (rs := [.tmp 2]) rfl rfl rfl ?_
  intro H0 F0
  unfold i_IsSchema at hF
  refine K_region (C_val (V_assign (v := (.bool false)) (.bool _)) ?_)
  refine C_nil ?_
  obtain ⟨o1, hio1, hO2⟩ := bind_some hF
  refine K_region (C_cut (fun f' cs' => ∃ (c10 : Bool) (g : Fr), c10 = o1 ∧ f' = updL g [(2, (.bool c10))] ∧ Ent cs' []) ?_ ?_)
  · replace hF := hio1
    refine Cm v0_0.v rfl rfl ?_
    refine C_at .h (fun hp => V_lenR (l := a_s.length) sl22 (.tmp rfl rfl) (crd_len hp)) ?_
    obtain ⟨r3, hx4, hF⟩ := bind_some hF
    refine C_x0 .nil (X_callS cf76 (.cons (.tmp rfl rfl) (.cons (.int _ _) (.cons (.int _ _) .nil))) (i_within_ok (a_s.length : Int) 1 3 _ hx4)) (fun _ => ?_)
    refine Cm (.bool r3) rfl rfl ?_
    rcases Bool.eq_false_or_eq_true r3 with hg6 | hg6
    · rw [hg6]
      try rw [hg6] at hF; dsimp only [cond_true, cond_false] at hF
      refine C_on (t := 6) rfl rfl rfl ?_
      refine Cm v0_0.v rfl rfl ?_
      refine C_on (t := 6) rfl rfl rfl ?_
      obtain ⟨r7, hx8, hF⟩ := bind_some hF
      refine C_x0 (.rd .h rfl .nil) (X_callS cf114 (.cons (.tmp rfl rfl) (.cons (.fn _) .nil)) (g_slices_ContainsFunc_int_int_iIsSchema1_ok a_s v0_0 _ hx8)) (fun _ => ?_)
      refine C_on (t := 6) rfl rfl rfl ?_
      refine C_val (V_not (b := r7) (.tmp rfl rfl)) ?_
      refine C_val (V_pick (b := true) (u := (.bool (!r7))) (v := (.bool false)) (.tmp rfl rfl) (.tmp rfl rfl) (.bool _)) ?_
      refine Ca (.bool (!r7)) rfl rfl ?_
      refine C_nil ?_
      obtain rfl := Option.some.inj hF
      exact ⟨_, _, rfl, (EqL.cons rfl (EqL.nil)).eq, (.sel .nil)⟩
    rw [hg6]
    try rw [hg6] at hF; dsimp only [cond_true, cond_false] at hF
    iterate 3 refine C_off (t := 6) rfl rfl rfl ?_
    refine C_val (V_pick (b := false) (u := undef) (v := (.bool false)) (.tmp rfl rfl) (.tmp rfl rfl) (.bool _)) ?_
    refine Ca (.bool false) rfl rfl ?_
    refine C_nil ?_
    obtain rfl := Option.some.inj hF
    exact ⟨_, _, rfl, (EqL.cons rfl (EqL.nil)).eq, (.sel .nil)⟩
  rintro _ _ ⟨c10, g11, rfl, rfl, hE⟩
  replace hF := hO2
  clear hO2
  try dsimp only at hF
  refine K_ent hE ?_
  refine CW_ret ?_
  obtain rfl := Option.some.inj hF
  exact End_ret () (.tmp rfl rfl .nil) rfl (.sel .nil)

/-! impl.hasRel -/
def i_hasRel (a_s : List Int) (a_rel : Int) : Option (Bool) :=
  ((i_IsSchema a_s).bind fun r3 =>
    bif r3 then ((i_within a_rel 0 (IntKind.i64.wrap ((a_s.length : Int) - 1))).bind fun r7 =>
      some r7)
    else (some false)).bind fun o1 =>
  match o1 with
  | c10 => some c10
theorem i_hasRel_ok (a_s : List Int) (v0_0 : Sv) (a_rel : Int) (R : Bool) (hF : i_hasRel a_s a_rel = some R) :
    Fw.Spec Tryz.prog 130 [v0_0.v, (.int .i64 a_rel)] [crd (RdS 3 rdInt) v0_0.v a_s] (fun _ : Unit => (.bool R)) (fun _ => []) := by
  refine Spec_enter (n := 14) Tryz.func130 rfl rfl (rs := [.tmp 4]) rfl rfl rfl ?_
  intro H0 F0
  unfold i_hasRel at hF
  refine K_region (C_val (V_assign (v := (.bool false)) (.bool _)) ?_)
  refine C_nil ?_
  obtain ⟨o1, hio1, hO2⟩ := bind_some hF
  refine K_region (C_cut (fun f' cs' => ∃ (c10 : Bool) (g : Fr), c10 = o1 ∧ f' = updL g [(4, (.bool c10))] ∧ Ent cs' []) ?_ ?_)
  · replace hF := hio1
    refine Cm v0_0.v rfl rfl ?_
    obtain ⟨r3, hx4, hF⟩ := bind_some hF
    refine C_x0 (.rd .h rfl .nil) (X_callS cf102 (.cons (.tmp rfl rfl) .nil) (i_IsSchema_ok a_s v0_0 _ hx4)) (fun _ => ?_)
    refine Cm (.bool r3) rfl rfl ?_
    rcases Bool.eq_false_or_eq_true r3 with hg6 | hg6
    · rw [hg6]
      try rw [hg6] at hF; dsimp only [cond_true, cond_false] at hF
      refine C_on (t := 7) rfl rfl rfl ?_
      refine Cm (.int .i64 a_rel) rfl rfl ?_
      refine C_on (t := 7) rfl rfl rfl ?_
      refine Cm v0_0.v rfl rfl ?_
      refine C_on (t := 7) rfl rfl rfl ?_
      refine C_at .h (fun hp => V_lenR (l := a_s.length) sl22 (.tmp rfl rfl) (crd_len hp)) ?_
      refine C_on (t := 7) rfl rfl rfl ?_
      refine C_val (V_sub (i := (a_s.length : Int)) (j := 1) (.tmp rfl rfl) (.int _ _)) ?_
      refine C_on (t := 7) rfl rfl rfl ?_
      obtain ⟨r7, hx8, hF⟩ := bind_some hF
      refine C_x0 .nil (X_callS cf76 (.cons (.tmp rfl rfl) (.cons (.int _ _) (.cons (.tmp rfl rfl) .nil))) (i_within_ok a_rel 0 (IntKind.i64.wrap ((a_s.length : Int) - 1)) _ hx8)) (fun _ => ?_)
      refine C_val (V_pick (b := true) (u := (.bool r7)) (v := (.bool false)) (.tmp rfl rfl) (.tmp rfl rfl) (.bool _)) ?_
      refine Ca (.bool r7) rfl rfl ?_
      refine C_nil ?_
      obtain rfl := Option.some.inj hF
      exact ⟨_, _, rfl, (EqL.cons rfl (EqL.nil)).eq, (.sel .nil)⟩
    rw [hg6]
    try rw [hg6] at hF; dsimp only [cond_true, cond_false] at hF
    iterate 5 refine C_off (t := 7) rfl rfl rfl ?_
    refine C_val (V_pick (b := false) (u := undef) (v := (.bool false)) (.tmp rfl rfl) (.tmp rfl rfl) (.bool _)) ?_
    refine Ca (.bool false) rfl rfl ?_
    refine C_nil ?_
    obtain rfl := Option.some.inj hF
    exact ⟨_, _, rfl, (EqL.cons rfl (EqL.nil)).eq, (.sel .nil)⟩
  rintro _ _ ⟨c10, g11, rfl, rfl, hE⟩
  replace hF := hO2
  clear hO2
  try dsimp only at hF
  refine K_ent hE ?_
  refine CW_ret ?_
  obtain rfl := Option.some.inj hF
  exact End_ret () (.tmp rfl rfl .nil) rfl (.sel .nil)

/-! impl.ascending -/
def i_ascending_L1 (a_l : List Int) : List Int → Nat → Option (Bool)
  | [], k4 => some true
  | x6 :: rest5, k4 => (bif (decide ((0 : Int) < (k4 : Int))) then ((ix a_l (IntKind.i64.wrap ((k4 : Int) - 1))).bind fun x18 =>
        some (decide ((x6 : Int) ≤ x18)))
      else (some false)).bind fun o13 =>
    match o13 with
    | c24 => if c24 then (
        some false)
      else (
        i_ascending_L1 a_l rest5 (k4 + 1))
def i_ascending (a_l : List Int) : Option (Bool) :=
  i_ascending_L1 a_l a_l 0
theorem i_ascending_ok (a_l : List Int) (v0_0 : Sv) (R : Bool) (hF : i_ascending a_l = some R) :
    Fw.Spec Tryz.prog 145 [v0_0.v] [crd (RdS 3 rdInt) v0_0.v a_l] (fun _ : Unit => (.bool R)) (fun _ => []) := by
  refine Spec_enter (n := 24) Tryz.func145 rfl rfl (rs := [.tmp 2]) rfl rfl rfl ?_
  intro H0 F0
  unfold i_ascending at hF
  refine K_region (C_val (V_assign (v := (.bool false)) (.bool _)) ?_)
  refine C_nil (K_in (K_region (Cm v0_0.v rfl rfl ?_)))
  refine C_at .h (fun hp => V_lenR (l := a_l.length) sl22 (.tmp rfl rfl) (crd_len hp)) ?_
  refine C_val (V_move (v := (.int .i64 0)) (.int _ _)) ?_
  refine C_nil (CW_block (CW_loop (m := a_l.length) (fun m2 f' cs' => ∃ (g : Fr) (k4 : Nat) (rest5 : List Int), m2 = rest5.length ∧ f' = updL g [(0, v0_0.v), (5, (.int .i64 (a_l.length : Int))), (6, (.int .i64 (k4 : Int)))] ∧ List.drop k4 a_l = rest5 ∧ Ent cs' [crd (RdS 3 rdInt) v0_0.v a_l] ∧ i_ascending_L1 a_l rest5 k4 = some R) ⟨_, 0, _, rfl, (EqL.cons rfl (EqL.cons rfl (EqL.cons rfl (EqL.nil)))).eq, rfl, (.sel (.rd .h rfl .nil)), hF⟩ ?_))
  clear hF
  rintro m2 _ _ ⟨g3, k4, rest5, rfl, rfl, hd7, hE, hF⟩
  refine K_ent hE ?_
  clear hE
  refine K_pure (c := crd (RdS 3 rdInt) v0_0.v a_l) .h crd_bound (fun hbd12 => ?_)
  rcases rest5 with _ | ⟨x6, rest5⟩
  · have hk8 := List.drop_eq_nil_iff.1 hd7
    have hfe11 : (decide (((k4 : Int) : Int) < (a_l.length : Int))) = false := decide_eq_false (by omega)
    rw [i_ascending_L1] at hF
    refine K_region (C_val (V_lss (i := (k4 : Int)) (j := (a_l.length : Int)) (.tmp rfl rfl) (.tmp rfl rfl)) ?_)
    refine C_nil (K_in (CW_cond (b := (decide (((k4 : Int) : Int) < (a_l.length : Int)))) (.tmp rfl rfl) (fun hb => absurd (hfe11.symm.trans hb) (by decide)) (fun _ => ?_)))
    refine CW_exit ?_
    iterate 2 refine CThen_exit ?_
    refine CIn_self (K_region (C_val (V_assign (v := (.bool true)) (.bool _)) ?_))
    refine C_nil (CW_ret ?_)
    obtain rfl := Option.some.inj hF
    exact End_ret () (.tmp rfl rfl .nil) rfl (.sel .nil)
  obtain ⟨hk8, hx9, hd10⟩ := drop_cons hd7
  have hfe11 : (decide (((k4 : Int) : Int) < (a_l.length : Int))) = true := decide_eq_true (by omega)
  rw [i_ascending_L1] at hF
  refine K_region (C_val (V_lss (i := (k4 : Int)) (j := (a_l.length : Int)) (.tmp rfl rfl) (.tmp rfl rfl)) ?_)
  refine C_nil (K_in (CW_cond (b := (decide (((k4 : Int) : Int) < (a_l.length : Int)))) (.tmp rfl rfl) (fun _ => ?_) (fun hb => absurd (hfe11.symm.trans hb) (by decide))))
  refine CW_skip (K_block (K_region (Cm (.int .i64 (k4 : Int)) rfl rfl ?_)))
  refine Ca (.int .i64 (k4 : Int)) rfl rfl ?_
  refine C_nil ?_
  obtain ⟨o13, hio13, hO14⟩ := bind_some hF
  refine K_draw [0, 1, 2, 3, 4, 5, 6, 7, 8, 9, 10, 11, 12, 13] [0, 1, 3, 7, 7, 31, 63, 7, 7, 263, 903, 1927, 4095, 8191] [] mixed (by decide +kernel) ?_
  refine D_cut (fun f' cs' => ∃ (c24 : Bool) (g : Fr), c24 = o13 ∧ f' = updL g [(0, v0_0.v), (5, (.int .i64 (a_l.length : Int))), (6, (.int .i64 (k4 : Int))), (22, (.bool c24))] ∧ Ent cs' [crd (RdS 3 rdInt) v0_0.v a_l]) ?_ ?_
  · replace hF := hio13
    refine Dm (.int .i64 (k4 : Int)) rfl rfl rfl rfl ?_
    refine D_val rfl .no (fun ha => V_gtr (i := (k4 : Int)) (j := 0) (EN ha (.tmp rfl rfl) rfl) (EN ha (.int _ _) rfl)) ?_
    refine Dm (.bool (decide ((0 : Int) < (k4 : Int)))) rfl rfl rfl rfl ?_
    rcases Bool.eq_false_or_eq_true (decide ((0 : Int) < (k4 : Int))) with hg15 | hg15
    · rw [hg15]
      try rw [hg15] at hF; dsimp only [cond_true, cond_false] at hF
      refine D_val rfl (.on 11 rfl rfl rfl) (fun ha => V_move (v := v0_0.v) (EN ha (.tmp rfl rfl) rfl)) ?_
      refine D_val rfl (.on 11 rfl rfl rfl) (fun ha => V_move (v := (.int .i64 (k4 : Int))) (EN ha (.tmp rfl rfl) rfl)) ?_
      refine D_idx (a := x6) sl22 ty3.sz rfl (.on 11 rfl rfl rfl) (.tmp rfl rfl) (.tmp rfl rfl) rfl rfl .h (Int.natCast_nonneg k4) hx9 (fun k16 j17 => ?_)
      refine D_ldS (w := (.int .i64 x6)) ag3 rfl (.on 11 rfl rfl rfl) (.tmp rfl rfl) rfl .h ls3_0 ?_
      refine D_val rfl (.on 11 rfl rfl rfl) (fun ha => V_move (v := v0_0.v) (EN ha (.tmp rfl rfl) rfl)) ?_
      refine D_val rfl (.on 11 rfl rfl rfl) (fun ha => V_move (v := (.int .i64 (k4 : Int))) (EN ha (.tmp rfl rfl) rfl)) ?_
      refine D_val rfl (.on 11 rfl rfl rfl) (fun ha => V_sub (i := (k4 : Int)) (j := 1) (EN ha (.tmp rfl rfl) rfl) (EN ha (.int _ _) rfl)) ?_
      obtain ⟨x18, hx19, hF⟩ := bind_some hF
      obtain ⟨hp20, hx21⟩ := ix_some hx19
      refine D_idx (a := x18) sl22 ty3.sz rfl (.on 11 rfl rfl rfl) (.tmp rfl rfl) (.tmp rfl rfl) rfl rfl (.t .h) hp20 hx21 (fun k22 j23 => ?_)
      refine D_ldS (w := (.int .i64 x18)) ag3 rfl (.on 11 rfl rfl rfl) (.tmp rfl rfl) rfl .h ls3_0 ?_
      refine D_val rfl (.on 11 rfl rfl rfl) (fun ha => V_leq (i := x6) (j := x18) (EN ha (.tmp rfl rfl) rfl) (EN ha (.tmp rfl rfl) rfl)) ?_
      refine D_val rfl .no (fun ha => V_pick (b := true) (u := (.bool (decide ((x6 : Int) ≤ x18)))) (v := (.bool false)) (EN ha (.tmp rfl rfl) rfl) (EN ha (.tmp rfl rfl) rfl) (EN ha (.bool _) rfl)) ?_
      refine D_nil ?_
      obtain rfl := Option.some.inj hF
      exact ⟨_, _, rfl, (EqL.cons rfl (EqL.cons rfl (EqL.cons rfl (EqL.cons rfl (EqL.nil))))).eq, (.sel (.rd (.t (.t .h)) rfl .nil))⟩
    rw [hg15]
    try rw [hg15] at hF; dsimp only [cond_true, cond_false] at hF
    iterate 10 refine D_off 11 rfl rfl rfl rfl ?_
    refine D_val rfl .no (fun ha => V_pick (b := false) (u := undef) (v := (.bool false)) (EN ha (.tmp rfl rfl) rfl) (EN ha (.tmp rfl rfl) rfl) (EN ha (.bool _) rfl)) ?_
    refine D_nil ?_
    obtain rfl := Option.some.inj hF
    exact ⟨_, _, rfl, (EqL.cons rfl (EqL.cons rfl (EqL.cons rfl (EqL.cons rfl (EqL.nil))))).eq, (.sel (.rd .h rfl .nil))⟩
  rintro _ _ ⟨c24, g27, rfl, rfl, hE⟩
  replace hF := hO14
  clear hO14
  try dsimp only at hF
  refine K_ent hE ?_
  refine CW_cond (b := c24) (.tmp rfl rfl) (fun hb26 => ?_) (fun hb26 => ?_)
  · rw [if_pos hb26] at hF
    refine K_region (C_val (V_assign (v := (.bool false)) (.bool _)) ?_)
    refine C_nil (CW_ret ?_)
    obtain rfl := Option.some.inj hF
    exact End_ret () (.tmp rfl rfl .nil) rfl (.sel .nil)
  rw [if_neg (by rw [hb26]; exact Bool.false_ne_true)] at hF
  refine CW_skip (CW_region (C_val (V_add (i := (k4 : Int)) (j := 1) (.tmp rfl rfl) (.int _ _)) ?_))
  refine Cm (.int .i64 (IntKind.i64.wrap ((k4 : Int) + 1))) rfl rfl ?_
  refine C_nil ?_
  have hw25 : IntKind.i64.wrap ((k4 : Int) + 1) = ((k4 + 1 : Nat) : Int) := by rw [wrap_in (by omega) (by omega)]; rfl
  rw [hw25]
  exact ⟨_, Nat.lt_succ_self _, _, k4 + 1, rest5, rfl, (EqL.cons rfl (EqL.cons rfl (EqL.cons rfl (EqL.nil)))).eq, hd10, (.sel (.rd .h rfl .nil)), hF⟩

/-! impl.Method).fits$1 -/
def i_Method_fits_1 (a_i : Int) (a_e1 : Int) : Option (Bool) :=
  (i_within a_i 0 (IntKind.i64.wrap (a_e1 - 1))).bind fun r1 =>
  some (!r1)
theorem i_Method_fits_1_ok (a_i : Int) (kc1 : Nat) (a_e1 : Int) (R : Bool) (hF : i_Method_fits_1 a_i a_e1 = some R) :
    Fw.Spec Tryz.prog 146 [(.int .i64 a_i), (.pointer (some ⟨kc1, 0, some 0⟩))] [cboR kc1 3 (.int .i64 a_e1)] (fun _ : Unit => (.bool R)) (fun _ => []) := by
  refine Spec_enter (n := 9) Tryz.func146 rfl rfl (rs := [.tmp 3]) rfl rfl rfl ?_
  intro H0 F0
  unfold i_Method_fits_1 at hF
  refine K_region (C_val (V_assign (v := (.bool false)) (.bool _)) ?_)
  refine C_nil (K_region (Cm (.int .i64 a_i) rfl rfl ?_))
  refine C_at .h (fun hp => V_load (v := (.int .i64 a_e1)) ag3 (.tmp rfl rfl) hp.2 rfl rfl) ?_
  refine C_val (V_sub (i := a_e1) (j := 1) (.tmp rfl rfl) (.int _ _)) ?_
  obtain ⟨r1, hx2, hF⟩ := bind_some hF
  refine C_x0 .nil (X_callS cf76 (.cons (.tmp rfl rfl) (.cons (.int _ _) (.cons (.tmp rfl rfl) .nil))) (i_within_ok a_i 0 (IntKind.i64.wrap (a_e1 - 1)) _ hx2)) (fun _ => ?_)
  refine C_val (V_not (b := r1) (.tmp rfl rfl)) ?_
  refine Ca (.bool (!r1)) rfl rfl ?_
  refine C_nil (CW_ret ?_)
  obtain rfl := Option.some.inj hF
  exact End_ret () (.tmp rfl rfl .nil) rfl (.sel .nil)

/-! slices.IndexFunc[[]int,int] -/
def g_slices_IndexFunc_int_int_iMethodfits1_L1 (a_e1 : Int) : List Int → Nat → Option (Int)
  | [], k4 => some (-1)
  | x6 :: rest5, k4 => (i_Method_fits_1 x6 a_e1).bind fun r15 =>
    if r15 then (
      some (k4 : Int))
    else (
      g_slices_IndexFunc_int_int_iMethodfits1_L1 a_e1 rest5 (k4 + 1))
def g_slices_IndexFunc_int_int_iMethodfits1 (a_s : List Int) (a_e1 : Int) : Option (Int) :=
  g_slices_IndexFunc_int_int_iMethodfits1_L1 a_e1 a_s 0
theorem g_slices_IndexFunc_int_int_iMethodfits1_ok (a_s : List Int) (v0_0 : Sv) (kc1 : Nat) (a_e1 : Int) (R : Int) (hF : g_slices_IndexFunc_int_int_iMethodfits1 a_s a_e1 = some R) :
    Fw.Spec Tryz.prog 141 [v0_0.v, (.func (.func 146) [].toArray [(.pointer (some ⟨kc1, 0, some 0⟩))].toArray)] [crd (RdS 3 rdInt) v0_0.v a_s, cboR kc1 3 (.int .i64 a_e1)] (fun _ : Unit => (.int .i64 R)) (fun _ => []) := by
  refine Spec_enter (n := 19) Tryz.func141 rfl rfl (rs := [.tmp 4]) rfl rfl rfl ?_
  intro H0 F0
  unfold g_slices_IndexFunc_int_int_iMethodfits1 at hF
  refine K_region (C_val (V_assign (v := (.int .i64 0)) (.int _ _)) ?_)
  refine C_nil (K_in (K_region (Cm v0_0.v rfl rfl ?_)))
  refine C_at .h (fun hp => V_lenR (l := a_s.length) sl22 (.tmp rfl rfl) (crd_len hp)) ?_
  refine C_val (V_move (v := (.int .i64 0)) (.int _ _)) ?_
  refine C_nil (CW_block (CW_loop (m := a_s.length) (fun m2 f' cs' => ∃ (g : Fr) (k4 : Nat) (rest5 : List Int), m2 = rest5.length ∧ f' = updL g [(0, v0_0.v), (1, (.func (.func 146) [].toArray [(.pointer (some ⟨kc1, 0, some 0⟩))].toArray)), (7, (.int .i64 (a_s.length : Int))), (8, (.int .i64 (k4 : Int)))] ∧ List.drop k4 a_s = rest5 ∧ Ent cs' [crd (RdS 3 rdInt) v0_0.v a_s, cboR kc1 3 (.int .i64 a_e1)] ∧ g_slices_IndexFunc_int_int_iMethodfits1_L1 a_e1 rest5 k4 = some R) ⟨_, 0, _, rfl, (EqL.cons rfl (EqL.cons rfl (EqL.cons rfl (EqL.cons rfl (EqL.nil))))).eq, rfl, (.sel (.rd .h rfl (.rd (.t .h) rfl .nil))), hF⟩ ?_))
  clear hF
  rintro m2 _ _ ⟨g3, k4, rest5, rfl, rfl, hd7, hE, hF⟩
  refine K_ent hE ?_
  clear hE
  refine K_pure (c := crd (RdS 3 rdInt) v0_0.v a_s) .h crd_bound (fun hbd12 => ?_)
  rcases rest5 with _ | ⟨x6, rest5⟩
  · have hk8 := List.drop_eq_nil_iff.1 hd7
    have hfe11 : (decide (((k4 : Int) : Int) < (a_s.length : Int))) = false := decide_eq_false (by omega)
    rw [g_slices_IndexFunc_int_int_iMethodfits1_L1] at hF
    refine K_region (C_val (V_lss (i := (k4 : Int)) (j := (a_s.length : Int)) (.tmp rfl rfl) (.tmp rfl rfl)) ?_)
    refine C_nil (K_in (CW_cond (b := (decide (((k4 : Int) : Int) < (a_s.length : Int)))) (.tmp rfl rfl) (fun hb => absurd (hfe11.symm.trans hb) (by decide)) (fun _ => ?_)))
    refine CW_exit ?_
    iterate 2 refine CThen_exit ?_
    refine CIn_self (K_region (C_val (V_assign (v := (.int .i64 (-1))) (.int _ _)) ?_))
    refine C_nil (CW_ret ?_)
    obtain rfl := Option.some.inj hF
    exact End_ret () (.tmp rfl rfl .nil) rfl (.sel .nil)
  obtain ⟨hk8, hx9, hd10⟩ := drop_cons hd7
  have hfe11 : (decide (((k4 : Int) : Int) < (a_s.length : Int))) = true := decide_eq_true (by omega)
  rw [g_slices_IndexFunc_int_int_iMethodfits1_L1] at hF
  refine K_region (C_val (V_lss (i := (k4 : Int)) (j := (a_s.length : Int)) (.tmp rfl rfl) (.tmp rfl rfl)) ?_)
  refine C_nil (K_in (CW_cond (b := (decide (((k4 : Int) : Int) < (a_s.length : Int)))) (.tmp rfl rfl) (fun _ => ?_) (fun hb => absurd (hfe11.symm.trans hb) (by decide))))
  refine CW_skip (K_block (K_region (Cm (.int .i64 (k4 : Int)) rfl rfl ?_)))
  refine Ca (.int .i64 (k4 : Int)) rfl rfl ?_
  refine C_nil (K_region (Cm (.func (.func 146) [].toArray [(.pointer (some ⟨kc1, 0, some 0⟩))].toArray) rfl rfl ?_))
  refine Cm v0_0.v rfl rfl ?_
  refine Cm (.int .i64 (k4 : Int)) rfl rfl ?_
  refine C_idx (a := x6) sl22 ty3.sz (.tmp rfl rfl) (.tmp rfl rfl) .h (Int.natCast_nonneg k4) hx9 (fun k13 j14 => ?_)
  refine C_ldS (w := (.int .i64 x6)) ag3 (.tmp rfl rfl) .h ls3_0 ?_
  obtain ⟨r15, hx16, hF⟩ := bind_some hF
  refine C_x0 (.rd (.t (.t .h)) rfl .nil) (X_callCS cf146 (.tmp rfl rfl) (.cons (.tmp rfl rfl) .nil) (i_Method_fits_1_ok x6 kc1 a_e1 _ hx16)) (fun _ => ?_)
  refine C_nil (CW_cond (b := r15) (.tmp rfl rfl) (fun hb19 => ?_) (fun hb19 => ?_))
  · rw [if_pos hb19] at hF
    refine K_region (Cm (.int .i64 (k4 : Int)) rfl rfl ?_)
    refine Ca (.int .i64 (k4 : Int)) rfl rfl ?_
    refine C_nil (CW_ret ?_)
    obtain rfl := Option.some.inj hF
    exact End_ret () (.tmp rfl rfl .nil) rfl (.sel .nil)
  rw [if_neg (by rw [hb19]; exact Bool.false_ne_true)] at hF
  refine CW_skip (CW_region (C_val (V_add (i := (k4 : Int)) (j := 1) (.tmp rfl rfl) (.int _ _)) ?_))
  refine Cm (.int .i64 (IntKind.i64.wrap ((k4 : Int) + 1))) rfl rfl ?_
  refine C_nil ?_
  have hw18 : IntKind.i64.wrap ((k4 : Int) + 1) = ((k4 + 1 : Nat) : Int) := by rw [wrap_in (by omega) (by omega)]; rfl
  rw [hw18]
  exact ⟨_, Nat.lt_succ_self _, _, k4 + 1, rest5, rfl, (EqL.cons rfl (EqL.cons rfl (EqL.cons rfl (EqL.cons rfl (EqL.nil))))).eq, hd10, (.sel (.rd (.t .h) rfl (.rd (.t (.t .h)) rfl .nil))), hF⟩

/-! slices.ContainsFunc[[]int,int] -/
def g_slices_ContainsFunc_int_int_iMethodfits1 (a_s : List Int) (a_e1 : Int) : Option (Bool) :=
  (g_slices_IndexFunc_int_int_iMethodfits1 a_s a_e1).bind fun r1 =>
  some (decide ((0 : Int) ≤ r1))
theorem g_slices_ContainsFunc_int_int_iMethodfits1_ok (a_s : List Int) (v0_0 : Sv) (kc1 : Nat) (a_e1 : Int) (R : Bool) (hF : g_slices_ContainsFunc_int_int_iMethodfits1 a_s a_e1 = some R) :
    Fw.Spec Tryz.prog 114 [v0_0.v, (.func (.func 146) [].toArray [(.pointer (some ⟨kc1, 0, some 0⟩))].toArray)] [crd (RdS 3 rdInt) v0_0.v a_s, cboR kc1 3 (.int .i64 a_e1)] (fun _ : Unit => (.bool R)) (fun _ => []) := by
  refine Spec_enter (n := 9) Tryz.func114 rfl rfl (rs := [.tmp 4]) rfl rfl rfl ?_
  intro H0 F0
  unfold g_slices_ContainsFunc_int_int_iMethodfits1 at hF
  refine K_region (C_val (V_assign (v := (.bool false)) (.bool _)) ?_)
  refine C_nil (K_region (Cm v0_0.v rfl rfl ?_))
  refine Cm (.func (.func 146) [].toArray [(.pointer (some ⟨kc1, 0, some 0⟩))].toArray) rfl rfl ?_
  obtain ⟨r1, hx2, hF⟩ := bind_some hF
  refine C_x0 (.rd .h rfl (.rd (.t .h) rfl .nil)) (X_callS cf141 (.cons (.tmp rfl rfl) (.cons (.tmp rfl rfl) .nil)) (g_slices_IndexFunc_int_int_iMethodfits1_ok a_s v0_0 kc1 a_e1 _ hx2)) (fun _ => ?_)
  refine C_val (V_geq (i := r1) (j := 0) (.tmp rfl rfl) (.int _ _)) ?_
  refine Ca (.bool (decide ((0 : Int) ≤ r1))) rfl rfl ?_
  refine C_nil (CW_ret ?_)
  obtain rfl := Option.some.inj hF
  exact End_ret () (.tmp rfl rfl .nil) rfl (.sel .nil)

/-! impl.isCost -/
def i_isCost (a_n : Int) : Option (Bool) :=
  (i_within a_n 0 99).bind fun r1 =>
  some r1
theorem i_isCost_ok (a_n : Int) (R : Bool) (hF : i_isCost a_n = some R) :
    Fw.Spec Tryz.prog 147 [(.int .i64 a_n)] [] (fun _ : Unit => (.bool R)) (fun _ => []) := by
  refine Spec_enter (n := 5) Tryz.func147 rfl rfl (rs := [.tmp 2]) rfl rfl rfl ?_
  intro H0 F0
  unfold i_isCost at hF
  refine K_region (C_val (V_assign (v := (.bool false)) (.bool _)) ?_)
  refine C_nil (K_region (Cm (.int .i64 a_n) rfl rfl ?_))
  obtain ⟨r1, hx2, hF⟩ := bind_some hF
  refine C_x0 .nil (X_callS cf76 (.cons (.tmp rfl rfl) (.cons (.int _ _) (.cons (.int _ _) .nil))) (i_within_ok a_n 0 99 _ hx2)) (fun _ => ?_)
  refine Ca (.bool r1) rfl rfl ?_
  refine C_nil (CW_ret ?_)
  obtain rfl := Option.some.inj hF
  exact End_ret () (.tmp rfl rfl .nil) rfl (.sel .nil)

end Go.Proofs.YtfkhlplpbhadhaaGreatDoor
