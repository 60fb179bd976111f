/-
  Functions of the program as Lean functions, and that the calls return what these say: part 4. No conditions.
-/
import Derived.Test.YtipfillafgfecaaGreatStaleEntriesG2
import Derived.KernelRfl
set_option maxRecDepth 100000
set_option linter.unusedVariables false
namespace Go.Proofs.YtipfillafgfecaaGreat
open Go Go.Fw

/-! laws.eqRuleS -/
def l_eqRuleS_L1 (a_b : List Rule) : List Rule → Nat → Option (Bool)
  | [], k4 => some true
  | x6 :: rest5, k4 => (ix a_b (k4 : Int)).bind fun x16 =>
    (l_eqRule x6 x16).bind fun r23 =>
    if (!r23) then (
      some false)
    else (
      l_eqRuleS_L1 a_b rest5 (k4 + 1))
def l_eqRuleS (a_a : List Rule) (a_b : List Rule) : Option (Bool) :=
  if (((a_a.length : Int) : Int) != (a_b.length : Int)) then (
    some false)
  else (
    l_eqRuleS_L1 a_b a_a 0)
theorem l_eqRuleS_ok (a_a : List Rule) (v0_0 : Sv) (a_b : List Rule) (v1_0 : Sv) (R : Bool) (hF : l_eqRuleS a_a a_b = some R) :
    Fw.Spec Tryz.prog 87 [v0_0.v, v1_0.v] [crd (RdS 91 rd91) v0_0.v a_a, crd (RdS 91 rd91) v1_0.v a_b] (fun _ : Unit => (.bool R)) (fun _ => []) := by
  refine Spec_enter (n := 27) Tryz.func87 rfl rfl (rs := [.tmp 4]) rfl rfl rfl ?_
  intro H0 F0
  unfold l_eqRuleS at hF
  refine K_region (C_val (V_assign (v := (.bool false)) (.bool _)) ?_)
  refine C_nil (K_in (K_region (Cm v0_0.v rfl rfl ?_)))
  refine C_at .h (fun hp => V_lenR (l := a_a.length) sl38 (.tmp rfl rfl) (crd_len hp)) ?_
  refine Cm v1_0.v rfl rfl ?_
  refine C_at (.t .h) (fun hp => V_lenR (l := a_b.length) sl38 (.tmp rfl rfl) (crd_len hp)) ?_
  refine C_val (V_neq (i := (a_a.length : Int)) (j := (a_b.length : Int)) (.tmp rfl rfl) (.tmp rfl rfl)) ?_
  refine C_nil (CW_cond (b := (((a_a.length : Int) : Int) != (a_b.length : Int))) (.tmp rfl rfl) (fun hb28 => ?_) (fun hb28 => ?_))
  · rw [if_pos hb28] at hF
    refine K_region (C_val (V_assign (v := (.bool false)) (.bool _)) ?_)
    refine C_nil (CW_ret ?_)
    obtain rfl := Option.some.inj hF
    exact End_ret () (.tmp rfl rfl .nil) rfl (.sel .nil)
  rw [if_neg (by rw [hb28]; exact Bool.false_ne_true)] at hF
  refine CW_skip (K_in (K_region (C_val (V_assign (v := (.int .i64 0)) (.int _ _)) ?_)))
  refine C_nil (CW_block (CW_loop (m := a_a.length) (fun m2 f' cs' => ∃ (g : Fr) (k4 : Nat) (rest5 : List Rule), m2 = rest5.length ∧ f' = updL g [(0, v0_0.v), (1, v1_0.v), (5, (.int .i64 (k4 : Int)))] ∧ List.drop k4 a_a = rest5 ∧ Ent cs' [crd (RdS 91 rd91) v0_0.v a_a, crd (RdS 91 rd91) v1_0.v a_b] ∧ l_eqRuleS_L1 a_b rest5 k4 = some R) ⟨_, 0, _, rfl, (EqL.cons rfl (EqL.cons rfl (EqL.cons rfl (EqL.nil)))).eq, rfl, (.sel (.rd .h rfl (.rd (.t .h) rfl .nil))), hF⟩ ?_))
  clear hF
  rintro m2 _ _ ⟨g3, k4, rest5, rfl, rfl, hd7, hE, hF⟩
  refine K_ent hE ?_
  clear hE
  refine K_pure (c := crd (RdS 91 rd91) v0_0.v a_a) .h crd_bound (fun hbd12 => ?_)
  rcases rest5 with _ | ⟨x6, rest5⟩
  · have hk8 := List.drop_eq_nil_iff.1 hd7
    have hfe11 : (decide (((k4 : Int) : Int) < (a_a.length : Int))) = false := decide_eq_false (by omega)
    rw [l_eqRuleS_L1] at hF
    refine K_in (K_region (Cm (.int .i64 (k4 : Int)) rfl rfl ?_))
    refine Cm v0_0.v rfl rfl ?_
    refine C_at .h (fun hp => V_lenR (l := a_a.length) sl38 (.tmp rfl rfl) (crd_len hp)) ?_
    refine C_val (V_lss (i := (k4 : Int)) (j := (a_a.length : Int)) (.tmp rfl rfl) (.tmp rfl rfl)) ?_
    refine C_nil (CW_cond (b := (decide (((k4 : Int) : Int) < (a_a.length : Int)))) (.tmp rfl rfl) (fun hb => absurd (hfe11.symm.trans hb) (by decide)) (fun _ => ?_))
    refine CW_exit ?_
    iterate 2 refine CThen_exit ?_
    refine CIn_self (K_region (C_val (V_assign (v := (.bool true)) (.bool _)) ?_))
    refine C_nil (CW_ret ?_)
    obtain rfl := Option.some.inj hF
    exact End_ret () (.tmp rfl rfl .nil) rfl (.sel .nil)
  obtain ⟨hk8, hx9, hd10⟩ := drop_cons hd7
  have hfe11 : (decide (((k4 : Int) : Int) < (a_a.length : Int))) = true := decide_eq_true (by omega)
  rw [l_eqRuleS_L1] at hF
  refine K_in (K_region (Cm (.int .i64 (k4 : Int)) rfl rfl ?_))
  refine Cm v0_0.v rfl rfl ?_
  refine C_at .h (fun hp => V_lenR (l := a_a.length) sl38 (.tmp rfl rfl) (crd_len hp)) ?_
  refine C_val (V_lss (i := (k4 : Int)) (j := (a_a.length : Int)) (.tmp rfl rfl) (.tmp rfl rfl)) ?_
  refine C_nil (CW_cond (b := (decide (((k4 : Int) : Int) < (a_a.length : Int)))) (.tmp rfl rfl) (fun _ => ?_) (fun hb => absurd (hfe11.symm.trans hb) (by decide)))
  refine CW_skip (K_block (K_draw [0, 1, 2, 3, 4, 5, 6, 7, 8, 9] [0, 0, 3, 7, 0, 0, 48, 112, 255, 511] [8] mixed (by decide +kernel) ?_))
  refine Dm v0_0.v rfl rfl rfl rfl ?_
  refine Dm (.int .i64 (k4 : Int)) rfl rfl rfl rfl ?_
  refine D_idx (a := x6) sl38 ty91.sz rfl .no (.tmp rfl rfl) (.tmp rfl rfl) rfl rfl .h (Int.natCast_nonneg k4) hx9 (fun k13 j14 => ?_)
  refine D_ldA1 (ul91_0_91 x6) ag91 ty91.sz rfl rfl .no (.tmp rfl rfl) rfl .h la91_0_91 (fun p15 => ?_)
  refine Dm v1_0.v rfl rfl rfl rfl ?_
  refine Dm (.int .i64 (k4 : Int)) rfl rfl rfl rfl ?_
  obtain ⟨x16, hx17, hF⟩ := bind_some hF
  obtain ⟨hp18, hx19⟩ := ix_some hx17
  refine D_idx (a := x16) sl38 ty91.sz rfl .no (.tmp rfl rfl) (.tmp rfl rfl) rfl rfl (.t (.t (.t .h))) hp18 hx19 (fun k20 j21 => ?_)
  refine D_ldA1 (ul91_0_91 x16) ag91 ty91.sz rfl rfl .no (.tmp rfl rfl) rfl .h la91_0_91 (fun p22 => ?_)
  obtain ⟨r23, hx24, hF⟩ := bind_some hF
  refine D_act0 rfl rfl .no (.rd (.t (.t .h)) rfl (.rd .h rfl .nil)) .nil (fun ha => X_callS cf58 (.cons (EN ha (.tmp rfl rfl) rfl) (.cons (EN ha (.tmp rfl rfl) rfl) .nil)) (l_eqRule_ok x6 p15 x16 p22 _ hx24)) (fun _ => ?_)
  refine D_val rfl .no (fun ha => V_not (b := r23) (EN ha (.tmp rfl rfl) rfl)) ?_
  refine D_nil (CW_cond (b := (!r23)) (.tmp rfl rfl) (fun hb27 => ?_) (fun hb27 => ?_))
  · rw [if_pos hb27] at hF
    refine K_region (C_val (V_assign (v := (.bool false)) (.bool _)) ?_)
    refine C_nil (CW_ret ?_)
    obtain rfl := Option.some.inj hF
    exact End_ret () (.tmp rfl rfl .nil) rfl (.sel .nil)
  rw [if_neg (by rw [hb27]; exact Bool.false_ne_true)] at hF
  refine CW_skip (CW_region (Cm (.int .i64 (k4 : Int)) rfl rfl ?_))
  refine C_val (V_add (i := (k4 : Int)) (j := 1) (.tmp rfl rfl) (.int _ _)) ?_
  refine Ca (.int .i64 (IntKind.i64.wrap ((k4 : Int) + 1))) rfl rfl ?_
  refine C_nil ?_
  have hw26 : IntKind.i64.wrap ((k4 : Int) + 1) = ((k4 + 1 : Nat) : Int) := by rw [wrap_in (by omega) (by omega)]; rfl
  rw [hw26]
  exact ⟨_, Nat.lt_succ_self _, _, k4 + 1, rest5, rfl, (EqL.cons rfl (EqL.cons rfl (EqL.cons rfl (EqL.nil)))).eq, hd10, (.sel (.rd (.t (.t (.t (.t .h)))) rfl (.rd (.t (.t (.t (.t (.t .h))))) rfl .nil))), hF⟩

/-! laws.eqFact -/
def l_eqFact (a_a : Fact) (a_b : Fact) : Option (Bool) :=
  if ((a_a.Rel : Int) != a_b.Rel) then (
    some false)
  else (
    (l_eqIntS a_a.Values a_b.Values).bind fun r3 =>
    if (!r3) then (
      some false)
    else (
      some true))
theorem l_eqFact_ok (a_a : Fact) (v0_1 : Sv) (a_b : Fact) (v1_1 : Sv) (R : Bool) (hF : l_eqFact a_a a_b = some R) :
    Fw.Spec Tryz.prog 48 [(.agg [(.int .i64 a_a.Rel), v0_1.v].toArray), (.agg [(.int .i64 a_b.Rel), v1_1.v].toArray)] [crd (RdS 3 rdInt) v0_1.v a_a.Values, crd (RdS 3 rdInt) v1_1.v a_b.Values] (fun _ : Unit => (.bool R)) (fun _ => []) := by
  refine Spec_enter (n := 16) Tryz.func48 rfl rfl (rs := [.tmp 4]) rfl rfl rfl ?_
  intro H0 F0
  unfold l_eqFact at hF
  refine K_region (C_newR rfl (N_box (g := false) (v := (.agg [(.int .i64 a_a.Rel), v0_1.v].toArray)) ty75.sz (.tmp rfl rfl) rfl) (fun k1 => ?_))
  refine C_newR rfl (N_box (g := false) (v := (.agg [(.int .i64 a_b.Rel), v1_1.v].toArray)) ty75.sz (.tmp rfl rfl) rfl) (fun k2 => ?_)
  refine C_val (V_assign (v := (.bool false)) (.bool _)) ?_
  refine C_nil (K_in (K_region (C_val (V_fieldAddr (off := 0) fd75_0 (.tmp rfl rfl)) ?_)))
  refine C_at (.t .h) (fun hp => V_load (v := (.int .i64 a_a.Rel)) ag3 (.tmp rfl rfl) hp.2 rfl rfl) ?_
  refine C_val (V_fieldAddr (off := 0) fd75_0 (.tmp rfl rfl)) ?_
  refine C_at .h (fun hp => V_load (v := (.int .i64 a_b.Rel)) ag3 (.tmp rfl rfl) hp.2 rfl rfl) ?_
  refine C_val (V_neq (i := a_a.Rel) (j := a_b.Rel) (.tmp rfl rfl) (.tmp rfl rfl)) ?_
  refine C_nil (CW_cond (b := ((a_a.Rel : Int) != a_b.Rel)) (.tmp rfl rfl) (fun hb7 => ?_) (fun hb7 => ?_))
  · rw [if_pos hb7] at hF
    refine K_region (C_val (V_assign (v := (.bool false)) (.bool _)) ?_)
    refine C_nil (CW_ret ?_)
    obtain rfl := Option.some.inj hF
    exact End_ret () (.tmp rfl rfl .nil) rfl (.sel .nil)
  rw [if_neg (by rw [hb7]; exact Bool.false_ne_true)] at hF
  refine CW_skip (K_in (K_region (C_val (V_fieldAddr (off := 1) fd75_1 (.tmp rfl rfl)) ?_)))
  refine C_at (.t .h) (fun hp => V_load (v := v0_1.v) ag22 (.tmp rfl rfl) hp.2 rfl rfl) ?_
  refine C_val (V_fieldAddr (off := 1) fd75_1 (.tmp rfl rfl)) ?_
  refine C_at .h (fun hp => V_load (v := v1_1.v) ag22 (.tmp rfl rfl) hp.2 rfl rfl) ?_
  obtain ⟨r3, hx4, hF⟩ := bind_some hF
  refine C_x0 (.rd (.t (.t .h)) rfl (.rd (.t (.t (.t .h))) rfl .nil)) (X_callS cf46 (.cons (.tmp rfl rfl) (.cons (.tmp rfl rfl) .nil)) (l_eqIntS_ok a_a.Values v0_1 a_b.Values v1_1 _ hx4)) (fun _ => ?_)
  refine C_val (V_not (b := r3) (.tmp rfl rfl)) ?_
  refine C_nil (CW_cond (b := (!r3)) (.tmp rfl rfl) (fun hb6 => ?_) (fun hb6 => ?_))
  · rw [if_pos hb6] at hF
    refine K_region (C_val (V_assign (v := (.bool false)) (.bool _)) ?_)
    refine C_nil (CW_ret ?_)
    obtain rfl := Option.some.inj hF
    exact End_ret () (.tmp rfl rfl .nil) rfl (.sel .nil)
  rw [if_neg (by rw [hb6]; exact Bool.false_ne_true)] at hF
  refine CW_skip (K_region (C_val (V_assign (v := (.bool true)) (.bool _)) ?_))
  refine C_nil (CW_ret ?_)
  obtain rfl := Option.some.inj hF
  exact End_ret () (.tmp rfl rfl .nil) rfl (.sel .nil)

/-! laws.eqFactS -/
def l_eqFactS_L1 (a_b : List Fact) : List Fact → Nat → Option (Bool)
  | [], k4 => some true
  | x6 :: rest5, k4 => (ix a_b (k4 : Int)).bind fun x16 =>
    (l_eqFact x6 x16).bind fun r23 =>
    if (!r23) then (
      some false)
    else (
      l_eqFactS_L1 a_b rest5 (k4 + 1))
def l_eqFactS (a_a : List Fact) (a_b : List Fact) : Option (Bool) :=
  if (((a_a.length : Int) : Int) != (a_b.length : Int)) then (
    some false)
  else (
    l_eqFactS_L1 a_b a_a 0)
theorem l_eqFactS_ok (a_a : List Fact) (v0_0 : Sv) (a_b : List Fact) (v1_0 : Sv) (R : Bool) (hF : l_eqFactS a_a a_b = some R) :
    Fw.Spec Tryz.prog 33 [v0_0.v, v1_0.v] [crd (RdS 75 rd75) v0_0.v a_a, crd (RdS 75 rd75) v1_0.v a_b] (fun _ : Unit => (.bool R)) (fun _ => []) := by
  refine Spec_enter (n := 27) Tryz.func33 rfl rfl (rs := [.tmp 4]) rfl rfl rfl ?_
  intro H0 F0
  unfold l_eqFactS at hF
  refine K_region (C_val (V_assign (v := (.bool false)) (.bool _)) ?_)
  refine C_nil (K_in (K_region (Cm v0_0.v rfl rfl ?_)))
  refine C_at .h (fun hp => V_lenR (l := a_a.length) sl39 (.tmp rfl rfl) (crd_len hp)) ?_
  refine Cm v1_0.v rfl rfl ?_
  refine C_at (.t .h) (fun hp => V_lenR (l := a_b.length) sl39 (.tmp rfl rfl) (crd_len hp)) ?_
  refine C_val (V_neq (i := (a_a.length : Int)) (j := (a_b.length : Int)) (.tmp rfl rfl) (.tmp rfl rfl)) ?_
  refine C_nil (CW_cond (b := (((a_a.length : Int) : Int) != (a_b.length : Int))) (.tmp rfl rfl) (fun hb28 => ?_) (fun hb28 => ?_))
  · rw [if_pos hb28] at hF
    refine K_region (C_val (V_assign (v := (.bool false)) (.bool _)) ?_)
    refine C_nil (CW_ret ?_)
    obtain rfl := Option.some.inj hF
    exact End_ret () (.tmp rfl rfl .nil) rfl (.sel .nil)
  rw [if_neg (by rw [hb28]; exact Bool.false_ne_true)] at hF
  refine CW_skip (K_in (K_region (C_val (V_assign (v := (.int .i64 0)) (.int _ _)) ?_)))
  refine C_nil (CW_block (CW_loop (m := a_a.length) (fun m2 f' cs' => ∃ (g : Fr) (k4 : Nat) (rest5 : List Fact), m2 = rest5.length ∧ f' = updL g [(0, v0_0.v), (1, v1_0.v), (5, (.int .i64 (k4 : Int)))] ∧ List.drop k4 a_a = rest5 ∧ Ent cs' [crd (RdS 75 rd75) v0_0.v a_a, crd (RdS 75 rd75) v1_0.v a_b] ∧ l_eqFactS_L1 a_b rest5 k4 = some R) ⟨_, 0, _, rfl, (EqL.cons rfl (EqL.cons rfl (EqL.cons rfl (EqL.nil)))).eq, rfl, (.sel (.rd .h rfl (.rd (.t .h) rfl .nil))), hF⟩ ?_))
  clear hF
  rintro m2 _ _ ⟨g3, k4, rest5, rfl, rfl, hd7, hE, hF⟩
  refine K_ent hE ?_
  clear hE
  refine K_pure (c := crd (RdS 75 rd75) v0_0.v a_a) .h crd_bound (fun hbd12 => ?_)
  rcases rest5 with _ | ⟨x6, rest5⟩
  · have hk8 := List.drop_eq_nil_iff.1 hd7
    have hfe11 : (decide (((k4 : Int) : Int) < (a_a.length : Int))) = false := decide_eq_false (by omega)
    rw [l_eqFactS_L1] at hF
    refine K_in (K_region (Cm (.int .i64 (k4 : Int)) rfl rfl ?_))
    refine Cm v0_0.v rfl rfl ?_
    refine C_at .h (fun hp => V_lenR (l := a_a.length) sl39 (.tmp rfl rfl) (crd_len hp)) ?_
    refine C_val (V_lss (i := (k4 : Int)) (j := (a_a.length : Int)) (.tmp rfl rfl) (.tmp rfl rfl)) ?_
    refine C_nil (CW_cond (b := (decide (((k4 : Int) : Int) < (a_a.length : Int)))) (.tmp rfl rfl) (fun hb => absurd (hfe11.symm.trans hb) (by decide)) (fun _ => ?_))
    refine CW_exit ?_
    iterate 2 refine CThen_exit ?_
    refine CIn_self (K_region (C_val (V_assign (v := (.bool true)) (.bool _)) ?_))
    refine C_nil (CW_ret ?_)
    obtain rfl := Option.some.inj hF
    exact End_ret () (.tmp rfl rfl .nil) rfl (.sel .nil)
  obtain ⟨hk8, hx9, hd10⟩ := drop_cons hd7
  have hfe11 : (decide (((k4 : Int) : Int) < (a_a.length : Int))) = true := decide_eq_true (by omega)
  rw [l_eqFactS_L1] at hF
  refine K_in (K_region (Cm (.int .i64 (k4 : Int)) rfl rfl ?_))
  refine Cm v0_0.v rfl rfl ?_
  refine C_at .h (fun hp => V_lenR (l := a_a.length) sl39 (.tmp rfl rfl) (crd_len hp)) ?_
  refine C_val (V_lss (i := (k4 : Int)) (j := (a_a.length : Int)) (.tmp rfl rfl) (.tmp rfl rfl)) ?_
  refine C_nil (CW_cond (b := (decide (((k4 : Int) : Int) < (a_a.length : Int)))) (.tmp rfl rfl) (fun _ => ?_) (fun hb => absurd (hfe11.symm.trans hb) (by decide)))
  refine CW_skip (K_block (K_draw [0, 1, 2, 3, 4, 5, 6, 7, 8, 9] [0, 0, 3, 7, 0, 0, 48, 112, 255, 511] [8] mixed (by decide +kernel) ?_))
  refine Dm v0_0.v rfl rfl rfl rfl ?_
  refine Dm (.int .i64 (k4 : Int)) rfl rfl rfl rfl ?_
  refine D_idx (a := x6) sl39 ty75.sz rfl .no (.tmp rfl rfl) (.tmp rfl rfl) rfl rfl .h (Int.natCast_nonneg k4) hx9 (fun k13 j14 => ?_)
  refine D_ldA1 (ul75_0_75 x6) ag75 ty75.sz rfl rfl .no (.tmp rfl rfl) rfl .h la75_0_75 (fun p15 => ?_)
  refine Dm v1_0.v rfl rfl rfl rfl ?_
  refine Dm (.int .i64 (k4 : Int)) rfl rfl rfl rfl ?_
  obtain ⟨x16, hx17, hF⟩ := bind_some hF
  obtain ⟨hp18, hx19⟩ := ix_some hx17
  refine D_idx (a := x16) sl39 ty75.sz rfl .no (.tmp rfl rfl) (.tmp rfl rfl) rfl rfl (.t (.t (.t .h))) hp18 hx19 (fun k20 j21 => ?_)
  refine D_ldA1 (ul75_0_75 x16) ag75 ty75.sz rfl rfl .no (.tmp rfl rfl) rfl .h la75_0_75 (fun p22 => ?_)
  obtain ⟨r23, hx24, hF⟩ := bind_some hF
  refine D_act0 rfl rfl .no (.rd (.t (.t .h)) rfl (.rd .h rfl .nil)) .nil (fun ha => X_callS cf48 (.cons (EN ha (.tmp rfl rfl) rfl) (.cons (EN ha (.tmp rfl rfl) rfl) .nil)) (l_eqFact_ok x6 p15 x16 p22 _ hx24)) (fun _ => ?_)
  refine D_val rfl .no (fun ha => V_not (b := r23) (EN ha (.tmp rfl rfl) rfl)) ?_
  refine D_nil (CW_cond (b := (!r23)) (.tmp rfl rfl) (fun hb27 => ?_) (fun hb27 => ?_))
  · rw [if_pos hb27] at hF
    refine K_region (C_val (V_assign (v := (.bool false)) (.bool _)) ?_)
    refine C_nil (CW_ret ?_)
    obtain rfl := Option.some.inj hF
    exact End_ret () (.tmp rfl rfl .nil) rfl (.sel .nil)
  rw [if_neg (by rw [hb27]; exact Bool.false_ne_true)] at hF
  refine CW_skip (CW_region (Cm (.int .i64 (k4 : Int)) rfl rfl ?_))
  refine C_val (V_add (i := (k4 : Int)) (j := 1) (.tmp rfl rfl) (.int _ _)) ?_
  refine Ca (.int .i64 (IntKind.i64.wrap ((k4 : Int) + 1))) rfl rfl ?_
  refine C_nil ?_
  have hw26 : IntKind.i64.wrap ((k4 : Int) + 1) = ((k4 + 1 : Nat) : Int) := by rw [wrap_in (by omega) (by omega)]; rfl
  rw [hw26]
  exact ⟨_, Nat.lt_succ_self _, _, k4 + 1, rest5, rfl, (EqL.cons rfl (EqL.cons rfl (EqL.cons rfl (EqL.nil)))).eq, hd10, (.sel (.rd (.t (.t (.t (.t .h)))) rfl (.rd (.t (.t (.t (.t (.t .h))))) rfl .nil))), hF⟩

/-! laws.eqSource -/
def l_eqSource (a_a : Source) (a_b : Source) : Option (Bool) :=
  (l_eqFactS a_a.Facts a_b.Facts).bind fun r3 =>
  if (!r3) then (
    some false)
  else (
    if ((a_a.Version : Int) != a_b.Version) then (
      some false)
    else (
      some true))
theorem l_eqSource_ok (a_a : Source) (v0_0 : Sv) (a_b : Source) (v1_0 : Sv) (R : Bool) (hF : l_eqSource a_a a_b = some R) :
    Fw.Spec Tryz.prog 88 [(.agg [v0_0.v, (.int .i64 a_a.Version)].toArray), (.agg [v1_0.v, (.int .i64 a_b.Version)].toArray)] [crd (RdS 75 rd75) v0_0.v a_a.Facts, crd (RdS 75 rd75) v1_0.v a_b.Facts] (fun _ : Unit => (.bool R)) (fun _ => []) := by
  refine Spec_enter (n := 16) Tryz.func88 rfl rfl (rs := [.tmp 4]) rfl rfl rfl ?_
  intro H0 F0
  unfold l_eqSource at hF
  refine K_region (C_newR rfl (N_box (g := false) (v := (.agg [v0_0.v, (.int .i64 a_a.Version)].toArray)) ty41.sz (.tmp rfl rfl) rfl) (fun k1 => ?_))
  refine C_newR rfl (N_box (g := false) (v := (.agg [v1_0.v, (.int .i64 a_b.Version)].toArray)) ty41.sz (.tmp rfl rfl) rfl) (fun k2 => ?_)
  refine C_val (V_assign (v := (.bool false)) (.bool _)) ?_
  refine C_nil (K_in (K_region (C_val (V_fieldAddr (off := 0) fd41_0 (.tmp rfl rfl)) ?_)))
  refine C_at (.t .h) (fun hp => V_load (v := v0_0.v) ag39 (.tmp rfl rfl) hp.2 rfl rfl) ?_
  refine C_val (V_fieldAddr (off := 0) fd41_0 (.tmp rfl rfl)) ?_
  refine C_at .h (fun hp => V_load (v := v1_0.v) ag39 (.tmp rfl rfl) hp.2 rfl rfl) ?_
  obtain ⟨r3, hx4, hF⟩ := bind_some hF
  refine C_x0 (.rd (.t (.t .h)) rfl (.rd (.t (.t (.t .h))) rfl .nil)) (X_callS cf33 (.cons (.tmp rfl rfl) (.cons (.tmp rfl rfl) .nil)) (l_eqFactS_ok a_a.Facts v0_0 a_b.Facts v1_0 _ hx4)) (fun _ => ?_)
  refine C_val (V_not (b := r3) (.tmp rfl rfl)) ?_
  refine C_nil (CW_cond (b := (!r3)) (.tmp rfl rfl) (fun hb7 => ?_) (fun hb7 => ?_))
  · rw [if_pos hb7] at hF
    refine K_region (C_val (V_assign (v := (.bool false)) (.bool _)) ?_)
    refine C_nil (CW_ret ?_)
    obtain rfl := Option.some.inj hF
    exact End_ret () (.tmp rfl rfl .nil) rfl (.sel .nil)
  rw [if_neg (by rw [hb7]; exact Bool.false_ne_true)] at hF
  refine CW_skip (K_in (K_region (C_val (V_fieldAddr (off := 1) fd41_1 (.tmp rfl rfl)) ?_)))
  refine C_at (.t .h) (fun hp => V_load (v := (.int .i64 a_a.Version)) ag3 (.tmp rfl rfl) hp.2 rfl rfl) ?_
  refine C_val (V_fieldAddr (off := 1) fd41_1 (.tmp rfl rfl)) ?_
  refine C_at .h (fun hp => V_load (v := (.int .i64 a_b.Version)) ag3 (.tmp rfl rfl) hp.2 rfl rfl) ?_
  refine C_val (V_neq (i := a_a.Version) (j := a_b.Version) (.tmp rfl rfl) (.tmp rfl rfl)) ?_
  refine C_nil (CW_cond (b := ((a_a.Version : Int) != a_b.Version)) (.tmp rfl rfl) (fun hb6 => ?_) (fun hb6 => ?_))
  · rw [if_pos hb6] at hF
    refine K_region (C_val (V_assign (v := (.bool false)) (.bool _)) ?_)
    refine C_nil (CW_ret ?_)
    obtain rfl := Option.some.inj hF
    exact End_ret () (.tmp rfl rfl .nil) rfl (.sel .nil)
  rw [if_neg (by rw [hb6]; exact Bool.false_ne_true)] at hF
  refine CW_skip (K_region (C_val (V_assign (v := (.bool true)) (.bool _)) ?_))
  refine C_nil (CW_ret ?_)
  obtain rfl := Option.some.inj hF
  exact End_ret () (.tmp rfl rfl .nil) rfl (.sel .nil)

/-! laws.eqStored -/
def l_eqStored (a_a : Stored) (a_b : Stored) : Option (Bool) :=
  (l_eqAccess a_a.Access a_b.Access).bind fun r3 =>
  if (!r3) then (
    some false)
  else (
    (l_eqFactS a_a.Facts a_b.Facts).bind fun r6 =>
    if (!r6) then (
      some false)
    else (
      if ((a_a.At : Int) != a_b.At) then (
        some false)
      else (
        some true)))
theorem l_eqStored_ok (a_a : Stored) (v0_1 : Sv) (v0_2 : Sv) (a_b : Stored) (v1_1 : Sv) (v1_2 : Sv) (R : Bool) (hF : l_eqStored a_a a_b = some R) :
    Fw.Spec Tryz.prog 224 [(.agg [(.int .i64 a_a.Access.Method), v0_1.v, v0_2.v, (.int .i64 a_a.At)].toArray), (.agg [(.int .i64 a_b.Access.Method), v1_1.v, v1_2.v, (.int .i64 a_b.At)].toArray)] [crd (RdS 3 rdInt) v0_1.v a_a.Access.Values, crd (RdS 75 rd75) v0_2.v a_a.Facts, crd (RdS 3 rdInt) v1_1.v a_b.Access.Values, crd (RdS 75 rd75) v1_2.v a_b.Facts] (fun _ : Unit => (.bool R)) (fun _ => []) := by
  refine Spec_enter (n := 22) Tryz.func224 rfl rfl (rs := [.tmp 4]) rfl rfl rfl ?_
  intro H0 F0
  unfold l_eqStored at hF
  refine K_region (C_newR rfl (N_box (g := false) (v := (.agg [(.int .i64 a_a.Access.Method), v0_1.v, v0_2.v, (.int .i64 a_a.At)].toArray)) ty132.sz (.tmp rfl rfl) rfl) (fun k1 => ?_))
  refine C_newR rfl (N_box (g := false) (v := (.agg [(.int .i64 a_b.Access.Method), v1_1.v, v1_2.v, (.int .i64 a_b.At)].toArray)) ty132.sz (.tmp rfl rfl) rfl) (fun k2 => ?_)
  refine C_val (V_assign (v := (.bool false)) (.bool _)) ?_
  refine C_nil (K_in (K_region (C_val (V_fieldAddr (off := 0) fd132_0 (.tmp rfl rfl)) ?_)))
  refine C_at (.t .h) (fun hp => V_loadA (s := 2) (l := [(.int .i64 a_a.Access.Method), v0_1.v]) ag69 ty69.sz (.tmp rfl rfl) hp.2 rfl (by decide) (Nat.le_of_ble_eq_true rfl) rfl) ?_
  refine C_val (V_fieldAddr (off := 0) fd132_0 (.tmp rfl rfl)) ?_
  refine C_at .h (fun hp => V_loadA (s := 2) (l := [(.int .i64 a_b.Access.Method), v1_1.v]) ag69 ty69.sz (.tmp rfl rfl) hp.2 rfl (by decide) (Nat.le_of_ble_eq_true rfl) rfl) ?_
  obtain ⟨r3, hx4, hF⟩ := bind_some hF
  refine C_x0 (.rd (.t (.t .h)) rfl (.rd (.t (.t (.t (.t .h)))) rfl .nil)) (X_callS cf45 (.cons (.tmp rfl rfl) (.cons (.tmp rfl rfl) .nil)) (l_eqAccess_ok a_a.Access v0_1 a_b.Access v1_1 _ hx4)) (fun _ => ?_)
  refine C_val (V_not (b := r3) (.tmp rfl rfl)) ?_
  refine C_nil (CW_cond (b := (!r3)) (.tmp rfl rfl) (fun hb11 => ?_) (fun hb11 => ?_))
  · rw [if_pos hb11] at hF
    refine K_region (C_val (V_assign (v := (.bool false)) (.bool _)) ?_)
    refine C_nil (CW_ret ?_)
    obtain rfl := Option.some.inj hF
    exact End_ret () (.tmp rfl rfl .nil) rfl (.sel .nil)
  rw [if_neg (by rw [hb11]; exact Bool.false_ne_true)] at hF
  refine CW_skip (K_in (K_region (C_val (V_fieldAddr (off := 2) fd132_1 (.tmp rfl rfl)) ?_)))
  refine C_at (.t .h) (fun hp => V_load (v := v0_2.v) ag39 (.tmp rfl rfl) hp.2 rfl rfl) ?_
  refine C_val (V_fieldAddr (off := 2) fd132_1 (.tmp rfl rfl)) ?_
  refine C_at .h (fun hp => V_load (v := v1_2.v) ag39 (.tmp rfl rfl) hp.2 rfl rfl) ?_
  obtain ⟨r6, hx7, hF⟩ := bind_some hF
  refine C_x0 (.rd (.t (.t (.t .h))) rfl (.rd (.t (.t (.t (.t (.t .h))))) rfl .nil)) (X_callS cf33 (.cons (.tmp rfl rfl) (.cons (.tmp rfl rfl) .nil)) (l_eqFactS_ok a_a.Facts v0_2 a_b.Facts v1_2 _ hx7)) (fun _ => ?_)
  refine C_val (V_not (b := r6) (.tmp rfl rfl)) ?_
  refine C_nil (CW_cond (b := (!r6)) (.tmp rfl rfl) (fun hb10 => ?_) (fun hb10 => ?_))
  · rw [if_pos hb10] at hF
    refine K_region (C_val (V_assign (v := (.bool false)) (.bool _)) ?_)
    refine C_nil (CW_ret ?_)
    obtain rfl := Option.some.inj hF
    exact End_ret () (.tmp rfl rfl .nil) rfl (.sel .nil)
  rw [if_neg (by rw [hb10]; exact Bool.false_ne_true)] at hF
  refine CW_skip (K_in (K_region (C_val (V_fieldAddr (off := 3) fd132_2 (.tmp rfl rfl)) ?_)))
  refine C_at (.t .h) (fun hp => V_load (v := (.int .i64 a_a.At)) ag3 (.tmp rfl rfl) hp.2 rfl rfl) ?_
  refine C_val (V_fieldAddr (off := 3) fd132_2 (.tmp rfl rfl)) ?_
  refine C_at .h (fun hp => V_load (v := (.int .i64 a_b.At)) ag3 (.tmp rfl rfl) hp.2 rfl rfl) ?_
  refine C_val (V_neq (i := a_a.At) (j := a_b.At) (.tmp rfl rfl) (.tmp rfl rfl)) ?_
  refine C_nil (CW_cond (b := ((a_a.At : Int) != a_b.At)) (.tmp rfl rfl) (fun hb9 => ?_) (fun hb9 => ?_))
  · rw [if_pos hb9] at hF
    refine K_region (C_val (V_assign (v := (.bool false)) (.bool _)) ?_)
    refine C_nil (CW_ret ?_)
    obtain rfl := Option.some.inj hF
    exact End_ret () (.tmp rfl rfl .nil) rfl (.sel .nil)
  rw [if_neg (by rw [hb9]; exact Bool.false_ne_true)] at hF
  refine CW_skip (K_region (C_val (V_assign (v := (.bool true)) (.bool _)) ?_))
  refine C_nil (CW_ret ?_)
  obtain rfl := Option.some.inj hF
  exact End_ret () (.tmp rfl rfl .nil) rfl (.sel .nil)

/-! laws.eqStoredS -/
def l_eqStoredS_L1 (a_b : List Stored) : List Stored → Nat → Option (Bool)
  | [], k4 => some true
  | x6 :: rest5, k4 => (ix a_b (k4 : Int)).bind fun x16 =>
    (l_eqStored x6 x16).bind fun r23 =>
    if (!r23) then (
      some false)
    else (
      l_eqStoredS_L1 a_b rest5 (k4 + 1))
def l_eqStoredS (a_a : List Stored) (a_b : List Stored) : Option (Bool) :=
  if (((a_a.length : Int) : Int) != (a_b.length : Int)) then (
    some false)
  else (
    l_eqStoredS_L1 a_b a_a 0)
theorem l_eqStoredS_ok (a_a : List Stored) (v0_0 : Sv) (a_b : List Stored) (v1_0 : Sv) (R : Bool) (hF : l_eqStoredS a_a a_b = some R) :
    Fw.Spec Tryz.prog 160 [v0_0.v, v1_0.v] [crd (RdS 132 rd132) v0_0.v a_a, crd (RdS 132 rd132) v1_0.v a_b] (fun _ : Unit => (.bool R)) (fun _ => []) := by
  refine Spec_enter (n := 27) Tryz.func160 rfl rfl (rs := [.tmp 4]) rfl rfl rfl ?_
  intro H0 F0
  unfold l_eqStoredS at hF
  refine K_region (C_val (V_assign (v := (.bool false)) (.bool _)) ?_)
  refine C_nil (K_in (K_region (Cm v0_0.v rfl rfl ?_)))
  refine C_at .h (fun hp => V_lenR (l := a_a.length) sl42 (.tmp rfl rfl) (crd_len hp)) ?_
  refine Cm v1_0.v rfl rfl ?_
  refine C_at (.t .h) (fun hp => V_lenR (l := a_b.length) sl42 (.tmp rfl rfl) (crd_len hp)) ?_
  refine C_val (V_neq (i := (a_a.length : Int)) (j := (a_b.length : Int)) (.tmp rfl rfl) (.tmp rfl rfl)) ?_
  refine C_nil (CW_cond (b := (((a_a.length : Int) : Int) != (a_b.length : Int))) (.tmp rfl rfl) (fun hb28 => ?_) (fun hb28 => ?_))
  · rw [if_pos hb28] at hF
    refine K_region (C_val (V_assign (v := (.bool false)) (.bool _)) ?_)
    refine C_nil (CW_ret ?_)
    obtain rfl := Option.some.inj hF
    exact End_ret () (.tmp rfl rfl .nil) rfl (.sel .nil)
  rw [if_neg (by rw [hb28]; exact Bool.false_ne_true)] at hF
  refine CW_skip (K_in (K_region (C_val (V_assign (v := (.int .i64 0)) (.int _ _)) ?_)))
  refine C_nil (CW_block (CW_loop (m := a_a.length) (fun m2 f' cs' => ∃ (g : Fr) (k4 : Nat) (rest5 : List Stored), m2 = rest5.length ∧ f' = updL g [(0, v0_0.v), (1, v1_0.v), (5, (.int .i64 (k4 : Int)))] ∧ List.drop k4 a_a = rest5 ∧ Ent cs' [crd (RdS 132 rd132) v0_0.v a_a, crd (RdS 132 rd132) v1_0.v a_b] ∧ l_eqStoredS_L1 a_b rest5 k4 = some R) ⟨_, 0, _, rfl, (EqL.cons rfl (EqL.cons rfl (EqL.cons rfl (EqL.nil)))).eq, rfl, (.sel (.rd .h rfl (.rd (.t .h) rfl .nil))), hF⟩ ?_))
  clear hF
  rintro m2 _ _ ⟨g3, k4, rest5, rfl, rfl, hd7, hE, hF⟩
  refine K_ent hE ?_
  clear hE
  refine K_pure (c := crd (RdS 132 rd132) v0_0.v a_a) .h crd_bound (fun hbd12 => ?_)
  rcases rest5 with _ | ⟨x6, rest5⟩
  · have hk8 := List.drop_eq_nil_iff.1 hd7
    have hfe11 : (decide (((k4 : Int) : Int) < (a_a.length : Int))) = false := decide_eq_false (by omega)
    rw [l_eqStoredS_L1] at hF
    refine K_in (K_region (Cm (.int .i64 (k4 : Int)) rfl rfl ?_))
    refine Cm v0_0.v rfl rfl ?_
    refine C_at .h (fun hp => V_lenR (l := a_a.length) sl42 (.tmp rfl rfl) (crd_len hp)) ?_
    refine C_val (V_lss (i := (k4 : Int)) (j := (a_a.length : Int)) (.tmp rfl rfl) (.tmp rfl rfl)) ?_
    refine C_nil (CW_cond (b := (decide (((k4 : Int) : Int) < (a_a.length : Int)))) (.tmp rfl rfl) (fun hb => absurd (hfe11.symm.trans hb) (by decide)) (fun _ => ?_))
    refine CW_exit ?_
    iterate 2 refine CThen_exit ?_
    refine CIn_self (K_region (C_val (V_assign (v := (.bool true)) (.bool _)) ?_))
    refine C_nil (CW_ret ?_)
    obtain rfl := Option.some.inj hF
    exact End_ret () (.tmp rfl rfl .nil) rfl (.sel .nil)
  obtain ⟨hk8, hx9, hd10⟩ := drop_cons hd7
  have hfe11 : (decide (((k4 : Int) : Int) < (a_a.length : Int))) = true := decide_eq_true (by omega)
  rw [l_eqStoredS_L1] at hF
  refine K_in (K_region (Cm (.int .i64 (k4 : Int)) rfl rfl ?_))
  refine Cm v0_0.v rfl rfl ?_
  refine C_at .h (fun hp => V_lenR (l := a_a.length) sl42 (.tmp rfl rfl) (crd_len hp)) ?_
  refine C_val (V_lss (i := (k4 : Int)) (j := (a_a.length : Int)) (.tmp rfl rfl) (.tmp rfl rfl)) ?_
  refine C_nil (CW_cond (b := (decide (((k4 : Int) : Int) < (a_a.length : Int)))) (.tmp rfl rfl) (fun _ => ?_) (fun hb => absurd (hfe11.symm.trans hb) (by decide)))
  refine CW_skip (K_block (K_draw [0, 1, 2, 3, 4, 5, 6, 7, 8, 9] [0, 0, 3, 7, 0, 0, 48, 112, 255, 511] [8] mixed (by decide +kernel) ?_))
  refine Dm v0_0.v rfl rfl rfl rfl ?_
  refine Dm (.int .i64 (k4 : Int)) rfl rfl rfl rfl ?_
  refine D_idx (a := x6) sl42 ty132.sz rfl .no (.tmp rfl rfl) (.tmp rfl rfl) rfl rfl .h (Int.natCast_nonneg k4) hx9 (fun k13 j14 => ?_)
  refine D_ldA2 (ul132_0_132 x6) ag132 ty132.sz rfl rfl .no (.tmp rfl rfl) rfl .h la132_0_132 (fun p15 => ?_)
  refine Dm v1_0.v rfl rfl rfl rfl ?_
  refine Dm (.int .i64 (k4 : Int)) rfl rfl rfl rfl ?_
  obtain ⟨x16, hx17, hF⟩ := bind_some hF
  obtain ⟨hp18, hx19⟩ := ix_some hx17
  refine D_idx (a := x16) sl42 ty132.sz rfl .no (.tmp rfl rfl) (.tmp rfl rfl) rfl rfl (.t (.t (.t (.t .h)))) hp18 hx19 (fun k20 j21 => ?_)
  refine D_ldA2 (ul132_0_132 x16) ag132 ty132.sz rfl rfl .no (.tmp rfl rfl) rfl .h la132_0_132 (fun p22 => ?_)
  obtain ⟨r23, hx24, hF⟩ := bind_some hF
  refine D_act0 rfl rfl .no (.rd (.t (.t (.t .h))) rfl (.rd (.t (.t (.t (.t .h)))) rfl (.rd .h rfl (.rd (.t .h) rfl .nil)))) .nil (fun ha => X_callS cf224 (.cons (EN ha (.tmp rfl rfl) rfl) (.cons (EN ha (.tmp rfl rfl) rfl) .nil)) (l_eqStored_ok x6 p15.1 p15.2 x16 p22.1 p22.2 _ hx24)) (fun _ => ?_)
  refine D_val rfl .no (fun ha => V_not (b := r23) (EN ha (.tmp rfl rfl) rfl)) ?_
  refine D_nil (CW_cond (b := (!r23)) (.tmp rfl rfl) (fun hb27 => ?_) (fun hb27 => ?_))
  · rw [if_pos hb27] at hF
    refine K_region (C_val (V_assign (v := (.bool false)) (.bool _)) ?_)
    refine C_nil (CW_ret ?_)
    obtain rfl := Option.some.inj hF
    exact End_ret () (.tmp rfl rfl .nil) rfl (.sel .nil)
  rw [if_neg (by rw [hb27]; exact Bool.false_ne_true)] at hF
  refine CW_skip (CW_region (Cm (.int .i64 (k4 : Int)) rfl rfl ?_))
  refine C_val (V_add (i := (k4 : Int)) (j := 1) (.tmp rfl rfl) (.int _ _)) ?_
  refine Ca (.int .i64 (IntKind.i64.wrap ((k4 : Int) + 1))) rfl rfl ?_
  refine C_nil ?_
  have hw26 : IntKind.i64.wrap ((k4 : Int) + 1) = ((k4 + 1 : Nat) : Int) := by rw [wrap_in (by omega) (by omega)]; rfl
  rw [hw26]
  exact ⟨_, Nat.lt_succ_self _, _, k4 + 1, rest5, rfl, (EqL.cons rfl (EqL.cons rfl (EqL.cons rfl (EqL.nil)))).eq, hd10, (.sel (.rd (.t (.t (.t (.t (.t (.t .h)))))) rfl (.rd (.t (.t (.t (.t (.t (.t (.t .h))))))) rfl .nil))), hF⟩

/-! laws.eqCache -/
def l_eqCache (a_a : Cache) (a_b : Cache) : Option (Bool) :=
  (l_eqStoredS a_a.Entries a_b.Entries).bind fun r3 =>
  if (!r3) then (
    some false)
  else (
    if ((a_a.Age : Int) != a_b.Age) then (
      some false)
    else (
      some true))
theorem l_eqCache_ok (a_a : Cache) (v0_0 : Sv) (a_b : Cache) (v1_0 : Sv) (R : Bool) (hF : l_eqCache a_a a_b = some R) :
    Fw.Spec Tryz.prog 89 [(.agg [v0_0.v, (.int .i64 a_a.Age)].toArray), (.agg [v1_0.v, (.int .i64 a_b.Age)].toArray)] [crd (RdS 132 rd132) v0_0.v a_a.Entries, crd (RdS 132 rd132) v1_0.v a_b.Entries] (fun _ : Unit => (.bool R)) (fun _ => []) := by
  refine Spec_enter (n := 16) Tryz.func89 rfl rfl (rs := [.tmp 4]) rfl rfl rfl ?_
  intro H0 F0
  unfold l_eqCache at hF
  refine K_region (C_newR rfl (N_box (g := false) (v := (.agg [v0_0.v, (.int .i64 a_a.Age)].toArray)) ty44.sz (.tmp rfl rfl) rfl) (fun k1 => ?_))
  refine C_newR rfl (N_box (g := false) (v := (.agg [v1_0.v, (.int .i64 a_b.Age)].toArray)) ty44.sz (.tmp rfl rfl) rfl) (fun k2 => ?_)
  refine C_val (V_assign (v := (.bool false)) (.bool _)) ?_
  refine C_nil (K_in (K_region (C_val (V_fieldAddr (off := 0) fd44_0 (.tmp rfl rfl)) ?_)))
  refine C_at (.t .h) (fun hp => V_load (v := v0_0.v) ag42 (.tmp rfl rfl) hp.2 rfl rfl) ?_
  refine C_val (V_fieldAddr (off := 0) fd44_0 (.tmp rfl rfl)) ?_
  refine C_at .h (fun hp => V_load (v := v1_0.v) ag42 (.tmp rfl rfl) hp.2 rfl rfl) ?_
  obtain ⟨r3, hx4, hF⟩ := bind_some hF
  refine C_x0 (.rd (.t (.t .h)) rfl (.rd (.t (.t (.t .h))) rfl .nil)) (X_callS cf160 (.cons (.tmp rfl rfl) (.cons (.tmp rfl rfl) .nil)) (l_eqStoredS_ok a_a.Entries v0_0 a_b.Entries v1_0 _ hx4)) (fun _ => ?_)
  refine C_val (V_not (b := r3) (.tmp rfl rfl)) ?_
  refine C_nil (CW_cond (b := (!r3)) (.tmp rfl rfl) (fun hb7 => ?_) (fun hb7 => ?_))
  · rw [if_pos hb7] at hF
    refine K_region (C_val (V_assign (v := (.bool false)) (.bool _)) ?_)
    refine C_nil (CW_ret ?_)
    obtain rfl := Option.some.inj hF
    exact End_ret () (.tmp rfl rfl .nil) rfl (.sel .nil)
  rw [if_neg (by rw [hb7]; exact Bool.false_ne_true)] at hF
  refine CW_skip (K_in (K_region (C_val (V_fieldAddr (off := 1) fd44_1 (.tmp rfl rfl)) ?_)))
  refine C_at (.t .h) (fun hp => V_load (v := (.int .i64 a_a.Age)) ag3 (.tmp rfl rfl) hp.2 rfl rfl) ?_
  refine C_val (V_fieldAddr (off := 1) fd44_1 (.tmp rfl rfl)) ?_
  refine C_at .h (fun hp => V_load (v := (.int .i64 a_b.Age)) ag3 (.tmp rfl rfl) hp.2 rfl rfl) ?_
  refine C_val (V_neq (i := a_a.Age) (j := a_b.Age) (.tmp rfl rfl) (.tmp rfl rfl)) ?_
  refine C_nil (CW_cond (b := ((a_a.Age : Int) != a_b.Age)) (.tmp rfl rfl) (fun hb6 => ?_) (fun hb6 => ?_))
  · rw [if_pos hb6] at hF
    refine K_region (C_val (V_assign (v := (.bool false)) (.bool _)) ?_)
    refine C_nil (CW_ret ?_)
    obtain rfl := Option.some.inj hF
    exact End_ret () (.tmp rfl rfl .nil) rfl (.sel .nil)
  rw [if_neg (by rw [hb6]; exact Bool.false_ne_true)] at hF
  refine CW_skip (K_region (C_val (V_assign (v := (.bool true)) (.bool _)) ?_))
  refine C_nil (CW_ret ?_)
  obtain rfl := Option.some.inj hF
  exact End_ret () (.tmp rfl rfl .nil) rfl (.sel .nil)

/-! laws.eqIntSS -/
def l_eqIntSS_L1 (a_b : List (List Int)) : List (List Int) → Nat → Option (Bool)
  | [], k4 => some true
  | x6 :: rest5, k4 => (ix a_b (k4 : Int)).bind fun x16 =>
    (l_eqIntS x6 x16).bind fun r23 =>
    if (!r23) then (
      some false)
    else (
      l_eqIntSS_L1 a_b rest5 (k4 + 1))
def l_eqIntSS (a_a : List (List Int)) (a_b : List (List Int)) : Option (Bool) :=
  if (((a_a.length : Int) : Int) != (a_b.length : Int)) then (
    some false)
  else (
    l_eqIntSS_L1 a_b a_a 0)
theorem l_eqIntSS_ok (a_a : List (List Int)) (v0_0 : Sv) (a_b : List (List Int)) (v1_0 : Sv) (R : Bool) (hF : l_eqIntSS a_a a_b = some R) :
    Fw.Spec Tryz.prog 22 [v0_0.v, v1_0.v] [crd (RdS 22 (RdS 3 rdInt)) v0_0.v a_a, crd (RdS 22 (RdS 3 rdInt)) v1_0.v a_b] (fun _ : Unit => (.bool R)) (fun _ => []) := by
  refine Spec_enter (n := 27) Tryz.func22 rfl rfl (rs := [.tmp 4]) rfl rfl rfl ?_
  intro H0 F0
  unfold l_eqIntSS at hF
  refine K_region (C_val (V_assign (v := (.bool false)) (.bool _)) ?_)
  refine C_nil (K_in (K_region (Cm v0_0.v rfl rfl ?_)))
  refine C_at .h (fun hp => V_lenR (l := a_a.length) sl51 (.tmp rfl rfl) (crd_len hp)) ?_
  refine Cm v1_0.v rfl rfl ?_
  refine C_at (.t .h) (fun hp => V_lenR (l := a_b.length) sl51 (.tmp rfl rfl) (crd_len hp)) ?_
  refine C_val (V_neq (i := (a_a.length : Int)) (j := (a_b.length : Int)) (.tmp rfl rfl) (.tmp rfl rfl)) ?_
  refine C_nil (CW_cond (b := (((a_a.length : Int) : Int) != (a_b.length : Int))) (.tmp rfl rfl) (fun hb28 => ?_) (fun hb28 => ?_))
  · rw [if_pos hb28] at hF
    refine K_region (C_val (V_assign (v := (.bool false)) (.bool _)) ?_)
    refine C_nil (CW_ret ?_)
    obtain rfl := Option.some.inj hF
    exact End_ret () (.tmp rfl rfl .nil) rfl (.sel .nil)
  rw [if_neg (by rw [hb28]; exact Bool.false_ne_true)] at hF
  refine CW_skip (K_in (K_region (C_val (V_assign (v := (.int .i64 0)) (.int _ _)) ?_)))
  refine C_nil (CW_block (CW_loop (m := a_a.length) (fun m2 f' cs' => ∃ (g : Fr) (k4 : Nat) (rest5 : List (List Int)), m2 = rest5.length ∧ f' = updL g [(0, v0_0.v), (1, v1_0.v), (5, (.int .i64 (k4 : Int)))] ∧ List.drop k4 a_a = rest5 ∧ Ent cs' [crd (RdS 22 (RdS 3 rdInt)) v0_0.v a_a, crd (RdS 22 (RdS 3 rdInt)) v1_0.v a_b] ∧ l_eqIntSS_L1 a_b rest5 k4 = some R) ⟨_, 0, _, rfl, (EqL.cons rfl (EqL.cons rfl (EqL.cons rfl (EqL.nil)))).eq, rfl, (.sel (.rd .h rfl (.rd (.t .h) rfl .nil))), hF⟩ ?_))
  clear hF
  rintro m2 _ _ ⟨g3, k4, rest5, rfl, rfl, hd7, hE, hF⟩
  refine K_ent hE ?_
  clear hE
  refine K_pure (c := crd (RdS 22 (RdS 3 rdInt)) v0_0.v a_a) .h crd_bound (fun hbd12 => ?_)
  rcases rest5 with _ | ⟨x6, rest5⟩
  · have hk8 := List.drop_eq_nil_iff.1 hd7
    have hfe11 : (decide (((k4 : Int) : Int) < (a_a.length : Int))) = false := decide_eq_false (by omega)
    rw [l_eqIntSS_L1] at hF
    refine K_in (K_region (Cm (.int .i64 (k4 : Int)) rfl rfl ?_))
    refine Cm v0_0.v rfl rfl ?_
    refine C_at .h (fun hp => V_lenR (l := a_a.length) sl51 (.tmp rfl rfl) (crd_len hp)) ?_
    refine C_val (V_lss (i := (k4 : Int)) (j := (a_a.length : Int)) (.tmp rfl rfl) (.tmp rfl rfl)) ?_
    refine C_nil (CW_cond (b := (decide (((k4 : Int) : Int) < (a_a.length : Int)))) (.tmp rfl rfl) (fun hb => absurd (hfe11.symm.trans hb) (by decide)) (fun _ => ?_))
    refine CW_exit ?_
    iterate 2 refine CThen_exit ?_
    refine CIn_self (K_region (C_val (V_assign (v := (.bool true)) (.bool _)) ?_))
    refine C_nil (CW_ret ?_)
    obtain rfl := Option.some.inj hF
    exact End_ret () (.tmp rfl rfl .nil) rfl (.sel .nil)
  obtain ⟨hk8, hx9, hd10⟩ := drop_cons hd7
  have hfe11 : (decide (((k4 : Int) : Int) < (a_a.length : Int))) = true := decide_eq_true (by omega)
  rw [l_eqIntSS_L1] at hF
  refine K_in (K_region (Cm (.int .i64 (k4 : Int)) rfl rfl ?_))
  refine Cm v0_0.v rfl rfl ?_
  refine C_at .h (fun hp => V_lenR (l := a_a.length) sl51 (.tmp rfl rfl) (crd_len hp)) ?_
  refine C_val (V_lss (i := (k4 : Int)) (j := (a_a.length : Int)) (.tmp rfl rfl) (.tmp rfl rfl)) ?_
  refine C_nil (CW_cond (b := (decide (((k4 : Int) : Int) < (a_a.length : Int)))) (.tmp rfl rfl) (fun _ => ?_) (fun hb => absurd (hfe11.symm.trans hb) (by decide)))
  refine CW_skip (K_block (K_draw [0, 1, 2, 3, 4, 5, 6, 7, 8, 9] [0, 0, 3, 7, 0, 0, 48, 112, 255, 511] [8] mixed (by decide +kernel) ?_))
  refine Dm v0_0.v rfl rfl rfl rfl ?_
  refine Dm (.int .i64 (k4 : Int)) rfl rfl rfl rfl ?_
  refine D_idx (a := x6) sl51 ty22.sz rfl .no (.tmp rfl rfl) (.tmp rfl rfl) rfl rfl .h (Int.natCast_nonneg k4) hx9 (fun k13 j14 => ?_)
  refine D_ldV (R' := (RdS 3 rdInt)) ag22 rfl .no (.tmp rfl rfl) rfl .h lv22_0 (fun w15 => ?_)
  refine Dm v1_0.v rfl rfl rfl rfl ?_
  refine Dm (.int .i64 (k4 : Int)) rfl rfl rfl rfl ?_
  obtain ⟨x16, hx17, hF⟩ := bind_some hF
  obtain ⟨hp18, hx19⟩ := ix_some hx17
  refine D_idx (a := x16) sl51 ty22.sz rfl .no (.tmp rfl rfl) (.tmp rfl rfl) rfl rfl (.t (.t (.t .h))) hp18 hx19 (fun k20 j21 => ?_)
  refine D_ldV (R' := (RdS 3 rdInt)) ag22 rfl .no (.tmp rfl rfl) rfl .h lv22_0 (fun w22 => ?_)
  obtain ⟨r23, hx24, hF⟩ := bind_some hF
  refine D_act0 rfl rfl .no (.rd (.t (.t .h)) rfl (.rd .h rfl .nil)) .nil (fun ha => X_callS cf46 (.cons (EN ha (.tmp rfl rfl) rfl) (.cons (EN ha (.tmp rfl rfl) rfl) .nil)) (l_eqIntS_ok x6 w15 x16 w22 _ hx24)) (fun _ => ?_)
  refine D_val rfl .no (fun ha => V_not (b := r23) (EN ha (.tmp rfl rfl) rfl)) ?_
  refine D_nil (CW_cond (b := (!r23)) (.tmp rfl rfl) (fun hb27 => ?_) (fun hb27 => ?_))
  · rw [if_pos hb27] at hF
    refine K_region (C_val (V_assign (v := (.bool false)) (.bool _)) ?_)
    refine C_nil (CW_ret ?_)
    obtain rfl := Option.some.inj hF
    exact End_ret () (.tmp rfl rfl .nil) rfl (.sel .nil)
  rw [if_neg (by rw [hb27]; exact Bool.false_ne_true)] at hF
  refine CW_skip (CW_region (Cm (.int .i64 (k4 : Int)) rfl rfl ?_))
  refine C_val (V_add (i := (k4 : Int)) (j := 1) (.tmp rfl rfl) (.int _ _)) ?_
  refine Ca (.int .i64 (IntKind.i64.wrap ((k4 : Int) + 1))) rfl rfl ?_
  refine C_nil ?_
  have hw26 : IntKind.i64.wrap ((k4 : Int) + 1) = ((k4 + 1 : Nat) : Int) := by rw [wrap_in (by omega) (by omega)]; rfl
  rw [hw26]
  exact ⟨_, Nat.lt_succ_self _, _, k4 + 1, rest5, rfl, (EqL.cons rfl (EqL.cons rfl (EqL.cons rfl (EqL.nil)))).eq, hd10, (.sel (.rd (.t (.t (.t (.t .h)))) rfl (.rd (.t (.t (.t (.t (.t .h))))) rfl .nil))), hF⟩

/-! laws.eqIntSSS -/
def l_eqIntSSS_L1 (a_b : List (List (List Int))) : List (List (List Int)) → Nat → Option (Bool)
  | [], k4 => some true
  | x6 :: rest5, k4 => (ix a_b (k4 : Int)).bind fun x16 =>
    (l_eqIntSS x6 x16).bind fun r23 =>
    if (!r23) then (
      some false)
    else (
      l_eqIntSSS_L1 a_b rest5 (k4 + 1))
def l_eqIntSSS (a_a : List (List (List Int))) (a_b : List (List (List Int))) : Option (Bool) :=
  if (((a_a.length : Int) : Int) != (a_b.length : Int)) then (
    some false)
  else (
    l_eqIntSSS_L1 a_b a_a 0)
theorem l_eqIntSSS_ok (a_a : List (List (List Int))) (v0_0 : Sv) (a_b : List (List (List Int))) (v1_0 : Sv) (R : Bool) (hF : l_eqIntSSS a_a a_b = some R) :
    Fw.Spec Tryz.prog 90 [v0_0.v, v1_0.v] [crd (RdS 51 (RdS 22 (RdS 3 rdInt))) v0_0.v a_a, crd (RdS 51 (RdS 22 (RdS 3 rdInt))) v1_0.v a_b] (fun _ : Unit => (.bool R)) (fun _ => []) := by
  refine Spec_enter (n := 27) Tryz.func90 rfl rfl (rs := [.tmp 4]) rfl rfl rfl ?_
  intro H0 F0
  unfold l_eqIntSSS at hF
  refine K_region (C_val (V_assign (v := (.bool false)) (.bool _)) ?_)
  refine C_nil (K_in (K_region (Cm v0_0.v rfl rfl ?_)))
  refine C_at .h (fun hp => V_lenR (l := a_a.length) sl32 (.tmp rfl rfl) (crd_len hp)) ?_
  refine Cm v1_0.v rfl rfl ?_
  refine C_at (.t .h) (fun hp => V_lenR (l := a_b.length) sl32 (.tmp rfl rfl) (crd_len hp)) ?_
  refine C_val (V_neq (i := (a_a.length : Int)) (j := (a_b.length : Int)) (.tmp rfl rfl) (.tmp rfl rfl)) ?_
  refine C_nil (CW_cond (b := (((a_a.length : Int) : Int) != (a_b.length : Int))) (.tmp rfl rfl) (fun hb28 => ?_) (fun hb28 => ?_))
  · rw [if_pos hb28] at hF
    refine K_region (C_val (V_assign (v := (.bool false)) (.bool _)) ?_)
    refine C_nil (CW_ret ?_)
    obtain rfl := Option.some.inj hF
    exact End_ret () (.tmp rfl rfl .nil) rfl (.sel .nil)
  rw [if_neg (by rw [hb28]; exact Bool.false_ne_true)] at hF
  refine CW_skip (K_in (K_region (C_val (V_assign (v := (.int .i64 0)) (.int _ _)) ?_)))
  refine C_nil (CW_block (CW_loop (m := a_a.length) (fun m2 f' cs' => ∃ (g : Fr) (k4 : Nat) (rest5 : List (List (List Int))), m2 = rest5.length ∧ f' = updL g [(0, v0_0.v), (1, v1_0.v), (5, (.int .i64 (k4 : Int)))] ∧ List.drop k4 a_a = rest5 ∧ Ent cs' [crd (RdS 51 (RdS 22 (RdS 3 rdInt))) v0_0.v a_a, crd (RdS 51 (RdS 22 (RdS 3 rdInt))) v1_0.v a_b] ∧ l_eqIntSSS_L1 a_b rest5 k4 = some R) ⟨_, 0, _, rfl, (EqL.cons rfl (EqL.cons rfl (EqL.cons rfl (EqL.nil)))).eq, rfl, (.sel (.rd .h rfl (.rd (.t .h) rfl .nil))), hF⟩ ?_))
  clear hF
  rintro m2 _ _ ⟨g3, k4, rest5, rfl, rfl, hd7, hE, hF⟩
  refine K_ent hE ?_
  clear hE
  refine K_pure (c := crd (RdS 51 (RdS 22 (RdS 3 rdInt))) v0_0.v a_a) .h crd_bound (fun hbd12 => ?_)
  rcases rest5 with _ | ⟨x6, rest5⟩
  · have hk8 := List.drop_eq_nil_iff.1 hd7
    have hfe11 : (decide (((k4 : Int) : Int) < (a_a.length : Int))) = false := decide_eq_false (by omega)
    rw [l_eqIntSSS_L1] at hF
    refine K_in (K_region (Cm (.int .i64 (k4 : Int)) rfl rfl ?_))
    refine Cm v0_0.v rfl rfl ?_
    refine C_at .h (fun hp => V_lenR (l := a_a.length) sl32 (.tmp rfl rfl) (crd_len hp)) ?_
    refine C_val (V_lss (i := (k4 : Int)) (j := (a_a.length : Int)) (.tmp rfl rfl) (.tmp rfl rfl)) ?_
    refine C_nil (CW_cond (b := (decide (((k4 : Int) : Int) < (a_a.length : Int)))) (.tmp rfl rfl) (fun hb => absurd (hfe11.symm.trans hb) (by decide)) (fun _ => ?_))
    refine CW_exit ?_
    iterate 2 refine CThen_exit ?_
    refine CIn_self (K_region (C_val (V_assign (v := (.bool true)) (.bool _)) ?_))
    refine C_nil (CW_ret ?_)
    obtain rfl := Option.some.inj hF
    exact End_ret () (.tmp rfl rfl .nil) rfl (.sel .nil)
  obtain ⟨hk8, hx9, hd10⟩ := drop_cons hd7
  have hfe11 : (decide (((k4 : Int) : Int) < (a_a.length : Int))) = true := decide_eq_true (by omega)
  rw [l_eqIntSSS_L1] at hF
  refine K_in (K_region (Cm (.int .i64 (k4 : Int)) rfl rfl ?_))
  refine Cm v0_0.v rfl rfl ?_
  refine C_at .h (fun hp => V_lenR (l := a_a.length) sl32 (.tmp rfl rfl) (crd_len hp)) ?_
  refine C_val (V_lss (i := (k4 : Int)) (j := (a_a.length : Int)) (.tmp rfl rfl) (.tmp rfl rfl)) ?_
  refine C_nil (CW_cond (b := (decide (((k4 : Int) : Int) < (a_a.length : Int)))) (.tmp rfl rfl) (fun _ => ?_) (fun hb => absurd (hfe11.symm.trans hb) (by decide)))
  refine CW_skip (K_block (K_draw [0, 1, 2, 3, 4, 5, 6, 7, 8, 9] [0, 0, 3, 7, 0, 0, 48, 112, 255, 511] [8] mixed (by decide +kernel) ?_))
  refine Dm v0_0.v rfl rfl rfl rfl ?_
  refine Dm (.int .i64 (k4 : Int)) rfl rfl rfl rfl ?_
  refine D_idx (a := x6) sl32 ty51.sz rfl .no (.tmp rfl rfl) (.tmp rfl rfl) rfl rfl .h (Int.natCast_nonneg k4) hx9 (fun k13 j14 => ?_)
  refine D_ldV (R' := (RdS 22 (RdS 3 rdInt))) ag51 rfl .no (.tmp rfl rfl) rfl .h lv51_0 (fun w15 => ?_)
  refine Dm v1_0.v rfl rfl rfl rfl ?_
  refine Dm (.int .i64 (k4 : Int)) rfl rfl rfl rfl ?_
  obtain ⟨x16, hx17, hF⟩ := bind_some hF
  obtain ⟨hp18, hx19⟩ := ix_some hx17
  refine D_idx (a := x16) sl32 ty51.sz rfl .no (.tmp rfl rfl) (.tmp rfl rfl) rfl rfl (.t (.t (.t .h))) hp18 hx19 (fun k20 j21 => ?_)
  refine D_ldV (R' := (RdS 22 (RdS 3 rdInt))) ag51 rfl .no (.tmp rfl rfl) rfl .h lv51_0 (fun w22 => ?_)
  obtain ⟨r23, hx24, hF⟩ := bind_some hF
  refine D_act0 rfl rfl .no (.rd (.t (.t .h)) rfl (.rd .h rfl .nil)) .nil (fun ha => X_callS cf22 (.cons (EN ha (.tmp rfl rfl) rfl) (.cons (EN ha (.tmp rfl rfl) rfl) .nil)) (l_eqIntSS_ok x6 w15 x16 w22 _ hx24)) (fun _ => ?_)
  refine D_val rfl .no (fun ha => V_not (b := r23) (EN ha (.tmp rfl rfl) rfl)) ?_
  refine D_nil (CW_cond (b := (!r23)) (.tmp rfl rfl) (fun hb27 => ?_) (fun hb27 => ?_))
  · rw [if_pos hb27] at hF
    refine K_region (C_val (V_assign (v := (.bool false)) (.bool _)) ?_)
    refine C_nil (CW_ret ?_)
    obtain rfl := Option.some.inj hF
    exact End_ret () (.tmp rfl rfl .nil) rfl (.sel .nil)
  rw [if_neg (by rw [hb27]; exact Bool.false_ne_true)] at hF
  refine CW_skip (CW_region (Cm (.int .i64 (k4 : Int)) rfl rfl ?_))
  refine C_val (V_add (i := (k4 : Int)) (j := 1) (.tmp rfl rfl) (.int _ _)) ?_
  refine Ca (.int .i64 (IntKind.i64.wrap ((k4 : Int) + 1))) rfl rfl ?_
  refine C_nil ?_
  have hw26 : IntKind.i64.wrap ((k4 : Int) + 1) = ((k4 + 1 : Nat) : Int) := by rw [wrap_in (by omega) (by omega)]; rfl
  rw [hw26]
  exact ⟨_, Nat.lt_succ_self _, _, k4 + 1, rest5, rfl, (EqL.cons rfl (EqL.cons rfl (EqL.cons rfl (EqL.nil)))).eq, hd10, (.sel (.rd (.t (.t (.t (.t .h)))) rfl (.rd (.t (.t (.t (.t (.t .h))))) rfl .nil))), hF⟩

/-! laws.eqMediator -/
def l_eqMediator (a_a : Mediator) (a_b : Mediator) : Option (Bool) :=
  (l_eqIntS a_a.Schema a_b.Schema).bind fun r3 =>
  if (!r3) then (
    some false)
  else (
    (l_eqMethodS a_a.Methods a_b.Methods).bind fun r6 =>
    if (!r6) then (
      some false)
    else (
      (l_eqRuleS a_a.Rules a_b.Rules).bind fun r9 =>
      if (!r9) then (
        some false)
      else (
        (l_eqSource a_a.Source a_b.Source).bind fun r12 =>
        if (!r12) then (
          some false)
        else (
          (l_eqCache a_a.Cache a_b.Cache).bind fun r15 =>
          if (!r15) then (
            some false)
          else (
            if ((a_a.Now : Int) != a_b.Now) then (
              some false)
            else (
              (l_eqAccessS a_a.Log a_b.Log).bind fun r18 =>
              if (!r18) then (
                some false)
              else (
                (l_eqIntS a_a.Times a_b.Times).bind fun r21 =>
                if (!r21) then (
                  some false)
                else (
                  if ((a_a.Spent : Int) != a_b.Spent) then (
                    some false)
                  else (
                    (l_eqIntSSS a_a.Results a_b.Results).bind fun r24 =>
                    if (!r24) then (
                      some false)
                    else (
                      some true))))))))))
theorem l_eqMediator_ok (a_a : Mediator) (v0_0 : Sv) (v0_1 : Sv) (v0_2 : Sv) (v0_3 : Sv) (v0_5 : Sv) (v0_8 : Sv) (v0_9 : Sv) (v0_11 : Sv) (a_b : Mediator) (v1_0 : Sv) (v1_1 : Sv) (v1_2 : Sv) (v1_3 : Sv) (v1_5 : Sv) (v1_8 : Sv) (v1_9 : Sv) (v1_11 : Sv) (R : Bool) (hF : l_eqMediator a_a a_b = some R) :
    Fw.Spec Tryz.prog 17 [(.agg [v0_0.v, v0_1.v, v0_2.v, v0_3.v, (.int .i64 a_a.Source.Version), v0_5.v, (.int .i64 a_a.Cache.Age), (.int .i64 a_a.Now), v0_8.v, v0_9.v, (.int .i64 a_a.Spent), v0_11.v].toArray), (.agg [v1_0.v, v1_1.v, v1_2.v, v1_3.v, (.int .i64 a_b.Source.Version), v1_5.v, (.int .i64 a_b.Cache.Age), (.int .i64 a_b.Now), v1_8.v, v1_9.v, (.int .i64 a_b.Spent), v1_11.v].toArray)] [crd (RdS 3 rdInt) v0_0.v a_a.Schema, crd (RdS 100 rd100) v0_1.v a_a.Methods, crd (RdS 91 rd91) v0_2.v a_a.Rules, crd (RdS 75 rd75) v0_3.v a_a.Source.Facts, crd (RdS 132 rd132) v0_5.v a_a.Cache.Entries, crd (RdS 69 rd69) v0_8.v a_a.Log, crd (RdS 3 rdInt) v0_9.v a_a.Times, crd (RdS 51 (RdS 22 (RdS 3 rdInt))) v0_11.v a_a.Results, crd (RdS 3 rdInt) v1_0.v a_b.Schema, crd (RdS 100 rd100) v1_1.v a_b.Methods, crd (RdS 91 rd91) v1_2.v a_b.Rules, crd (RdS 75 rd75) v1_3.v a_b.Source.Facts, crd (RdS 132 rd132) v1_5.v a_b.Cache.Entries, crd (RdS 69 rd69) v1_8.v a_b.Log, crd (RdS 3 rdInt) v1_9.v a_b.Times, crd (RdS 51 (RdS 22 (RdS 3 rdInt))) v1_11.v a_b.Results] (fun _ : Unit => (.bool R)) (fun _ => []) := by
  refine Spec_enter (n := 63) Tryz.func17 rfl rfl (rs := [.tmp 4]) rfl rfl rfl ?_
  intro H0 F0
  unfold l_eqMediator at hF
  refine K_region (C_newR rfl (N_box (g := false) (v := (.agg [v0_0.v, v0_1.v, v0_2.v, v0_3.v, (.int .i64 a_a.Source.Version), v0_5.v, (.int .i64 a_a.Cache.Age), (.int .i64 a_a.Now), v0_8.v, v0_9.v, (.int .i64 a_a.Spent), v0_11.v].toArray)) ty47.sz (.tmp rfl rfl) rfl) (fun k1 => ?_))
  refine C_newR rfl (N_box (g := false) (v := (.agg [v1_0.v, v1_1.v, v1_2.v, v1_3.v, (.int .i64 a_b.Source.Version), v1_5.v, (.int .i64 a_b.Cache.Age), (.int .i64 a_b.Now), v1_8.v, v1_9.v, (.int .i64 a_b.Spent), v1_11.v].toArray)) ty47.sz (.tmp rfl rfl) rfl) (fun k2 => ?_)
  refine C_val (V_assign (v := (.bool false)) (.bool _)) ?_
  refine C_nil (K_in (K_region (C_val (V_fieldAddr (off := 0) fd47_0 (.tmp rfl rfl)) ?_)))
  refine C_at (.t .h) (fun hp => V_load (v := v0_0.v) ag22 (.tmp rfl rfl) hp.2 rfl rfl) ?_
  refine C_val (V_fieldAddr (off := 0) fd47_0 (.tmp rfl rfl)) ?_
  refine C_at .h (fun hp => V_load (v := v1_0.v) ag22 (.tmp rfl rfl) hp.2 rfl rfl) ?_
  obtain ⟨r3, hx4, hF⟩ := bind_some hF
  refine C_x0 (.rd (.t (.t .h)) rfl (.rd (.t (.t (.t (.t (.t (.t (.t (.t (.t (.t .h)))))))))) rfl .nil)) (X_callS cf46 (.cons (.tmp rfl rfl) (.cons (.tmp rfl rfl) .nil)) (l_eqIntS_ok a_a.Schema v0_0 a_b.Schema v1_0 _ hx4)) (fun _ => ?_)
  refine C_val (V_not (b := r3) (.tmp rfl rfl)) ?_
  refine C_nil (CW_cond (b := (!r3)) (.tmp rfl rfl) (fun hb36 => ?_) (fun hb36 => ?_))
  · rw [if_pos hb36] at hF
    refine K_region (C_val (V_assign (v := (.bool false)) (.bool _)) ?_)
    refine C_nil (CW_ret ?_)
    obtain rfl := Option.some.inj hF
    exact End_ret () (.tmp rfl rfl .nil) rfl (.sel .nil)
  rw [if_neg (by rw [hb36]; exact Bool.false_ne_true)] at hF
  refine CW_skip (K_in (K_region (C_val (V_fieldAddr (off := 1) fd47_1 (.tmp rfl rfl)) ?_)))
  refine C_at (.t .h) (fun hp => V_load (v := v0_1.v) ag37 (.tmp rfl rfl) hp.2 rfl rfl) ?_
  refine C_val (V_fieldAddr (off := 1) fd47_1 (.tmp rfl rfl)) ?_
  refine C_at .h (fun hp => V_load (v := v1_1.v) ag37 (.tmp rfl rfl) hp.2 rfl rfl) ?_
  obtain ⟨r6, hx7, hF⟩ := bind_some hF
  refine C_x0 (.rd (.t (.t (.t .h))) rfl (.rd (.t (.t (.t (.t (.t (.t (.t (.t (.t (.t (.t .h))))))))))) rfl .nil)) (X_callS cf47 (.cons (.tmp rfl rfl) (.cons (.tmp rfl rfl) .nil)) (l_eqMethodS_ok a_a.Methods v0_1 a_b.Methods v1_1 _ hx7)) (fun _ => ?_)
  refine C_val (V_not (b := r6) (.tmp rfl rfl)) ?_
  refine C_nil (CW_cond (b := (!r6)) (.tmp rfl rfl) (fun hb35 => ?_) (fun hb35 => ?_))
  · rw [if_pos hb35] at hF
    refine K_region (C_val (V_assign (v := (.bool false)) (.bool _)) ?_)
    refine C_nil (CW_ret ?_)
    obtain rfl := Option.some.inj hF
    exact End_ret () (.tmp rfl rfl .nil) rfl (.sel .nil)
  rw [if_neg (by rw [hb35]; exact Bool.false_ne_true)] at hF
  refine CW_skip (K_in (K_region (C_val (V_fieldAddr (off := 2) fd47_2 (.tmp rfl rfl)) ?_)))
  refine C_at (.t .h) (fun hp => V_load (v := v0_2.v) ag38 (.tmp rfl rfl) hp.2 rfl rfl) ?_
  refine C_val (V_fieldAddr (off := 2) fd47_2 (.tmp rfl rfl)) ?_
  refine C_at .h (fun hp => V_load (v := v1_2.v) ag38 (.tmp rfl rfl) hp.2 rfl rfl) ?_
  obtain ⟨r9, hx10, hF⟩ := bind_some hF
  refine C_x0 (.rd (.t (.t (.t (.t .h)))) rfl (.rd (.t (.t (.t (.t (.t (.t (.t (.t (.t (.t (.t (.t .h)))))))))))) rfl .nil)) (X_callS cf87 (.cons (.tmp rfl rfl) (.cons (.tmp rfl rfl) .nil)) (l_eqRuleS_ok a_a.Rules v0_2 a_b.Rules v1_2 _ hx10)) (fun _ => ?_)
  refine C_val (V_not (b := r9) (.tmp rfl rfl)) ?_
  refine C_nil (CW_cond (b := (!r9)) (.tmp rfl rfl) (fun hb34 => ?_) (fun hb34 => ?_))
  · rw [if_pos hb34] at hF
    refine K_region (C_val (V_assign (v := (.bool false)) (.bool _)) ?_)
    refine C_nil (CW_ret ?_)
    obtain rfl := Option.some.inj hF
    exact End_ret () (.tmp rfl rfl .nil) rfl (.sel .nil)
  rw [if_neg (by rw [hb34]; exact Bool.false_ne_true)] at hF
  refine CW_skip (K_in (K_region (C_val (V_fieldAddr (off := 3) fd47_3 (.tmp rfl rfl)) ?_)))
  refine C_at (.t .h) (fun hp => V_loadA (s := 2) (l := [v0_3.v, (.int .i64 a_a.Source.Version)]) ag41 ty41.sz (.tmp rfl rfl) hp.2 rfl (by decide) (Nat.le_of_ble_eq_true rfl) rfl) ?_
  refine C_val (V_fieldAddr (off := 3) fd47_3 (.tmp rfl rfl)) ?_
  refine C_at .h (fun hp => V_loadA (s := 2) (l := [v1_3.v, (.int .i64 a_b.Source.Version)]) ag41 ty41.sz (.tmp rfl rfl) hp.2 rfl (by decide) (Nat.le_of_ble_eq_true rfl) rfl) ?_
  obtain ⟨r12, hx13, hF⟩ := bind_some hF
  refine C_x0 (.rd (.t (.t (.t (.t (.t .h))))) rfl (.rd (.t (.t (.t (.t (.t (.t (.t (.t (.t (.t (.t (.t (.t .h))))))))))))) rfl .nil)) (X_callS cf88 (.cons (.tmp rfl rfl) (.cons (.tmp rfl rfl) .nil)) (l_eqSource_ok a_a.Source v0_3 a_b.Source v1_3 _ hx13)) (fun _ => ?_)
  refine C_val (V_not (b := r12) (.tmp rfl rfl)) ?_
  refine C_nil (CW_cond (b := (!r12)) (.tmp rfl rfl) (fun hb33 => ?_) (fun hb33 => ?_))
  · rw [if_pos hb33] at hF
    refine K_region (C_val (V_assign (v := (.bool false)) (.bool _)) ?_)
    refine C_nil (CW_ret ?_)
    obtain rfl := Option.some.inj hF
    exact End_ret () (.tmp rfl rfl .nil) rfl (.sel .nil)
  rw [if_neg (by rw [hb33]; exact Bool.false_ne_true)] at hF
  refine CW_skip (K_in (K_region (C_val (V_fieldAddr (off := 5) fd47_4 (.tmp rfl rfl)) ?_)))
  refine C_at (.t .h) (fun hp => V_loadA (s := 2) (l := [v0_5.v, (.int .i64 a_a.Cache.Age)]) ag44 ty44.sz (.tmp rfl rfl) hp.2 rfl (by decide) (Nat.le_of_ble_eq_true rfl) rfl) ?_
  refine C_val (V_fieldAddr (off := 5) fd47_4 (.tmp rfl rfl)) ?_
  refine C_at .h (fun hp => V_loadA (s := 2) (l := [v1_5.v, (.int .i64 a_b.Cache.Age)]) ag44 ty44.sz (.tmp rfl rfl) hp.2 rfl (by decide) (Nat.le_of_ble_eq_true rfl) rfl) ?_
  obtain ⟨r15, hx16, hF⟩ := bind_some hF
  refine C_x0 (.rd (.t (.t (.t (.t (.t (.t .h)))))) rfl (.rd (.t (.t (.t (.t (.t (.t (.t (.t (.t (.t (.t (.t (.t (.t .h)))))))))))))) rfl .nil)) (X_callS cf89 (.cons (.tmp rfl rfl) (.cons (.tmp rfl rfl) .nil)) (l_eqCache_ok a_a.Cache v0_5 a_b.Cache v1_5 _ hx16)) (fun _ => ?_)
  refine C_val (V_not (b := r15) (.tmp rfl rfl)) ?_
  refine C_nil (CW_cond (b := (!r15)) (.tmp rfl rfl) (fun hb32 => ?_) (fun hb32 => ?_))
  · rw [if_pos hb32] at hF
    refine K_region (C_val (V_assign (v := (.bool false)) (.bool _)) ?_)
    refine C_nil (CW_ret ?_)
    obtain rfl := Option.some.inj hF
    exact End_ret () (.tmp rfl rfl .nil) rfl (.sel .nil)
  rw [if_neg (by rw [hb32]; exact Bool.false_ne_true)] at hF
  refine CW_skip (K_in (K_region (C_val (V_fieldAddr (off := 7) fd47_5 (.tmp rfl rfl)) ?_)))
  refine C_at (.t .h) (fun hp => V_load (v := (.int .i64 a_a.Now)) ag3 (.tmp rfl rfl) hp.2 rfl rfl) ?_
  refine C_val (V_fieldAddr (off := 7) fd47_5 (.tmp rfl rfl)) ?_
  refine C_at .h (fun hp => V_load (v := (.int .i64 a_b.Now)) ag3 (.tmp rfl rfl) hp.2 rfl rfl) ?_
  refine C_val (V_neq (i := a_a.Now) (j := a_b.Now) (.tmp rfl rfl) (.tmp rfl rfl)) ?_
  refine C_nil (CW_cond (b := ((a_a.Now : Int) != a_b.Now)) (.tmp rfl rfl) (fun hb31 => ?_) (fun hb31 => ?_))
  · rw [if_pos hb31] at hF
    refine K_region (C_val (V_assign (v := (.bool false)) (.bool _)) ?_)
    refine C_nil (CW_ret ?_)
    obtain rfl := Option.some.inj hF
    exact End_ret () (.tmp rfl rfl .nil) rfl (.sel .nil)
  rw [if_neg (by rw [hb31]; exact Bool.false_ne_true)] at hF
  refine CW_skip (K_in (K_region (C_val (V_fieldAddr (off := 8) fd47_6 (.tmp rfl rfl)) ?_)))
  refine C_at (.t .h) (fun hp => V_load (v := v0_8.v) ag45 (.tmp rfl rfl) hp.2 rfl rfl) ?_
  refine C_val (V_fieldAddr (off := 8) fd47_6 (.tmp rfl rfl)) ?_
  refine C_at .h (fun hp => V_load (v := v1_8.v) ag45 (.tmp rfl rfl) hp.2 rfl rfl) ?_
  obtain ⟨r18, hx19, hF⟩ := bind_some hF
  refine C_x0 (.rd (.t (.t (.t (.t (.t (.t (.t .h))))))) rfl (.rd (.t (.t (.t (.t (.t (.t (.t (.t (.t (.t (.t (.t (.t (.t (.t .h))))))))))))))) rfl .nil)) (X_callS cf28 (.cons (.tmp rfl rfl) (.cons (.tmp rfl rfl) .nil)) (l_eqAccessS_ok a_a.Log v0_8 a_b.Log v1_8 _ hx19)) (fun _ => ?_)
  refine C_val (V_not (b := r18) (.tmp rfl rfl)) ?_
  refine C_nil (CW_cond (b := (!r18)) (.tmp rfl rfl) (fun hb30 => ?_) (fun hb30 => ?_))
  · rw [if_pos hb30] at hF
    refine K_region (C_val (V_assign (v := (.bool false)) (.bool _)) ?_)
    refine C_nil (CW_ret ?_)
    obtain rfl := Option.some.inj hF
    exact End_ret () (.tmp rfl rfl .nil) rfl (.sel .nil)
  rw [if_neg (by rw [hb30]; exact Bool.false_ne_true)] at hF
  refine CW_skip (K_in (K_region (C_val (V_fieldAddr (off := 9) fd47_7 (.tmp rfl rfl)) ?_)))
  refine C_at (.t .h) (fun hp => V_load (v := v0_9.v) ag22 (.tmp rfl rfl) hp.2 rfl rfl) ?_
  refine C_val (V_fieldAddr (off := 9) fd47_7 (.tmp rfl rfl)) ?_
  refine C_at .h (fun hp => V_load (v := v1_9.v) ag22 (.tmp rfl rfl) hp.2 rfl rfl) ?_
  obtain ⟨r21, hx22, hF⟩ := bind_some hF
  refine C_x0 (.rd (.t (.t (.t (.t (.t (.t (.t (.t .h)))))))) rfl (.rd (.t (.t (.t (.t (.t (.t (.t (.t (.t (.t (.t (.t (.t (.t (.t (.t .h)))))))))))))))) rfl .nil)) (X_callS cf46 (.cons (.tmp rfl rfl) (.cons (.tmp rfl rfl) .nil)) (l_eqIntS_ok a_a.Times v0_9 a_b.Times v1_9 _ hx22)) (fun _ => ?_)
  refine C_val (V_not (b := r21) (.tmp rfl rfl)) ?_
  refine C_nil (CW_cond (b := (!r21)) (.tmp rfl rfl) (fun hb29 => ?_) (fun hb29 => ?_))
  · rw [if_pos hb29] at hF
    refine K_region (C_val (V_assign (v := (.bool false)) (.bool _)) ?_)
    refine C_nil (CW_ret ?_)
    obtain rfl := Option.some.inj hF
    exact End_ret () (.tmp rfl rfl .nil) rfl (.sel .nil)
  rw [if_neg (by rw [hb29]; exact Bool.false_ne_true)] at hF
  refine CW_skip (K_in (K_region (C_val (V_fieldAddr (off := 10) fd47_8 (.tmp rfl rfl)) ?_)))
  refine C_at (.t .h) (fun hp => V_load (v := (.int .i64 a_a.Spent)) ag3 (.tmp rfl rfl) hp.2 rfl rfl) ?_
  refine C_val (V_fieldAddr (off := 10) fd47_8 (.tmp rfl rfl)) ?_
  refine C_at .h (fun hp => V_load (v := (.int .i64 a_b.Spent)) ag3 (.tmp rfl rfl) hp.2 rfl rfl) ?_
  refine C_val (V_neq (i := a_a.Spent) (j := a_b.Spent) (.tmp rfl rfl) (.tmp rfl rfl)) ?_
  refine C_nil (CW_cond (b := ((a_a.Spent : Int) != a_b.Spent)) (.tmp rfl rfl) (fun hb28 => ?_) (fun hb28 => ?_))
  · rw [if_pos hb28] at hF
    refine K_region (C_val (V_assign (v := (.bool false)) (.bool _)) ?_)
    refine C_nil (CW_ret ?_)
    obtain rfl := Option.some.inj hF
    exact End_ret () (.tmp rfl rfl .nil) rfl (.sel .nil)
  rw [if_neg (by rw [hb28]; exact Bool.false_ne_true)] at hF
  refine CW_skip (K_in (K_region (C_val (V_fieldAddr (off := 11) fd47_9 (.tmp rfl rfl)) ?_)))
  refine C_at (.t .h) (fun hp => V_load (v := v0_11.v) ag32 (.tmp rfl rfl) hp.2 rfl rfl) ?_
  refine C_val (V_fieldAddr (off := 11) fd47_9 (.tmp rfl rfl)) ?_
  refine C_at .h (fun hp => V_load (v := v1_11.v) ag32 (.tmp rfl rfl) hp.2 rfl rfl) ?_
  obtain ⟨r24, hx25, hF⟩ := bind_some hF
  refine C_x0 (.rd (.t (.t (.t (.t (.t (.t (.t (.t (.t .h))))))))) rfl (.rd (.t (.t (.t (.t (.t (.t (.t (.t (.t (.t (.t (.t (.t (.t (.t (.t (.t .h))))))))))))))))) rfl .nil)) (X_callS cf90 (.cons (.tmp rfl rfl) (.cons (.tmp rfl rfl) .nil)) (l_eqIntSSS_ok a_a.Results v0_11 a_b.Results v1_11 _ hx25)) (fun _ => ?_)
  refine C_val (V_not (b := r24) (.tmp rfl rfl)) ?_
  refine C_nil (CW_cond (b := (!r24)) (.tmp rfl rfl) (fun hb27 => ?_) (fun hb27 => ?_))
  · rw [if_pos hb27] at hF
    refine K_region (C_val (V_assign (v := (.bool false)) (.bool _)) ?_)
    refine C_nil (CW_ret ?_)
    obtain rfl := Option.some.inj hF
    exact End_ret () (.tmp rfl rfl .nil) rfl (.sel .nil)
  rw [if_neg (by rw [hb27]; exact Bool.false_ne_true)] at hF
  refine CW_skip (K_region (C_val (V_assign (v := (.bool true)) (.bool _)) ?_))
  refine C_nil (CW_ret ?_)
  obtain rfl := Option.some.inj hF
  exact End_ret () (.tmp rfl rfl .nil) rfl (.sel .nil)

/-! laws.markIntS -/
def l_markIntS_L1 : Nat → (List Int) → Int → Int → Option (Int × (List Int))
  | 0, _, _, _ => none
  | m23 + 1, c19, c21, c22 => if (decide ((c22 : Int) < (c19.length : Int))) then (
      (chk (decide (0 ≤ c22) && decide (c22 < (c19.length : Int)))).bind fun u34 =>
      (some (c19.set (c22).toNat c21)).bind fun z36 =>
      l_markIntS_L1 m23 z36 (IntKind.i64.wrap (c21 + 1)) (IntKind.i64.wrap (c22 + 1)))
    else (
      some (c21, c19))
def l_markIntS (a_a : List Int) (a_k : Int) : Option (Int × (List Int)) :=
  l_markIntS_L1 (((a_a.length : Int) - 0).toNat + 2) a_a a_k 0
theorem l_markIntS_ok (a_a : List Int) (v0_0 : Sv) (F0_0 : List Nat) (a_k : Int) (R : Int × (List Int)) (hF : l_markIntS a_a a_k = some R) :
    Fw.Spec Tryz.prog 49 [v0_0.v, (.int .i64 a_k)] [cown (OwnS 3 (roE rdInt)) F0_0 v0_0.v a_a] (fun _ : List Nat => (.int .i64 R.1)) (fun p => [cown (OwnS 3 (roE rdInt)) p v0_0.v R.2]) := by
  refine Spec_enter (n := 19) Tryz.func49 rfl rfl (rs := [.tmp 4]) rfl rfl rfl ?_
  intro H0 F0
  unfold l_markIntS at hF
  refine K_region (C_val (V_assign (v := (.int .i64 0)) (.int _ _)) ?_)
  refine C_nil (K_in (K_region (C_val (V_assign (v := (.int .i64 0)) (.int _ _)) ?_)))
  refine C_nil (CW_block (CW_loop (m := (((a_a.length : Int) - 0).toNat + 2)) (fun m23 f' cs' => ∃ (g : Fr) (c19 : List Int) (c21 : Int) (c22 : Int) (F20 : List Nat), f' = updL g [(0, v0_0.v), (1, (.int .i64 c21)), (5, (.int .i64 c22))] ∧ Ent cs' [cown (OwnS 3 (roE rdInt)) F20 v0_0.v c19] ∧ l_markIntS_L1 m23 c19 c21 c22 = some R) ⟨_, _, _, _, F0_0, (EqL.cons rfl (EqL.cons rfl (EqL.cons rfl (EqL.nil)))).eq, (.sel (.cons .h .nil)), hF⟩ ?_))
  clear hF
  rintro m23 _ _ ⟨g24, c19, c21, c22, F20, rfl, hE, hF⟩
  refine K_ent hE ?_
  clear hE
  rcases m23 with _ | m23
  · rw [l_markIntS_L1] at hF
    exact absurd hF (by simp)
  rw [l_markIntS_L1] at hF
  refine K_in (K_region (Cm (.int .i64 c22) rfl rfl ?_))
  refine Cm v0_0.v rfl rfl ?_
  refine C_at .h (fun hp => V_lenR (l := c19.length) sl22 (.tmp rfl rfl) (cown_len hp)) ?_
  refine C_val (V_lss (i := c22) (j := (c19.length : Int)) (.tmp rfl rfl) (.tmp rfl rfl)) ?_
  refine C_nil (CW_cond (b := (decide ((c22 : Int) < (c19.length : Int)))) (.tmp rfl rfl) (fun hb39 => ?_) (fun hb39 => ?_))
  · rw [if_pos hb39] at hF
    refine CW_skip (K_block (K_region (Cm v0_0.v rfl rfl ?_)))
    refine Cm (.int .i64 c22) rfl rfl ?_
    refine Cm (.int .i64 c21) rfl rfl ?_
    obtain ⟨u34, hx35, hF⟩ := bind_some hF
    have hi33 := chk_some hx35
    refine C_idxO sl22 ty3.sz (.tmp rfl rfl) (.tmp rfl rfl) .h hi33 (fun k31 hk32 => ?_)
    obtain ⟨z36, hx37, hF⟩ := bind_some hF
    replace hx37 := Option.some.inj hx37
    refine C_x1 (.cons .h .nil) (X_storeO (Ro := (roE rdInt)) (a := c21) (i := c22) ty3.sz rfl (.tmp rfl rfl) (.tmp rfl rfl) hk32 hi33 (Mk_pure (fun _ => rfl)) (fun _ _ _ _ h => by obtain ⟨-, h⟩ := h; cases h; rfl)) (fun F38 => ?_)
    rw [hx37]
    refine C_nil (CW_region (Cm (.int .i64 c21) rfl rfl ?_))
    refine C_val (V_add (i := c21) (j := 1) (.tmp rfl rfl) (.int _ _)) ?_
    refine Ca (.int .i64 (IntKind.i64.wrap (c21 + 1))) rfl rfl ?_
    refine C_nil (CW_region (Cm (.int .i64 c22) rfl rfl ?_))
    refine C_val (V_add (i := c22) (j := 1) (.tmp rfl rfl) (.int _ _)) ?_
    refine Ca (.int .i64 (IntKind.i64.wrap (c22 + 1))) rfl rfl ?_
    refine C_nil ?_
    exact ⟨m23, Nat.lt_succ_self _, _, _, _, _, F38, (EqL.cons rfl (EqL.cons rfl (EqL.cons rfl (EqL.nil)))).eq, (.sel (.cons .h .nil)), hF⟩
  rw [if_neg (by rw [hb39]; exact Bool.false_ne_true)] at hF
  refine CW_exit ?_
  iterate 2 refine CThen_exit ?_
  refine CIn_self (K_region (Cm (.int .i64 c21) rfl rfl ?_))
  refine Ca (.int .i64 c21) rfl rfl ?_
  refine C_nil (CW_ret ?_)
  obtain rfl := Option.some.inj hF
  exact End_ret F20 (.tmp rfl rfl .nil) rfl (.sel (.cons .h .nil))

/-! laws.markMethodS -/
def l_markMethodS_L1 : Nat → (List Method) → Int → Int → Option (Int × (List Method))
  | 0, _, _, _ => none
  | m64 + 1, c60, c62, c63 => if (decide ((c63 : Int) < (c60.length : Int))) then (
      (ix c60 c63).bind fun x75 =>
      (some (c60.set (c63).toNat { x75 with Rel := c62 })).bind fun z79 =>
      (ix z79 c63).bind fun x84 =>
      (l_markIntS x84.Inputs (IntKind.i64.wrap (c62 + 1))).bind fun r89 =>
      (some (z79.set (c63).toNat { x84 with Inputs := r89.2 })).bind fun z92 =>
      (ix z92 c63).bind fun x97 =>
      (some (z92.set (c63).toNat { x97 with Limit := r89.1 })).bind fun z101 =>
      (ix z101 c63).bind fun x106 =>
      (some (z101.set (c63).toNat { x106 with Cost := (IntKind.i64.wrap (r89.1 + 1)) })).bind fun z110 =>
      (ix z110 c63).bind fun x115 =>
      (some (z110.set (c63).toNat { x115 with Quota := (IntKind.i64.wrap ((IntKind.i64.wrap (r89.1 + 1)) + 1)) })).bind fun z119 =>
      l_markMethodS_L1 m64 z119 (IntKind.i64.wrap ((IntKind.i64.wrap ((IntKind.i64.wrap (r89.1 + 1)) + 1)) + 1)) (IntKind.i64.wrap (c63 + 1)))
    else (
      some (c62, c60))
def l_markMethodS (a_a : List Method) (a_k : Int) : Option (Int × (List Method)) :=
  l_markMethodS_L1 (((a_a.length : Int) - 0).toNat + 2) a_a a_k 0
theorem l_markMethodS_ok (a_a : List Method) (v0_0 : Sv) (F0_0 : List Nat) (a_k : Int) (R : Int × (List Method)) (hF : l_markMethodS a_a a_k = some R) :
    Fw.Spec Tryz.prog 50 [v0_0.v, (.int .i64 a_k)] [cown (OwnS 100 ow100) F0_0 v0_0.v a_a] (fun _ : List Nat => (.int .i64 R.1)) (fun p => [cown (OwnS 100 ow100) p v0_0.v R.2]) := by
  refine Spec_enter (n := 48) Tryz.func50 rfl rfl (rs := [.tmp 4]) rfl rfl rfl ?_
  intro H0 F0
  unfold l_markMethodS at hF
  refine K_region (C_val (V_assign (v := (.int .i64 0)) (.int _ _)) ?_)
  refine C_nil (K_in (K_region (C_val (V_assign (v := (.int .i64 0)) (.int _ _)) ?_)))
  refine C_nil (CW_block (CW_loop (m := (((a_a.length : Int) - 0).toNat + 2)) (fun m64 f' cs' => ∃ (g : Fr) (c60 : List Method) (c62 : Int) (c63 : Int) (F61 : List Nat), f' = updL g [(0, v0_0.v), (1, (.int .i64 c62)), (5, (.int .i64 c63))] ∧ Ent cs' [cown (OwnS 100 ow100) F61 v0_0.v c60] ∧ l_markMethodS_L1 m64 c60 c62 c63 = some R) ⟨_, _, _, _, F0_0, (EqL.cons rfl (EqL.cons rfl (EqL.cons rfl (EqL.nil)))).eq, (.sel (.cons .h .nil)), hF⟩ ?_))
  clear hF
  rintro m64 _ _ ⟨g65, c60, c62, c63, F61, rfl, hE, hF⟩
  refine K_ent hE ?_
  clear hE
  rcases m64 with _ | m64
  · rw [l_markMethodS_L1] at hF
    exact absurd hF (by simp)
  rw [l_markMethodS_L1] at hF
  refine K_in (K_region (Cm (.int .i64 c63) rfl rfl ?_))
  refine Cm v0_0.v rfl rfl ?_
  refine C_at .h (fun hp => V_lenR (l := c60.length) sl37 (.tmp rfl rfl) (cown_len hp)) ?_
  refine C_val (V_lss (i := c63) (j := (c60.length : Int)) (.tmp rfl rfl) (.tmp rfl rfl)) ?_
  refine C_nil (CW_cond (b := (decide ((c63 : Int) < (c60.length : Int)))) (.tmp rfl rfl) (fun hb121 => ?_) (fun hb121 => ?_))
  · rw [if_pos hb121] at hF
    refine CW_skip (K_block (K_region (Cm v0_0.v rfl rfl ?_)))
    refine Cm (.int .i64 c63) rfl rfl ?_
    refine Cm (.int .i64 c62) rfl rfl ?_
    obtain ⟨x75, hx76, hF⟩ := bind_some hF
    have hi74 := ix_chk hx76
    obtain ⟨hp77, hx78⟩ := ix_some hx76
    refine C_idxO sl37 ty100.sz (.tmp rfl rfl) (.tmp rfl rfl) .h hi74 (fun k72 hk73 => ?_)
    refine C_val (V_fieldAddr (off := 0) fd100_0 (.tmp rfl rfl)) ?_
    obtain ⟨z79, hx80, hF⟩ := bind_some hF
    replace hx80 := Option.some.inj hx80
    refine C_x1 (.cons .h .nil) (X_storeF (Ro := ow100) (i := c63) ty3.sz rfl (.tmp rfl rfl) (.tmp rfl rfl) hk73 hx78 rfl rfl fsf100_0 (sf100_0 (d := c62))) (fun _ => ?_)
    rw [hx80]
    refine C_nil (K_region (Cm (.int .i64 c62) rfl rfl ?_))
    refine C_val (V_add (i := c62) (j := 1) (.tmp rfl rfl) (.int _ _)) ?_
    refine Ca (.int .i64 (IntKind.i64.wrap (c62 + 1))) rfl rfl ?_
    refine C_nil (K_region (Cm v0_0.v rfl rfl ?_))
    refine Cm (.int .i64 c63) rfl rfl ?_
    obtain ⟨x84, hx85, hF⟩ := bind_some hF
    have hi83 := ix_chk hx85
    obtain ⟨hp86, hx87⟩ := ix_some hx85
    refine C_idxO sl37 ty100.sz (.tmp rfl rfl) (.tmp rfl rfl) .h hi83 (fun k81 hk82 => ?_)
    refine C_val (V_fieldAddr (off := 1) fd100_1 (.tmp rfl rfl)) ?_
    refine C_ldOV ag22 (.tmp rfl rfl) .h hk82 hx87 pt100_1 (fun w88 => ?_)
    refine Cm (.int .i64 (IntKind.i64.wrap (c62 + 1))) rfl rfl ?_
    obtain ⟨r89, hx90, hF⟩ := bind_some hF
    obtain ⟨z92, hx93, hF⟩ := bind_some hF
    replace hx93 := Option.some.inj hx93
    refine C_x1 (.cons .h .nil) (X_part hx87 pt100_1 (fun Fw => X_callS cf49 (.cons (.tmp rfl rfl) (.cons (.tmp rfl rfl) .nil)) (l_markIntS_ok x84.Inputs w88 Fw (IntKind.i64.wrap (c62 + 1)) _ hx90)) rfl) (fun p91 => ?_)
    rw [hx93]
    refine Ca (.int .i64 r89.1) rfl rfl ?_
    refine C_nil (K_region (Cm v0_0.v rfl rfl ?_))
    refine Cm (.int .i64 c63) rfl rfl ?_
    refine Cm (.int .i64 r89.1) rfl rfl ?_
    obtain ⟨x97, hx98, hF⟩ := bind_some hF
    have hi96 := ix_chk hx98
    obtain ⟨hp99, hx100⟩ := ix_some hx98
    refine C_idxO sl37 ty100.sz (.tmp rfl rfl) (.tmp rfl rfl) .h hi96 (fun k94 hk95 => ?_)
    refine C_val (V_fieldAddr (off := 2) fd100_2 (.tmp rfl rfl)) ?_
    obtain ⟨z101, hx102, hF⟩ := bind_some hF
    replace hx102 := Option.some.inj hx102
    refine C_x1 (.cons .h .nil) (X_storeF (Ro := ow100) (i := c63) ty3.sz rfl (.tmp rfl rfl) (.tmp rfl rfl) hk95 hx100 rfl rfl fsf100_2 (sf100_2 (d := r89.1))) (fun _ => ?_)
    rw [hx102]
    refine C_nil (K_region (Cm (.int .i64 r89.1) rfl rfl ?_))
    refine C_val (V_add (i := r89.1) (j := 1) (.tmp rfl rfl) (.int _ _)) ?_
    refine Ca (.int .i64 (IntKind.i64.wrap (r89.1 + 1))) rfl rfl ?_
    refine C_nil (K_region (Cm v0_0.v rfl rfl ?_))
    refine Cm (.int .i64 c63) rfl rfl ?_
    refine Cm (.int .i64 (IntKind.i64.wrap (r89.1 + 1))) rfl rfl ?_
    obtain ⟨x106, hx107, hF⟩ := bind_some hF
    have hi105 := ix_chk hx107
    obtain ⟨hp108, hx109⟩ := ix_some hx107
    refine C_idxO sl37 ty100.sz (.tmp rfl rfl) (.tmp rfl rfl) .h hi105 (fun k103 hk104 => ?_)
    refine C_val (V_fieldAddr (off := 3) fd100_3 (.tmp rfl rfl)) ?_
    obtain ⟨z110, hx111, hF⟩ := bind_some hF
    replace hx111 := Option.some.inj hx111
    refine C_x1 (.cons .h .nil) (X_storeF (Ro := ow100) (i := c63) ty3.sz rfl (.tmp rfl rfl) (.tmp rfl rfl) hk104 hx109 rfl rfl fsf100_3 (sf100_3 (d := (IntKind.i64.wrap (r89.1 + 1))))) (fun _ => ?_)
    rw [hx111]
    refine C_nil (K_region (Cm (.int .i64 (IntKind.i64.wrap (r89.1 + 1))) rfl rfl ?_))
    refine C_val (V_add (i := (IntKind.i64.wrap (r89.1 + 1))) (j := 1) (.tmp rfl rfl) (.int _ _)) ?_
    refine Ca (.int .i64 (IntKind.i64.wrap ((IntKind.i64.wrap (r89.1 + 1)) + 1))) rfl rfl ?_
    refine C_nil (K_region (Cm v0_0.v rfl rfl ?_))
    refine Cm (.int .i64 c63) rfl rfl ?_
    refine Cm (.int .i64 (IntKind.i64.wrap ((IntKind.i64.wrap (r89.1 + 1)) + 1))) rfl rfl ?_
    obtain ⟨x115, hx116, hF⟩ := bind_some hF
    have hi114 := ix_chk hx116
    obtain ⟨hp117, hx118⟩ := ix_some hx116
    refine C_idxO sl37 ty100.sz (.tmp rfl rfl) (.tmp rfl rfl) .h hi114 (fun k112 hk113 => ?_)
    refine C_val (V_fieldAddr (off := 4) fd100_4 (.tmp rfl rfl)) ?_
    obtain ⟨z119, hx120, hF⟩ := bind_some hF
    replace hx120 := Option.some.inj hx120
    refine C_x1 (.cons .h .nil) (X_storeF (Ro := ow100) (i := c63) ty3.sz rfl (.tmp rfl rfl) (.tmp rfl rfl) hk113 hx118 rfl rfl fsf100_4 (sf100_4 (d := (IntKind.i64.wrap ((IntKind.i64.wrap (r89.1 + 1)) + 1))))) (fun _ => ?_)
    rw [hx120]
    refine C_nil (CW_region (Cm (.int .i64 (IntKind.i64.wrap ((IntKind.i64.wrap (r89.1 + 1)) + 1))) rfl rfl ?_))
    refine C_val (V_add (i := (IntKind.i64.wrap ((IntKind.i64.wrap (r89.1 + 1)) + 1))) (j := 1) (.tmp rfl rfl) (.int _ _)) ?_
    refine Ca (.int .i64 (IntKind.i64.wrap ((IntKind.i64.wrap ((IntKind.i64.wrap (r89.1 + 1)) + 1)) + 1))) rfl rfl ?_
    refine C_nil (CW_region (Cm (.int .i64 c63) rfl rfl ?_))
    refine C_val (V_add (i := c63) (j := 1) (.tmp rfl rfl) (.int _ _)) ?_
    refine Ca (.int .i64 (IntKind.i64.wrap (c63 + 1))) rfl rfl ?_
    refine C_nil ?_
    exact ⟨m64, Nat.lt_succ_self _, _, _, _, _, p91.2, (EqL.cons rfl (EqL.cons rfl (EqL.cons rfl (EqL.nil)))).eq, (.sel (.cons .h .nil)), hF⟩
  rw [if_neg (by rw [hb121]; exact Bool.false_ne_true)] at hF
  refine CW_exit ?_
  iterate 2 refine CThen_exit ?_
  refine CIn_self (K_region (Cm (.int .i64 c62) rfl rfl ?_))
  refine Ca (.int .i64 c62) rfl rfl ?_
  refine C_nil (CW_ret ?_)
  obtain rfl := Option.some.inj hF
  exact End_ret F61 (.tmp rfl rfl .nil) rfl (.sel (.cons .h .nil))

/-! laws.markRuleS -/
def l_markRuleS_L1 : Nat → (List Rule) → Int → Int → Option (Int × (List Rule))
  | 0, _, _, _ => none
  | m46 + 1, c42, c44, c45 => if (decide ((c45 : Int) < (c42.length : Int))) then (
      (ix c42 c45).bind fun x57 =>
      (some (c42.set (c45).toNat { x57 with From := c44 })).bind fun z61 =>
      (ix z61 c45).bind fun x66 =>
      (some (z61.set (c45).toNat { x66 with To := (IntKind.i64.wrap (c44 + 1)) })).bind fun z70 =>
      (ix z70 c45).bind fun x75 =>
      (l_markIntS x75.Map (IntKind.i64.wrap ((IntKind.i64.wrap (c44 + 1)) + 1))).bind fun r80 =>
      (some (z70.set (c45).toNat { x75 with Map := r80.2 })).bind fun z83 =>
      l_markRuleS_L1 m46 z83 r80.1 (IntKind.i64.wrap (c45 + 1)))
    else (
      some (c44, c42))
def l_markRuleS (a_a : List Rule) (a_k : Int) : Option (Int × (List Rule)) :=
  l_markRuleS_L1 (((a_a.length : Int) - 0).toNat + 2) a_a a_k 0
theorem l_markRuleS_ok (a_a : List Rule) (v0_0 : Sv) (F0_0 : List Nat) (a_k : Int) (R : Int × (List Rule)) (hF : l_markRuleS a_a a_k = some R) :
    Fw.Spec Tryz.prog 99 [v0_0.v, (.int .i64 a_k)] [cown (OwnS 91 ow91) F0_0 v0_0.v a_a] (fun _ : List Nat => (.int .i64 R.1)) (fun p => [cown (OwnS 91 ow91) p v0_0.v R.2]) := by
  refine Spec_enter (n := 34) Tryz.func99 rfl rfl (rs := [.tmp 4]) rfl rfl rfl ?_
  intro H0 F0
  unfold l_markRuleS at hF
  refine K_region (C_val (V_assign (v := (.int .i64 0)) (.int _ _)) ?_)
  refine C_nil (K_in (K_region (C_val (V_assign (v := (.int .i64 0)) (.int _ _)) ?_)))
  refine C_nil (CW_block (CW_loop (m := (((a_a.length : Int) - 0).toNat + 2)) (fun m46 f' cs' => ∃ (g : Fr) (c42 : List Rule) (c44 : Int) (c45 : Int) (F43 : List Nat), f' = updL g [(0, v0_0.v), (1, (.int .i64 c44)), (5, (.int .i64 c45))] ∧ Ent cs' [cown (OwnS 91 ow91) F43 v0_0.v c42] ∧ l_markRuleS_L1 m46 c42 c44 c45 = some R) ⟨_, _, _, _, F0_0, (EqL.cons rfl (EqL.cons rfl (EqL.cons rfl (EqL.nil)))).eq, (.sel (.cons .h .nil)), hF⟩ ?_))
  clear hF
  rintro m46 _ _ ⟨g47, c42, c44, c45, F43, rfl, hE, hF⟩
  refine K_ent hE ?_
  clear hE
  rcases m46 with _ | m46
  · rw [l_markRuleS_L1] at hF
    exact absurd hF (by simp)
  rw [l_markRuleS_L1] at hF
  refine K_in (K_region (Cm (.int .i64 c45) rfl rfl ?_))
  refine Cm v0_0.v rfl rfl ?_
  refine C_at .h (fun hp => V_lenR (l := c42.length) sl38 (.tmp rfl rfl) (cown_len hp)) ?_
  refine C_val (V_lss (i := c45) (j := (c42.length : Int)) (.tmp rfl rfl) (.tmp rfl rfl)) ?_
  refine C_nil (CW_cond (b := (decide ((c45 : Int) < (c42.length : Int)))) (.tmp rfl rfl) (fun hb85 => ?_) (fun hb85 => ?_))
  · rw [if_pos hb85] at hF
    refine CW_skip (K_block (K_region (Cm v0_0.v rfl rfl ?_)))
    refine Cm (.int .i64 c45) rfl rfl ?_
    refine Cm (.int .i64 c44) rfl rfl ?_
    obtain ⟨x57, hx58, hF⟩ := bind_some hF
    have hi56 := ix_chk hx58
    obtain ⟨hp59, hx60⟩ := ix_some hx58
    refine C_idxO sl38 ty91.sz (.tmp rfl rfl) (.tmp rfl rfl) .h hi56 (fun k54 hk55 => ?_)
    refine C_val (V_fieldAddr (off := 0) fd91_0 (.tmp rfl rfl)) ?_
    obtain ⟨z61, hx62, hF⟩ := bind_some hF
    replace hx62 := Option.some.inj hx62
    refine C_x1 (.cons .h .nil) (X_storeF (Ro := ow91) (i := c45) ty3.sz rfl (.tmp rfl rfl) (.tmp rfl rfl) hk55 hx60 rfl rfl fsf91_0 (sf91_0 (d := c44))) (fun _ => ?_)
    rw [hx62]
    refine C_nil (K_region (Cm (.int .i64 c44) rfl rfl ?_))
    refine C_val (V_add (i := c44) (j := 1) (.tmp rfl rfl) (.int _ _)) ?_
    refine Ca (.int .i64 (IntKind.i64.wrap (c44 + 1))) rfl rfl ?_
    refine C_nil (K_region (Cm v0_0.v rfl rfl ?_))
    refine Cm (.int .i64 c45) rfl rfl ?_
    refine Cm (.int .i64 (IntKind.i64.wrap (c44 + 1))) rfl rfl ?_
    obtain ⟨x66, hx67, hF⟩ := bind_some hF
    have hi65 := ix_chk hx67
    obtain ⟨hp68, hx69⟩ := ix_some hx67
    refine C_idxO sl38 ty91.sz (.tmp rfl rfl) (.tmp rfl rfl) .h hi65 (fun k63 hk64 => ?_)
    refine C_val (V_fieldAddr (off := 1) fd91_1 (.tmp rfl rfl)) ?_
    obtain ⟨z70, hx71, hF⟩ := bind_some hF
    replace hx71 := Option.some.inj hx71
    refine C_x1 (.cons .h .nil) (X_storeF (Ro := ow91) (i := c45) ty3.sz rfl (.tmp rfl rfl) (.tmp rfl rfl) hk64 hx69 rfl rfl fsf91_1 (sf91_1 (d := (IntKind.i64.wrap (c44 + 1))))) (fun _ => ?_)
    rw [hx71]
    refine C_nil (K_region (Cm (.int .i64 (IntKind.i64.wrap (c44 + 1))) rfl rfl ?_))
    refine C_val (V_add (i := (IntKind.i64.wrap (c44 + 1))) (j := 1) (.tmp rfl rfl) (.int _ _)) ?_
    refine Ca (.int .i64 (IntKind.i64.wrap ((IntKind.i64.wrap (c44 + 1)) + 1))) rfl rfl ?_
    refine C_nil (CW_region (Cm v0_0.v rfl rfl ?_))
    refine Cm (.int .i64 c45) rfl rfl ?_
    obtain ⟨x75, hx76, hF⟩ := bind_some hF
    have hi74 := ix_chk hx76
    obtain ⟨hp77, hx78⟩ := ix_some hx76
    refine C_idxO sl38 ty91.sz (.tmp rfl rfl) (.tmp rfl rfl) .h hi74 (fun k72 hk73 => ?_)
    refine C_val (V_fieldAddr (off := 2) fd91_2 (.tmp rfl rfl)) ?_
    refine C_ldOV ag22 (.tmp rfl rfl) .h hk73 hx78 pt91_2 (fun w79 => ?_)
    refine Cm (.int .i64 (IntKind.i64.wrap ((IntKind.i64.wrap (c44 + 1)) + 1))) rfl rfl ?_
    obtain ⟨r80, hx81, hF⟩ := bind_some hF
    obtain ⟨z83, hx84, hF⟩ := bind_some hF
    replace hx84 := Option.some.inj hx84
    refine C_x1 (.cons .h .nil) (X_part hx78 pt91_2 (fun Fw => X_callS cf49 (.cons (.tmp rfl rfl) (.cons (.tmp rfl rfl) .nil)) (l_markIntS_ok x75.Map w79 Fw (IntKind.i64.wrap ((IntKind.i64.wrap (c44 + 1)) + 1)) _ hx81)) rfl) (fun p82 => ?_)
    rw [hx84]
    refine Ca (.int .i64 r80.1) rfl rfl ?_
    refine C_nil (CW_region (Cm (.int .i64 c45) rfl rfl ?_))
    refine C_val (V_add (i := c45) (j := 1) (.tmp rfl rfl) (.int _ _)) ?_
    refine Ca (.int .i64 (IntKind.i64.wrap (c45 + 1))) rfl rfl ?_
    refine C_nil ?_
    exact ⟨m46, Nat.lt_succ_self _, _, _, _, _, p82.2, (EqL.cons rfl (EqL.cons rfl (EqL.cons rfl (EqL.nil)))).eq, (.sel (.cons .h .nil)), hF⟩
  rw [if_neg (by rw [hb85]; exact Bool.false_ne_true)] at hF
  refine CW_exit ?_
  iterate 2 refine CThen_exit ?_
  refine CIn_self (K_region (Cm (.int .i64 c44) rfl rfl ?_))
  refine Ca (.int .i64 c44) rfl rfl ?_
  refine C_nil (CW_ret ?_)
  obtain rfl := Option.some.inj hF
  exact End_ret F43 (.tmp rfl rfl .nil) rfl (.sel (.cons .h .nil))

/-! laws.markFactS -/
def l_markFactS_L1 : Nat → (List Fact) → Int → Int → Option (Int × (List Fact))
  | 0, _, _, _ => none
  | m37 + 1, c33, c35, c36 => if (decide ((c36 : Int) < (c33.length : Int))) then (
      (ix c33 c36).bind fun x48 =>
      (some (c33.set (c36).toNat { x48 with Rel := c35 })).bind fun z52 =>
      (ix z52 c36).bind fun x57 =>
      (l_markIntS x57.Values (IntKind.i64.wrap (c35 + 1))).bind fun r62 =>
      (some (z52.set (c36).toNat { x57 with Values := r62.2 })).bind fun z65 =>
      l_markFactS_L1 m37 z65 r62.1 (IntKind.i64.wrap (c36 + 1)))
    else (
      some (c35, c33))
def l_markFactS (a_a : List Fact) (a_k : Int) : Option (Int × (List Fact)) :=
  l_markFactS_L1 (((a_a.length : Int) - 0).toNat + 2) a_a a_k 0
theorem l_markFactS_ok (a_a : List Fact) (v0_0 : Sv) (F0_0 : List Nat) (a_k : Int) (R : Int × (List Fact)) (hF : l_markFactS a_a a_k = some R) :
    Fw.Spec Tryz.prog 34 [v0_0.v, (.int .i64 a_k)] [cown (OwnS 75 ow75) F0_0 v0_0.v a_a] (fun _ : List Nat => (.int .i64 R.1)) (fun p => [cown (OwnS 75 ow75) p v0_0.v R.2]) := by
  refine Spec_enter (n := 27) Tryz.func34 rfl rfl (rs := [.tmp 4]) rfl rfl rfl ?_
  intro H0 F0
  unfold l_markFactS at hF
  refine K_region (C_val (V_assign (v := (.int .i64 0)) (.int _ _)) ?_)
  refine C_nil (K_in (K_region (C_val (V_assign (v := (.int .i64 0)) (.int _ _)) ?_)))
  refine C_nil (CW_block (CW_loop (m := (((a_a.length : Int) - 0).toNat + 2)) (fun m37 f' cs' => ∃ (g : Fr) (c33 : List Fact) (c35 : Int) (c36 : Int) (F34 : List Nat), f' = updL g [(0, v0_0.v), (1, (.int .i64 c35)), (5, (.int .i64 c36))] ∧ Ent cs' [cown (OwnS 75 ow75) F34 v0_0.v c33] ∧ l_markFactS_L1 m37 c33 c35 c36 = some R) ⟨_, _, _, _, F0_0, (EqL.cons rfl (EqL.cons rfl (EqL.cons rfl (EqL.nil)))).eq, (.sel (.cons .h .nil)), hF⟩ ?_))
  clear hF
  rintro m37 _ _ ⟨g38, c33, c35, c36, F34, rfl, hE, hF⟩
  refine K_ent hE ?_
  clear hE
  rcases m37 with _ | m37
  · rw [l_markFactS_L1] at hF
    exact absurd hF (by simp)
  rw [l_markFactS_L1] at hF
  refine K_in (K_region (Cm (.int .i64 c36) rfl rfl ?_))
  refine Cm v0_0.v rfl rfl ?_
  refine C_at .h (fun hp => V_lenR (l := c33.length) sl39 (.tmp rfl rfl) (cown_len hp)) ?_
  refine C_val (V_lss (i := c36) (j := (c33.length : Int)) (.tmp rfl rfl) (.tmp rfl rfl)) ?_
  refine C_nil (CW_cond (b := (decide ((c36 : Int) < (c33.length : Int)))) (.tmp rfl rfl) (fun hb67 => ?_) (fun hb67 => ?_))
  · rw [if_pos hb67] at hF
    refine CW_skip (K_block (K_region (Cm v0_0.v rfl rfl ?_)))
    refine Cm (.int .i64 c36) rfl rfl ?_
    refine Cm (.int .i64 c35) rfl rfl ?_
    obtain ⟨x48, hx49, hF⟩ := bind_some hF
    have hi47 := ix_chk hx49
    obtain ⟨hp50, hx51⟩ := ix_some hx49
    refine C_idxO sl39 ty75.sz (.tmp rfl rfl) (.tmp rfl rfl) .h hi47 (fun k45 hk46 => ?_)
    refine C_val (V_fieldAddr (off := 0) fd75_0 (.tmp rfl rfl)) ?_
    obtain ⟨z52, hx53, hF⟩ := bind_some hF
    replace hx53 := Option.some.inj hx53
    refine C_x1 (.cons .h .nil) (X_storeF (Ro := ow75) (i := c36) ty3.sz rfl (.tmp rfl rfl) (.tmp rfl rfl) hk46 hx51 rfl rfl fsf75_0 (sf75_0 (d := c35))) (fun _ => ?_)
    rw [hx53]
    refine C_nil (K_region (Cm (.int .i64 c35) rfl rfl ?_))
    refine C_val (V_add (i := c35) (j := 1) (.tmp rfl rfl) (.int _ _)) ?_
    refine Ca (.int .i64 (IntKind.i64.wrap (c35 + 1))) rfl rfl ?_
    refine C_nil (CW_region (Cm v0_0.v rfl rfl ?_))
    refine Cm (.int .i64 c36) rfl rfl ?_
    obtain ⟨x57, hx58, hF⟩ := bind_some hF
    have hi56 := ix_chk hx58
    obtain ⟨hp59, hx60⟩ := ix_some hx58
    refine C_idxO sl39 ty75.sz (.tmp rfl rfl) (.tmp rfl rfl) .h hi56 (fun k54 hk55 => ?_)
    refine C_val (V_fieldAddr (off := 1) fd75_1 (.tmp rfl rfl)) ?_
    refine C_ldOV ag22 (.tmp rfl rfl) .h hk55 hx60 pt75_1 (fun w61 => ?_)
    refine Cm (.int .i64 (IntKind.i64.wrap (c35 + 1))) rfl rfl ?_
    obtain ⟨r62, hx63, hF⟩ := bind_some hF
    obtain ⟨z65, hx66, hF⟩ := bind_some hF
    replace hx66 := Option.some.inj hx66
    refine C_x1 (.cons .h .nil) (X_part hx60 pt75_1 (fun Fw => X_callS cf49 (.cons (.tmp rfl rfl) (.cons (.tmp rfl rfl) .nil)) (l_markIntS_ok x57.Values w61 Fw (IntKind.i64.wrap (c35 + 1)) _ hx63)) rfl) (fun p64 => ?_)
    rw [hx66]
    refine Ca (.int .i64 r62.1) rfl rfl ?_
    refine C_nil (CW_region (Cm (.int .i64 c36) rfl rfl ?_))
    refine C_val (V_add (i := c36) (j := 1) (.tmp rfl rfl) (.int _ _)) ?_
    refine Ca (.int .i64 (IntKind.i64.wrap (c36 + 1))) rfl rfl ?_
    refine C_nil ?_
    exact ⟨m37, Nat.lt_succ_self _, _, _, _, _, p64.2, (EqL.cons rfl (EqL.cons rfl (EqL.cons rfl (EqL.nil)))).eq, (.sel (.cons .h .nil)), hF⟩
  rw [if_neg (by rw [hb67]; exact Bool.false_ne_true)] at hF
  refine CW_exit ?_
  iterate 2 refine CThen_exit ?_
  refine CIn_self (K_region (Cm (.int .i64 c35) rfl rfl ?_))
  refine Ca (.int .i64 c35) rfl rfl ?_
  refine C_nil (CW_ret ?_)
  obtain rfl := Option.some.inj hF
  exact End_ret F34 (.tmp rfl rfl .nil) rfl (.sel (.cons .h .nil))

/-! laws.markSource -/
def l_markSource (a_a : Source) (a_k : Int) : Option (Int × Source) :=
  (l_markFactS a_a.Facts a_k).bind fun r2 =>
  some (r2.1, ({ Facts := r2.2, Version := a_a.Version } : Source))
theorem l_markSource_ok (a_a : Source) (v0_0 : Sv) (F0_0 : List Nat) (a_k : Int) (R : Int × Source) (hF : l_markSource a_a a_k = some R) :
    Fw.Spec Tryz.prog 100 [(.agg [v0_0.v, (.int .i64 a_a.Version)].toArray), (.int .i64 a_k)] [cown (OwnS 75 ow75) F0_0 v0_0.v a_a.Facts] (fun _ : List Nat => (.int .i64 R.1)) (fun p => [cown (OwnS 75 ow75) p v0_0.v R.2.Facts]) := by
  refine Spec_enter (n := 10) Tryz.func100 rfl rfl (rs := [.tmp 4]) rfl rfl rfl ?_
  intro H0 F0
  unfold l_markSource at hF
  refine K_region (C_newR rfl (N_box (g := false) (v := (.agg [v0_0.v, (.int .i64 a_a.Version)].toArray)) ty41.sz (.tmp rfl rfl) rfl) (fun k1 => ?_))
  refine C_val (V_assign (v := (.int .i64 0)) (.int _ _)) ?_
  refine C_nil (K_region (C_val (V_fieldAddr (off := 0) fd41_0 (.tmp rfl rfl)) ?_))
  refine C_at .h (fun hp => V_load (v := v0_0.v) ag39 (.tmp rfl rfl) hp.2 rfl rfl) ?_
  refine Cm (.int .i64 a_k) rfl rfl ?_
  obtain ⟨r2, hx3, hF⟩ := bind_some hF
  refine C_x1 (.cons (.t .h) .nil) (X_callS cf34 (.cons (.tmp rfl rfl) (.cons (.tmp rfl rfl) .nil)) (l_markFactS_ok a_a.Facts v0_0 F0_0 a_k _ hx3)) (fun p4 => ?_)
  refine Ca (.int .i64 r2.1) rfl rfl ?_
  refine C_nil (K_region (Cm (.int .i64 r2.1) rfl rfl ?_))
  refine Ca (.int .i64 r2.1) rfl rfl ?_
  refine C_nil (CW_ret ?_)
  obtain rfl := Option.some.inj hF
  exact End_ret p4 (.tmp rfl rfl .nil) rfl (.sel (.cons .h .nil))

/-! laws.markStoredS -/
def l_markStoredS_L1 : Nat → (List Stored) → Int → Int → Option (Int × (List Stored))
  | 0, _, _, _ => none
  | m59 + 1, c55, c57, c58 => if (decide ((c58 : Int) < (c55.length : Int))) then (
      (ix c55 c58).bind fun x70 =>
      (some (c55.set (c58).toNat { x70 with Access := { x70.Access with Method := c57 } })).bind fun z74 =>
      (ix z74 c58).bind fun x79 =>
      (l_markIntS x79.Access.Values (IntKind.i64.wrap (c57 + 1))).bind fun r84 =>
      (some (z74.set (c58).toNat { x79 with Access := { x79.Access with Values := r84.2 } })).bind fun z87 =>
      (ix z87 c58).bind fun x92 =>
      (l_markFactS x92.Facts r84.1).bind fun r97 =>
      (some (z87.set (c58).toNat { x92 with Facts := r97.2 })).bind fun z100 =>
      (ix z100 c58).bind fun x105 =>
      (some (z100.set (c58).toNat { x105 with At := r97.1 })).bind fun z109 =>
      l_markStoredS_L1 m59 z109 (IntKind.i64.wrap (r97.1 + 1)) (IntKind.i64.wrap (c58 + 1)))
    else (
      some (c57, c55))
def l_markStoredS (a_a : List Stored) (a_k : Int) : Option (Int × (List Stored)) :=
  l_markStoredS_L1 (((a_a.length : Int) - 0).toNat + 2) a_a a_k 0
theorem l_markStoredS_ok (a_a : List Stored) (v0_0 : Sv) (F0_0 : List Nat) (a_k : Int) (R : Int × (List Stored)) (hF : l_markStoredS a_a a_k = some R) :
    Fw.Spec Tryz.prog 171 [v0_0.v, (.int .i64 a_k)] [cown (OwnS 132 ow132) F0_0 v0_0.v a_a] (fun _ : List Nat => (.int .i64 R.1)) (fun p => [cown (OwnS 132 ow132) p v0_0.v R.2]) := by
  refine Spec_enter (n := 43) Tryz.func171 rfl rfl (rs := [.tmp 4]) rfl rfl rfl ?_
  intro H0 F0
  unfold l_markStoredS at hF
  refine K_region (C_val (V_assign (v := (.int .i64 0)) (.int _ _)) ?_)
  refine C_nil (K_in (K_region (C_val (V_assign (v := (.int .i64 0)) (.int _ _)) ?_)))
  refine C_nil (CW_block (CW_loop (m := (((a_a.length : Int) - 0).toNat + 2)) (fun m59 f' cs' => ∃ (g : Fr) (c55 : List Stored) (c57 : Int) (c58 : Int) (F56 : List Nat), f' = updL g [(0, v0_0.v), (1, (.int .i64 c57)), (5, (.int .i64 c58))] ∧ Ent cs' [cown (OwnS 132 ow132) F56 v0_0.v c55] ∧ l_markStoredS_L1 m59 c55 c57 c58 = some R) ⟨_, _, _, _, F0_0, (EqL.cons rfl (EqL.cons rfl (EqL.cons rfl (EqL.nil)))).eq, (.sel (.cons .h .nil)), hF⟩ ?_))
  clear hF
  rintro m59 _ _ ⟨g60, c55, c57, c58, F56, rfl, hE, hF⟩
  refine K_ent hE ?_
  clear hE
  rcases m59 with _ | m59
  · rw [l_markStoredS_L1] at hF
    exact absurd hF (by simp)
  rw [l_markStoredS_L1] at hF
  refine K_in (K_region (Cm (.int .i64 c58) rfl rfl ?_))
  refine Cm v0_0.v rfl rfl ?_
  refine C_at .h (fun hp => V_lenR (l := c55.length) sl42 (.tmp rfl rfl) (cown_len hp)) ?_
  refine C_val (V_lss (i := c58) (j := (c55.length : Int)) (.tmp rfl rfl) (.tmp rfl rfl)) ?_
  refine C_nil (CW_cond (b := (decide ((c58 : Int) < (c55.length : Int)))) (.tmp rfl rfl) (fun hb111 => ?_) (fun hb111 => ?_))
  · rw [if_pos hb111] at hF
    refine CW_skip (K_block (K_region (Cm v0_0.v rfl rfl ?_)))
    refine Cm (.int .i64 c58) rfl rfl ?_
    refine Cm (.int .i64 c57) rfl rfl ?_
    obtain ⟨x70, hx71, hF⟩ := bind_some hF
    have hi69 := ix_chk hx71
    obtain ⟨hp72, hx73⟩ := ix_some hx71
    refine C_idxO sl42 ty132.sz (.tmp rfl rfl) (.tmp rfl rfl) .h hi69 (fun k67 hk68 => ?_)
    refine C_val (V_fieldAddr (off := 0) fd132_0 (.tmp rfl rfl)) ?_
    refine C_val (V_fieldAddr (off := 0) fd69_0 (.tmp rfl rfl)) ?_
    obtain ⟨z74, hx75, hF⟩ := bind_some hF
    replace hx75 := Option.some.inj hx75
    refine C_x1 (.cons .h .nil) (X_storeF (Ro := ow132) (i := c58) ty3.sz rfl (.tmp rfl rfl) (.tmp rfl rfl) hk68 hx73 rfl rfl fsf132_0 (sf132_0 (d := c57))) (fun _ => ?_)
    rw [hx75]
    refine C_nil (K_region (Cm (.int .i64 c57) rfl rfl ?_))
    refine C_val (V_add (i := c57) (j := 1) (.tmp rfl rfl) (.int _ _)) ?_
    refine Ca (.int .i64 (IntKind.i64.wrap (c57 + 1))) rfl rfl ?_
    refine C_nil (K_region (Cm v0_0.v rfl rfl ?_))
    refine Cm (.int .i64 c58) rfl rfl ?_
    obtain ⟨x79, hx80, hF⟩ := bind_some hF
    have hi78 := ix_chk hx80
    obtain ⟨hp81, hx82⟩ := ix_some hx80
    refine C_idxO sl42 ty132.sz (.tmp rfl rfl) (.tmp rfl rfl) .h hi78 (fun k76 hk77 => ?_)
    refine C_val (V_fieldAddr (off := 0) fd132_0 (.tmp rfl rfl)) ?_
    refine C_val (V_fieldAddr (off := 1) fd69_1 (.tmp rfl rfl)) ?_
    refine C_ldOV ag22 (.tmp rfl rfl) .h hk77 hx82 pt132_1 (fun w83 => ?_)
    refine Cm (.int .i64 (IntKind.i64.wrap (c57 + 1))) rfl rfl ?_
    obtain ⟨r84, hx85, hF⟩ := bind_some hF
    obtain ⟨z87, hx88, hF⟩ := bind_some hF
    replace hx88 := Option.some.inj hx88
    refine C_x1 (.cons .h .nil) (X_part hx82 pt132_1 (fun Fw => X_callS cf49 (.cons (.tmp rfl rfl) (.cons (.tmp rfl rfl) .nil)) (l_markIntS_ok x79.Access.Values w83 Fw (IntKind.i64.wrap (c57 + 1)) _ hx85)) rfl) (fun p86 => ?_)
    rw [hx88]
    refine Ca (.int .i64 r84.1) rfl rfl ?_
    refine C_nil (K_region (Cm v0_0.v rfl rfl ?_))
    refine Cm (.int .i64 c58) rfl rfl ?_
    obtain ⟨x92, hx93, hF⟩ := bind_some hF
    have hi91 := ix_chk hx93
    obtain ⟨hp94, hx95⟩ := ix_some hx93
    refine C_idxO sl42 ty132.sz (.tmp rfl rfl) (.tmp rfl rfl) .h hi91 (fun k89 hk90 => ?_)
    refine C_val (V_fieldAddr (off := 2) fd132_1 (.tmp rfl rfl)) ?_
    refine C_ldOV ag39 (.tmp rfl rfl) .h hk90 hx95 pt132_2 (fun w96 => ?_)
    refine Cm (.int .i64 r84.1) rfl rfl ?_
    obtain ⟨r97, hx98, hF⟩ := bind_some hF
    obtain ⟨z100, hx101, hF⟩ := bind_some hF
    replace hx101 := Option.some.inj hx101
    refine C_x1 (.cons .h .nil) (X_part hx95 pt132_2 (fun Fw => X_callS cf34 (.cons (.tmp rfl rfl) (.cons (.tmp rfl rfl) .nil)) (l_markFactS_ok x92.Facts w96 Fw r84.1 _ hx98)) rfl) (fun p99 => ?_)
    rw [hx101]
    refine Ca (.int .i64 r97.1) rfl rfl ?_
    refine C_nil (K_region (Cm v0_0.v rfl rfl ?_))
    refine Cm (.int .i64 c58) rfl rfl ?_
    refine Cm (.int .i64 r97.1) rfl rfl ?_
    obtain ⟨x105, hx106, hF⟩ := bind_some hF
    have hi104 := ix_chk hx106
    obtain ⟨hp107, hx108⟩ := ix_some hx106
    refine C_idxO sl42 ty132.sz (.tmp rfl rfl) (.tmp rfl rfl) .h hi104 (fun k102 hk103 => ?_)
    refine C_val (V_fieldAddr (off := 3) fd132_2 (.tmp rfl rfl)) ?_
    obtain ⟨z109, hx110, hF⟩ := bind_some hF
    replace hx110 := Option.some.inj hx110
    refine C_x1 (.cons .h .nil) (X_storeF (Ro := ow132) (i := c58) ty3.sz rfl (.tmp rfl rfl) (.tmp rfl rfl) hk103 hx108 rfl rfl fsf132_3 (sf132_3 (d := r97.1))) (fun _ => ?_)
    rw [hx110]
    refine C_nil (CW_region (Cm (.int .i64 r97.1) rfl rfl ?_))
    refine C_val (V_add (i := r97.1) (j := 1) (.tmp rfl rfl) (.int _ _)) ?_
    refine Ca (.int .i64 (IntKind.i64.wrap (r97.1 + 1))) rfl rfl ?_
    refine C_nil (CW_region (Cm (.int .i64 c58) rfl rfl ?_))
    refine C_val (V_add (i := c58) (j := 1) (.tmp rfl rfl) (.int _ _)) ?_
    refine Ca (.int .i64 (IntKind.i64.wrap (c58 + 1))) rfl rfl ?_
    refine C_nil ?_
    exact ⟨m59, Nat.lt_succ_self _, _, _, _, _, p99.2, (EqL.cons rfl (EqL.cons rfl (EqL.cons rfl (EqL.nil)))).eq, (.sel (.cons .h .nil)), hF⟩
  rw [if_neg (by rw [hb111]; exact Bool.false_ne_true)] at hF
  refine CW_exit ?_
  iterate 2 refine CThen_exit ?_
  refine CIn_self (K_region (Cm (.int .i64 c57) rfl rfl ?_))
  refine Ca (.int .i64 c57) rfl rfl ?_
  refine C_nil (CW_ret ?_)
  obtain rfl := Option.some.inj hF
  exact End_ret F56 (.tmp rfl rfl .nil) rfl (.sel (.cons .h .nil))

/-! laws.markCache -/
def l_markCache (a_a : Cache) (a_k : Int) : Option (Int × Cache) :=
  (l_markStoredS a_a.Entries a_k).bind fun r2 =>
  some (r2.1, ({ Entries := r2.2, Age := a_a.Age } : Cache))
theorem l_markCache_ok (a_a : Cache) (v0_0 : Sv) (F0_0 : List Nat) (a_k : Int) (R : Int × Cache) (hF : l_markCache a_a a_k = some R) :
    Fw.Spec Tryz.prog 101 [(.agg [v0_0.v, (.int .i64 a_a.Age)].toArray), (.int .i64 a_k)] [cown (OwnS 132 ow132) F0_0 v0_0.v a_a.Entries] (fun _ : List Nat => (.int .i64 R.1)) (fun p => [cown (OwnS 132 ow132) p v0_0.v R.2.Entries]) := by
  refine Spec_enter (n := 10) Tryz.func101 rfl rfl (rs := [.tmp 4]) rfl rfl rfl ?_
  intro H0 F0
  unfold l_markCache at hF
  refine K_region (C_newR rfl (N_box (g := false) (v := (.agg [v0_0.v, (.int .i64 a_a.Age)].toArray)) ty44.sz (.tmp rfl rfl) rfl) (fun k1 => ?_))
  refine C_val (V_assign (v := (.int .i64 0)) (.int _ _)) ?_
  refine C_nil (K_region (C_val (V_fieldAddr (off := 0) fd44_0 (.tmp rfl rfl)) ?_))
  refine C_at .h (fun hp => V_load (v := v0_0.v) ag42 (.tmp rfl rfl) hp.2 rfl rfl) ?_
  refine Cm (.int .i64 a_k) rfl rfl ?_
  obtain ⟨r2, hx3, hF⟩ := bind_some hF
  refine C_x1 (.cons (.t .h) .nil) (X_callS cf171 (.cons (.tmp rfl rfl) (.cons (.tmp rfl rfl) .nil)) (l_markStoredS_ok a_a.Entries v0_0 F0_0 a_k _ hx3)) (fun p4 => ?_)
  refine Ca (.int .i64 r2.1) rfl rfl ?_
  refine C_nil (K_region (Cm (.int .i64 r2.1) rfl rfl ?_))
  refine Ca (.int .i64 r2.1) rfl rfl ?_
  refine C_nil (CW_ret ?_)
  obtain rfl := Option.some.inj hF
  exact End_ret p4 (.tmp rfl rfl .nil) rfl (.sel (.cons .h .nil))

/-! laws.markAccessS -/
def l_markAccessS_L1 : Nat → (List Access) → Int → Int → Option (Int × (List Access))
  | 0, _, _, _ => none
  | m37 + 1, c33, c35, c36 => if (decide ((c36 : Int) < (c33.length : Int))) then (
      (ix c33 c36).bind fun x48 =>
      (some (c33.set (c36).toNat { x48 with Method := c35 })).bind fun z52 =>
      (ix z52 c36).bind fun x57 =>
      (l_markIntS x57.Values (IntKind.i64.wrap (c35 + 1))).bind fun r62 =>
      (some (z52.set (c36).toNat { x57 with Values := r62.2 })).bind fun z65 =>
      l_markAccessS_L1 m37 z65 r62.1 (IntKind.i64.wrap (c36 + 1)))
    else (
      some (c35, c33))
def l_markAccessS (a_a : List Access) (a_k : Int) : Option (Int × (List Access)) :=
  l_markAccessS_L1 (((a_a.length : Int) - 0).toNat + 2) a_a a_k 0
theorem l_markAccessS_ok (a_a : List Access) (v0_0 : Sv) (F0_0 : List Nat) (a_k : Int) (R : Int × (List Access)) (hF : l_markAccessS a_a a_k = some R) :
    Fw.Spec Tryz.prog 29 [v0_0.v, (.int .i64 a_k)] [cown (OwnS 69 ow69) F0_0 v0_0.v a_a] (fun _ : List Nat => (.int .i64 R.1)) (fun p => [cown (OwnS 69 ow69) p v0_0.v R.2]) := by
  refine Spec_enter (n := 27) Tryz.func29 rfl rfl (rs := [.tmp 4]) rfl rfl rfl ?_
  intro H0 F0
  unfold l_markAccessS at hF
  refine K_region (C_val (V_assign (v := (.int .i64 0)) (.int _ _)) ?_)
  refine C_nil (K_in (K_region (C_val (V_assign (v := (.int .i64 0)) (.int _ _)) ?_)))
  refine C_nil (CW_block (CW_loop (m := (((a_a.length : Int) - 0).toNat + 2)) (fun m37 f' cs' => ∃ (g : Fr) (c33 : List Access) (c35 : Int) (c36 : Int) (F34 : List Nat), f' = updL g [(0, v0_0.v), (1, (.int .i64 c35)), (5, (.int .i64 c36))] ∧ Ent cs' [cown (OwnS 69 ow69) F34 v0_0.v c33] ∧ l_markAccessS_L1 m37 c33 c35 c36 = some R) ⟨_, _, _, _, F0_0, (EqL.cons rfl (EqL.cons rfl (EqL.cons rfl (EqL.nil)))).eq, (.sel (.cons .h .nil)), hF⟩ ?_))
  clear hF
  rintro m37 _ _ ⟨g38, c33, c35, c36, F34, rfl, hE, hF⟩
  refine K_ent hE ?_
  clear hE
  rcases m37 with _ | m37
  · rw [l_markAccessS_L1] at hF
    exact absurd hF (by simp)
  rw [l_markAccessS_L1] at hF
  refine K_in (K_region (Cm (.int .i64 c36) rfl rfl ?_))
  refine Cm v0_0.v rfl rfl ?_
  refine C_at .h (fun hp => V_lenR (l := c33.length) sl45 (.tmp rfl rfl) (cown_len hp)) ?_
  refine C_val (V_lss (i := c36) (j := (c33.length : Int)) (.tmp rfl rfl) (.tmp rfl rfl)) ?_
  refine C_nil (CW_cond (b := (decide ((c36 : Int) < (c33.length : Int)))) (.tmp rfl rfl) (fun hb67 => ?_) (fun hb67 => ?_))
  · rw [if_pos hb67] at hF
    refine CW_skip (K_block (K_region (Cm v0_0.v rfl rfl ?_)))
    refine Cm (.int .i64 c36) rfl rfl ?_
    refine Cm (.int .i64 c35) rfl rfl ?_
    obtain ⟨x48, hx49, hF⟩ := bind_some hF
    have hi47 := ix_chk hx49
    obtain ⟨hp50, hx51⟩ := ix_some hx49
    refine C_idxO sl45 ty69.sz (.tmp rfl rfl) (.tmp rfl rfl) .h hi47 (fun k45 hk46 => ?_)
    refine C_val (V_fieldAddr (off := 0) fd69_0 (.tmp rfl rfl)) ?_
    obtain ⟨z52, hx53, hF⟩ := bind_some hF
    replace hx53 := Option.some.inj hx53
    refine C_x1 (.cons .h .nil) (X_storeF (Ro := ow69) (i := c36) ty3.sz rfl (.tmp rfl rfl) (.tmp rfl rfl) hk46 hx51 rfl rfl fsf69_0 (sf69_0 (d := c35))) (fun _ => ?_)
    rw [hx53]
    refine C_nil (K_region (Cm (.int .i64 c35) rfl rfl ?_))
    refine C_val (V_add (i := c35) (j := 1) (.tmp rfl rfl) (.int _ _)) ?_
    refine Ca (.int .i64 (IntKind.i64.wrap (c35 + 1))) rfl rfl ?_
    refine C_nil (CW_region (Cm v0_0.v rfl rfl ?_))
    refine Cm (.int .i64 c36) rfl rfl ?_
    obtain ⟨x57, hx58, hF⟩ := bind_some hF
    have hi56 := ix_chk hx58
    obtain ⟨hp59, hx60⟩ := ix_some hx58
    refine C_idxO sl45 ty69.sz (.tmp rfl rfl) (.tmp rfl rfl) .h hi56 (fun k54 hk55 => ?_)
    refine C_val (V_fieldAddr (off := 1) fd69_1 (.tmp rfl rfl)) ?_
    refine C_ldOV ag22 (.tmp rfl rfl) .h hk55 hx60 pt69_1 (fun w61 => ?_)
    refine Cm (.int .i64 (IntKind.i64.wrap (c35 + 1))) rfl rfl ?_
    obtain ⟨r62, hx63, hF⟩ := bind_some hF
    obtain ⟨z65, hx66, hF⟩ := bind_some hF
    replace hx66 := Option.some.inj hx66
    refine C_x1 (.cons .h .nil) (X_part hx60 pt69_1 (fun Fw => X_callS cf49 (.cons (.tmp rfl rfl) (.cons (.tmp rfl rfl) .nil)) (l_markIntS_ok x57.Values w61 Fw (IntKind.i64.wrap (c35 + 1)) _ hx63)) rfl) (fun p64 => ?_)
    rw [hx66]
    refine Ca (.int .i64 r62.1) rfl rfl ?_
    refine C_nil (CW_region (Cm (.int .i64 c36) rfl rfl ?_))
    refine C_val (V_add (i := c36) (j := 1) (.tmp rfl rfl) (.int _ _)) ?_
    refine Ca (.int .i64 (IntKind.i64.wrap (c36 + 1))) rfl rfl ?_
    refine C_nil ?_
    exact ⟨m37, Nat.lt_succ_self _, _, _, _, _, p64.2, (EqL.cons rfl (EqL.cons rfl (EqL.cons rfl (EqL.nil)))).eq, (.sel (.cons .h .nil)), hF⟩
  rw [if_neg (by rw [hb67]; exact Bool.false_ne_true)] at hF
  refine CW_exit ?_
  iterate 2 refine CThen_exit ?_
  refine CIn_self (K_region (Cm (.int .i64 c35) rfl rfl ?_))
  refine Ca (.int .i64 c35) rfl rfl ?_
  refine C_nil (CW_ret ?_)
  obtain rfl := Option.some.inj hF
  exact End_ret F34 (.tmp rfl rfl .nil) rfl (.sel (.cons .h .nil))

/-! laws.markIntSS -/
def l_markIntSS_L1 : Nat → (List (List Int)) → Int → Int → Option (Int × (List (List Int)))
  | 0, _, _, _ => none
  | m28 + 1, c24, c26, c27 => if (decide ((c27 : Int) < (c24.length : Int))) then (
      (ix c24 c27).bind fun x39 =>
      (l_markIntS x39 c26).bind fun r44 =>
      (some (c24.set (c27).toNat r44.2)).bind fun z47 =>
      l_markIntSS_L1 m28 z47 r44.1 (IntKind.i64.wrap (c27 + 1)))
    else (
      some (c26, c24))
def l_markIntSS (a_a : List (List Int)) (a_k : Int) : Option (Int × (List (List Int))) :=
  l_markIntSS_L1 (((a_a.length : Int) - 0).toNat + 2) a_a a_k 0
theorem l_markIntSS_ok (a_a : List (List Int)) (v0_0 : Sv) (F0_0 : List Nat) (a_k : Int) (R : Int × (List (List Int))) (hF : l_markIntSS a_a a_k = some R) :
    Fw.Spec Tryz.prog 24 [v0_0.v, (.int .i64 a_k)] [cown (OwnS 22 (OwnS 3 (roE rdInt))) F0_0 v0_0.v a_a] (fun _ : List Nat => (.int .i64 R.1)) (fun p => [cown (OwnS 22 (OwnS 3 (roE rdInt))) p v0_0.v R.2]) := by
  refine Spec_enter (n := 19) Tryz.func24 rfl rfl (rs := [.tmp 4]) rfl rfl rfl ?_
  intro H0 F0
  unfold l_markIntSS at hF
  refine K_region (C_val (V_assign (v := (.int .i64 0)) (.int _ _)) ?_)
  refine C_nil (K_in (K_region (C_val (V_assign (v := (.int .i64 0)) (.int _ _)) ?_)))
  refine C_nil (CW_block (CW_loop (m := (((a_a.length : Int) - 0).toNat + 2)) (fun m28 f' cs' => ∃ (g : Fr) (c24 : List (List Int)) (c26 : Int) (c27 : Int) (F25 : List Nat), f' = updL g [(0, v0_0.v), (1, (.int .i64 c26)), (5, (.int .i64 c27))] ∧ Ent cs' [cown (OwnS 22 (OwnS 3 (roE rdInt))) F25 v0_0.v c24] ∧ l_markIntSS_L1 m28 c24 c26 c27 = some R) ⟨_, _, _, _, F0_0, (EqL.cons rfl (EqL.cons rfl (EqL.cons rfl (EqL.nil)))).eq, (.sel (.cons .h .nil)), hF⟩ ?_))
  clear hF
  rintro m28 _ _ ⟨g29, c24, c26, c27, F25, rfl, hE, hF⟩
  refine K_ent hE ?_
  clear hE
  rcases m28 with _ | m28
  · rw [l_markIntSS_L1] at hF
    exact absurd hF (by simp)
  rw [l_markIntSS_L1] at hF
  refine K_in (K_region (Cm (.int .i64 c27) rfl rfl ?_))
  refine Cm v0_0.v rfl rfl ?_
  refine C_at .h (fun hp => V_lenR (l := c24.length) sl51 (.tmp rfl rfl) (cown_len hp)) ?_
  refine C_val (V_lss (i := c27) (j := (c24.length : Int)) (.tmp rfl rfl) (.tmp rfl rfl)) ?_
  refine C_nil (CW_cond (b := (decide ((c27 : Int) < (c24.length : Int)))) (.tmp rfl rfl) (fun hb49 => ?_) (fun hb49 => ?_))
  · rw [if_pos hb49] at hF
    refine CW_skip (K_block (CW_region (Cm v0_0.v rfl rfl ?_)))
    refine Cm (.int .i64 c27) rfl rfl ?_
    obtain ⟨x39, hx40, hF⟩ := bind_some hF
    have hi38 := ix_chk hx40
    obtain ⟨hp41, hx42⟩ := ix_some hx40
    refine C_idxO sl51 ty22.sz (.tmp rfl rfl) (.tmp rfl rfl) .h hi38 (fun k36 hk37 => ?_)
    refine C_ldOV ag22 (.tmp rfl rfl) .h hk37 hx42 pt22_0 (fun w43 => ?_)
    refine Cm (.int .i64 c26) rfl rfl ?_
    obtain ⟨r44, hx45, hF⟩ := bind_some hF
    obtain ⟨z47, hx48, hF⟩ := bind_some hF
    replace hx48 := Option.some.inj hx48
    refine C_x1 (.cons .h .nil) (X_part hx42 pt22_0 (fun Fw => X_callS cf49 (.cons (.tmp rfl rfl) (.cons (.tmp rfl rfl) .nil)) (l_markIntS_ok x39 w43 Fw c26 _ hx45)) rfl) (fun p46 => ?_)
    rw [hx48]
    refine Ca (.int .i64 r44.1) rfl rfl ?_
    refine C_nil (CW_region (Cm (.int .i64 c27) rfl rfl ?_))
    refine C_val (V_add (i := c27) (j := 1) (.tmp rfl rfl) (.int _ _)) ?_
    refine Ca (.int .i64 (IntKind.i64.wrap (c27 + 1))) rfl rfl ?_
    refine C_nil ?_
    exact ⟨m28, Nat.lt_succ_self _, _, _, _, _, p46.2, (EqL.cons rfl (EqL.cons rfl (EqL.cons rfl (EqL.nil)))).eq, (.sel (.cons .h .nil)), hF⟩
  rw [if_neg (by rw [hb49]; exact Bool.false_ne_true)] at hF
  refine CW_exit ?_
  iterate 2 refine CThen_exit ?_
  refine CIn_self (K_region (Cm (.int .i64 c26) rfl rfl ?_))
  refine Ca (.int .i64 c26) rfl rfl ?_
  refine C_nil (CW_ret ?_)
  obtain rfl := Option.some.inj hF
  exact End_ret F25 (.tmp rfl rfl .nil) rfl (.sel (.cons .h .nil))

/-! laws.markIntSSS -/
def l_markIntSSS_L1 : Nat → (List (List (List Int))) → Int → Int → Option (Int × (List (List (List Int))))
  | 0, _, _, _ => none
  | m28 + 1, c24, c26, c27 => if (decide ((c27 : Int) < (c24.length : Int))) then (
      (ix c24 c27).bind fun x39 =>
      (l_markIntSS x39 c26).bind fun r44 =>
      (some (c24.set (c27).toNat r44.2)).bind fun z47 =>
      l_markIntSSS_L1 m28 z47 r44.1 (IntKind.i64.wrap (c27 + 1)))
    else (
      some (c26, c24))
def l_markIntSSS (a_a : List (List (List Int))) (a_k : Int) : Option (Int × (List (List (List Int)))) :=
  l_markIntSSS_L1 (((a_a.length : Int) - 0).toNat + 2) a_a a_k 0
theorem l_markIntSSS_ok (a_a : List (List (List Int))) (v0_0 : Sv) (F0_0 : List Nat) (a_k : Int) (R : Int × (List (List (List Int)))) (hF : l_markIntSSS a_a a_k = some R) :
    Fw.Spec Tryz.prog 102 [v0_0.v, (.int .i64 a_k)] [cown (OwnS 51 (OwnS 22 (OwnS 3 (roE rdInt)))) F0_0 v0_0.v a_a] (fun _ : List Nat => (.int .i64 R.1)) (fun p => [cown (OwnS 51 (OwnS 22 (OwnS 3 (roE rdInt)))) p v0_0.v R.2]) := by
  refine Spec_enter (n := 19) Tryz.func102 rfl rfl (rs := [.tmp 4]) rfl rfl rfl ?_
  intro H0 F0
  unfold l_markIntSSS at hF
  refine K_region (C_val (V_assign (v := (.int .i64 0)) (.int _ _)) ?_)
  refine C_nil (K_in (K_region (C_val (V_assign (v := (.int .i64 0)) (.int _ _)) ?_)))
  refine C_nil (CW_block (CW_loop (m := (((a_a.length : Int) - 0).toNat + 2)) (fun m28 f' cs' => ∃ (g : Fr) (c24 : List (List (List Int))) (c26 : Int) (c27 : Int) (F25 : List Nat), f' = updL g [(0, v0_0.v), (1, (.int .i64 c26)), (5, (.int .i64 c27))] ∧ Ent cs' [cown (OwnS 51 (OwnS 22 (OwnS 3 (roE rdInt)))) F25 v0_0.v c24] ∧ l_markIntSSS_L1 m28 c24 c26 c27 = some R) ⟨_, _, _, _, F0_0, (EqL.cons rfl (EqL.cons rfl (EqL.cons rfl (EqL.nil)))).eq, (.sel (.cons .h .nil)), hF⟩ ?_))
  clear hF
  rintro m28 _ _ ⟨g29, c24, c26, c27, F25, rfl, hE, hF⟩
  refine K_ent hE ?_
  clear hE
  rcases m28 with _ | m28
  · rw [l_markIntSSS_L1] at hF
    exact absurd hF (by simp)
  rw [l_markIntSSS_L1] at hF
  refine K_in (K_region (Cm (.int .i64 c27) rfl rfl ?_))
  refine Cm v0_0.v rfl rfl ?_
  refine C_at .h (fun hp => V_lenR (l := c24.length) sl32 (.tmp rfl rfl) (cown_len hp)) ?_
  refine C_val (V_lss (i := c27) (j := (c24.length : Int)) (.tmp rfl rfl) (.tmp rfl rfl)) ?_
  refine C_nil (CW_cond (b := (decide ((c27 : Int) < (c24.length : Int)))) (.tmp rfl rfl) (fun hb49 => ?_) (fun hb49 => ?_))
  · rw [if_pos hb49] at hF
    refine CW_skip (K_block (CW_region (Cm v0_0.v rfl rfl ?_)))
    refine Cm (.int .i64 c27) rfl rfl ?_
    obtain ⟨x39, hx40, hF⟩ := bind_some hF
    have hi38 := ix_chk hx40
    obtain ⟨hp41, hx42⟩ := ix_some hx40
    refine C_idxO sl32 ty51.sz (.tmp rfl rfl) (.tmp rfl rfl) .h hi38 (fun k36 hk37 => ?_)
    refine C_ldOV ag51 (.tmp rfl rfl) .h hk37 hx42 pt51_0 (fun w43 => ?_)
    refine Cm (.int .i64 c26) rfl rfl ?_
    obtain ⟨r44, hx45, hF⟩ := bind_some hF
    obtain ⟨z47, hx48, hF⟩ := bind_some hF
    replace hx48 := Option.some.inj hx48
    refine C_x1 (.cons .h .nil) (X_part hx42 pt51_0 (fun Fw => X_callS cf24 (.cons (.tmp rfl rfl) (.cons (.tmp rfl rfl) .nil)) (l_markIntSS_ok x39 w43 Fw c26 _ hx45)) rfl) (fun p46 => ?_)
    rw [hx48]
    refine Ca (.int .i64 r44.1) rfl rfl ?_
    refine C_nil (CW_region (Cm (.int .i64 c27) rfl rfl ?_))
    refine C_val (V_add (i := c27) (j := 1) (.tmp rfl rfl) (.int _ _)) ?_
    refine Ca (.int .i64 (IntKind.i64.wrap (c27 + 1))) rfl rfl ?_
    refine C_nil ?_
    exact ⟨m28, Nat.lt_succ_self _, _, _, _, _, p46.2, (EqL.cons rfl (EqL.cons rfl (EqL.cons rfl (EqL.nil)))).eq, (.sel (.cons .h .nil)), hF⟩
  rw [if_neg (by rw [hb49]; exact Bool.false_ne_true)] at hF
  refine CW_exit ?_
  iterate 2 refine CThen_exit ?_
  refine CIn_self (K_region (Cm (.int .i64 c26) rfl rfl ?_))
  refine Ca (.int .i64 c26) rfl rfl ?_
  refine C_nil (CW_ret ?_)
  obtain rfl := Option.some.inj hF
  exact End_ret F25 (.tmp rfl rfl .nil) rfl (.sel (.cons .h .nil))

/-! laws.markMediator -/
def l_markMediator (a_a : Mediator) (a_k : Int) : Option (Int × Mediator) :=
  (l_markIntS a_a.Schema a_k).bind fun r2 =>
  (l_markMethodS a_a.Methods r2.1).bind fun r5 =>
  (l_markRuleS a_a.Rules r5.1).bind fun r8 =>
  (l_markSource a_a.Source r8.1).bind fun r11 =>
  (l_markCache a_a.Cache r11.1).bind fun r14 =>
  (l_markAccessS a_a.Log r14.1).bind fun r17 =>
  (l_markIntS a_a.Times r17.1).bind fun r20 =>
  (l_markIntSSS a_a.Results r20.1).bind fun r23 =>
  some (r23.1, ({ Schema := r2.2, Methods := r5.2, Rules := r8.2, Source := ({ Facts := r11.2.Facts, Version := a_a.Source.Version } : Source), Cache := ({ Entries := r14.2.Entries, Age := a_a.Cache.Age } : Cache), Now := a_a.Now, Log := r17.2, Times := r20.2, Spent := a_a.Spent, Results := r23.2 } : Mediator))
theorem l_markMediator_ok (a_a : Mediator) (v0_0 : Sv) (F0_0 : List Nat) (v0_1 : Sv) (F0_1 : List Nat) (v0_2 : Sv) (F0_2 : List Nat) (v0_3 : Sv) (F0_3 : List Nat) (v0_5 : Sv) (F0_5 : List Nat) (v0_8 : Sv) (F0_8 : List Nat) (v0_9 : Sv) (F0_9 : List Nat) (v0_11 : Sv) (F0_11 : List Nat) (a_k : Int) (R : Int × Mediator) (hF : l_markMediator a_a a_k = some R) :
    Fw.Spec Tryz.prog 23 [(.agg [v0_0.v, v0_1.v, v0_2.v, v0_3.v, (.int .i64 a_a.Source.Version), v0_5.v, (.int .i64 a_a.Cache.Age), (.int .i64 a_a.Now), v0_8.v, v0_9.v, (.int .i64 a_a.Spent), v0_11.v].toArray), (.int .i64 a_k)] [cown (OwnS 3 (roE rdInt)) F0_0 v0_0.v a_a.Schema, cown (OwnS 100 ow100) F0_1 v0_1.v a_a.Methods, cown (OwnS 91 ow91) F0_2 v0_2.v a_a.Rules, cown (OwnS 75 ow75) F0_3 v0_3.v a_a.Source.Facts, cown (OwnS 132 ow132) F0_5 v0_5.v a_a.Cache.Entries, cown (OwnS 69 ow69) F0_8 v0_8.v a_a.Log, cown (OwnS 3 (roE rdInt)) F0_9 v0_9.v a_a.Times, cown (OwnS 51 (OwnS 22 (OwnS 3 (roE rdInt)))) F0_11 v0_11.v a_a.Results] (fun _ : List Nat × List Nat × List Nat × List Nat × List Nat × List Nat × List Nat × List Nat => (.int .i64 R.1)) (fun p => [cown (OwnS 3 (roE rdInt)) p.1 v0_0.v R.2.Schema, cown (OwnS 100 ow100) p.2.1 v0_1.v R.2.Methods, cown (OwnS 91 ow91) p.2.2.1 v0_2.v R.2.Rules, cown (OwnS 75 ow75) p.2.2.2.1 v0_3.v R.2.Source.Facts, cown (OwnS 132 ow132) p.2.2.2.2.1 v0_5.v R.2.Cache.Entries, cown (OwnS 69 ow69) p.2.2.2.2.2.1 v0_8.v R.2.Log, cown (OwnS 3 (roE rdInt)) p.2.2.2.2.2.2.1 v0_9.v R.2.Times, cown (OwnS 51 (OwnS 22 (OwnS 3 (roE rdInt)))) p.2.2.2.2.2.2.2 v0_11.v R.2.Results]) := by
  refine Spec_enter (n := 38) Tryz.func23 rfl rfl (rs := [.tmp 4]) rfl rfl rfl ?_
  intro H0 F0
  unfold l_markMediator at hF
  refine K_region (C_newR rfl (N_box (g := false) (v := (.agg [v0_0.v, v0_1.v, v0_2.v, v0_3.v, (.int .i64 a_a.Source.Version), v0_5.v, (.int .i64 a_a.Cache.Age), (.int .i64 a_a.Now), v0_8.v, v0_9.v, (.int .i64 a_a.Spent), v0_11.v].toArray)) ty47.sz (.tmp rfl rfl) rfl) (fun k1 => ?_))
  refine C_val (V_assign (v := (.int .i64 0)) (.int _ _)) ?_
  refine C_nil (K_region (C_val (V_fieldAddr (off := 0) fd47_0 (.tmp rfl rfl)) ?_))
  refine C_at .h (fun hp => V_load (v := v0_0.v) ag22 (.tmp rfl rfl) hp.2 rfl rfl) ?_
  refine Cm (.int .i64 a_k) rfl rfl ?_
  obtain ⟨r2, hx3, hF⟩ := bind_some hF
  refine C_x1 (.cons (.t .h) .nil) (X_callS cf49 (.cons (.tmp rfl rfl) (.cons (.tmp rfl rfl) .nil)) (l_markIntS_ok a_a.Schema v0_0 F0_0 a_k _ hx3)) (fun p4 => ?_)
  refine Ca (.int .i64 r2.1) rfl rfl ?_
  refine C_nil (K_region (C_val (V_fieldAddr (off := 1) fd47_1 (.tmp rfl rfl)) ?_))
  refine C_at (.t .h) (fun hp => V_load (v := v0_1.v) ag37 (.tmp rfl rfl) hp.2 rfl rfl) ?_
  refine Cm (.int .i64 r2.1) rfl rfl ?_
  obtain ⟨r5, hx6, hF⟩ := bind_some hF
  refine C_x1 (.cons (.t (.t .h)) .nil) (X_callS cf50 (.cons (.tmp rfl rfl) (.cons (.tmp rfl rfl) .nil)) (l_markMethodS_ok a_a.Methods v0_1 F0_1 r2.1 _ hx6)) (fun p7 => ?_)
  refine Ca (.int .i64 r5.1) rfl rfl ?_
  refine C_nil (K_region (C_val (V_fieldAddr (off := 2) fd47_2 (.tmp rfl rfl)) ?_))
  refine C_at (.t (.t .h)) (fun hp => V_load (v := v0_2.v) ag38 (.tmp rfl rfl) hp.2 rfl rfl) ?_
  refine Cm (.int .i64 r5.1) rfl rfl ?_
  obtain ⟨r8, hx9, hF⟩ := bind_some hF
  refine C_x1 (.cons (.t (.t (.t .h))) .nil) (X_callS cf99 (.cons (.tmp rfl rfl) (.cons (.tmp rfl rfl) .nil)) (l_markRuleS_ok a_a.Rules v0_2 F0_2 r5.1 _ hx9)) (fun p10 => ?_)
  refine Ca (.int .i64 r8.1) rfl rfl ?_
  refine C_nil (K_region (C_val (V_fieldAddr (off := 3) fd47_3 (.tmp rfl rfl)) ?_))
  refine C_at (.t (.t (.t .h))) (fun hp => V_loadA (s := 2) (l := [v0_3.v, (.int .i64 a_a.Source.Version)]) ag41 ty41.sz (.tmp rfl rfl) hp.2 rfl (by decide) (Nat.le_of_ble_eq_true rfl) rfl) ?_
  refine Cm (.int .i64 r8.1) rfl rfl ?_
  obtain ⟨r11, hx12, hF⟩ := bind_some hF
  refine C_x1 (.cons (.t (.t (.t (.t .h)))) .nil) (X_callS cf100 (.cons (.tmp rfl rfl) (.cons (.tmp rfl rfl) .nil)) (l_markSource_ok a_a.Source v0_3 F0_3 r8.1 _ hx12)) (fun p13 => ?_)
  refine Ca (.int .i64 r11.1) rfl rfl ?_
  refine C_nil (K_region (C_val (V_fieldAddr (off := 5) fd47_4 (.tmp rfl rfl)) ?_))
  refine C_at (.t (.t (.t (.t .h)))) (fun hp => V_loadA (s := 2) (l := [v0_5.v, (.int .i64 a_a.Cache.Age)]) ag44 ty44.sz (.tmp rfl rfl) hp.2 rfl (by decide) (Nat.le_of_ble_eq_true rfl) rfl) ?_
  refine Cm (.int .i64 r11.1) rfl rfl ?_
  obtain ⟨r14, hx15, hF⟩ := bind_some hF
  refine C_x1 (.cons (.t (.t (.t (.t (.t .h))))) .nil) (X_callS cf101 (.cons (.tmp rfl rfl) (.cons (.tmp rfl rfl) .nil)) (l_markCache_ok a_a.Cache v0_5 F0_5 r11.1 _ hx15)) (fun p16 => ?_)
  refine Ca (.int .i64 r14.1) rfl rfl ?_
  refine C_nil (K_region (C_val (V_fieldAddr (off := 8) fd47_6 (.tmp rfl rfl)) ?_))
  refine C_at (.t (.t (.t (.t (.t .h))))) (fun hp => V_load (v := v0_8.v) ag45 (.tmp rfl rfl) hp.2 rfl rfl) ?_
  refine Cm (.int .i64 r14.1) rfl rfl ?_
  obtain ⟨r17, hx18, hF⟩ := bind_some hF
  refine C_x1 (.cons (.t (.t (.t (.t (.t (.t .h)))))) .nil) (X_callS cf29 (.cons (.tmp rfl rfl) (.cons (.tmp rfl rfl) .nil)) (l_markAccessS_ok a_a.Log v0_8 F0_8 r14.1 _ hx18)) (fun p19 => ?_)
  refine Ca (.int .i64 r17.1) rfl rfl ?_
  refine C_nil (K_region (C_val (V_fieldAddr (off := 9) fd47_7 (.tmp rfl rfl)) ?_))
  refine C_at (.t (.t (.t (.t (.t (.t .h)))))) (fun hp => V_load (v := v0_9.v) ag22 (.tmp rfl rfl) hp.2 rfl rfl) ?_
  refine Cm (.int .i64 r17.1) rfl rfl ?_
  obtain ⟨r20, hx21, hF⟩ := bind_some hF
  refine C_x1 (.cons (.t (.t (.t (.t (.t (.t (.t .h))))))) .nil) (X_callS cf49 (.cons (.tmp rfl rfl) (.cons (.tmp rfl rfl) .nil)) (l_markIntS_ok a_a.Times v0_9 F0_9 r17.1 _ hx21)) (fun p22 => ?_)
  refine Ca (.int .i64 r20.1) rfl rfl ?_
  refine C_nil (K_region (C_val (V_fieldAddr (off := 11) fd47_9 (.tmp rfl rfl)) ?_))
  refine C_at (.t (.t (.t (.t (.t (.t (.t .h))))))) (fun hp => V_load (v := v0_11.v) ag32 (.tmp rfl rfl) hp.2 rfl rfl) ?_
  refine Cm (.int .i64 r20.1) rfl rfl ?_
  obtain ⟨r23, hx24, hF⟩ := bind_some hF
  refine C_x1 (.cons (.t (.t (.t (.t (.t (.t (.t (.t .h)))))))) .nil) (X_callS cf102 (.cons (.tmp rfl rfl) (.cons (.tmp rfl rfl) .nil)) (l_markIntSSS_ok a_a.Results v0_11 F0_11 r20.1 _ hx24)) (fun p25 => ?_)
  refine Ca (.int .i64 r23.1) rfl rfl ?_
  refine C_nil (K_region (Cm (.int .i64 r23.1) rfl rfl ?_))
  refine Ca (.int .i64 r23.1) rfl rfl ?_
  refine C_nil (CW_ret ?_)
  obtain rfl := Option.some.inj hF
  exact End_ret (p4, p7, p10, p13, p16, p19, p22, p25) (.tmp rfl rfl .nil) rfl (.sel (.cons (.t (.t (.t (.t (.t (.t (.t .h))))))) (.cons (.t (.t (.t (.t (.t (.t .h)))))) (.cons (.t (.t (.t (.t (.t .h))))) (.cons (.t (.t (.t (.t .h)))) (.cons (.t (.t (.t .h))) (.cons (.t (.t .h)) (.cons (.t .h) (.cons .h .nil)))))))))

/-! laws.heldIntS -/
def l_heldIntS_L1 : List Int → Nat → Int → Option (Int)
  | [], k5, c1 => some c1
  | x7 :: rest6, k5, c1 => if ((x7 : Int) != c1) then (
      some (-1))
    else (
      l_heldIntS_L1 rest6 (k5 + 1) (IntKind.i64.wrap (c1 + 1)))
def l_heldIntS (a_a : List Int) (a_k : Int) : Option (Int) :=
  l_heldIntS_L1 a_a 0 a_k
theorem l_heldIntS_ok (a_a : List Int) (v0_0 : Sv) (a_k : Int) (R : Int) (hF : l_heldIntS a_a a_k = some R) :
    Fw.Spec Tryz.prog 103 [v0_0.v, (.int .i64 a_k)] [crd (RdS 3 rdInt) v0_0.v a_a] (fun _ : Unit => (.int .i64 R)) (fun _ => []) := by
  refine Spec_enter (n := 21) Tryz.func103 rfl rfl (rs := [.tmp 4]) rfl rfl rfl ?_
  intro H0 F0
  unfold l_heldIntS at hF
  refine K_region (C_val (V_assign (v := (.int .i64 0)) (.int _ _)) ?_)
  refine C_nil (K_in (K_region (C_val (V_assign (v := (.int .i64 0)) (.int _ _)) ?_)))
  refine C_nil (CW_block (CW_loop (m := a_a.length) (fun m3 f' cs' => ∃ (g : Fr) (k5 : Nat) (rest6 : List Int) (c1 : Int), m3 = rest6.length ∧ f' = updL g [(0, v0_0.v), (1, (.int .i64 c1)), (5, (.int .i64 (k5 : Int)))] ∧ List.drop k5 a_a = rest6 ∧ Ent cs' [crd (RdS 3 rdInt) v0_0.v a_a] ∧ l_heldIntS_L1 rest6 k5 c1 = some R) ⟨_, 0, _, _, rfl, (EqL.cons rfl (EqL.cons rfl (EqL.cons rfl (EqL.nil)))).eq, rfl, (.sel (.rd .h rfl .nil)), hF⟩ ?_))
  clear hF
  rintro m3 _ _ ⟨g4, k5, rest6, c1, rfl, rfl, hd8, hE, hF⟩
  refine K_ent hE ?_
  clear hE
  refine K_pure (c := crd (RdS 3 rdInt) v0_0.v a_a) .h crd_bound (fun hbd13 => ?_)
  rcases rest6 with _ | ⟨x7, rest6⟩
  · have hk9 := List.drop_eq_nil_iff.1 hd8
    have hfe12 : (decide (((k5 : Int) : Int) < (a_a.length : Int))) = false := decide_eq_false (by omega)
    rw [l_heldIntS_L1] at hF
    refine K_in (K_region (Cm (.int .i64 (k5 : Int)) rfl rfl ?_))
    refine Cm v0_0.v rfl rfl ?_
    refine C_at .h (fun hp => V_lenR (l := a_a.length) sl22 (.tmp rfl rfl) (crd_len hp)) ?_
    refine C_val (V_lss (i := (k5 : Int)) (j := (a_a.length : Int)) (.tmp rfl rfl) (.tmp rfl rfl)) ?_
    refine C_nil (CW_cond (b := (decide (((k5 : Int) : Int) < (a_a.length : Int)))) (.tmp rfl rfl) (fun hb => absurd (hfe12.symm.trans hb) (by decide)) (fun _ => ?_))
    refine CW_exit ?_
    iterate 2 refine CThen_exit ?_
    refine CIn_self (K_region (Cm (.int .i64 c1) rfl rfl ?_))
    refine Ca (.int .i64 c1) rfl rfl ?_
    refine C_nil (CW_ret ?_)
    obtain rfl := Option.some.inj hF
    exact End_ret () (.tmp rfl rfl .nil) rfl (.sel .nil)
  obtain ⟨hk9, hx10, hd11⟩ := drop_cons hd8
  have hfe12 : (decide (((k5 : Int) : Int) < (a_a.length : Int))) = true := decide_eq_true (by omega)
  rw [l_heldIntS_L1] at hF
  refine K_in (K_region (Cm (.int .i64 (k5 : Int)) rfl rfl ?_))
  refine Cm v0_0.v rfl rfl ?_
  refine C_at .h (fun hp => V_lenR (l := a_a.length) sl22 (.tmp rfl rfl) (crd_len hp)) ?_
  refine C_val (V_lss (i := (k5 : Int)) (j := (a_a.length : Int)) (.tmp rfl rfl) (.tmp rfl rfl)) ?_
  refine C_nil (CW_cond (b := (decide (((k5 : Int) : Int) < (a_a.length : Int)))) (.tmp rfl rfl) (fun _ => ?_) (fun hb => absurd (hfe12.symm.trans hb) (by decide)))
  refine CW_skip (K_block (K_in (K_region (Cm v0_0.v rfl rfl ?_))))
  refine Cm (.int .i64 (k5 : Int)) rfl rfl ?_
  refine C_idx (a := x7) sl22 ty3.sz (.tmp rfl rfl) (.tmp rfl rfl) .h (Int.natCast_nonneg k5) hx10 (fun k14 j15 => ?_)
  refine C_ldS (w := (.int .i64 x7)) ag3 (.tmp rfl rfl) .h ls3_0 ?_
  refine Cm (.int .i64 c1) rfl rfl ?_
  refine C_val (V_neq (i := x7) (j := c1) (.tmp rfl rfl) (.tmp rfl rfl)) ?_
  refine C_nil (CW_cond (b := ((x7 : Int) != c1)) (.tmp rfl rfl) (fun hb17 => ?_) (fun hb17 => ?_))
  · rw [if_pos hb17] at hF
    refine K_region (C_val (V_assign (v := (.int .i64 (-1))) (.int _ _)) ?_)
    refine C_nil (CW_ret ?_)
    obtain rfl := Option.some.inj hF
    exact End_ret () (.tmp rfl rfl .nil) rfl (.sel .nil)
  rw [if_neg (by rw [hb17]; exact Bool.false_ne_true)] at hF
  refine CW_skip (CW_region (Cm (.int .i64 c1) rfl rfl ?_))
  refine C_val (V_add (i := c1) (j := 1) (.tmp rfl rfl) (.int _ _)) ?_
  refine Ca (.int .i64 (IntKind.i64.wrap (c1 + 1))) rfl rfl ?_
  refine C_nil (CW_region (Cm (.int .i64 (k5 : Int)) rfl rfl ?_))
  refine C_val (V_add (i := (k5 : Int)) (j := 1) (.tmp rfl rfl) (.int _ _)) ?_
  refine Ca (.int .i64 (IntKind.i64.wrap ((k5 : Int) + 1))) rfl rfl ?_
  refine C_nil ?_
  have hw16 : IntKind.i64.wrap ((k5 : Int) + 1) = ((k5 + 1 : Nat) : Int) := by rw [wrap_in (by omega) (by omega)]; rfl
  rw [hw16]
  exact ⟨_, Nat.lt_succ_self _, _, k5 + 1, rest6, _, rfl, (EqL.cons rfl (EqL.cons rfl (EqL.cons rfl (EqL.nil)))).eq, hd11, (.sel (.rd (.t .h) rfl .nil)), hF⟩

/-! laws.heldAccessS -/
def l_heldAccessS_L1 : List Access → Nat → Int → Option (Int)
  | [], k5, c1 => some c1
  | x7 :: rest6, k5, c1 => if ((x7.Method : Int) != c1) then (
      some (-1))
    else (
      (l_heldIntS x7.Values (IntKind.i64.wrap (c1 + 1))).bind fun r19 =>
      if (decide ((r19 : Int) < 0)) then (
        some (-1))
      else (
        l_heldAccessS_L1 rest6 (k5 + 1) r19))
def l_heldAccessS (a_a : List Access) (a_k : Int) : Option (Int) :=
  l_heldAccessS_L1 a_a 0 a_k
theorem l_heldAccessS_ok (a_a : List Access) (v0_0 : Sv) (a_k : Int) (R : Int) (hF : l_heldAccessS a_a a_k = some R) :
    Fw.Spec Tryz.prog 30 [v0_0.v, (.int .i64 a_k)] [crd (RdS 69 rd69) v0_0.v a_a] (fun _ : Unit => (.int .i64 R)) (fun _ => []) := by
  refine Spec_enter (n := 31) Tryz.func30 rfl rfl (rs := [.tmp 4]) rfl rfl rfl ?_
  intro H0 F0
  unfold l_heldAccessS at hF
  refine K_region (C_val (V_assign (v := (.int .i64 0)) (.int _ _)) ?_)
  refine C_nil (K_in (K_region (C_val (V_assign (v := (.int .i64 0)) (.int _ _)) ?_)))
  refine C_nil (CW_block (CW_loop (m := a_a.length) (fun m3 f' cs' => ∃ (g : Fr) (k5 : Nat) (rest6 : List Access) (c1 : Int), m3 = rest6.length ∧ f' = updL g [(0, v0_0.v), (1, (.int .i64 c1)), (5, (.int .i64 (k5 : Int)))] ∧ List.drop k5 a_a = rest6 ∧ Ent cs' [crd (RdS 69 rd69) v0_0.v a_a] ∧ l_heldAccessS_L1 rest6 k5 c1 = some R) ⟨_, 0, _, _, rfl, (EqL.cons rfl (EqL.cons rfl (EqL.cons rfl (EqL.nil)))).eq, rfl, (.sel (.rd .h rfl .nil)), hF⟩ ?_))
  clear hF
  rintro m3 _ _ ⟨g4, k5, rest6, c1, rfl, rfl, hd8, hE, hF⟩
  refine K_ent hE ?_
  clear hE
  refine K_pure (c := crd (RdS 69 rd69) v0_0.v a_a) .h crd_bound (fun hbd13 => ?_)
  rcases rest6 with _ | ⟨x7, rest6⟩
  · have hk9 := List.drop_eq_nil_iff.1 hd8
    have hfe12 : (decide (((k5 : Int) : Int) < (a_a.length : Int))) = false := decide_eq_false (by omega)
    rw [l_heldAccessS_L1] at hF
    refine K_in (K_region (Cm (.int .i64 (k5 : Int)) rfl rfl ?_))
    refine Cm v0_0.v rfl rfl ?_
    refine C_at .h (fun hp => V_lenR (l := a_a.length) sl45 (.tmp rfl rfl) (crd_len hp)) ?_
    refine C_val (V_lss (i := (k5 : Int)) (j := (a_a.length : Int)) (.tmp rfl rfl) (.tmp rfl rfl)) ?_
    refine C_nil (CW_cond (b := (decide (((k5 : Int) : Int) < (a_a.length : Int)))) (.tmp rfl rfl) (fun hb => absurd (hfe12.symm.trans hb) (by decide)) (fun _ => ?_))
    refine CW_exit ?_
    iterate 2 refine CThen_exit ?_
    refine CIn_self (K_region (Cm (.int .i64 c1) rfl rfl ?_))
    refine Ca (.int .i64 c1) rfl rfl ?_
    refine C_nil (CW_ret ?_)
    obtain rfl := Option.some.inj hF
    exact End_ret () (.tmp rfl rfl .nil) rfl (.sel .nil)
  obtain ⟨hk9, hx10, hd11⟩ := drop_cons hd8
  have hfe12 : (decide (((k5 : Int) : Int) < (a_a.length : Int))) = true := decide_eq_true (by omega)
  rw [l_heldAccessS_L1] at hF
  refine K_in (K_region (Cm (.int .i64 (k5 : Int)) rfl rfl ?_))
  refine Cm v0_0.v rfl rfl ?_
  refine C_at .h (fun hp => V_lenR (l := a_a.length) sl45 (.tmp rfl rfl) (crd_len hp)) ?_
  refine C_val (V_lss (i := (k5 : Int)) (j := (a_a.length : Int)) (.tmp rfl rfl) (.tmp rfl rfl)) ?_
  refine C_nil (CW_cond (b := (decide (((k5 : Int) : Int) < (a_a.length : Int)))) (.tmp rfl rfl) (fun _ => ?_) (fun hb => absurd (hfe12.symm.trans hb) (by decide)))
  refine CW_skip (K_block (K_in (K_region (Cm v0_0.v rfl rfl ?_))))
  refine Cm (.int .i64 (k5 : Int)) rfl rfl ?_
  refine C_idx (a := x7) sl45 ty69.sz (.tmp rfl rfl) (.tmp rfl rfl) .h (Int.natCast_nonneg k5) hx10 (fun k14 j15 => ?_)
  refine C_val (V_fieldAddr (off := 0) fd69_0 (.tmp rfl rfl)) ?_
  refine C_ldS (w := (.int .i64 x7.Method)) ag3 (.tmp rfl rfl) .h ls69_0 ?_
  refine Cm (.int .i64 c1) rfl rfl ?_
  refine C_val (V_neq (i := x7.Method) (j := c1) (.tmp rfl rfl) (.tmp rfl rfl)) ?_
  refine C_nil (CW_cond (b := ((x7.Method : Int) != c1)) (.tmp rfl rfl) (fun hb24 => ?_) (fun hb24 => ?_))
  · rw [if_pos hb24] at hF
    refine K_region (C_val (V_assign (v := (.int .i64 (-1))) (.int _ _)) ?_)
    refine C_nil (CW_ret ?_)
    obtain rfl := Option.some.inj hF
    exact End_ret () (.tmp rfl rfl .nil) rfl (.sel .nil)
  rw [if_neg (by rw [hb24]; exact Bool.false_ne_true)] at hF
  refine CW_skip (K_region (Cm (.int .i64 c1) rfl rfl ?_))
  refine C_val (V_add (i := c1) (j := 1) (.tmp rfl rfl) (.int _ _)) ?_
  refine Ca (.int .i64 (IntKind.i64.wrap (c1 + 1))) rfl rfl ?_
  refine C_nil (K_region (Cm v0_0.v rfl rfl ?_))
  refine Cm (.int .i64 (k5 : Int)) rfl rfl ?_
  refine C_idx (a := x7) sl45 ty69.sz (.tmp rfl rfl) (.tmp rfl rfl) (.t .h) (Int.natCast_nonneg k5) hx10 (fun k16 j17 => ?_)
  refine C_val (V_fieldAddr (off := 1) fd69_1 (.tmp rfl rfl)) ?_
  refine C_ldV (R' := (RdS 3 rdInt)) ag22 (.tmp rfl rfl) .h lv69_1 (fun w18 => ?_)
  refine Cm (.int .i64 (IntKind.i64.wrap (c1 + 1))) rfl rfl ?_
  obtain ⟨r19, hx20, hF⟩ := bind_some hF
  refine C_x0 (.rd .h rfl .nil) (X_callS cf103 (.cons (.tmp rfl rfl) (.cons (.tmp rfl rfl) .nil)) (l_heldIntS_ok x7.Values w18 (IntKind.i64.wrap (c1 + 1)) _ hx20)) (fun _ => ?_)
  refine Ca (.int .i64 r19) rfl rfl ?_
  refine C_nil (K_region (Cm (.int .i64 r19) rfl rfl ?_))
  refine C_val (V_lss (i := r19) (j := 0) (.tmp rfl rfl) (.int _ _)) ?_
  refine C_nil (CW_cond (b := (decide ((r19 : Int) < 0))) (.tmp rfl rfl) (fun hb23 => ?_) (fun hb23 => ?_))
  · rw [if_pos hb23] at hF
    refine K_region (C_val (V_assign (v := (.int .i64 (-1))) (.int _ _)) ?_)
    refine C_nil (CW_ret ?_)
    obtain rfl := Option.some.inj hF
    exact End_ret () (.tmp rfl rfl .nil) rfl (.sel .nil)
  rw [if_neg (by rw [hb23]; exact Bool.false_ne_true)] at hF
  refine CW_skip (CW_region (Cm (.int .i64 (k5 : Int)) rfl rfl ?_))
  refine C_val (V_add (i := (k5 : Int)) (j := 1) (.tmp rfl rfl) (.int _ _)) ?_
  refine Ca (.int .i64 (IntKind.i64.wrap ((k5 : Int) + 1))) rfl rfl ?_
  refine C_nil ?_
  have hw22 : IntKind.i64.wrap ((k5 : Int) + 1) = ((k5 + 1 : Nat) : Int) := by rw [wrap_in (by omega) (by omega)]; rfl
  rw [hw22]
  exact ⟨_, Nat.lt_succ_self _, _, k5 + 1, rest6, _, rfl, (EqL.cons rfl (EqL.cons rfl (EqL.cons rfl (EqL.nil)))).eq, hd11, (.sel (.rd (.t (.t (.t .h))) rfl .nil)), hF⟩

/-! laws.FnExactStaleEntries -/
def l_FnExactStaleEntries (a_aM : Mediator) : Option (Bool) :=
  (l_szMediator a_aM 1048576).bind fun r2 =>
  if (decide ((r2 : Int) < 0)) then (
    some true)
  else (
    (l_toMediator a_aM).bind fun r5 =>
    (s_StaleEntries r5).bind fun r8 =>
    (l_toMediator a_aM).bind fun r11 =>
    (i_StaleEntries r11).bind fun r15 =>
    (l_eqAccessS r15 r8).bind fun r18 =>
    if (!r18) then (
      some false)
    else (
      (l_toMediator a_aM).bind fun r21 =>
      (l_eqMediator r11 r21).bind fun r24 =>
      if (!r24) then (
        some false)
      else (
        (l_markMediator r11 1).bind fun r27 =>
        (bif (decide ((r27.1 : Int) < 0)) then (some true)
          else ((l_eqAccessS r15 r8).bind fun r33 =>
            some (!r33))).bind fun o30 =>
        match o30 with
        | c36 => if c36 then (
            some false)
          else (
            (l_markAccessS r15 1).bind fun r37 =>
            (l_heldAccessS r37.2 1).bind fun r40 =>
            if (decide ((r40 : Int) < 0)) then (
              some false)
            else (
              if ((r40 : Int) != r37.1) then (
                some false)
              else (
                (l_toMediator a_aM).bind fun r43 =>
                (i_StaleEntries r43).bind fun r46 =>
                (l_eqAccessS r46 r8).bind fun r49 =>
                if (!r49) then (
                  some false)
                else (
                  (l_heldAccessS r37.2 1).bind fun r52 =>
                  if (decide ((r52 : Int) < 0)) then (
                    some false)
                  else (
                    if ((r52 : Int) != r37.1) then (
                      some false)
                    else (
                      some true)))))))))
theorem l_FnExactStaleEntries_ok (a_aM : Mediator) (v0_0 : Sv) (v0_1 : Sv) (v0_2 : Sv) (v0_3 : Sv) (v0_5 : Sv) (v0_8 : Sv) (v0_9 : Sv) (v0_11 : Sv) (R : Bool) (hF : l_FnExactStaleEntries a_aM = some R) :
    Fw.Spec Tryz.prog 6 [(.agg [v0_0.v, v0_1.v, v0_2.v, v0_3.v, (.int .i64 a_aM.Source.Version), v0_5.v, (.int .i64 a_aM.Cache.Age), (.int .i64 a_aM.Now), v0_8.v, v0_9.v, (.int .i64 a_aM.Spent), v0_11.v].toArray)] [crd (RdS 3 rdInt) v0_0.v a_aM.Schema, crd (RdS 97 rd97) v0_1.v a_aM.Methods, crd (RdS 87 rd87) v0_2.v a_aM.Rules, crd (RdS 64 rd64) v0_3.v a_aM.Source.Facts, crd (RdS 205 rd205) v0_5.v a_aM.Cache.Entries, crd (RdS 156 rd156) v0_8.v a_aM.Log, crd (RdS 3 rdInt) v0_9.v a_aM.Times, crd (RdS 51 (RdS 22 (RdS 3 rdInt))) v0_11.v a_aM.Results] (fun _ : Unit => (.bool R)) (fun _ => []) := by
  refine Spec_enter (n := 69) Tryz.func6 rfl rfl (rs := [.tmp 2]) rfl rfl rfl ?_
  intro H0 F0
  unfold l_FnExactStaleEntries at hF
  refine K_region (C_newR rfl (N_box (g := false) (v := (.agg [v0_0.v, v0_1.v, v0_2.v, v0_3.v, (.int .i64 a_aM.Source.Version), v0_5.v, (.int .i64 a_aM.Cache.Age), (.int .i64 a_aM.Now), v0_8.v, v0_9.v, (.int .i64 a_aM.Spent), v0_11.v].toArray)) ty34.sz (.tmp rfl rfl) rfl) (fun k1 => ?_))
  refine C_val (V_assign (v := (.bool false)) (.bool _)) ?_
  refine C_nil (K_region (C_val (V_assign (v := (.int .i64 1048576)) (.int _ _)) ?_))
  refine C_nil (K_region (C_at .h (fun hp => V_loadBox ag34 ty34.sz rfl (.tmp rfl rfl) hp.2 rfl) ?_))
  refine Cm (.int .i64 1048576) rfl rfl ?_
  obtain ⟨r2, hx3, hF⟩ := bind_some hF
  refine C_x0 (.rd (.t .h) rfl (.rd (.t (.t .h)) rfl (.rd (.t (.t (.t .h))) rfl (.rd (.t (.t (.t (.t .h)))) rfl (.rd (.t (.t (.t (.t (.t .h))))) rfl (.rd (.t (.t (.t (.t (.t (.t .h)))))) rfl (.rd (.t (.t (.t (.t (.t (.t (.t .h))))))) rfl (.rd (.t (.t (.t (.t (.t (.t (.t (.t .h)))))))) rfl .nil)))))))) (X_callS cf13 (.cons (.tmp rfl rfl) (.cons (.tmp rfl rfl) .nil)) (l_szMediator_ok a_aM v0_0 v0_1 v0_2 v0_3 v0_5 v0_8 v0_9 v0_11 1048576 _ hx3)) (fun _ => ?_)
  refine Ca (.int .i64 r2) rfl rfl ?_
  refine C_nil (K_in (K_region (Cm (.int .i64 r2) rfl rfl ?_)))
  refine C_val (V_lss (i := r2) (j := 0) (.tmp rfl rfl) (.int _ _)) ?_
  refine C_nil (CW_cond (b := (decide ((r2 : Int) < 0))) (.tmp rfl rfl) (fun hb64 => ?_) (fun hb64 => ?_))
  · rw [if_pos hb64] at hF
    refine K_region (C_val (V_assign (v := (.bool true)) (.bool _)) ?_)
    refine C_nil (CW_ret ?_)
    obtain rfl := Option.some.inj hF
    exact End_ret () (.tmp rfl rfl .nil) rfl (.sel .nil)
  rw [if_neg (by rw [hb64]; exact Bool.false_ne_true)] at hF
  refine CW_skip (K_region (C_at .h (fun hp => V_loadBox ag34 ty34.sz rfl (.tmp rfl rfl) hp.2 rfl) ?_))
  obtain ⟨r5, hx6, hF⟩ := bind_some hF
  refine C_x8 (.rd (.t .h) rfl (.rd (.t (.t .h)) rfl (.rd (.t (.t (.t .h))) rfl (.rd (.t (.t (.t (.t .h)))) rfl (.rd (.t (.t (.t (.t (.t .h))))) rfl (.rd (.t (.t (.t (.t (.t (.t .h)))))) rfl (.rd (.t (.t (.t (.t (.t (.t (.t .h))))))) rfl (.rd (.t (.t (.t (.t (.t (.t (.t (.t .h)))))))) rfl .nil)))))))) (X_callS cf15 (.cons (.tmp rfl rfl) .nil) (l_toMediator_ok a_aM v0_0 v0_1 v0_2 v0_3 v0_5 v0_8 v0_9 v0_11 _ hx6)) (fun p7 => ?_)
  obtain ⟨r8, hx9, hF⟩ := bind_some hF
  refine C_x9 (.cons (.t (.t (.t (.t (.t (.t (.t .h))))))) (.cons (.t (.t (.t (.t (.t (.t .h)))))) (.cons (.t (.t (.t (.t (.t .h))))) (.cons (.t (.t (.t (.t .h)))) (.cons (.t (.t (.t .h))) (.cons (.t (.t .h)) (.cons (.t .h) (.cons .h .nil)))))))) (XC_borL (pre := []) (.cons frz_own (.cons frz_own (.cons frz_own (.cons frz_own (.cons frz_own (.cons frz_own (.cons frz_own (.cons frz_own .nil)))))))) (fun _ => (.cons .nil)) (X_callS cf26 (.cons (.tmp rfl rfl) .nil) (s_StaleEntries_ok r5 p7.1 p7.2.2.1 p7.2.2.2.2.1 p7.2.2.2.2.2.2.1 p7.2.2.2.2.2.2.2.2.1 p7.2.2.2.2.2.2.2.2.2.2.1 p7.2.2.2.2.2.2.2.2.2.2.2.2.1 p7.2.2.2.2.2.2.2.2.2.2.2.2.2.2.1 _ hx9))) (fun p10 => ?_)
  refine Ca p10.1.v rfl rfl ?_
  refine C_nil (K_region (C_at (.t (.t (.t (.t (.t (.t (.t (.t (.t .h))))))))) (fun hp => V_loadBox ag34 ty34.sz rfl (.tmp rfl rfl) hp.2 rfl) ?_))
  obtain ⟨r11, hx12, hF⟩ := bind_some hF
  refine C_x8 (.rd (.t (.t (.t (.t (.t (.t (.t (.t (.t (.t .h)))))))))) rfl (.rd (.t (.t (.t (.t (.t (.t (.t (.t (.t (.t (.t .h))))))))))) rfl (.rd (.t (.t (.t (.t (.t (.t (.t (.t (.t (.t (.t (.t .h)))))))))))) rfl (.rd (.t (.t (.t (.t (.t (.t (.t (.t (.t (.t (.t (.t (.t .h))))))))))))) rfl (.rd (.t (.t (.t (.t (.t (.t (.t (.t (.t (.t (.t (.t (.t (.t .h)))))))))))))) rfl (.rd (.t (.t (.t (.t (.t (.t (.t (.t (.t (.t (.t (.t (.t (.t (.t .h))))))))))))))) rfl (.rd (.t (.t (.t (.t (.t (.t (.t (.t (.t (.t (.t (.t (.t (.t (.t (.t .h)))))))))))))))) rfl (.rd (.t (.t (.t (.t (.t (.t (.t (.t (.t (.t (.t (.t (.t (.t (.t (.t (.t .h))))))))))))))))) rfl .nil)))))))) (X_callS cf15 (.cons (.tmp rfl rfl) .nil) (l_toMediator_ok a_aM v0_0 v0_1 v0_2 v0_3 v0_5 v0_8 v0_9 v0_11 _ hx12)) (fun p13 => ?_)
  refine C_new rfl (N_allocT (g := true) ty47 rfl rfl) (fun k14 => ?_)
  refine C_x1 (.cons .h .nil) (X_storeB (e' := (.agg [p13.1.v, p13.2.2.1.v, p13.2.2.2.2.1.v, p13.2.2.2.2.2.2.1.v, (.int .i64 r11.Source.Version), p13.2.2.2.2.2.2.2.2.1.v, (.int .i64 r11.Cache.Age), (.int .i64 r11.Now), p13.2.2.2.2.2.2.2.2.2.2.1.v, p13.2.2.2.2.2.2.2.2.2.2.2.2.1.v, (.int .i64 r11.Spent), p13.2.2.2.2.2.2.2.2.2.2.2.2.2.2.1.v].toArray)) (v := (.agg [p13.1.v, p13.2.2.1.v, p13.2.2.2.2.1.v, p13.2.2.2.2.2.2.1.v, (.int .i64 r11.Source.Version), p13.2.2.2.2.2.2.2.2.1.v, (.int .i64 r11.Cache.Age), (.int .i64 r11.Now), p13.2.2.2.2.2.2.2.2.2.2.1.v, p13.2.2.2.2.2.2.2.2.2.2.2.2.1.v, (.int .i64 r11.Spent), p13.2.2.2.2.2.2.2.2.2.2.2.2.2.2.1.v].toArray)) ty47.sz (.tmp rfl rfl) (.tmp rfl rfl) rfl rfl rfl rfl rfl) (fun _ => ?_)
  refine C_nil (K_region (C_at .h (fun hp => V_loadBox ag47 ty47.sz rfl (.tmp rfl rfl) hp.2 rfl) ?_))
  obtain ⟨r15, hx16, hF⟩ := bind_some hF
  refine C_x9 (.cons (.t (.t (.t (.t (.t (.t (.t (.t .h)))))))) (.cons (.t (.t (.t (.t (.t (.t (.t .h))))))) (.cons (.t (.t (.t (.t (.t (.t .h)))))) (.cons (.t (.t (.t (.t (.t .h))))) (.cons (.t (.t (.t (.t .h)))) (.cons (.t (.t (.t .h))) (.cons (.t (.t .h)) (.cons (.t .h) .nil)))))))) (XC_borL (pre := []) (.cons frz_own (.cons frz_own (.cons frz_own (.cons frz_own (.cons frz_own (.cons frz_own (.cons frz_own (.cons frz_own .nil)))))))) (fun _ => (.cons .nil)) (X_callS cf27 (.cons (.tmp rfl rfl) .nil) (i_StaleEntries_ok r11 p13.1 p13.2.2.1 p13.2.2.2.2.1 p13.2.2.2.2.2.2.1 p13.2.2.2.2.2.2.2.2.1 p13.2.2.2.2.2.2.2.2.2.2.1 p13.2.2.2.2.2.2.2.2.2.2.2.2.1 p13.2.2.2.2.2.2.2.2.2.2.2.2.2.2.1 _ hx16))) (fun p17 => ?_)
  refine Ca p17.1.v rfl rfl ?_
  refine C_nil (K_in (K_region (Cm p17.1.v rfl rfl ?_)))
  refine Cm p10.1.v rfl rfl ?_
  obtain ⟨r18, hx19, hF⟩ := bind_some hF
  refine C_x2 (.cons (.t (.t (.t (.t (.t (.t (.t (.t (.t (.t (.t (.t (.t (.t (.t (.t (.t (.t .h)))))))))))))))))) (.cons (.t (.t (.t (.t (.t (.t (.t (.t .h)))))))) .nil)) (XC_borL (pre := []) (.cons frz_own (.cons frz_own .nil)) (fun _ => .nil) (X_callS cf28 (.cons (.tmp rfl rfl) (.cons (.tmp rfl rfl) .nil)) (l_eqAccessS_ok r15 p17.1 r8 p10.1 _ hx19))) (fun _ => ?_)
  refine C_val (V_not (b := r18) (.tmp rfl rfl)) ?_
  refine C_nil (CW_cond (b := (!r18)) (.tmp rfl rfl) (fun hb63 => ?_) (fun hb63 => ?_))
  · rw [if_pos hb63] at hF
    refine K_region (C_val (V_assign (v := (.bool false)) (.bool _)) ?_)
    refine C_nil (CW_ret ?_)
    obtain rfl := Option.some.inj hF
    exact End_ret () (.tmp rfl rfl .nil) rfl (.sel .nil)
  rw [if_neg (by rw [hb63]; exact Bool.false_ne_true)] at hF
  refine CW_skip (K_in (K_draw [0, 1, 2, 3, 4] [0, 0, 2, 7, 15] [2, 3] mixed (by decide +kernel) ?_))
  refine D_atO rfl .no (.t (.t (.t (.t (.t (.t (.t (.t (.t (.t .h)))))))))) (fun ha hp => V_loadBox ag47 ty47.sz rfl (EN ha (.tmp rfl rfl) rfl) hp.2 rfl) ?_
  refine D_at rfl .no (.t (.t (.t (.t (.t (.t (.t (.t (.t (.t (.t (.t (.t (.t (.t (.t (.t (.t (.t .h))))))))))))))))))) rfl (fun ha hp => V_loadBox ag34 ty34.sz rfl (EN ha (.tmp rfl rfl) rfl) hp.2 rfl) ?_
  obtain ⟨r21, hx22, hF⟩ := bind_some hF
  refine D_act8 rfl rfl .no (.rd (.t (.t (.t (.t (.t (.t (.t (.t (.t (.t (.t (.t (.t (.t (.t (.t (.t (.t (.t (.t .h)))))))))))))))))))) rfl (.rd (.t (.t (.t (.t (.t (.t (.t (.t (.t (.t (.t (.t (.t (.t (.t (.t (.t (.t (.t (.t (.t .h))))))))))))))))))))) rfl (.rd (.t (.t (.t (.t (.t (.t (.t (.t (.t (.t (.t (.t (.t (.t (.t (.t (.t (.t (.t (.t (.t (.t .h)))))))))))))))))))))) rfl (.rd (.t (.t (.t (.t (.t (.t (.t (.t (.t (.t (.t (.t (.t (.t (.t (.t (.t (.t (.t (.t (.t (.t (.t .h))))))))))))))))))))))) rfl (.rd (.t (.t (.t (.t (.t (.t (.t (.t (.t (.t (.t (.t (.t (.t (.t (.t (.t (.t (.t (.t (.t (.t (.t (.t .h)))))))))))))))))))))))) rfl (.rd (.t (.t (.t (.t (.t (.t (.t (.t (.t (.t (.t (.t (.t (.t (.t (.t (.t (.t (.t (.t (.t (.t (.t (.t (.t .h))))))))))))))))))))))))) rfl (.rd (.t (.t (.t (.t (.t (.t (.t (.t (.t (.t (.t (.t (.t (.t (.t (.t (.t (.t (.t (.t (.t (.t (.t (.t (.t (.t .h)))))))))))))))))))))))))) rfl (.rd (.t (.t (.t (.t (.t (.t (.t (.t (.t (.t (.t (.t (.t (.t (.t (.t (.t (.t (.t (.t (.t (.t (.t (.t (.t (.t (.t .h))))))))))))))))))))))))))) rfl .nil)))))))) (.own (.t (.t (.t (.t (.t (.t (.t (.t (.t (.t .h)))))))))) (fun _ h => h) .nil) (fun ha => X_callS cf15 (.cons (EN ha (.tmp rfl rfl) rfl) .nil) (l_toMediator_ok a_aM v0_0 v0_1 v0_2 v0_3 v0_5 v0_8 v0_9 v0_11 _ hx22)) (fun p23 => ?_)
  obtain ⟨r24, hx25, hF⟩ := bind_some hF
  refine D_act16 rfl rfl .no (.cons (.t (.t (.t (.t (.t (.t (.t .h))))))) (.cons (.t (.t (.t (.t (.t (.t .h)))))) (.cons (.t (.t (.t (.t (.t .h))))) (.cons (.t (.t (.t (.t .h)))) (.cons (.t (.t (.t .h))) (.cons (.t (.t .h)) (.cons (.t .h) (.cons .h (.cons (.t (.t .h)) (.cons (.t (.t .h)) (.cons (.t (.t .h)) (.cons (.t (.t .h)) (.cons (.t (.t .h)) (.cons (.t (.t .h)) (.cons (.t (.t .h)) (.cons (.t (.t .h)) .nil)))))))))))))))) (.dep rfl .nil) (fun ha => XC_borL (pre := []) (.cons frz_own (.cons frz_own (.cons frz_own (.cons frz_own (.cons frz_own (.cons frz_own (.cons frz_own (.cons frz_own (.cons frz_own (.cons frz_own (.cons frz_own (.cons frz_own (.cons frz_own (.cons frz_own (.cons frz_own (.cons frz_own .nil)))))))))))))))) (fun _ => .nil) (X_callS cf17 (.cons (EN ha (.tmp rfl rfl) rfl) (.cons (EN ha (.tmp rfl rfl) rfl) .nil)) (l_eqMediator_ok r11 p13.1 p13.2.2.1 p13.2.2.2.2.1 p13.2.2.2.2.2.2.1 p13.2.2.2.2.2.2.2.2.1 p13.2.2.2.2.2.2.2.2.2.2.1 p13.2.2.2.2.2.2.2.2.2.2.2.2.1 p13.2.2.2.2.2.2.2.2.2.2.2.2.2.2.1 r21 p23.1 p23.2.2.1 p23.2.2.2.2.1 p23.2.2.2.2.2.2.1 p23.2.2.2.2.2.2.2.2.1 p23.2.2.2.2.2.2.2.2.2.2.1 p23.2.2.2.2.2.2.2.2.2.2.2.2.1 p23.2.2.2.2.2.2.2.2.2.2.2.2.2.2.1 _ hx25))) (fun _ => ?_)
  refine D_val rfl .no (fun ha => V_not (b := r24) (EN ha (.tmp rfl rfl) rfl)) ?_
  refine D_nil (CW_cond (b := (!r24)) (.tmp rfl rfl) (fun hb62 => ?_) (fun hb62 => ?_))
  · rw [if_pos hb62] at hF
    refine K_region (C_val (V_assign (v := (.bool false)) (.bool _)) ?_)
    refine C_nil (CW_ret ?_)
    obtain rfl := Option.some.inj hF
    exact End_ret () (.tmp rfl rfl .nil) rfl (.sel .nil)
  rw [if_neg (by rw [hb62]; exact Bool.false_ne_true)] at hF
  refine CW_skip (K_region (C_val (V_assign (v := (.int .i64 1)) (.int _ _)) ?_))
  refine C_nil (K_region (C_at (.t (.t (.t (.t (.t (.t (.t (.t (.t (.t (.t (.t (.t (.t (.t (.t (.t (.t .h)))))))))))))))))) (fun hp => V_loadBox ag47 ty47.sz rfl (.tmp rfl rfl) hp.2 rfl) ?_))
  refine Cm (.int .i64 1) rfl rfl ?_
  obtain ⟨r27, hx28, hF⟩ := bind_some hF
  refine C_x8 (.cons (.t (.t (.t (.t (.t (.t (.t (.t (.t (.t (.t (.t (.t (.t (.t .h))))))))))))))) (.cons (.t (.t (.t (.t (.t (.t (.t (.t (.t (.t (.t (.t (.t (.t .h)))))))))))))) (.cons (.t (.t (.t (.t (.t (.t (.t (.t (.t (.t (.t (.t (.t .h))))))))))))) (.cons (.t (.t (.t (.t (.t (.t (.t (.t (.t (.t (.t (.t .h)))))))))))) (.cons (.t (.t (.t (.t (.t (.t (.t (.t (.t (.t (.t .h))))))))))) (.cons (.t (.t (.t (.t (.t (.t (.t (.t (.t (.t .h)))))))))) (.cons (.t (.t (.t (.t (.t (.t (.t (.t (.t .h))))))))) (.cons (.t (.t (.t (.t (.t (.t (.t (.t .h)))))))) .nil)))))))) (X_callS cf23 (.cons (.tmp rfl rfl) (.cons (.tmp rfl rfl) .nil)) (l_markMediator_ok r11 p13.1 p13.2.1 p13.2.2.1 p13.2.2.2.1 p13.2.2.2.2.1 p13.2.2.2.2.2.1 p13.2.2.2.2.2.2.1 p13.2.2.2.2.2.2.2.1 p13.2.2.2.2.2.2.2.2.1 p13.2.2.2.2.2.2.2.2.2.1 p13.2.2.2.2.2.2.2.2.2.2.1 p13.2.2.2.2.2.2.2.2.2.2.2.1 p13.2.2.2.2.2.2.2.2.2.2.2.2.1 p13.2.2.2.2.2.2.2.2.2.2.2.2.2.1 p13.2.2.2.2.2.2.2.2.2.2.2.2.2.2.1 p13.2.2.2.2.2.2.2.2.2.2.2.2.2.2.2 1 _ hx28)) (fun p29 => ?_)
  refine Ca (.int .i64 r27.1) rfl rfl ?_
  refine C_nil (K_in ?_)
  obtain ⟨o30, hio30, hO31⟩ := bind_some hF
  refine K_region (C_cut (fun f' cs' => ∃ (c36 : Bool) (g : Fr), c36 = o30 ∧ f' = updL g [(1, (.pointer (some ⟨k1, 0, some 0⟩))), (4, p10.1.v), (6, p17.1.v), (42, (.bool c36))] ∧ Ent cs' [cboR k1 34 (.agg [v0_0.v, v0_1.v, v0_2.v, v0_3.v, (.int .i64 a_aM.Source.Version), v0_5.v, (.int .i64 a_aM.Cache.Age), (.int .i64 a_aM.Now), v0_8.v, v0_9.v, (.int .i64 a_aM.Spent), v0_11.v].toArray), crd (RdS 3 rdInt) v0_0.v a_aM.Schema, crd (RdS 97 rd97) v0_1.v a_aM.Methods, crd (RdS 87 rd87) v0_2.v a_aM.Rules, crd (RdS 64 rd64) v0_3.v a_aM.Source.Facts, crd (RdS 205 rd205) v0_5.v a_aM.Cache.Entries, crd (RdS 156 rd156) v0_8.v a_aM.Log, crd (RdS 3 rdInt) v0_9.v a_aM.Times, crd (RdS 51 (RdS 22 (RdS 3 rdInt))) v0_11.v a_aM.Results, cown (OwnS 69 ow69) p10.2 p10.1.v r8, cown (OwnS 69 ow69) p17.2 p17.1.v r15]) ?_ ?_)
  · replace hF := hio30
    refine Cm (.int .i64 r27.1) rfl rfl ?_
    refine C_val (V_lss (i := r27.1) (j := 0) (.tmp rfl rfl) (.int _ _)) ?_
    refine Cm (.bool (decide ((r27.1 : Int) < 0))) rfl rfl ?_
    rcases Bool.eq_false_or_eq_true (decide ((r27.1 : Int) < 0)) with hg32 | hg32
    · rw [hg32]
      try rw [hg32] at hF; dsimp only [cond_true, cond_false] at hF
      iterate 4 refine C_off (t := 37) rfl rfl rfl ?_
      refine C_val (V_pick (b := true) (u := (.bool true)) (v := undef) (.tmp rfl rfl) (.bool _) (.tmp rfl rfl)) ?_
      refine C_nil ?_
      obtain rfl := Option.some.inj hF
      exact ⟨_, _, rfl, (EqL.cons rfl (EqL.cons rfl (EqL.cons rfl (EqL.cons rfl (EqL.nil))))).eq, (.sel (.rd (.t (.t (.t (.t (.t (.t (.t (.t (.t (.t (.t (.t (.t (.t (.t (.t (.t (.t (.t (.t (.t (.t (.t (.t (.t (.t (.t .h))))))))))))))))))))))))))) rfl (.rd (.t (.t (.t (.t (.t (.t (.t (.t (.t (.t (.t (.t (.t (.t (.t (.t (.t (.t (.t (.t (.t (.t (.t (.t (.t (.t (.t (.t .h)))))))))))))))))))))))))))) rfl (.rd (.t (.t (.t (.t (.t (.t (.t (.t (.t (.t (.t (.t (.t (.t (.t (.t (.t (.t (.t (.t (.t (.t (.t (.t (.t (.t (.t (.t (.t .h))))))))))))))))))))))))))))) rfl (.rd (.t (.t (.t (.t (.t (.t (.t (.t (.t (.t (.t (.t (.t (.t (.t (.t (.t (.t (.t (.t (.t (.t (.t (.t (.t (.t (.t (.t (.t (.t .h)))))))))))))))))))))))))))))) rfl (.rd (.t (.t (.t (.t (.t (.t (.t (.t (.t (.t (.t (.t (.t (.t (.t (.t (.t (.t (.t (.t (.t (.t (.t (.t (.t (.t (.t (.t (.t (.t (.t .h))))))))))))))))))))))))))))))) rfl (.rd (.t (.t (.t (.t (.t (.t (.t (.t (.t (.t (.t (.t (.t (.t (.t (.t (.t (.t (.t (.t (.t (.t (.t (.t (.t (.t (.t (.t (.t (.t (.t (.t .h)))))))))))))))))))))))))))))))) rfl (.rd (.t (.t (.t (.t (.t (.t (.t (.t (.t (.t (.t (.t (.t (.t (.t (.t (.t (.t (.t (.t (.t (.t (.t (.t (.t (.t (.t (.t (.t (.t (.t (.t (.t .h))))))))))))))))))))))))))))))))) rfl (.rd (.t (.t (.t (.t (.t (.t (.t (.t (.t (.t (.t (.t (.t (.t (.t (.t (.t (.t (.t (.t (.t (.t (.t (.t (.t (.t (.t (.t (.t (.t (.t (.t (.t (.t .h)))))))))))))))))))))))))))))))))) rfl (.rd (.t (.t (.t (.t (.t (.t (.t (.t (.t (.t (.t (.t (.t (.t (.t (.t (.t (.t (.t (.t (.t (.t (.t (.t (.t (.t (.t (.t (.t (.t (.t (.t (.t (.t (.t .h))))))))))))))))))))))))))))))))))) rfl (.cons (.t (.t (.t (.t (.t (.t (.t (.t (.t (.t (.t (.t (.t (.t (.t (.t .h)))))))))))))))) (.cons (.t (.t (.t (.t (.t (.t (.t (.t (.t (.t (.t (.t (.t (.t (.t (.t .h)))))))))))))))) .nil))))))))))))⟩
    rw [hg32]
    try rw [hg32] at hF; dsimp only [cond_true, cond_false] at hF
    refine C_on (t := 37) rfl rfl rfl ?_
    refine Cm p17.1.v rfl rfl ?_
    refine C_on (t := 37) rfl rfl rfl ?_
    refine Cm p10.1.v rfl rfl ?_
    refine C_on (t := 37) rfl rfl rfl ?_
    obtain ⟨r33, hx34, hF⟩ := bind_some hF
    refine C_x2 (.cons (.t (.t (.t (.t (.t (.t (.t (.t (.t (.t (.t (.t (.t (.t (.t (.t .h)))))))))))))))) (.cons (.t (.t (.t (.t (.t (.t (.t (.t (.t (.t (.t (.t (.t (.t (.t (.t .h)))))))))))))))) .nil)) (XC_borL (pre := []) (.cons frz_own (.cons frz_own .nil)) (fun _ => .nil) (X_callS cf28 (.cons (.tmp rfl rfl) (.cons (.tmp rfl rfl) .nil)) (l_eqAccessS_ok r15 p17.1 r8 p10.1 _ hx34))) (fun _ => ?_)
    refine C_on (t := 37) rfl rfl rfl ?_
    refine C_val (V_not (b := r33) (.tmp rfl rfl)) ?_
    refine C_val (V_pick (b := false) (u := (.bool true)) (v := (.bool (!r33))) (.tmp rfl rfl) (.bool _) (.tmp rfl rfl)) ?_
    refine C_nil ?_
    obtain rfl := Option.some.inj hF
    exact ⟨_, _, rfl, (EqL.cons rfl (EqL.cons rfl (EqL.cons rfl (EqL.cons rfl (EqL.nil))))).eq, (.sel (.rd (.t (.t (.t (.t (.t (.t (.t (.t (.t (.t (.t (.t (.t (.t (.t (.t (.t (.t (.t (.t (.t (.t (.t (.t (.t (.t (.t .h))))))))))))))))))))))))))) rfl (.rd (.t (.t (.t (.t (.t (.t (.t (.t (.t (.t (.t (.t (.t (.t (.t (.t (.t (.t (.t (.t (.t (.t (.t (.t (.t (.t (.t (.t .h)))))))))))))))))))))))))))) rfl (.rd (.t (.t (.t (.t (.t (.t (.t (.t (.t (.t (.t (.t (.t (.t (.t (.t (.t (.t (.t (.t (.t (.t (.t (.t (.t (.t (.t (.t (.t .h))))))))))))))))))))))))))))) rfl (.rd (.t (.t (.t (.t (.t (.t (.t (.t (.t (.t (.t (.t (.t (.t (.t (.t (.t (.t (.t (.t (.t (.t (.t (.t (.t (.t (.t (.t (.t (.t .h)))))))))))))))))))))))))))))) rfl (.rd (.t (.t (.t (.t (.t (.t (.t (.t (.t (.t (.t (.t (.t (.t (.t (.t (.t (.t (.t (.t (.t (.t (.t (.t (.t (.t (.t (.t (.t (.t (.t .h))))))))))))))))))))))))))))))) rfl (.rd (.t (.t (.t (.t (.t (.t (.t (.t (.t (.t (.t (.t (.t (.t (.t (.t (.t (.t (.t (.t (.t (.t (.t (.t (.t (.t (.t (.t (.t (.t (.t (.t .h)))))))))))))))))))))))))))))))) rfl (.rd (.t (.t (.t (.t (.t (.t (.t (.t (.t (.t (.t (.t (.t (.t (.t (.t (.t (.t (.t (.t (.t (.t (.t (.t (.t (.t (.t (.t (.t (.t (.t (.t (.t .h))))))))))))))))))))))))))))))))) rfl (.rd (.t (.t (.t (.t (.t (.t (.t (.t (.t (.t (.t (.t (.t (.t (.t (.t (.t (.t (.t (.t (.t (.t (.t (.t (.t (.t (.t (.t (.t (.t (.t (.t (.t (.t .h)))))))))))))))))))))))))))))))))) rfl (.rd (.t (.t (.t (.t (.t (.t (.t (.t (.t (.t (.t (.t (.t (.t (.t (.t (.t (.t (.t (.t (.t (.t (.t (.t (.t (.t (.t (.t (.t (.t (.t (.t (.t (.t (.t .h))))))))))))))))))))))))))))))))))) rfl (.cons .h (.cons .h .nil))))))))))))⟩
  rintro _ _ ⟨c36, g61, rfl, rfl, hE⟩
  replace hF := hO31
  clear hO31
  try dsimp only at hF
  refine K_ent hE ?_
  refine CW_cond (b := c36) (.tmp rfl rfl) (fun hb60 => ?_) (fun hb60 => ?_)
  · rw [if_pos hb60] at hF
    refine K_region (C_val (V_assign (v := (.bool false)) (.bool _)) ?_)
    refine C_nil (CW_ret ?_)
    obtain rfl := Option.some.inj hF
    exact End_ret () (.tmp rfl rfl .nil) rfl (.sel .nil)
  rw [if_neg (by rw [hb60]; exact Bool.false_ne_true)] at hF
  refine CW_skip (K_region (C_val (V_assign (v := (.int .i64 1)) (.int _ _)) ?_))
  refine C_nil (K_region (Cm p17.1.v rfl rfl ?_))
  refine Cm (.int .i64 1) rfl rfl ?_
  obtain ⟨r37, hx38, hF⟩ := bind_some hF
  refine C_x1 (.cons (.t (.t (.t (.t (.t (.t (.t (.t (.t (.t .h)))))))))) .nil) (X_callS cf29 (.cons (.tmp rfl rfl) (.cons (.tmp rfl rfl) .nil)) (l_markAccessS_ok r15 p17.1 p17.2 1 _ hx38)) (fun p39 => ?_)
  refine Ca (.int .i64 r37.1) rfl rfl ?_
  refine C_nil (K_region (C_val (V_assign (v := (.int .i64 1)) (.int _ _)) ?_))
  refine C_nil (K_region (Cm p17.1.v rfl rfl ?_))
  refine Cm (.int .i64 1) rfl rfl ?_
  obtain ⟨r40, hx41, hF⟩ := bind_some hF
  refine C_x1 (.cons .h .nil) (XC_borL (pre := []) (.cons frz_own .nil) (fun _ => .nil) (X_callS cf30 (.cons (.tmp rfl rfl) (.cons (.tmp rfl rfl) .nil)) (l_heldAccessS_ok r37.2 p17.1 1 _ hx41))) (fun _ => ?_)
  refine Ca (.int .i64 r40) rfl rfl ?_
  refine C_nil (K_in (K_region (Cm (.int .i64 r40) rfl rfl ?_)))
  refine C_val (V_lss (i := r40) (j := 0) (.tmp rfl rfl) (.int _ _)) ?_
  refine C_nil (CW_cond (b := (decide ((r40 : Int) < 0))) (.tmp rfl rfl) (fun hb59 => ?_) (fun hb59 => ?_))
  · rw [if_pos hb59] at hF
    refine K_region (C_val (V_assign (v := (.bool false)) (.bool _)) ?_)
    refine C_nil (CW_ret ?_)
    obtain rfl := Option.some.inj hF
    exact End_ret () (.tmp rfl rfl .nil) rfl (.sel .nil)
  rw [if_neg (by rw [hb59]; exact Bool.false_ne_true)] at hF
  refine CW_skip (K_in (K_region (Cm (.int .i64 r40) rfl rfl ?_)))
  refine Cm (.int .i64 r37.1) rfl rfl ?_
  refine C_val (V_neq (i := r40) (j := r37.1) (.tmp rfl rfl) (.tmp rfl rfl)) ?_
  refine C_nil (CW_cond (b := ((r40 : Int) != r37.1)) (.tmp rfl rfl) (fun hb58 => ?_) (fun hb58 => ?_))
  · rw [if_pos hb58] at hF
    refine K_region (C_val (V_assign (v := (.bool false)) (.bool _)) ?_)
    refine C_nil (CW_ret ?_)
    obtain rfl := Option.some.inj hF
    exact End_ret () (.tmp rfl rfl .nil) rfl (.sel .nil)
  rw [if_neg (by rw [hb58]; exact Bool.false_ne_true)] at hF
  refine CW_skip (K_region (C_at (.t .h) (fun hp => V_loadBox ag34 ty34.sz rfl (.tmp rfl rfl) hp.2 rfl) ?_))
  obtain ⟨r43, hx44, hF⟩ := bind_some hF
  refine C_x8 (.rd (.t (.t .h)) rfl (.rd (.t (.t (.t .h))) rfl (.rd (.t (.t (.t (.t .h)))) rfl (.rd (.t (.t (.t (.t (.t .h))))) rfl (.rd (.t (.t (.t (.t (.t (.t .h)))))) rfl (.rd (.t (.t (.t (.t (.t (.t (.t .h))))))) rfl (.rd (.t (.t (.t (.t (.t (.t (.t (.t .h)))))))) rfl (.rd (.t (.t (.t (.t (.t (.t (.t (.t (.t .h))))))))) rfl .nil)))))))) (X_callS cf15 (.cons (.tmp rfl rfl) .nil) (l_toMediator_ok a_aM v0_0 v0_1 v0_2 v0_3 v0_5 v0_8 v0_9 v0_11 _ hx44)) (fun p45 => ?_)
  obtain ⟨r46, hx47, hF⟩ := bind_some hF
  refine C_x9 (.cons (.t (.t (.t (.t (.t (.t (.t .h))))))) (.cons (.t (.t (.t (.t (.t (.t .h)))))) (.cons (.t (.t (.t (.t (.t .h))))) (.cons (.t (.t (.t (.t .h)))) (.cons (.t (.t (.t .h))) (.cons (.t (.t .h)) (.cons (.t .h) (.cons .h .nil)))))))) (XC_borL (pre := []) (.cons frz_own (.cons frz_own (.cons frz_own (.cons frz_own (.cons frz_own (.cons frz_own (.cons frz_own (.cons frz_own .nil)))))))) (fun _ => (.cons .nil)) (X_callS cf27 (.cons (.tmp rfl rfl) .nil) (i_StaleEntries_ok r43 p45.1 p45.2.2.1 p45.2.2.2.2.1 p45.2.2.2.2.2.2.1 p45.2.2.2.2.2.2.2.2.1 p45.2.2.2.2.2.2.2.2.2.2.1 p45.2.2.2.2.2.2.2.2.2.2.2.2.1 p45.2.2.2.2.2.2.2.2.2.2.2.2.2.2.1 _ hx47))) (fun p48 => ?_)
  refine Ca p48.1.v rfl rfl ?_
  refine C_nil (K_in (K_region (Cm p48.1.v rfl rfl ?_)))
  refine Cm p10.1.v rfl rfl ?_
  obtain ⟨r49, hx50, hF⟩ := bind_some hF
  refine C_x2 (.cons (.t (.t (.t (.t (.t (.t (.t (.t (.t (.t (.t (.t (.t (.t (.t (.t (.t (.t (.t .h))))))))))))))))))) (.cons (.t (.t (.t (.t (.t (.t (.t (.t .h)))))))) .nil)) (XC_borL (pre := []) (.cons frz_own (.cons frz_own .nil)) (fun _ => .nil) (X_callS cf28 (.cons (.tmp rfl rfl) (.cons (.tmp rfl rfl) .nil)) (l_eqAccessS_ok r46 p48.1 r8 p10.1 _ hx50))) (fun _ => ?_)
  refine C_val (V_not (b := r49) (.tmp rfl rfl)) ?_
  refine C_nil (CW_cond (b := (!r49)) (.tmp rfl rfl) (fun hb57 => ?_) (fun hb57 => ?_))
  · rw [if_pos hb57] at hF
    refine K_region (C_val (V_assign (v := (.bool false)) (.bool _)) ?_)
    refine C_nil (CW_ret ?_)
    obtain rfl := Option.some.inj hF
    exact End_ret () (.tmp rfl rfl .nil) rfl (.sel .nil)
  rw [if_neg (by rw [hb57]; exact Bool.false_ne_true)] at hF
  refine CW_skip (K_region (C_val (V_assign (v := (.int .i64 1)) (.int _ _)) ?_))
  refine C_nil (K_region (Cm p17.1.v rfl rfl ?_))
  refine Cm (.int .i64 1) rfl rfl ?_
  obtain ⟨r52, hx53, hF⟩ := bind_some hF
  refine C_x1 (.cons (.t (.t (.t (.t (.t (.t (.t (.t (.t (.t .h)))))))))) .nil) (XC_borL (pre := []) (.cons frz_own .nil) (fun _ => .nil) (X_callS cf30 (.cons (.tmp rfl rfl) (.cons (.tmp rfl rfl) .nil)) (l_heldAccessS_ok r37.2 p17.1 1 _ hx53))) (fun _ => ?_)
  refine Ca (.int .i64 r52) rfl rfl ?_
  refine C_nil (K_in (K_region (Cm (.int .i64 r52) rfl rfl ?_)))
  refine C_val (V_lss (i := r52) (j := 0) (.tmp rfl rfl) (.int _ _)) ?_
  refine C_nil (CW_cond (b := (decide ((r52 : Int) < 0))) (.tmp rfl rfl) (fun hb56 => ?_) (fun hb56 => ?_))
  · rw [if_pos hb56] at hF
    refine K_region (C_val (V_assign (v := (.bool false)) (.bool _)) ?_)
    refine C_nil (CW_ret ?_)
    obtain rfl := Option.some.inj hF
    exact End_ret () (.tmp rfl rfl .nil) rfl (.sel .nil)
  rw [if_neg (by rw [hb56]; exact Bool.false_ne_true)] at hF
  refine CW_skip (K_in (K_region (Cm (.int .i64 r52) rfl rfl ?_)))
  refine Cm (.int .i64 r37.1) rfl rfl ?_
  refine C_val (V_neq (i := r52) (j := r37.1) (.tmp rfl rfl) (.tmp rfl rfl)) ?_
  refine C_nil (CW_cond (b := ((r52 : Int) != r37.1)) (.tmp rfl rfl) (fun hb55 => ?_) (fun hb55 => ?_))
  · rw [if_pos hb55] at hF
    refine K_region (C_val (V_assign (v := (.bool false)) (.bool _)) ?_)
    refine C_nil (CW_ret ?_)
    obtain rfl := Option.some.inj hF
    exact End_ret () (.tmp rfl rfl .nil) rfl (.sel .nil)
  rw [if_neg (by rw [hb55]; exact Bool.false_ne_true)] at hF
  refine CW_skip (K_region (C_val (V_assign (v := (.bool true)) (.bool _)) ?_))
  refine C_nil (CW_ret ?_)
  obtain rfl := Option.some.inj hF
  exact End_ret () (.tmp rfl rfl .nil) rfl (.sel .nil)

end Go.Proofs.YtipfillafgfecaaGreat
