/-
  Functions of the program as Lean functions, and that the calls return what these say: part 4. No conditions.
-/
import Derived.Shelf.Strconv.Itoa3
import Derived.Shelf.Strings.OnBuilder
import Derived.Test.YtfkhlplpbhadhaaGreatDoorMediatorLineG2
import Derived.KernelRfl
set_option maxRecDepth 100000
set_option linter.unusedVariables false
namespace Go.Proofs.YtfkhlplpbhadhaaGreatDoor
open Go Go.Fw

/-! laws.eqIntSS -/
def l_eqIntSS_L1 (a_b : List (List Int)) : List (List Int) → Nat → Option (Bool)
  | [], k4 => some true
  | x6 :: rest5, k4 => (ix a_b (k4 : Int)).bind fun x16 =>
    (l_eqIntS x6 x16).bind fun r23 =>
    if (!r23) then (
      some false)
    else (
      l_eqIntSS_L1 a_b rest5 (k4 + 1))
def l_eqIntSS (a_a : List (List Int)) (a_b : List (List Int)) : Option (Bool) :=
  if (((a_a.length : Int) : Int) != (a_b.length : Int)) then (
    some false)
  else (
    l_eqIntSS_L1 a_b a_a 0)
theorem l_eqIntSS_ok (a_a : List (List Int)) (v0_0 : Sv) (a_b : List (List Int)) (v1_0 : Sv) (R : Bool) (hF : l_eqIntSS a_a a_b = some R) :
    Fw.Spec Tryz.prog 86 [v0_0.v, v1_0.v] [crd (RdS 22 (RdS 3 rdInt)) v0_0.v a_a, crd (RdS 22 (RdS 3 rdInt)) v1_0.v a_b] (fun _ : Unit => (.bool R)) (fun _ => []) := by
  refine Spec_enter (n := 27) Tryz.func86 rfl rfl (rs := [.tmp 4]) rfl rfl rfl ?_
  intro H0 F0
  unfold l_eqIntSS at hF
  refine K_region (C_val (V_assign (v := (.bool false)) (.bool _)) ?_)
  refine C_nil (K_in (K_region (Cm v0_0.v rfl rfl ?_)))
  refine C_at .h (fun hp => V_lenR (l := a_a.length) sl83 (.tmp rfl rfl) (crd_len hp)) ?_
  refine Cm v1_0.v rfl rfl ?_
  refine C_at (.t .h) (fun hp => V_lenR (l := a_b.length) sl83 (.tmp rfl rfl) (crd_len hp)) ?_
  refine C_val (V_neq (i := (a_a.length : Int)) (j := (a_b.length : Int)) (.tmp rfl rfl) (.tmp rfl rfl)) ?_
  refine C_nil (CW_cond (b := (((a_a.length : Int) : Int) != (a_b.length : Int))) (.tmp rfl rfl) (fun hb28 => ?_) (fun hb28 => ?_))
  · rw [if_pos hb28] at hF
    refine K_region (C_val (V_assign (v := (.bool false)) (.bool _)) ?_)
    refine C_nil (CW_ret ?_)
    obtain rfl := Option.some.inj hF
    exact End_ret () (.tmp rfl rfl .nil) rfl (.sel .nil)
  rw [if_neg (by rw [hb28]; exact Bool.false_ne_true)] at hF
  refine CW_skip (K_in (K_region (C_val (V_assign (v := (.int .i64 0)) (.int _ _)) ?_)))
  refine C_nil (CW_block (CW_loop (m := a_a.length) (fun m2 f' cs' => ∃ (g : Fr) (k4 : Nat) (rest5 : List (List Int)), m2 = rest5.length ∧ f' = updL g [(0, v0_0.v), (1, v1_0.v), (5, (.int .i64 (k4 : Int)))] ∧ List.drop k4 a_a = rest5 ∧ Ent cs' [crd (RdS 22 (RdS 3 rdInt)) v0_0.v a_a, crd (RdS 22 (RdS 3 rdInt)) v1_0.v a_b] ∧ l_eqIntSS_L1 a_b rest5 k4 = some R) ⟨_, 0, _, rfl, (EqL.cons rfl (EqL.cons rfl (EqL.cons rfl (EqL.nil)))).eq, rfl, (.sel (.rd .h rfl (.rd (.t .h) rfl .nil))), hF⟩ ?_))
  clear hF
  rintro m2 _ _ ⟨g3, k4, rest5, rfl, rfl, hd7, hE, hF⟩
  refine K_ent hE ?_
  clear hE
  refine K_pure (c := crd (RdS 22 (RdS 3 rdInt)) v0_0.v a_a) .h crd_bound (fun hbd12 => ?_)
  rcases rest5 with _ | ⟨x6, rest5⟩
  · have hk8 := List.drop_eq_nil_iff.1 hd7
    have hfe11 : (decide (((k4 : Int) : Int) < (a_a.length : Int))) = false := decide_eq_false (by omega)
    rw [l_eqIntSS_L1] at hF
    refine K_in (K_region (Cm (.int .i64 (k4 : Int)) rfl rfl ?_))
    refine Cm v0_0.v rfl rfl ?_
    refine C_at .h (fun hp => V_lenR (l := a_a.length) sl83 (.tmp rfl rfl) (crd_len hp)) ?_
    refine C_val (V_lss (i := (k4 : Int)) (j := (a_a.length : Int)) (.tmp rfl rfl) (.tmp rfl rfl)) ?_
    refine C_nil (CW_cond (b := (decide (((k4 : Int) : Int) < (a_a.length : Int)))) (.tmp rfl rfl) (fun hb => absurd (hfe11.symm.trans hb) (by decide)) (fun _ => ?_))
    refine CW_exit ?_
    iterate 2 refine CThen_exit ?_
    refine CIn_self (K_region (C_val (V_assign (v := (.bool true)) (.bool _)) ?_))
    refine C_nil (CW_ret ?_)
    obtain rfl := Option.some.inj hF
    exact End_ret () (.tmp rfl rfl .nil) rfl (.sel .nil)
  obtain ⟨hk8, hx9, hd10⟩ := drop_cons hd7
  have hfe11 : (decide (((k4 : Int) : Int) < (a_a.length : Int))) = true := decide_eq_true (by omega)
  rw [l_eqIntSS_L1] at hF
  refine K_in (K_region (Cm (.int .i64 (k4 : Int)) rfl rfl ?_))
  refine Cm v0_0.v rfl rfl ?_
  refine C_at .h (fun hp => V_lenR (l := a_a.length) sl83 (.tmp rfl rfl) (crd_len hp)) ?_
  refine C_val (V_lss (i := (k4 : Int)) (j := (a_a.length : Int)) (.tmp rfl rfl) (.tmp rfl rfl)) ?_
  refine C_nil (CW_cond (b := (decide (((k4 : Int) : Int) < (a_a.length : Int)))) (.tmp rfl rfl) (fun _ => ?_) (fun hb => absurd (hfe11.symm.trans hb) (by decide)))
  refine CW_skip (K_block (K_draw [0, 1, 2, 3, 4, 5, 6, 7, 8, 9] [0, 0, 3, 7, 0, 0, 48, 112, 255, 511] [8] mixed (by decide +kernel) ?_))
  refine Dm v0_0.v rfl rfl rfl rfl ?_
  refine Dm (.int .i64 (k4 : Int)) rfl rfl rfl rfl ?_
  refine D_idx (a := x6) sl83 ty22.sz rfl .no (.tmp rfl rfl) (.tmp rfl rfl) rfl rfl .h (Int.natCast_nonneg k4) hx9 (fun k13 j14 => ?_)
  refine D_ldV (R' := (RdS 3 rdInt)) ag22 rfl .no (.tmp rfl rfl) rfl .h lv22_0 (fun w15 => ?_)
  refine Dm v1_0.v rfl rfl rfl rfl ?_
  refine Dm (.int .i64 (k4 : Int)) rfl rfl rfl rfl ?_
  obtain ⟨x16, hx17, hF⟩ := bind_some hF
  obtain ⟨hp18, hx19⟩ := ix_some hx17
  refine D_idx (a := x16) sl83 ty22.sz rfl .no (.tmp rfl rfl) (.tmp rfl rfl) rfl rfl (.t (.t (.t .h))) hp18 hx19 (fun k20 j21 => ?_)
  refine D_ldV (R' := (RdS 3 rdInt)) ag22 rfl .no (.tmp rfl rfl) rfl .h lv22_0 (fun w22 => ?_)
  obtain ⟨r23, hx24, hF⟩ := bind_some hF
  refine D_act0 rfl rfl .no (.rd (.t (.t .h)) rfl (.rd .h rfl .nil)) .nil (fun ha => X_callS cf31 (.cons (EN ha (.tmp rfl rfl) rfl) (.cons (EN ha (.tmp rfl rfl) rfl) .nil)) (l_eqIntS_ok x6 w15 x16 w22 _ hx24)) (fun _ => ?_)
  refine D_val rfl .no (fun ha => V_not (b := r23) (EN ha (.tmp rfl rfl) rfl)) ?_
  refine D_nil (CW_cond (b := (!r23)) (.tmp rfl rfl) (fun hb27 => ?_) (fun hb27 => ?_))
  · rw [if_pos hb27] at hF
    refine K_region (C_val (V_assign (v := (.bool false)) (.bool _)) ?_)
    refine C_nil (CW_ret ?_)
    obtain rfl := Option.some.inj hF
    exact End_ret () (.tmp rfl rfl .nil) rfl (.sel .nil)
  rw [if_neg (by rw [hb27]; exact Bool.false_ne_true)] at hF
  refine CW_skip (CW_region (Cm (.int .i64 (k4 : Int)) rfl rfl ?_))
  refine C_val (V_add (i := (k4 : Int)) (j := 1) (.tmp rfl rfl) (.int _ _)) ?_
  refine Ca (.int .i64 (IntKind.i64.wrap ((k4 : Int) + 1))) rfl rfl ?_
  refine C_nil ?_
  have hw26 : IntKind.i64.wrap ((k4 : Int) + 1) = ((k4 + 1 : Nat) : Int) := by rw [wrap_in (by omega) (by omega)]; rfl
  rw [hw26]
  exact ⟨_, Nat.lt_succ_self _, _, k4 + 1, rest5, rfl, (EqL.cons rfl (EqL.cons rfl (EqL.cons rfl (EqL.nil)))).eq, hd10, (.sel (.rd (.t (.t (.t (.t .h)))) rfl (.rd (.t (.t (.t (.t (.t .h))))) rfl .nil))), hF⟩

/-! laws.eqIntSSS -/
def l_eqIntSSS_L1 (a_b : List (List (List Int))) : List (List (List Int)) → Nat → Option (Bool)
  | [], k4 => some true
  | x6 :: rest5, k4 => (ix a_b (k4 : Int)).bind fun x16 =>
    (l_eqIntSS x6 x16).bind fun r23 =>
    if (!r23) then (
      some false)
    else (
      l_eqIntSSS_L1 a_b rest5 (k4 + 1))
def l_eqIntSSS (a_a : List (List (List Int))) (a_b : List (List (List Int))) : Option (Bool) :=
  if (((a_a.length : Int) : Int) != (a_b.length : Int)) then (
    some false)
  else (
    l_eqIntSSS_L1 a_b a_a 0)
theorem l_eqIntSSS_ok (a_a : List (List (List Int))) (v0_0 : Sv) (a_b : List (List (List Int))) (v1_0 : Sv) (R : Bool) (hF : l_eqIntSSS a_a a_b = some R) :
    Fw.Spec Tryz.prog 37 [v0_0.v, v1_0.v] [crd (RdS 83 (RdS 22 (RdS 3 rdInt))) v0_0.v a_a, crd (RdS 83 (RdS 22 (RdS 3 rdInt))) v1_0.v a_b] (fun _ : Unit => (.bool R)) (fun _ => []) := by
  refine Spec_enter (n := 27) Tryz.func37 rfl rfl (rs := [.tmp 4]) rfl rfl rfl ?_
  intro H0 F0
  unfold l_eqIntSSS at hF
  refine K_region (C_val (V_assign (v := (.bool false)) (.bool _)) ?_)
  refine C_nil (K_in (K_region (Cm v0_0.v rfl rfl ?_)))
  refine C_at .h (fun hp => V_lenR (l := a_a.length) sl32 (.tmp rfl rfl) (crd_len hp)) ?_
  refine Cm v1_0.v rfl rfl ?_
  refine C_at (.t .h) (fun hp => V_lenR (l := a_b.length) sl32 (.tmp rfl rfl) (crd_len hp)) ?_
  refine C_val (V_neq (i := (a_a.length : Int)) (j := (a_b.length : Int)) (.tmp rfl rfl) (.tmp rfl rfl)) ?_
  refine C_nil (CW_cond (b := (((a_a.length : Int) : Int) != (a_b.length : Int))) (.tmp rfl rfl) (fun hb28 => ?_) (fun hb28 => ?_))
  · rw [if_pos hb28] at hF
    refine K_region (C_val (V_assign (v := (.bool false)) (.bool _)) ?_)
    refine C_nil (CW_ret ?_)
    obtain rfl := Option.some.inj hF
    exact End_ret () (.tmp rfl rfl .nil) rfl (.sel .nil)
  rw [if_neg (by rw [hb28]; exact Bool.false_ne_true)] at hF
  refine CW_skip (K_in (K_region (C_val (V_assign (v := (.int .i64 0)) (.int _ _)) ?_)))
  refine C_nil (CW_block (CW_loop (m := a_a.length) (fun m2 f' cs' => ∃ (g : Fr) (k4 : Nat) (rest5 : List (List (List Int))), m2 = rest5.length ∧ f' = updL g [(0, v0_0.v), (1, v1_0.v), (5, (.int .i64 (k4 : Int)))] ∧ List.drop k4 a_a = rest5 ∧ Ent cs' [crd (RdS 83 (RdS 22 (RdS 3 rdInt))) v0_0.v a_a, crd (RdS 83 (RdS 22 (RdS 3 rdInt))) v1_0.v a_b] ∧ l_eqIntSSS_L1 a_b rest5 k4 = some R) ⟨_, 0, _, rfl, (EqL.cons rfl (EqL.cons rfl (EqL.cons rfl (EqL.nil)))).eq, rfl, (.sel (.rd .h rfl (.rd (.t .h) rfl .nil))), hF⟩ ?_))
  clear hF
  rintro m2 _ _ ⟨g3, k4, rest5, rfl, rfl, hd7, hE, hF⟩
  refine K_ent hE ?_
  clear hE
  refine K_pure (c := crd (RdS 83 (RdS 22 (RdS 3 rdInt))) v0_0.v a_a) .h crd_bound (fun hbd12 => ?_)
  rcases rest5 with _ | ⟨x6, rest5⟩
  · have hk8 := List.drop_eq_nil_iff.1 hd7
    have hfe11 : (decide (((k4 : Int) : Int) < (a_a.length : Int))) = false := decide_eq_false (by omega)
    rw [l_eqIntSSS_L1] at hF
    refine K_in (K_region (Cm (.int .i64 (k4 : Int)) rfl rfl ?_))
    refine Cm v0_0.v rfl rfl ?_
    refine C_at .h (fun hp => V_lenR (l := a_a.length) sl32 (.tmp rfl rfl) (crd_len hp)) ?_
    refine C_val (V_lss (i := (k4 : Int)) (j := (a_a.length : Int)) (.tmp rfl rfl) (.tmp rfl rfl)) ?_
    refine C_nil (CW_cond (b := (decide (((k4 : Int) : Int) < (a_a.length : Int)))) (.tmp rfl rfl) (fun hb => absurd (hfe11.symm.trans hb) (by decide)) (fun _ => ?_))
    refine CW_exit ?_
    iterate 2 refine CThen_exit ?_
    refine CIn_self (K_region (C_val (V_assign (v := (.bool true)) (.bool _)) ?_))
    refine C_nil (CW_ret ?_)
    obtain rfl := Option.some.inj hF
    exact End_ret () (.tmp rfl rfl .nil) rfl (.sel .nil)
  obtain ⟨hk8, hx9, hd10⟩ := drop_cons hd7
  have hfe11 : (decide (((k4 : Int) : Int) < (a_a.length : Int))) = true := decide_eq_true (by omega)
  rw [l_eqIntSSS_L1] at hF
  refine K_in (K_region (Cm (.int .i64 (k4 : Int)) rfl rfl ?_))
  refine Cm v0_0.v rfl rfl ?_
  refine C_at .h (fun hp => V_lenR (l := a_a.length) sl32 (.tmp rfl rfl) (crd_len hp)) ?_
  refine C_val (V_lss (i := (k4 : Int)) (j := (a_a.length : Int)) (.tmp rfl rfl) (.tmp rfl rfl)) ?_
  refine C_nil (CW_cond (b := (decide (((k4 : Int) : Int) < (a_a.length : Int)))) (.tmp rfl rfl) (fun _ => ?_) (fun hb => absurd (hfe11.symm.trans hb) (by decide)))
  refine CW_skip (K_block (K_draw [0, 1, 2, 3, 4, 5, 6, 7, 8, 9] [0, 0, 3, 7, 0, 0, 48, 112, 255, 511] [8] mixed (by decide +kernel) ?_))
  refine Dm v0_0.v rfl rfl rfl rfl ?_
  refine Dm (.int .i64 (k4 : Int)) rfl rfl rfl rfl ?_
  refine D_idx (a := x6) sl32 ty83.sz rfl .no (.tmp rfl rfl) (.tmp rfl rfl) rfl rfl .h (Int.natCast_nonneg k4) hx9 (fun k13 j14 => ?_)
  refine D_ldV (R' := (RdS 22 (RdS 3 rdInt))) ag83 rfl .no (.tmp rfl rfl) rfl .h lv83_0 (fun w15 => ?_)
  refine Dm v1_0.v rfl rfl rfl rfl ?_
  refine Dm (.int .i64 (k4 : Int)) rfl rfl rfl rfl ?_
  obtain ⟨x16, hx17, hF⟩ := bind_some hF
  obtain ⟨hp18, hx19⟩ := ix_some hx17
  refine D_idx (a := x16) sl32 ty83.sz rfl .no (.tmp rfl rfl) (.tmp rfl rfl) rfl rfl (.t (.t (.t .h))) hp18 hx19 (fun k20 j21 => ?_)
  refine D_ldV (R' := (RdS 22 (RdS 3 rdInt))) ag83 rfl .no (.tmp rfl rfl) rfl .h lv83_0 (fun w22 => ?_)
  obtain ⟨r23, hx24, hF⟩ := bind_some hF
  refine D_act0 rfl rfl .no (.rd (.t (.t .h)) rfl (.rd .h rfl .nil)) .nil (fun ha => X_callS cf86 (.cons (EN ha (.tmp rfl rfl) rfl) (.cons (EN ha (.tmp rfl rfl) rfl) .nil)) (l_eqIntSS_ok x6 w15 x16 w22 _ hx24)) (fun _ => ?_)
  refine D_val rfl .no (fun ha => V_not (b := r23) (EN ha (.tmp rfl rfl) rfl)) ?_
  refine D_nil (CW_cond (b := (!r23)) (.tmp rfl rfl) (fun hb27 => ?_) (fun hb27 => ?_))
  · rw [if_pos hb27] at hF
    refine K_region (C_val (V_assign (v := (.bool false)) (.bool _)) ?_)
    refine C_nil (CW_ret ?_)
    obtain rfl := Option.some.inj hF
    exact End_ret () (.tmp rfl rfl .nil) rfl (.sel .nil)
  rw [if_neg (by rw [hb27]; exact Bool.false_ne_true)] at hF
  refine CW_skip (CW_region (Cm (.int .i64 (k4 : Int)) rfl rfl ?_))
  refine C_val (V_add (i := (k4 : Int)) (j := 1) (.tmp rfl rfl) (.int _ _)) ?_
  refine Ca (.int .i64 (IntKind.i64.wrap ((k4 : Int) + 1))) rfl rfl ?_
  refine C_nil ?_
  have hw26 : IntKind.i64.wrap ((k4 : Int) + 1) = ((k4 + 1 : Nat) : Int) := by rw [wrap_in (by omega) (by omega)]; rfl
  rw [hw26]
  exact ⟨_, Nat.lt_succ_self _, _, k4 + 1, rest5, rfl, (EqL.cons rfl (EqL.cons rfl (EqL.cons rfl (EqL.nil)))).eq, hd10, (.sel (.rd (.t (.t (.t (.t .h)))) rfl (.rd (.t (.t (.t (.t (.t .h))))) rfl .nil))), hF⟩

/-! laws.eqMediator -/
def l_eqMediator (a_a : Mediator) (a_b : Mediator) : Option (Bool) :=
  (l_eqIntS a_a.Schema a_b.Schema).bind fun r3 =>
  if (!r3) then (
    some false)
  else (
    (l_eqMethodS a_a.Methods a_b.Methods).bind fun r6 =>
    if (!r6) then (
      some false)
    else (
      (l_eqRuleS a_a.Rules a_b.Rules).bind fun r9 =>
      if (!r9) then (
        some false)
      else (
        (l_eqSource a_a.Source a_b.Source).bind fun r12 =>
        if (!r12) then (
          some false)
        else (
          (l_eqCache a_a.Cache a_b.Cache).bind fun r15 =>
          if (!r15) then (
            some false)
          else (
            if ((a_a.Now : Int) != a_b.Now) then (
              some false)
            else (
              (l_eqAccessS a_a.Log a_b.Log).bind fun r18 =>
              if (!r18) then (
                some false)
              else (
                (l_eqIntS a_a.Times a_b.Times).bind fun r21 =>
                if (!r21) then (
                  some false)
                else (
                  if ((a_a.Spent : Int) != a_b.Spent) then (
                    some false)
                  else (
                    (l_eqIntSSS a_a.Results a_b.Results).bind fun r24 =>
                    if (!r24) then (
                      some false)
                    else (
                      some true))))))))))
theorem l_eqMediator_ok (a_a : Mediator) (v0_0 : Sv) (v0_1 : Sv) (v0_2 : Sv) (v0_3 : Sv) (v0_5 : Sv) (v0_8 : Sv) (v0_9 : Sv) (v0_11 : Sv) (a_b : Mediator) (v1_0 : Sv) (v1_1 : Sv) (v1_2 : Sv) (v1_3 : Sv) (v1_5 : Sv) (v1_8 : Sv) (v1_9 : Sv) (v1_11 : Sv) (R : Bool) (hF : l_eqMediator a_a a_b = some R) :
    Fw.Spec Tryz.prog 9 [(.agg [v0_0.v, v0_1.v, v0_2.v, v0_3.v, (.int .i64 a_a.Source.Version), v0_5.v, (.int .i64 a_a.Cache.Age), (.int .i64 a_a.Now), v0_8.v, v0_9.v, (.int .i64 a_a.Spent), v0_11.v].toArray), (.agg [v1_0.v, v1_1.v, v1_2.v, v1_3.v, (.int .i64 a_b.Source.Version), v1_5.v, (.int .i64 a_b.Cache.Age), (.int .i64 a_b.Now), v1_8.v, v1_9.v, (.int .i64 a_b.Spent), v1_11.v].toArray)] [crd (RdS 3 rdInt) v0_0.v a_a.Schema, crd (RdS 108 rd108) v0_1.v a_a.Methods, crd (RdS 110 rd110) v0_2.v a_a.Rules, crd (RdS 80 rd80) v0_3.v a_a.Source.Facts, crd (RdS 147 rd147) v0_5.v a_a.Cache.Entries, crd (RdS 105 rd105) v0_8.v a_a.Log, crd (RdS 3 rdInt) v0_9.v a_a.Times, crd (RdS 83 (RdS 22 (RdS 3 rdInt))) v0_11.v a_a.Results, crd (RdS 3 rdInt) v1_0.v a_b.Schema, crd (RdS 108 rd108) v1_1.v a_b.Methods, crd (RdS 110 rd110) v1_2.v a_b.Rules, crd (RdS 80 rd80) v1_3.v a_b.Source.Facts, crd (RdS 147 rd147) v1_5.v a_b.Cache.Entries, crd (RdS 105 rd105) v1_8.v a_b.Log, crd (RdS 3 rdInt) v1_9.v a_b.Times, crd (RdS 83 (RdS 22 (RdS 3 rdInt))) v1_11.v a_b.Results] (fun _ : Unit => (.bool R)) (fun _ => []) := by
  refine Spec_enter (n := 63) Tryz.func9 rfl rfl (rs := [.tmp 4]) rfl rfl rfl ?_
  intro H0 F0
  unfold l_eqMediator at hF
  refine K_region (C_newR rfl (N_box (g := false) (v := (.agg [v0_0.v, v0_1.v, v0_2.v, v0_3.v, (.int .i64 a_a.Source.Version), v0_5.v, (.int .i64 a_a.Cache.Age), (.int .i64 a_a.Now), v0_8.v, v0_9.v, (.int .i64 a_a.Spent), v0_11.v].toArray)) ty47.sz (.tmp rfl rfl) rfl) (fun k1 => ?_))
  refine C_newR rfl (N_box (g := false) (v := (.agg [v1_0.v, v1_1.v, v1_2.v, v1_3.v, (.int .i64 a_b.Source.Version), v1_5.v, (.int .i64 a_b.Cache.Age), (.int .i64 a_b.Now), v1_8.v, v1_9.v, (.int .i64 a_b.Spent), v1_11.v].toArray)) ty47.sz (.tmp rfl rfl) rfl) (fun k2 => ?_)
  refine C_val (V_assign (v := (.bool false)) (.bool _)) ?_
  refine C_nil (K_in (K_region (C_val (V_fieldAddr (off := 0) fd47_0 (.tmp rfl rfl)) ?_)))
  refine C_at (.t .h) (fun hp => V_load (v := v0_0.v) ag22 (.tmp rfl rfl) hp.2 rfl rfl) ?_
  refine C_val (V_fieldAddr (off := 0) fd47_0 (.tmp rfl rfl)) ?_
  refine C_at .h (fun hp => V_load (v := v1_0.v) ag22 (.tmp rfl rfl) hp.2 rfl rfl) ?_
  obtain ⟨r3, hx4, hF⟩ := bind_some hF
  refine C_x0 (.rd (.t (.t .h)) rfl (.rd (.t (.t (.t (.t (.t (.t (.t (.t (.t (.t .h)))))))))) rfl .nil)) (X_callS cf31 (.cons (.tmp rfl rfl) (.cons (.tmp rfl rfl) .nil)) (l_eqIntS_ok a_a.Schema v0_0 a_b.Schema v1_0 _ hx4)) (fun _ => ?_)
  refine C_val (V_not (b := r3) (.tmp rfl rfl)) ?_
  refine C_nil (CW_cond (b := (!r3)) (.tmp rfl rfl) (fun hb36 => ?_) (fun hb36 => ?_))
  · rw [if_pos hb36] at hF
    refine K_region (C_val (V_assign (v := (.bool false)) (.bool _)) ?_)
    refine C_nil (CW_ret ?_)
    obtain rfl := Option.some.inj hF
    exact End_ret () (.tmp rfl rfl .nil) rfl (.sel .nil)
  rw [if_neg (by rw [hb36]; exact Bool.false_ne_true)] at hF
  refine CW_skip (K_in (K_region (C_val (V_fieldAddr (off := 1) fd47_1 (.tmp rfl rfl)) ?_)))
  refine C_at (.t .h) (fun hp => V_load (v := v0_1.v) ag37 (.tmp rfl rfl) hp.2 rfl rfl) ?_
  refine C_val (V_fieldAddr (off := 1) fd47_1 (.tmp rfl rfl)) ?_
  refine C_at .h (fun hp => V_load (v := v1_1.v) ag37 (.tmp rfl rfl) hp.2 rfl rfl) ?_
  obtain ⟨r6, hx7, hF⟩ := bind_some hF
  refine C_x0 (.rd (.t (.t (.t .h))) rfl (.rd (.t (.t (.t (.t (.t (.t (.t (.t (.t (.t (.t .h))))))))))) rfl .nil)) (X_callS cf32 (.cons (.tmp rfl rfl) (.cons (.tmp rfl rfl) .nil)) (l_eqMethodS_ok a_a.Methods v0_1 a_b.Methods v1_1 _ hx7)) (fun _ => ?_)
  refine C_val (V_not (b := r6) (.tmp rfl rfl)) ?_
  refine C_nil (CW_cond (b := (!r6)) (.tmp rfl rfl) (fun hb35 => ?_) (fun hb35 => ?_))
  · rw [if_pos hb35] at hF
    refine K_region (C_val (V_assign (v := (.bool false)) (.bool _)) ?_)
    refine C_nil (CW_ret ?_)
    obtain rfl := Option.some.inj hF
    exact End_ret () (.tmp rfl rfl .nil) rfl (.sel .nil)
  rw [if_neg (by rw [hb35]; exact Bool.false_ne_true)] at hF
  refine CW_skip (K_in (K_region (C_val (V_fieldAddr (off := 2) fd47_2 (.tmp rfl rfl)) ?_)))
  refine C_at (.t .h) (fun hp => V_load (v := v0_2.v) ag38 (.tmp rfl rfl) hp.2 rfl rfl) ?_
  refine C_val (V_fieldAddr (off := 2) fd47_2 (.tmp rfl rfl)) ?_
  refine C_at .h (fun hp => V_load (v := v1_2.v) ag38 (.tmp rfl rfl) hp.2 rfl rfl) ?_
  obtain ⟨r9, hx10, hF⟩ := bind_some hF
  refine C_x0 (.rd (.t (.t (.t (.t .h)))) rfl (.rd (.t (.t (.t (.t (.t (.t (.t (.t (.t (.t (.t (.t .h)))))))))))) rfl .nil)) (X_callS cf33 (.cons (.tmp rfl rfl) (.cons (.tmp rfl rfl) .nil)) (l_eqRuleS_ok a_a.Rules v0_2 a_b.Rules v1_2 _ hx10)) (fun _ => ?_)
  refine C_val (V_not (b := r9) (.tmp rfl rfl)) ?_
  refine C_nil (CW_cond (b := (!r9)) (.tmp rfl rfl) (fun hb34 => ?_) (fun hb34 => ?_))
  · rw [if_pos hb34] at hF
    refine K_region (C_val (V_assign (v := (.bool false)) (.bool _)) ?_)
    refine C_nil (CW_ret ?_)
    obtain rfl := Option.some.inj hF
    exact End_ret () (.tmp rfl rfl .nil) rfl (.sel .nil)
  rw [if_neg (by rw [hb34]; exact Bool.false_ne_true)] at hF
  refine CW_skip (K_in (K_region (C_val (V_fieldAddr (off := 3) fd47_3 (.tmp rfl rfl)) ?_)))
  refine C_at (.t .h) (fun hp => V_loadA (s := 2) (l := [v0_3.v, (.int .i64 a_a.Source.Version)]) ag41 ty41.sz (.tmp rfl rfl) hp.2 rfl (by decide) (Nat.le_of_ble_eq_true rfl) rfl) ?_
  refine C_val (V_fieldAddr (off := 3) fd47_3 (.tmp rfl rfl)) ?_
  refine C_at .h (fun hp => V_loadA (s := 2) (l := [v1_3.v, (.int .i64 a_b.Source.Version)]) ag41 ty41.sz (.tmp rfl rfl) hp.2 rfl (by decide) (Nat.le_of_ble_eq_true rfl) rfl) ?_
  obtain ⟨r12, hx13, hF⟩ := bind_some hF
  refine C_x0 (.rd (.t (.t (.t (.t (.t .h))))) rfl (.rd (.t (.t (.t (.t (.t (.t (.t (.t (.t (.t (.t (.t (.t .h))))))))))))) rfl .nil)) (X_callS cf34 (.cons (.tmp rfl rfl) (.cons (.tmp rfl rfl) .nil)) (l_eqSource_ok a_a.Source v0_3 a_b.Source v1_3 _ hx13)) (fun _ => ?_)
  refine C_val (V_not (b := r12) (.tmp rfl rfl)) ?_
  refine C_nil (CW_cond (b := (!r12)) (.tmp rfl rfl) (fun hb33 => ?_) (fun hb33 => ?_))
  · rw [if_pos hb33] at hF
    refine K_region (C_val (V_assign (v := (.bool false)) (.bool _)) ?_)
    refine C_nil (CW_ret ?_)
    obtain rfl := Option.some.inj hF
    exact End_ret () (.tmp rfl rfl .nil) rfl (.sel .nil)
  rw [if_neg (by rw [hb33]; exact Bool.false_ne_true)] at hF
  refine CW_skip (K_in (K_region (C_val (V_fieldAddr (off := 5) fd47_4 (.tmp rfl rfl)) ?_)))
  refine C_at (.t .h) (fun hp => V_loadA (s := 2) (l := [v0_5.v, (.int .i64 a_a.Cache.Age)]) ag44 ty44.sz (.tmp rfl rfl) hp.2 rfl (by decide) (Nat.le_of_ble_eq_true rfl) rfl) ?_
  refine C_val (V_fieldAddr (off := 5) fd47_4 (.tmp rfl rfl)) ?_
  refine C_at .h (fun hp => V_loadA (s := 2) (l := [v1_5.v, (.int .i64 a_b.Cache.Age)]) ag44 ty44.sz (.tmp rfl rfl) hp.2 rfl (by decide) (Nat.le_of_ble_eq_true rfl) rfl) ?_
  obtain ⟨r15, hx16, hF⟩ := bind_some hF
  refine C_x0 (.rd (.t (.t (.t (.t (.t (.t .h)))))) rfl (.rd (.t (.t (.t (.t (.t (.t (.t (.t (.t (.t (.t (.t (.t (.t .h)))))))))))))) rfl .nil)) (X_callS cf35 (.cons (.tmp rfl rfl) (.cons (.tmp rfl rfl) .nil)) (l_eqCache_ok a_a.Cache v0_5 a_b.Cache v1_5 _ hx16)) (fun _ => ?_)
  refine C_val (V_not (b := r15) (.tmp rfl rfl)) ?_
  refine C_nil (CW_cond (b := (!r15)) (.tmp rfl rfl) (fun hb32 => ?_) (fun hb32 => ?_))
  · rw [if_pos hb32] at hF
    refine K_region (C_val (V_assign (v := (.bool false)) (.bool _)) ?_)
    refine C_nil (CW_ret ?_)
    obtain rfl := Option.some.inj hF
    exact End_ret () (.tmp rfl rfl .nil) rfl (.sel .nil)
  rw [if_neg (by rw [hb32]; exact Bool.false_ne_true)] at hF
  refine CW_skip (K_in (K_region (C_val (V_fieldAddr (off := 7) fd47_5 (.tmp rfl rfl)) ?_)))
  refine C_at (.t .h) (fun hp => V_load (v := (.int .i64 a_a.Now)) ag3 (.tmp rfl rfl) hp.2 rfl rfl) ?_
  refine C_val (V_fieldAddr (off := 7) fd47_5 (.tmp rfl rfl)) ?_
  refine C_at .h (fun hp => V_load (v := (.int .i64 a_b.Now)) ag3 (.tmp rfl rfl) hp.2 rfl rfl) ?_
  refine C_val (V_neq (i := a_a.Now) (j := a_b.Now) (.tmp rfl rfl) (.tmp rfl rfl)) ?_
  refine C_nil (CW_cond (b := ((a_a.Now : Int) != a_b.Now)) (.tmp rfl rfl) (fun hb31 => ?_) (fun hb31 => ?_))
  · rw [if_pos hb31] at hF
    refine K_region (C_val (V_assign (v := (.bool false)) (.bool _)) ?_)
    refine C_nil (CW_ret ?_)
    obtain rfl := Option.some.inj hF
    exact End_ret () (.tmp rfl rfl .nil) rfl (.sel .nil)
  rw [if_neg (by rw [hb31]; exact Bool.false_ne_true)] at hF
  refine CW_skip (K_in (K_region (C_val (V_fieldAddr (off := 8) fd47_6 (.tmp rfl rfl)) ?_)))
  refine C_at (.t .h) (fun hp => V_load (v := v0_8.v) ag45 (.tmp rfl rfl) hp.2 rfl rfl) ?_
  refine C_val (V_fieldAddr (off := 8) fd47_6 (.tmp rfl rfl)) ?_
  refine C_at .h (fun hp => V_load (v := v1_8.v) ag45 (.tmp rfl rfl) hp.2 rfl rfl) ?_
  obtain ⟨r18, hx19, hF⟩ := bind_some hF
  refine C_x0 (.rd (.t (.t (.t (.t (.t (.t (.t .h))))))) rfl (.rd (.t (.t (.t (.t (.t (.t (.t (.t (.t (.t (.t (.t (.t (.t (.t .h))))))))))))))) rfl .nil)) (X_callS cf36 (.cons (.tmp rfl rfl) (.cons (.tmp rfl rfl) .nil)) (l_eqAccessS_ok a_a.Log v0_8 a_b.Log v1_8 _ hx19)) (fun _ => ?_)
  refine C_val (V_not (b := r18) (.tmp rfl rfl)) ?_
  refine C_nil (CW_cond (b := (!r18)) (.tmp rfl rfl) (fun hb30 => ?_) (fun hb30 => ?_))
  · rw [if_pos hb30] at hF
    refine K_region (C_val (V_assign (v := (.bool false)) (.bool _)) ?_)
    refine C_nil (CW_ret ?_)
    obtain rfl := Option.some.inj hF
    exact End_ret () (.tmp rfl rfl .nil) rfl (.sel .nil)
  rw [if_neg (by rw [hb30]; exact Bool.false_ne_true)] at hF
  refine CW_skip (K_in (K_region (C_val (V_fieldAddr (off := 9) fd47_7 (.tmp rfl rfl)) ?_)))
  refine C_at (.t .h) (fun hp => V_load (v := v0_9.v) ag22 (.tmp rfl rfl) hp.2 rfl rfl) ?_
  refine C_val (V_fieldAddr (off := 9) fd47_7 (.tmp rfl rfl)) ?_
  refine C_at .h (fun hp => V_load (v := v1_9.v) ag22 (.tmp rfl rfl) hp.2 rfl rfl) ?_
  obtain ⟨r21, hx22, hF⟩ := bind_some hF
  refine C_x0 (.rd (.t (.t (.t (.t (.t (.t (.t (.t .h)))))))) rfl (.rd (.t (.t (.t (.t (.t (.t (.t (.t (.t (.t (.t (.t (.t (.t (.t (.t .h)))))))))))))))) rfl .nil)) (X_callS cf31 (.cons (.tmp rfl rfl) (.cons (.tmp rfl rfl) .nil)) (l_eqIntS_ok a_a.Times v0_9 a_b.Times v1_9 _ hx22)) (fun _ => ?_)
  refine C_val (V_not (b := r21) (.tmp rfl rfl)) ?_
  refine C_nil (CW_cond (b := (!r21)) (.tmp rfl rfl) (fun hb29 => ?_) (fun hb29 => ?_))
  · rw [if_pos hb29] at hF
    refine K_region (C_val (V_assign (v := (.bool false)) (.bool _)) ?_)
    refine C_nil (CW_ret ?_)
    obtain rfl := Option.some.inj hF
    exact End_ret () (.tmp rfl rfl .nil) rfl (.sel .nil)
  rw [if_neg (by rw [hb29]; exact Bool.false_ne_true)] at hF
  refine CW_skip (K_in (K_region (C_val (V_fieldAddr (off := 10) fd47_8 (.tmp rfl rfl)) ?_)))
  refine C_at (.t .h) (fun hp => V_load (v := (.int .i64 a_a.Spent)) ag3 (.tmp rfl rfl) hp.2 rfl rfl) ?_
  refine C_val (V_fieldAddr (off := 10) fd47_8 (.tmp rfl rfl)) ?_
  refine C_at .h (fun hp => V_load (v := (.int .i64 a_b.Spent)) ag3 (.tmp rfl rfl) hp.2 rfl rfl) ?_
  refine C_val (V_neq (i := a_a.Spent) (j := a_b.Spent) (.tmp rfl rfl) (.tmp rfl rfl)) ?_
  refine C_nil (CW_cond (b := ((a_a.Spent : Int) != a_b.Spent)) (.tmp rfl rfl) (fun hb28 => ?_) (fun hb28 => ?_))
  · rw [if_pos hb28] at hF
    refine K_region (C_val (V_assign (v := (.bool false)) (.bool _)) ?_)
    refine C_nil (CW_ret ?_)
    obtain rfl := Option.some.inj hF
    exact End_ret () (.tmp rfl rfl .nil) rfl (.sel .nil)
  rw [if_neg (by rw [hb28]; exact Bool.false_ne_true)] at hF
  refine CW_skip (K_in (K_region (C_val (V_fieldAddr (off := 11) fd47_9 (.tmp rfl rfl)) ?_)))
  refine C_at (.t .h) (fun hp => V_load (v := v0_11.v) ag32 (.tmp rfl rfl) hp.2 rfl rfl) ?_
  refine C_val (V_fieldAddr (off := 11) fd47_9 (.tmp rfl rfl)) ?_
  refine C_at .h (fun hp => V_load (v := v1_11.v) ag32 (.tmp rfl rfl) hp.2 rfl rfl) ?_
  obtain ⟨r24, hx25, hF⟩ := bind_some hF
  refine C_x0 (.rd (.t (.t (.t (.t (.t (.t (.t (.t (.t .h))))))))) rfl (.rd (.t (.t (.t (.t (.t (.t (.t (.t (.t (.t (.t (.t (.t (.t (.t (.t (.t .h))))))))))))))))) rfl .nil)) (X_callS cf37 (.cons (.tmp rfl rfl) (.cons (.tmp rfl rfl) .nil)) (l_eqIntSSS_ok a_a.Results v0_11 a_b.Results v1_11 _ hx25)) (fun _ => ?_)
  refine C_val (V_not (b := r24) (.tmp rfl rfl)) ?_
  refine C_nil (CW_cond (b := (!r24)) (.tmp rfl rfl) (fun hb27 => ?_) (fun hb27 => ?_))
  · rw [if_pos hb27] at hF
    refine K_region (C_val (V_assign (v := (.bool false)) (.bool _)) ?_)
    refine C_nil (CW_ret ?_)
    obtain rfl := Option.some.inj hF
    exact End_ret () (.tmp rfl rfl .nil) rfl (.sel .nil)
  rw [if_neg (by rw [hb27]; exact Bool.false_ne_true)] at hF
  refine CW_skip (K_region (C_val (V_assign (v := (.bool true)) (.bool _)) ?_))
  refine C_nil (CW_ret ?_)
  obtain rfl := Option.some.inj hF
  exact End_ret () (.tmp rfl rfl .nil) rfl (.sel .nil)

/-! laws.FnExactMediatorLine -/
def l_FnExactMediatorLine (fuel : Nat) (a_aM : Mediator) : Option (Bool) :=
  (l_szMediator a_aM 1048576).bind fun r2 =>
  if (decide ((r2 : Int) < 0)) then (
    some true)
  else (
    (l_toMediator a_aM).bind fun r5 =>
    (s_MediatorLine fuel r5).bind fun r8 =>
    (l_toMediator a_aM).bind fun r11 =>
    (i_MediatorLine r11).bind fun r15 =>
    if (!(r15 == r8)) then (
      some false)
    else (
      (l_toMediator a_aM).bind fun r18 =>
      (l_eqMediator r11 r18).bind fun r21 =>
      if (!r21) then (
        some false)
      else (
        some true)))
theorem l_FnExactMediatorLine_ok (fuel : Nat) (a_aM : Mediator) (v0_0 : Sv) (v0_1 : Sv) (v0_2 : Sv) (v0_3 : Sv) (v0_5 : Sv) (v0_8 : Sv) (v0_9 : Sv) (v0_11 : Sv) (R : Bool) (hF : l_FnExactMediatorLine fuel a_aM = some R) :
    Fw.Spec Tryz.prog 3 [(.agg [v0_0.v, v0_1.v, v0_2.v, v0_3.v, (.int .i64 a_aM.Source.Version), v0_5.v, (.int .i64 a_aM.Cache.Age), (.int .i64 a_aM.Now), v0_8.v, v0_9.v, (.int .i64 a_aM.Spent), v0_11.v].toArray)] [crd (RdS 3 rdInt) v0_0.v a_aM.Schema, crd (RdS 89 rd89) v0_1.v a_aM.Methods, crd (RdS 92 rd92) v0_2.v a_aM.Rules, crd (RdS 139 rd139) v0_3.v a_aM.Source.Facts, crd (RdS 142 rd142) v0_5.v a_aM.Cache.Entries, crd (RdS 97 rd97) v0_8.v a_aM.Log, crd (RdS 3 rdInt) v0_9.v a_aM.Times, crd (RdS 83 (RdS 22 (RdS 3 rdInt))) v0_11.v a_aM.Results] (fun _ : Unit => (.bool R)) (fun _ => []) := by
  refine Spec_enter (n := 27) Tryz.func3 rfl rfl (rs := [.tmp 2]) rfl rfl rfl ?_
  intro H0 F0
  unfold l_FnExactMediatorLine at hF
  refine K_region (C_newR rfl (N_box (g := false) (v := (.agg [v0_0.v, v0_1.v, v0_2.v, v0_3.v, (.int .i64 a_aM.Source.Version), v0_5.v, (.int .i64 a_aM.Cache.Age), (.int .i64 a_aM.Now), v0_8.v, v0_9.v, (.int .i64 a_aM.Spent), v0_11.v].toArray)) ty34.sz (.tmp rfl rfl) rfl) (fun k1 => ?_))
  refine C_val (V_assign (v := (.bool false)) (.bool _)) ?_
  refine C_nil (K_region (C_val (V_assign (v := (.int .i64 1048576)) (.int _ _)) ?_))
  refine C_nil (K_region (C_at .h (fun hp => V_loadBox ag34 ty34.sz rfl (.tmp rfl rfl) hp.2 rfl) ?_))
  refine Cm (.int .i64 1048576) rfl rfl ?_
  obtain ⟨r2, hx3, hF⟩ := bind_some hF
  refine C_x0 (.rd (.t .h) rfl (.rd (.t (.t .h)) rfl (.rd (.t (.t (.t .h))) rfl (.rd (.t (.t (.t (.t .h)))) rfl (.rd (.t (.t (.t (.t (.t .h))))) rfl (.rd (.t (.t (.t (.t (.t (.t .h)))))) rfl (.rd (.t (.t (.t (.t (.t (.t (.t .h))))))) rfl (.rd (.t (.t (.t (.t (.t (.t (.t (.t .h)))))))) rfl .nil)))))))) (X_callS cf5 (.cons (.tmp rfl rfl) (.cons (.tmp rfl rfl) .nil)) (l_szMediator_ok a_aM v0_0 v0_1 v0_2 v0_3 v0_5 v0_8 v0_9 v0_11 1048576 _ hx3)) (fun _ => ?_)
  refine Ca (.int .i64 r2) rfl rfl ?_
  refine C_nil (K_in (K_region (Cm (.int .i64 r2) rfl rfl ?_)))
  refine C_val (V_lss (i := r2) (j := 0) (.tmp rfl rfl) (.int _ _)) ?_
  refine C_nil (CW_cond (b := (decide ((r2 : Int) < 0))) (.tmp rfl rfl) (fun hb26 => ?_) (fun hb26 => ?_))
  · rw [if_pos hb26] at hF
    refine K_region (C_val (V_assign (v := (.bool true)) (.bool _)) ?_)
    refine C_nil (CW_ret ?_)
    obtain rfl := Option.some.inj hF
    exact End_ret () (.tmp rfl rfl .nil) rfl (.sel .nil)
  rw [if_neg (by rw [hb26]; exact Bool.false_ne_true)] at hF
  refine CW_skip (K_region (C_at .h (fun hp => V_loadBox ag34 ty34.sz rfl (.tmp rfl rfl) hp.2 rfl) ?_))
  obtain ⟨r5, hx6, hF⟩ := bind_some hF
  refine C_x8 (.rd (.t .h) rfl (.rd (.t (.t .h)) rfl (.rd (.t (.t (.t .h))) rfl (.rd (.t (.t (.t (.t .h)))) rfl (.rd (.t (.t (.t (.t (.t .h))))) rfl (.rd (.t (.t (.t (.t (.t (.t .h)))))) rfl (.rd (.t (.t (.t (.t (.t (.t (.t .h))))))) rfl (.rd (.t (.t (.t (.t (.t (.t (.t (.t .h)))))))) rfl .nil)))))))) (X_callS cf7 (.cons (.tmp rfl rfl) .nil) (l_toMediator_ok a_aM v0_0 v0_1 v0_2 v0_3 v0_5 v0_8 v0_9 v0_11 _ hx6)) (fun p7 => ?_)
  obtain ⟨r8, hx9, hF⟩ := bind_some hF
  refine C_x8 (.cons (.t (.t (.t (.t (.t (.t (.t .h))))))) (.cons (.t (.t (.t (.t (.t (.t .h)))))) (.cons (.t (.t (.t (.t (.t .h))))) (.cons (.t (.t (.t (.t .h)))) (.cons (.t (.t (.t .h))) (.cons (.t (.t .h)) (.cons (.t .h) (.cons .h .nil)))))))) (XC_borL (pre := []) (.cons frz_own (.cons frz_own (.cons frz_own (.cons frz_own (.cons frz_own (.cons frz_own (.cons frz_own (.cons frz_own .nil)))))))) (fun _ => .nil) (X_callS cf6 (.cons (.tmp rfl rfl) .nil) (s_MediatorLine_ok fuel r5 p7.1 p7.2.2.1 p7.2.2.2.2.1 p7.2.2.2.2.2.2.1 p7.2.2.2.2.2.2.2.2.1 p7.2.2.2.2.2.2.2.2.2.2.1 p7.2.2.2.2.2.2.2.2.2.2.2.2.1 p7.2.2.2.2.2.2.2.2.2.2.2.2.2.2.1 _ hx9))) (fun _ => ?_)
  refine Ca (sv r8) rfl rfl ?_
  refine C_nil (K_region (C_at (.t (.t (.t (.t (.t (.t (.t (.t .h)))))))) (fun hp => V_loadBox ag34 ty34.sz rfl (.tmp rfl rfl) hp.2 rfl) ?_))
  obtain ⟨r11, hx12, hF⟩ := bind_some hF
  refine C_x8 (.rd (.t (.t (.t (.t (.t (.t (.t (.t (.t .h))))))))) rfl (.rd (.t (.t (.t (.t (.t (.t (.t (.t (.t (.t .h)))))))))) rfl (.rd (.t (.t (.t (.t (.t (.t (.t (.t (.t (.t (.t .h))))))))))) rfl (.rd (.t (.t (.t (.t (.t (.t (.t (.t (.t (.t (.t (.t .h)))))))))))) rfl (.rd (.t (.t (.t (.t (.t (.t (.t (.t (.t (.t (.t (.t (.t .h))))))))))))) rfl (.rd (.t (.t (.t (.t (.t (.t (.t (.t (.t (.t (.t (.t (.t (.t .h)))))))))))))) rfl (.rd (.t (.t (.t (.t (.t (.t (.t (.t (.t (.t (.t (.t (.t (.t (.t .h))))))))))))))) rfl (.rd (.t (.t (.t (.t (.t (.t (.t (.t (.t (.t (.t (.t (.t (.t (.t (.t .h)))))))))))))))) rfl .nil)))))))) (X_callS cf7 (.cons (.tmp rfl rfl) .nil) (l_toMediator_ok a_aM v0_0 v0_1 v0_2 v0_3 v0_5 v0_8 v0_9 v0_11 _ hx12)) (fun p13 => ?_)
  refine C_new rfl (N_allocT (g := true) ty47 rfl rfl) (fun k14 => ?_)
  refine C_x1 (.cons .h .nil) (X_storeB (e' := (.agg [p13.1.v, p13.2.2.1.v, p13.2.2.2.2.1.v, p13.2.2.2.2.2.2.1.v, (.int .i64 r11.Source.Version), p13.2.2.2.2.2.2.2.2.1.v, (.int .i64 r11.Cache.Age), (.int .i64 r11.Now), p13.2.2.2.2.2.2.2.2.2.2.1.v, p13.2.2.2.2.2.2.2.2.2.2.2.2.1.v, (.int .i64 r11.Spent), p13.2.2.2.2.2.2.2.2.2.2.2.2.2.2.1.v].toArray)) (v := (.agg [p13.1.v, p13.2.2.1.v, p13.2.2.2.2.1.v, p13.2.2.2.2.2.2.1.v, (.int .i64 r11.Source.Version), p13.2.2.2.2.2.2.2.2.1.v, (.int .i64 r11.Cache.Age), (.int .i64 r11.Now), p13.2.2.2.2.2.2.2.2.2.2.1.v, p13.2.2.2.2.2.2.2.2.2.2.2.2.1.v, (.int .i64 r11.Spent), p13.2.2.2.2.2.2.2.2.2.2.2.2.2.2.1.v].toArray)) ty47.sz (.tmp rfl rfl) (.tmp rfl rfl) rfl rfl rfl rfl rfl) (fun _ => ?_)
  refine C_nil (K_region (C_at .h (fun hp => V_loadBox ag47 ty47.sz rfl (.tmp rfl rfl) hp.2 rfl) ?_))
  obtain ⟨r15, hx16, hF⟩ := bind_some hF
  refine C_x8 (.cons (.t (.t (.t (.t (.t (.t (.t (.t .h)))))))) (.cons (.t (.t (.t (.t (.t (.t (.t .h))))))) (.cons (.t (.t (.t (.t (.t (.t .h)))))) (.cons (.t (.t (.t (.t (.t .h))))) (.cons (.t (.t (.t (.t .h)))) (.cons (.t (.t (.t .h))) (.cons (.t (.t .h)) (.cons (.t .h) .nil)))))))) (XC_borL (pre := []) (.cons frz_own (.cons frz_own (.cons frz_own (.cons frz_own (.cons frz_own (.cons frz_own (.cons frz_own (.cons frz_own .nil)))))))) (fun _ => .nil) (X_callS cf8 (.cons (.tmp rfl rfl) .nil) (i_MediatorLine_ok r11 p13.1 p13.2.2.1 p13.2.2.2.2.1 p13.2.2.2.2.2.2.1 p13.2.2.2.2.2.2.2.2.1 p13.2.2.2.2.2.2.2.2.2.2.1 p13.2.2.2.2.2.2.2.2.2.2.2.2.1 p13.2.2.2.2.2.2.2.2.2.2.2.2.2.2.1 _ hx16))) (fun _ => ?_)
  refine Ca (sv r15) rfl rfl ?_
  refine C_nil (K_in (K_region (Cm (sv r15) rfl rfl ?_)))
  refine Cm (sv r8) rfl rfl ?_
  refine C_val (V_neT (s := r15) (t := r8) (.tmp rfl rfl) (.tmp rfl rfl)) ?_
  refine C_nil (CW_cond (b := (!(r15 == r8))) (.tmp rfl rfl) (fun hb25 => ?_) (fun hb25 => ?_))
  · rw [if_pos hb25] at hF
    refine K_region (C_val (V_assign (v := (.bool false)) (.bool _)) ?_)
    refine C_nil (CW_ret ?_)
    obtain rfl := Option.some.inj hF
    exact End_ret () (.tmp rfl rfl .nil) rfl (.sel .nil)
  rw [if_neg (by rw [hb25]; exact Bool.false_ne_true)] at hF
  refine CW_skip (K_in (K_draw [0, 1, 2, 3, 4] [0, 0, 2, 7, 15] [2, 3] mixed (by decide +kernel) ?_))
  refine D_atO rfl .no (.t (.t (.t (.t (.t (.t (.t (.t .h)))))))) (fun ha hp => V_loadBox ag47 ty47.sz rfl (EN ha (.tmp rfl rfl) rfl) hp.2 rfl) ?_
  refine D_at rfl .no (.t (.t (.t (.t (.t (.t (.t (.t (.t (.t (.t (.t (.t (.t (.t (.t (.t .h))))))))))))))))) rfl (fun ha hp => V_loadBox ag34 ty34.sz rfl (EN ha (.tmp rfl rfl) rfl) hp.2 rfl) ?_
  obtain ⟨r18, hx19, hF⟩ := bind_some hF
  refine D_act8 rfl rfl .no (.rd (.t (.t (.t (.t (.t (.t (.t (.t (.t (.t (.t (.t (.t (.t (.t (.t (.t (.t .h)))))))))))))))))) rfl (.rd (.t (.t (.t (.t (.t (.t (.t (.t (.t (.t (.t (.t (.t (.t (.t (.t (.t (.t (.t .h))))))))))))))))))) rfl (.rd (.t (.t (.t (.t (.t (.t (.t (.t (.t (.t (.t (.t (.t (.t (.t (.t (.t (.t (.t (.t .h)))))))))))))))))))) rfl (.rd (.t (.t (.t (.t (.t (.t (.t (.t (.t (.t (.t (.t (.t (.t (.t (.t (.t (.t (.t (.t (.t .h))))))))))))))))))))) rfl (.rd (.t (.t (.t (.t (.t (.t (.t (.t (.t (.t (.t (.t (.t (.t (.t (.t (.t (.t (.t (.t (.t (.t .h)))))))))))))))))))))) rfl (.rd (.t (.t (.t (.t (.t (.t (.t (.t (.t (.t (.t (.t (.t (.t (.t (.t (.t (.t (.t (.t (.t (.t (.t .h))))))))))))))))))))))) rfl (.rd (.t (.t (.t (.t (.t (.t (.t (.t (.t (.t (.t (.t (.t (.t (.t (.t (.t (.t (.t (.t (.t (.t (.t (.t .h)))))))))))))))))))))))) rfl (.rd (.t (.t (.t (.t (.t (.t (.t (.t (.t (.t (.t (.t (.t (.t (.t (.t (.t (.t (.t (.t (.t (.t (.t (.t (.t .h))))))))))))))))))))))))) rfl .nil)))))))) (.own (.t (.t (.t (.t (.t (.t (.t (.t .h)))))))) (fun _ h => h) .nil) (fun ha => X_callS cf7 (.cons (EN ha (.tmp rfl rfl) rfl) .nil) (l_toMediator_ok a_aM v0_0 v0_1 v0_2 v0_3 v0_5 v0_8 v0_9 v0_11 _ hx19)) (fun p20 => ?_)
  obtain ⟨r21, hx22, hF⟩ := bind_some hF
  refine D_act16 rfl rfl .no (.cons (.t (.t (.t (.t (.t (.t (.t .h))))))) (.cons (.t (.t (.t (.t (.t (.t .h)))))) (.cons (.t (.t (.t (.t (.t .h))))) (.cons (.t (.t (.t (.t .h)))) (.cons (.t (.t (.t .h))) (.cons (.t (.t .h)) (.cons (.t .h) (.cons .h (.cons .h (.cons .h (.cons .h (.cons .h (.cons .h (.cons .h (.cons .h (.cons .h .nil)))))))))))))))) (.dep rfl .nil) (fun ha => XC_borL (pre := []) (.cons frz_own (.cons frz_own (.cons frz_own (.cons frz_own (.cons frz_own (.cons frz_own (.cons frz_own (.cons frz_own (.cons frz_own (.cons frz_own (.cons frz_own (.cons frz_own (.cons frz_own (.cons frz_own (.cons frz_own (.cons frz_own .nil)))))))))))))))) (fun _ => .nil) (X_callS cf9 (.cons (EN ha (.tmp rfl rfl) rfl) (.cons (EN ha (.tmp rfl rfl) rfl) .nil)) (l_eqMediator_ok r11 p13.1 p13.2.2.1 p13.2.2.2.2.1 p13.2.2.2.2.2.2.1 p13.2.2.2.2.2.2.2.2.1 p13.2.2.2.2.2.2.2.2.2.2.1 p13.2.2.2.2.2.2.2.2.2.2.2.2.1 p13.2.2.2.2.2.2.2.2.2.2.2.2.2.2.1 r18 p20.1 p20.2.2.1 p20.2.2.2.2.1 p20.2.2.2.2.2.2.1 p20.2.2.2.2.2.2.2.2.1 p20.2.2.2.2.2.2.2.2.2.2.1 p20.2.2.2.2.2.2.2.2.2.2.2.2.1 p20.2.2.2.2.2.2.2.2.2.2.2.2.2.2.1 _ hx22))) (fun _ => ?_)
  refine D_val rfl .no (fun ha => V_not (b := r21) (EN ha (.tmp rfl rfl) rfl)) ?_
  refine D_nil (CW_cond (b := (!r21)) (.tmp rfl rfl) (fun hb24 => ?_) (fun hb24 => ?_))
  · rw [if_pos hb24] at hF
    refine K_region (C_val (V_assign (v := (.bool false)) (.bool _)) ?_)
    refine C_nil (CW_ret ?_)
    obtain rfl := Option.some.inj hF
    exact End_ret () (.tmp rfl rfl .nil) rfl (.sel .nil)
  rw [if_neg (by rw [hb24]; exact Bool.false_ne_true)] at hF
  refine CW_skip (K_region (C_val (V_assign (v := (.bool true)) (.bool _)) ?_))
  refine C_nil (CW_ret ?_)
  obtain rfl := Option.some.inj hF
  exact End_ret () (.tmp rfl rfl .nil) rfl (.sel .nil)

end Go.Proofs.YtfkhlplpbhadhaaGreatDoor
