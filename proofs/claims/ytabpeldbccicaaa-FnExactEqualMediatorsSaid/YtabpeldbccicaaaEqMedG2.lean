/-
  Functions of the program as Lean functions, and that the calls return what these say: part 3. No conditions.
-/
import Derived.Test.YtabpeldbccicaaaEqMedG1
import Derived.KernelRfl
set_option maxRecDepth 100000
set_option linter.unusedVariables false
namespace Go.Proofs.Ytabpeldbccicaaa
open Go Go.Fw

/-! slices.EqualFunc[[][][]int,[][][]int,[][]int,[][]int] -/
def g_slices_EqualFunc_int_int_int_int_iSameTuples_L1 (a_s2 : List (List (List Int))) : List (List (List Int)) → Nat → Option (Bool)
  | [], k4 => some true
  | x6 :: rest5, k4 => (ix a_s2 (k4 : Int)).bind fun x16 =>
    (i_SameTuples x6 x16).bind fun r23 =>
    if (!r23) then (
      some false)
    else (
      g_slices_EqualFunc_int_int_int_int_iSameTuples_L1 a_s2 rest5 (k4 + 1))
def g_slices_EqualFunc_int_int_int_int_iSameTuples (a_s1 : List (List (List Int))) (a_s2 : List (List (List Int))) : Option (Bool) :=
  if (((a_s1.length : Int) : Int) != (a_s2.length : Int)) then (
    some false)
  else (
    g_slices_EqualFunc_int_int_int_int_iSameTuples_L1 a_s2 a_s1 0)
theorem g_slices_EqualFunc_int_int_int_int_iSameTuples_ok (a_s1 : List (List (List Int))) (v0_0 : Sv) (a_s2 : List (List (List Int))) (v1_0 : Sv) (R : Bool) (hF : g_slices_EqualFunc_int_int_int_int_iSameTuples a_s1 a_s2 = some R) :
    Fw.Spec Try.prog 103 [v0_0.v, v1_0.v, (.func (.func 104) [].toArray [].toArray)] [crd (RdS 128 (RdS 45 (RdS 3 rdInt))) v0_0.v a_s1, crd (RdS 128 (RdS 45 (RdS 3 rdInt))) v1_0.v a_s2] (fun _ : Unit => (.bool R)) (fun _ => []) := by
  refine Spec_enter (n := 32) Try.func103 rfl rfl (rs := [.tmp 6]) rfl rfl rfl ?_
  intro H0 F0
  unfold g_slices_EqualFunc_int_int_int_int_iSameTuples at hF
  refine K_region ?_
  refine C_val (V_assign (v := (.bool false)) (.bool _)) ?_
  refine C_nil ?_
  refine K_in ?_
  refine K_region ?_
  refine C_val (V_move (v := v0_0.v) (.tmp rfl rfl)) ?_
  refine C_at .h (fun hp => V_lenR (l := a_s1.length) sl53 (.tmp rfl rfl) (crd_len hp)) ?_
  refine C_val (V_move (v := v1_0.v) (.tmp rfl rfl)) ?_
  refine C_at (.t .h) (fun hp => V_lenR (l := a_s2.length) sl53 (.tmp rfl rfl) (crd_len hp)) ?_
  refine C_val (V_neq (i := (a_s1.length : Int)) (j := (a_s2.length : Int)) (.tmp rfl rfl) (.tmp rfl rfl)) ?_
  refine C_nil ?_
  refine CW_cond (b := (((a_s1.length : Int) : Int) != (a_s2.length : Int))) (.tmp rfl rfl) (fun hb28 => ?_) (fun hb28 => ?_)
  · rw [if_pos hb28] at hF
    refine K_region ?_
    refine C_val (V_assign (v := (.bool false)) (.bool _)) ?_
    refine C_nil ?_
    refine CW_ret ?_
    obtain rfl := Option.some.inj hF
    exact End_ret () (.tmp rfl rfl .nil) rfl (.sel .nil)
  rw [if_neg (by rw [hb28]; exact Bool.false_ne_true)] at hF
  refine CW_skip ?_
  refine K_in ?_
  refine K_region ?_
  refine C_val (V_move (v := v0_0.v) (.tmp rfl rfl)) ?_
  refine C_at .h (fun hp => V_lenR (l := a_s1.length) sl53 (.tmp rfl rfl) (crd_len hp)) ?_
  refine C_val (V_move (v := (.int .i64 0)) (.int _ _)) ?_
  refine C_nil ?_
  refine CW_block ?_
  refine CW_loop (m := a_s1.length) (fun m2 f' cs' => ∃ (g : Fr) (k4 : Nat) (rest5 : List (List (List Int))), m2 = rest5.length ∧ f' = updL g [(1, v1_0.v), (2, (.func (.func 104) [].toArray [].toArray)), (15, v0_0.v), (16, (.int .i64 (a_s1.length : Int))), (17, (.int .i64 (k4 : Int)))] ∧ List.drop k4 a_s1 = rest5 ∧ Ent cs' [crd (RdS 128 (RdS 45 (RdS 3 rdInt))) v1_0.v a_s2, crd (RdS 128 (RdS 45 (RdS 3 rdInt))) v0_0.v a_s1] ∧ g_slices_EqualFunc_int_int_int_int_iSameTuples_L1 a_s2 rest5 k4 = some R) ⟨_, 0, _, rfl, (EqL.cons rfl (EqL.cons rfl (EqL.cons rfl (EqL.cons rfl (EqL.cons rfl (EqL.nil)))))).eq, rfl, (.sel (.rd (.t .h) rfl (.rd .h rfl .nil))), hF⟩ ?_
  clear hF
  rintro m2 _ _ ⟨g3, k4, rest5, rfl, rfl, hd7, hE, hF⟩
  refine K_ent hE ?_
  clear hE
  refine K_pure (c := crd (RdS 128 (RdS 45 (RdS 3 rdInt))) v0_0.v a_s1) (.t .h) crd_bound (fun hbd12 => ?_)
  rcases rest5 with _ | ⟨x6, rest5⟩
  · have hk8 := List.drop_eq_nil_iff.1 hd7
    have hfe11 : (decide (((k4 : Int) : Int) < (a_s1.length : Int))) = false := decide_eq_false (by omega)
    rw [g_slices_EqualFunc_int_int_int_int_iSameTuples_L1] at hF
    refine K_region ?_
    refine C_val (V_lss (i := (k4 : Int)) (j := (a_s1.length : Int)) (.tmp rfl rfl) (.tmp rfl rfl)) ?_
    refine C_nil ?_
    refine K_in ?_
    refine CW_cond (b := (decide (((k4 : Int) : Int) < (a_s1.length : Int)))) (.tmp rfl rfl) (fun hb => absurd (hfe11.symm.trans hb) (by decide)) (fun _ => ?_)
    refine CW_exit ?_
    refine CThen_exit ?_
    refine CThen_exit ?_
    refine CIn_self ?_
    refine K_region ?_
    refine C_val (V_assign (v := (.bool true)) (.bool _)) ?_
    refine C_nil ?_
    refine CW_ret ?_
    obtain rfl := Option.some.inj hF
    exact End_ret () (.tmp rfl rfl .nil) rfl (.sel .nil)
  obtain ⟨hk8, hx9, hd10⟩ := drop_cons hd7
  have hfe11 : (decide (((k4 : Int) : Int) < (a_s1.length : Int))) = true := decide_eq_true (by omega)
  rw [g_slices_EqualFunc_int_int_int_int_iSameTuples_L1] at hF
  refine K_region ?_
  refine C_val (V_lss (i := (k4 : Int)) (j := (a_s1.length : Int)) (.tmp rfl rfl) (.tmp rfl rfl)) ?_
  refine C_nil ?_
  refine K_in ?_
  refine CW_cond (b := (decide (((k4 : Int) : Int) < (a_s1.length : Int)))) (.tmp rfl rfl) (fun _ => ?_) (fun hb => absurd (hfe11.symm.trans hb) (by decide))
  refine CW_skip ?_
  refine K_block ?_
  refine K_region ?_
  refine C_val (V_move (v := (.int .i64 (k4 : Int))) (.tmp rfl rfl)) ?_
  refine C_idx (a := x6) sl53 ty128.sz (.tmp rfl rfl) (.tmp rfl rfl) (.t .h) (Int.natCast_nonneg k4) hx9 (fun k13 j14 => ?_)
  refine C_ldV (R' := (RdS 45 (RdS 3 rdInt))) ag128 (.tmp rfl rfl) .h lv128_0 (fun w15 => ?_)
  refine C_val (V_assign (v := (.int .i64 (k4 : Int))) (.tmp rfl rfl)) ?_
  refine C_val (V_assign (v := w15.v) (.tmp rfl rfl)) ?_
  refine C_nil ?_
  refine K_region ?_
  refine C_val (V_move (v := v1_0.v) (.tmp rfl rfl)) ?_
  refine C_val (V_move (v := (.int .i64 (k4 : Int))) (.tmp rfl rfl)) ?_
  obtain ⟨x16, hx17, hF⟩ := bind_some hF
  obtain ⟨hp18, hx19⟩ := ix_some hx17
  refine C_idx (a := x16) sl53 ty128.sz (.tmp rfl rfl) (.tmp rfl rfl) (.t (.t .h)) hp18 hx19 (fun k20 j21 => ?_)
  refine C_ldV (R' := (RdS 45 (RdS 3 rdInt))) ag128 (.tmp rfl rfl) .h lv128_0 (fun w22 => ?_)
  refine C_val (V_assign (v := w22.v) (.tmp rfl rfl)) ?_
  refine C_nil ?_
  refine K_region ?_
  refine C_val (V_move (v := (.func (.func 104) [].toArray [].toArray)) (.tmp rfl rfl)) ?_
  refine C_val (V_move (v := w15.v) (.tmp rfl rfl)) ?_
  refine C_val (V_move (v := w22.v) (.tmp rfl rfl)) ?_
  obtain ⟨r23, hx24, hF⟩ := bind_some hF
  refine C_x0 (.rd (.t (.t .h)) rfl (.rd .h rfl .nil)) (X_callCS cf104 (.tmp rfl rfl) (.cons (.tmp rfl rfl) (.cons (.tmp rfl rfl) .nil)) (i_SameTuples_ok x6 w15 x16 w22 _ hx24)) (fun _ => ?_)
  refine C_val (V_not (b := r23) (.tmp rfl rfl)) ?_
  refine C_nil ?_
  refine CW_cond (b := (!r23)) (.tmp rfl rfl) (fun hb27 => ?_) (fun hb27 => ?_)
  · rw [if_pos hb27] at hF
    refine K_region ?_
    refine C_val (V_assign (v := (.bool false)) (.bool _)) ?_
    refine C_nil ?_
    refine CW_ret ?_
    obtain rfl := Option.some.inj hF
    exact End_ret () (.tmp rfl rfl .nil) rfl (.sel .nil)
  rw [if_neg (by rw [hb27]; exact Bool.false_ne_true)] at hF
  refine CW_skip ?_
  refine CW_region ?_
  refine C_val (V_add (i := (k4 : Int)) (j := 1) (.tmp rfl rfl) (.int _ _)) ?_
  refine C_val (V_move (v := (.int .i64 (IntKind.i64.wrap ((k4 : Int) + 1)))) (.tmp rfl rfl)) ?_
  refine C_nil ?_
  have hw26 : IntKind.i64.wrap ((k4 : Int) + 1) = ((k4 + 1 : Nat) : Int) := by rw [wrap_in (by omega) (by omega)]; rfl
  rw [hw26]
  exact ⟨_, Nat.lt_succ_self _, _, k4 + 1, rest5, rfl, (EqL.cons rfl (EqL.cons rfl (EqL.cons rfl (EqL.cons rfl (EqL.cons rfl (EqL.nil)))))).eq, hd10, (.sel (.rd (.t (.t (.t (.t .h)))) rfl (.rd (.t (.t (.t (.t (.t .h))))) rfl .nil))), hF⟩

/-! impl.EqualMediators -/
def i_EqualMediators (a_a : Mediator) (a_b : Mediator) : Option (Bool) :=
  ((g_slices_Equal_int_int a_a.Schema a_b.Schema).bind fun r5 =>
    bif r5 then ((g_slices_EqualFunc_impl_Method_impl_Method_impl_Method_impl_Method_isameMethod a_a.Methods a_b.Methods).bind fun r9 =>
      bif r9 then ((g_slices_EqualFunc_impl_Rule_impl_Rule_impl_Rule_impl_Rule_isameRule a_a.Rules a_b.Rules).bind fun r13 =>
        bif r13 then ((i_SameFacts a_a.Source.Facts a_b.Source.Facts).bind fun r17 =>
          bif r17 then (bif ((a_a.Source.Version : Int) == a_b.Source.Version) then ((i_EqualCaches a_a.Cache a_b.Cache).bind fun r22 =>
              bif r22 then (bif ((a_a.Now : Int) == a_b.Now) then ((i_SameAccesses a_a.Log a_b.Log).bind fun r27 =>
                  bif r27 then ((g_slices_Equal_int_int a_a.Times a_b.Times).bind fun r31 =>
                    bif r31 then (bif ((a_a.Spent : Int) == a_b.Spent) then ((g_slices_EqualFunc_int_int_int_int_iSameTuples a_a.Results a_b.Results).bind fun r36 =>
                        some r36)
                      else (some false))
                    else (some false))
                  else (some false))
                else (some false))
              else (some false))
            else (some false))
          else (some false))
        else (some false))
      else (some false))
    else (some false)).bind fun o3 =>
  match o3 with
  | c39 => some c39
theorem i_EqualMediators_ok (a_a : Mediator) (v0_0 : Sv) (v0_1 : Sv) (v0_2 : Sv) (v0_3 : Sv) (v0_5 : Sv) (v0_8 : Sv) (v0_9 : Sv) (v0_11 : Sv) (a_b : Mediator) (v1_0 : Sv) (v1_1 : Sv) (v1_2 : Sv) (v1_3 : Sv) (v1_5 : Sv) (v1_8 : Sv) (v1_9 : Sv) (v1_11 : Sv) (R : Bool) (hF : i_EqualMediators a_a a_b = some R) :
    Fw.Spec Try.prog 41 [(.agg [v0_0.v, v0_1.v, v0_2.v, v0_3.v, (.int .i64 a_a.Source.Version), v0_5.v, (.int .i64 a_a.Cache.Age), (.int .i64 a_a.Now), v0_8.v, v0_9.v, (.int .i64 a_a.Spent), v0_11.v].toArray), (.agg [v1_0.v, v1_1.v, v1_2.v, v1_3.v, (.int .i64 a_b.Source.Version), v1_5.v, (.int .i64 a_b.Cache.Age), (.int .i64 a_b.Now), v1_8.v, v1_9.v, (.int .i64 a_b.Spent), v1_11.v].toArray)] [crd (RdS 3 rdInt) v0_0.v a_a.Schema, crd (RdS 101 rd101) v0_1.v a_a.Methods, crd (RdS 126 rd126) v0_2.v a_a.Rules, crd (RdS 157 rd157) v0_3.v a_a.Source.Facts, crd (RdS 159 rd159) v0_5.v a_a.Cache.Entries, crd (RdS 100 rd100) v0_8.v a_a.Log, crd (RdS 3 rdInt) v0_9.v a_a.Times, crd (RdS 128 (RdS 45 (RdS 3 rdInt))) v0_11.v a_a.Results, crd (RdS 3 rdInt) v1_0.v a_b.Schema, crd (RdS 101 rd101) v1_1.v a_b.Methods, crd (RdS 126 rd126) v1_2.v a_b.Rules, crd (RdS 157 rd157) v1_3.v a_b.Source.Facts, crd (RdS 159 rd159) v1_5.v a_b.Cache.Entries, crd (RdS 100 rd100) v1_8.v a_b.Log, crd (RdS 3 rdInt) v1_9.v a_b.Times, crd (RdS 128 (RdS 45 (RdS 3 rdInt))) v1_11.v a_b.Results] (fun _ : Unit => (.bool R)) (fun _ => []) := by
  refine Spec_enter (n := 84) Try.func41 rfl rfl (rs := [.tmp 4]) rfl rfl rfl ?_
  intro H0 F0
  unfold i_EqualMediators at hF
  refine K_region ?_
  refine C_newR rfl (N_box (g := false) (v := (.agg [v0_0.v, v0_1.v, v0_2.v, v0_3.v, (.int .i64 a_a.Source.Version), v0_5.v, (.int .i64 a_a.Cache.Age), (.int .i64 a_a.Now), v0_8.v, v0_9.v, (.int .i64 a_a.Spent), v0_11.v].toArray)) ty55.sz (.tmp rfl rfl) rfl) (fun k1 => ?_)
  refine C_newR rfl (N_box (g := false) (v := (.agg [v1_0.v, v1_1.v, v1_2.v, v1_3.v, (.int .i64 a_b.Source.Version), v1_5.v, (.int .i64 a_b.Cache.Age), (.int .i64 a_b.Now), v1_8.v, v1_9.v, (.int .i64 a_b.Spent), v1_11.v].toArray)) ty55.sz (.tmp rfl rfl) rfl) (fun k2 => ?_)
  refine C_val (V_assign (v := (.bool false)) (.bool _)) ?_
  refine C_nil ?_
  obtain ⟨o3, hio3, hO4⟩ := bind_some hF
  refine K_region ?_
  refine C_cut (fun f' cs' => ∃ (c39 : Bool) (g : Fr), c39 = o3 ∧ f' = updL g [(4, (.bool c39))] ∧ Ent cs' []) ?_ ?_
  · replace hF := hio3
    refine C_val (V_fieldAddr (off := 0) fd55_0 (.tmp rfl rfl)) ?_
    refine C_at (.t .h) (fun hp => V_load (v := v0_0.v) ag45 (.tmp rfl rfl) hp.2 rfl rfl) ?_
    refine C_val (V_fieldAddr (off := 0) fd55_0 (.tmp rfl rfl)) ?_
    refine C_at .h (fun hp => V_load (v := v1_0.v) ag45 (.tmp rfl rfl) hp.2 rfl rfl) ?_
    obtain ⟨r5, hx6, hF⟩ := bind_some hF
    refine C_x0 (.rd (.t (.t .h)) rfl (.rd (.t (.t (.t (.t (.t (.t (.t (.t (.t (.t .h)))))))))) rfl .nil)) (X_callS cf96 (.cons (.tmp rfl rfl) (.cons (.tmp rfl rfl) .nil)) (g_slices_Equal_int_int_ok a_a.Schema v0_0 a_b.Schema v1_0 _ hx6)) (fun _ => ?_)
    refine C_val (V_move (v := (.bool r5)) (.tmp rfl rfl)) ?_
    rcases Bool.eq_false_or_eq_true r5 with hg8 | hg8
    · rw [hg8]
      try rw [hg8] at hF; dsimp only [cond_true, cond_false] at hF
      refine C_on (t := 10) rfl rfl rfl ?_
      refine C_val (V_fieldAddr (off := 1) fd55_1 (.tmp rfl rfl)) ?_
      refine C_on (t := 10) rfl rfl rfl ?_
      refine C_at (.t .h) (fun hp => V_load (v := v0_1.v) ag35 (.tmp rfl rfl) hp.2 rfl rfl) ?_
      refine C_on (t := 10) rfl rfl rfl ?_
      refine C_val (V_fieldAddr (off := 1) fd55_1 (.tmp rfl rfl)) ?_
      refine C_on (t := 10) rfl rfl rfl ?_
      refine C_at .h (fun hp => V_load (v := v1_1.v) ag35 (.tmp rfl rfl) hp.2 rfl rfl) ?_
      refine C_on (t := 10) rfl rfl rfl ?_
      obtain ⟨r9, hx10, hF⟩ := bind_some hF
      refine C_x0 (.rd (.t (.t (.t .h))) rfl (.rd (.t (.t (.t (.t (.t (.t (.t (.t (.t (.t (.t .h))))))))))) rfl .nil)) (X_callS cf97 (.cons (.tmp rfl rfl) (.cons (.tmp rfl rfl) (.cons (.fn _) .nil))) (g_slices_EqualFunc_impl_Method_impl_Method_impl_Method_impl_Method_isameMethod_ok a_a.Methods v0_1 a_b.Methods v1_1 _ hx10)) (fun _ => ?_)
      refine C_val (V_pick (b := true) (u := (.bool r9)) (v := (.bool false)) (.tmp rfl rfl) (.tmp rfl rfl) (.bool _)) ?_
      refine C_val (V_move (v := (.bool r9)) (.tmp rfl rfl)) ?_
      rcases Bool.eq_false_or_eq_true r9 with hg12 | hg12
      · rw [hg12]
        try rw [hg12] at hF; dsimp only [cond_true, cond_false] at hF
        refine C_on (t := 17) rfl rfl rfl ?_
        refine C_val (V_fieldAddr (off := 2) fd55_2 (.tmp rfl rfl)) ?_
        refine C_on (t := 17) rfl rfl rfl ?_
        refine C_at (.t .h) (fun hp => V_load (v := v0_2.v) ag46 (.tmp rfl rfl) hp.2 rfl rfl) ?_
        refine C_on (t := 17) rfl rfl rfl ?_
        refine C_val (V_fieldAddr (off := 2) fd55_2 (.tmp rfl rfl)) ?_
        refine C_on (t := 17) rfl rfl rfl ?_
        refine C_at .h (fun hp => V_load (v := v1_2.v) ag46 (.tmp rfl rfl) hp.2 rfl rfl) ?_
        refine C_on (t := 17) rfl rfl rfl ?_
        obtain ⟨r13, hx14, hF⟩ := bind_some hF
        refine C_x0 (.rd (.t (.t (.t (.t .h)))) rfl (.rd (.t (.t (.t (.t (.t (.t (.t (.t (.t (.t (.t (.t .h)))))))))))) rfl .nil)) (X_callS cf99 (.cons (.tmp rfl rfl) (.cons (.tmp rfl rfl) (.cons (.fn _) .nil))) (g_slices_EqualFunc_impl_Rule_impl_Rule_impl_Rule_impl_Rule_isameRule_ok a_a.Rules v0_2 a_b.Rules v1_2 _ hx14)) (fun _ => ?_)
        refine C_val (V_pick (b := true) (u := (.bool r13)) (v := (.bool false)) (.tmp rfl rfl) (.tmp rfl rfl) (.bool _)) ?_
        refine C_val (V_move (v := (.bool r13)) (.tmp rfl rfl)) ?_
        rcases Bool.eq_false_or_eq_true r13 with hg16 | hg16
        · rw [hg16]
          try rw [hg16] at hF; dsimp only [cond_true, cond_false] at hF
          refine C_on (t := 24) rfl rfl rfl ?_
          refine C_val (V_fieldAddr (off := 3) fd55_3 (.tmp rfl rfl)) ?_
          refine C_on (t := 24) rfl rfl rfl ?_
          refine C_val (V_fieldAddr (off := 0) fd49_0 (.tmp rfl rfl)) ?_
          refine C_on (t := 24) rfl rfl rfl ?_
          refine C_at (.t .h) (fun hp => V_load (v := v0_3.v) ag47 (.tmp rfl rfl) hp.2 rfl rfl) ?_
          refine C_on (t := 24) rfl rfl rfl ?_
          refine C_val (V_fieldAddr (off := 3) fd55_3 (.tmp rfl rfl)) ?_
          refine C_on (t := 24) rfl rfl rfl ?_
          refine C_val (V_fieldAddr (off := 0) fd49_0 (.tmp rfl rfl)) ?_
          refine C_on (t := 24) rfl rfl rfl ?_
          refine C_at .h (fun hp => V_load (v := v1_3.v) ag47 (.tmp rfl rfl) hp.2 rfl rfl) ?_
          refine C_on (t := 24) rfl rfl rfl ?_
          obtain ⟨r17, hx18, hF⟩ := bind_some hF
          refine C_x0 (.rd (.t (.t (.t (.t (.t .h))))) rfl (.rd (.t (.t (.t (.t (.t (.t (.t (.t (.t (.t (.t (.t (.t .h))))))))))))) rfl .nil)) (X_callS cf101 (.cons (.tmp rfl rfl) (.cons (.tmp rfl rfl) .nil)) (i_SameFacts_ok a_a.Source.Facts v0_3 a_b.Source.Facts v1_3 _ hx18)) (fun _ => ?_)
          refine C_val (V_pick (b := true) (u := (.bool r17)) (v := (.bool false)) (.tmp rfl rfl) (.tmp rfl rfl) (.bool _)) ?_
          refine C_val (V_move (v := (.bool r17)) (.tmp rfl rfl)) ?_
          rcases Bool.eq_false_or_eq_true r17 with hg20 | hg20
          · rw [hg20]
            try rw [hg20] at hF; dsimp only [cond_true, cond_false] at hF
            refine C_on (t := 33) rfl rfl rfl ?_
            refine C_val (V_fieldAddr (off := 3) fd55_3 (.tmp rfl rfl)) ?_
            refine C_on (t := 33) rfl rfl rfl ?_
            refine C_val (V_fieldAddr (off := 1) fd49_1 (.tmp rfl rfl)) ?_
            refine C_on (t := 33) rfl rfl rfl ?_
            refine C_at (.t .h) (fun hp => V_load (v := (.int .i64 a_a.Source.Version)) ag3 (.tmp rfl rfl) hp.2 rfl rfl) ?_
            refine C_on (t := 33) rfl rfl rfl ?_
            refine C_val (V_fieldAddr (off := 3) fd55_3 (.tmp rfl rfl)) ?_
            refine C_on (t := 33) rfl rfl rfl ?_
            refine C_val (V_fieldAddr (off := 1) fd49_1 (.tmp rfl rfl)) ?_
            refine C_on (t := 33) rfl rfl rfl ?_
            refine C_at .h (fun hp => V_load (v := (.int .i64 a_b.Source.Version)) ag3 (.tmp rfl rfl) hp.2 rfl rfl) ?_
            refine C_on (t := 33) rfl rfl rfl ?_
            refine C_val (V_eql (i := a_a.Source.Version) (j := a_b.Source.Version) (.tmp rfl rfl) (.tmp rfl rfl)) ?_
            refine C_val (V_pick (b := true) (u := (.bool ((a_a.Source.Version : Int) == a_b.Source.Version))) (v := (.bool false)) (.tmp rfl rfl) (.tmp rfl rfl) (.bool _)) ?_
            refine C_val (V_move (v := (.bool ((a_a.Source.Version : Int) == a_b.Source.Version))) (.tmp rfl rfl)) ?_
            rcases Bool.eq_false_or_eq_true ((a_a.Source.Version : Int) == a_b.Source.Version) with hg21 | hg21
            · rw [hg21]
              try rw [hg21] at hF; dsimp only [cond_true, cond_false] at hF
              refine C_on (t := 42) rfl rfl rfl ?_
              refine C_val (V_fieldAddr (off := 5) fd55_4 (.tmp rfl rfl)) ?_
              refine C_on (t := 42) rfl rfl rfl ?_
              refine C_at (.t .h) (fun hp => V_loadA (s := 2) (l := [v0_5.v, (.int .i64 a_a.Cache.Age)]) ag52 ty52.sz (.tmp rfl rfl) hp.2 rfl (by decide) (Nat.le_of_ble_eq_true rfl) rfl) ?_
              refine C_on (t := 42) rfl rfl rfl ?_
              refine C_val (V_fieldAddr (off := 5) fd55_4 (.tmp rfl rfl)) ?_
              refine C_on (t := 42) rfl rfl rfl ?_
              refine C_at .h (fun hp => V_loadA (s := 2) (l := [v1_5.v, (.int .i64 a_b.Cache.Age)]) ag52 ty52.sz (.tmp rfl rfl) hp.2 rfl (by decide) (Nat.le_of_ble_eq_true rfl) rfl) ?_
              refine C_on (t := 42) rfl rfl rfl ?_
              obtain ⟨r22, hx23, hF⟩ := bind_some hF
              refine C_x0 (.rd (.t (.t (.t (.t (.t (.t .h)))))) rfl (.rd (.t (.t (.t (.t (.t (.t (.t (.t (.t (.t (.t (.t (.t (.t .h)))))))))))))) rfl .nil)) (X_callS cf102 (.cons (.tmp rfl rfl) (.cons (.tmp rfl rfl) .nil)) (i_EqualCaches_ok a_a.Cache v0_5 a_b.Cache v1_5 _ hx23)) (fun _ => ?_)
              refine C_val (V_pick (b := true) (u := (.bool r22)) (v := (.bool false)) (.tmp rfl rfl) (.tmp rfl rfl) (.bool _)) ?_
              refine C_val (V_move (v := (.bool r22)) (.tmp rfl rfl)) ?_
              rcases Bool.eq_false_or_eq_true r22 with hg25 | hg25
              · rw [hg25]
                try rw [hg25] at hF; dsimp only [cond_true, cond_false] at hF
                refine C_on (t := 49) rfl rfl rfl ?_
                refine C_val (V_fieldAddr (off := 7) fd55_5 (.tmp rfl rfl)) ?_
                refine C_on (t := 49) rfl rfl rfl ?_
                refine C_at (.t .h) (fun hp => V_load (v := (.int .i64 a_a.Now)) ag3 (.tmp rfl rfl) hp.2 rfl rfl) ?_
                refine C_on (t := 49) rfl rfl rfl ?_
                refine C_val (V_fieldAddr (off := 7) fd55_5 (.tmp rfl rfl)) ?_
                refine C_on (t := 49) rfl rfl rfl ?_
                refine C_at .h (fun hp => V_load (v := (.int .i64 a_b.Now)) ag3 (.tmp rfl rfl) hp.2 rfl rfl) ?_
                refine C_on (t := 49) rfl rfl rfl ?_
                refine C_val (V_eql (i := a_a.Now) (j := a_b.Now) (.tmp rfl rfl) (.tmp rfl rfl)) ?_
                refine C_val (V_pick (b := true) (u := (.bool ((a_a.Now : Int) == a_b.Now))) (v := (.bool false)) (.tmp rfl rfl) (.tmp rfl rfl) (.bool _)) ?_
                refine C_val (V_move (v := (.bool ((a_a.Now : Int) == a_b.Now))) (.tmp rfl rfl)) ?_
                rcases Bool.eq_false_or_eq_true ((a_a.Now : Int) == a_b.Now) with hg26 | hg26
                · rw [hg26]
                  try rw [hg26] at hF; dsimp only [cond_true, cond_false] at hF
                  refine C_on (t := 56) rfl rfl rfl ?_
                  refine C_val (V_fieldAddr (off := 8) fd55_6 (.tmp rfl rfl)) ?_
                  refine C_on (t := 56) rfl rfl rfl ?_
                  refine C_at (.t .h) (fun hp => V_load (v := v0_8.v) ag33 (.tmp rfl rfl) hp.2 rfl rfl) ?_
                  refine C_on (t := 56) rfl rfl rfl ?_
                  refine C_val (V_fieldAddr (off := 8) fd55_6 (.tmp rfl rfl)) ?_
                  refine C_on (t := 56) rfl rfl rfl ?_
                  refine C_at .h (fun hp => V_load (v := v1_8.v) ag33 (.tmp rfl rfl) hp.2 rfl rfl) ?_
                  refine C_on (t := 56) rfl rfl rfl ?_
                  obtain ⟨r27, hx28, hF⟩ := bind_some hF
                  refine C_x0 (.rd (.t (.t (.t (.t (.t (.t (.t .h))))))) rfl (.rd (.t (.t (.t (.t (.t (.t (.t (.t (.t (.t (.t (.t (.t (.t (.t .h))))))))))))))) rfl .nil)) (X_callS cf62 (.cons (.tmp rfl rfl) (.cons (.tmp rfl rfl) .nil)) (i_SameAccesses_ok a_a.Log v0_8 a_b.Log v1_8 _ hx28)) (fun _ => ?_)
                  refine C_val (V_pick (b := true) (u := (.bool r27)) (v := (.bool false)) (.tmp rfl rfl) (.tmp rfl rfl) (.bool _)) ?_
                  refine C_val (V_move (v := (.bool r27)) (.tmp rfl rfl)) ?_
                  rcases Bool.eq_false_or_eq_true r27 with hg30 | hg30
                  · rw [hg30]
                    try rw [hg30] at hF; dsimp only [cond_true, cond_false] at hF
                    refine C_on (t := 63) rfl rfl rfl ?_
                    refine C_val (V_fieldAddr (off := 9) fd55_7 (.tmp rfl rfl)) ?_
                    refine C_on (t := 63) rfl rfl rfl ?_
                    refine C_at (.t .h) (fun hp => V_load (v := v0_9.v) ag45 (.tmp rfl rfl) hp.2 rfl rfl) ?_
                    refine C_on (t := 63) rfl rfl rfl ?_
                    refine C_val (V_fieldAddr (off := 9) fd55_7 (.tmp rfl rfl)) ?_
                    refine C_on (t := 63) rfl rfl rfl ?_
                    refine C_at .h (fun hp => V_load (v := v1_9.v) ag45 (.tmp rfl rfl) hp.2 rfl rfl) ?_
                    refine C_on (t := 63) rfl rfl rfl ?_
                    obtain ⟨r31, hx32, hF⟩ := bind_some hF
                    refine C_x0 (.rd (.t (.t (.t (.t (.t (.t (.t (.t .h)))))))) rfl (.rd (.t (.t (.t (.t (.t (.t (.t (.t (.t (.t (.t (.t (.t (.t (.t (.t .h)))))))))))))))) rfl .nil)) (X_callS cf96 (.cons (.tmp rfl rfl) (.cons (.tmp rfl rfl) .nil)) (g_slices_Equal_int_int_ok a_a.Times v0_9 a_b.Times v1_9 _ hx32)) (fun _ => ?_)
                    refine C_val (V_pick (b := true) (u := (.bool r31)) (v := (.bool false)) (.tmp rfl rfl) (.tmp rfl rfl) (.bool _)) ?_
                    refine C_val (V_move (v := (.bool r31)) (.tmp rfl rfl)) ?_
                    rcases Bool.eq_false_or_eq_true r31 with hg34 | hg34
                    · rw [hg34]
                      try rw [hg34] at hF; dsimp only [cond_true, cond_false] at hF
                      refine C_on (t := 70) rfl rfl rfl ?_
                      refine C_val (V_fieldAddr (off := 10) fd55_8 (.tmp rfl rfl)) ?_
                      refine C_on (t := 70) rfl rfl rfl ?_
                      refine C_at (.t .h) (fun hp => V_load (v := (.int .i64 a_a.Spent)) ag3 (.tmp rfl rfl) hp.2 rfl rfl) ?_
                      refine C_on (t := 70) rfl rfl rfl ?_
                      refine C_val (V_fieldAddr (off := 10) fd55_8 (.tmp rfl rfl)) ?_
                      refine C_on (t := 70) rfl rfl rfl ?_
                      refine C_at .h (fun hp => V_load (v := (.int .i64 a_b.Spent)) ag3 (.tmp rfl rfl) hp.2 rfl rfl) ?_
                      refine C_on (t := 70) rfl rfl rfl ?_
                      refine C_val (V_eql (i := a_a.Spent) (j := a_b.Spent) (.tmp rfl rfl) (.tmp rfl rfl)) ?_
                      refine C_val (V_pick (b := true) (u := (.bool ((a_a.Spent : Int) == a_b.Spent))) (v := (.bool false)) (.tmp rfl rfl) (.tmp rfl rfl) (.bool _)) ?_
                      refine C_val (V_move (v := (.bool ((a_a.Spent : Int) == a_b.Spent))) (.tmp rfl rfl)) ?_
                      rcases Bool.eq_false_or_eq_true ((a_a.Spent : Int) == a_b.Spent) with hg35 | hg35
                      · rw [hg35]
                        try rw [hg35] at hF; dsimp only [cond_true, cond_false] at hF
                        refine C_on (t := 77) rfl rfl rfl ?_
                        refine C_val (V_fieldAddr (off := 11) fd55_9 (.tmp rfl rfl)) ?_
                        refine C_on (t := 77) rfl rfl rfl ?_
                        refine C_at (.t .h) (fun hp => V_load (v := v0_11.v) ag53 (.tmp rfl rfl) hp.2 rfl rfl) ?_
                        refine C_on (t := 77) rfl rfl rfl ?_
                        refine C_val (V_fieldAddr (off := 11) fd55_9 (.tmp rfl rfl)) ?_
                        refine C_on (t := 77) rfl rfl rfl ?_
                        refine C_at .h (fun hp => V_load (v := v1_11.v) ag53 (.tmp rfl rfl) hp.2 rfl rfl) ?_
                        refine C_on (t := 77) rfl rfl rfl ?_
                        obtain ⟨r36, hx37, hF⟩ := bind_some hF
                        refine C_x0 (.rd (.t (.t (.t (.t (.t (.t (.t (.t (.t .h))))))))) rfl (.rd (.t (.t (.t (.t (.t (.t (.t (.t (.t (.t (.t (.t (.t (.t (.t (.t (.t .h))))))))))))))))) rfl .nil)) (X_callS cf103 (.cons (.tmp rfl rfl) (.cons (.tmp rfl rfl) (.cons (.fn _) .nil))) (g_slices_EqualFunc_int_int_int_int_iSameTuples_ok a_a.Results v0_11 a_b.Results v1_11 _ hx37)) (fun _ => ?_)
                        refine C_val (V_pick (b := true) (u := (.bool r36)) (v := (.bool false)) (.tmp rfl rfl) (.tmp rfl rfl) (.bool _)) ?_
                        refine C_val (V_assign (v := (.bool r36)) (.tmp rfl rfl)) ?_
                        refine C_nil ?_
                        obtain rfl := Option.some.inj hF
                        exact ⟨_, _, rfl, (EqL.cons rfl (EqL.nil)).eq, (.sel .nil)⟩
                      rw [hg35]
                      try rw [hg35] at hF; dsimp only [cond_true, cond_false] at hF
                      refine C_off (t := 77) rfl rfl rfl ?_
                      refine C_off (t := 77) rfl rfl rfl ?_
                      refine C_off (t := 77) rfl rfl rfl ?_
                      refine C_off (t := 77) rfl rfl rfl ?_
                      refine C_off (t := 77) rfl rfl rfl ?_
                      refine C_val (V_pick (b := false) (u := undef) (v := (.bool false)) (.tmp rfl rfl) (.tmp rfl rfl) (.bool _)) ?_
                      refine C_val (V_assign (v := (.bool false)) (.tmp rfl rfl)) ?_
                      refine C_nil ?_
                      obtain rfl := Option.some.inj hF
                      exact ⟨_, _, rfl, (EqL.cons rfl (EqL.nil)).eq, (.sel .nil)⟩
                    rw [hg34]
                    try rw [hg34] at hF; dsimp only [cond_true, cond_false] at hF
                    refine C_off (t := 70) rfl rfl rfl ?_
                    refine C_off (t := 70) rfl rfl rfl ?_
                    refine C_off (t := 70) rfl rfl rfl ?_
                    refine C_off (t := 70) rfl rfl rfl ?_
                    refine C_off (t := 70) rfl rfl rfl ?_
                    refine C_val (V_pick (b := false) (u := undef) (v := (.bool false)) (.tmp rfl rfl) (.tmp rfl rfl) (.bool _)) ?_
                    refine C_val (V_move (v := (.bool false)) (.tmp rfl rfl)) ?_
                    refine C_off (t := 77) rfl rfl rfl ?_
                    refine C_off (t := 77) rfl rfl rfl ?_
                    refine C_off (t := 77) rfl rfl rfl ?_
                    refine C_off (t := 77) rfl rfl rfl ?_
                    refine C_off (t := 77) rfl rfl rfl ?_
                    refine C_val (V_pick (b := false) (u := undef) (v := (.bool false)) (.tmp rfl rfl) (.tmp rfl rfl) (.bool _)) ?_
                    refine C_val (V_assign (v := (.bool false)) (.tmp rfl rfl)) ?_
                    refine C_nil ?_
                    obtain rfl := Option.some.inj hF
                    exact ⟨_, _, rfl, (EqL.cons rfl (EqL.nil)).eq, (.sel .nil)⟩
                  rw [hg30]
                  try rw [hg30] at hF; dsimp only [cond_true, cond_false] at hF
                  refine C_off (t := 63) rfl rfl rfl ?_
                  refine C_off (t := 63) rfl rfl rfl ?_
                  refine C_off (t := 63) rfl rfl rfl ?_
                  refine C_off (t := 63) rfl rfl rfl ?_
                  refine C_off (t := 63) rfl rfl rfl ?_
                  refine C_val (V_pick (b := false) (u := undef) (v := (.bool false)) (.tmp rfl rfl) (.tmp rfl rfl) (.bool _)) ?_
                  refine C_val (V_move (v := (.bool false)) (.tmp rfl rfl)) ?_
                  refine C_off (t := 70) rfl rfl rfl ?_
                  refine C_off (t := 70) rfl rfl rfl ?_
                  refine C_off (t := 70) rfl rfl rfl ?_
                  refine C_off (t := 70) rfl rfl rfl ?_
                  refine C_off (t := 70) rfl rfl rfl ?_
                  refine C_val (V_pick (b := false) (u := undef) (v := (.bool false)) (.tmp rfl rfl) (.tmp rfl rfl) (.bool _)) ?_
                  refine C_val (V_move (v := (.bool false)) (.tmp rfl rfl)) ?_
                  refine C_off (t := 77) rfl rfl rfl ?_
                  refine C_off (t := 77) rfl rfl rfl ?_
                  refine C_off (t := 77) rfl rfl rfl ?_
                  refine C_off (t := 77) rfl rfl rfl ?_
                  refine C_off (t := 77) rfl rfl rfl ?_
                  refine C_val (V_pick (b := false) (u := undef) (v := (.bool false)) (.tmp rfl rfl) (.tmp rfl rfl) (.bool _)) ?_
                  refine C_val (V_assign (v := (.bool false)) (.tmp rfl rfl)) ?_
                  refine C_nil ?_
                  obtain rfl := Option.some.inj hF
                  exact ⟨_, _, rfl, (EqL.cons rfl (EqL.nil)).eq, (.sel .nil)⟩
                rw [hg26]
                try rw [hg26] at hF; dsimp only [cond_true, cond_false] at hF
                refine C_off (t := 56) rfl rfl rfl ?_
                refine C_off (t := 56) rfl rfl rfl ?_
                refine C_off (t := 56) rfl rfl rfl ?_
                refine C_off (t := 56) rfl rfl rfl ?_
                refine C_off (t := 56) rfl rfl rfl ?_
                refine C_val (V_pick (b := false) (u := undef) (v := (.bool false)) (.tmp rfl rfl) (.tmp rfl rfl) (.bool _)) ?_
                refine C_val (V_move (v := (.bool false)) (.tmp rfl rfl)) ?_
                refine C_off (t := 63) rfl rfl rfl ?_
                refine C_off (t := 63) rfl rfl rfl ?_
                refine C_off (t := 63) rfl rfl rfl ?_
                refine C_off (t := 63) rfl rfl rfl ?_
                refine C_off (t := 63) rfl rfl rfl ?_
                refine C_val (V_pick (b := false) (u := undef) (v := (.bool false)) (.tmp rfl rfl) (.tmp rfl rfl) (.bool _)) ?_
                refine C_val (V_move (v := (.bool false)) (.tmp rfl rfl)) ?_
                refine C_off (t := 70) rfl rfl rfl ?_
                refine C_off (t := 70) rfl rfl rfl ?_
                refine C_off (t := 70) rfl rfl rfl ?_
                refine C_off (t := 70) rfl rfl rfl ?_
                refine C_off (t := 70) rfl rfl rfl ?_
                refine C_val (V_pick (b := false) (u := undef) (v := (.bool false)) (.tmp rfl rfl) (.tmp rfl rfl) (.bool _)) ?_
                refine C_val (V_move (v := (.bool false)) (.tmp rfl rfl)) ?_
                refine C_off (t := 77) rfl rfl rfl ?_
                refine C_off (t := 77) rfl rfl rfl ?_
                refine C_off (t := 77) rfl rfl rfl ?_
                refine C_off (t := 77) rfl rfl rfl ?_
                refine C_off (t := 77) rfl rfl rfl ?_
                refine C_val (V_pick (b := false) (u := undef) (v := (.bool false)) (.tmp rfl rfl) (.tmp rfl rfl) (.bool _)) ?_
                refine C_val (V_assign (v := (.bool false)) (.tmp rfl rfl)) ?_
                refine C_nil ?_
                obtain rfl := Option.some.inj hF
                exact ⟨_, _, rfl, (EqL.cons rfl (EqL.nil)).eq, (.sel .nil)⟩
              rw [hg25]
              try rw [hg25] at hF; dsimp only [cond_true, cond_false] at hF
              refine C_off (t := 49) rfl rfl rfl ?_
              refine C_off (t := 49) rfl rfl rfl ?_
              refine C_off (t := 49) rfl rfl rfl ?_
              refine C_off (t := 49) rfl rfl rfl ?_
              refine C_off (t := 49) rfl rfl rfl ?_
              refine C_val (V_pick (b := false) (u := undef) (v := (.bool false)) (.tmp rfl rfl) (.tmp rfl rfl) (.bool _)) ?_
              refine C_val (V_move (v := (.bool false)) (.tmp rfl rfl)) ?_
              refine C_off (t := 56) rfl rfl rfl ?_
              refine C_off (t := 56) rfl rfl rfl ?_
              refine C_off (t := 56) rfl rfl rfl ?_
              refine C_off (t := 56) rfl rfl rfl ?_
              refine C_off (t := 56) rfl rfl rfl ?_
              refine C_val (V_pick (b := false) (u := undef) (v := (.bool false)) (.tmp rfl rfl) (.tmp rfl rfl) (.bool _)) ?_
              refine C_val (V_move (v := (.bool false)) (.tmp rfl rfl)) ?_
              refine C_off (t := 63) rfl rfl rfl ?_
              refine C_off (t := 63) rfl rfl rfl ?_
              refine C_off (t := 63) rfl rfl rfl ?_
              refine C_off (t := 63) rfl rfl rfl ?_
              refine C_off (t := 63) rfl rfl rfl ?_
              refine C_val (V_pick (b := false) (u := undef) (v := (.bool false)) (.tmp rfl rfl) (.tmp rfl rfl) (.bool _)) ?_
              refine C_val (V_move (v := (.bool false)) (.tmp rfl rfl)) ?_
              refine C_off (t := 70) rfl rfl rfl ?_
              refine C_off (t := 70) rfl rfl rfl ?_
              refine C_off (t := 70) rfl rfl rfl ?_
              refine C_off (t := 70) rfl rfl rfl ?_
              refine C_off (t := 70) rfl rfl rfl ?_
              refine C_val (V_pick (b := false) (u := undef) (v := (.bool false)) (.tmp rfl rfl) (.tmp rfl rfl) (.bool _)) ?_
              refine C_val (V_move (v := (.bool false)) (.tmp rfl rfl)) ?_
              refine C_off (t := 77) rfl rfl rfl ?_
              refine C_off (t := 77) rfl rfl rfl ?_
              refine C_off (t := 77) rfl rfl rfl ?_
              refine C_off (t := 77) rfl rfl rfl ?_
              refine C_off (t := 77) rfl rfl rfl ?_
              refine C_val (V_pick (b := false) (u := undef) (v := (.bool false)) (.tmp rfl rfl) (.tmp rfl rfl) (.bool _)) ?_
              refine C_val (V_assign (v := (.bool false)) (.tmp rfl rfl)) ?_
              refine C_nil ?_
              obtain rfl := Option.some.inj hF
              exact ⟨_, _, rfl, (EqL.cons rfl (EqL.nil)).eq, (.sel .nil)⟩
            rw [hg21]
            try rw [hg21] at hF; dsimp only [cond_true, cond_false] at hF
            refine C_off (t := 42) rfl rfl rfl ?_
            refine C_off (t := 42) rfl rfl rfl ?_
            refine C_off (t := 42) rfl rfl rfl ?_
            refine C_off (t := 42) rfl rfl rfl ?_
            refine C_off (t := 42) rfl rfl rfl ?_
            refine C_val (V_pick (b := false) (u := undef) (v := (.bool false)) (.tmp rfl rfl) (.tmp rfl rfl) (.bool _)) ?_
            refine C_val (V_move (v := (.bool false)) (.tmp rfl rfl)) ?_
            refine C_off (t := 49) rfl rfl rfl ?_
            refine C_off (t := 49) rfl rfl rfl ?_
            refine C_off (t := 49) rfl rfl rfl ?_
            refine C_off (t := 49) rfl rfl rfl ?_
            refine C_off (t := 49) rfl rfl rfl ?_
            refine C_val (V_pick (b := false) (u := undef) (v := (.bool false)) (.tmp rfl rfl) (.tmp rfl rfl) (.bool _)) ?_
            refine C_val (V_move (v := (.bool false)) (.tmp rfl rfl)) ?_
            refine C_off (t := 56) rfl rfl rfl ?_
            refine C_off (t := 56) rfl rfl rfl ?_
            refine C_off (t := 56) rfl rfl rfl ?_
            refine C_off (t := 56) rfl rfl rfl ?_
            refine C_off (t := 56) rfl rfl rfl ?_
            refine C_val (V_pick (b := false) (u := undef) (v := (.bool false)) (.tmp rfl rfl) (.tmp rfl rfl) (.bool _)) ?_
            refine C_val (V_move (v := (.bool false)) (.tmp rfl rfl)) ?_
            refine C_off (t := 63) rfl rfl rfl ?_
            refine C_off (t := 63) rfl rfl rfl ?_
            refine C_off (t := 63) rfl rfl rfl ?_
            refine C_off (t := 63) rfl rfl rfl ?_
            refine C_off (t := 63) rfl rfl rfl ?_
            refine C_val (V_pick (b := false) (u := undef) (v := (.bool false)) (.tmp rfl rfl) (.tmp rfl rfl) (.bool _)) ?_
            refine C_val (V_move (v := (.bool false)) (.tmp rfl rfl)) ?_
            refine C_off (t := 70) rfl rfl rfl ?_
            refine C_off (t := 70) rfl rfl rfl ?_
            refine C_off (t := 70) rfl rfl rfl ?_
            refine C_off (t := 70) rfl rfl rfl ?_
            refine C_off (t := 70) rfl rfl rfl ?_
            refine C_val (V_pick (b := false) (u := undef) (v := (.bool false)) (.tmp rfl rfl) (.tmp rfl rfl) (.bool _)) ?_
            refine C_val (V_move (v := (.bool false)) (.tmp rfl rfl)) ?_
            refine C_off (t := 77) rfl rfl rfl ?_
            refine C_off (t := 77) rfl rfl rfl ?_
            refine C_off (t := 77) rfl rfl rfl ?_
            refine C_off (t := 77) rfl rfl rfl ?_
            refine C_off (t := 77) rfl rfl rfl ?_
            refine C_val (V_pick (b := false) (u := undef) (v := (.bool false)) (.tmp rfl rfl) (.tmp rfl rfl) (.bool _)) ?_
            refine C_val (V_assign (v := (.bool false)) (.tmp rfl rfl)) ?_
            refine C_nil ?_
            obtain rfl := Option.some.inj hF
            exact ⟨_, _, rfl, (EqL.cons rfl (EqL.nil)).eq, (.sel .nil)⟩
          rw [hg20]
          try rw [hg20] at hF; dsimp only [cond_true, cond_false] at hF
          refine C_off (t := 33) rfl rfl rfl ?_
          refine C_off (t := 33) rfl rfl rfl ?_
          refine C_off (t := 33) rfl rfl rfl ?_
          refine C_off (t := 33) rfl rfl rfl ?_
          refine C_off (t := 33) rfl rfl rfl ?_
          refine C_off (t := 33) rfl rfl rfl ?_
          refine C_off (t := 33) rfl rfl rfl ?_
          refine C_val (V_pick (b := false) (u := undef) (v := (.bool false)) (.tmp rfl rfl) (.tmp rfl rfl) (.bool _)) ?_
          refine C_val (V_move (v := (.bool false)) (.tmp rfl rfl)) ?_
          refine C_off (t := 42) rfl rfl rfl ?_
          refine C_off (t := 42) rfl rfl rfl ?_
          refine C_off (t := 42) rfl rfl rfl ?_
          refine C_off (t := 42) rfl rfl rfl ?_
          refine C_off (t := 42) rfl rfl rfl ?_
          refine C_val (V_pick (b := false) (u := undef) (v := (.bool false)) (.tmp rfl rfl) (.tmp rfl rfl) (.bool _)) ?_
          refine C_val (V_move (v := (.bool false)) (.tmp rfl rfl)) ?_
          refine C_off (t := 49) rfl rfl rfl ?_
          refine C_off (t := 49) rfl rfl rfl ?_
          refine C_off (t := 49) rfl rfl rfl ?_
          refine C_off (t := 49) rfl rfl rfl ?_
          refine C_off (t := 49) rfl rfl rfl ?_
          refine C_val (V_pick (b := false) (u := undef) (v := (.bool false)) (.tmp rfl rfl) (.tmp rfl rfl) (.bool _)) ?_
          refine C_val (V_move (v := (.bool false)) (.tmp rfl rfl)) ?_
          refine C_off (t := 56) rfl rfl rfl ?_
          refine C_off (t := 56) rfl rfl rfl ?_
          refine C_off (t := 56) rfl rfl rfl ?_
          refine C_off (t := 56) rfl rfl rfl ?_
          refine C_off (t := 56) rfl rfl rfl ?_
          refine C_val (V_pick (b := false) (u := undef) (v := (.bool false)) (.tmp rfl rfl) (.tmp rfl rfl) (.bool _)) ?_
          refine C_val (V_move (v := (.bool false)) (.tmp rfl rfl)) ?_
          refine C_off (t := 63) rfl rfl rfl ?_
          refine C_off (t := 63) rfl rfl rfl ?_
          refine C_off (t := 63) rfl rfl rfl ?_
          refine C_off (t := 63) rfl rfl rfl ?_
          refine C_off (t := 63) rfl rfl rfl ?_
          refine C_val (V_pick (b := false) (u := undef) (v := (.bool false)) (.tmp rfl rfl) (.tmp rfl rfl) (.bool _)) ?_
          refine C_val (V_move (v := (.bool false)) (.tmp rfl rfl)) ?_
          refine C_off (t := 70) rfl rfl rfl ?_
          refine C_off (t := 70) rfl rfl rfl ?_
          refine C_off (t := 70) rfl rfl rfl ?_
          refine C_off (t := 70) rfl rfl rfl ?_
          refine C_off (t := 70) rfl rfl rfl ?_
          refine C_val (V_pick (b := false) (u := undef) (v := (.bool false)) (.tmp rfl rfl) (.tmp rfl rfl) (.bool _)) ?_
          refine C_val (V_move (v := (.bool false)) (.tmp rfl rfl)) ?_
          refine C_off (t := 77) rfl rfl rfl ?_
          refine C_off (t := 77) rfl rfl rfl ?_
          refine C_off (t := 77) rfl rfl rfl ?_
          refine C_off (t := 77) rfl rfl rfl ?_
          refine C_off (t := 77) rfl rfl rfl ?_
          refine C_val (V_pick (b := false) (u := undef) (v := (.bool false)) (.tmp rfl rfl) (.tmp rfl rfl) (.bool _)) ?_
          refine C_val (V_assign (v := (.bool false)) (.tmp rfl rfl)) ?_
          refine C_nil ?_
          obtain rfl := Option.some.inj hF
          exact ⟨_, _, rfl, (EqL.cons rfl (EqL.nil)).eq, (.sel .nil)⟩
        rw [hg16]
        try rw [hg16] at hF; dsimp only [cond_true, cond_false] at hF
        refine C_off (t := 24) rfl rfl rfl ?_
        refine C_off (t := 24) rfl rfl rfl ?_
        refine C_off (t := 24) rfl rfl rfl ?_
        refine C_off (t := 24) rfl rfl rfl ?_
        refine C_off (t := 24) rfl rfl rfl ?_
        refine C_off (t := 24) rfl rfl rfl ?_
        refine C_off (t := 24) rfl rfl rfl ?_
        refine C_val (V_pick (b := false) (u := undef) (v := (.bool false)) (.tmp rfl rfl) (.tmp rfl rfl) (.bool _)) ?_
        refine C_val (V_move (v := (.bool false)) (.tmp rfl rfl)) ?_
        refine C_off (t := 33) rfl rfl rfl ?_
        refine C_off (t := 33) rfl rfl rfl ?_
        refine C_off (t := 33) rfl rfl rfl ?_
        refine C_off (t := 33) rfl rfl rfl ?_
        refine C_off (t := 33) rfl rfl rfl ?_
        refine C_off (t := 33) rfl rfl rfl ?_
        refine C_off (t := 33) rfl rfl rfl ?_
        refine C_val (V_pick (b := false) (u := undef) (v := (.bool false)) (.tmp rfl rfl) (.tmp rfl rfl) (.bool _)) ?_
        refine C_val (V_move (v := (.bool false)) (.tmp rfl rfl)) ?_
        refine C_off (t := 42) rfl rfl rfl ?_
        refine C_off (t := 42) rfl rfl rfl ?_
        refine C_off (t := 42) rfl rfl rfl ?_
        refine C_off (t := 42) rfl rfl rfl ?_
        refine C_off (t := 42) rfl rfl rfl ?_
        refine C_val (V_pick (b := false) (u := undef) (v := (.bool false)) (.tmp rfl rfl) (.tmp rfl rfl) (.bool _)) ?_
        refine C_val (V_move (v := (.bool false)) (.tmp rfl rfl)) ?_
        refine C_off (t := 49) rfl rfl rfl ?_
        refine C_off (t := 49) rfl rfl rfl ?_
        refine C_off (t := 49) rfl rfl rfl ?_
        refine C_off (t := 49) rfl rfl rfl ?_
        refine C_off (t := 49) rfl rfl rfl ?_
        refine C_val (V_pick (b := false) (u := undef) (v := (.bool false)) (.tmp rfl rfl) (.tmp rfl rfl) (.bool _)) ?_
        refine C_val (V_move (v := (.bool false)) (.tmp rfl rfl)) ?_
        refine C_off (t := 56) rfl rfl rfl ?_
        refine C_off (t := 56) rfl rfl rfl ?_
        refine C_off (t := 56) rfl rfl rfl ?_
        refine C_off (t := 56) rfl rfl rfl ?_
        refine C_off (t := 56) rfl rfl rfl ?_
        refine C_val (V_pick (b := false) (u := undef) (v := (.bool false)) (.tmp rfl rfl) (.tmp rfl rfl) (.bool _)) ?_
        refine C_val (V_move (v := (.bool false)) (.tmp rfl rfl)) ?_
        refine C_off (t := 63) rfl rfl rfl ?_
        refine C_off (t := 63) rfl rfl rfl ?_
        refine C_off (t := 63) rfl rfl rfl ?_
        refine C_off (t := 63) rfl rfl rfl ?_
        refine C_off (t := 63) rfl rfl rfl ?_
        refine C_val (V_pick (b := false) (u := undef) (v := (.bool false)) (.tmp rfl rfl) (.tmp rfl rfl) (.bool _)) ?_
        refine C_val (V_move (v := (.bool false)) (.tmp rfl rfl)) ?_
        refine C_off (t := 70) rfl rfl rfl ?_
        refine C_off (t := 70) rfl rfl rfl ?_
        refine C_off (t := 70) rfl rfl rfl ?_
        refine C_off (t := 70) rfl rfl rfl ?_
        refine C_off (t := 70) rfl rfl rfl ?_
        refine C_val (V_pick (b := false) (u := undef) (v := (.bool false)) (.tmp rfl rfl) (.tmp rfl rfl) (.bool _)) ?_
        refine C_val (V_move (v := (.bool false)) (.tmp rfl rfl)) ?_
        refine C_off (t := 77) rfl rfl rfl ?_
        refine C_off (t := 77) rfl rfl rfl ?_
        refine C_off (t := 77) rfl rfl rfl ?_
        refine C_off (t := 77) rfl rfl rfl ?_
        refine C_off (t := 77) rfl rfl rfl ?_
        refine C_val (V_pick (b := false) (u := undef) (v := (.bool false)) (.tmp rfl rfl) (.tmp rfl rfl) (.bool _)) ?_
        refine C_val (V_assign (v := (.bool false)) (.tmp rfl rfl)) ?_
        refine C_nil ?_
        obtain rfl := Option.some.inj hF
        exact ⟨_, _, rfl, (EqL.cons rfl (EqL.nil)).eq, (.sel .nil)⟩
      rw [hg12]
      try rw [hg12] at hF; dsimp only [cond_true, cond_false] at hF
      refine C_off (t := 17) rfl rfl rfl ?_
      refine C_off (t := 17) rfl rfl rfl ?_
      refine C_off (t := 17) rfl rfl rfl ?_
      refine C_off (t := 17) rfl rfl rfl ?_
      refine C_off (t := 17) rfl rfl rfl ?_
      refine C_val (V_pick (b := false) (u := undef) (v := (.bool false)) (.tmp rfl rfl) (.tmp rfl rfl) (.bool _)) ?_
      refine C_val (V_move (v := (.bool false)) (.tmp rfl rfl)) ?_
      refine C_off (t := 24) rfl rfl rfl ?_
      refine C_off (t := 24) rfl rfl rfl ?_
      refine C_off (t := 24) rfl rfl rfl ?_
      refine C_off (t := 24) rfl rfl rfl ?_
      refine C_off (t := 24) rfl rfl rfl ?_
      refine C_off (t := 24) rfl rfl rfl ?_
      refine C_off (t := 24) rfl rfl rfl ?_
      refine C_val (V_pick (b := false) (u := undef) (v := (.bool false)) (.tmp rfl rfl) (.tmp rfl rfl) (.bool _)) ?_
      refine C_val (V_move (v := (.bool false)) (.tmp rfl rfl)) ?_
      refine C_off (t := 33) rfl rfl rfl ?_
      refine C_off (t := 33) rfl rfl rfl ?_
      refine C_off (t := 33) rfl rfl rfl ?_
      refine C_off (t := 33) rfl rfl rfl ?_
      refine C_off (t := 33) rfl rfl rfl ?_
      refine C_off (t := 33) rfl rfl rfl ?_
      refine C_off (t := 33) rfl rfl rfl ?_
      refine C_val (V_pick (b := false) (u := undef) (v := (.bool false)) (.tmp rfl rfl) (.tmp rfl rfl) (.bool _)) ?_
      refine C_val (V_move (v := (.bool false)) (.tmp rfl rfl)) ?_
      refine C_off (t := 42) rfl rfl rfl ?_
      refine C_off (t := 42) rfl rfl rfl ?_
      refine C_off (t := 42) rfl rfl rfl ?_
      refine C_off (t := 42) rfl rfl rfl ?_
      refine C_off (t := 42) rfl rfl rfl ?_
      refine C_val (V_pick (b := false) (u := undef) (v := (.bool false)) (.tmp rfl rfl) (.tmp rfl rfl) (.bool _)) ?_
      refine C_val (V_move (v := (.bool false)) (.tmp rfl rfl)) ?_
      refine C_off (t := 49) rfl rfl rfl ?_
      refine C_off (t := 49) rfl rfl rfl ?_
      refine C_off (t := 49) rfl rfl rfl ?_
      refine C_off (t := 49) rfl rfl rfl ?_
      refine C_off (t := 49) rfl rfl rfl ?_
      refine C_val (V_pick (b := false) (u := undef) (v := (.bool false)) (.tmp rfl rfl) (.tmp rfl rfl) (.bool _)) ?_
      refine C_val (V_move (v := (.bool false)) (.tmp rfl rfl)) ?_
      refine C_off (t := 56) rfl rfl rfl ?_
      refine C_off (t := 56) rfl rfl rfl ?_
      refine C_off (t := 56) rfl rfl rfl ?_
      refine C_off (t := 56) rfl rfl rfl ?_
      refine C_off (t := 56) rfl rfl rfl ?_
      refine C_val (V_pick (b := false) (u := undef) (v := (.bool false)) (.tmp rfl rfl) (.tmp rfl rfl) (.bool _)) ?_
      refine C_val (V_move (v := (.bool false)) (.tmp rfl rfl)) ?_
      refine C_off (t := 63) rfl rfl rfl ?_
      refine C_off (t := 63) rfl rfl rfl ?_
      refine C_off (t := 63) rfl rfl rfl ?_
      refine C_off (t := 63) rfl rfl rfl ?_
      refine C_off (t := 63) rfl rfl rfl ?_
      refine C_val (V_pick (b := false) (u := undef) (v := (.bool false)) (.tmp rfl rfl) (.tmp rfl rfl) (.bool _)) ?_
      refine C_val (V_move (v := (.bool false)) (.tmp rfl rfl)) ?_
      refine C_off (t := 70) rfl rfl rfl ?_
      refine C_off (t := 70) rfl rfl rfl ?_
      refine C_off (t := 70) rfl rfl rfl ?_
      refine C_off (t := 70) rfl rfl rfl ?_
      refine C_off (t := 70) rfl rfl rfl ?_
      refine C_val (V_pick (b := false) (u := undef) (v := (.bool false)) (.tmp rfl rfl) (.tmp rfl rfl) (.bool _)) ?_
      refine C_val (V_move (v := (.bool false)) (.tmp rfl rfl)) ?_
      refine C_off (t := 77) rfl rfl rfl ?_
      refine C_off (t := 77) rfl rfl rfl ?_
      refine C_off (t := 77) rfl rfl rfl ?_
      refine C_off (t := 77) rfl rfl rfl ?_
      refine C_off (t := 77) rfl rfl rfl ?_
      refine C_val (V_pick (b := false) (u := undef) (v := (.bool false)) (.tmp rfl rfl) (.tmp rfl rfl) (.bool _)) ?_
      refine C_val (V_assign (v := (.bool false)) (.tmp rfl rfl)) ?_
      refine C_nil ?_
      obtain rfl := Option.some.inj hF
      exact ⟨_, _, rfl, (EqL.cons rfl (EqL.nil)).eq, (.sel .nil)⟩
    rw [hg8]
    try rw [hg8] at hF; dsimp only [cond_true, cond_false] at hF
    refine C_off (t := 10) rfl rfl rfl ?_
    refine C_off (t := 10) rfl rfl rfl ?_
    refine C_off (t := 10) rfl rfl rfl ?_
    refine C_off (t := 10) rfl rfl rfl ?_
    refine C_off (t := 10) rfl rfl rfl ?_
    refine C_val (V_pick (b := false) (u := undef) (v := (.bool false)) (.tmp rfl rfl) (.tmp rfl rfl) (.bool _)) ?_
    refine C_val (V_move (v := (.bool false)) (.tmp rfl rfl)) ?_
    refine C_off (t := 17) rfl rfl rfl ?_
    refine C_off (t := 17) rfl rfl rfl ?_
    refine C_off (t := 17) rfl rfl rfl ?_
    refine C_off (t := 17) rfl rfl rfl ?_
    refine C_off (t := 17) rfl rfl rfl ?_
    refine C_val (V_pick (b := false) (u := undef) (v := (.bool false)) (.tmp rfl rfl) (.tmp rfl rfl) (.bool _)) ?_
    refine C_val (V_move (v := (.bool false)) (.tmp rfl rfl)) ?_
    refine C_off (t := 24) rfl rfl rfl ?_
    refine C_off (t := 24) rfl rfl rfl ?_
    refine C_off (t := 24) rfl rfl rfl ?_
    refine C_off (t := 24) rfl rfl rfl ?_
    refine C_off (t := 24) rfl rfl rfl ?_
    refine C_off (t := 24) rfl rfl rfl ?_
    refine C_off (t := 24) rfl rfl rfl ?_
    refine C_val (V_pick (b := false) (u := undef) (v := (.bool false)) (.tmp rfl rfl) (.tmp rfl rfl) (.bool _)) ?_
    refine C_val (V_move (v := (.bool false)) (.tmp rfl rfl)) ?_
    refine C_off (t := 33) rfl rfl rfl ?_
    refine C_off (t := 33) rfl rfl rfl ?_
    refine C_off (t := 33) rfl rfl rfl ?_
    refine C_off (t := 33) rfl rfl rfl ?_
    refine C_off (t := 33) rfl rfl rfl ?_
    refine C_off (t := 33) rfl rfl rfl ?_
    refine C_off (t := 33) rfl rfl rfl ?_
    refine C_val (V_pick (b := false) (u := undef) (v := (.bool false)) (.tmp rfl rfl) (.tmp rfl rfl) (.bool _)) ?_
    refine C_val (V_move (v := (.bool false)) (.tmp rfl rfl)) ?_
    refine C_off (t := 42) rfl rfl rfl ?_
    refine C_off (t := 42) rfl rfl rfl ?_
    refine C_off (t := 42) rfl rfl rfl ?_
    refine C_off (t := 42) rfl rfl rfl ?_
    refine C_off (t := 42) rfl rfl rfl ?_
    refine C_val (V_pick (b := false) (u := undef) (v := (.bool false)) (.tmp rfl rfl) (.tmp rfl rfl) (.bool _)) ?_
    refine C_val (V_move (v := (.bool false)) (.tmp rfl rfl)) ?_
    refine C_off (t := 49) rfl rfl rfl ?_
    refine C_off (t := 49) rfl rfl rfl ?_
    refine C_off (t := 49) rfl rfl rfl ?_
    refine C_off (t := 49) rfl rfl rfl ?_
    refine C_off (t := 49) rfl rfl rfl ?_
    refine C_val (V_pick (b := false) (u := undef) (v := (.bool false)) (.tmp rfl rfl) (.tmp rfl rfl) (.bool _)) ?_
    refine C_val (V_move (v := (.bool false)) (.tmp rfl rfl)) ?_
    refine C_off (t := 56) rfl rfl rfl ?_
    refine C_off (t := 56) rfl rfl rfl ?_
    refine C_off (t := 56) rfl rfl rfl ?_
    refine C_off (t := 56) rfl rfl rfl ?_
    refine C_off (t := 56) rfl rfl rfl ?_
    refine C_val (V_pick (b := false) (u := undef) (v := (.bool false)) (.tmp rfl rfl) (.tmp rfl rfl) (.bool _)) ?_
    refine C_val (V_move (v := (.bool false)) (.tmp rfl rfl)) ?_
    refine C_off (t := 63) rfl rfl rfl ?_
    refine C_off (t := 63) rfl rfl rfl ?_
    refine C_off (t := 63) rfl rfl rfl ?_
    refine C_off (t := 63) rfl rfl rfl ?_
    refine C_off (t := 63) rfl rfl rfl ?_
    refine C_val (V_pick (b := false) (u := undef) (v := (.bool false)) (.tmp rfl rfl) (.tmp rfl rfl) (.bool _)) ?_
    refine C_val (V_move (v := (.bool false)) (.tmp rfl rfl)) ?_
    refine C_off (t := 70) rfl rfl rfl ?_
    refine C_off (t := 70) rfl rfl rfl ?_
    refine C_off (t := 70) rfl rfl rfl ?_
    refine C_off (t := 70) rfl rfl rfl ?_
    refine C_off (t := 70) rfl rfl rfl ?_
    refine C_val (V_pick (b := false) (u := undef) (v := (.bool false)) (.tmp rfl rfl) (.tmp rfl rfl) (.bool _)) ?_
    refine C_val (V_move (v := (.bool false)) (.tmp rfl rfl)) ?_
    refine C_off (t := 77) rfl rfl rfl ?_
    refine C_off (t := 77) rfl rfl rfl ?_
    refine C_off (t := 77) rfl rfl rfl ?_
    refine C_off (t := 77) rfl rfl rfl ?_
    refine C_off (t := 77) rfl rfl rfl ?_
    refine C_val (V_pick (b := false) (u := undef) (v := (.bool false)) (.tmp rfl rfl) (.tmp rfl rfl) (.bool _)) ?_
    refine C_val (V_assign (v := (.bool false)) (.tmp rfl rfl)) ?_
    refine C_nil ?_
    obtain rfl := Option.some.inj hF
    exact ⟨_, _, rfl, (EqL.cons rfl (EqL.nil)).eq, (.sel .nil)⟩
  rintro _ _ ⟨c39, g40, rfl, rfl, hE⟩
  replace hF := hO4
  clear hO4
  try dsimp only at hF
  refine K_ent hE ?_
  refine CW_ret ?_
  obtain rfl := Option.some.inj hF
  exact End_ret () (.tmp rfl rfl .nil) rfl (.sel .nil)

/-! laws.eqIntS -/
def l_eqIntS_L1 (a_b : List Int) : List Int → Nat → Option (Bool)
  | [], k4 => some true
  | x6 :: rest5, k4 => (ix a_b (k4 : Int)).bind fun x15 =>
    if ((x6 : Int) != x15) then (
      some false)
    else (
      l_eqIntS_L1 a_b rest5 (k4 + 1))
def l_eqIntS (a_a : List Int) (a_b : List Int) : Option (Bool) :=
  if (((a_a.length : Int) : Int) != (a_b.length : Int)) then (
    some false)
  else (
    l_eqIntS_L1 a_b a_a 0)
theorem l_eqIntS_ok (a_a : List Int) (v0_0 : Sv) (a_b : List Int) (v1_0 : Sv) (R : Bool) (hF : l_eqIntS a_a a_b = some R) :
    Fw.Spec Try.prog 31 [v0_0.v, v1_0.v] [crd (RdS 3 rdInt) v0_0.v a_a, crd (RdS 3 rdInt) v1_0.v a_b] (fun _ : Unit => (.bool R)) (fun _ => []) := by
  refine Spec_enter (n := 26) Try.func31 rfl rfl (rs := [.tmp 4]) rfl rfl rfl ?_
  intro H0 F0
  unfold l_eqIntS at hF
  refine K_region ?_
  refine C_val (V_assign (v := (.bool false)) (.bool _)) ?_
  refine C_nil ?_
  refine K_in ?_
  refine K_region ?_
  refine C_val (V_move (v := v0_0.v) (.tmp rfl rfl)) ?_
  refine C_at .h (fun hp => V_lenR (l := a_a.length) sl45 (.tmp rfl rfl) (crd_len hp)) ?_
  refine C_val (V_move (v := v1_0.v) (.tmp rfl rfl)) ?_
  refine C_at (.t .h) (fun hp => V_lenR (l := a_b.length) sl45 (.tmp rfl rfl) (crd_len hp)) ?_
  refine C_val (V_neq (i := (a_a.length : Int)) (j := (a_b.length : Int)) (.tmp rfl rfl) (.tmp rfl rfl)) ?_
  refine C_nil ?_
  refine CW_cond (b := (((a_a.length : Int) : Int) != (a_b.length : Int))) (.tmp rfl rfl) (fun hb23 => ?_) (fun hb23 => ?_)
  · rw [if_pos hb23] at hF
    refine K_region ?_
    refine C_val (V_assign (v := (.bool false)) (.bool _)) ?_
    refine C_nil ?_
    refine CW_ret ?_
    obtain rfl := Option.some.inj hF
    exact End_ret () (.tmp rfl rfl .nil) rfl (.sel .nil)
  rw [if_neg (by rw [hb23]; exact Bool.false_ne_true)] at hF
  refine CW_skip ?_
  refine K_in ?_
  refine K_region ?_
  refine C_val (V_assign (v := (.int .i64 0)) (.int _ _)) ?_
  refine C_nil ?_
  refine CW_block ?_
  refine CW_loop (m := a_a.length) (fun m2 f' cs' => ∃ (g : Fr) (k4 : Nat) (rest5 : List Int), m2 = rest5.length ∧ f' = updL g [(0, v0_0.v), (1, v1_0.v), (5, (.int .i64 (k4 : Int)))] ∧ List.drop k4 a_a = rest5 ∧ Ent cs' [crd (RdS 3 rdInt) v0_0.v a_a, crd (RdS 3 rdInt) v1_0.v a_b] ∧ l_eqIntS_L1 a_b rest5 k4 = some R) ⟨_, 0, _, rfl, (EqL.cons rfl (EqL.cons rfl (EqL.cons rfl (EqL.nil)))).eq, rfl, (.sel (.rd .h rfl (.rd (.t .h) rfl .nil))), hF⟩ ?_
  clear hF
  rintro m2 _ _ ⟨g3, k4, rest5, rfl, rfl, hd7, hE, hF⟩
  refine K_ent hE ?_
  clear hE
  refine K_pure (c := crd (RdS 3 rdInt) v0_0.v a_a) .h crd_bound (fun hbd12 => ?_)
  rcases rest5 with _ | ⟨x6, rest5⟩
  · have hk8 := List.drop_eq_nil_iff.1 hd7
    have hfe11 : (decide (((k4 : Int) : Int) < (a_a.length : Int))) = false := decide_eq_false (by omega)
    rw [l_eqIntS_L1] at hF
    refine K_in ?_
    refine K_region ?_
    refine C_val (V_move (v := (.int .i64 (k4 : Int))) (.tmp rfl rfl)) ?_
    refine C_val (V_move (v := v0_0.v) (.tmp rfl rfl)) ?_
    refine C_at .h (fun hp => V_lenR (l := a_a.length) sl45 (.tmp rfl rfl) (crd_len hp)) ?_
    refine C_val (V_lss (i := (k4 : Int)) (j := (a_a.length : Int)) (.tmp rfl rfl) (.tmp rfl rfl)) ?_
    refine C_nil ?_
    refine CW_cond (b := (decide (((k4 : Int) : Int) < (a_a.length : Int)))) (.tmp rfl rfl) (fun hb => absurd (hfe11.symm.trans hb) (by decide)) (fun _ => ?_)
    refine CW_exit ?_
    refine CThen_exit ?_
    refine CThen_exit ?_
    refine CIn_self ?_
    refine K_region ?_
    refine C_val (V_assign (v := (.bool true)) (.bool _)) ?_
    refine C_nil ?_
    refine CW_ret ?_
    obtain rfl := Option.some.inj hF
    exact End_ret () (.tmp rfl rfl .nil) rfl (.sel .nil)
  obtain ⟨hk8, hx9, hd10⟩ := drop_cons hd7
  have hfe11 : (decide (((k4 : Int) : Int) < (a_a.length : Int))) = true := decide_eq_true (by omega)
  rw [l_eqIntS_L1] at hF
  refine K_in ?_
  refine K_region ?_
  refine C_val (V_move (v := (.int .i64 (k4 : Int))) (.tmp rfl rfl)) ?_
  refine C_val (V_move (v := v0_0.v) (.tmp rfl rfl)) ?_
  refine C_at .h (fun hp => V_lenR (l := a_a.length) sl45 (.tmp rfl rfl) (crd_len hp)) ?_
  refine C_val (V_lss (i := (k4 : Int)) (j := (a_a.length : Int)) (.tmp rfl rfl) (.tmp rfl rfl)) ?_
  refine C_nil ?_
  refine CW_cond (b := (decide (((k4 : Int) : Int) < (a_a.length : Int)))) (.tmp rfl rfl) (fun _ => ?_) (fun hb => absurd (hfe11.symm.trans hb) (by decide))
  refine CW_skip ?_
  refine K_block ?_
  refine K_draw [0, 1, 2, 3, 4, 5, 6, 7, 8] [0, 0, 3, 7, 0, 0, 48, 112, 255] [] mixed (by decide +kernel) ?_
  refine D_val rfl .no (fun ha => V_move (v := v0_0.v) (EN ha (.tmp rfl rfl) rfl)) ?_
  refine D_val rfl .no (fun ha => V_move (v := (.int .i64 (k4 : Int))) (EN ha (.tmp rfl rfl) rfl)) ?_
  refine D_idx (a := x6) sl45 ty3.sz rfl .no (.tmp rfl rfl) (.tmp rfl rfl) rfl rfl .h (Int.natCast_nonneg k4) hx9 (fun k13 j14 => ?_)
  refine D_ldS (w := (.int .i64 x6)) ag3 rfl .no (.tmp rfl rfl) rfl .h ls3_0 ?_
  refine D_val rfl .no (fun ha => V_move (v := v1_0.v) (EN ha (.tmp rfl rfl) rfl)) ?_
  refine D_val rfl .no (fun ha => V_move (v := (.int .i64 (k4 : Int))) (EN ha (.tmp rfl rfl) rfl)) ?_
  obtain ⟨x15, hx16, hF⟩ := bind_some hF
  obtain ⟨hp17, hx18⟩ := ix_some hx16
  refine D_idx (a := x15) sl45 ty3.sz rfl .no (.tmp rfl rfl) (.tmp rfl rfl) rfl rfl (.t (.t .h)) hp17 hx18 (fun k19 j20 => ?_)
  refine D_ldS (w := (.int .i64 x15)) ag3 rfl .no (.tmp rfl rfl) rfl .h ls3_0 ?_
  refine D_val rfl .no (fun ha => V_neq (i := x6) (j := x15) (EN ha (.tmp rfl rfl) rfl) (EN ha (.tmp rfl rfl) rfl)) ?_
  refine D_nil ?_
  refine CW_cond (b := ((x6 : Int) != x15)) (.tmp rfl rfl) (fun hb22 => ?_) (fun hb22 => ?_)
  · rw [if_pos hb22] at hF
    refine K_region ?_
    refine C_val (V_assign (v := (.bool false)) (.bool _)) ?_
    refine C_nil ?_
    refine CW_ret ?_
    obtain rfl := Option.some.inj hF
    exact End_ret () (.tmp rfl rfl .nil) rfl (.sel .nil)
  rw [if_neg (by rw [hb22]; exact Bool.false_ne_true)] at hF
  refine CW_skip ?_
  refine CW_region ?_
  refine C_val (V_move (v := (.int .i64 (k4 : Int))) (.tmp rfl rfl)) ?_
  refine C_val (V_add (i := (k4 : Int)) (j := 1) (.tmp rfl rfl) (.int _ _)) ?_
  refine C_val (V_assign (v := (.int .i64 (IntKind.i64.wrap ((k4 : Int) + 1)))) (.tmp rfl rfl)) ?_
  refine C_nil ?_
  have hw21 : IntKind.i64.wrap ((k4 : Int) + 1) = ((k4 + 1 : Nat) : Int) := by rw [wrap_in (by omega) (by omega)]; rfl
  rw [hw21]
  exact ⟨_, Nat.lt_succ_self _, _, k4 + 1, rest5, rfl, (EqL.cons rfl (EqL.cons rfl (EqL.cons rfl (EqL.nil)))).eq, hd10, (.sel (.rd (.t (.t .h)) rfl (.rd (.t (.t (.t .h))) rfl .nil))), hF⟩

/-! laws.eqMethod -/
def l_eqMethod (a_a : Method) (a_b : Method) : Option (Bool) :=
  if ((a_a.Rel : Int) != a_b.Rel) then (
    some false)
  else (
    (l_eqIntS a_a.Inputs a_b.Inputs).bind fun r3 =>
    if (!r3) then (
      some false)
    else (
      if ((a_a.Limit : Int) != a_b.Limit) then (
        some false)
      else (
        if ((a_a.Cost : Int) != a_b.Cost) then (
          some false)
        else (
          if ((a_a.Quota : Int) != a_b.Quota) then (
            some false)
          else (
            some true)))))
theorem l_eqMethod_ok (a_a : Method) (v0_1 : Sv) (a_b : Method) (v1_1 : Sv) (R : Bool) (hF : l_eqMethod a_a a_b = some R) :
    Fw.Spec Try.prog 60 [(.agg [(.int .i64 a_a.Rel), v0_1.v, (.int .i64 a_a.Limit), (.int .i64 a_a.Cost), (.int .i64 a_a.Quota)].toArray), (.agg [(.int .i64 a_b.Rel), v1_1.v, (.int .i64 a_b.Limit), (.int .i64 a_b.Cost), (.int .i64 a_b.Quota)].toArray)] [crd (RdS 3 rdInt) v0_1.v a_a.Inputs, crd (RdS 3 rdInt) v1_1.v a_b.Inputs] (fun _ : Unit => (.bool R)) (fun _ => []) := by
  refine Spec_enter (n := 31) Try.func60 rfl rfl (rs := [.tmp 4]) rfl rfl rfl ?_
  intro H0 F0
  unfold l_eqMethod at hF
  refine K_region ?_
  refine C_newR rfl (N_box (g := false) (v := (.agg [(.int .i64 a_a.Rel), v0_1.v, (.int .i64 a_a.Limit), (.int .i64 a_a.Cost), (.int .i64 a_a.Quota)].toArray)) ty101.sz (.tmp rfl rfl) rfl) (fun k1 => ?_)
  refine C_newR rfl (N_box (g := false) (v := (.agg [(.int .i64 a_b.Rel), v1_1.v, (.int .i64 a_b.Limit), (.int .i64 a_b.Cost), (.int .i64 a_b.Quota)].toArray)) ty101.sz (.tmp rfl rfl) rfl) (fun k2 => ?_)
  refine C_val (V_assign (v := (.bool false)) (.bool _)) ?_
  refine C_nil ?_
  refine K_in ?_
  refine K_region ?_
  refine C_val (V_fieldAddr (off := 0) fd101_0 (.tmp rfl rfl)) ?_
  refine C_at (.t .h) (fun hp => V_load (v := (.int .i64 a_a.Rel)) ag3 (.tmp rfl rfl) hp.2 rfl rfl) ?_
  refine C_val (V_fieldAddr (off := 0) fd101_0 (.tmp rfl rfl)) ?_
  refine C_at .h (fun hp => V_load (v := (.int .i64 a_b.Rel)) ag3 (.tmp rfl rfl) hp.2 rfl rfl) ?_
  refine C_val (V_neq (i := a_a.Rel) (j := a_b.Rel) (.tmp rfl rfl) (.tmp rfl rfl)) ?_
  refine C_nil ?_
  refine CW_cond (b := ((a_a.Rel : Int) != a_b.Rel)) (.tmp rfl rfl) (fun hb10 => ?_) (fun hb10 => ?_)
  · rw [if_pos hb10] at hF
    refine K_region ?_
    refine C_val (V_assign (v := (.bool false)) (.bool _)) ?_
    refine C_nil ?_
    refine CW_ret ?_
    obtain rfl := Option.some.inj hF
    exact End_ret () (.tmp rfl rfl .nil) rfl (.sel .nil)
  rw [if_neg (by rw [hb10]; exact Bool.false_ne_true)] at hF
  refine CW_skip ?_
  refine K_in ?_
  refine K_region ?_
  refine C_val (V_fieldAddr (off := 1) fd101_1 (.tmp rfl rfl)) ?_
  refine C_at (.t .h) (fun hp => V_load (v := v0_1.v) ag45 (.tmp rfl rfl) hp.2 rfl rfl) ?_
  refine C_val (V_fieldAddr (off := 1) fd101_1 (.tmp rfl rfl)) ?_
  refine C_at .h (fun hp => V_load (v := v1_1.v) ag45 (.tmp rfl rfl) hp.2 rfl rfl) ?_
  obtain ⟨r3, hx4, hF⟩ := bind_some hF
  refine C_x0 (.rd (.t (.t .h)) rfl (.rd (.t (.t (.t .h))) rfl .nil)) (X_callS cf31 (.cons (.tmp rfl rfl) (.cons (.tmp rfl rfl) .nil)) (l_eqIntS_ok a_a.Inputs v0_1 a_b.Inputs v1_1 _ hx4)) (fun _ => ?_)
  refine C_val (V_not (b := r3) (.tmp rfl rfl)) ?_
  refine C_nil ?_
  refine CW_cond (b := (!r3)) (.tmp rfl rfl) (fun hb9 => ?_) (fun hb9 => ?_)
  · rw [if_pos hb9] at hF
    refine K_region ?_
    refine C_val (V_assign (v := (.bool false)) (.bool _)) ?_
    refine C_nil ?_
    refine CW_ret ?_
    obtain rfl := Option.some.inj hF
    exact End_ret () (.tmp rfl rfl .nil) rfl (.sel .nil)
  rw [if_neg (by rw [hb9]; exact Bool.false_ne_true)] at hF
  refine CW_skip ?_
  refine K_in ?_
  refine K_region ?_
  refine C_val (V_fieldAddr (off := 2) fd101_2 (.tmp rfl rfl)) ?_
  refine C_at (.t .h) (fun hp => V_load (v := (.int .i64 a_a.Limit)) ag3 (.tmp rfl rfl) hp.2 rfl rfl) ?_
  refine C_val (V_fieldAddr (off := 2) fd101_2 (.tmp rfl rfl)) ?_
  refine C_at .h (fun hp => V_load (v := (.int .i64 a_b.Limit)) ag3 (.tmp rfl rfl) hp.2 rfl rfl) ?_
  refine C_val (V_neq (i := a_a.Limit) (j := a_b.Limit) (.tmp rfl rfl) (.tmp rfl rfl)) ?_
  refine C_nil ?_
  refine CW_cond (b := ((a_a.Limit : Int) != a_b.Limit)) (.tmp rfl rfl) (fun hb8 => ?_) (fun hb8 => ?_)
  · rw [if_pos hb8] at hF
    refine K_region ?_
    refine C_val (V_assign (v := (.bool false)) (.bool _)) ?_
    refine C_nil ?_
    refine CW_ret ?_
    obtain rfl := Option.some.inj hF
    exact End_ret () (.tmp rfl rfl .nil) rfl (.sel .nil)
  rw [if_neg (by rw [hb8]; exact Bool.false_ne_true)] at hF
  refine CW_skip ?_
  refine K_in ?_
  refine K_region ?_
  refine C_val (V_fieldAddr (off := 3) fd101_3 (.tmp rfl rfl)) ?_
  refine C_at (.t .h) (fun hp => V_load (v := (.int .i64 a_a.Cost)) ag3 (.tmp rfl rfl) hp.2 rfl rfl) ?_
  refine C_val (V_fieldAddr (off := 3) fd101_3 (.tmp rfl rfl)) ?_
  refine C_at .h (fun hp => V_load (v := (.int .i64 a_b.Cost)) ag3 (.tmp rfl rfl) hp.2 rfl rfl) ?_
  refine C_val (V_neq (i := a_a.Cost) (j := a_b.Cost) (.tmp rfl rfl) (.tmp rfl rfl)) ?_
  refine C_nil ?_
  refine CW_cond (b := ((a_a.Cost : Int) != a_b.Cost)) (.tmp rfl rfl) (fun hb7 => ?_) (fun hb7 => ?_)
  · rw [if_pos hb7] at hF
    refine K_region ?_
    refine C_val (V_assign (v := (.bool false)) (.bool _)) ?_
    refine C_nil ?_
    refine CW_ret ?_
    obtain rfl := Option.some.inj hF
    exact End_ret () (.tmp rfl rfl .nil) rfl (.sel .nil)
  rw [if_neg (by rw [hb7]; exact Bool.false_ne_true)] at hF
  refine CW_skip ?_
  refine K_in ?_
  refine K_region ?_
  refine C_val (V_fieldAddr (off := 4) fd101_4 (.tmp rfl rfl)) ?_
  refine C_at (.t .h) (fun hp => V_load (v := (.int .i64 a_a.Quota)) ag3 (.tmp rfl rfl) hp.2 rfl rfl) ?_
  refine C_val (V_fieldAddr (off := 4) fd101_4 (.tmp rfl rfl)) ?_
  refine C_at .h (fun hp => V_load (v := (.int .i64 a_b.Quota)) ag3 (.tmp rfl rfl) hp.2 rfl rfl) ?_
  refine C_val (V_neq (i := a_a.Quota) (j := a_b.Quota) (.tmp rfl rfl) (.tmp rfl rfl)) ?_
  refine C_nil ?_
  refine CW_cond (b := ((a_a.Quota : Int) != a_b.Quota)) (.tmp rfl rfl) (fun hb6 => ?_) (fun hb6 => ?_)
  · rw [if_pos hb6] at hF
    refine K_region ?_
    refine C_val (V_assign (v := (.bool false)) (.bool _)) ?_
    refine C_nil ?_
    refine CW_ret ?_
    obtain rfl := Option.some.inj hF
    exact End_ret () (.tmp rfl rfl .nil) rfl (.sel .nil)
  rw [if_neg (by rw [hb6]; exact Bool.false_ne_true)] at hF
  refine CW_skip ?_
  refine K_region ?_
  refine C_val (V_assign (v := (.bool true)) (.bool _)) ?_
  refine C_nil ?_
  refine CW_ret ?_
  obtain rfl := Option.some.inj hF
  exact End_ret () (.tmp rfl rfl .nil) rfl (.sel .nil)

/-! laws.eqMethodS -/
def l_eqMethodS_L1 (a_b : List Method) : List Method → Nat → Option (Bool)
  | [], k4 => some true
  | x6 :: rest5, k4 => (ix a_b (k4 : Int)).bind fun x16 =>
    (l_eqMethod x6 x16).bind fun r23 =>
    if (!r23) then (
      some false)
    else (
      l_eqMethodS_L1 a_b rest5 (k4 + 1))
def l_eqMethodS (a_a : List Method) (a_b : List Method) : Option (Bool) :=
  if (((a_a.length : Int) : Int) != (a_b.length : Int)) then (
    some false)
  else (
    l_eqMethodS_L1 a_b a_a 0)
theorem l_eqMethodS_ok (a_a : List Method) (v0_0 : Sv) (a_b : List Method) (v1_0 : Sv) (R : Bool) (hF : l_eqMethodS a_a a_b = some R) :
    Fw.Spec Try.prog 21 [v0_0.v, v1_0.v] [crd (RdS 101 rd101) v0_0.v a_a, crd (RdS 101 rd101) v1_0.v a_b] (fun _ : Unit => (.bool R)) (fun _ => []) := by
  refine Spec_enter (n := 27) Try.func21 rfl rfl (rs := [.tmp 4]) rfl rfl rfl ?_
  intro H0 F0
  unfold l_eqMethodS at hF
  refine K_region ?_
  refine C_val (V_assign (v := (.bool false)) (.bool _)) ?_
  refine C_nil ?_
  refine K_in ?_
  refine K_region ?_
  refine C_val (V_move (v := v0_0.v) (.tmp rfl rfl)) ?_
  refine C_at .h (fun hp => V_lenR (l := a_a.length) sl35 (.tmp rfl rfl) (crd_len hp)) ?_
  refine C_val (V_move (v := v1_0.v) (.tmp rfl rfl)) ?_
  refine C_at (.t .h) (fun hp => V_lenR (l := a_b.length) sl35 (.tmp rfl rfl) (crd_len hp)) ?_
  refine C_val (V_neq (i := (a_a.length : Int)) (j := (a_b.length : Int)) (.tmp rfl rfl) (.tmp rfl rfl)) ?_
  refine C_nil ?_
  refine CW_cond (b := (((a_a.length : Int) : Int) != (a_b.length : Int))) (.tmp rfl rfl) (fun hb28 => ?_) (fun hb28 => ?_)
  · rw [if_pos hb28] at hF
    refine K_region ?_
    refine C_val (V_assign (v := (.bool false)) (.bool _)) ?_
    refine C_nil ?_
    refine CW_ret ?_
    obtain rfl := Option.some.inj hF
    exact End_ret () (.tmp rfl rfl .nil) rfl (.sel .nil)
  rw [if_neg (by rw [hb28]; exact Bool.false_ne_true)] at hF
  refine CW_skip ?_
  refine K_in ?_
  refine K_region ?_
  refine C_val (V_assign (v := (.int .i64 0)) (.int _ _)) ?_
  refine C_nil ?_
  refine CW_block ?_
  refine CW_loop (m := a_a.length) (fun m2 f' cs' => ∃ (g : Fr) (k4 : Nat) (rest5 : List Method), m2 = rest5.length ∧ f' = updL g [(0, v0_0.v), (1, v1_0.v), (5, (.int .i64 (k4 : Int)))] ∧ List.drop k4 a_a = rest5 ∧ Ent cs' [crd (RdS 101 rd101) v0_0.v a_a, crd (RdS 101 rd101) v1_0.v a_b] ∧ l_eqMethodS_L1 a_b rest5 k4 = some R) ⟨_, 0, _, rfl, (EqL.cons rfl (EqL.cons rfl (EqL.cons rfl (EqL.nil)))).eq, rfl, (.sel (.rd .h rfl (.rd (.t .h) rfl .nil))), hF⟩ ?_
  clear hF
  rintro m2 _ _ ⟨g3, k4, rest5, rfl, rfl, hd7, hE, hF⟩
  refine K_ent hE ?_
  clear hE
  refine K_pure (c := crd (RdS 101 rd101) v0_0.v a_a) .h crd_bound (fun hbd12 => ?_)
  rcases rest5 with _ | ⟨x6, rest5⟩
  · have hk8 := List.drop_eq_nil_iff.1 hd7
    have hfe11 : (decide (((k4 : Int) : Int) < (a_a.length : Int))) = false := decide_eq_false (by omega)
    rw [l_eqMethodS_L1] at hF
    refine K_in ?_
    refine K_region ?_
    refine C_val (V_move (v := (.int .i64 (k4 : Int))) (.tmp rfl rfl)) ?_
    refine C_val (V_move (v := v0_0.v) (.tmp rfl rfl)) ?_
    refine C_at .h (fun hp => V_lenR (l := a_a.length) sl35 (.tmp rfl rfl) (crd_len hp)) ?_
    refine C_val (V_lss (i := (k4 : Int)) (j := (a_a.length : Int)) (.tmp rfl rfl) (.tmp rfl rfl)) ?_
    refine C_nil ?_
    refine CW_cond (b := (decide (((k4 : Int) : Int) < (a_a.length : Int)))) (.tmp rfl rfl) (fun hb => absurd (hfe11.symm.trans hb) (by decide)) (fun _ => ?_)
    refine CW_exit ?_
    refine CThen_exit ?_
    refine CThen_exit ?_
    refine CIn_self ?_
    refine K_region ?_
    refine C_val (V_assign (v := (.bool true)) (.bool _)) ?_
    refine C_nil ?_
    refine CW_ret ?_
    obtain rfl := Option.some.inj hF
    exact End_ret () (.tmp rfl rfl .nil) rfl (.sel .nil)
  obtain ⟨hk8, hx9, hd10⟩ := drop_cons hd7
  have hfe11 : (decide (((k4 : Int) : Int) < (a_a.length : Int))) = true := decide_eq_true (by omega)
  rw [l_eqMethodS_L1] at hF
  refine K_in ?_
  refine K_region ?_
  refine C_val (V_move (v := (.int .i64 (k4 : Int))) (.tmp rfl rfl)) ?_
  refine C_val (V_move (v := v0_0.v) (.tmp rfl rfl)) ?_
  refine C_at .h (fun hp => V_lenR (l := a_a.length) sl35 (.tmp rfl rfl) (crd_len hp)) ?_
  refine C_val (V_lss (i := (k4 : Int)) (j := (a_a.length : Int)) (.tmp rfl rfl) (.tmp rfl rfl)) ?_
  refine C_nil ?_
  refine CW_cond (b := (decide (((k4 : Int) : Int) < (a_a.length : Int)))) (.tmp rfl rfl) (fun _ => ?_) (fun hb => absurd (hfe11.symm.trans hb) (by decide))
  refine CW_skip ?_
  refine K_block ?_
  refine K_draw [0, 1, 2, 3, 4, 5, 6, 7, 8, 9] [0, 0, 3, 7, 0, 0, 48, 112, 255, 511] [8] mixed (by decide +kernel) ?_
  refine D_val rfl .no (fun ha => V_move (v := v0_0.v) (EN ha (.tmp rfl rfl) rfl)) ?_
  refine D_val rfl .no (fun ha => V_move (v := (.int .i64 (k4 : Int))) (EN ha (.tmp rfl rfl) rfl)) ?_
  refine D_idx (a := x6) sl35 ty101.sz rfl .no (.tmp rfl rfl) (.tmp rfl rfl) rfl rfl .h (Int.natCast_nonneg k4) hx9 (fun k13 j14 => ?_)
  refine D_ldA1 (ul101_0_101 x6) ag101 ty101.sz rfl rfl .no (.tmp rfl rfl) rfl .h la101_0_101 (fun p15 => ?_)
  refine D_val rfl .no (fun ha => V_move (v := v1_0.v) (EN ha (.tmp rfl rfl) rfl)) ?_
  refine D_val rfl .no (fun ha => V_move (v := (.int .i64 (k4 : Int))) (EN ha (.tmp rfl rfl) rfl)) ?_
  obtain ⟨x16, hx17, hF⟩ := bind_some hF
  obtain ⟨hp18, hx19⟩ := ix_some hx17
  refine D_idx (a := x16) sl35 ty101.sz rfl .no (.tmp rfl rfl) (.tmp rfl rfl) rfl rfl (.t (.t (.t .h))) hp18 hx19 (fun k20 j21 => ?_)
  refine D_ldA1 (ul101_0_101 x16) ag101 ty101.sz rfl rfl .no (.tmp rfl rfl) rfl .h la101_0_101 (fun p22 => ?_)
  obtain ⟨r23, hx24, hF⟩ := bind_some hF
  refine D_act0 rfl rfl .no (.rd (.t (.t .h)) rfl (.rd .h rfl .nil)) .nil (fun ha => X_callS cf60 (.cons (EN ha (.tmp rfl rfl) rfl) (.cons (EN ha (.tmp rfl rfl) rfl) .nil)) (l_eqMethod_ok x6 p15 x16 p22 _ hx24)) (fun _ => ?_)
  refine D_val rfl .no (fun ha => V_not (b := r23) (EN ha (.tmp rfl rfl) rfl)) ?_
  refine D_nil ?_
  refine CW_cond (b := (!r23)) (.tmp rfl rfl) (fun hb27 => ?_) (fun hb27 => ?_)
  · rw [if_pos hb27] at hF
    refine K_region ?_
    refine C_val (V_assign (v := (.bool false)) (.bool _)) ?_
    refine C_nil ?_
    refine CW_ret ?_
    obtain rfl := Option.some.inj hF
    exact End_ret () (.tmp rfl rfl .nil) rfl (.sel .nil)
  rw [if_neg (by rw [hb27]; exact Bool.false_ne_true)] at hF
  refine CW_skip ?_
  refine CW_region ?_
  refine C_val (V_move (v := (.int .i64 (k4 : Int))) (.tmp rfl rfl)) ?_
  refine C_val (V_add (i := (k4 : Int)) (j := 1) (.tmp rfl rfl) (.int _ _)) ?_
  refine C_val (V_assign (v := (.int .i64 (IntKind.i64.wrap ((k4 : Int) + 1)))) (.tmp rfl rfl)) ?_
  refine C_nil ?_
  have hw26 : IntKind.i64.wrap ((k4 : Int) + 1) = ((k4 + 1 : Nat) : Int) := by rw [wrap_in (by omega) (by omega)]; rfl
  rw [hw26]
  exact ⟨_, Nat.lt_succ_self _, _, k4 + 1, rest5, rfl, (EqL.cons rfl (EqL.cons rfl (EqL.cons rfl (EqL.nil)))).eq, hd10, (.sel (.rd (.t (.t (.t (.t .h)))) rfl (.rd (.t (.t (.t (.t (.t .h))))) rfl .nil))), hF⟩

/-! laws.eqRule -/
def l_eqRule (a_a : Rule) (a_b : Rule) : Option (Bool) :=
  if ((a_a.From : Int) != a_b.From) then (
    some false)
  else (
    if ((a_a.To : Int) != a_b.To) then (
      some false)
    else (
      (l_eqIntS a_a.Map a_b.Map).bind fun r3 =>
      if (!r3) then (
        some false)
      else (
        some true)))
theorem l_eqRule_ok (a_a : Rule) (v0_2 : Sv) (a_b : Rule) (v1_2 : Sv) (R : Bool) (hF : l_eqRule a_a a_b = some R) :
    Fw.Spec Try.prog 115 [(.agg [(.int .i64 a_a.From), (.int .i64 a_a.To), v0_2.v].toArray), (.agg [(.int .i64 a_b.From), (.int .i64 a_b.To), v1_2.v].toArray)] [crd (RdS 3 rdInt) v0_2.v a_a.Map, crd (RdS 3 rdInt) v1_2.v a_b.Map] (fun _ : Unit => (.bool R)) (fun _ => []) := by
  refine Spec_enter (n := 21) Try.func115 rfl rfl (rs := [.tmp 4]) rfl rfl rfl ?_
  intro H0 F0
  unfold l_eqRule at hF
  refine K_region ?_
  refine C_newR rfl (N_box (g := false) (v := (.agg [(.int .i64 a_a.From), (.int .i64 a_a.To), v0_2.v].toArray)) ty126.sz (.tmp rfl rfl) rfl) (fun k1 => ?_)
  refine C_newR rfl (N_box (g := false) (v := (.agg [(.int .i64 a_b.From), (.int .i64 a_b.To), v1_2.v].toArray)) ty126.sz (.tmp rfl rfl) rfl) (fun k2 => ?_)
  refine C_val (V_assign (v := (.bool false)) (.bool _)) ?_
  refine C_nil ?_
  refine K_in ?_
  refine K_region ?_
  refine C_val (V_fieldAddr (off := 0) fd126_0 (.tmp rfl rfl)) ?_
  refine C_at (.t .h) (fun hp => V_load (v := (.int .i64 a_a.From)) ag3 (.tmp rfl rfl) hp.2 rfl rfl) ?_
  refine C_val (V_fieldAddr (off := 0) fd126_0 (.tmp rfl rfl)) ?_
  refine C_at .h (fun hp => V_load (v := (.int .i64 a_b.From)) ag3 (.tmp rfl rfl) hp.2 rfl rfl) ?_
  refine C_val (V_neq (i := a_a.From) (j := a_b.From) (.tmp rfl rfl) (.tmp rfl rfl)) ?_
  refine C_nil ?_
  refine CW_cond (b := ((a_a.From : Int) != a_b.From)) (.tmp rfl rfl) (fun hb8 => ?_) (fun hb8 => ?_)
  · rw [if_pos hb8] at hF
    refine K_region ?_
    refine C_val (V_assign (v := (.bool false)) (.bool _)) ?_
    refine C_nil ?_
    refine CW_ret ?_
    obtain rfl := Option.some.inj hF
    exact End_ret () (.tmp rfl rfl .nil) rfl (.sel .nil)
  rw [if_neg (by rw [hb8]; exact Bool.false_ne_true)] at hF
  refine CW_skip ?_
  refine K_in ?_
  refine K_region ?_
  refine C_val (V_fieldAddr (off := 1) fd126_1 (.tmp rfl rfl)) ?_
  refine C_at (.t .h) (fun hp => V_load (v := (.int .i64 a_a.To)) ag3 (.tmp rfl rfl) hp.2 rfl rfl) ?_
  refine C_val (V_fieldAddr (off := 1) fd126_1 (.tmp rfl rfl)) ?_
  refine C_at .h (fun hp => V_load (v := (.int .i64 a_b.To)) ag3 (.tmp rfl rfl) hp.2 rfl rfl) ?_
  refine C_val (V_neq (i := a_a.To) (j := a_b.To) (.tmp rfl rfl) (.tmp rfl rfl)) ?_
  refine C_nil ?_
  refine CW_cond (b := ((a_a.To : Int) != a_b.To)) (.tmp rfl rfl) (fun hb7 => ?_) (fun hb7 => ?_)
  · rw [if_pos hb7] at hF
    refine K_region ?_
    refine C_val (V_assign (v := (.bool false)) (.bool _)) ?_
    refine C_nil ?_
    refine CW_ret ?_
    obtain rfl := Option.some.inj hF
    exact End_ret () (.tmp rfl rfl .nil) rfl (.sel .nil)
  rw [if_neg (by rw [hb7]; exact Bool.false_ne_true)] at hF
  refine CW_skip ?_
  refine K_in ?_
  refine K_region ?_
  refine C_val (V_fieldAddr (off := 2) fd126_2 (.tmp rfl rfl)) ?_
  refine C_at (.t .h) (fun hp => V_load (v := v0_2.v) ag45 (.tmp rfl rfl) hp.2 rfl rfl) ?_
  refine C_val (V_fieldAddr (off := 2) fd126_2 (.tmp rfl rfl)) ?_
  refine C_at .h (fun hp => V_load (v := v1_2.v) ag45 (.tmp rfl rfl) hp.2 rfl rfl) ?_
  obtain ⟨r3, hx4, hF⟩ := bind_some hF
  refine C_x0 (.rd (.t (.t .h)) rfl (.rd (.t (.t (.t .h))) rfl .nil)) (X_callS cf31 (.cons (.tmp rfl rfl) (.cons (.tmp rfl rfl) .nil)) (l_eqIntS_ok a_a.Map v0_2 a_b.Map v1_2 _ hx4)) (fun _ => ?_)
  refine C_val (V_not (b := r3) (.tmp rfl rfl)) ?_
  refine C_nil ?_
  refine CW_cond (b := (!r3)) (.tmp rfl rfl) (fun hb6 => ?_) (fun hb6 => ?_)
  · rw [if_pos hb6] at hF
    refine K_region ?_
    refine C_val (V_assign (v := (.bool false)) (.bool _)) ?_
    refine C_nil ?_
    refine CW_ret ?_
    obtain rfl := Option.some.inj hF
    exact End_ret () (.tmp rfl rfl .nil) rfl (.sel .nil)
  rw [if_neg (by rw [hb6]; exact Bool.false_ne_true)] at hF
  refine CW_skip ?_
  refine K_region ?_
  refine C_val (V_assign (v := (.bool true)) (.bool _)) ?_
  refine C_nil ?_
  refine CW_ret ?_
  obtain rfl := Option.some.inj hF
  exact End_ret () (.tmp rfl rfl .nil) rfl (.sel .nil)

/-! laws.eqRuleS -/
def l_eqRuleS_L1 (a_b : List Rule) : List Rule → Nat → Option (Bool)
  | [], k4 => some true
  | x6 :: rest5, k4 => (ix a_b (k4 : Int)).bind fun x16 =>
    (l_eqRule x6 x16).bind fun r23 =>
    if (!r23) then (
      some false)
    else (
      l_eqRuleS_L1 a_b rest5 (k4 + 1))
def l_eqRuleS (a_a : List Rule) (a_b : List Rule) : Option (Bool) :=
  if (((a_a.length : Int) : Int) != (a_b.length : Int)) then (
    some false)
  else (
    l_eqRuleS_L1 a_b a_a 0)
theorem l_eqRuleS_ok (a_a : List Rule) (v0_0 : Sv) (a_b : List Rule) (v1_0 : Sv) (R : Bool) (hF : l_eqRuleS a_a a_b = some R) :
    Fw.Spec Try.prog 66 [v0_0.v, v1_0.v] [crd (RdS 126 rd126) v0_0.v a_a, crd (RdS 126 rd126) v1_0.v a_b] (fun _ : Unit => (.bool R)) (fun _ => []) := by
  refine Spec_enter (n := 27) Try.func66 rfl rfl (rs := [.tmp 4]) rfl rfl rfl ?_
  intro H0 F0
  unfold l_eqRuleS at hF
  refine K_region ?_
  refine C_val (V_assign (v := (.bool false)) (.bool _)) ?_
  refine C_nil ?_
  refine K_in ?_
  refine K_region ?_
  refine C_val (V_move (v := v0_0.v) (.tmp rfl rfl)) ?_
  refine C_at .h (fun hp => V_lenR (l := a_a.length) sl46 (.tmp rfl rfl) (crd_len hp)) ?_
  refine C_val (V_move (v := v1_0.v) (.tmp rfl rfl)) ?_
  refine C_at (.t .h) (fun hp => V_lenR (l := a_b.length) sl46 (.tmp rfl rfl) (crd_len hp)) ?_
  refine C_val (V_neq (i := (a_a.length : Int)) (j := (a_b.length : Int)) (.tmp rfl rfl) (.tmp rfl rfl)) ?_
  refine C_nil ?_
  refine CW_cond (b := (((a_a.length : Int) : Int) != (a_b.length : Int))) (.tmp rfl rfl) (fun hb28 => ?_) (fun hb28 => ?_)
  · rw [if_pos hb28] at hF
    refine K_region ?_
    refine C_val (V_assign (v := (.bool false)) (.bool _)) ?_
    refine C_nil ?_
    refine CW_ret ?_
    obtain rfl := Option.some.inj hF
    exact End_ret () (.tmp rfl rfl .nil) rfl (.sel .nil)
  rw [if_neg (by rw [hb28]; exact Bool.false_ne_true)] at hF
  refine CW_skip ?_
  refine K_in ?_
  refine K_region ?_
  refine C_val (V_assign (v := (.int .i64 0)) (.int _ _)) ?_
  refine C_nil ?_
  refine CW_block ?_
  refine CW_loop (m := a_a.length) (fun m2 f' cs' => ∃ (g : Fr) (k4 : Nat) (rest5 : List Rule), m2 = rest5.length ∧ f' = updL g [(0, v0_0.v), (1, v1_0.v), (5, (.int .i64 (k4 : Int)))] ∧ List.drop k4 a_a = rest5 ∧ Ent cs' [crd (RdS 126 rd126) v0_0.v a_a, crd (RdS 126 rd126) v1_0.v a_b] ∧ l_eqRuleS_L1 a_b rest5 k4 = some R) ⟨_, 0, _, rfl, (EqL.cons rfl (EqL.cons rfl (EqL.cons rfl (EqL.nil)))).eq, rfl, (.sel (.rd .h rfl (.rd (.t .h) rfl .nil))), hF⟩ ?_
  clear hF
  rintro m2 _ _ ⟨g3, k4, rest5, rfl, rfl, hd7, hE, hF⟩
  refine K_ent hE ?_
  clear hE
  refine K_pure (c := crd (RdS 126 rd126) v0_0.v a_a) .h crd_bound (fun hbd12 => ?_)
  rcases rest5 with _ | ⟨x6, rest5⟩
  · have hk8 := List.drop_eq_nil_iff.1 hd7
    have hfe11 : (decide (((k4 : Int) : Int) < (a_a.length : Int))) = false := decide_eq_false (by omega)
    rw [l_eqRuleS_L1] at hF
    refine K_in ?_
    refine K_region ?_
    refine C_val (V_move (v := (.int .i64 (k4 : Int))) (.tmp rfl rfl)) ?_
    refine C_val (V_move (v := v0_0.v) (.tmp rfl rfl)) ?_
    refine C_at .h (fun hp => V_lenR (l := a_a.length) sl46 (.tmp rfl rfl) (crd_len hp)) ?_
    refine C_val (V_lss (i := (k4 : Int)) (j := (a_a.length : Int)) (.tmp rfl rfl) (.tmp rfl rfl)) ?_
    refine C_nil ?_
    refine CW_cond (b := (decide (((k4 : Int) : Int) < (a_a.length : Int)))) (.tmp rfl rfl) (fun hb => absurd (hfe11.symm.trans hb) (by decide)) (fun _ => ?_)
    refine CW_exit ?_
    refine CThen_exit ?_
    refine CThen_exit ?_
    refine CIn_self ?_
    refine K_region ?_
    refine C_val (V_assign (v := (.bool true)) (.bool _)) ?_
    refine C_nil ?_
    refine CW_ret ?_
    obtain rfl := Option.some.inj hF
    exact End_ret () (.tmp rfl rfl .nil) rfl (.sel .nil)
  obtain ⟨hk8, hx9, hd10⟩ := drop_cons hd7
  have hfe11 : (decide (((k4 : Int) : Int) < (a_a.length : Int))) = true := decide_eq_true (by omega)
  rw [l_eqRuleS_L1] at hF
  refine K_in ?_
  refine K_region ?_
  refine C_val (V_move (v := (.int .i64 (k4 : Int))) (.tmp rfl rfl)) ?_
  refine C_val (V_move (v := v0_0.v) (.tmp rfl rfl)) ?_
  refine C_at .h (fun hp => V_lenR (l := a_a.length) sl46 (.tmp rfl rfl) (crd_len hp)) ?_
  refine C_val (V_lss (i := (k4 : Int)) (j := (a_a.length : Int)) (.tmp rfl rfl) (.tmp rfl rfl)) ?_
  refine C_nil ?_
  refine CW_cond (b := (decide (((k4 : Int) : Int) < (a_a.length : Int)))) (.tmp rfl rfl) (fun _ => ?_) (fun hb => absurd (hfe11.symm.trans hb) (by decide))
  refine CW_skip ?_
  refine K_block ?_
  refine K_draw [0, 1, 2, 3, 4, 5, 6, 7, 8, 9] [0, 0, 3, 7, 0, 0, 48, 112, 255, 511] [8] mixed (by decide +kernel) ?_
  refine D_val rfl .no (fun ha => V_move (v := v0_0.v) (EN ha (.tmp rfl rfl) rfl)) ?_
  refine D_val rfl .no (fun ha => V_move (v := (.int .i64 (k4 : Int))) (EN ha (.tmp rfl rfl) rfl)) ?_
  refine D_idx (a := x6) sl46 ty126.sz rfl .no (.tmp rfl rfl) (.tmp rfl rfl) rfl rfl .h (Int.natCast_nonneg k4) hx9 (fun k13 j14 => ?_)
  refine D_ldA1 (ul126_0_126 x6) ag126 ty126.sz rfl rfl .no (.tmp rfl rfl) rfl .h la126_0_126 (fun p15 => ?_)
  refine D_val rfl .no (fun ha => V_move (v := v1_0.v) (EN ha (.tmp rfl rfl) rfl)) ?_
  refine D_val rfl .no (fun ha => V_move (v := (.int .i64 (k4 : Int))) (EN ha (.tmp rfl rfl) rfl)) ?_
  obtain ⟨x16, hx17, hF⟩ := bind_some hF
  obtain ⟨hp18, hx19⟩ := ix_some hx17
  refine D_idx (a := x16) sl46 ty126.sz rfl .no (.tmp rfl rfl) (.tmp rfl rfl) rfl rfl (.t (.t (.t .h))) hp18 hx19 (fun k20 j21 => ?_)
  refine D_ldA1 (ul126_0_126 x16) ag126 ty126.sz rfl rfl .no (.tmp rfl rfl) rfl .h la126_0_126 (fun p22 => ?_)
  obtain ⟨r23, hx24, hF⟩ := bind_some hF
  refine D_act0 rfl rfl .no (.rd (.t (.t .h)) rfl (.rd .h rfl .nil)) .nil (fun ha => X_callS cf115 (.cons (EN ha (.tmp rfl rfl) rfl) (.cons (EN ha (.tmp rfl rfl) rfl) .nil)) (l_eqRule_ok x6 p15 x16 p22 _ hx24)) (fun _ => ?_)
  refine D_val rfl .no (fun ha => V_not (b := r23) (EN ha (.tmp rfl rfl) rfl)) ?_
  refine D_nil ?_
  refine CW_cond (b := (!r23)) (.tmp rfl rfl) (fun hb27 => ?_) (fun hb27 => ?_)
  · rw [if_pos hb27] at hF
    refine K_region ?_
    refine C_val (V_assign (v := (.bool false)) (.bool _)) ?_
    refine C_nil ?_
    refine CW_ret ?_
    obtain rfl := Option.some.inj hF
    exact End_ret () (.tmp rfl rfl .nil) rfl (.sel .nil)
  rw [if_neg (by rw [hb27]; exact Bool.false_ne_true)] at hF
  refine CW_skip ?_
  refine CW_region ?_
  refine C_val (V_move (v := (.int .i64 (k4 : Int))) (.tmp rfl rfl)) ?_
  refine C_val (V_add (i := (k4 : Int)) (j := 1) (.tmp rfl rfl) (.int _ _)) ?_
  refine C_val (V_assign (v := (.int .i64 (IntKind.i64.wrap ((k4 : Int) + 1)))) (.tmp rfl rfl)) ?_
  refine C_nil ?_
  have hw26 : IntKind.i64.wrap ((k4 : Int) + 1) = ((k4 + 1 : Nat) : Int) := by rw [wrap_in (by omega) (by omega)]; rfl
  rw [hw26]
  exact ⟨_, Nat.lt_succ_self _, _, k4 + 1, rest5, rfl, (EqL.cons rfl (EqL.cons rfl (EqL.cons rfl (EqL.nil)))).eq, hd10, (.sel (.rd (.t (.t (.t (.t .h)))) rfl (.rd (.t (.t (.t (.t (.t .h))))) rfl .nil))), hF⟩

/-! laws.eqFact -/
def l_eqFact (a_a : Fact) (a_b : Fact) : Option (Bool) :=
  if ((a_a.Rel : Int) != a_b.Rel) then (
    some false)
  else (
    (l_eqIntS a_a.Values a_b.Values).bind fun r3 =>
    if (!r3) then (
      some false)
    else (
      some true))
theorem l_eqFact_ok (a_a : Fact) (v0_1 : Sv) (a_b : Fact) (v1_1 : Sv) (R : Bool) (hF : l_eqFact a_a a_b = some R) :
    Fw.Spec Try.prog 146 [(.agg [(.int .i64 a_a.Rel), v0_1.v].toArray), (.agg [(.int .i64 a_b.Rel), v1_1.v].toArray)] [crd (RdS 3 rdInt) v0_1.v a_a.Values, crd (RdS 3 rdInt) v1_1.v a_b.Values] (fun _ : Unit => (.bool R)) (fun _ => []) := by
  refine Spec_enter (n := 16) Try.func146 rfl rfl (rs := [.tmp 4]) rfl rfl rfl ?_
  intro H0 F0
  unfold l_eqFact at hF
  refine K_region ?_
  refine C_newR rfl (N_box (g := false) (v := (.agg [(.int .i64 a_a.Rel), v0_1.v].toArray)) ty157.sz (.tmp rfl rfl) rfl) (fun k1 => ?_)
  refine C_newR rfl (N_box (g := false) (v := (.agg [(.int .i64 a_b.Rel), v1_1.v].toArray)) ty157.sz (.tmp rfl rfl) rfl) (fun k2 => ?_)
  refine C_val (V_assign (v := (.bool false)) (.bool _)) ?_
  refine C_nil ?_
  refine K_in ?_
  refine K_region ?_
  refine C_val (V_fieldAddr (off := 0) fd157_0 (.tmp rfl rfl)) ?_
  refine C_at (.t .h) (fun hp => V_load (v := (.int .i64 a_a.Rel)) ag3 (.tmp rfl rfl) hp.2 rfl rfl) ?_
  refine C_val (V_fieldAddr (off := 0) fd157_0 (.tmp rfl rfl)) ?_
  refine C_at .h (fun hp => V_load (v := (.int .i64 a_b.Rel)) ag3 (.tmp rfl rfl) hp.2 rfl rfl) ?_
  refine C_val (V_neq (i := a_a.Rel) (j := a_b.Rel) (.tmp rfl rfl) (.tmp rfl rfl)) ?_
  refine C_nil ?_
  refine CW_cond (b := ((a_a.Rel : Int) != a_b.Rel)) (.tmp rfl rfl) (fun hb7 => ?_) (fun hb7 => ?_)
  · rw [if_pos hb7] at hF
    refine K_region ?_
    refine C_val (V_assign (v := (.bool false)) (.bool _)) ?_
    refine C_nil ?_
    refine CW_ret ?_
    obtain rfl := Option.some.inj hF
    exact End_ret () (.tmp rfl rfl .nil) rfl (.sel .nil)
  rw [if_neg (by rw [hb7]; exact Bool.false_ne_true)] at hF
  refine CW_skip ?_
  refine K_in ?_
  refine K_region ?_
  refine C_val (V_fieldAddr (off := 1) fd157_1 (.tmp rfl rfl)) ?_
  refine C_at (.t .h) (fun hp => V_load (v := v0_1.v) ag45 (.tmp rfl rfl) hp.2 rfl rfl) ?_
  refine C_val (V_fieldAddr (off := 1) fd157_1 (.tmp rfl rfl)) ?_
  refine C_at .h (fun hp => V_load (v := v1_1.v) ag45 (.tmp rfl rfl) hp.2 rfl rfl) ?_
  obtain ⟨r3, hx4, hF⟩ := bind_some hF
  refine C_x0 (.rd (.t (.t .h)) rfl (.rd (.t (.t (.t .h))) rfl .nil)) (X_callS cf31 (.cons (.tmp rfl rfl) (.cons (.tmp rfl rfl) .nil)) (l_eqIntS_ok a_a.Values v0_1 a_b.Values v1_1 _ hx4)) (fun _ => ?_)
  refine C_val (V_not (b := r3) (.tmp rfl rfl)) ?_
  refine C_nil ?_
  refine CW_cond (b := (!r3)) (.tmp rfl rfl) (fun hb6 => ?_) (fun hb6 => ?_)
  · rw [if_pos hb6] at hF
    refine K_region ?_
    refine C_val (V_assign (v := (.bool false)) (.bool _)) ?_
    refine C_nil ?_
    refine CW_ret ?_
    obtain rfl := Option.some.inj hF
    exact End_ret () (.tmp rfl rfl .nil) rfl (.sel .nil)
  rw [if_neg (by rw [hb6]; exact Bool.false_ne_true)] at hF
  refine CW_skip ?_
  refine K_region ?_
  refine C_val (V_assign (v := (.bool true)) (.bool _)) ?_
  refine C_nil ?_
  refine CW_ret ?_
  obtain rfl := Option.some.inj hF
  exact End_ret () (.tmp rfl rfl .nil) rfl (.sel .nil)

/-! laws.eqFactS -/
def l_eqFactS_L1 (a_b : List Fact) : List Fact → Nat → Option (Bool)
  | [], k4 => some true
  | x6 :: rest5, k4 => (ix a_b (k4 : Int)).bind fun x16 =>
    (l_eqFact x6 x16).bind fun r23 =>
    if (!r23) then (
      some false)
    else (
      l_eqFactS_L1 a_b rest5 (k4 + 1))
def l_eqFactS (a_a : List Fact) (a_b : List Fact) : Option (Bool) :=
  if (((a_a.length : Int) : Int) != (a_b.length : Int)) then (
    some false)
  else (
    l_eqFactS_L1 a_b a_a 0)
theorem l_eqFactS_ok (a_a : List Fact) (v0_0 : Sv) (a_b : List Fact) (v1_0 : Sv) (R : Bool) (hF : l_eqFactS a_a a_b = some R) :
    Fw.Spec Try.prog 116 [v0_0.v, v1_0.v] [crd (RdS 157 rd157) v0_0.v a_a, crd (RdS 157 rd157) v1_0.v a_b] (fun _ : Unit => (.bool R)) (fun _ => []) := by
  refine Spec_enter (n := 27) Try.func116 rfl rfl (rs := [.tmp 4]) rfl rfl rfl ?_
  intro H0 F0
  unfold l_eqFactS at hF
  refine K_region ?_
  refine C_val (V_assign (v := (.bool false)) (.bool _)) ?_
  refine C_nil ?_
  refine K_in ?_
  refine K_region ?_
  refine C_val (V_move (v := v0_0.v) (.tmp rfl rfl)) ?_
  refine C_at .h (fun hp => V_lenR (l := a_a.length) sl47 (.tmp rfl rfl) (crd_len hp)) ?_
  refine C_val (V_move (v := v1_0.v) (.tmp rfl rfl)) ?_
  refine C_at (.t .h) (fun hp => V_lenR (l := a_b.length) sl47 (.tmp rfl rfl) (crd_len hp)) ?_
  refine C_val (V_neq (i := (a_a.length : Int)) (j := (a_b.length : Int)) (.tmp rfl rfl) (.tmp rfl rfl)) ?_
  refine C_nil ?_
  refine CW_cond (b := (((a_a.length : Int) : Int) != (a_b.length : Int))) (.tmp rfl rfl) (fun hb28 => ?_) (fun hb28 => ?_)
  · rw [if_pos hb28] at hF
    refine K_region ?_
    refine C_val (V_assign (v := (.bool false)) (.bool _)) ?_
    refine C_nil ?_
    refine CW_ret ?_
    obtain rfl := Option.some.inj hF
    exact End_ret () (.tmp rfl rfl .nil) rfl (.sel .nil)
  rw [if_neg (by rw [hb28]; exact Bool.false_ne_true)] at hF
  refine CW_skip ?_
  refine K_in ?_
  refine K_region ?_
  refine C_val (V_assign (v := (.int .i64 0)) (.int _ _)) ?_
  refine C_nil ?_
  refine CW_block ?_
  refine CW_loop (m := a_a.length) (fun m2 f' cs' => ∃ (g : Fr) (k4 : Nat) (rest5 : List Fact), m2 = rest5.length ∧ f' = updL g [(0, v0_0.v), (1, v1_0.v), (5, (.int .i64 (k4 : Int)))] ∧ List.drop k4 a_a = rest5 ∧ Ent cs' [crd (RdS 157 rd157) v0_0.v a_a, crd (RdS 157 rd157) v1_0.v a_b] ∧ l_eqFactS_L1 a_b rest5 k4 = some R) ⟨_, 0, _, rfl, (EqL.cons rfl (EqL.cons rfl (EqL.cons rfl (EqL.nil)))).eq, rfl, (.sel (.rd .h rfl (.rd (.t .h) rfl .nil))), hF⟩ ?_
  clear hF
  rintro m2 _ _ ⟨g3, k4, rest5, rfl, rfl, hd7, hE, hF⟩
  refine K_ent hE ?_
  clear hE
  refine K_pure (c := crd (RdS 157 rd157) v0_0.v a_a) .h crd_bound (fun hbd12 => ?_)
  rcases rest5 with _ | ⟨x6, rest5⟩
  · have hk8 := List.drop_eq_nil_iff.1 hd7
    have hfe11 : (decide (((k4 : Int) : Int) < (a_a.length : Int))) = false := decide_eq_false (by omega)
    rw [l_eqFactS_L1] at hF
    refine K_in ?_
    refine K_region ?_
    refine C_val (V_move (v := (.int .i64 (k4 : Int))) (.tmp rfl rfl)) ?_
    refine C_val (V_move (v := v0_0.v) (.tmp rfl rfl)) ?_
    refine C_at .h (fun hp => V_lenR (l := a_a.length) sl47 (.tmp rfl rfl) (crd_len hp)) ?_
    refine C_val (V_lss (i := (k4 : Int)) (j := (a_a.length : Int)) (.tmp rfl rfl) (.tmp rfl rfl)) ?_
    refine C_nil ?_
    refine CW_cond (b := (decide (((k4 : Int) : Int) < (a_a.length : Int)))) (.tmp rfl rfl) (fun hb => absurd (hfe11.symm.trans hb) (by decide)) (fun _ => ?_)
    refine CW_exit ?_
    refine CThen_exit ?_
    refine CThen_exit ?_
    refine CIn_self ?_
    refine K_region ?_
    refine C_val (V_assign (v := (.bool true)) (.bool _)) ?_
    refine C_nil ?_
    refine CW_ret ?_
    obtain rfl := Option.some.inj hF
    exact End_ret () (.tmp rfl rfl .nil) rfl (.sel .nil)
  obtain ⟨hk8, hx9, hd10⟩ := drop_cons hd7
  have hfe11 : (decide (((k4 : Int) : Int) < (a_a.length : Int))) = true := decide_eq_true (by omega)
  rw [l_eqFactS_L1] at hF
  refine K_in ?_
  refine K_region ?_
  refine C_val (V_move (v := (.int .i64 (k4 : Int))) (.tmp rfl rfl)) ?_
  refine C_val (V_move (v := v0_0.v) (.tmp rfl rfl)) ?_
  refine C_at .h (fun hp => V_lenR (l := a_a.length) sl47 (.tmp rfl rfl) (crd_len hp)) ?_
  refine C_val (V_lss (i := (k4 : Int)) (j := (a_a.length : Int)) (.tmp rfl rfl) (.tmp rfl rfl)) ?_
  refine C_nil ?_
  refine CW_cond (b := (decide (((k4 : Int) : Int) < (a_a.length : Int)))) (.tmp rfl rfl) (fun _ => ?_) (fun hb => absurd (hfe11.symm.trans hb) (by decide))
  refine CW_skip ?_
  refine K_block ?_
  refine K_draw [0, 1, 2, 3, 4, 5, 6, 7, 8, 9] [0, 0, 3, 7, 0, 0, 48, 112, 255, 511] [8] mixed (by decide +kernel) ?_
  refine D_val rfl .no (fun ha => V_move (v := v0_0.v) (EN ha (.tmp rfl rfl) rfl)) ?_
  refine D_val rfl .no (fun ha => V_move (v := (.int .i64 (k4 : Int))) (EN ha (.tmp rfl rfl) rfl)) ?_
  refine D_idx (a := x6) sl47 ty157.sz rfl .no (.tmp rfl rfl) (.tmp rfl rfl) rfl rfl .h (Int.natCast_nonneg k4) hx9 (fun k13 j14 => ?_)
  refine D_ldA1 (ul157_0_157 x6) ag157 ty157.sz rfl rfl .no (.tmp rfl rfl) rfl .h la157_0_157 (fun p15 => ?_)
  refine D_val rfl .no (fun ha => V_move (v := v1_0.v) (EN ha (.tmp rfl rfl) rfl)) ?_
  refine D_val rfl .no (fun ha => V_move (v := (.int .i64 (k4 : Int))) (EN ha (.tmp rfl rfl) rfl)) ?_
  obtain ⟨x16, hx17, hF⟩ := bind_some hF
  obtain ⟨hp18, hx19⟩ := ix_some hx17
  refine D_idx (a := x16) sl47 ty157.sz rfl .no (.tmp rfl rfl) (.tmp rfl rfl) rfl rfl (.t (.t (.t .h))) hp18 hx19 (fun k20 j21 => ?_)
  refine D_ldA1 (ul157_0_157 x16) ag157 ty157.sz rfl rfl .no (.tmp rfl rfl) rfl .h la157_0_157 (fun p22 => ?_)
  obtain ⟨r23, hx24, hF⟩ := bind_some hF
  refine D_act0 rfl rfl .no (.rd (.t (.t .h)) rfl (.rd .h rfl .nil)) .nil (fun ha => X_callS cf146 (.cons (EN ha (.tmp rfl rfl) rfl) (.cons (EN ha (.tmp rfl rfl) rfl) .nil)) (l_eqFact_ok x6 p15 x16 p22 _ hx24)) (fun _ => ?_)
  refine D_val rfl .no (fun ha => V_not (b := r23) (EN ha (.tmp rfl rfl) rfl)) ?_
  refine D_nil ?_
  refine CW_cond (b := (!r23)) (.tmp rfl rfl) (fun hb27 => ?_) (fun hb27 => ?_)
  · rw [if_pos hb27] at hF
    refine K_region ?_
    refine C_val (V_assign (v := (.bool false)) (.bool _)) ?_
    refine C_nil ?_
    refine CW_ret ?_
    obtain rfl := Option.some.inj hF
    exact End_ret () (.tmp rfl rfl .nil) rfl (.sel .nil)
  rw [if_neg (by rw [hb27]; exact Bool.false_ne_true)] at hF
  refine CW_skip ?_
  refine CW_region ?_
  refine C_val (V_move (v := (.int .i64 (k4 : Int))) (.tmp rfl rfl)) ?_
  refine C_val (V_add (i := (k4 : Int)) (j := 1) (.tmp rfl rfl) (.int _ _)) ?_
  refine C_val (V_assign (v := (.int .i64 (IntKind.i64.wrap ((k4 : Int) + 1)))) (.tmp rfl rfl)) ?_
  refine C_nil ?_
  have hw26 : IntKind.i64.wrap ((k4 : Int) + 1) = ((k4 + 1 : Nat) : Int) := by rw [wrap_in (by omega) (by omega)]; rfl
  rw [hw26]
  exact ⟨_, Nat.lt_succ_self _, _, k4 + 1, rest5, rfl, (EqL.cons rfl (EqL.cons rfl (EqL.cons rfl (EqL.nil)))).eq, hd10, (.sel (.rd (.t (.t (.t (.t .h)))) rfl (.rd (.t (.t (.t (.t (.t .h))))) rfl .nil))), hF⟩

/-! laws.eqSource -/
def l_eqSource (a_a : Source) (a_b : Source) : Option (Bool) :=
  (l_eqFactS a_a.Facts a_b.Facts).bind fun r3 =>
  if (!r3) then (
    some false)
  else (
    if ((a_a.Version : Int) != a_b.Version) then (
      some false)
    else (
      some true))
theorem l_eqSource_ok (a_a : Source) (v0_0 : Sv) (a_b : Source) (v1_0 : Sv) (R : Bool) (hF : l_eqSource a_a a_b = some R) :
    Fw.Spec Try.prog 67 [(.agg [v0_0.v, (.int .i64 a_a.Version)].toArray), (.agg [v1_0.v, (.int .i64 a_b.Version)].toArray)] [crd (RdS 157 rd157) v0_0.v a_a.Facts, crd (RdS 157 rd157) v1_0.v a_b.Facts] (fun _ : Unit => (.bool R)) (fun _ => []) := by
  refine Spec_enter (n := 16) Try.func67 rfl rfl (rs := [.tmp 4]) rfl rfl rfl ?_
  intro H0 F0
  unfold l_eqSource at hF
  refine K_region ?_
  refine C_newR rfl (N_box (g := false) (v := (.agg [v0_0.v, (.int .i64 a_a.Version)].toArray)) ty49.sz (.tmp rfl rfl) rfl) (fun k1 => ?_)
  refine C_newR rfl (N_box (g := false) (v := (.agg [v1_0.v, (.int .i64 a_b.Version)].toArray)) ty49.sz (.tmp rfl rfl) rfl) (fun k2 => ?_)
  refine C_val (V_assign (v := (.bool false)) (.bool _)) ?_
  refine C_nil ?_
  refine K_in ?_
  refine K_region ?_
  refine C_val (V_fieldAddr (off := 0) fd49_0 (.tmp rfl rfl)) ?_
  refine C_at (.t .h) (fun hp => V_load (v := v0_0.v) ag47 (.tmp rfl rfl) hp.2 rfl rfl) ?_
  refine C_val (V_fieldAddr (off := 0) fd49_0 (.tmp rfl rfl)) ?_
  refine C_at .h (fun hp => V_load (v := v1_0.v) ag47 (.tmp rfl rfl) hp.2 rfl rfl) ?_
  obtain ⟨r3, hx4, hF⟩ := bind_some hF
  refine C_x0 (.rd (.t (.t .h)) rfl (.rd (.t (.t (.t .h))) rfl .nil)) (X_callS cf116 (.cons (.tmp rfl rfl) (.cons (.tmp rfl rfl) .nil)) (l_eqFactS_ok a_a.Facts v0_0 a_b.Facts v1_0 _ hx4)) (fun _ => ?_)
  refine C_val (V_not (b := r3) (.tmp rfl rfl)) ?_
  refine C_nil ?_
  refine CW_cond (b := (!r3)) (.tmp rfl rfl) (fun hb7 => ?_) (fun hb7 => ?_)
  · rw [if_pos hb7] at hF
    refine K_region ?_
    refine C_val (V_assign (v := (.bool false)) (.bool _)) ?_
    refine C_nil ?_
    refine CW_ret ?_
    obtain rfl := Option.some.inj hF
    exact End_ret () (.tmp rfl rfl .nil) rfl (.sel .nil)
  rw [if_neg (by rw [hb7]; exact Bool.false_ne_true)] at hF
  refine CW_skip ?_
  refine K_in ?_
  refine K_region ?_
  refine C_val (V_fieldAddr (off := 1) fd49_1 (.tmp rfl rfl)) ?_
  refine C_at (.t .h) (fun hp => V_load (v := (.int .i64 a_a.Version)) ag3 (.tmp rfl rfl) hp.2 rfl rfl) ?_
  refine C_val (V_fieldAddr (off := 1) fd49_1 (.tmp rfl rfl)) ?_
  refine C_at .h (fun hp => V_load (v := (.int .i64 a_b.Version)) ag3 (.tmp rfl rfl) hp.2 rfl rfl) ?_
  refine C_val (V_neq (i := a_a.Version) (j := a_b.Version) (.tmp rfl rfl) (.tmp rfl rfl)) ?_
  refine C_nil ?_
  refine CW_cond (b := ((a_a.Version : Int) != a_b.Version)) (.tmp rfl rfl) (fun hb6 => ?_) (fun hb6 => ?_)
  · rw [if_pos hb6] at hF
    refine K_region ?_
    refine C_val (V_assign (v := (.bool false)) (.bool _)) ?_
    refine C_nil ?_
    refine CW_ret ?_
    obtain rfl := Option.some.inj hF
    exact End_ret () (.tmp rfl rfl .nil) rfl (.sel .nil)
  rw [if_neg (by rw [hb6]; exact Bool.false_ne_true)] at hF
  refine CW_skip ?_
  refine K_region ?_
  refine C_val (V_assign (v := (.bool true)) (.bool _)) ?_
  refine C_nil ?_
  refine CW_ret ?_
  obtain rfl := Option.some.inj hF
  exact End_ret () (.tmp rfl rfl .nil) rfl (.sel .nil)

/-! laws.eqAccess -/
def l_eqAccess (a_a : Access) (a_b : Access) : Option (Bool) :=
  if ((a_a.Method : Int) != a_b.Method) then (
    some false)
  else (
    (l_eqIntS a_a.Values a_b.Values).bind fun r3 =>
    if (!r3) then (
      some false)
    else (
      some true))
theorem l_eqAccess_ok (a_a : Access) (v0_1 : Sv) (a_b : Access) (v1_1 : Sv) (R : Bool) (hF : l_eqAccess a_a a_b = some R) :
    Fw.Spec Try.prog 59 [(.agg [(.int .i64 a_a.Method), v0_1.v].toArray), (.agg [(.int .i64 a_b.Method), v1_1.v].toArray)] [crd (RdS 3 rdInt) v0_1.v a_a.Values, crd (RdS 3 rdInt) v1_1.v a_b.Values] (fun _ : Unit => (.bool R)) (fun _ => []) := by
  refine Spec_enter (n := 16) Try.func59 rfl rfl (rs := [.tmp 4]) rfl rfl rfl ?_
  intro H0 F0
  unfold l_eqAccess at hF
  refine K_region ?_
  refine C_newR rfl (N_box (g := false) (v := (.agg [(.int .i64 a_a.Method), v0_1.v].toArray)) ty100.sz (.tmp rfl rfl) rfl) (fun k1 => ?_)
  refine C_newR rfl (N_box (g := false) (v := (.agg [(.int .i64 a_b.Method), v1_1.v].toArray)) ty100.sz (.tmp rfl rfl) rfl) (fun k2 => ?_)
  refine C_val (V_assign (v := (.bool false)) (.bool _)) ?_
  refine C_nil ?_
  refine K_in ?_
  refine K_region ?_
  refine C_val (V_fieldAddr (off := 0) fd100_0 (.tmp rfl rfl)) ?_
  refine C_at (.t .h) (fun hp => V_load (v := (.int .i64 a_a.Method)) ag3 (.tmp rfl rfl) hp.2 rfl rfl) ?_
  refine C_val (V_fieldAddr (off := 0) fd100_0 (.tmp rfl rfl)) ?_
  refine C_at .h (fun hp => V_load (v := (.int .i64 a_b.Method)) ag3 (.tmp rfl rfl) hp.2 rfl rfl) ?_
  refine C_val (V_neq (i := a_a.Method) (j := a_b.Method) (.tmp rfl rfl) (.tmp rfl rfl)) ?_
  refine C_nil ?_
  refine CW_cond (b := ((a_a.Method : Int) != a_b.Method)) (.tmp rfl rfl) (fun hb7 => ?_) (fun hb7 => ?_)
  · rw [if_pos hb7] at hF
    refine K_region ?_
    refine C_val (V_assign (v := (.bool false)) (.bool _)) ?_
    refine C_nil ?_
    refine CW_ret ?_
    obtain rfl := Option.some.inj hF
    exact End_ret () (.tmp rfl rfl .nil) rfl (.sel .nil)
  rw [if_neg (by rw [hb7]; exact Bool.false_ne_true)] at hF
  refine CW_skip ?_
  refine K_in ?_
  refine K_region ?_
  refine C_val (V_fieldAddr (off := 1) fd100_1 (.tmp rfl rfl)) ?_
  refine C_at (.t .h) (fun hp => V_load (v := v0_1.v) ag45 (.tmp rfl rfl) hp.2 rfl rfl) ?_
  refine C_val (V_fieldAddr (off := 1) fd100_1 (.tmp rfl rfl)) ?_
  refine C_at .h (fun hp => V_load (v := v1_1.v) ag45 (.tmp rfl rfl) hp.2 rfl rfl) ?_
  obtain ⟨r3, hx4, hF⟩ := bind_some hF
  refine C_x0 (.rd (.t (.t .h)) rfl (.rd (.t (.t (.t .h))) rfl .nil)) (X_callS cf31 (.cons (.tmp rfl rfl) (.cons (.tmp rfl rfl) .nil)) (l_eqIntS_ok a_a.Values v0_1 a_b.Values v1_1 _ hx4)) (fun _ => ?_)
  refine C_val (V_not (b := r3) (.tmp rfl rfl)) ?_
  refine C_nil ?_
  refine CW_cond (b := (!r3)) (.tmp rfl rfl) (fun hb6 => ?_) (fun hb6 => ?_)
  · rw [if_pos hb6] at hF
    refine K_region ?_
    refine C_val (V_assign (v := (.bool false)) (.bool _)) ?_
    refine C_nil ?_
    refine CW_ret ?_
    obtain rfl := Option.some.inj hF
    exact End_ret () (.tmp rfl rfl .nil) rfl (.sel .nil)
  rw [if_neg (by rw [hb6]; exact Bool.false_ne_true)] at hF
  refine CW_skip ?_
  refine K_region ?_
  refine C_val (V_assign (v := (.bool true)) (.bool _)) ?_
  refine C_nil ?_
  refine CW_ret ?_
  obtain rfl := Option.some.inj hF
  exact End_ret () (.tmp rfl rfl .nil) rfl (.sel .nil)

/-! laws.eqStored -/
def l_eqStored (a_a : Stored) (a_b : Stored) : Option (Bool) :=
  (l_eqAccess a_a.Access a_b.Access).bind fun r3 =>
  if (!r3) then (
    some false)
  else (
    (l_eqFactS a_a.Facts a_b.Facts).bind fun r6 =>
    if (!r6) then (
      some false)
    else (
      if ((a_a.At : Int) != a_b.At) then (
        some false)
      else (
        some true)))
theorem l_eqStored_ok (a_a : Stored) (v0_1 : Sv) (v0_2 : Sv) (a_b : Stored) (v1_1 : Sv) (v1_2 : Sv) (R : Bool) (hF : l_eqStored a_a a_b = some R) :
    Fw.Spec Try.prog 147 [(.agg [(.int .i64 a_a.Access.Method), v0_1.v, v0_2.v, (.int .i64 a_a.At)].toArray), (.agg [(.int .i64 a_b.Access.Method), v1_1.v, v1_2.v, (.int .i64 a_b.At)].toArray)] [crd (RdS 3 rdInt) v0_1.v a_a.Access.Values, crd (RdS 157 rd157) v0_2.v a_a.Facts, crd (RdS 3 rdInt) v1_1.v a_b.Access.Values, crd (RdS 157 rd157) v1_2.v a_b.Facts] (fun _ : Unit => (.bool R)) (fun _ => []) := by
  refine Spec_enter (n := 22) Try.func147 rfl rfl (rs := [.tmp 4]) rfl rfl rfl ?_
  intro H0 F0
  unfold l_eqStored at hF
  refine K_region ?_
  refine C_newR rfl (N_box (g := false) (v := (.agg [(.int .i64 a_a.Access.Method), v0_1.v, v0_2.v, (.int .i64 a_a.At)].toArray)) ty159.sz (.tmp rfl rfl) rfl) (fun k1 => ?_)
  refine C_newR rfl (N_box (g := false) (v := (.agg [(.int .i64 a_b.Access.Method), v1_1.v, v1_2.v, (.int .i64 a_b.At)].toArray)) ty159.sz (.tmp rfl rfl) rfl) (fun k2 => ?_)
  refine C_val (V_assign (v := (.bool false)) (.bool _)) ?_
  refine C_nil ?_
  refine K_in ?_
  refine K_region ?_
  refine C_val (V_fieldAddr (off := 0) fd159_0 (.tmp rfl rfl)) ?_
  refine C_at (.t .h) (fun hp => V_loadA (s := 2) (l := [(.int .i64 a_a.Access.Method), v0_1.v]) ag100 ty100.sz (.tmp rfl rfl) hp.2 rfl (by decide) (Nat.le_of_ble_eq_true rfl) rfl) ?_
  refine C_val (V_fieldAddr (off := 0) fd159_0 (.tmp rfl rfl)) ?_
  refine C_at .h (fun hp => V_loadA (s := 2) (l := [(.int .i64 a_b.Access.Method), v1_1.v]) ag100 ty100.sz (.tmp rfl rfl) hp.2 rfl (by decide) (Nat.le_of_ble_eq_true rfl) rfl) ?_
  obtain ⟨r3, hx4, hF⟩ := bind_some hF
  refine C_x0 (.rd (.t (.t .h)) rfl (.rd (.t (.t (.t (.t .h)))) rfl .nil)) (X_callS cf59 (.cons (.tmp rfl rfl) (.cons (.tmp rfl rfl) .nil)) (l_eqAccess_ok a_a.Access v0_1 a_b.Access v1_1 _ hx4)) (fun _ => ?_)
  refine C_val (V_not (b := r3) (.tmp rfl rfl)) ?_
  refine C_nil ?_
  refine CW_cond (b := (!r3)) (.tmp rfl rfl) (fun hb11 => ?_) (fun hb11 => ?_)
  · rw [if_pos hb11] at hF
    refine K_region ?_
    refine C_val (V_assign (v := (.bool false)) (.bool _)) ?_
    refine C_nil ?_
    refine CW_ret ?_
    obtain rfl := Option.some.inj hF
    exact End_ret () (.tmp rfl rfl .nil) rfl (.sel .nil)
  rw [if_neg (by rw [hb11]; exact Bool.false_ne_true)] at hF
  refine CW_skip ?_
  refine K_in ?_
  refine K_region ?_
  refine C_val (V_fieldAddr (off := 2) fd159_1 (.tmp rfl rfl)) ?_
  refine C_at (.t .h) (fun hp => V_load (v := v0_2.v) ag47 (.tmp rfl rfl) hp.2 rfl rfl) ?_
  refine C_val (V_fieldAddr (off := 2) fd159_1 (.tmp rfl rfl)) ?_
  refine C_at .h (fun hp => V_load (v := v1_2.v) ag47 (.tmp rfl rfl) hp.2 rfl rfl) ?_
  obtain ⟨r6, hx7, hF⟩ := bind_some hF
  refine C_x0 (.rd (.t (.t (.t .h))) rfl (.rd (.t (.t (.t (.t (.t .h))))) rfl .nil)) (X_callS cf116 (.cons (.tmp rfl rfl) (.cons (.tmp rfl rfl) .nil)) (l_eqFactS_ok a_a.Facts v0_2 a_b.Facts v1_2 _ hx7)) (fun _ => ?_)
  refine C_val (V_not (b := r6) (.tmp rfl rfl)) ?_
  refine C_nil ?_
  refine CW_cond (b := (!r6)) (.tmp rfl rfl) (fun hb10 => ?_) (fun hb10 => ?_)
  · rw [if_pos hb10] at hF
    refine K_region ?_
    refine C_val (V_assign (v := (.bool false)) (.bool _)) ?_
    refine C_nil ?_
    refine CW_ret ?_
    obtain rfl := Option.some.inj hF
    exact End_ret () (.tmp rfl rfl .nil) rfl (.sel .nil)
  rw [if_neg (by rw [hb10]; exact Bool.false_ne_true)] at hF
  refine CW_skip ?_
  refine K_in ?_
  refine K_region ?_
  refine C_val (V_fieldAddr (off := 3) fd159_2 (.tmp rfl rfl)) ?_
  refine C_at (.t .h) (fun hp => V_load (v := (.int .i64 a_a.At)) ag3 (.tmp rfl rfl) hp.2 rfl rfl) ?_
  refine C_val (V_fieldAddr (off := 3) fd159_2 (.tmp rfl rfl)) ?_
  refine C_at .h (fun hp => V_load (v := (.int .i64 a_b.At)) ag3 (.tmp rfl rfl) hp.2 rfl rfl) ?_
  refine C_val (V_neq (i := a_a.At) (j := a_b.At) (.tmp rfl rfl) (.tmp rfl rfl)) ?_
  refine C_nil ?_
  refine CW_cond (b := ((a_a.At : Int) != a_b.At)) (.tmp rfl rfl) (fun hb9 => ?_) (fun hb9 => ?_)
  · rw [if_pos hb9] at hF
    refine K_region ?_
    refine C_val (V_assign (v := (.bool false)) (.bool _)) ?_
    refine C_nil ?_
    refine CW_ret ?_
    obtain rfl := Option.some.inj hF
    exact End_ret () (.tmp rfl rfl .nil) rfl (.sel .nil)
  rw [if_neg (by rw [hb9]; exact Bool.false_ne_true)] at hF
  refine CW_skip ?_
  refine K_region ?_
  refine C_val (V_assign (v := (.bool true)) (.bool _)) ?_
  refine C_nil ?_
  refine CW_ret ?_
  obtain rfl := Option.some.inj hF
  exact End_ret () (.tmp rfl rfl .nil) rfl (.sel .nil)

/-! laws.eqStoredS -/
def l_eqStoredS_L1 (a_b : List Stored) : List Stored → Nat → Option (Bool)
  | [], k4 => some true
  | x6 :: rest5, k4 => (ix a_b (k4 : Int)).bind fun x16 =>
    (l_eqStored x6 x16).bind fun r23 =>
    if (!r23) then (
      some false)
    else (
      l_eqStoredS_L1 a_b rest5 (k4 + 1))
def l_eqStoredS (a_a : List Stored) (a_b : List Stored) : Option (Bool) :=
  if (((a_a.length : Int) : Int) != (a_b.length : Int)) then (
    some false)
  else (
    l_eqStoredS_L1 a_b a_a 0)
theorem l_eqStoredS_ok (a_a : List Stored) (v0_0 : Sv) (a_b : List Stored) (v1_0 : Sv) (R : Bool) (hF : l_eqStoredS a_a a_b = some R) :
    Fw.Spec Try.prog 117 [v0_0.v, v1_0.v] [crd (RdS 159 rd159) v0_0.v a_a, crd (RdS 159 rd159) v1_0.v a_b] (fun _ : Unit => (.bool R)) (fun _ => []) := by
  refine Spec_enter (n := 27) Try.func117 rfl rfl (rs := [.tmp 4]) rfl rfl rfl ?_
  intro H0 F0
  unfold l_eqStoredS at hF
  refine K_region ?_
  refine C_val (V_assign (v := (.bool false)) (.bool _)) ?_
  refine C_nil ?_
  refine K_in ?_
  refine K_region ?_
  refine C_val (V_move (v := v0_0.v) (.tmp rfl rfl)) ?_
  refine C_at .h (fun hp => V_lenR (l := a_a.length) sl50 (.tmp rfl rfl) (crd_len hp)) ?_
  refine C_val (V_move (v := v1_0.v) (.tmp rfl rfl)) ?_
  refine C_at (.t .h) (fun hp => V_lenR (l := a_b.length) sl50 (.tmp rfl rfl) (crd_len hp)) ?_
  refine C_val (V_neq (i := (a_a.length : Int)) (j := (a_b.length : Int)) (.tmp rfl rfl) (.tmp rfl rfl)) ?_
  refine C_nil ?_
  refine CW_cond (b := (((a_a.length : Int) : Int) != (a_b.length : Int))) (.tmp rfl rfl) (fun hb28 => ?_) (fun hb28 => ?_)
  · rw [if_pos hb28] at hF
    refine K_region ?_
    refine C_val (V_assign (v := (.bool false)) (.bool _)) ?_
    refine C_nil ?_
    refine CW_ret ?_
    obtain rfl := Option.some.inj hF
    exact End_ret () (.tmp rfl rfl .nil) rfl (.sel .nil)
  rw [if_neg (by rw [hb28]; exact Bool.false_ne_true)] at hF
  refine CW_skip ?_
  refine K_in ?_
  refine K_region ?_
  refine C_val (V_assign (v := (.int .i64 0)) (.int _ _)) ?_
  refine C_nil ?_
  refine CW_block ?_
  refine CW_loop (m := a_a.length) (fun m2 f' cs' => ∃ (g : Fr) (k4 : Nat) (rest5 : List Stored), m2 = rest5.length ∧ f' = updL g [(0, v0_0.v), (1, v1_0.v), (5, (.int .i64 (k4 : Int)))] ∧ List.drop k4 a_a = rest5 ∧ Ent cs' [crd (RdS 159 rd159) v0_0.v a_a, crd (RdS 159 rd159) v1_0.v a_b] ∧ l_eqStoredS_L1 a_b rest5 k4 = some R) ⟨_, 0, _, rfl, (EqL.cons rfl (EqL.cons rfl (EqL.cons rfl (EqL.nil)))).eq, rfl, (.sel (.rd .h rfl (.rd (.t .h) rfl .nil))), hF⟩ ?_
  clear hF
  rintro m2 _ _ ⟨g3, k4, rest5, rfl, rfl, hd7, hE, hF⟩
  refine K_ent hE ?_
  clear hE
  refine K_pure (c := crd (RdS 159 rd159) v0_0.v a_a) .h crd_bound (fun hbd12 => ?_)
  rcases rest5 with _ | ⟨x6, rest5⟩
  · have hk8 := List.drop_eq_nil_iff.1 hd7
    have hfe11 : (decide (((k4 : Int) : Int) < (a_a.length : Int))) = false := decide_eq_false (by omega)
    rw [l_eqStoredS_L1] at hF
    refine K_in ?_
    refine K_region ?_
    refine C_val (V_move (v := (.int .i64 (k4 : Int))) (.tmp rfl rfl)) ?_
    refine C_val (V_move (v := v0_0.v) (.tmp rfl rfl)) ?_
    refine C_at .h (fun hp => V_lenR (l := a_a.length) sl50 (.tmp rfl rfl) (crd_len hp)) ?_
    refine C_val (V_lss (i := (k4 : Int)) (j := (a_a.length : Int)) (.tmp rfl rfl) (.tmp rfl rfl)) ?_
    refine C_nil ?_
    refine CW_cond (b := (decide (((k4 : Int) : Int) < (a_a.length : Int)))) (.tmp rfl rfl) (fun hb => absurd (hfe11.symm.trans hb) (by decide)) (fun _ => ?_)
    refine CW_exit ?_
    refine CThen_exit ?_
    refine CThen_exit ?_
    refine CIn_self ?_
    refine K_region ?_
    refine C_val (V_assign (v := (.bool true)) (.bool _)) ?_
    refine C_nil ?_
    refine CW_ret ?_
    obtain rfl := Option.some.inj hF
    exact End_ret () (.tmp rfl rfl .nil) rfl (.sel .nil)
  obtain ⟨hk8, hx9, hd10⟩ := drop_cons hd7
  have hfe11 : (decide (((k4 : Int) : Int) < (a_a.length : Int))) = true := decide_eq_true (by omega)
  rw [l_eqStoredS_L1] at hF
  refine K_in ?_
  refine K_region ?_
  refine C_val (V_move (v := (.int .i64 (k4 : Int))) (.tmp rfl rfl)) ?_
  refine C_val (V_move (v := v0_0.v) (.tmp rfl rfl)) ?_
  refine C_at .h (fun hp => V_lenR (l := a_a.length) sl50 (.tmp rfl rfl) (crd_len hp)) ?_
  refine C_val (V_lss (i := (k4 : Int)) (j := (a_a.length : Int)) (.tmp rfl rfl) (.tmp rfl rfl)) ?_
  refine C_nil ?_
  refine CW_cond (b := (decide (((k4 : Int) : Int) < (a_a.length : Int)))) (.tmp rfl rfl) (fun _ => ?_) (fun hb => absurd (hfe11.symm.trans hb) (by decide))
  refine CW_skip ?_
  refine K_block ?_
  refine K_draw [0, 1, 2, 3, 4, 5, 6, 7, 8, 9] [0, 0, 3, 7, 0, 0, 48, 112, 255, 511] [8] mixed (by decide +kernel) ?_
  refine D_val rfl .no (fun ha => V_move (v := v0_0.v) (EN ha (.tmp rfl rfl) rfl)) ?_
  refine D_val rfl .no (fun ha => V_move (v := (.int .i64 (k4 : Int))) (EN ha (.tmp rfl rfl) rfl)) ?_
  refine D_idx (a := x6) sl50 ty159.sz rfl .no (.tmp rfl rfl) (.tmp rfl rfl) rfl rfl .h (Int.natCast_nonneg k4) hx9 (fun k13 j14 => ?_)
  refine D_ldA2 (ul159_0_159 x6) ag159 ty159.sz rfl rfl .no (.tmp rfl rfl) rfl .h la159_0_159 (fun p15 => ?_)
  refine D_val rfl .no (fun ha => V_move (v := v1_0.v) (EN ha (.tmp rfl rfl) rfl)) ?_
  refine D_val rfl .no (fun ha => V_move (v := (.int .i64 (k4 : Int))) (EN ha (.tmp rfl rfl) rfl)) ?_
  obtain ⟨x16, hx17, hF⟩ := bind_some hF
  obtain ⟨hp18, hx19⟩ := ix_some hx17
  refine D_idx (a := x16) sl50 ty159.sz rfl .no (.tmp rfl rfl) (.tmp rfl rfl) rfl rfl (.t (.t (.t (.t .h)))) hp18 hx19 (fun k20 j21 => ?_)
  refine D_ldA2 (ul159_0_159 x16) ag159 ty159.sz rfl rfl .no (.tmp rfl rfl) rfl .h la159_0_159 (fun p22 => ?_)
  obtain ⟨r23, hx24, hF⟩ := bind_some hF
  refine D_act0 rfl rfl .no (.rd (.t (.t (.t .h))) rfl (.rd (.t (.t (.t (.t .h)))) rfl (.rd .h rfl (.rd (.t .h) rfl .nil)))) .nil (fun ha => X_callS cf147 (.cons (EN ha (.tmp rfl rfl) rfl) (.cons (EN ha (.tmp rfl rfl) rfl) .nil)) (l_eqStored_ok x6 p15.1 p15.2 x16 p22.1 p22.2 _ hx24)) (fun _ => ?_)
  refine D_val rfl .no (fun ha => V_not (b := r23) (EN ha (.tmp rfl rfl) rfl)) ?_
  refine D_nil ?_
  refine CW_cond (b := (!r23)) (.tmp rfl rfl) (fun hb27 => ?_) (fun hb27 => ?_)
  · rw [if_pos hb27] at hF
    refine K_region ?_
    refine C_val (V_assign (v := (.bool false)) (.bool _)) ?_
    refine C_nil ?_
    refine CW_ret ?_
    obtain rfl := Option.some.inj hF
    exact End_ret () (.tmp rfl rfl .nil) rfl (.sel .nil)
  rw [if_neg (by rw [hb27]; exact Bool.false_ne_true)] at hF
  refine CW_skip ?_
  refine CW_region ?_
  refine C_val (V_move (v := (.int .i64 (k4 : Int))) (.tmp rfl rfl)) ?_
  refine C_val (V_add (i := (k4 : Int)) (j := 1) (.tmp rfl rfl) (.int _ _)) ?_
  refine C_val (V_assign (v := (.int .i64 (IntKind.i64.wrap ((k4 : Int) + 1)))) (.tmp rfl rfl)) ?_
  refine C_nil ?_
  have hw26 : IntKind.i64.wrap ((k4 : Int) + 1) = ((k4 + 1 : Nat) : Int) := by rw [wrap_in (by omega) (by omega)]; rfl
  rw [hw26]
  exact ⟨_, Nat.lt_succ_self _, _, k4 + 1, rest5, rfl, (EqL.cons rfl (EqL.cons rfl (EqL.cons rfl (EqL.nil)))).eq, hd10, (.sel (.rd (.t (.t (.t (.t (.t (.t .h)))))) rfl (.rd (.t (.t (.t (.t (.t (.t (.t .h))))))) rfl .nil))), hF⟩

/-! laws.eqCache -/
def l_eqCache (a_a : Cache) (a_b : Cache) : Option (Bool) :=
  (l_eqStoredS a_a.Entries a_b.Entries).bind fun r3 =>
  if (!r3) then (
    some false)
  else (
    if ((a_a.Age : Int) != a_b.Age) then (
      some false)
    else (
      some true))
theorem l_eqCache_ok (a_a : Cache) (v0_0 : Sv) (a_b : Cache) (v1_0 : Sv) (R : Bool) (hF : l_eqCache a_a a_b = some R) :
    Fw.Spec Try.prog 68 [(.agg [v0_0.v, (.int .i64 a_a.Age)].toArray), (.agg [v1_0.v, (.int .i64 a_b.Age)].toArray)] [crd (RdS 159 rd159) v0_0.v a_a.Entries, crd (RdS 159 rd159) v1_0.v a_b.Entries] (fun _ : Unit => (.bool R)) (fun _ => []) := by
  refine Spec_enter (n := 16) Try.func68 rfl rfl (rs := [.tmp 4]) rfl rfl rfl ?_
  intro H0 F0
  unfold l_eqCache at hF
  refine K_region ?_
  refine C_newR rfl (N_box (g := false) (v := (.agg [v0_0.v, (.int .i64 a_a.Age)].toArray)) ty52.sz (.tmp rfl rfl) rfl) (fun k1 => ?_)
  refine C_newR rfl (N_box (g := false) (v := (.agg [v1_0.v, (.int .i64 a_b.Age)].toArray)) ty52.sz (.tmp rfl rfl) rfl) (fun k2 => ?_)
  refine C_val (V_assign (v := (.bool false)) (.bool _)) ?_
  refine C_nil ?_
  refine K_in ?_
  refine K_region ?_
  refine C_val (V_fieldAddr (off := 0) fd52_0 (.tmp rfl rfl)) ?_
  refine C_at (.t .h) (fun hp => V_load (v := v0_0.v) ag50 (.tmp rfl rfl) hp.2 rfl rfl) ?_
  refine C_val (V_fieldAddr (off := 0) fd52_0 (.tmp rfl rfl)) ?_
  refine C_at .h (fun hp => V_load (v := v1_0.v) ag50 (.tmp rfl rfl) hp.2 rfl rfl) ?_
  obtain ⟨r3, hx4, hF⟩ := bind_some hF
  refine C_x0 (.rd (.t (.t .h)) rfl (.rd (.t (.t (.t .h))) rfl .nil)) (X_callS cf117 (.cons (.tmp rfl rfl) (.cons (.tmp rfl rfl) .nil)) (l_eqStoredS_ok a_a.Entries v0_0 a_b.Entries v1_0 _ hx4)) (fun _ => ?_)
  refine C_val (V_not (b := r3) (.tmp rfl rfl)) ?_
  refine C_nil ?_
  refine CW_cond (b := (!r3)) (.tmp rfl rfl) (fun hb7 => ?_) (fun hb7 => ?_)
  · rw [if_pos hb7] at hF
    refine K_region ?_
    refine C_val (V_assign (v := (.bool false)) (.bool _)) ?_
    refine C_nil ?_
    refine CW_ret ?_
    obtain rfl := Option.some.inj hF
    exact End_ret () (.tmp rfl rfl .nil) rfl (.sel .nil)
  rw [if_neg (by rw [hb7]; exact Bool.false_ne_true)] at hF
  refine CW_skip ?_
  refine K_in ?_
  refine K_region ?_
  refine C_val (V_fieldAddr (off := 1) fd52_1 (.tmp rfl rfl)) ?_
  refine C_at (.t .h) (fun hp => V_load (v := (.int .i64 a_a.Age)) ag3 (.tmp rfl rfl) hp.2 rfl rfl) ?_
  refine C_val (V_fieldAddr (off := 1) fd52_1 (.tmp rfl rfl)) ?_
  refine C_at .h (fun hp => V_load (v := (.int .i64 a_b.Age)) ag3 (.tmp rfl rfl) hp.2 rfl rfl) ?_
  refine C_val (V_neq (i := a_a.Age) (j := a_b.Age) (.tmp rfl rfl) (.tmp rfl rfl)) ?_
  refine C_nil ?_
  refine CW_cond (b := ((a_a.Age : Int) != a_b.Age)) (.tmp rfl rfl) (fun hb6 => ?_) (fun hb6 => ?_)
  · rw [if_pos hb6] at hF
    refine K_region ?_
    refine C_val (V_assign (v := (.bool false)) (.bool _)) ?_
    refine C_nil ?_
    refine CW_ret ?_
    obtain rfl := Option.some.inj hF
    exact End_ret () (.tmp rfl rfl .nil) rfl (.sel .nil)
  rw [if_neg (by rw [hb6]; exact Bool.false_ne_true)] at hF
  refine CW_skip ?_
  refine K_region ?_
  refine C_val (V_assign (v := (.bool true)) (.bool _)) ?_
  refine C_nil ?_
  refine CW_ret ?_
  obtain rfl := Option.some.inj hF
  exact End_ret () (.tmp rfl rfl .nil) rfl (.sel .nil)

/-! laws.eqAccessS -/
def l_eqAccessS_L1 (a_b : List Access) : List Access → Nat → Option (Bool)
  | [], k4 => some true
  | x6 :: rest5, k4 => (ix a_b (k4 : Int)).bind fun x16 =>
    (l_eqAccess x6 x16).bind fun r23 =>
    if (!r23) then (
      some false)
    else (
      l_eqAccessS_L1 a_b rest5 (k4 + 1))
def l_eqAccessS (a_a : List Access) (a_b : List Access) : Option (Bool) :=
  if (((a_a.length : Int) : Int) != (a_b.length : Int)) then (
    some false)
  else (
    l_eqAccessS_L1 a_b a_a 0)
theorem l_eqAccessS_ok (a_a : List Access) (v0_0 : Sv) (a_b : List Access) (v1_0 : Sv) (R : Bool) (hF : l_eqAccessS a_a a_b = some R) :
    Fw.Spec Try.prog 20 [v0_0.v, v1_0.v] [crd (RdS 100 rd100) v0_0.v a_a, crd (RdS 100 rd100) v1_0.v a_b] (fun _ : Unit => (.bool R)) (fun _ => []) := by
  refine Spec_enter (n := 27) Try.func20 rfl rfl (rs := [.tmp 4]) rfl rfl rfl ?_
  intro H0 F0
  unfold l_eqAccessS at hF
  refine K_region ?_
  refine C_val (V_assign (v := (.bool false)) (.bool _)) ?_
  refine C_nil ?_
  refine K_in ?_
  refine K_region ?_
  refine C_val (V_move (v := v0_0.v) (.tmp rfl rfl)) ?_
  refine C_at .h (fun hp => V_lenR (l := a_a.length) sl33 (.tmp rfl rfl) (crd_len hp)) ?_
  refine C_val (V_move (v := v1_0.v) (.tmp rfl rfl)) ?_
  refine C_at (.t .h) (fun hp => V_lenR (l := a_b.length) sl33 (.tmp rfl rfl) (crd_len hp)) ?_
  refine C_val (V_neq (i := (a_a.length : Int)) (j := (a_b.length : Int)) (.tmp rfl rfl) (.tmp rfl rfl)) ?_
  refine C_nil ?_
  refine CW_cond (b := (((a_a.length : Int) : Int) != (a_b.length : Int))) (.tmp rfl rfl) (fun hb28 => ?_) (fun hb28 => ?_)
  · rw [if_pos hb28] at hF
    refine K_region ?_
    refine C_val (V_assign (v := (.bool false)) (.bool _)) ?_
    refine C_nil ?_
    refine CW_ret ?_
    obtain rfl := Option.some.inj hF
    exact End_ret () (.tmp rfl rfl .nil) rfl (.sel .nil)
  rw [if_neg (by rw [hb28]; exact Bool.false_ne_true)] at hF
  refine CW_skip ?_
  refine K_in ?_
  refine K_region ?_
  refine C_val (V_assign (v := (.int .i64 0)) (.int _ _)) ?_
  refine C_nil ?_
  refine CW_block ?_
  refine CW_loop (m := a_a.length) (fun m2 f' cs' => ∃ (g : Fr) (k4 : Nat) (rest5 : List Access), m2 = rest5.length ∧ f' = updL g [(0, v0_0.v), (1, v1_0.v), (5, (.int .i64 (k4 : Int)))] ∧ List.drop k4 a_a = rest5 ∧ Ent cs' [crd (RdS 100 rd100) v0_0.v a_a, crd (RdS 100 rd100) v1_0.v a_b] ∧ l_eqAccessS_L1 a_b rest5 k4 = some R) ⟨_, 0, _, rfl, (EqL.cons rfl (EqL.cons rfl (EqL.cons rfl (EqL.nil)))).eq, rfl, (.sel (.rd .h rfl (.rd (.t .h) rfl .nil))), hF⟩ ?_
  clear hF
  rintro m2 _ _ ⟨g3, k4, rest5, rfl, rfl, hd7, hE, hF⟩
  refine K_ent hE ?_
  clear hE
  refine K_pure (c := crd (RdS 100 rd100) v0_0.v a_a) .h crd_bound (fun hbd12 => ?_)
  rcases rest5 with _ | ⟨x6, rest5⟩
  · have hk8 := List.drop_eq_nil_iff.1 hd7
    have hfe11 : (decide (((k4 : Int) : Int) < (a_a.length : Int))) = false := decide_eq_false (by omega)
    rw [l_eqAccessS_L1] at hF
    refine K_in ?_
    refine K_region ?_
    refine C_val (V_move (v := (.int .i64 (k4 : Int))) (.tmp rfl rfl)) ?_
    refine C_val (V_move (v := v0_0.v) (.tmp rfl rfl)) ?_
    refine C_at .h (fun hp => V_lenR (l := a_a.length) sl33 (.tmp rfl rfl) (crd_len hp)) ?_
    refine C_val (V_lss (i := (k4 : Int)) (j := (a_a.length : Int)) (.tmp rfl rfl) (.tmp rfl rfl)) ?_
    refine C_nil ?_
    refine CW_cond (b := (decide (((k4 : Int) : Int) < (a_a.length : Int)))) (.tmp rfl rfl) (fun hb => absurd (hfe11.symm.trans hb) (by decide)) (fun _ => ?_)
    refine CW_exit ?_
    refine CThen_exit ?_
    refine CThen_exit ?_
    refine CIn_self ?_
    refine K_region ?_
    refine C_val (V_assign (v := (.bool true)) (.bool _)) ?_
    refine C_nil ?_
    refine CW_ret ?_
    obtain rfl := Option.some.inj hF
    exact End_ret () (.tmp rfl rfl .nil) rfl (.sel .nil)
  obtain ⟨hk8, hx9, hd10⟩ := drop_cons hd7
  have hfe11 : (decide (((k4 : Int) : Int) < (a_a.length : Int))) = true := decide_eq_true (by omega)
  rw [l_eqAccessS_L1] at hF
  refine K_in ?_
  refine K_region ?_
  refine C_val (V_move (v := (.int .i64 (k4 : Int))) (.tmp rfl rfl)) ?_
  refine C_val (V_move (v := v0_0.v) (.tmp rfl rfl)) ?_
  refine C_at .h (fun hp => V_lenR (l := a_a.length) sl33 (.tmp rfl rfl) (crd_len hp)) ?_
  refine C_val (V_lss (i := (k4 : Int)) (j := (a_a.length : Int)) (.tmp rfl rfl) (.tmp rfl rfl)) ?_
  refine C_nil ?_
  refine CW_cond (b := (decide (((k4 : Int) : Int) < (a_a.length : Int)))) (.tmp rfl rfl) (fun _ => ?_) (fun hb => absurd (hfe11.symm.trans hb) (by decide))
  refine CW_skip ?_
  refine K_block ?_
  refine K_draw [0, 1, 2, 3, 4, 5, 6, 7, 8, 9] [0, 0, 3, 7, 0, 0, 48, 112, 255, 511] [8] mixed (by decide +kernel) ?_
  refine D_val rfl .no (fun ha => V_move (v := v0_0.v) (EN ha (.tmp rfl rfl) rfl)) ?_
  refine D_val rfl .no (fun ha => V_move (v := (.int .i64 (k4 : Int))) (EN ha (.tmp rfl rfl) rfl)) ?_
  refine D_idx (a := x6) sl33 ty100.sz rfl .no (.tmp rfl rfl) (.tmp rfl rfl) rfl rfl .h (Int.natCast_nonneg k4) hx9 (fun k13 j14 => ?_)
  refine D_ldA1 (ul100_0_100 x6) ag100 ty100.sz rfl rfl .no (.tmp rfl rfl) rfl .h la100_0_100 (fun p15 => ?_)
  refine D_val rfl .no (fun ha => V_move (v := v1_0.v) (EN ha (.tmp rfl rfl) rfl)) ?_
  refine D_val rfl .no (fun ha => V_move (v := (.int .i64 (k4 : Int))) (EN ha (.tmp rfl rfl) rfl)) ?_
  obtain ⟨x16, hx17, hF⟩ := bind_some hF
  obtain ⟨hp18, hx19⟩ := ix_some hx17
  refine D_idx (a := x16) sl33 ty100.sz rfl .no (.tmp rfl rfl) (.tmp rfl rfl) rfl rfl (.t (.t (.t .h))) hp18 hx19 (fun k20 j21 => ?_)
  refine D_ldA1 (ul100_0_100 x16) ag100 ty100.sz rfl rfl .no (.tmp rfl rfl) rfl .h la100_0_100 (fun p22 => ?_)
  obtain ⟨r23, hx24, hF⟩ := bind_some hF
  refine D_act0 rfl rfl .no (.rd (.t (.t .h)) rfl (.rd .h rfl .nil)) .nil (fun ha => X_callS cf59 (.cons (EN ha (.tmp rfl rfl) rfl) (.cons (EN ha (.tmp rfl rfl) rfl) .nil)) (l_eqAccess_ok x6 p15 x16 p22 _ hx24)) (fun _ => ?_)
  refine D_val rfl .no (fun ha => V_not (b := r23) (EN ha (.tmp rfl rfl) rfl)) ?_
  refine D_nil ?_
  refine CW_cond (b := (!r23)) (.tmp rfl rfl) (fun hb27 => ?_) (fun hb27 => ?_)
  · rw [if_pos hb27] at hF
    refine K_region ?_
    refine C_val (V_assign (v := (.bool false)) (.bool _)) ?_
    refine C_nil ?_
    refine CW_ret ?_
    obtain rfl := Option.some.inj hF
    exact End_ret () (.tmp rfl rfl .nil) rfl (.sel .nil)
  rw [if_neg (by rw [hb27]; exact Bool.false_ne_true)] at hF
  refine CW_skip ?_
  refine CW_region ?_
  refine C_val (V_move (v := (.int .i64 (k4 : Int))) (.tmp rfl rfl)) ?_
  refine C_val (V_add (i := (k4 : Int)) (j := 1) (.tmp rfl rfl) (.int _ _)) ?_
  refine C_val (V_assign (v := (.int .i64 (IntKind.i64.wrap ((k4 : Int) + 1)))) (.tmp rfl rfl)) ?_
  refine C_nil ?_
  have hw26 : IntKind.i64.wrap ((k4 : Int) + 1) = ((k4 + 1 : Nat) : Int) := by rw [wrap_in (by omega) (by omega)]; rfl
  rw [hw26]
  exact ⟨_, Nat.lt_succ_self _, _, k4 + 1, rest5, rfl, (EqL.cons rfl (EqL.cons rfl (EqL.cons rfl (EqL.nil)))).eq, hd10, (.sel (.rd (.t (.t (.t (.t .h)))) rfl (.rd (.t (.t (.t (.t (.t .h))))) rfl .nil))), hF⟩

/-! laws.eqIntSS -/
def l_eqIntSS_L1 (a_b : List (List Int)) : List (List Int) → Nat → Option (Bool)
  | [], k4 => some true
  | x6 :: rest5, k4 => (ix a_b (k4 : Int)).bind fun x16 =>
    (l_eqIntS x6 x16).bind fun r23 =>
    if (!r23) then (
      some false)
    else (
      l_eqIntSS_L1 a_b rest5 (k4 + 1))
def l_eqIntSS (a_a : List (List Int)) (a_b : List (List Int)) : Option (Bool) :=
  if (((a_a.length : Int) : Int) != (a_b.length : Int)) then (
    some false)
  else (
    l_eqIntSS_L1 a_b a_a 0)
theorem l_eqIntSS_ok (a_a : List (List Int)) (v0_0 : Sv) (a_b : List (List Int)) (v1_0 : Sv) (R : Bool) (hF : l_eqIntSS a_a a_b = some R) :
    Fw.Spec Try.prog 118 [v0_0.v, v1_0.v] [crd (RdS 45 (RdS 3 rdInt)) v0_0.v a_a, crd (RdS 45 (RdS 3 rdInt)) v1_0.v a_b] (fun _ : Unit => (.bool R)) (fun _ => []) := by
  refine Spec_enter (n := 27) Try.func118 rfl rfl (rs := [.tmp 4]) rfl rfl rfl ?_
  intro H0 F0
  unfold l_eqIntSS at hF
  refine K_region ?_
  refine C_val (V_assign (v := (.bool false)) (.bool _)) ?_
  refine C_nil ?_
  refine K_in ?_
  refine K_region ?_
  refine C_val (V_move (v := v0_0.v) (.tmp rfl rfl)) ?_
  refine C_at .h (fun hp => V_lenR (l := a_a.length) sl128 (.tmp rfl rfl) (crd_len hp)) ?_
  refine C_val (V_move (v := v1_0.v) (.tmp rfl rfl)) ?_
  refine C_at (.t .h) (fun hp => V_lenR (l := a_b.length) sl128 (.tmp rfl rfl) (crd_len hp)) ?_
  refine C_val (V_neq (i := (a_a.length : Int)) (j := (a_b.length : Int)) (.tmp rfl rfl) (.tmp rfl rfl)) ?_
  refine C_nil ?_
  refine CW_cond (b := (((a_a.length : Int) : Int) != (a_b.length : Int))) (.tmp rfl rfl) (fun hb28 => ?_) (fun hb28 => ?_)
  · rw [if_pos hb28] at hF
    refine K_region ?_
    refine C_val (V_assign (v := (.bool false)) (.bool _)) ?_
    refine C_nil ?_
    refine CW_ret ?_
    obtain rfl := Option.some.inj hF
    exact End_ret () (.tmp rfl rfl .nil) rfl (.sel .nil)
  rw [if_neg (by rw [hb28]; exact Bool.false_ne_true)] at hF
  refine CW_skip ?_
  refine K_in ?_
  refine K_region ?_
  refine C_val (V_assign (v := (.int .i64 0)) (.int _ _)) ?_
  refine C_nil ?_
  refine CW_block ?_
  refine CW_loop (m := a_a.length) (fun m2 f' cs' => ∃ (g : Fr) (k4 : Nat) (rest5 : List (List Int)), m2 = rest5.length ∧ f' = updL g [(0, v0_0.v), (1, v1_0.v), (5, (.int .i64 (k4 : Int)))] ∧ List.drop k4 a_a = rest5 ∧ Ent cs' [crd (RdS 45 (RdS 3 rdInt)) v0_0.v a_a, crd (RdS 45 (RdS 3 rdInt)) v1_0.v a_b] ∧ l_eqIntSS_L1 a_b rest5 k4 = some R) ⟨_, 0, _, rfl, (EqL.cons rfl (EqL.cons rfl (EqL.cons rfl (EqL.nil)))).eq, rfl, (.sel (.rd .h rfl (.rd (.t .h) rfl .nil))), hF⟩ ?_
  clear hF
  rintro m2 _ _ ⟨g3, k4, rest5, rfl, rfl, hd7, hE, hF⟩
  refine K_ent hE ?_
  clear hE
  refine K_pure (c := crd (RdS 45 (RdS 3 rdInt)) v0_0.v a_a) .h crd_bound (fun hbd12 => ?_)
  rcases rest5 with _ | ⟨x6, rest5⟩
  · have hk8 := List.drop_eq_nil_iff.1 hd7
    have hfe11 : (decide (((k4 : Int) : Int) < (a_a.length : Int))) = false := decide_eq_false (by omega)
    rw [l_eqIntSS_L1] at hF
    refine K_in ?_
    refine K_region ?_
    refine C_val (V_move (v := (.int .i64 (k4 : Int))) (.tmp rfl rfl)) ?_
    refine C_val (V_move (v := v0_0.v) (.tmp rfl rfl)) ?_
    refine C_at .h (fun hp => V_lenR (l := a_a.length) sl128 (.tmp rfl rfl) (crd_len hp)) ?_
    refine C_val (V_lss (i := (k4 : Int)) (j := (a_a.length : Int)) (.tmp rfl rfl) (.tmp rfl rfl)) ?_
    refine C_nil ?_
    refine CW_cond (b := (decide (((k4 : Int) : Int) < (a_a.length : Int)))) (.tmp rfl rfl) (fun hb => absurd (hfe11.symm.trans hb) (by decide)) (fun _ => ?_)
    refine CW_exit ?_
    refine CThen_exit ?_
    refine CThen_exit ?_
    refine CIn_self ?_
    refine K_region ?_
    refine C_val (V_assign (v := (.bool true)) (.bool _)) ?_
    refine C_nil ?_
    refine CW_ret ?_
    obtain rfl := Option.some.inj hF
    exact End_ret () (.tmp rfl rfl .nil) rfl (.sel .nil)
  obtain ⟨hk8, hx9, hd10⟩ := drop_cons hd7
  have hfe11 : (decide (((k4 : Int) : Int) < (a_a.length : Int))) = true := decide_eq_true (by omega)
  rw [l_eqIntSS_L1] at hF
  refine K_in ?_
  refine K_region ?_
  refine C_val (V_move (v := (.int .i64 (k4 : Int))) (.tmp rfl rfl)) ?_
  refine C_val (V_move (v := v0_0.v) (.tmp rfl rfl)) ?_
  refine C_at .h (fun hp => V_lenR (l := a_a.length) sl128 (.tmp rfl rfl) (crd_len hp)) ?_
  refine C_val (V_lss (i := (k4 : Int)) (j := (a_a.length : Int)) (.tmp rfl rfl) (.tmp rfl rfl)) ?_
  refine C_nil ?_
  refine CW_cond (b := (decide (((k4 : Int) : Int) < (a_a.length : Int)))) (.tmp rfl rfl) (fun _ => ?_) (fun hb => absurd (hfe11.symm.trans hb) (by decide))
  refine CW_skip ?_
  refine K_block ?_
  refine K_draw [0, 1, 2, 3, 4, 5, 6, 7, 8, 9] [0, 0, 3, 7, 0, 0, 48, 112, 255, 511] [8] mixed (by decide +kernel) ?_
  refine D_val rfl .no (fun ha => V_move (v := v0_0.v) (EN ha (.tmp rfl rfl) rfl)) ?_
  refine D_val rfl .no (fun ha => V_move (v := (.int .i64 (k4 : Int))) (EN ha (.tmp rfl rfl) rfl)) ?_
  refine D_idx (a := x6) sl128 ty45.sz rfl .no (.tmp rfl rfl) (.tmp rfl rfl) rfl rfl .h (Int.natCast_nonneg k4) hx9 (fun k13 j14 => ?_)
  refine D_ldV (R' := (RdS 3 rdInt)) ag45 rfl .no (.tmp rfl rfl) rfl .h lv45_0 (fun w15 => ?_)
  refine D_val rfl .no (fun ha => V_move (v := v1_0.v) (EN ha (.tmp rfl rfl) rfl)) ?_
  refine D_val rfl .no (fun ha => V_move (v := (.int .i64 (k4 : Int))) (EN ha (.tmp rfl rfl) rfl)) ?_
  obtain ⟨x16, hx17, hF⟩ := bind_some hF
  obtain ⟨hp18, hx19⟩ := ix_some hx17
  refine D_idx (a := x16) sl128 ty45.sz rfl .no (.tmp rfl rfl) (.tmp rfl rfl) rfl rfl (.t (.t (.t .h))) hp18 hx19 (fun k20 j21 => ?_)
  refine D_ldV (R' := (RdS 3 rdInt)) ag45 rfl .no (.tmp rfl rfl) rfl .h lv45_0 (fun w22 => ?_)
  obtain ⟨r23, hx24, hF⟩ := bind_some hF
  refine D_act0 rfl rfl .no (.rd (.t (.t .h)) rfl (.rd .h rfl .nil)) .nil (fun ha => X_callS cf31 (.cons (EN ha (.tmp rfl rfl) rfl) (.cons (EN ha (.tmp rfl rfl) rfl) .nil)) (l_eqIntS_ok x6 w15 x16 w22 _ hx24)) (fun _ => ?_)
  refine D_val rfl .no (fun ha => V_not (b := r23) (EN ha (.tmp rfl rfl) rfl)) ?_
  refine D_nil ?_
  refine CW_cond (b := (!r23)) (.tmp rfl rfl) (fun hb27 => ?_) (fun hb27 => ?_)
  · rw [if_pos hb27] at hF
    refine K_region ?_
    refine C_val (V_assign (v := (.bool false)) (.bool _)) ?_
    refine C_nil ?_
    refine CW_ret ?_
    obtain rfl := Option.some.inj hF
    exact End_ret () (.tmp rfl rfl .nil) rfl (.sel .nil)
  rw [if_neg (by rw [hb27]; exact Bool.false_ne_true)] at hF
  refine CW_skip ?_
  refine CW_region ?_
  refine C_val (V_move (v := (.int .i64 (k4 : Int))) (.tmp rfl rfl)) ?_
  refine C_val (V_add (i := (k4 : Int)) (j := 1) (.tmp rfl rfl) (.int _ _)) ?_
  refine C_val (V_assign (v := (.int .i64 (IntKind.i64.wrap ((k4 : Int) + 1)))) (.tmp rfl rfl)) ?_
  refine C_nil ?_
  have hw26 : IntKind.i64.wrap ((k4 : Int) + 1) = ((k4 + 1 : Nat) : Int) := by rw [wrap_in (by omega) (by omega)]; rfl
  rw [hw26]
  exact ⟨_, Nat.lt_succ_self _, _, k4 + 1, rest5, rfl, (EqL.cons rfl (EqL.cons rfl (EqL.cons rfl (EqL.nil)))).eq, hd10, (.sel (.rd (.t (.t (.t (.t .h)))) rfl (.rd (.t (.t (.t (.t (.t .h))))) rfl .nil))), hF⟩

/-! laws.eqIntSSS -/
def l_eqIntSSS_L1 (a_b : List (List (List Int))) : List (List (List Int)) → Nat → Option (Bool)
  | [], k4 => some true
  | x6 :: rest5, k4 => (ix a_b (k4 : Int)).bind fun x16 =>
    (l_eqIntSS x6 x16).bind fun r23 =>
    if (!r23) then (
      some false)
    else (
      l_eqIntSSS_L1 a_b rest5 (k4 + 1))
def l_eqIntSSS (a_a : List (List (List Int))) (a_b : List (List (List Int))) : Option (Bool) :=
  if (((a_a.length : Int) : Int) != (a_b.length : Int)) then (
    some false)
  else (
    l_eqIntSSS_L1 a_b a_a 0)
theorem l_eqIntSSS_ok (a_a : List (List (List Int))) (v0_0 : Sv) (a_b : List (List (List Int))) (v1_0 : Sv) (R : Bool) (hF : l_eqIntSSS a_a a_b = some R) :
    Fw.Spec Try.prog 69 [v0_0.v, v1_0.v] [crd (RdS 128 (RdS 45 (RdS 3 rdInt))) v0_0.v a_a, crd (RdS 128 (RdS 45 (RdS 3 rdInt))) v1_0.v a_b] (fun _ : Unit => (.bool R)) (fun _ => []) := by
  refine Spec_enter (n := 27) Try.func69 rfl rfl (rs := [.tmp 4]) rfl rfl rfl ?_
  intro H0 F0
  unfold l_eqIntSSS at hF
  refine K_region ?_
  refine C_val (V_assign (v := (.bool false)) (.bool _)) ?_
  refine C_nil ?_
  refine K_in ?_
  refine K_region ?_
  refine C_val (V_move (v := v0_0.v) (.tmp rfl rfl)) ?_
  refine C_at .h (fun hp => V_lenR (l := a_a.length) sl53 (.tmp rfl rfl) (crd_len hp)) ?_
  refine C_val (V_move (v := v1_0.v) (.tmp rfl rfl)) ?_
  refine C_at (.t .h) (fun hp => V_lenR (l := a_b.length) sl53 (.tmp rfl rfl) (crd_len hp)) ?_
  refine C_val (V_neq (i := (a_a.length : Int)) (j := (a_b.length : Int)) (.tmp rfl rfl) (.tmp rfl rfl)) ?_
  refine C_nil ?_
  refine CW_cond (b := (((a_a.length : Int) : Int) != (a_b.length : Int))) (.tmp rfl rfl) (fun hb28 => ?_) (fun hb28 => ?_)
  · rw [if_pos hb28] at hF
    refine K_region ?_
    refine C_val (V_assign (v := (.bool false)) (.bool _)) ?_
    refine C_nil ?_
    refine CW_ret ?_
    obtain rfl := Option.some.inj hF
    exact End_ret () (.tmp rfl rfl .nil) rfl (.sel .nil)
  rw [if_neg (by rw [hb28]; exact Bool.false_ne_true)] at hF
  refine CW_skip ?_
  refine K_in ?_
  refine K_region ?_
  refine C_val (V_assign (v := (.int .i64 0)) (.int _ _)) ?_
  refine C_nil ?_
  refine CW_block ?_
  refine CW_loop (m := a_a.length) (fun m2 f' cs' => ∃ (g : Fr) (k4 : Nat) (rest5 : List (List (List Int))), m2 = rest5.length ∧ f' = updL g [(0, v0_0.v), (1, v1_0.v), (5, (.int .i64 (k4 : Int)))] ∧ List.drop k4 a_a = rest5 ∧ Ent cs' [crd (RdS 128 (RdS 45 (RdS 3 rdInt))) v0_0.v a_a, crd (RdS 128 (RdS 45 (RdS 3 rdInt))) v1_0.v a_b] ∧ l_eqIntSSS_L1 a_b rest5 k4 = some R) ⟨_, 0, _, rfl, (EqL.cons rfl (EqL.cons rfl (EqL.cons rfl (EqL.nil)))).eq, rfl, (.sel (.rd .h rfl (.rd (.t .h) rfl .nil))), hF⟩ ?_
  clear hF
  rintro m2 _ _ ⟨g3, k4, rest5, rfl, rfl, hd7, hE, hF⟩
  refine K_ent hE ?_
  clear hE
  refine K_pure (c := crd (RdS 128 (RdS 45 (RdS 3 rdInt))) v0_0.v a_a) .h crd_bound (fun hbd12 => ?_)
  rcases rest5 with _ | ⟨x6, rest5⟩
  · have hk8 := List.drop_eq_nil_iff.1 hd7
    have hfe11 : (decide (((k4 : Int) : Int) < (a_a.length : Int))) = false := decide_eq_false (by omega)
    rw [l_eqIntSSS_L1] at hF
    refine K_in ?_
    refine K_region ?_
    refine C_val (V_move (v := (.int .i64 (k4 : Int))) (.tmp rfl rfl)) ?_
    refine C_val (V_move (v := v0_0.v) (.tmp rfl rfl)) ?_
    refine C_at .h (fun hp => V_lenR (l := a_a.length) sl53 (.tmp rfl rfl) (crd_len hp)) ?_
    refine C_val (V_lss (i := (k4 : Int)) (j := (a_a.length : Int)) (.tmp rfl rfl) (.tmp rfl rfl)) ?_
    refine C_nil ?_
    refine CW_cond (b := (decide (((k4 : Int) : Int) < (a_a.length : Int)))) (.tmp rfl rfl) (fun hb => absurd (hfe11.symm.trans hb) (by decide)) (fun _ => ?_)
    refine CW_exit ?_
    refine CThen_exit ?_
    refine CThen_exit ?_
    refine CIn_self ?_
    refine K_region ?_
    refine C_val (V_assign (v := (.bool true)) (.bool _)) ?_
    refine C_nil ?_
    refine CW_ret ?_
    obtain rfl := Option.some.inj hF
    exact End_ret () (.tmp rfl rfl .nil) rfl (.sel .nil)
  obtain ⟨hk8, hx9, hd10⟩ := drop_cons hd7
  have hfe11 : (decide (((k4 : Int) : Int) < (a_a.length : Int))) = true := decide_eq_true (by omega)
  rw [l_eqIntSSS_L1] at hF
  refine K_in ?_
  refine K_region ?_
  refine C_val (V_move (v := (.int .i64 (k4 : Int))) (.tmp rfl rfl)) ?_
  refine C_val (V_move (v := v0_0.v) (.tmp rfl rfl)) ?_
  refine C_at .h (fun hp => V_lenR (l := a_a.length) sl53 (.tmp rfl rfl) (crd_len hp)) ?_
  refine C_val (V_lss (i := (k4 : Int)) (j := (a_a.length : Int)) (.tmp rfl rfl) (.tmp rfl rfl)) ?_
  refine C_nil ?_
  refine CW_cond (b := (decide (((k4 : Int) : Int) < (a_a.length : Int)))) (.tmp rfl rfl) (fun _ => ?_) (fun hb => absurd (hfe11.symm.trans hb) (by decide))
  refine CW_skip ?_
  refine K_block ?_
  refine K_draw [0, 1, 2, 3, 4, 5, 6, 7, 8, 9] [0, 0, 3, 7, 0, 0, 48, 112, 255, 511] [8] mixed (by decide +kernel) ?_
  refine D_val rfl .no (fun ha => V_move (v := v0_0.v) (EN ha (.tmp rfl rfl) rfl)) ?_
  refine D_val rfl .no (fun ha => V_move (v := (.int .i64 (k4 : Int))) (EN ha (.tmp rfl rfl) rfl)) ?_
  refine D_idx (a := x6) sl53 ty128.sz rfl .no (.tmp rfl rfl) (.tmp rfl rfl) rfl rfl .h (Int.natCast_nonneg k4) hx9 (fun k13 j14 => ?_)
  refine D_ldV (R' := (RdS 45 (RdS 3 rdInt))) ag128 rfl .no (.tmp rfl rfl) rfl .h lv128_0 (fun w15 => ?_)
  refine D_val rfl .no (fun ha => V_move (v := v1_0.v) (EN ha (.tmp rfl rfl) rfl)) ?_
  refine D_val rfl .no (fun ha => V_move (v := (.int .i64 (k4 : Int))) (EN ha (.tmp rfl rfl) rfl)) ?_
  obtain ⟨x16, hx17, hF⟩ := bind_some hF
  obtain ⟨hp18, hx19⟩ := ix_some hx17
  refine D_idx (a := x16) sl53 ty128.sz rfl .no (.tmp rfl rfl) (.tmp rfl rfl) rfl rfl (.t (.t (.t .h))) hp18 hx19 (fun k20 j21 => ?_)
  refine D_ldV (R' := (RdS 45 (RdS 3 rdInt))) ag128 rfl .no (.tmp rfl rfl) rfl .h lv128_0 (fun w22 => ?_)
  obtain ⟨r23, hx24, hF⟩ := bind_some hF
  refine D_act0 rfl rfl .no (.rd (.t (.t .h)) rfl (.rd .h rfl .nil)) .nil (fun ha => X_callS cf118 (.cons (EN ha (.tmp rfl rfl) rfl) (.cons (EN ha (.tmp rfl rfl) rfl) .nil)) (l_eqIntSS_ok x6 w15 x16 w22 _ hx24)) (fun _ => ?_)
  refine D_val rfl .no (fun ha => V_not (b := r23) (EN ha (.tmp rfl rfl) rfl)) ?_
  refine D_nil ?_
  refine CW_cond (b := (!r23)) (.tmp rfl rfl) (fun hb27 => ?_) (fun hb27 => ?_)
  · rw [if_pos hb27] at hF
    refine K_region ?_
    refine C_val (V_assign (v := (.bool false)) (.bool _)) ?_
    refine C_nil ?_
    refine CW_ret ?_
    obtain rfl := Option.some.inj hF
    exact End_ret () (.tmp rfl rfl .nil) rfl (.sel .nil)
  rw [if_neg (by rw [hb27]; exact Bool.false_ne_true)] at hF
  refine CW_skip ?_
  refine CW_region ?_
  refine C_val (V_move (v := (.int .i64 (k4 : Int))) (.tmp rfl rfl)) ?_
  refine C_val (V_add (i := (k4 : Int)) (j := 1) (.tmp rfl rfl) (.int _ _)) ?_
  refine C_val (V_assign (v := (.int .i64 (IntKind.i64.wrap ((k4 : Int) + 1)))) (.tmp rfl rfl)) ?_
  refine C_nil ?_
  have hw26 : IntKind.i64.wrap ((k4 : Int) + 1) = ((k4 + 1 : Nat) : Int) := by rw [wrap_in (by omega) (by omega)]; rfl
  rw [hw26]
  exact ⟨_, Nat.lt_succ_self _, _, k4 + 1, rest5, rfl, (EqL.cons rfl (EqL.cons rfl (EqL.cons rfl (EqL.nil)))).eq, hd10, (.sel (.rd (.t (.t (.t (.t .h)))) rfl (.rd (.t (.t (.t (.t (.t .h))))) rfl .nil))), hF⟩

/-! laws.eqMediator -/
def l_eqMediator (a_a : Mediator) (a_b : Mediator) : Option (Bool) :=
  (l_eqIntS a_a.Schema a_b.Schema).bind fun r3 =>
  if (!r3) then (
    some false)
  else (
    (l_eqMethodS a_a.Methods a_b.Methods).bind fun r6 =>
    if (!r6) then (
      some false)
    else (
      (l_eqRuleS a_a.Rules a_b.Rules).bind fun r9 =>
      if (!r9) then (
        some false)
      else (
        (l_eqSource a_a.Source a_b.Source).bind fun r12 =>
        if (!r12) then (
          some false)
        else (
          (l_eqCache a_a.Cache a_b.Cache).bind fun r15 =>
          if (!r15) then (
            some false)
          else (
            if ((a_a.Now : Int) != a_b.Now) then (
              some false)
            else (
              (l_eqAccessS a_a.Log a_b.Log).bind fun r18 =>
              if (!r18) then (
                some false)
              else (
                (l_eqIntS a_a.Times a_b.Times).bind fun r21 =>
                if (!r21) then (
                  some false)
                else (
                  if ((a_a.Spent : Int) != a_b.Spent) then (
                    some false)
                  else (
                    (l_eqIntSSS a_a.Results a_b.Results).bind fun r24 =>
                    if (!r24) then (
                      some false)
                    else (
                      some true))))))))))
theorem l_eqMediator_ok (a_a : Mediator) (v0_0 : Sv) (v0_1 : Sv) (v0_2 : Sv) (v0_3 : Sv) (v0_5 : Sv) (v0_8 : Sv) (v0_9 : Sv) (v0_11 : Sv) (a_b : Mediator) (v1_0 : Sv) (v1_1 : Sv) (v1_2 : Sv) (v1_3 : Sv) (v1_5 : Sv) (v1_8 : Sv) (v1_9 : Sv) (v1_11 : Sv) (R : Bool) (hF : l_eqMediator a_a a_b = some R) :
    Fw.Spec Try.prog 30 [(.agg [v0_0.v, v0_1.v, v0_2.v, v0_3.v, (.int .i64 a_a.Source.Version), v0_5.v, (.int .i64 a_a.Cache.Age), (.int .i64 a_a.Now), v0_8.v, v0_9.v, (.int .i64 a_a.Spent), v0_11.v].toArray), (.agg [v1_0.v, v1_1.v, v1_2.v, v1_3.v, (.int .i64 a_b.Source.Version), v1_5.v, (.int .i64 a_b.Cache.Age), (.int .i64 a_b.Now), v1_8.v, v1_9.v, (.int .i64 a_b.Spent), v1_11.v].toArray)] [crd (RdS 3 rdInt) v0_0.v a_a.Schema, crd (RdS 101 rd101) v0_1.v a_a.Methods, crd (RdS 126 rd126) v0_2.v a_a.Rules, crd (RdS 157 rd157) v0_3.v a_a.Source.Facts, crd (RdS 159 rd159) v0_5.v a_a.Cache.Entries, crd (RdS 100 rd100) v0_8.v a_a.Log, crd (RdS 3 rdInt) v0_9.v a_a.Times, crd (RdS 128 (RdS 45 (RdS 3 rdInt))) v0_11.v a_a.Results, crd (RdS 3 rdInt) v1_0.v a_b.Schema, crd (RdS 101 rd101) v1_1.v a_b.Methods, crd (RdS 126 rd126) v1_2.v a_b.Rules, crd (RdS 157 rd157) v1_3.v a_b.Source.Facts, crd (RdS 159 rd159) v1_5.v a_b.Cache.Entries, crd (RdS 100 rd100) v1_8.v a_b.Log, crd (RdS 3 rdInt) v1_9.v a_b.Times, crd (RdS 128 (RdS 45 (RdS 3 rdInt))) v1_11.v a_b.Results] (fun _ : Unit => (.bool R)) (fun _ => []) := by
  refine Spec_enter (n := 63) Try.func30 rfl rfl (rs := [.tmp 4]) rfl rfl rfl ?_
  intro H0 F0
  unfold l_eqMediator at hF
  refine K_region ?_
  refine C_newR rfl (N_box (g := false) (v := (.agg [v0_0.v, v0_1.v, v0_2.v, v0_3.v, (.int .i64 a_a.Source.Version), v0_5.v, (.int .i64 a_a.Cache.Age), (.int .i64 a_a.Now), v0_8.v, v0_9.v, (.int .i64 a_a.Spent), v0_11.v].toArray)) ty55.sz (.tmp rfl rfl) rfl) (fun k1 => ?_)
  refine C_newR rfl (N_box (g := false) (v := (.agg [v1_0.v, v1_1.v, v1_2.v, v1_3.v, (.int .i64 a_b.Source.Version), v1_5.v, (.int .i64 a_b.Cache.Age), (.int .i64 a_b.Now), v1_8.v, v1_9.v, (.int .i64 a_b.Spent), v1_11.v].toArray)) ty55.sz (.tmp rfl rfl) rfl) (fun k2 => ?_)
  refine C_val (V_assign (v := (.bool false)) (.bool _)) ?_
  refine C_nil ?_
  refine K_in ?_
  refine K_region ?_
  refine C_val (V_fieldAddr (off := 0) fd55_0 (.tmp rfl rfl)) ?_
  refine C_at (.t .h) (fun hp => V_load (v := v0_0.v) ag45 (.tmp rfl rfl) hp.2 rfl rfl) ?_
  refine C_val (V_fieldAddr (off := 0) fd55_0 (.tmp rfl rfl)) ?_
  refine C_at .h (fun hp => V_load (v := v1_0.v) ag45 (.tmp rfl rfl) hp.2 rfl rfl) ?_
  obtain ⟨r3, hx4, hF⟩ := bind_some hF
  refine C_x0 (.rd (.t (.t .h)) rfl (.rd (.t (.t (.t (.t (.t (.t (.t (.t (.t (.t .h)))))))))) rfl .nil)) (X_callS cf31 (.cons (.tmp rfl rfl) (.cons (.tmp rfl rfl) .nil)) (l_eqIntS_ok a_a.Schema v0_0 a_b.Schema v1_0 _ hx4)) (fun _ => ?_)
  refine C_val (V_not (b := r3) (.tmp rfl rfl)) ?_
  refine C_nil ?_
  refine CW_cond (b := (!r3)) (.tmp rfl rfl) (fun hb36 => ?_) (fun hb36 => ?_)
  · rw [if_pos hb36] at hF
    refine K_region ?_
    refine C_val (V_assign (v := (.bool false)) (.bool _)) ?_
    refine C_nil ?_
    refine CW_ret ?_
    obtain rfl := Option.some.inj hF
    exact End_ret () (.tmp rfl rfl .nil) rfl (.sel .nil)
  rw [if_neg (by rw [hb36]; exact Bool.false_ne_true)] at hF
  refine CW_skip ?_
  refine K_in ?_
  refine K_region ?_
  refine C_val (V_fieldAddr (off := 1) fd55_1 (.tmp rfl rfl)) ?_
  refine C_at (.t .h) (fun hp => V_load (v := v0_1.v) ag35 (.tmp rfl rfl) hp.2 rfl rfl) ?_
  refine C_val (V_fieldAddr (off := 1) fd55_1 (.tmp rfl rfl)) ?_
  refine C_at .h (fun hp => V_load (v := v1_1.v) ag35 (.tmp rfl rfl) hp.2 rfl rfl) ?_
  obtain ⟨r6, hx7, hF⟩ := bind_some hF
  refine C_x0 (.rd (.t (.t (.t .h))) rfl (.rd (.t (.t (.t (.t (.t (.t (.t (.t (.t (.t (.t .h))))))))))) rfl .nil)) (X_callS cf21 (.cons (.tmp rfl rfl) (.cons (.tmp rfl rfl) .nil)) (l_eqMethodS_ok a_a.Methods v0_1 a_b.Methods v1_1 _ hx7)) (fun _ => ?_)
  refine C_val (V_not (b := r6) (.tmp rfl rfl)) ?_
  refine C_nil ?_
  refine CW_cond (b := (!r6)) (.tmp rfl rfl) (fun hb35 => ?_) (fun hb35 => ?_)
  · rw [if_pos hb35] at hF
    refine K_region ?_
    refine C_val (V_assign (v := (.bool false)) (.bool _)) ?_
    refine C_nil ?_
    refine CW_ret ?_
    obtain rfl := Option.some.inj hF
    exact End_ret () (.tmp rfl rfl .nil) rfl (.sel .nil)
  rw [if_neg (by rw [hb35]; exact Bool.false_ne_true)] at hF
  refine CW_skip ?_
  refine K_in ?_
  refine K_region ?_
  refine C_val (V_fieldAddr (off := 2) fd55_2 (.tmp rfl rfl)) ?_
  refine C_at (.t .h) (fun hp => V_load (v := v0_2.v) ag46 (.tmp rfl rfl) hp.2 rfl rfl) ?_
  refine C_val (V_fieldAddr (off := 2) fd55_2 (.tmp rfl rfl)) ?_
  refine C_at .h (fun hp => V_load (v := v1_2.v) ag46 (.tmp rfl rfl) hp.2 rfl rfl) ?_
  obtain ⟨r9, hx10, hF⟩ := bind_some hF
  refine C_x0 (.rd (.t (.t (.t (.t .h)))) rfl (.rd (.t (.t (.t (.t (.t (.t (.t (.t (.t (.t (.t (.t .h)))))))))))) rfl .nil)) (X_callS cf66 (.cons (.tmp rfl rfl) (.cons (.tmp rfl rfl) .nil)) (l_eqRuleS_ok a_a.Rules v0_2 a_b.Rules v1_2 _ hx10)) (fun _ => ?_)
  refine C_val (V_not (b := r9) (.tmp rfl rfl)) ?_
  refine C_nil ?_
  refine CW_cond (b := (!r9)) (.tmp rfl rfl) (fun hb34 => ?_) (fun hb34 => ?_)
  · rw [if_pos hb34] at hF
    refine K_region ?_
    refine C_val (V_assign (v := (.bool false)) (.bool _)) ?_
    refine C_nil ?_
    refine CW_ret ?_
    obtain rfl := Option.some.inj hF
    exact End_ret () (.tmp rfl rfl .nil) rfl (.sel .nil)
  rw [if_neg (by rw [hb34]; exact Bool.false_ne_true)] at hF
  refine CW_skip ?_
  refine K_in ?_
  refine K_region ?_
  refine C_val (V_fieldAddr (off := 3) fd55_3 (.tmp rfl rfl)) ?_
  refine C_at (.t .h) (fun hp => V_loadA (s := 2) (l := [v0_3.v, (.int .i64 a_a.Source.Version)]) ag49 ty49.sz (.tmp rfl rfl) hp.2 rfl (by decide) (Nat.le_of_ble_eq_true rfl) rfl) ?_
  refine C_val (V_fieldAddr (off := 3) fd55_3 (.tmp rfl rfl)) ?_
  refine C_at .h (fun hp => V_loadA (s := 2) (l := [v1_3.v, (.int .i64 a_b.Source.Version)]) ag49 ty49.sz (.tmp rfl rfl) hp.2 rfl (by decide) (Nat.le_of_ble_eq_true rfl) rfl) ?_
  obtain ⟨r12, hx13, hF⟩ := bind_some hF
  refine C_x0 (.rd (.t (.t (.t (.t (.t .h))))) rfl (.rd (.t (.t (.t (.t (.t (.t (.t (.t (.t (.t (.t (.t (.t .h))))))))))))) rfl .nil)) (X_callS cf67 (.cons (.tmp rfl rfl) (.cons (.tmp rfl rfl) .nil)) (l_eqSource_ok a_a.Source v0_3 a_b.Source v1_3 _ hx13)) (fun _ => ?_)
  refine C_val (V_not (b := r12) (.tmp rfl rfl)) ?_
  refine C_nil ?_
  refine CW_cond (b := (!r12)) (.tmp rfl rfl) (fun hb33 => ?_) (fun hb33 => ?_)
  · rw [if_pos hb33] at hF
    refine K_region ?_
    refine C_val (V_assign (v := (.bool false)) (.bool _)) ?_
    refine C_nil ?_
    refine CW_ret ?_
    obtain rfl := Option.some.inj hF
    exact End_ret () (.tmp rfl rfl .nil) rfl (.sel .nil)
  rw [if_neg (by rw [hb33]; exact Bool.false_ne_true)] at hF
  refine CW_skip ?_
  refine K_in ?_
  refine K_region ?_
  refine C_val (V_fieldAddr (off := 5) fd55_4 (.tmp rfl rfl)) ?_
  refine C_at (.t .h) (fun hp => V_loadA (s := 2) (l := [v0_5.v, (.int .i64 a_a.Cache.Age)]) ag52 ty52.sz (.tmp rfl rfl) hp.2 rfl (by decide) (Nat.le_of_ble_eq_true rfl) rfl) ?_
  refine C_val (V_fieldAddr (off := 5) fd55_4 (.tmp rfl rfl)) ?_
  refine C_at .h (fun hp => V_loadA (s := 2) (l := [v1_5.v, (.int .i64 a_b.Cache.Age)]) ag52 ty52.sz (.tmp rfl rfl) hp.2 rfl (by decide) (Nat.le_of_ble_eq_true rfl) rfl) ?_
  obtain ⟨r15, hx16, hF⟩ := bind_some hF
  refine C_x0 (.rd (.t (.t (.t (.t (.t (.t .h)))))) rfl (.rd (.t (.t (.t (.t (.t (.t (.t (.t (.t (.t (.t (.t (.t (.t .h)))))))))))))) rfl .nil)) (X_callS cf68 (.cons (.tmp rfl rfl) (.cons (.tmp rfl rfl) .nil)) (l_eqCache_ok a_a.Cache v0_5 a_b.Cache v1_5 _ hx16)) (fun _ => ?_)
  refine C_val (V_not (b := r15) (.tmp rfl rfl)) ?_
  refine C_nil ?_
  refine CW_cond (b := (!r15)) (.tmp rfl rfl) (fun hb32 => ?_) (fun hb32 => ?_)
  · rw [if_pos hb32] at hF
    refine K_region ?_
    refine C_val (V_assign (v := (.bool false)) (.bool _)) ?_
    refine C_nil ?_
    refine CW_ret ?_
    obtain rfl := Option.some.inj hF
    exact End_ret () (.tmp rfl rfl .nil) rfl (.sel .nil)
  rw [if_neg (by rw [hb32]; exact Bool.false_ne_true)] at hF
  refine CW_skip ?_
  refine K_in ?_
  refine K_region ?_
  refine C_val (V_fieldAddr (off := 7) fd55_5 (.tmp rfl rfl)) ?_
  refine C_at (.t .h) (fun hp => V_load (v := (.int .i64 a_a.Now)) ag3 (.tmp rfl rfl) hp.2 rfl rfl) ?_
  refine C_val (V_fieldAddr (off := 7) fd55_5 (.tmp rfl rfl)) ?_
  refine C_at .h (fun hp => V_load (v := (.int .i64 a_b.Now)) ag3 (.tmp rfl rfl) hp.2 rfl rfl) ?_
  refine C_val (V_neq (i := a_a.Now) (j := a_b.Now) (.tmp rfl rfl) (.tmp rfl rfl)) ?_
  refine C_nil ?_
  refine CW_cond (b := ((a_a.Now : Int) != a_b.Now)) (.tmp rfl rfl) (fun hb31 => ?_) (fun hb31 => ?_)
  · rw [if_pos hb31] at hF
    refine K_region ?_
    refine C_val (V_assign (v := (.bool false)) (.bool _)) ?_
    refine C_nil ?_
    refine CW_ret ?_
    obtain rfl := Option.some.inj hF
    exact End_ret () (.tmp rfl rfl .nil) rfl (.sel .nil)
  rw [if_neg (by rw [hb31]; exact Bool.false_ne_true)] at hF
  refine CW_skip ?_
  refine K_in ?_
  refine K_region ?_
  refine C_val (V_fieldAddr (off := 8) fd55_6 (.tmp rfl rfl)) ?_
  refine C_at (.t .h) (fun hp => V_load (v := v0_8.v) ag33 (.tmp rfl rfl) hp.2 rfl rfl) ?_
  refine C_val (V_fieldAddr (off := 8) fd55_6 (.tmp rfl rfl)) ?_
  refine C_at .h (fun hp => V_load (v := v1_8.v) ag33 (.tmp rfl rfl) hp.2 rfl rfl) ?_
  obtain ⟨r18, hx19, hF⟩ := bind_some hF
  refine C_x0 (.rd (.t (.t (.t (.t (.t (.t (.t .h))))))) rfl (.rd (.t (.t (.t (.t (.t (.t (.t (.t (.t (.t (.t (.t (.t (.t (.t .h))))))))))))))) rfl .nil)) (X_callS cf20 (.cons (.tmp rfl rfl) (.cons (.tmp rfl rfl) .nil)) (l_eqAccessS_ok a_a.Log v0_8 a_b.Log v1_8 _ hx19)) (fun _ => ?_)
  refine C_val (V_not (b := r18) (.tmp rfl rfl)) ?_
  refine C_nil ?_
  refine CW_cond (b := (!r18)) (.tmp rfl rfl) (fun hb30 => ?_) (fun hb30 => ?_)
  · rw [if_pos hb30] at hF
    refine K_region ?_
    refine C_val (V_assign (v := (.bool false)) (.bool _)) ?_
    refine C_nil ?_
    refine CW_ret ?_
    obtain rfl := Option.some.inj hF
    exact End_ret () (.tmp rfl rfl .nil) rfl (.sel .nil)
  rw [if_neg (by rw [hb30]; exact Bool.false_ne_true)] at hF
  refine CW_skip ?_
  refine K_in ?_
  refine K_region ?_
  refine C_val (V_fieldAddr (off := 9) fd55_7 (.tmp rfl rfl)) ?_
  refine C_at (.t .h) (fun hp => V_load (v := v0_9.v) ag45 (.tmp rfl rfl) hp.2 rfl rfl) ?_
  refine C_val (V_fieldAddr (off := 9) fd55_7 (.tmp rfl rfl)) ?_
  refine C_at .h (fun hp => V_load (v := v1_9.v) ag45 (.tmp rfl rfl) hp.2 rfl rfl) ?_
  obtain ⟨r21, hx22, hF⟩ := bind_some hF
  refine C_x0 (.rd (.t (.t (.t (.t (.t (.t (.t (.t .h)))))))) rfl (.rd (.t (.t (.t (.t (.t (.t (.t (.t (.t (.t (.t (.t (.t (.t (.t (.t .h)))))))))))))))) rfl .nil)) (X_callS cf31 (.cons (.tmp rfl rfl) (.cons (.tmp rfl rfl) .nil)) (l_eqIntS_ok a_a.Times v0_9 a_b.Times v1_9 _ hx22)) (fun _ => ?_)
  refine C_val (V_not (b := r21) (.tmp rfl rfl)) ?_
  refine C_nil ?_
  refine CW_cond (b := (!r21)) (.tmp rfl rfl) (fun hb29 => ?_) (fun hb29 => ?_)
  · rw [if_pos hb29] at hF
    refine K_region ?_
    refine C_val (V_assign (v := (.bool false)) (.bool _)) ?_
    refine C_nil ?_
    refine CW_ret ?_
    obtain rfl := Option.some.inj hF
    exact End_ret () (.tmp rfl rfl .nil) rfl (.sel .nil)
  rw [if_neg (by rw [hb29]; exact Bool.false_ne_true)] at hF
  refine CW_skip ?_
  refine K_in ?_
  refine K_region ?_
  refine C_val (V_fieldAddr (off := 10) fd55_8 (.tmp rfl rfl)) ?_
  refine C_at (.t .h) (fun hp => V_load (v := (.int .i64 a_a.Spent)) ag3 (.tmp rfl rfl) hp.2 rfl rfl) ?_
  refine C_val (V_fieldAddr (off := 10) fd55_8 (.tmp rfl rfl)) ?_
  refine C_at .h (fun hp => V_load (v := (.int .i64 a_b.Spent)) ag3 (.tmp rfl rfl) hp.2 rfl rfl) ?_
  refine C_val (V_neq (i := a_a.Spent) (j := a_b.Spent) (.tmp rfl rfl) (.tmp rfl rfl)) ?_
  refine C_nil ?_
  refine CW_cond (b := ((a_a.Spent : Int) != a_b.Spent)) (.tmp rfl rfl) (fun hb28 => ?_) (fun hb28 => ?_)
  · rw [if_pos hb28] at hF
    refine K_region ?_
    refine C_val (V_assign (v := (.bool false)) (.bool _)) ?_
    refine C_nil ?_
    refine CW_ret ?_
    obtain rfl := Option.some.inj hF
    exact End_ret () (.tmp rfl rfl .nil) rfl (.sel .nil)
  rw [if_neg (by rw [hb28]; exact Bool.false_ne_true)] at hF
  refine CW_skip ?_
  refine K_in ?_
  refine K_region ?_
  refine C_val (V_fieldAddr (off := 11) fd55_9 (.tmp rfl rfl)) ?_
  refine C_at (.t .h) (fun hp => V_load (v := v0_11.v) ag53 (.tmp rfl rfl) hp.2 rfl rfl) ?_
  refine C_val (V_fieldAddr (off := 11) fd55_9 (.tmp rfl rfl)) ?_
  refine C_at .h (fun hp => V_load (v := v1_11.v) ag53 (.tmp rfl rfl) hp.2 rfl rfl) ?_
  obtain ⟨r24, hx25, hF⟩ := bind_some hF
  refine C_x0 (.rd (.t (.t (.t (.t (.t (.t (.t (.t (.t .h))))))))) rfl (.rd (.t (.t (.t (.t (.t (.t (.t (.t (.t (.t (.t (.t (.t (.t (.t (.t (.t .h))))))))))))))))) rfl .nil)) (X_callS cf69 (.cons (.tmp rfl rfl) (.cons (.tmp rfl rfl) .nil)) (l_eqIntSSS_ok a_a.Results v0_11 a_b.Results v1_11 _ hx25)) (fun _ => ?_)
  refine C_val (V_not (b := r24) (.tmp rfl rfl)) ?_
  refine C_nil ?_
  refine CW_cond (b := (!r24)) (.tmp rfl rfl) (fun hb27 => ?_) (fun hb27 => ?_)
  · rw [if_pos hb27] at hF
    refine K_region ?_
    refine C_val (V_assign (v := (.bool false)) (.bool _)) ?_
    refine C_nil ?_
    refine CW_ret ?_
    obtain rfl := Option.some.inj hF
    exact End_ret () (.tmp rfl rfl .nil) rfl (.sel .nil)
  rw [if_neg (by rw [hb27]; exact Bool.false_ne_true)] at hF
  refine CW_skip ?_
  refine K_region ?_
  refine C_val (V_assign (v := (.bool true)) (.bool _)) ?_
  refine C_nil ?_
  refine CW_ret ?_
  obtain rfl := Option.some.inj hF
  exact End_ret () (.tmp rfl rfl .nil) rfl (.sel .nil)

/-! laws.FnExactEqualMediators -/
def l_FnExactEqualMediators (a_aA : Mediator) (a_aB : Mediator) : Option (Bool) :=
  (l_szMediator a_aA 1048576).bind fun r3 =>
  if (decide ((r3 : Int) < 0)) then (
    some true)
  else (
    (l_szMediator a_aB r3).bind fun r6 =>
    if (decide ((r6 : Int) < 0)) then (
      some true)
    else (
      (l_toMediator a_aA).bind fun r9 =>
      (l_toMediator a_aB).bind fun r12 =>
      (s_EqualMediators r9 r12).bind fun r15 =>
      (l_toMediator a_aA).bind fun r18 =>
      (l_toMediator a_aB).bind fun r22 =>
      (i_EqualMediators r18 r22).bind fun r26 =>
      if (!(r26 == r15)) then (
        some false)
      else (
        (l_toMediator a_aA).bind fun r29 =>
        (l_eqMediator r18 r29).bind fun r32 =>
        if (!r32) then (
          some false)
        else (
          (l_toMediator a_aB).bind fun r35 =>
          (l_eqMediator r22 r35).bind fun r38 =>
          if (!r38) then (
            some false)
          else (
            some true)))))
theorem l_FnExactEqualMediators_ok (a_aA : Mediator) (v0_0 : Sv) (v0_1 : Sv) (v0_2 : Sv) (v0_3 : Sv) (v0_5 : Sv) (v0_8 : Sv) (v0_9 : Sv) (v0_11 : Sv) (a_aB : Mediator) (v1_0 : Sv) (v1_1 : Sv) (v1_2 : Sv) (v1_3 : Sv) (v1_5 : Sv) (v1_8 : Sv) (v1_9 : Sv) (v1_11 : Sv) (R : Bool) (hF : l_FnExactEqualMediators a_aA a_aB = some R) :
    Fw.Spec Try.prog 8 [(.agg [v0_0.v, v0_1.v, v0_2.v, v0_3.v, (.int .i64 a_aA.Source.Version), v0_5.v, (.int .i64 a_aA.Cache.Age), (.int .i64 a_aA.Now), v0_8.v, v0_9.v, (.int .i64 a_aA.Spent), v0_11.v].toArray), (.agg [v1_0.v, v1_1.v, v1_2.v, v1_3.v, (.int .i64 a_aB.Source.Version), v1_5.v, (.int .i64 a_aB.Cache.Age), (.int .i64 a_aB.Now), v1_8.v, v1_9.v, (.int .i64 a_aB.Spent), v1_11.v].toArray)] [crd (RdS 3 rdInt) v0_0.v a_aA.Schema, crd (RdS 95 rd95) v0_1.v a_aA.Methods, crd (RdS 152 rd152) v0_2.v a_aA.Rules, crd (RdS 188 rd188) v0_3.v a_aA.Source.Facts, crd (RdS 191 rd191) v0_5.v a_aA.Cache.Entries, crd (RdS 98 rd98) v0_8.v a_aA.Log, crd (RdS 3 rdInt) v0_9.v a_aA.Times, crd (RdS 128 (RdS 45 (RdS 3 rdInt))) v0_11.v a_aA.Results, crd (RdS 3 rdInt) v1_0.v a_aB.Schema, crd (RdS 95 rd95) v1_1.v a_aB.Methods, crd (RdS 152 rd152) v1_2.v a_aB.Rules, crd (RdS 188 rd188) v1_3.v a_aB.Source.Facts, crd (RdS 191 rd191) v1_5.v a_aB.Cache.Entries, crd (RdS 98 rd98) v1_8.v a_aB.Log, crd (RdS 3 rdInt) v1_9.v a_aB.Times, crd (RdS 128 (RdS 45 (RdS 3 rdInt))) v1_11.v a_aB.Results] (fun _ : Unit => (.bool R)) (fun _ => []) := by
  refine Spec_enter (n := 45) Try.func8 rfl rfl (rs := [.tmp 4]) rfl rfl rfl ?_
  intro H0 F0
  unfold l_FnExactEqualMediators at hF
  refine K_region ?_
  refine C_newR rfl (N_box (g := false) (v := (.agg [v0_0.v, v0_1.v, v0_2.v, v0_3.v, (.int .i64 a_aA.Source.Version), v0_5.v, (.int .i64 a_aA.Cache.Age), (.int .i64 a_aA.Now), v0_8.v, v0_9.v, (.int .i64 a_aA.Spent), v0_11.v].toArray)) ty73.sz (.tmp rfl rfl) rfl) (fun k1 => ?_)
  refine C_newR rfl (N_box (g := false) (v := (.agg [v1_0.v, v1_1.v, v1_2.v, v1_3.v, (.int .i64 a_aB.Source.Version), v1_5.v, (.int .i64 a_aB.Cache.Age), (.int .i64 a_aB.Now), v1_8.v, v1_9.v, (.int .i64 a_aB.Spent), v1_11.v].toArray)) ty73.sz (.tmp rfl rfl) rfl) (fun k2 => ?_)
  refine C_val (V_assign (v := (.bool false)) (.bool _)) ?_
  refine C_nil ?_
  refine K_region ?_
  refine C_val (V_assign (v := (.int .i64 1048576)) (.int _ _)) ?_
  refine C_nil ?_
  refine K_region ?_
  refine C_at (.t .h) (fun hp => V_loadBox ag73 ty73.sz rfl (.tmp rfl rfl) hp.2 rfl) ?_
  refine C_val (V_move (v := (.int .i64 1048576)) (.tmp rfl rfl)) ?_
  obtain ⟨r3, hx4, hF⟩ := bind_some hF
  refine C_x0 (.rd (.t (.t .h)) rfl (.rd (.t (.t (.t .h))) rfl (.rd (.t (.t (.t (.t .h)))) rfl (.rd (.t (.t (.t (.t (.t .h))))) rfl (.rd (.t (.t (.t (.t (.t (.t .h)))))) rfl (.rd (.t (.t (.t (.t (.t (.t (.t .h))))))) rfl (.rd (.t (.t (.t (.t (.t (.t (.t (.t .h)))))))) rfl (.rd (.t (.t (.t (.t (.t (.t (.t (.t (.t .h))))))))) rfl .nil)))))))) (X_callS cf38 (.cons (.tmp rfl rfl) (.cons (.tmp rfl rfl) .nil)) (l_szMediator_ok a_aA v0_0 v0_1 v0_2 v0_3 v0_5 v0_8 v0_9 v0_11 1048576 _ hx4)) (fun _ => ?_)
  refine C_val (V_assign (v := (.int .i64 r3)) (.tmp rfl rfl)) ?_
  refine C_nil ?_
  refine K_in ?_
  refine K_region ?_
  refine C_val (V_move (v := (.int .i64 r3)) (.tmp rfl rfl)) ?_
  refine C_val (V_lss (i := r3) (j := 0) (.tmp rfl rfl) (.int _ _)) ?_
  refine C_nil ?_
  refine CW_cond (b := (decide ((r3 : Int) < 0))) (.tmp rfl rfl) (fun hb45 => ?_) (fun hb45 => ?_)
  · rw [if_pos hb45] at hF
    refine K_region ?_
    refine C_val (V_assign (v := (.bool true)) (.bool _)) ?_
    refine C_nil ?_
    refine CW_ret ?_
    obtain rfl := Option.some.inj hF
    exact End_ret () (.tmp rfl rfl .nil) rfl (.sel .nil)
  rw [if_neg (by rw [hb45]; exact Bool.false_ne_true)] at hF
  refine CW_skip ?_
  refine K_region ?_
  refine C_at .h (fun hp => V_loadBox ag73 ty73.sz rfl (.tmp rfl rfl) hp.2 rfl) ?_
  refine C_val (V_move (v := (.int .i64 r3)) (.tmp rfl rfl)) ?_
  obtain ⟨r6, hx7, hF⟩ := bind_some hF
  refine C_x0 (.rd (.t (.t (.t (.t (.t (.t (.t (.t (.t (.t .h)))))))))) rfl (.rd (.t (.t (.t (.t (.t (.t (.t (.t (.t (.t (.t .h))))))))))) rfl (.rd (.t (.t (.t (.t (.t (.t (.t (.t (.t (.t (.t (.t .h)))))))))))) rfl (.rd (.t (.t (.t (.t (.t (.t (.t (.t (.t (.t (.t (.t (.t .h))))))))))))) rfl (.rd (.t (.t (.t (.t (.t (.t (.t (.t (.t (.t (.t (.t (.t (.t .h)))))))))))))) rfl (.rd (.t (.t (.t (.t (.t (.t (.t (.t (.t (.t (.t (.t (.t (.t (.t .h))))))))))))))) rfl (.rd (.t (.t (.t (.t (.t (.t (.t (.t (.t (.t (.t (.t (.t (.t (.t (.t .h)))))))))))))))) rfl (.rd (.t (.t (.t (.t (.t (.t (.t (.t (.t (.t (.t (.t (.t (.t (.t (.t (.t .h))))))))))))))))) rfl .nil)))))))) (X_callS cf38 (.cons (.tmp rfl rfl) (.cons (.tmp rfl rfl) .nil)) (l_szMediator_ok a_aB v1_0 v1_1 v1_2 v1_3 v1_5 v1_8 v1_9 v1_11 r3 _ hx7)) (fun _ => ?_)
  refine C_val (V_assign (v := (.int .i64 r6)) (.tmp rfl rfl)) ?_
  refine C_nil ?_
  refine K_in ?_
  refine K_region ?_
  refine C_val (V_move (v := (.int .i64 r6)) (.tmp rfl rfl)) ?_
  refine C_val (V_lss (i := r6) (j := 0) (.tmp rfl rfl) (.int _ _)) ?_
  refine C_nil ?_
  refine CW_cond (b := (decide ((r6 : Int) < 0))) (.tmp rfl rfl) (fun hb44 => ?_) (fun hb44 => ?_)
  · rw [if_pos hb44] at hF
    refine K_region ?_
    refine C_val (V_assign (v := (.bool true)) (.bool _)) ?_
    refine C_nil ?_
    refine CW_ret ?_
    obtain rfl := Option.some.inj hF
    exact End_ret () (.tmp rfl rfl .nil) rfl (.sel .nil)
  rw [if_neg (by rw [hb44]; exact Bool.false_ne_true)] at hF
  refine CW_skip ?_
  refine K_draw [0, 2, 1, 3, 4, 5] [0, 1, 0, 7, 15, 31] [1, 3, 4] mixed (by decide +kernel) ?_
  refine D_at rfl .no (.t .h) rfl (fun ha hp => V_loadBox ag73 ty73.sz rfl (EN ha (.tmp rfl rfl) rfl) hp.2 rfl) ?_
  refine D_at rfl .no .h rfl (fun ha hp => V_loadBox ag73 ty73.sz rfl (EN ha (.tmp rfl rfl) rfl) hp.2 rfl) ?_
  obtain ⟨r9, hx10, hF⟩ := bind_some hF
  refine D_act8 rfl rfl .no (.rd (.t (.t .h)) rfl (.rd (.t (.t (.t .h))) rfl (.rd (.t (.t (.t (.t .h)))) rfl (.rd (.t (.t (.t (.t (.t .h))))) rfl (.rd (.t (.t (.t (.t (.t (.t .h)))))) rfl (.rd (.t (.t (.t (.t (.t (.t (.t .h))))))) rfl (.rd (.t (.t (.t (.t (.t (.t (.t (.t .h)))))))) rfl (.rd (.t (.t (.t (.t (.t (.t (.t (.t (.t .h))))))))) rfl .nil)))))))) .nil (fun ha => X_callS cf40 (.cons (EN ha (.tmp rfl rfl) rfl) .nil) (l_toMediator_ok a_aA v0_0 v0_1 v0_2 v0_3 v0_5 v0_8 v0_9 v0_11 _ hx10)) (fun p11 => ?_)
  obtain ⟨r12, hx13, hF⟩ := bind_some hF
  refine D_act8 rfl rfl .no (.rd (.t (.t (.t (.t (.t (.t (.t (.t (.t (.t (.t (.t (.t (.t (.t (.t (.t (.t .h)))))))))))))))))) rfl (.rd (.t (.t (.t (.t (.t (.t (.t (.t (.t (.t (.t (.t (.t (.t (.t (.t (.t (.t (.t .h))))))))))))))))))) rfl (.rd (.t (.t (.t (.t (.t (.t (.t (.t (.t (.t (.t (.t (.t (.t (.t (.t (.t (.t (.t (.t .h)))))))))))))))))))) rfl (.rd (.t (.t (.t (.t (.t (.t (.t (.t (.t (.t (.t (.t (.t (.t (.t (.t (.t (.t (.t (.t (.t .h))))))))))))))))))))) rfl (.rd (.t (.t (.t (.t (.t (.t (.t (.t (.t (.t (.t (.t (.t (.t (.t (.t (.t (.t (.t (.t (.t (.t .h)))))))))))))))))))))) rfl (.rd (.t (.t (.t (.t (.t (.t (.t (.t (.t (.t (.t (.t (.t (.t (.t (.t (.t (.t (.t (.t (.t (.t (.t .h))))))))))))))))))))))) rfl (.rd (.t (.t (.t (.t (.t (.t (.t (.t (.t (.t (.t (.t (.t (.t (.t (.t (.t (.t (.t (.t (.t (.t (.t (.t .h)))))))))))))))))))))))) rfl (.rd (.t (.t (.t (.t (.t (.t (.t (.t (.t (.t (.t (.t (.t (.t (.t (.t (.t (.t (.t (.t (.t (.t (.t (.t (.t .h))))))))))))))))))))))))) rfl .nil)))))))) .nil (fun ha => X_callS cf40 (.cons (EN ha (.tmp rfl rfl) rfl) .nil) (l_toMediator_ok a_aB v1_0 v1_1 v1_2 v1_3 v1_5 v1_8 v1_9 v1_11 _ hx13)) (fun p14 => ?_)
  obtain ⟨r15, hx16, hF⟩ := bind_some hF
  refine D_act16 rfl rfl .no (.cons (.t (.t (.t (.t (.t (.t (.t .h))))))) (.cons (.t (.t (.t (.t (.t (.t .h)))))) (.cons (.t (.t (.t (.t (.t .h))))) (.cons (.t (.t (.t (.t .h)))) (.cons (.t (.t (.t .h))) (.cons (.t (.t .h)) (.cons (.t .h) (.cons .h (.cons (.t (.t (.t (.t (.t (.t (.t .h))))))) (.cons (.t (.t (.t (.t (.t (.t .h)))))) (.cons (.t (.t (.t (.t (.t .h))))) (.cons (.t (.t (.t (.t .h)))) (.cons (.t (.t (.t .h))) (.cons (.t (.t .h)) (.cons (.t .h) (.cons .h .nil)))))))))))))))) .nil (fun ha => XC_borL (pre := []) (.cons frz_own (.cons frz_own (.cons frz_own (.cons frz_own (.cons frz_own (.cons frz_own (.cons frz_own (.cons frz_own (.cons frz_own (.cons frz_own (.cons frz_own (.cons frz_own (.cons frz_own (.cons frz_own (.cons frz_own (.cons frz_own .nil)))))))))))))))) (fun _ => .nil) (X_callS cf39 (.cons (EN ha (.tmp rfl rfl) rfl) (.cons (EN ha (.tmp rfl rfl) rfl) .nil)) (s_EqualMediators_ok r9 p11.1 p11.2.2.1 p11.2.2.2.2.1 p11.2.2.2.2.2.2.1 p11.2.2.2.2.2.2.2.2.1 p11.2.2.2.2.2.2.2.2.2.2.1 p11.2.2.2.2.2.2.2.2.2.2.2.2.1 p11.2.2.2.2.2.2.2.2.2.2.2.2.2.2.1 r12 p14.1 p14.2.2.1 p14.2.2.2.2.1 p14.2.2.2.2.2.2.1 p14.2.2.2.2.2.2.2.2.1 p14.2.2.2.2.2.2.2.2.2.2.1 p14.2.2.2.2.2.2.2.2.2.2.2.2.1 p14.2.2.2.2.2.2.2.2.2.2.2.2.2.2.1 _ hx16))) (fun _ => ?_)
  refine D_val rfl .no (fun ha => V_assign (v := (.bool r15)) (EN ha (.tmp rfl rfl) rfl)) ?_
  refine D_nil ?_
  refine K_region ?_
  refine C_at (.t (.t (.t (.t (.t (.t (.t (.t (.t (.t (.t (.t (.t (.t (.t (.t (.t .h))))))))))))))))) (fun hp => V_loadBox ag73 ty73.sz rfl (.tmp rfl rfl) hp.2 rfl) ?_
  obtain ⟨r18, hx19, hF⟩ := bind_some hF
  refine C_x8 (.rd (.t (.t (.t (.t (.t (.t (.t (.t (.t (.t (.t (.t (.t (.t (.t (.t (.t (.t .h)))))))))))))))))) rfl (.rd (.t (.t (.t (.t (.t (.t (.t (.t (.t (.t (.t (.t (.t (.t (.t (.t (.t (.t (.t .h))))))))))))))))))) rfl (.rd (.t (.t (.t (.t (.t (.t (.t (.t (.t (.t (.t (.t (.t (.t (.t (.t (.t (.t (.t (.t .h)))))))))))))))))))) rfl (.rd (.t (.t (.t (.t (.t (.t (.t (.t (.t (.t (.t (.t (.t (.t (.t (.t (.t (.t (.t (.t (.t .h))))))))))))))))))))) rfl (.rd (.t (.t (.t (.t (.t (.t (.t (.t (.t (.t (.t (.t (.t (.t (.t (.t (.t (.t (.t (.t (.t (.t .h)))))))))))))))))))))) rfl (.rd (.t (.t (.t (.t (.t (.t (.t (.t (.t (.t (.t (.t (.t (.t (.t (.t (.t (.t (.t (.t (.t (.t (.t .h))))))))))))))))))))))) rfl (.rd (.t (.t (.t (.t (.t (.t (.t (.t (.t (.t (.t (.t (.t (.t (.t (.t (.t (.t (.t (.t (.t (.t (.t (.t .h)))))))))))))))))))))))) rfl (.rd (.t (.t (.t (.t (.t (.t (.t (.t (.t (.t (.t (.t (.t (.t (.t (.t (.t (.t (.t (.t (.t (.t (.t (.t (.t .h))))))))))))))))))))))))) rfl .nil)))))))) (X_callS cf40 (.cons (.tmp rfl rfl) .nil) (l_toMediator_ok a_aA v0_0 v0_1 v0_2 v0_3 v0_5 v0_8 v0_9 v0_11 _ hx19)) (fun p20 => ?_)
  refine C_new rfl (N_allocT (g := true) ty55 rfl rfl) (fun k21 => ?_)
  refine C_x1 (.cons .h .nil) (X_storeB (e := (.agg [(.slice none 0 0), (.slice none 0 0), (.slice none 0 0), (.slice none 0 0), (.int .i64 0), (.slice none 0 0), (.int .i64 0), (.int .i64 0), (.slice none 0 0), (.slice none 0 0), (.int .i64 0), (.slice none 0 0)].toArray)) (e' := (.agg [p20.1.v, p20.2.2.1.v, p20.2.2.2.2.1.v, p20.2.2.2.2.2.2.1.v, (.int .i64 r18.Source.Version), p20.2.2.2.2.2.2.2.2.1.v, (.int .i64 r18.Cache.Age), (.int .i64 r18.Now), p20.2.2.2.2.2.2.2.2.2.2.1.v, p20.2.2.2.2.2.2.2.2.2.2.2.2.1.v, (.int .i64 r18.Spent), p20.2.2.2.2.2.2.2.2.2.2.2.2.2.2.1.v].toArray)) (v := (.agg [p20.1.v, p20.2.2.1.v, p20.2.2.2.2.1.v, p20.2.2.2.2.2.2.1.v, (.int .i64 r18.Source.Version), p20.2.2.2.2.2.2.2.2.1.v, (.int .i64 r18.Cache.Age), (.int .i64 r18.Now), p20.2.2.2.2.2.2.2.2.2.2.1.v, p20.2.2.2.2.2.2.2.2.2.2.2.2.1.v, (.int .i64 r18.Spent), p20.2.2.2.2.2.2.2.2.2.2.2.2.2.2.1.v].toArray)) ty55.sz (.tmp rfl rfl) (.tmp rfl rfl) rfl rfl rfl rfl rfl) (fun _ => ?_)
  refine C_nil ?_
  refine K_region ?_
  refine C_at (.t (.t (.t (.t (.t (.t (.t (.t (.t (.t (.t (.t (.t (.t (.t (.t (.t (.t (.t (.t (.t (.t (.t (.t (.t .h))))))))))))))))))))))))) (fun hp => V_loadBox ag73 ty73.sz rfl (.tmp rfl rfl) hp.2 rfl) ?_
  obtain ⟨r22, hx23, hF⟩ := bind_some hF
  refine C_x8 (.rd (.t (.t (.t (.t (.t (.t (.t (.t (.t (.t (.t (.t (.t (.t (.t (.t (.t (.t (.t (.t (.t (.t (.t (.t (.t (.t (.t (.t (.t (.t (.t (.t (.t (.t (.t .h))))))))))))))))))))))))))))))))))) rfl (.rd (.t (.t (.t (.t (.t (.t (.t (.t (.t (.t (.t (.t (.t (.t (.t (.t (.t (.t (.t (.t (.t (.t (.t (.t (.t (.t (.t (.t (.t (.t (.t (.t (.t (.t (.t (.t .h)))))))))))))))))))))))))))))))))))) rfl (.rd (.t (.t (.t (.t (.t (.t (.t (.t (.t (.t (.t (.t (.t (.t (.t (.t (.t (.t (.t (.t (.t (.t (.t (.t (.t (.t (.t (.t (.t (.t (.t (.t (.t (.t (.t (.t (.t .h))))))))))))))))))))))))))))))))))))) rfl (.rd (.t (.t (.t (.t (.t (.t (.t (.t (.t (.t (.t (.t (.t (.t (.t (.t (.t (.t (.t (.t (.t (.t (.t (.t (.t (.t (.t (.t (.t (.t (.t (.t (.t (.t (.t (.t (.t (.t .h)))))))))))))))))))))))))))))))))))))) rfl (.rd (.t (.t (.t (.t (.t (.t (.t (.t (.t (.t (.t (.t (.t (.t (.t (.t (.t (.t (.t (.t (.t (.t (.t (.t (.t (.t (.t (.t (.t (.t (.t (.t (.t (.t (.t (.t (.t (.t (.t .h))))))))))))))))))))))))))))))))))))))) rfl (.rd (.t (.t (.t (.t (.t (.t (.t (.t (.t (.t (.t (.t (.t (.t (.t (.t (.t (.t (.t (.t (.t (.t (.t (.t (.t (.t (.t (.t (.t (.t (.t (.t (.t (.t (.t (.t (.t (.t (.t (.t .h)))))))))))))))))))))))))))))))))))))))) rfl (.rd (.t (.t (.t (.t (.t (.t (.t (.t (.t (.t (.t (.t (.t (.t (.t (.t (.t (.t (.t (.t (.t (.t (.t (.t (.t (.t (.t (.t (.t (.t (.t (.t (.t (.t (.t (.t (.t (.t (.t (.t (.t .h))))))))))))))))))))))))))))))))))))))))) rfl (.rd (.t (.t (.t (.t (.t (.t (.t (.t (.t (.t (.t (.t (.t (.t (.t (.t (.t (.t (.t (.t (.t (.t (.t (.t (.t (.t (.t (.t (.t (.t (.t (.t (.t (.t (.t (.t (.t (.t (.t (.t (.t (.t .h)))))))))))))))))))))))))))))))))))))))))) rfl .nil)))))))) (X_callS cf40 (.cons (.tmp rfl rfl) .nil) (l_toMediator_ok a_aB v1_0 v1_1 v1_2 v1_3 v1_5 v1_8 v1_9 v1_11 _ hx23)) (fun p24 => ?_)
  refine C_new rfl (N_allocT (g := true) ty55 rfl rfl) (fun k25 => ?_)
  refine C_x1 (.cons .h .nil) (X_storeB (e := (.agg [(.slice none 0 0), (.slice none 0 0), (.slice none 0 0), (.slice none 0 0), (.int .i64 0), (.slice none 0 0), (.int .i64 0), (.int .i64 0), (.slice none 0 0), (.slice none 0 0), (.int .i64 0), (.slice none 0 0)].toArray)) (e' := (.agg [p24.1.v, p24.2.2.1.v, p24.2.2.2.2.1.v, p24.2.2.2.2.2.2.1.v, (.int .i64 r22.Source.Version), p24.2.2.2.2.2.2.2.2.1.v, (.int .i64 r22.Cache.Age), (.int .i64 r22.Now), p24.2.2.2.2.2.2.2.2.2.2.1.v, p24.2.2.2.2.2.2.2.2.2.2.2.2.1.v, (.int .i64 r22.Spent), p24.2.2.2.2.2.2.2.2.2.2.2.2.2.2.1.v].toArray)) (v := (.agg [p24.1.v, p24.2.2.1.v, p24.2.2.2.2.1.v, p24.2.2.2.2.2.2.1.v, (.int .i64 r22.Source.Version), p24.2.2.2.2.2.2.2.2.1.v, (.int .i64 r22.Cache.Age), (.int .i64 r22.Now), p24.2.2.2.2.2.2.2.2.2.2.1.v, p24.2.2.2.2.2.2.2.2.2.2.2.2.1.v, (.int .i64 r22.Spent), p24.2.2.2.2.2.2.2.2.2.2.2.2.2.2.1.v].toArray)) ty55.sz (.tmp rfl rfl) (.tmp rfl rfl) rfl rfl rfl rfl rfl) (fun _ => ?_)
  refine C_nil ?_
  refine K_region ?_
  refine C_at (.t (.t (.t (.t (.t (.t (.t (.t (.t .h))))))))) (fun hp => V_loadBox ag55 ty55.sz rfl (.tmp rfl rfl) hp.2 rfl) ?_
  refine C_at .h (fun hp => V_loadBox ag55 ty55.sz rfl (.tmp rfl rfl) hp.2 rfl) ?_
  obtain ⟨r26, hx27, hF⟩ := bind_some hF
  refine C_x16 (.cons (.t (.t (.t (.t (.t (.t (.t (.t .h)))))))) (.cons (.t (.t (.t (.t (.t (.t (.t .h))))))) (.cons (.t (.t (.t (.t (.t (.t .h)))))) (.cons (.t (.t (.t (.t (.t .h))))) (.cons (.t (.t (.t (.t .h)))) (.cons (.t (.t (.t .h))) (.cons (.t (.t .h)) (.cons (.t .h) (.cons (.t (.t (.t (.t (.t (.t (.t (.t (.t .h))))))))) (.cons (.t (.t (.t (.t (.t (.t (.t (.t .h)))))))) (.cons (.t (.t (.t (.t (.t (.t (.t .h))))))) (.cons (.t (.t (.t (.t (.t (.t .h)))))) (.cons (.t (.t (.t (.t (.t .h))))) (.cons (.t (.t (.t (.t .h)))) (.cons (.t (.t (.t .h))) (.cons (.t (.t .h)) .nil)))))))))))))))) (XC_borL (pre := []) (.cons frz_own (.cons frz_own (.cons frz_own (.cons frz_own (.cons frz_own (.cons frz_own (.cons frz_own (.cons frz_own (.cons frz_own (.cons frz_own (.cons frz_own (.cons frz_own (.cons frz_own (.cons frz_own (.cons frz_own (.cons frz_own .nil)))))))))))))))) (fun _ => .nil) (X_callS cf41 (.cons (.tmp rfl rfl) (.cons (.tmp rfl rfl) .nil)) (i_EqualMediators_ok r18 p20.1 p20.2.2.1 p20.2.2.2.2.1 p20.2.2.2.2.2.2.1 p20.2.2.2.2.2.2.2.2.1 p20.2.2.2.2.2.2.2.2.2.2.1 p20.2.2.2.2.2.2.2.2.2.2.2.2.1 p20.2.2.2.2.2.2.2.2.2.2.2.2.2.2.1 r22 p24.1 p24.2.2.1 p24.2.2.2.2.1 p24.2.2.2.2.2.2.1 p24.2.2.2.2.2.2.2.2.1 p24.2.2.2.2.2.2.2.2.2.2.1 p24.2.2.2.2.2.2.2.2.2.2.2.2.1 p24.2.2.2.2.2.2.2.2.2.2.2.2.2.2.1 _ hx27))) (fun _ => ?_)
  refine C_val (V_assign (v := (.bool r26)) (.tmp rfl rfl)) ?_
  refine C_nil ?_
  refine K_in ?_
  refine K_region ?_
  refine C_val (V_move (v := (.bool r26)) (.tmp rfl rfl)) ?_
  refine C_val (V_move (v := (.bool r15)) (.tmp rfl rfl)) ?_
  refine C_val (V_neB (a := r26) (b := r15) Try.underlying4 (.tmp rfl rfl) (.tmp rfl rfl)) ?_
  refine C_nil ?_
  refine CW_cond (b := (!(r26 == r15))) (.tmp rfl rfl) (fun hb43 => ?_) (fun hb43 => ?_)
  · rw [if_pos hb43] at hF
    refine K_region ?_
    refine C_val (V_assign (v := (.bool false)) (.bool _)) ?_
    refine C_nil ?_
    refine CW_ret ?_
    obtain rfl := Option.some.inj hF
    exact End_ret () (.tmp rfl rfl .nil) rfl (.sel .nil)
  rw [if_neg (by rw [hb43]; exact Bool.false_ne_true)] at hF
  refine CW_skip ?_
  refine K_in ?_
  refine K_draw [0, 1, 2, 3, 4] [0, 0, 2, 7, 15] [2, 3] mixed (by decide +kernel) ?_
  refine D_atO rfl .no (.t (.t (.t (.t (.t (.t (.t (.t (.t (.t (.t (.t (.t (.t (.t (.t (.t .h))))))))))))))))) (fun ha hp => V_loadBox ag55 ty55.sz rfl (EN ha (.tmp rfl rfl) rfl) hp.2 rfl) ?_
  refine D_at rfl .no (.t (.t (.t (.t (.t (.t (.t (.t (.t (.t (.t (.t (.t (.t (.t (.t (.t (.t (.t (.t (.t (.t (.t (.t (.t (.t (.t (.t (.t (.t (.t (.t (.t (.t (.t .h))))))))))))))))))))))))))))))))))) rfl (fun ha hp => V_loadBox ag73 ty73.sz rfl (EN ha (.tmp rfl rfl) rfl) hp.2 rfl) ?_
  obtain ⟨r29, hx30, hF⟩ := bind_some hF
  refine D_act8 rfl rfl .no (.rd (.t (.t (.t (.t (.t (.t (.t (.t (.t (.t (.t (.t (.t (.t (.t (.t (.t (.t (.t (.t (.t (.t (.t (.t (.t (.t (.t (.t (.t (.t (.t (.t (.t (.t (.t (.t .h)))))))))))))))))))))))))))))))))))) rfl (.rd (.t (.t (.t (.t (.t (.t (.t (.t (.t (.t (.t (.t (.t (.t (.t (.t (.t (.t (.t (.t (.t (.t (.t (.t (.t (.t (.t (.t (.t (.t (.t (.t (.t (.t (.t (.t (.t .h))))))))))))))))))))))))))))))))))))) rfl (.rd (.t (.t (.t (.t (.t (.t (.t (.t (.t (.t (.t (.t (.t (.t (.t (.t (.t (.t (.t (.t (.t (.t (.t (.t (.t (.t (.t (.t (.t (.t (.t (.t (.t (.t (.t (.t (.t (.t .h)))))))))))))))))))))))))))))))))))))) rfl (.rd (.t (.t (.t (.t (.t (.t (.t (.t (.t (.t (.t (.t (.t (.t (.t (.t (.t (.t (.t (.t (.t (.t (.t (.t (.t (.t (.t (.t (.t (.t (.t (.t (.t (.t (.t (.t (.t (.t (.t .h))))))))))))))))))))))))))))))))))))))) rfl (.rd (.t (.t (.t (.t (.t (.t (.t (.t (.t (.t (.t (.t (.t (.t (.t (.t (.t (.t (.t (.t (.t (.t (.t (.t (.t (.t (.t (.t (.t (.t (.t (.t (.t (.t (.t (.t (.t (.t (.t (.t .h)))))))))))))))))))))))))))))))))))))))) rfl (.rd (.t (.t (.t (.t (.t (.t (.t (.t (.t (.t (.t (.t (.t (.t (.t (.t (.t (.t (.t (.t (.t (.t (.t (.t (.t (.t (.t (.t (.t (.t (.t (.t (.t (.t (.t (.t (.t (.t (.t (.t (.t .h))))))))))))))))))))))))))))))))))))))))) rfl (.rd (.t (.t (.t (.t (.t (.t (.t (.t (.t (.t (.t (.t (.t (.t (.t (.t (.t (.t (.t (.t (.t (.t (.t (.t (.t (.t (.t (.t (.t (.t (.t (.t (.t (.t (.t (.t (.t (.t (.t (.t (.t (.t .h)))))))))))))))))))))))))))))))))))))))))) rfl (.rd (.t (.t (.t (.t (.t (.t (.t (.t (.t (.t (.t (.t (.t (.t (.t (.t (.t (.t (.t (.t (.t (.t (.t (.t (.t (.t (.t (.t (.t (.t (.t (.t (.t (.t (.t (.t (.t (.t (.t (.t (.t (.t (.t .h))))))))))))))))))))))))))))))))))))))))))) rfl .nil)))))))) (.own (.t (.t (.t (.t (.t (.t (.t (.t (.t (.t (.t (.t (.t (.t (.t (.t (.t .h))))))))))))))))) (fun _ h => h) .nil) (fun ha => X_callS cf40 (.cons (EN ha (.tmp rfl rfl) rfl) .nil) (l_toMediator_ok a_aA v0_0 v0_1 v0_2 v0_3 v0_5 v0_8 v0_9 v0_11 _ hx30)) (fun p31 => ?_)
  obtain ⟨r32, hx33, hF⟩ := bind_some hF
  refine D_act16 rfl rfl .no (.cons (.t (.t (.t (.t (.t (.t (.t .h))))))) (.cons (.t (.t (.t (.t (.t (.t .h)))))) (.cons (.t (.t (.t (.t (.t .h))))) (.cons (.t (.t (.t (.t .h)))) (.cons (.t (.t (.t .h))) (.cons (.t (.t .h)) (.cons (.t .h) (.cons .h (.cons (.t (.t (.t (.t (.t (.t (.t (.t .h)))))))) (.cons (.t (.t (.t (.t (.t (.t (.t (.t .h)))))))) (.cons (.t (.t (.t (.t (.t (.t (.t (.t .h)))))))) (.cons (.t (.t (.t (.t (.t (.t (.t (.t .h)))))))) (.cons (.t (.t (.t (.t (.t (.t (.t (.t .h)))))))) (.cons (.t (.t (.t (.t (.t (.t (.t (.t .h)))))))) (.cons (.t (.t (.t (.t (.t (.t (.t (.t .h)))))))) (.cons (.t (.t (.t (.t (.t (.t (.t (.t .h)))))))) .nil)))))))))))))))) (.dep rfl .nil) (fun ha => XC_borL (pre := []) (.cons frz_own (.cons frz_own (.cons frz_own (.cons frz_own (.cons frz_own (.cons frz_own (.cons frz_own (.cons frz_own (.cons frz_own (.cons frz_own (.cons frz_own (.cons frz_own (.cons frz_own (.cons frz_own (.cons frz_own (.cons frz_own .nil)))))))))))))))) (fun _ => .nil) (X_callS cf30 (.cons (EN ha (.tmp rfl rfl) rfl) (.cons (EN ha (.tmp rfl rfl) rfl) .nil)) (l_eqMediator_ok r18 p20.1 p20.2.2.1 p20.2.2.2.2.1 p20.2.2.2.2.2.2.1 p20.2.2.2.2.2.2.2.2.1 p20.2.2.2.2.2.2.2.2.2.2.1 p20.2.2.2.2.2.2.2.2.2.2.2.2.1 p20.2.2.2.2.2.2.2.2.2.2.2.2.2.2.1 r29 p31.1 p31.2.2.1 p31.2.2.2.2.1 p31.2.2.2.2.2.2.1 p31.2.2.2.2.2.2.2.2.1 p31.2.2.2.2.2.2.2.2.2.2.1 p31.2.2.2.2.2.2.2.2.2.2.2.2.1 p31.2.2.2.2.2.2.2.2.2.2.2.2.2.2.1 _ hx33))) (fun _ => ?_)
  refine D_val rfl .no (fun ha => V_not (b := r32) (EN ha (.tmp rfl rfl) rfl)) ?_
  refine D_nil ?_
  refine CW_cond (b := (!r32)) (.tmp rfl rfl) (fun hb42 => ?_) (fun hb42 => ?_)
  · rw [if_pos hb42] at hF
    refine K_region ?_
    refine C_val (V_assign (v := (.bool false)) (.bool _)) ?_
    refine C_nil ?_
    refine CW_ret ?_
    obtain rfl := Option.some.inj hF
    exact End_ret () (.tmp rfl rfl .nil) rfl (.sel .nil)
  rw [if_neg (by rw [hb42]; exact Bool.false_ne_true)] at hF
  refine CW_skip ?_
  refine K_in ?_
  refine K_draw [0, 1, 2, 3, 4] [0, 0, 2, 7, 15] [2, 3] mixed (by decide +kernel) ?_
  refine D_atO rfl .no (.t (.t (.t (.t (.t (.t (.t (.t (.t (.t (.t (.t (.t (.t (.t (.t (.t (.t (.t (.t (.t (.t (.t (.t .h)))))))))))))))))))))))) (fun ha hp => V_loadBox ag55 ty55.sz rfl (EN ha (.tmp rfl rfl) rfl) hp.2 rfl) ?_
  refine D_at rfl .no (.t (.t (.t (.t (.t (.t (.t (.t (.t (.t (.t (.t (.t (.t (.t (.t (.t (.t (.t (.t (.t (.t (.t (.t (.t (.t (.t (.t (.t (.t (.t (.t (.t (.t (.t (.t (.t (.t (.t (.t (.t (.t .h)))))))))))))))))))))))))))))))))))))))))) rfl (fun ha hp => V_loadBox ag73 ty73.sz rfl (EN ha (.tmp rfl rfl) rfl) hp.2 rfl) ?_
  obtain ⟨r35, hx36, hF⟩ := bind_some hF
  refine D_act8 rfl rfl .no (.rd (.t (.t (.t (.t (.t (.t (.t (.t (.t (.t (.t (.t (.t (.t (.t (.t (.t (.t (.t (.t (.t (.t (.t (.t (.t (.t (.t (.t (.t (.t (.t (.t (.t (.t (.t (.t (.t (.t (.t (.t (.t (.t (.t (.t (.t (.t (.t (.t (.t (.t (.t (.t .h)))))))))))))))))))))))))))))))))))))))))))))))))))) rfl (.rd (.t (.t (.t (.t (.t (.t (.t (.t (.t (.t (.t (.t (.t (.t (.t (.t (.t (.t (.t (.t (.t (.t (.t (.t (.t (.t (.t (.t (.t (.t (.t (.t (.t (.t (.t (.t (.t (.t (.t (.t (.t (.t (.t (.t (.t (.t (.t (.t (.t (.t (.t (.t (.t .h))))))))))))))))))))))))))))))))))))))))))))))))))))) rfl (.rd (.t (.t (.t (.t (.t (.t (.t (.t (.t (.t (.t (.t (.t (.t (.t (.t (.t (.t (.t (.t (.t (.t (.t (.t (.t (.t (.t (.t (.t (.t (.t (.t (.t (.t (.t (.t (.t (.t (.t (.t (.t (.t (.t (.t (.t (.t (.t (.t (.t (.t (.t (.t (.t (.t .h)))))))))))))))))))))))))))))))))))))))))))))))))))))) rfl (.rd (.t (.t (.t (.t (.t (.t (.t (.t (.t (.t (.t (.t (.t (.t (.t (.t (.t (.t (.t (.t (.t (.t (.t (.t (.t (.t (.t (.t (.t (.t (.t (.t (.t (.t (.t (.t (.t (.t (.t (.t (.t (.t (.t (.t (.t (.t (.t (.t (.t (.t (.t (.t (.t (.t (.t .h))))))))))))))))))))))))))))))))))))))))))))))))))))))) rfl (.rd (.t (.t (.t (.t (.t (.t (.t (.t (.t (.t (.t (.t (.t (.t (.t (.t (.t (.t (.t (.t (.t (.t (.t (.t (.t (.t (.t (.t (.t (.t (.t (.t (.t (.t (.t (.t (.t (.t (.t (.t (.t (.t (.t (.t (.t (.t (.t (.t (.t (.t (.t (.t (.t (.t (.t (.t .h)))))))))))))))))))))))))))))))))))))))))))))))))))))))) rfl (.rd (.t (.t (.t (.t (.t (.t (.t (.t (.t (.t (.t (.t (.t (.t (.t (.t (.t (.t (.t (.t (.t (.t (.t (.t (.t (.t (.t (.t (.t (.t (.t (.t (.t (.t (.t (.t (.t (.t (.t (.t (.t (.t (.t (.t (.t (.t (.t (.t (.t (.t (.t (.t (.t (.t (.t (.t (.t .h))))))))))))))))))))))))))))))))))))))))))))))))))))))))) rfl (.rd (.t (.t (.t (.t (.t (.t (.t (.t (.t (.t (.t (.t (.t (.t (.t (.t (.t (.t (.t (.t (.t (.t (.t (.t (.t (.t (.t (.t (.t (.t (.t (.t (.t (.t (.t (.t (.t (.t (.t (.t (.t (.t (.t (.t (.t (.t (.t (.t (.t (.t (.t (.t (.t (.t (.t (.t (.t (.t .h)))))))))))))))))))))))))))))))))))))))))))))))))))))))))) rfl (.rd (.t (.t (.t (.t (.t (.t (.t (.t (.t (.t (.t (.t (.t (.t (.t (.t (.t (.t (.t (.t (.t (.t (.t (.t (.t (.t (.t (.t (.t (.t (.t (.t (.t (.t (.t (.t (.t (.t (.t (.t (.t (.t (.t (.t (.t (.t (.t (.t (.t (.t (.t (.t (.t (.t (.t (.t (.t (.t (.t .h))))))))))))))))))))))))))))))))))))))))))))))))))))))))))) rfl .nil)))))))) (.own (.t (.t (.t (.t (.t (.t (.t (.t (.t (.t (.t (.t (.t (.t (.t (.t (.t (.t (.t (.t (.t (.t (.t (.t .h)))))))))))))))))))))))) (fun _ h => h) .nil) (fun ha => X_callS cf40 (.cons (EN ha (.tmp rfl rfl) rfl) .nil) (l_toMediator_ok a_aB v1_0 v1_1 v1_2 v1_3 v1_5 v1_8 v1_9 v1_11 _ hx36)) (fun p37 => ?_)
  obtain ⟨r38, hx39, hF⟩ := bind_some hF
  refine D_act16 rfl rfl .no (.cons (.t (.t (.t (.t (.t (.t (.t .h))))))) (.cons (.t (.t (.t (.t (.t (.t .h)))))) (.cons (.t (.t (.t (.t (.t .h))))) (.cons (.t (.t (.t (.t .h)))) (.cons (.t (.t (.t .h))) (.cons (.t (.t .h)) (.cons (.t .h) (.cons .h (.cons (.t (.t (.t (.t (.t (.t (.t (.t (.t (.t (.t (.t (.t (.t (.t (.t .h)))))))))))))))) (.cons (.t (.t (.t (.t (.t (.t (.t (.t (.t (.t (.t (.t (.t (.t (.t (.t .h)))))))))))))))) (.cons (.t (.t (.t (.t (.t (.t (.t (.t (.t (.t (.t (.t (.t (.t (.t (.t .h)))))))))))))))) (.cons (.t (.t (.t (.t (.t (.t (.t (.t (.t (.t (.t (.t (.t (.t (.t (.t .h)))))))))))))))) (.cons (.t (.t (.t (.t (.t (.t (.t (.t (.t (.t (.t (.t (.t (.t (.t (.t .h)))))))))))))))) (.cons (.t (.t (.t (.t (.t (.t (.t (.t (.t (.t (.t (.t (.t (.t (.t (.t .h)))))))))))))))) (.cons (.t (.t (.t (.t (.t (.t (.t (.t (.t (.t (.t (.t (.t (.t (.t (.t .h)))))))))))))))) (.cons (.t (.t (.t (.t (.t (.t (.t (.t (.t (.t (.t (.t (.t (.t (.t (.t .h)))))))))))))))) .nil)))))))))))))))) (.dep rfl .nil) (fun ha => XC_borL (pre := []) (.cons frz_own (.cons frz_own (.cons frz_own (.cons frz_own (.cons frz_own (.cons frz_own (.cons frz_own (.cons frz_own (.cons frz_own (.cons frz_own (.cons frz_own (.cons frz_own (.cons frz_own (.cons frz_own (.cons frz_own (.cons frz_own .nil)))))))))))))))) (fun _ => .nil) (X_callS cf30 (.cons (EN ha (.tmp rfl rfl) rfl) (.cons (EN ha (.tmp rfl rfl) rfl) .nil)) (l_eqMediator_ok r22 p24.1 p24.2.2.1 p24.2.2.2.2.1 p24.2.2.2.2.2.2.1 p24.2.2.2.2.2.2.2.2.1 p24.2.2.2.2.2.2.2.2.2.2.1 p24.2.2.2.2.2.2.2.2.2.2.2.2.1 p24.2.2.2.2.2.2.2.2.2.2.2.2.2.2.1 r35 p37.1 p37.2.2.1 p37.2.2.2.2.1 p37.2.2.2.2.2.2.1 p37.2.2.2.2.2.2.2.2.1 p37.2.2.2.2.2.2.2.2.2.2.1 p37.2.2.2.2.2.2.2.2.2.2.2.2.1 p37.2.2.2.2.2.2.2.2.2.2.2.2.2.2.1 _ hx39))) (fun _ => ?_)
  refine D_val rfl .no (fun ha => V_not (b := r38) (EN ha (.tmp rfl rfl) rfl)) ?_
  refine D_nil ?_
  refine CW_cond (b := (!r38)) (.tmp rfl rfl) (fun hb41 => ?_) (fun hb41 => ?_)
  · rw [if_pos hb41] at hF
    refine K_region ?_
    refine C_val (V_assign (v := (.bool false)) (.bool _)) ?_
    refine C_nil ?_
    refine CW_ret ?_
    obtain rfl := Option.some.inj hF
    exact End_ret () (.tmp rfl rfl .nil) rfl (.sel .nil)
  rw [if_neg (by rw [hb41]; exact Bool.false_ne_true)] at hF
  refine CW_skip ?_
  refine K_region ?_
  refine C_val (V_assign (v := (.bool true)) (.bool _)) ?_
  refine C_nil ?_
  refine CW_ret ?_
  obtain rfl := Option.some.inj hF
  exact End_ret () (.tmp rfl rfl .nil) rfl (.sel .nil)

end Go.Proofs.Ytabpeldbccicaaa
