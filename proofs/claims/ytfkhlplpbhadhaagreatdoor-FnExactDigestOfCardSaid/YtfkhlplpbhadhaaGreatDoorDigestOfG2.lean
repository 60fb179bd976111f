/-
  Functions of the program as Lean functions, and that the calls return what these say: part 3. No conditions.
-/
import Derived.Shelf.Strings.OnBuilder
import Derived.Shelf.Strconv.Itoa3
import Derived.Test.YtfkhlplpbhadhaaGreatDoorDigestOfG1
import Derived.KernelRfl
set_option maxRecDepth 100000
set_option linter.unusedVariables false
namespace Go.Proofs.YtfkhlplpbhadhaaGreatDoor
open Go Go.Fw

/-! impl.Method).fits -/
def i_Method_fits (a_m : Method) (a_arity : Int) : Option (Bool) :=
  ((i_ascending a_m.Inputs).bind fun r5 =>
    bif r5 then ((g_slices_ContainsFunc_int_int_iMethodfits1 a_m.Inputs a_arity).bind fun r9 =>
      bif (!r9) then ((i_within a_m.Limit 0 9).bind fun r13 =>
        bif r13 then ((i_isCost a_m.Cost).bind fun r17 =>
          bif r17 then ((i_within a_m.Quota 1 99).bind fun r21 =>
            some r21)
          else (some false))
        else (some false))
      else (some false))
    else (some false)).bind fun o3 =>
  match o3 with
  | c24 => some c24
theorem i_Method_fits_ok (a_m : Method) (v0_1 : Sv) (a_arity : Int) (R : Bool) (hF : i_Method_fits a_m a_arity = some R) :
    Fw.Spec Tryz.prog 131 [(.agg [(.int .i64 a_m.Rel), v0_1.v, (.int .i64 a_m.Limit), (.int .i64 a_m.Cost), (.int .i64 a_m.Quota)].toArray), (.int .i64 a_arity)] [crd (RdS 3 rdInt) v0_1.v a_m.Inputs] (fun _ : Unit => (.bool R)) (fun _ => []) := by
  refine Spec_enter (n := 30) Tryz.func131 rfl rfl (rs := [.tmp 4]) rfl rfl rfl ?_
  intro H0 F0
  unfold i_Method_fits at hF
  refine K_region (C_newR rfl (N_box (g := false) (v := (.agg [(.int .i64 a_m.Rel), v0_1.v, (.int .i64 a_m.Limit), (.int .i64 a_m.Cost), (.int .i64 a_m.Quota)].toArray)) ty108.sz (.tmp rfl rfl) rfl) (fun k1 => ?_))
  refine C_newR rfl (N_box (g := false) (v := (.int .i64 a_arity)) ty3.sz (.tmp rfl rfl) rfl) (fun k2 => ?_)
  refine C_val (V_assign (v := (.bool false)) (.bool _)) ?_
  refine C_nil ?_
  obtain ⟨o3, hio3, hO4⟩ := bind_some hF
  refine K_region (C_cut (fun f' cs' => ∃ (c24 : Bool) (g : Fr), c24 = o3 ∧ f' = updL g [(4, (.bool c24))] ∧ Ent cs' []) ?_ ?_)
  · replace hF := hio3
    refine C_val (V_fieldAddr (off := 1) fd108_1 (.tmp rfl rfl)) ?_
    refine C_at (.t .h) (fun hp => V_load (v := v0_1.v) ag22 (.tmp rfl rfl) hp.2 rfl rfl) ?_
    obtain ⟨r5, hx6, hF⟩ := bind_some hF
    refine C_x0 (.rd (.t (.t .h)) rfl .nil) (X_callS cf145 (.cons (.tmp rfl rfl) .nil) (i_ascending_ok a_m.Inputs v0_1 _ hx6)) (fun _ => ?_)
    refine Cm (.bool r5) rfl rfl ?_
    rcases Bool.eq_false_or_eq_true r5 with hg8 | hg8
    · rw [hg8]
      try rw [hg8] at hF; dsimp only [cond_true, cond_false] at hF
      refine C_on (t := 8) rfl rfl rfl ?_
      refine C_val (V_fieldAddr (off := 1) fd108_1 (.tmp rfl rfl)) ?_
      refine C_on (t := 8) rfl rfl rfl ?_
      refine C_at (.t .h) (fun hp => V_load (v := v0_1.v) ag22 (.tmp rfl rfl) hp.2 rfl rfl) ?_
      refine C_on (t := 8) rfl rfl rfl ?_
      refine C_val (V_makeFunc (fn := .func 146) (vs := []) (us := [(.pointer (some ⟨k2, 0, some 0⟩))]) .nil (.cons (.tmp rfl rfl) .nil)) ?_
      refine C_on (t := 8) rfl rfl rfl ?_
      obtain ⟨r9, hx10, hF⟩ := bind_some hF
      refine C_x0 (.rd (.t (.t .h)) rfl (.rd .h rfl .nil)) (X_callS cf114 (.cons (.tmp rfl rfl) (.cons (.tmp rfl rfl) .nil)) (g_slices_ContainsFunc_int_int_iMethodfits1_ok a_m.Inputs v0_1 k2 a_arity _ hx10)) (fun _ => ?_)
      refine C_on (t := 8) rfl rfl rfl ?_
      refine C_val (V_not (b := r9) (.tmp rfl rfl)) ?_
      refine C_val (V_pick (b := true) (u := (.bool (!r9))) (v := (.bool false)) (.tmp rfl rfl) (.tmp rfl rfl) (.bool _)) ?_
      refine Cm (.bool (!r9)) rfl rfl ?_
      rcases Bool.eq_false_or_eq_true (!r9) with hg12 | hg12
      · rw [hg12]
        try rw [hg12] at hF; dsimp only [cond_true, cond_false] at hF
        refine C_on (t := 15) rfl rfl rfl ?_
        refine C_val (V_fieldAddr (off := 2) fd108_2 (.tmp rfl rfl)) ?_
        refine C_on (t := 15) rfl rfl rfl ?_
        refine C_at (.t .h) (fun hp => V_load (v := (.int .i64 a_m.Limit)) ag3 (.tmp rfl rfl) hp.2 rfl rfl) ?_
        refine C_on (t := 15) rfl rfl rfl ?_
        obtain ⟨r13, hx14, hF⟩ := bind_some hF
        refine C_x0 .nil (X_callS cf76 (.cons (.tmp rfl rfl) (.cons (.int _ _) (.cons (.int _ _) .nil))) (i_within_ok a_m.Limit 0 9 _ hx14)) (fun _ => ?_)
        refine C_val (V_pick (b := true) (u := (.bool r13)) (v := (.bool false)) (.tmp rfl rfl) (.tmp rfl rfl) (.bool _)) ?_
        refine Cm (.bool r13) rfl rfl ?_
        rcases Bool.eq_false_or_eq_true r13 with hg16 | hg16
        · rw [hg16]
          try rw [hg16] at hF; dsimp only [cond_true, cond_false] at hF
          refine C_on (t := 20) rfl rfl rfl ?_
          refine C_val (V_fieldAddr (off := 3) fd108_3 (.tmp rfl rfl)) ?_
          refine C_on (t := 20) rfl rfl rfl ?_
          refine C_at (.t .h) (fun hp => V_load (v := (.int .i64 a_m.Cost)) ag3 (.tmp rfl rfl) hp.2 rfl rfl) ?_
          refine C_on (t := 20) rfl rfl rfl ?_
          obtain ⟨r17, hx18, hF⟩ := bind_some hF
          refine C_x0 .nil (X_callS cf147 (.cons (.tmp rfl rfl) .nil) (i_isCost_ok a_m.Cost _ hx18)) (fun _ => ?_)
          refine C_val (V_pick (b := true) (u := (.bool r17)) (v := (.bool false)) (.tmp rfl rfl) (.tmp rfl rfl) (.bool _)) ?_
          refine Cm (.bool r17) rfl rfl ?_
          rcases Bool.eq_false_or_eq_true r17 with hg20 | hg20
          · rw [hg20]
            try rw [hg20] at hF; dsimp only [cond_true, cond_false] at hF
            refine C_on (t := 25) rfl rfl rfl ?_
            refine C_val (V_fieldAddr (off := 4) fd108_4 (.tmp rfl rfl)) ?_
            refine C_on (t := 25) rfl rfl rfl ?_
            refine C_at (.t .h) (fun hp => V_load (v := (.int .i64 a_m.Quota)) ag3 (.tmp rfl rfl) hp.2 rfl rfl) ?_
            refine C_on (t := 25) rfl rfl rfl ?_
            obtain ⟨r21, hx22, hF⟩ := bind_some hF
            refine C_x0 .nil (X_callS cf76 (.cons (.tmp rfl rfl) (.cons (.int _ _) (.cons (.int _ _) .nil))) (i_within_ok a_m.Quota 1 99 _ hx22)) (fun _ => ?_)
            refine C_val (V_pick (b := true) (u := (.bool r21)) (v := (.bool false)) (.tmp rfl rfl) (.tmp rfl rfl) (.bool _)) ?_
            refine Ca (.bool r21) rfl rfl ?_
            refine C_nil ?_
            obtain rfl := Option.some.inj hF
            exact ⟨_, _, rfl, (EqL.cons rfl (EqL.nil)).eq, (.sel .nil)⟩
          rw [hg20]
          try rw [hg20] at hF; dsimp only [cond_true, cond_false] at hF
          iterate 3 refine C_off (t := 25) rfl rfl rfl ?_
          refine C_val (V_pick (b := false) (u := undef) (v := (.bool false)) (.tmp rfl rfl) (.tmp rfl rfl) (.bool _)) ?_
          refine Ca (.bool false) rfl rfl ?_
          refine C_nil ?_
          obtain rfl := Option.some.inj hF
          exact ⟨_, _, rfl, (EqL.cons rfl (EqL.nil)).eq, (.sel .nil)⟩
        rw [hg16]
        try rw [hg16] at hF; dsimp only [cond_true, cond_false] at hF
        iterate 3 refine C_off (t := 20) rfl rfl rfl ?_
        refine C_val (V_pick (b := false) (u := undef) (v := (.bool false)) (.tmp rfl rfl) (.tmp rfl rfl) (.bool _)) ?_
        refine Cm (.bool false) rfl rfl ?_
        iterate 3 refine C_off (t := 25) rfl rfl rfl ?_
        refine C_val (V_pick (b := false) (u := undef) (v := (.bool false)) (.tmp rfl rfl) (.tmp rfl rfl) (.bool _)) ?_
        refine Ca (.bool false) rfl rfl ?_
        refine C_nil ?_
        obtain rfl := Option.some.inj hF
        exact ⟨_, _, rfl, (EqL.cons rfl (EqL.nil)).eq, (.sel .nil)⟩
      rw [hg12]
      try rw [hg12] at hF; dsimp only [cond_true, cond_false] at hF
      iterate 3 refine C_off (t := 15) rfl rfl rfl ?_
      refine C_val (V_pick (b := false) (u := undef) (v := (.bool false)) (.tmp rfl rfl) (.tmp rfl rfl) (.bool _)) ?_
      refine Cm (.bool false) rfl rfl ?_
      iterate 3 refine C_off (t := 20) rfl rfl rfl ?_
      refine C_val (V_pick (b := false) (u := undef) (v := (.bool false)) (.tmp rfl rfl) (.tmp rfl rfl) (.bool _)) ?_
      refine Cm (.bool false) rfl rfl ?_
      iterate 3 refine C_off (t := 25) rfl rfl rfl ?_
      refine C_val (V_pick (b := false) (u := undef) (v := (.bool false)) (.tmp rfl rfl) (.tmp rfl rfl) (.bool _)) ?_
      refine Ca (.bool false) rfl rfl ?_
      refine C_nil ?_
      obtain rfl := Option.some.inj hF
      exact ⟨_, _, rfl, (EqL.cons rfl (EqL.nil)).eq, (.sel .nil)⟩
    rw [hg8]
    try rw [hg8] at hF; dsimp only [cond_true, cond_false] at hF
    iterate 5 refine C_off (t := 8) rfl rfl rfl ?_
    refine C_val (V_pick (b := false) (u := undef) (v := (.bool false)) (.tmp rfl rfl) (.tmp rfl rfl) (.bool _)) ?_
    refine Cm (.bool false) rfl rfl ?_
    iterate 3 refine C_off (t := 15) rfl rfl rfl ?_
    refine C_val (V_pick (b := false) (u := undef) (v := (.bool false)) (.tmp rfl rfl) (.tmp rfl rfl) (.bool _)) ?_
    refine Cm (.bool false) rfl rfl ?_
    iterate 3 refine C_off (t := 20) rfl rfl rfl ?_
    refine C_val (V_pick (b := false) (u := undef) (v := (.bool false)) (.tmp rfl rfl) (.tmp rfl rfl) (.bool _)) ?_
    refine Cm (.bool false) rfl rfl ?_
    iterate 3 refine C_off (t := 25) rfl rfl rfl ?_
    refine C_val (V_pick (b := false) (u := undef) (v := (.bool false)) (.tmp rfl rfl) (.tmp rfl rfl) (.bool _)) ?_
    refine Ca (.bool false) rfl rfl ?_
    refine C_nil ?_
    obtain rfl := Option.some.inj hF
    exact ⟨_, _, rfl, (EqL.cons rfl (EqL.nil)).eq, (.sel .nil)⟩
  rintro _ _ ⟨c24, g25, rfl, rfl, hE⟩
  replace hF := hO4
  clear hO4
  try dsimp only at hF
  refine K_ent hE ?_
  refine CW_ret ?_
  obtain rfl := Option.some.inj hF
  exact End_ret () (.tmp rfl rfl .nil) rfl (.sel .nil)

/-! impl.IsMethod -/
def i_IsMethod (a_s : List Int) (a_m : Method) : Option (Bool) :=
  ((i_hasRel a_s a_m.Rel).bind fun r4 =>
    bif r4 then ((ix a_s a_m.Rel).bind fun x8 =>
      (i_Method_fits a_m x8).bind fun r14 =>
      some r14)
    else (some false)).bind fun o2 =>
  match o2 with
  | c17 => some c17
theorem i_IsMethod_ok (a_s : List Int) (v0_0 : Sv) (a_m : Method) (v1_1 : Sv) (R : Bool) (hF : i_IsMethod a_s a_m = some R) :
    Fw.Spec Tryz.prog 105 [v0_0.v, (.agg [(.int .i64 a_m.Rel), v1_1.v, (.int .i64 a_m.Limit), (.int .i64 a_m.Cost), (.int .i64 a_m.Quota)].toArray)] [crd (RdS 3 rdInt) v0_0.v a_s, crd (RdS 3 rdInt) v1_1.v a_m.Inputs] (fun _ : Unit => (.bool R)) (fun _ => []) := by
  refine Spec_enter (n := 18) Tryz.func105 rfl rfl (rs := [.tmp 4]) rfl rfl rfl ?_
  intro H0 F0
  unfold i_IsMethod at hF
  refine K_region (C_newR rfl (N_box (g := false) (v := (.agg [(.int .i64 a_m.Rel), v1_1.v, (.int .i64 a_m.Limit), (.int .i64 a_m.Cost), (.int .i64 a_m.Quota)].toArray)) ty108.sz (.tmp rfl rfl) rfl) (fun k1 => ?_))
  refine C_val (V_assign (v := (.bool false)) (.bool _)) ?_
  refine C_nil ?_
  obtain ⟨o2, hio2, hO3⟩ := bind_some hF
  refine K_draw [0, 1, 2, 3, 4, 5, 6, 7, 8, 9, 10, 11, 12, 13] [0, 0, 2, 7, 15, 31, 31, 31, 159, 479, 991, 2047, 4095, 8191] [3, 11] mixed (by decide +kernel) ?_
  refine D_cut (fun f' cs' => ∃ (c17 : Bool) (g : Fr), c17 = o2 ∧ f' = updL g [(4, (.bool c17))] ∧ Ent cs' []) ?_ ?_
  · replace hF := hio2
    refine Dm v0_0.v rfl rfl rfl rfl ?_
    refine D_val rfl .no (fun ha => V_fieldAddr (off := 0) fd108_0 (EN ha (.tmp rfl rfl) rfl)) ?_
    refine D_at rfl .no .h rfl (fun ha hp => V_load (v := (.int .i64 a_m.Rel)) ag3 (EN ha (.tmp rfl rfl) rfl) hp.2 rfl rfl) ?_
    obtain ⟨r4, hx5, hF⟩ := bind_some hF
    refine D_act0 rfl rfl .no (.rd (.t .h) rfl .nil) .nil (fun ha => X_callS cf130 (.cons (EN ha (.tmp rfl rfl) rfl) (.cons (EN ha (.tmp rfl rfl) rfl) .nil)) (i_hasRel_ok a_s v0_0 a_m.Rel _ hx5)) (fun _ => ?_)
    refine Dm (.bool r4) rfl rfl rfl rfl ?_
    rcases Bool.eq_false_or_eq_true r4 with hg7 | hg7
    · rw [hg7]
      try rw [hg7] at hF; dsimp only [cond_true, cond_false] at hF
      refine D_at rfl (.on 9 rfl rfl rfl) .h rfl (fun ha hp => V_loadBox ag108 ty108.sz rfl (EN ha (.tmp rfl rfl) rfl) hp.2 rfl) ?_
      refine D_val rfl (.on 9 rfl rfl rfl) (fun ha => V_move (v := v0_0.v) (EN ha (.tmp rfl rfl) rfl)) ?_
      refine D_val rfl (.on 9 rfl rfl rfl) (fun ha => V_fieldAddr (off := 0) fd108_0 (EN ha (.tmp rfl rfl) rfl)) ?_
      refine D_at rfl (.on 9 rfl rfl rfl) .h rfl (fun ha hp => V_load (v := (.int .i64 a_m.Rel)) ag3 (EN ha (.tmp rfl rfl) rfl) hp.2 rfl rfl) ?_
      obtain ⟨x8, hx9, hF⟩ := bind_some hF
      obtain ⟨hp10, hx11⟩ := ix_some hx9
      refine D_idx (a := x8) sl22 ty3.sz rfl (.on 9 rfl rfl rfl) (.tmp rfl rfl) (.tmp rfl rfl) rfl rfl (.t .h) hp10 hx11 (fun k12 j13 => ?_)
      refine D_ldS (w := (.int .i64 x8)) ag3 rfl (.on 9 rfl rfl rfl) (.tmp rfl rfl) rfl .h ls3_0 ?_
      obtain ⟨r14, hx15, hF⟩ := bind_some hF
      refine D_act0 rfl rfl (.on 9 rfl rfl rfl) (.rd (.t (.t (.t .h))) rfl .nil) .nil (fun ha => X_callS cf131 (.cons (EN ha (.tmp rfl rfl) rfl) (.cons (EN ha (.tmp rfl rfl) rfl) .nil)) (i_Method_fits_ok a_m v1_1 x8 _ hx15)) (fun _ => ?_)
      refine D_val rfl .no (fun ha => V_pick (b := true) (u := (.bool r14)) (v := (.bool false)) (EN ha (.tmp rfl rfl) rfl) (EN ha (.tmp rfl rfl) rfl) (EN ha (.bool _) rfl)) ?_
      refine Da (.bool r14) rfl rfl rfl rfl ?_
      refine D_nil ?_
      obtain rfl := Option.some.inj hF
      exact ⟨_, _, rfl, (EqL.cons rfl (EqL.nil)).eq, (.sel .nil)⟩
    rw [hg7]
    try rw [hg7] at hF; dsimp only [cond_true, cond_false] at hF
    iterate 7 refine D_off 9 rfl rfl rfl rfl ?_
    refine D_val rfl .no (fun ha => V_pick (b := false) (u := undef) (v := (.bool false)) (EN ha (.tmp rfl rfl) rfl) (EN ha (.tmp rfl rfl) rfl) (EN ha (.bool _) rfl)) ?_
    refine Da (.bool false) rfl rfl rfl rfl ?_
    refine D_nil ?_
    obtain rfl := Option.some.inj hF
    exact ⟨_, _, rfl, (EqL.cons rfl (EqL.nil)).eq, (.sel .nil)⟩
  rintro _ _ ⟨c17, g18, rfl, rfl, hE⟩
  replace hF := hO3
  clear hO3
  try dsimp only at hF
  refine K_ent hE ?_
  refine CW_ret ?_
  obtain rfl := Option.some.inj hF
  exact End_ret () (.tmp rfl rfl .nil) rfl (.sel .nil)

/-! impl.AreMethods$1 -/
def i_AreMethods_1 (a_m : Method) (a_e1 : List Int) : Option (Bool) :=
  (i_IsMethod a_e1 a_m).bind fun r2 =>
  some (!r2)
theorem i_AreMethods_1_ok (a_m : Method) (v0_1 : Sv) (kc1 : Nat) (a_e1 : List Int) (vc1_0 : Sv) (R : Bool) (hF : i_AreMethods_1 a_m a_e1 = some R) :
    Fw.Spec Tryz.prog 104 [(.agg [(.int .i64 a_m.Rel), v0_1.v, (.int .i64 a_m.Limit), (.int .i64 a_m.Cost), (.int .i64 a_m.Quota)].toArray), (.pointer (some ⟨kc1, 0, some 0⟩))] [crd (RdS 3 rdInt) v0_1.v a_m.Inputs, cboR kc1 22 vc1_0.v, crd (RdS 3 rdInt) vc1_0.v a_e1] (fun _ : Unit => (.bool R)) (fun _ => []) := by
  refine Spec_enter (n := 8) Tryz.func104 rfl rfl (rs := [.tmp 3]) rfl rfl rfl ?_
  intro H0 F0
  unfold i_AreMethods_1 at hF
  refine K_region (C_newR rfl (N_box (g := false) (v := (.agg [(.int .i64 a_m.Rel), v0_1.v, (.int .i64 a_m.Limit), (.int .i64 a_m.Cost), (.int .i64 a_m.Quota)].toArray)) ty108.sz (.tmp rfl rfl) rfl) (fun k1 => ?_))
  refine C_val (V_assign (v := (.bool false)) (.bool _)) ?_
  refine C_nil (K_region (C_at (.t (.t .h)) (fun hp => V_load (v := vc1_0.v) ag22 (.tmp rfl rfl) hp.2 rfl rfl) ?_))
  refine C_at .h (fun hp => V_loadBox ag108 ty108.sz rfl (.tmp rfl rfl) hp.2 rfl) ?_
  obtain ⟨r2, hx3, hF⟩ := bind_some hF
  refine C_x0 (.rd (.t (.t (.t .h))) rfl (.rd (.t .h) rfl .nil)) (X_callS cf105 (.cons (.tmp rfl rfl) (.cons (.tmp rfl rfl) .nil)) (i_IsMethod_ok a_e1 vc1_0 a_m v0_1 _ hx3)) (fun _ => ?_)
  refine C_val (V_not (b := r2) (.tmp rfl rfl)) ?_
  refine Ca (.bool (!r2)) rfl rfl ?_
  refine C_nil (CW_ret ?_)
  obtain rfl := Option.some.inj hF
  exact End_ret () (.tmp rfl rfl .nil) rfl (.sel .nil)

/-! impl.Method] -/
def g_slices_IndexFunc_impl_Method_impl_Method_iAreMethods1_L1 (a_e1 : List Int) : List Method → Nat → Option (Int)
  | [], k4 => some (-1)
  | x6 :: rest5, k4 => (i_AreMethods_1 x6 a_e1).bind fun r16 =>
    if r16 then (
      some (k4 : Int))
    else (
      g_slices_IndexFunc_impl_Method_impl_Method_iAreMethods1_L1 a_e1 rest5 (k4 + 1))
def g_slices_IndexFunc_impl_Method_impl_Method_iAreMethods1 (a_s : List Method) (a_e1 : List Int) : Option (Int) :=
  g_slices_IndexFunc_impl_Method_impl_Method_iAreMethods1_L1 a_e1 a_s 0
theorem g_slices_IndexFunc_impl_Method_impl_Method_iAreMethods1_ok (a_s : List Method) (v0_0 : Sv) (kc1 : Nat) (a_e1 : List Int) (vc1_0 : Sv) (R : Int) (hF : g_slices_IndexFunc_impl_Method_impl_Method_iAreMethods1 a_s a_e1 = some R) :
    Fw.Spec Tryz.prog 129 [v0_0.v, (.func (.func 104) [].toArray [(.pointer (some ⟨kc1, 0, some 0⟩))].toArray)] [crd (RdS 108 rd108) v0_0.v a_s, cboR kc1 22 vc1_0.v, crd (RdS 3 rdInt) vc1_0.v a_e1] (fun _ : Unit => (.int .i64 R)) (fun _ => []) := by
  refine Spec_enter (n := 19) Tryz.func129 rfl rfl (rs := [.tmp 4]) rfl rfl rfl ?_
  intro H0 F0
  unfold g_slices_IndexFunc_impl_Method_impl_Method_iAreMethods1 at hF
  refine K_region (C_val (V_assign (v := (.int .i64 0)) (.int _ _)) ?_)
  refine C_nil (K_in (K_region (Cm v0_0.v rfl rfl ?_)))
  refine C_at .h (fun hp => V_lenR (l := a_s.length) sl37 (.tmp rfl rfl) (crd_len hp)) ?_
  refine C_val (V_move (v := (.int .i64 0)) (.int _ _)) ?_
  refine C_nil (CW_block (CW_loop (m := a_s.length) (fun m2 f' cs' => ∃ (g : Fr) (k4 : Nat) (rest5 : List Method), m2 = rest5.length ∧ f' = updL g [(0, v0_0.v), (1, (.func (.func 104) [].toArray [(.pointer (some ⟨kc1, 0, some 0⟩))].toArray)), (7, (.int .i64 (a_s.length : Int))), (8, (.int .i64 (k4 : Int)))] ∧ List.drop k4 a_s = rest5 ∧ Ent cs' [crd (RdS 108 rd108) v0_0.v a_s, cboR kc1 22 vc1_0.v, crd (RdS 3 rdInt) vc1_0.v a_e1] ∧ g_slices_IndexFunc_impl_Method_impl_Method_iAreMethods1_L1 a_e1 rest5 k4 = some R) ⟨_, 0, _, rfl, (EqL.cons rfl (EqL.cons rfl (EqL.cons rfl (EqL.cons rfl (EqL.nil))))).eq, rfl, (.sel (.rd .h rfl (.rd (.t .h) rfl (.rd (.t (.t .h)) rfl .nil)))), hF⟩ ?_))
  clear hF
  rintro m2 _ _ ⟨g3, k4, rest5, rfl, rfl, hd7, hE, hF⟩
  refine K_ent hE ?_
  clear hE
  refine K_pure (c := crd (RdS 108 rd108) v0_0.v a_s) .h crd_bound (fun hbd12 => ?_)
  rcases rest5 with _ | ⟨x6, rest5⟩
  · have hk8 := List.drop_eq_nil_iff.1 hd7
    have hfe11 : (decide (((k4 : Int) : Int) < (a_s.length : Int))) = false := decide_eq_false (by omega)
    rw [g_slices_IndexFunc_impl_Method_impl_Method_iAreMethods1_L1] at hF
    refine K_region (C_val (V_lss (i := (k4 : Int)) (j := (a_s.length : Int)) (.tmp rfl rfl) (.tmp rfl rfl)) ?_)
    refine C_nil (K_in (CW_cond (b := (decide (((k4 : Int) : Int) < (a_s.length : Int)))) (.tmp rfl rfl) (fun hb => absurd (hfe11.symm.trans hb) (by decide)) (fun _ => ?_)))
    refine CW_exit ?_
    iterate 2 refine CThen_exit ?_
    refine CIn_self (K_region (C_val (V_assign (v := (.int .i64 (-1))) (.int _ _)) ?_))
    refine C_nil (CW_ret ?_)
    obtain rfl := Option.some.inj hF
    exact End_ret () (.tmp rfl rfl .nil) rfl (.sel .nil)
  obtain ⟨hk8, hx9, hd10⟩ := drop_cons hd7
  have hfe11 : (decide (((k4 : Int) : Int) < (a_s.length : Int))) = true := decide_eq_true (by omega)
  rw [g_slices_IndexFunc_impl_Method_impl_Method_iAreMethods1_L1] at hF
  refine K_region (C_val (V_lss (i := (k4 : Int)) (j := (a_s.length : Int)) (.tmp rfl rfl) (.tmp rfl rfl)) ?_)
  refine C_nil (K_in (CW_cond (b := (decide (((k4 : Int) : Int) < (a_s.length : Int)))) (.tmp rfl rfl) (fun _ => ?_) (fun hb => absurd (hfe11.symm.trans hb) (by decide))))
  refine CW_skip (K_block (K_region (Cm (.int .i64 (k4 : Int)) rfl rfl ?_)))
  refine Ca (.int .i64 (k4 : Int)) rfl rfl ?_
  refine C_nil (K_region (Cm (.func (.func 104) [].toArray [(.pointer (some ⟨kc1, 0, some 0⟩))].toArray) rfl rfl ?_))
  refine Cm v0_0.v rfl rfl ?_
  refine Cm (.int .i64 (k4 : Int)) rfl rfl ?_
  refine C_idx (a := x6) sl37 ty108.sz (.tmp rfl rfl) (.tmp rfl rfl) .h (Int.natCast_nonneg k4) hx9 (fun k13 j14 => ?_)
  refine C_ldA1 (ul108_0_108 x6) ag108 ty108.sz rfl (.tmp rfl rfl) .h la108_0_108 (fun p15 => ?_)
  obtain ⟨r16, hx17, hF⟩ := bind_some hF
  refine C_x0 (.rd .h rfl (.rd (.t (.t (.t .h))) rfl (.rd (.t (.t (.t (.t .h)))) rfl .nil))) (X_callCS cf104 (.tmp rfl rfl) (.cons (.tmp rfl rfl) .nil) (i_AreMethods_1_ok x6 p15 kc1 a_e1 vc1_0 _ hx17)) (fun _ => ?_)
  refine C_nil (CW_cond (b := r16) (.tmp rfl rfl) (fun hb20 => ?_) (fun hb20 => ?_))
  · rw [if_pos hb20] at hF
    refine K_region (Cm (.int .i64 (k4 : Int)) rfl rfl ?_)
    refine Ca (.int .i64 (k4 : Int)) rfl rfl ?_
    refine C_nil (CW_ret ?_)
    obtain rfl := Option.some.inj hF
    exact End_ret () (.tmp rfl rfl .nil) rfl (.sel .nil)
  rw [if_neg (by rw [hb20]; exact Bool.false_ne_true)] at hF
  refine CW_skip (CW_region (C_val (V_add (i := (k4 : Int)) (j := 1) (.tmp rfl rfl) (.int _ _)) ?_))
  refine Cm (.int .i64 (IntKind.i64.wrap ((k4 : Int) + 1))) rfl rfl ?_
  refine C_nil ?_
  have hw19 : IntKind.i64.wrap ((k4 : Int) + 1) = ((k4 + 1 : Nat) : Int) := by rw [wrap_in (by omega) (by omega)]; rfl
  rw [hw19]
  exact ⟨_, Nat.lt_succ_self _, _, k4 + 1, rest5, rfl, (EqL.cons rfl (EqL.cons rfl (EqL.cons rfl (EqL.cons rfl (EqL.nil))))).eq, hd10, (.sel (.rd (.t (.t .h)) rfl (.rd (.t (.t (.t .h))) rfl (.rd (.t (.t (.t (.t .h)))) rfl .nil)))), hF⟩

/-! impl.Method] -/
def g_slices_ContainsFunc_impl_Method_impl_Method_iAreMethods1 (a_s : List Method) (a_e1 : List Int) : Option (Bool) :=
  (g_slices_IndexFunc_impl_Method_impl_Method_iAreMethods1 a_s a_e1).bind fun r1 =>
  some (decide ((0 : Int) ≤ r1))
theorem g_slices_ContainsFunc_impl_Method_impl_Method_iAreMethods1_ok (a_s : List Method) (v0_0 : Sv) (kc1 : Nat) (a_e1 : List Int) (vc1_0 : Sv) (R : Bool) (hF : g_slices_ContainsFunc_impl_Method_impl_Method_iAreMethods1 a_s a_e1 = some R) :
    Fw.Spec Tryz.prog 103 [v0_0.v, (.func (.func 104) [].toArray [(.pointer (some ⟨kc1, 0, some 0⟩))].toArray)] [crd (RdS 108 rd108) v0_0.v a_s, cboR kc1 22 vc1_0.v, crd (RdS 3 rdInt) vc1_0.v a_e1] (fun _ : Unit => (.bool R)) (fun _ => []) := by
  refine Spec_enter (n := 9) Tryz.func103 rfl rfl (rs := [.tmp 4]) rfl rfl rfl ?_
  intro H0 F0
  unfold g_slices_ContainsFunc_impl_Method_impl_Method_iAreMethods1 at hF
  refine K_region (C_val (V_assign (v := (.bool false)) (.bool _)) ?_)
  refine C_nil (K_region (Cm v0_0.v rfl rfl ?_))
  refine Cm (.func (.func 104) [].toArray [(.pointer (some ⟨kc1, 0, some 0⟩))].toArray) rfl rfl ?_
  obtain ⟨r1, hx2, hF⟩ := bind_some hF
  refine C_x0 (.rd .h rfl (.rd (.t .h) rfl (.rd (.t (.t .h)) rfl .nil))) (X_callS cf129 (.cons (.tmp rfl rfl) (.cons (.tmp rfl rfl) .nil)) (g_slices_IndexFunc_impl_Method_impl_Method_iAreMethods1_ok a_s v0_0 kc1 a_e1 vc1_0 _ hx2)) (fun _ => ?_)
  refine C_val (V_geq (i := r1) (j := 0) (.tmp rfl rfl) (.int _ _)) ?_
  refine Ca (.bool (decide ((0 : Int) ≤ r1))) rfl rfl ?_
  refine C_nil (CW_ret ?_)
  obtain rfl := Option.some.inj hF
  exact End_ret () (.tmp rfl rfl .nil) rfl (.sel .nil)

/-! impl.AreMethods -/
def i_AreMethods (a_s : List Int) (a_l : List Method) : Option (Bool) :=
  ((i_IsSchema a_s).bind fun r4 =>
    bif r4 then (bif (decide (((a_l.length : Int) : Int) ≤ 5)) then ((g_slices_ContainsFunc_impl_Method_impl_Method_iAreMethods1 a_l a_s).bind fun r9 =>
        some (!r9))
      else (some false))
    else (some false)).bind fun o2 =>
  match o2 with
  | c12 => some c12
theorem i_AreMethods_ok (a_s : List Int) (v0_0 : Sv) (a_l : List Method) (v1_0 : Sv) (R : Bool) (hF : i_AreMethods a_s a_l = some R) :
    Fw.Spec Tryz.prog 67 [v0_0.v, v1_0.v] [crd (RdS 3 rdInt) v0_0.v a_s, crd (RdS 108 rd108) v1_0.v a_l] (fun _ : Unit => (.bool R)) (fun _ => []) := by
  refine Spec_enter (n := 18) Tryz.func67 rfl rfl (rs := [.tmp 4]) rfl rfl rfl ?_
  intro H0 F0
  unfold i_AreMethods at hF
  refine K_region (C_newR rfl (N_box (g := false) (v := v0_0.v) ty22.sz (.tmp rfl rfl) rfl) (fun k1 => ?_))
  refine C_val (V_assign (v := (.bool false)) (.bool _)) ?_
  refine C_nil ?_
  obtain ⟨o2, hio2, hO3⟩ := bind_some hF
  refine K_region (C_cut (fun f' cs' => ∃ (c12 : Bool) (g : Fr), c12 = o2 ∧ f' = updL g [(4, (.bool c12))] ∧ Ent cs' []) ?_ ?_)
  · replace hF := hio2
    refine C_at .h (fun hp => V_load (v := v0_0.v) ag22 (.tmp rfl rfl) hp.2 rfl rfl) ?_
    obtain ⟨r4, hx5, hF⟩ := bind_some hF
    refine C_x0 (.rd (.t .h) rfl .nil) (X_callS cf102 (.cons (.tmp rfl rfl) .nil) (i_IsSchema_ok a_s v0_0 _ hx5)) (fun _ => ?_)
    refine Cm (.bool r4) rfl rfl ?_
    rcases Bool.eq_false_or_eq_true r4 with hg7 | hg7
    · rw [hg7]
      try rw [hg7] at hF; dsimp only [cond_true, cond_false] at hF
      refine C_on (t := 7) rfl rfl rfl ?_
      refine Cm v1_0.v rfl rfl ?_
      refine C_on (t := 7) rfl rfl rfl ?_
      refine C_at (.t (.t .h)) (fun hp => V_lenR (l := a_l.length) sl37 (.tmp rfl rfl) (crd_len hp)) ?_
      refine C_on (t := 7) rfl rfl rfl ?_
      refine C_val (V_leq (i := (a_l.length : Int)) (j := 5) (.tmp rfl rfl) (.int _ _)) ?_
      refine C_val (V_pick (b := true) (u := (.bool (decide (((a_l.length : Int) : Int) ≤ 5)))) (v := (.bool false)) (.tmp rfl rfl) (.tmp rfl rfl) (.bool _)) ?_
      refine Cm (.bool (decide (((a_l.length : Int) : Int) ≤ 5))) rfl rfl ?_
      rcases Bool.eq_false_or_eq_true (decide (((a_l.length : Int) : Int) ≤ 5)) with hg8 | hg8
      · rw [hg8]
        try rw [hg8] at hF; dsimp only [cond_true, cond_false] at hF
        refine C_on (t := 12) rfl rfl rfl ?_
        refine Cm v1_0.v rfl rfl ?_
        refine C_on (t := 12) rfl rfl rfl ?_
        refine C_val (V_makeFunc (fn := .func 104) (vs := []) (us := [(.pointer (some ⟨k1, 0, some 0⟩))]) .nil (.cons (.tmp rfl rfl) .nil)) ?_
        refine C_on (t := 12) rfl rfl rfl ?_
        obtain ⟨r9, hx10, hF⟩ := bind_some hF
        refine C_x0 (.rd (.t (.t .h)) rfl (.rd .h rfl (.rd (.t .h) rfl .nil))) (X_callS cf103 (.cons (.tmp rfl rfl) (.cons (.tmp rfl rfl) .nil)) (g_slices_ContainsFunc_impl_Method_impl_Method_iAreMethods1_ok a_l v1_0 k1 a_s v0_0 _ hx10)) (fun _ => ?_)
        refine C_on (t := 12) rfl rfl rfl ?_
        refine C_val (V_not (b := r9) (.tmp rfl rfl)) ?_
        refine C_val (V_pick (b := true) (u := (.bool (!r9))) (v := (.bool false)) (.tmp rfl rfl) (.tmp rfl rfl) (.bool _)) ?_
        refine Ca (.bool (!r9)) rfl rfl ?_
        refine C_nil ?_
        obtain rfl := Option.some.inj hF
        exact ⟨_, _, rfl, (EqL.cons rfl (EqL.nil)).eq, (.sel .nil)⟩
      rw [hg8]
      try rw [hg8] at hF; dsimp only [cond_true, cond_false] at hF
      iterate 4 refine C_off (t := 12) rfl rfl rfl ?_
      refine C_val (V_pick (b := false) (u := undef) (v := (.bool false)) (.tmp rfl rfl) (.tmp rfl rfl) (.bool _)) ?_
      refine Ca (.bool false) rfl rfl ?_
      refine C_nil ?_
      obtain rfl := Option.some.inj hF
      exact ⟨_, _, rfl, (EqL.cons rfl (EqL.nil)).eq, (.sel .nil)⟩
    rw [hg7]
    try rw [hg7] at hF; dsimp only [cond_true, cond_false] at hF
    iterate 3 refine C_off (t := 7) rfl rfl rfl ?_
    refine C_val (V_pick (b := false) (u := undef) (v := (.bool false)) (.tmp rfl rfl) (.tmp rfl rfl) (.bool _)) ?_
    refine Cm (.bool false) rfl rfl ?_
    iterate 4 refine C_off (t := 12) rfl rfl rfl ?_
    refine C_val (V_pick (b := false) (u := undef) (v := (.bool false)) (.tmp rfl rfl) (.tmp rfl rfl) (.bool _)) ?_
    refine Ca (.bool false) rfl rfl ?_
    refine C_nil ?_
    obtain rfl := Option.some.inj hF
    exact ⟨_, _, rfl, (EqL.cons rfl (EqL.nil)).eq, (.sel .nil)⟩
  rintro _ _ ⟨c12, g13, rfl, rfl, hE⟩
  replace hF := hO3
  clear hO3
  try dsimp only at hF
  refine K_ent hE ?_
  refine CW_ret ?_
  obtain rfl := Option.some.inj hF
  exact End_ret () (.tmp rfl rfl .nil) rfl (.sel .nil)

/-! impl.arePositions$1 -/
def i_arePositions_1 (a_i : Int) (a_e1 : Int) : Option (Bool) :=
  (i_within a_i 0 (IntKind.i64.wrap (a_e1 - 1))).bind fun r1 =>
  some (!r1)
theorem i_arePositions_1_ok (a_i : Int) (kc1 : Nat) (a_e1 : Int) (R : Bool) (hF : i_arePositions_1 a_i a_e1 = some R) :
    Fw.Spec Tryz.prog 148 [(.int .i64 a_i), (.pointer (some ⟨kc1, 0, some 0⟩))] [cboR kc1 3 (.int .i64 a_e1)] (fun _ : Unit => (.bool R)) (fun _ => []) := by
  refine Spec_enter (n := 9) Tryz.func148 rfl rfl (rs := [.tmp 3]) rfl rfl rfl ?_
  intro H0 F0
  unfold i_arePositions_1 at hF
  refine K_region (C_val (V_assign (v := (.bool false)) (.bool _)) ?_)
  refine C_nil (K_region (Cm (.int .i64 a_i) rfl rfl ?_))
  refine C_at .h (fun hp => V_load (v := (.int .i64 a_e1)) ag3 (.tmp rfl rfl) hp.2 rfl rfl) ?_
  refine C_val (V_sub (i := a_e1) (j := 1) (.tmp rfl rfl) (.int _ _)) ?_
  obtain ⟨r1, hx2, hF⟩ := bind_some hF
  refine C_x0 .nil (X_callS cf76 (.cons (.tmp rfl rfl) (.cons (.int _ _) (.cons (.tmp rfl rfl) .nil))) (i_within_ok a_i 0 (IntKind.i64.wrap (a_e1 - 1)) _ hx2)) (fun _ => ?_)
  refine C_val (V_not (b := r1) (.tmp rfl rfl)) ?_
  refine Ca (.bool (!r1)) rfl rfl ?_
  refine C_nil (CW_ret ?_)
  obtain rfl := Option.some.inj hF
  exact End_ret () (.tmp rfl rfl .nil) rfl (.sel .nil)

/-! slices.IndexFunc[[]int,int] -/
def g_slices_IndexFunc_int_int_iarePositions1_L1 (a_e1 : Int) : List Int → Nat → Option (Int)
  | [], k4 => some (-1)
  | x6 :: rest5, k4 => (i_arePositions_1 x6 a_e1).bind fun r15 =>
    if r15 then (
      some (k4 : Int))
    else (
      g_slices_IndexFunc_int_int_iarePositions1_L1 a_e1 rest5 (k4 + 1))
def g_slices_IndexFunc_int_int_iarePositions1 (a_s : List Int) (a_e1 : Int) : Option (Int) :=
  g_slices_IndexFunc_int_int_iarePositions1_L1 a_e1 a_s 0
theorem g_slices_IndexFunc_int_int_iarePositions1_ok (a_s : List Int) (v0_0 : Sv) (kc1 : Nat) (a_e1 : Int) (R : Int) (hF : g_slices_IndexFunc_int_int_iarePositions1 a_s a_e1 = some R) :
    Fw.Spec Tryz.prog 141 [v0_0.v, (.func (.func 148) [].toArray [(.pointer (some ⟨kc1, 0, some 0⟩))].toArray)] [crd (RdS 3 rdInt) v0_0.v a_s, cboR kc1 3 (.int .i64 a_e1)] (fun _ : Unit => (.int .i64 R)) (fun _ => []) := by
  refine Spec_enter (n := 19) Tryz.func141 rfl rfl (rs := [.tmp 4]) rfl rfl rfl ?_
  intro H0 F0
  unfold g_slices_IndexFunc_int_int_iarePositions1 at hF
  refine K_region (C_val (V_assign (v := (.int .i64 0)) (.int _ _)) ?_)
  refine C_nil (K_in (K_region (Cm v0_0.v rfl rfl ?_)))
  refine C_at .h (fun hp => V_lenR (l := a_s.length) sl22 (.tmp rfl rfl) (crd_len hp)) ?_
  refine C_val (V_move (v := (.int .i64 0)) (.int _ _)) ?_
  refine C_nil (CW_block (CW_loop (m := a_s.length) (fun m2 f' cs' => ∃ (g : Fr) (k4 : Nat) (rest5 : List Int), m2 = rest5.length ∧ f' = updL g [(0, v0_0.v), (1, (.func (.func 148) [].toArray [(.pointer (some ⟨kc1, 0, some 0⟩))].toArray)), (7, (.int .i64 (a_s.length : Int))), (8, (.int .i64 (k4 : Int)))] ∧ List.drop k4 a_s = rest5 ∧ Ent cs' [crd (RdS 3 rdInt) v0_0.v a_s, cboR kc1 3 (.int .i64 a_e1)] ∧ g_slices_IndexFunc_int_int_iarePositions1_L1 a_e1 rest5 k4 = some R) ⟨_, 0, _, rfl, (EqL.cons rfl (EqL.cons rfl (EqL.cons rfl (EqL.cons rfl (EqL.nil))))).eq, rfl, (.sel (.rd .h rfl (.rd (.t .h) rfl .nil))), hF⟩ ?_))
  clear hF
  rintro m2 _ _ ⟨g3, k4, rest5, rfl, rfl, hd7, hE, hF⟩
  refine K_ent hE ?_
  clear hE
  refine K_pure (c := crd (RdS 3 rdInt) v0_0.v a_s) .h crd_bound (fun hbd12 => ?_)
  rcases rest5 with _ | ⟨x6, rest5⟩
  · have hk8 := List.drop_eq_nil_iff.1 hd7
    have hfe11 : (decide (((k4 : Int) : Int) < (a_s.length : Int))) = false := decide_eq_false (by omega)
    rw [g_slices_IndexFunc_int_int_iarePositions1_L1] at hF
    refine K_region (C_val (V_lss (i := (k4 : Int)) (j := (a_s.length : Int)) (.tmp rfl rfl) (.tmp rfl rfl)) ?_)
    refine C_nil (K_in (CW_cond (b := (decide (((k4 : Int) : Int) < (a_s.length : Int)))) (.tmp rfl rfl) (fun hb => absurd (hfe11.symm.trans hb) (by decide)) (fun _ => ?_)))
    refine CW_exit ?_
    iterate 2 refine CThen_exit ?_
    refine CIn_self (K_region (C_val (V_assign (v := (.int .i64 (-1))) (.int _ _)) ?_))
    refine C_nil (CW_ret ?_)
    obtain rfl := Option.some.inj hF
    exact End_ret () (.tmp rfl rfl .nil) rfl (.sel .nil)
  obtain ⟨hk8, hx9, hd10⟩ := drop_cons hd7
  have hfe11 : (decide (((k4 : Int) : Int) < (a_s.length : Int))) = true := decide_eq_true (by omega)
  rw [g_slices_IndexFunc_int_int_iarePositions1_L1] at hF
  refine K_region (C_val (V_lss (i := (k4 : Int)) (j := (a_s.length : Int)) (.tmp rfl rfl) (.tmp rfl rfl)) ?_)
  refine C_nil (K_in (CW_cond (b := (decide (((k4 : Int) : Int) < (a_s.length : Int)))) (.tmp rfl rfl) (fun _ => ?_) (fun hb => absurd (hfe11.symm.trans hb) (by decide))))
  refine CW_skip (K_block (K_region (Cm (.int .i64 (k4 : Int)) rfl rfl ?_)))
  refine Ca (.int .i64 (k4 : Int)) rfl rfl ?_
  refine C_nil (K_region (Cm (.func (.func 148) [].toArray [(.pointer (some ⟨kc1, 0, some 0⟩))].toArray) rfl rfl ?_))
  refine Cm v0_0.v rfl rfl ?_
  refine Cm (.int .i64 (k4 : Int)) rfl rfl ?_
  refine C_idx (a := x6) sl22 ty3.sz (.tmp rfl rfl) (.tmp rfl rfl) .h (Int.natCast_nonneg k4) hx9 (fun k13 j14 => ?_)
  refine C_ldS (w := (.int .i64 x6)) ag3 (.tmp rfl rfl) .h ls3_0 ?_
  obtain ⟨r15, hx16, hF⟩ := bind_some hF
  refine C_x0 (.rd (.t (.t .h)) rfl .nil) (X_callCS cf148 (.tmp rfl rfl) (.cons (.tmp rfl rfl) .nil) (i_arePositions_1_ok x6 kc1 a_e1 _ hx16)) (fun _ => ?_)
  refine C_nil (CW_cond (b := r15) (.tmp rfl rfl) (fun hb19 => ?_) (fun hb19 => ?_))
  · rw [if_pos hb19] at hF
    refine K_region (Cm (.int .i64 (k4 : Int)) rfl rfl ?_)
    refine Ca (.int .i64 (k4 : Int)) rfl rfl ?_
    refine C_nil (CW_ret ?_)
    obtain rfl := Option.some.inj hF
    exact End_ret () (.tmp rfl rfl .nil) rfl (.sel .nil)
  rw [if_neg (by rw [hb19]; exact Bool.false_ne_true)] at hF
  refine CW_skip (CW_region (C_val (V_add (i := (k4 : Int)) (j := 1) (.tmp rfl rfl) (.int _ _)) ?_))
  refine Cm (.int .i64 (IntKind.i64.wrap ((k4 : Int) + 1))) rfl rfl ?_
  refine C_nil ?_
  have hw18 : IntKind.i64.wrap ((k4 : Int) + 1) = ((k4 + 1 : Nat) : Int) := by rw [wrap_in (by omega) (by omega)]; rfl
  rw [hw18]
  exact ⟨_, Nat.lt_succ_self _, _, k4 + 1, rest5, rfl, (EqL.cons rfl (EqL.cons rfl (EqL.cons rfl (EqL.cons rfl (EqL.nil))))).eq, hd10, (.sel (.rd (.t .h) rfl (.rd (.t (.t .h)) rfl .nil))), hF⟩

/-! slices.ContainsFunc[[]int,int] -/
def g_slices_ContainsFunc_int_int_iarePositions1 (a_s : List Int) (a_e1 : Int) : Option (Bool) :=
  (g_slices_IndexFunc_int_int_iarePositions1 a_s a_e1).bind fun r1 =>
  some (decide ((0 : Int) ≤ r1))
theorem g_slices_ContainsFunc_int_int_iarePositions1_ok (a_s : List Int) (v0_0 : Sv) (kc1 : Nat) (a_e1 : Int) (R : Bool) (hF : g_slices_ContainsFunc_int_int_iarePositions1 a_s a_e1 = some R) :
    Fw.Spec Tryz.prog 114 [v0_0.v, (.func (.func 148) [].toArray [(.pointer (some ⟨kc1, 0, some 0⟩))].toArray)] [crd (RdS 3 rdInt) v0_0.v a_s, cboR kc1 3 (.int .i64 a_e1)] (fun _ : Unit => (.bool R)) (fun _ => []) := by
  refine Spec_enter (n := 9) Tryz.func114 rfl rfl (rs := [.tmp 4]) rfl rfl rfl ?_
  intro H0 F0
  unfold g_slices_ContainsFunc_int_int_iarePositions1 at hF
  refine K_region (C_val (V_assign (v := (.bool false)) (.bool _)) ?_)
  refine C_nil (K_region (Cm v0_0.v rfl rfl ?_))
  refine Cm (.func (.func 148) [].toArray [(.pointer (some ⟨kc1, 0, some 0⟩))].toArray) rfl rfl ?_
  obtain ⟨r1, hx2, hF⟩ := bind_some hF
  refine C_x0 (.rd .h rfl (.rd (.t .h) rfl .nil)) (X_callS cf141 (.cons (.tmp rfl rfl) (.cons (.tmp rfl rfl) .nil)) (g_slices_IndexFunc_int_int_iarePositions1_ok a_s v0_0 kc1 a_e1 _ hx2)) (fun _ => ?_)
  refine C_val (V_geq (i := r1) (j := 0) (.tmp rfl rfl) (.int _ _)) ?_
  refine Ca (.bool (decide ((0 : Int) ≤ r1))) rfl rfl ?_
  refine C_nil (CW_ret ?_)
  obtain rfl := Option.some.inj hF
  exact End_ret () (.tmp rfl rfl .nil) rfl (.sel .nil)

/-! impl.arePositions -/
def i_arePositions (a_l : List Int) (a_arity : Int) : Option (Bool) :=
  (g_slices_ContainsFunc_int_int_iarePositions1 a_l a_arity).bind fun r2 =>
  some (!r2)
theorem i_arePositions_ok (a_l : List Int) (v0_0 : Sv) (a_arity : Int) (R : Bool) (hF : i_arePositions a_l a_arity = some R) :
    Fw.Spec Tryz.prog 133 [v0_0.v, (.int .i64 a_arity)] [crd (RdS 3 rdInt) v0_0.v a_l] (fun _ : Unit => (.bool R)) (fun _ => []) := by
  refine Spec_enter (n := 9) Tryz.func133 rfl rfl (rs := [.tmp 4]) rfl rfl rfl ?_
  intro H0 F0
  unfold i_arePositions at hF
  refine K_region (C_newR rfl (N_box (g := false) (v := (.int .i64 a_arity)) ty3.sz (.tmp rfl rfl) rfl) (fun k1 => ?_))
  refine C_val (V_assign (v := (.bool false)) (.bool _)) ?_
  refine C_nil (K_region (Cm v0_0.v rfl rfl ?_))
  refine C_val (V_makeFunc (fn := .func 148) (vs := []) (us := [(.pointer (some ⟨k1, 0, some 0⟩))]) .nil (.cons (.tmp rfl rfl) .nil)) ?_
  obtain ⟨r2, hx3, hF⟩ := bind_some hF
  refine C_x0 (.rd (.t .h) rfl (.rd .h rfl .nil)) (X_callS cf114 (.cons (.tmp rfl rfl) (.cons (.tmp rfl rfl) .nil)) (g_slices_ContainsFunc_int_int_iarePositions1_ok a_l v0_0 k1 a_arity _ hx3)) (fun _ => ?_)
  refine C_val (V_not (b := r2) (.tmp rfl rfl)) ?_
  refine Ca (.bool (!r2)) rfl rfl ?_
  refine C_nil (CW_ret ?_)
  obtain rfl := Option.some.inj hF
  exact End_ret () (.tmp rfl rfl .nil) rfl (.sel .nil)

/-! impl.IsRule -/
def i_IsRule (a_s : List Int) (a_r : Rule) : Option (Bool) :=
  ((i_hasRel a_s a_r.From).bind fun r4 =>
    bif r4 then ((i_hasRel a_s a_r.To).bind fun r8 =>
      bif r8 then ((ix a_s a_r.To).bind fun x12 =>
        bif (((a_r.Map.length : Int) : Int) == x12) then ((ix a_s a_r.From).bind fun x19 =>
          (i_arePositions a_r.Map x19).bind fun r25 =>
          some r25)
        else (some false))
      else (some false))
    else (some false)).bind fun o2 =>
  match o2 with
  | c28 => some c28
theorem i_IsRule_ok (a_s : List Int) (v0_0 : Sv) (a_r : Rule) (v1_2 : Sv) (R : Bool) (hF : i_IsRule a_s a_r = some R) :
    Fw.Spec Tryz.prog 108 [v0_0.v, (.agg [(.int .i64 a_r.From), (.int .i64 a_r.To), v1_2.v].toArray)] [crd (RdS 3 rdInt) v0_0.v a_s, crd (RdS 3 rdInt) v1_2.v a_r.Map] (fun _ : Unit => (.bool R)) (fun _ => []) := by
  refine Spec_enter (n := 36) Tryz.func108 rfl rfl (rs := [.tmp 4]) rfl rfl rfl ?_
  intro H0 F0
  unfold i_IsRule at hF
  refine K_region (C_newR rfl (N_box (g := false) (v := (.agg [(.int .i64 a_r.From), (.int .i64 a_r.To), v1_2.v].toArray)) ty110.sz (.tmp rfl rfl) rfl) (fun k1 => ?_))
  refine C_val (V_assign (v := (.bool false)) (.bool _)) ?_
  refine C_nil ?_
  obtain ⟨o2, hio2, hO3⟩ := bind_some hF
  refine K_draw [0, 1, 2, 3, 4, 5, 6, 7, 8, 9, 10, 11, 12, 13, 14, 15, 16, 17, 18, 19, 20, 21, 22, 23, 24, 25, 26, 27, 28, 29, 30, 31] [0, 0, 2, 7, 15, 31, 31, 95, 255, 511, 1023, 2047, 4095, 8191, 2047, 2047, 34815, 116735, 247807, 524287, 1048575, 2097151, 4194303, 8388607, 4194303, 4194303, 37748735, 121634815, 255852543, 536870911, 1073741823, 2147483647] [3, 8, 29] mixed (by decide +kernel) ?_
  refine D_cut (fun f' cs' => ∃ (c28 : Bool) (g : Fr), c28 = o2 ∧ f' = updL g [(4, (.bool c28))] ∧ Ent cs' []) ?_ ?_
  · replace hF := hio2
    refine Dm v0_0.v rfl rfl rfl rfl ?_
    refine D_val rfl .no (fun ha => V_fieldAddr (off := 0) fd110_0 (EN ha (.tmp rfl rfl) rfl)) ?_
    refine D_at rfl .no .h rfl (fun ha hp => V_load (v := (.int .i64 a_r.From)) ag3 (EN ha (.tmp rfl rfl) rfl) hp.2 rfl rfl) ?_
    obtain ⟨r4, hx5, hF⟩ := bind_some hF
    refine D_act0 rfl rfl .no (.rd (.t .h) rfl .nil) .nil (fun ha => X_callS cf130 (.cons (EN ha (.tmp rfl rfl) rfl) (.cons (EN ha (.tmp rfl rfl) rfl) .nil)) (i_hasRel_ok a_s v0_0 a_r.From _ hx5)) (fun _ => ?_)
    refine Dm (.bool r4) rfl rfl rfl rfl ?_
    rcases Bool.eq_false_or_eq_true r4 with hg7 | hg7
    · rw [hg7]
      try rw [hg7] at hF; dsimp only [cond_true, cond_false] at hF
      refine D_val rfl (.on 9 rfl rfl rfl) (fun ha => V_move (v := v0_0.v) (EN ha (.tmp rfl rfl) rfl)) ?_
      refine D_val rfl (.on 9 rfl rfl rfl) (fun ha => V_fieldAddr (off := 1) fd110_1 (EN ha (.tmp rfl rfl) rfl)) ?_
      refine D_at rfl (.on 9 rfl rfl rfl) .h rfl (fun ha hp => V_load (v := (.int .i64 a_r.To)) ag3 (EN ha (.tmp rfl rfl) rfl) hp.2 rfl rfl) ?_
      obtain ⟨r8, hx9, hF⟩ := bind_some hF
      refine D_act0 rfl rfl (.on 9 rfl rfl rfl) (.rd (.t .h) rfl .nil) .nil (fun ha => X_callS cf130 (.cons (EN ha (.tmp rfl rfl) rfl) (.cons (EN ha (.tmp rfl rfl) rfl) .nil)) (i_hasRel_ok a_s v0_0 a_r.To _ hx9)) (fun _ => ?_)
      refine D_val rfl .no (fun ha => V_pick (b := true) (u := (.bool r8)) (v := (.bool false)) (EN ha (.tmp rfl rfl) rfl) (EN ha (.tmp rfl rfl) rfl) (EN ha (.bool _) rfl)) ?_
      refine Dm (.bool r8) rfl rfl rfl rfl ?_
      rcases Bool.eq_false_or_eq_true r8 with hg11 | hg11
      · rw [hg11]
        try rw [hg11] at hF; dsimp only [cond_true, cond_false] at hF
        refine D_val rfl (.on 15 rfl rfl rfl) (fun ha => V_fieldAddr (off := 2) fd110_2 (EN ha (.tmp rfl rfl) rfl)) ?_
        refine D_at rfl (.on 15 rfl rfl rfl) .h rfl (fun ha hp => V_load (v := v1_2.v) ag22 (EN ha (.tmp rfl rfl) rfl) hp.2 rfl rfl) ?_
        refine D_at rfl (.on 15 rfl rfl rfl) (.t (.t .h)) rfl (fun ha hp => V_lenR (l := a_r.Map.length) sl22 (EN ha (.tmp rfl rfl) rfl) (crd_len hp)) ?_
        refine D_val rfl (.on 15 rfl rfl rfl) (fun ha => V_move (v := v0_0.v) (EN ha (.tmp rfl rfl) rfl)) ?_
        refine D_val rfl (.on 15 rfl rfl rfl) (fun ha => V_fieldAddr (off := 1) fd110_1 (EN ha (.tmp rfl rfl) rfl)) ?_
        refine D_at rfl (.on 15 rfl rfl rfl) .h rfl (fun ha hp => V_load (v := (.int .i64 a_r.To)) ag3 (EN ha (.tmp rfl rfl) rfl) hp.2 rfl rfl) ?_
        obtain ⟨x12, hx13, hF⟩ := bind_some hF
        obtain ⟨hp14, hx15⟩ := ix_some hx13
        refine D_idx (a := x12) sl22 ty3.sz rfl (.on 15 rfl rfl rfl) (.tmp rfl rfl) (.tmp rfl rfl) rfl rfl (.t .h) hp14 hx15 (fun k16 j17 => ?_)
        refine D_ldS (w := (.int .i64 x12)) ag3 rfl (.on 15 rfl rfl rfl) (.tmp rfl rfl) rfl .h ls3_0 ?_
        refine D_val rfl (.on 15 rfl rfl rfl) (fun ha => V_eql (i := (a_r.Map.length : Int)) (j := x12) (EN ha (.tmp rfl rfl) rfl) (EN ha (.tmp rfl rfl) rfl)) ?_
        refine D_val rfl .no (fun ha => V_pick (b := true) (u := (.bool (((a_r.Map.length : Int) : Int) == x12))) (v := (.bool false)) (EN ha (.tmp rfl rfl) rfl) (EN ha (.tmp rfl rfl) rfl) (EN ha (.bool _) rfl)) ?_
        refine Dm (.bool (((a_r.Map.length : Int) : Int) == x12)) rfl rfl rfl rfl ?_
        rcases Bool.eq_false_or_eq_true (((a_r.Map.length : Int) : Int) == x12) with hg18 | hg18
        · rw [hg18]
          try rw [hg18] at hF; dsimp only [cond_true, cond_false] at hF
          refine D_val rfl (.on 26 rfl rfl rfl) (fun ha => V_fieldAddr (off := 2) fd110_2 (EN ha (.tmp rfl rfl) rfl)) ?_
          refine D_at rfl (.on 26 rfl rfl rfl) (.t .h) rfl (fun ha hp => V_load (v := v1_2.v) ag22 (EN ha (.tmp rfl rfl) rfl) hp.2 rfl rfl) ?_
          refine D_val rfl (.on 26 rfl rfl rfl) (fun ha => V_move (v := v0_0.v) (EN ha (.tmp rfl rfl) rfl)) ?_
          refine D_val rfl (.on 26 rfl rfl rfl) (fun ha => V_fieldAddr (off := 0) fd110_0 (EN ha (.tmp rfl rfl) rfl)) ?_
          refine D_at rfl (.on 26 rfl rfl rfl) (.t .h) rfl (fun ha hp => V_load (v := (.int .i64 a_r.From)) ag3 (EN ha (.tmp rfl rfl) rfl) hp.2 rfl rfl) ?_
          obtain ⟨x19, hx20, hF⟩ := bind_some hF
          obtain ⟨hp21, hx22⟩ := ix_some hx20
          refine D_idx (a := x19) sl22 ty3.sz rfl (.on 26 rfl rfl rfl) (.tmp rfl rfl) (.tmp rfl rfl) rfl rfl (.t (.t .h)) hp21 hx22 (fun k23 j24 => ?_)
          refine D_ldS (w := (.int .i64 x19)) ag3 rfl (.on 26 rfl rfl rfl) (.tmp rfl rfl) rfl .h ls3_0 ?_
          obtain ⟨r25, hx26, hF⟩ := bind_some hF
          refine D_act0 rfl rfl (.on 26 rfl rfl rfl) (.rd (.t (.t (.t (.t .h)))) rfl .nil) .nil (fun ha => X_callS cf133 (.cons (EN ha (.tmp rfl rfl) rfl) (.cons (EN ha (.tmp rfl rfl) rfl) .nil)) (i_arePositions_ok a_r.Map v1_2 x19 _ hx26)) (fun _ => ?_)
          refine D_val rfl .no (fun ha => V_pick (b := true) (u := (.bool r25)) (v := (.bool false)) (EN ha (.tmp rfl rfl) rfl) (EN ha (.tmp rfl rfl) rfl) (EN ha (.bool _) rfl)) ?_
          refine Da (.bool r25) rfl rfl rfl rfl ?_
          refine D_nil ?_
          obtain rfl := Option.some.inj hF
          exact ⟨_, _, rfl, (EqL.cons rfl (EqL.nil)).eq, (.sel .nil)⟩
        rw [hg18]
        try rw [hg18] at hF; dsimp only [cond_true, cond_false] at hF
        iterate 8 refine D_off 26 rfl rfl rfl rfl ?_
        refine D_val rfl .no (fun ha => V_pick (b := false) (u := undef) (v := (.bool false)) (EN ha (.tmp rfl rfl) rfl) (EN ha (.tmp rfl rfl) rfl) (EN ha (.bool _) rfl)) ?_
        refine Da (.bool false) rfl rfl rfl rfl ?_
        refine D_nil ?_
        obtain rfl := Option.some.inj hF
        exact ⟨_, _, rfl, (EqL.cons rfl (EqL.nil)).eq, (.sel .nil)⟩
      rw [hg11]
      try rw [hg11] at hF; dsimp only [cond_true, cond_false] at hF
      iterate 9 refine D_off 15 rfl rfl rfl rfl ?_
      refine D_val rfl .no (fun ha => V_pick (b := false) (u := undef) (v := (.bool false)) (EN ha (.tmp rfl rfl) rfl) (EN ha (.tmp rfl rfl) rfl) (EN ha (.bool _) rfl)) ?_
      refine Dm (.bool false) rfl rfl rfl rfl ?_
      iterate 8 refine D_off 26 rfl rfl rfl rfl ?_
      refine D_val rfl .no (fun ha => V_pick (b := false) (u := undef) (v := (.bool false)) (EN ha (.tmp rfl rfl) rfl) (EN ha (.tmp rfl rfl) rfl) (EN ha (.bool _) rfl)) ?_
      refine Da (.bool false) rfl rfl rfl rfl ?_
      refine D_nil ?_
      obtain rfl := Option.some.inj hF
      exact ⟨_, _, rfl, (EqL.cons rfl (EqL.nil)).eq, (.sel .nil)⟩
    rw [hg7]
    try rw [hg7] at hF; dsimp only [cond_true, cond_false] at hF
    iterate 4 refine D_off 9 rfl rfl rfl rfl ?_
    refine D_val rfl .no (fun ha => V_pick (b := false) (u := undef) (v := (.bool false)) (EN ha (.tmp rfl rfl) rfl) (EN ha (.tmp rfl rfl) rfl) (EN ha (.bool _) rfl)) ?_
    refine Dm (.bool false) rfl rfl rfl rfl ?_
    iterate 9 refine D_off 15 rfl rfl rfl rfl ?_
    refine D_val rfl .no (fun ha => V_pick (b := false) (u := undef) (v := (.bool false)) (EN ha (.tmp rfl rfl) rfl) (EN ha (.tmp rfl rfl) rfl) (EN ha (.bool _) rfl)) ?_
    refine Dm (.bool false) rfl rfl rfl rfl ?_
    iterate 8 refine D_off 26 rfl rfl rfl rfl ?_
    refine D_val rfl .no (fun ha => V_pick (b := false) (u := undef) (v := (.bool false)) (EN ha (.tmp rfl rfl) rfl) (EN ha (.tmp rfl rfl) rfl) (EN ha (.bool _) rfl)) ?_
    refine Da (.bool false) rfl rfl rfl rfl ?_
    refine D_nil ?_
    obtain rfl := Option.some.inj hF
    exact ⟨_, _, rfl, (EqL.cons rfl (EqL.nil)).eq, (.sel .nil)⟩
  rintro _ _ ⟨c28, g29, rfl, rfl, hE⟩
  replace hF := hO3
  clear hO3
  try dsimp only at hF
  refine K_ent hE ?_
  refine CW_ret ?_
  obtain rfl := Option.some.inj hF
  exact End_ret () (.tmp rfl rfl .nil) rfl (.sel .nil)

/-! impl.AreRules$1 -/
def i_AreRules_1 (a_r : Rule) (a_e1 : List Int) : Option (Bool) :=
  (i_IsRule a_e1 a_r).bind fun r2 =>
  some (!r2)
theorem i_AreRules_1_ok (a_r : Rule) (v0_2 : Sv) (kc1 : Nat) (a_e1 : List Int) (vc1_0 : Sv) (R : Bool) (hF : i_AreRules_1 a_r a_e1 = some R) :
    Fw.Spec Tryz.prog 107 [(.agg [(.int .i64 a_r.From), (.int .i64 a_r.To), v0_2.v].toArray), (.pointer (some ⟨kc1, 0, some 0⟩))] [crd (RdS 3 rdInt) v0_2.v a_r.Map, cboR kc1 22 vc1_0.v, crd (RdS 3 rdInt) vc1_0.v a_e1] (fun _ : Unit => (.bool R)) (fun _ => []) := by
  refine Spec_enter (n := 8) Tryz.func107 rfl rfl (rs := [.tmp 3]) rfl rfl rfl ?_
  intro H0 F0
  unfold i_AreRules_1 at hF
  refine K_region (C_newR rfl (N_box (g := false) (v := (.agg [(.int .i64 a_r.From), (.int .i64 a_r.To), v0_2.v].toArray)) ty110.sz (.tmp rfl rfl) rfl) (fun k1 => ?_))
  refine C_val (V_assign (v := (.bool false)) (.bool _)) ?_
  refine C_nil (K_region (C_at (.t (.t .h)) (fun hp => V_load (v := vc1_0.v) ag22 (.tmp rfl rfl) hp.2 rfl rfl) ?_))
  refine C_at .h (fun hp => V_loadBox ag110 ty110.sz rfl (.tmp rfl rfl) hp.2 rfl) ?_
  obtain ⟨r2, hx3, hF⟩ := bind_some hF
  refine C_x0 (.rd (.t (.t (.t .h))) rfl (.rd (.t .h) rfl .nil)) (X_callS cf108 (.cons (.tmp rfl rfl) (.cons (.tmp rfl rfl) .nil)) (i_IsRule_ok a_e1 vc1_0 a_r v0_2 _ hx3)) (fun _ => ?_)
  refine C_val (V_not (b := r2) (.tmp rfl rfl)) ?_
  refine Ca (.bool (!r2)) rfl rfl ?_
  refine C_nil (CW_ret ?_)
  obtain rfl := Option.some.inj hF
  exact End_ret () (.tmp rfl rfl .nil) rfl (.sel .nil)

/-! impl.Rule] -/
def g_slices_IndexFunc_impl_Rule_impl_Rule_iAreRules1_L1 (a_e1 : List Int) : List Rule → Nat → Option (Int)
  | [], k4 => some (-1)
  | x6 :: rest5, k4 => (i_AreRules_1 x6 a_e1).bind fun r16 =>
    if r16 then (
      some (k4 : Int))
    else (
      g_slices_IndexFunc_impl_Rule_impl_Rule_iAreRules1_L1 a_e1 rest5 (k4 + 1))
def g_slices_IndexFunc_impl_Rule_impl_Rule_iAreRules1 (a_s : List Rule) (a_e1 : List Int) : Option (Int) :=
  g_slices_IndexFunc_impl_Rule_impl_Rule_iAreRules1_L1 a_e1 a_s 0
theorem g_slices_IndexFunc_impl_Rule_impl_Rule_iAreRules1_ok (a_s : List Rule) (v0_0 : Sv) (kc1 : Nat) (a_e1 : List Int) (vc1_0 : Sv) (R : Int) (hF : g_slices_IndexFunc_impl_Rule_impl_Rule_iAreRules1 a_s a_e1 = some R) :
    Fw.Spec Tryz.prog 132 [v0_0.v, (.func (.func 107) [].toArray [(.pointer (some ⟨kc1, 0, some 0⟩))].toArray)] [crd (RdS 110 rd110) v0_0.v a_s, cboR kc1 22 vc1_0.v, crd (RdS 3 rdInt) vc1_0.v a_e1] (fun _ : Unit => (.int .i64 R)) (fun _ => []) := by
  refine Spec_enter (n := 19) Tryz.func132 rfl rfl (rs := [.tmp 4]) rfl rfl rfl ?_
  intro H0 F0
  unfold g_slices_IndexFunc_impl_Rule_impl_Rule_iAreRules1 at hF
  refine K_region (C_val (V_assign (v := (.int .i64 0)) (.int _ _)) ?_)
  refine C_nil (K_in (K_region (Cm v0_0.v rfl rfl ?_)))
  refine C_at .h (fun hp => V_lenR (l := a_s.length) sl38 (.tmp rfl rfl) (crd_len hp)) ?_
  refine C_val (V_move (v := (.int .i64 0)) (.int _ _)) ?_
  refine C_nil (CW_block (CW_loop (m := a_s.length) (fun m2 f' cs' => ∃ (g : Fr) (k4 : Nat) (rest5 : List Rule), m2 = rest5.length ∧ f' = updL g [(0, v0_0.v), (1, (.func (.func 107) [].toArray [(.pointer (some ⟨kc1, 0, some 0⟩))].toArray)), (7, (.int .i64 (a_s.length : Int))), (8, (.int .i64 (k4 : Int)))] ∧ List.drop k4 a_s = rest5 ∧ Ent cs' [crd (RdS 110 rd110) v0_0.v a_s, cboR kc1 22 vc1_0.v, crd (RdS 3 rdInt) vc1_0.v a_e1] ∧ g_slices_IndexFunc_impl_Rule_impl_Rule_iAreRules1_L1 a_e1 rest5 k4 = some R) ⟨_, 0, _, rfl, (EqL.cons rfl (EqL.cons rfl (EqL.cons rfl (EqL.cons rfl (EqL.nil))))).eq, rfl, (.sel (.rd .h rfl (.rd (.t .h) rfl (.rd (.t (.t .h)) rfl .nil)))), hF⟩ ?_))
  clear hF
  rintro m2 _ _ ⟨g3, k4, rest5, rfl, rfl, hd7, hE, hF⟩
  refine K_ent hE ?_
  clear hE
  refine K_pure (c := crd (RdS 110 rd110) v0_0.v a_s) .h crd_bound (fun hbd12 => ?_)
  rcases rest5 with _ | ⟨x6, rest5⟩
  · have hk8 := List.drop_eq_nil_iff.1 hd7
    have hfe11 : (decide (((k4 : Int) : Int) < (a_s.length : Int))) = false := decide_eq_false (by omega)
    rw [g_slices_IndexFunc_impl_Rule_impl_Rule_iAreRules1_L1] at hF
    refine K_region (C_val (V_lss (i := (k4 : Int)) (j := (a_s.length : Int)) (.tmp rfl rfl) (.tmp rfl rfl)) ?_)
    refine C_nil (K_in (CW_cond (b := (decide (((k4 : Int) : Int) < (a_s.length : Int)))) (.tmp rfl rfl) (fun hb => absurd (hfe11.symm.trans hb) (by decide)) (fun _ => ?_)))
    refine CW_exit ?_
    iterate 2 refine CThen_exit ?_
    refine CIn_self (K_region (C_val (V_assign (v := (.int .i64 (-1))) (.int _ _)) ?_))
    refine C_nil (CW_ret ?_)
    obtain rfl := Option.some.inj hF
    exact End_ret () (.tmp rfl rfl .nil) rfl (.sel .nil)
  obtain ⟨hk8, hx9, hd10⟩ := drop_cons hd7
  have hfe11 : (decide (((k4 : Int) : Int) < (a_s.length : Int))) = true := decide_eq_true (by omega)
  rw [g_slices_IndexFunc_impl_Rule_impl_Rule_iAreRules1_L1] at hF
  refine K_region (C_val (V_lss (i := (k4 : Int)) (j := (a_s.length : Int)) (.tmp rfl rfl) (.tmp rfl rfl)) ?_)
  refine C_nil (K_in (CW_cond (b := (decide (((k4 : Int) : Int) < (a_s.length : Int)))) (.tmp rfl rfl) (fun _ => ?_) (fun hb => absurd (hfe11.symm.trans hb) (by decide))))
  refine CW_skip (K_block (K_region (Cm (.int .i64 (k4 : Int)) rfl rfl ?_)))
  refine Ca (.int .i64 (k4 : Int)) rfl rfl ?_
  refine C_nil (K_region (Cm (.func (.func 107) [].toArray [(.pointer (some ⟨kc1, 0, some 0⟩))].toArray) rfl rfl ?_))
  refine Cm v0_0.v rfl rfl ?_
  refine Cm (.int .i64 (k4 : Int)) rfl rfl ?_
  refine C_idx (a := x6) sl38 ty110.sz (.tmp rfl rfl) (.tmp rfl rfl) .h (Int.natCast_nonneg k4) hx9 (fun k13 j14 => ?_)
  refine C_ldA1 (ul110_0_110 x6) ag110 ty110.sz rfl (.tmp rfl rfl) .h la110_0_110 (fun p15 => ?_)
  obtain ⟨r16, hx17, hF⟩ := bind_some hF
  refine C_x0 (.rd .h rfl (.rd (.t (.t (.t .h))) rfl (.rd (.t (.t (.t (.t .h)))) rfl .nil))) (X_callCS cf107 (.tmp rfl rfl) (.cons (.tmp rfl rfl) .nil) (i_AreRules_1_ok x6 p15 kc1 a_e1 vc1_0 _ hx17)) (fun _ => ?_)
  refine C_nil (CW_cond (b := r16) (.tmp rfl rfl) (fun hb20 => ?_) (fun hb20 => ?_))
  · rw [if_pos hb20] at hF
    refine K_region (Cm (.int .i64 (k4 : Int)) rfl rfl ?_)
    refine Ca (.int .i64 (k4 : Int)) rfl rfl ?_
    refine C_nil (CW_ret ?_)
    obtain rfl := Option.some.inj hF
    exact End_ret () (.tmp rfl rfl .nil) rfl (.sel .nil)
  rw [if_neg (by rw [hb20]; exact Bool.false_ne_true)] at hF
  refine CW_skip (CW_region (C_val (V_add (i := (k4 : Int)) (j := 1) (.tmp rfl rfl) (.int _ _)) ?_))
  refine Cm (.int .i64 (IntKind.i64.wrap ((k4 : Int) + 1))) rfl rfl ?_
  refine C_nil ?_
  have hw19 : IntKind.i64.wrap ((k4 : Int) + 1) = ((k4 + 1 : Nat) : Int) := by rw [wrap_in (by omega) (by omega)]; rfl
  rw [hw19]
  exact ⟨_, Nat.lt_succ_self _, _, k4 + 1, rest5, rfl, (EqL.cons rfl (EqL.cons rfl (EqL.cons rfl (EqL.cons rfl (EqL.nil))))).eq, hd10, (.sel (.rd (.t (.t .h)) rfl (.rd (.t (.t (.t .h))) rfl (.rd (.t (.t (.t (.t .h)))) rfl .nil)))), hF⟩

/-! impl.Rule] -/
def g_slices_ContainsFunc_impl_Rule_impl_Rule_iAreRules1 (a_s : List Rule) (a_e1 : List Int) : Option (Bool) :=
  (g_slices_IndexFunc_impl_Rule_impl_Rule_iAreRules1 a_s a_e1).bind fun r1 =>
  some (decide ((0 : Int) ≤ r1))
theorem g_slices_ContainsFunc_impl_Rule_impl_Rule_iAreRules1_ok (a_s : List Rule) (v0_0 : Sv) (kc1 : Nat) (a_e1 : List Int) (vc1_0 : Sv) (R : Bool) (hF : g_slices_ContainsFunc_impl_Rule_impl_Rule_iAreRules1 a_s a_e1 = some R) :
    Fw.Spec Tryz.prog 106 [v0_0.v, (.func (.func 107) [].toArray [(.pointer (some ⟨kc1, 0, some 0⟩))].toArray)] [crd (RdS 110 rd110) v0_0.v a_s, cboR kc1 22 vc1_0.v, crd (RdS 3 rdInt) vc1_0.v a_e1] (fun _ : Unit => (.bool R)) (fun _ => []) := by
  refine Spec_enter (n := 9) Tryz.func106 rfl rfl (rs := [.tmp 4]) rfl rfl rfl ?_
  intro H0 F0
  unfold g_slices_ContainsFunc_impl_Rule_impl_Rule_iAreRules1 at hF
  refine K_region (C_val (V_assign (v := (.bool false)) (.bool _)) ?_)
  refine C_nil (K_region (Cm v0_0.v rfl rfl ?_))
  refine Cm (.func (.func 107) [].toArray [(.pointer (some ⟨kc1, 0, some 0⟩))].toArray) rfl rfl ?_
  obtain ⟨r1, hx2, hF⟩ := bind_some hF
  refine C_x0 (.rd .h rfl (.rd (.t .h) rfl (.rd (.t (.t .h)) rfl .nil))) (X_callS cf132 (.cons (.tmp rfl rfl) (.cons (.tmp rfl rfl) .nil)) (g_slices_IndexFunc_impl_Rule_impl_Rule_iAreRules1_ok a_s v0_0 kc1 a_e1 vc1_0 _ hx2)) (fun _ => ?_)
  refine C_val (V_geq (i := r1) (j := 0) (.tmp rfl rfl) (.int _ _)) ?_
  refine Ca (.bool (decide ((0 : Int) ≤ r1))) rfl rfl ?_
  refine C_nil (CW_ret ?_)
  obtain rfl := Option.some.inj hF
  exact End_ret () (.tmp rfl rfl .nil) rfl (.sel .nil)

/-! impl.AreRules -/
def i_AreRules (a_s : List Int) (a_l : List Rule) : Option (Bool) :=
  ((i_IsSchema a_s).bind fun r4 =>
    bif r4 then (bif (decide (((a_l.length : Int) : Int) ≤ 4)) then ((g_slices_ContainsFunc_impl_Rule_impl_Rule_iAreRules1 a_l a_s).bind fun r9 =>
        some (!r9))
      else (some false))
    else (some false)).bind fun o2 =>
  match o2 with
  | c12 => some c12
theorem i_AreRules_ok (a_s : List Int) (v0_0 : Sv) (a_l : List Rule) (v1_0 : Sv) (R : Bool) (hF : i_AreRules a_s a_l = some R) :
    Fw.Spec Tryz.prog 68 [v0_0.v, v1_0.v] [crd (RdS 3 rdInt) v0_0.v a_s, crd (RdS 110 rd110) v1_0.v a_l] (fun _ : Unit => (.bool R)) (fun _ => []) := by
  refine Spec_enter (n := 18) Tryz.func68 rfl rfl (rs := [.tmp 4]) rfl rfl rfl ?_
  intro H0 F0
  unfold i_AreRules at hF
  refine K_region (C_newR rfl (N_box (g := false) (v := v0_0.v) ty22.sz (.tmp rfl rfl) rfl) (fun k1 => ?_))
  refine C_val (V_assign (v := (.bool false)) (.bool _)) ?_
  refine C_nil ?_
  obtain ⟨o2, hio2, hO3⟩ := bind_some hF
  refine K_region (C_cut (fun f' cs' => ∃ (c12 : Bool) (g : Fr), c12 = o2 ∧ f' = updL g [(4, (.bool c12))] ∧ Ent cs' []) ?_ ?_)
  · replace hF := hio2
    refine C_at .h (fun hp => V_load (v := v0_0.v) ag22 (.tmp rfl rfl) hp.2 rfl rfl) ?_
    obtain ⟨r4, hx5, hF⟩ := bind_some hF
    refine C_x0 (.rd (.t .h) rfl .nil) (X_callS cf102 (.cons (.tmp rfl rfl) .nil) (i_IsSchema_ok a_s v0_0 _ hx5)) (fun _ => ?_)
    refine Cm (.bool r4) rfl rfl ?_
    rcases Bool.eq_false_or_eq_true r4 with hg7 | hg7
    · rw [hg7]
      try rw [hg7] at hF; dsimp only [cond_true, cond_false] at hF
      refine C_on (t := 7) rfl rfl rfl ?_
      refine Cm v1_0.v rfl rfl ?_
      refine C_on (t := 7) rfl rfl rfl ?_
      refine C_at (.t (.t .h)) (fun hp => V_lenR (l := a_l.length) sl38 (.tmp rfl rfl) (crd_len hp)) ?_
      refine C_on (t := 7) rfl rfl rfl ?_
      refine C_val (V_leq (i := (a_l.length : Int)) (j := 4) (.tmp rfl rfl) (.int _ _)) ?_
      refine C_val (V_pick (b := true) (u := (.bool (decide (((a_l.length : Int) : Int) ≤ 4)))) (v := (.bool false)) (.tmp rfl rfl) (.tmp rfl rfl) (.bool _)) ?_
      refine Cm (.bool (decide (((a_l.length : Int) : Int) ≤ 4))) rfl rfl ?_
      rcases Bool.eq_false_or_eq_true (decide (((a_l.length : Int) : Int) ≤ 4)) with hg8 | hg8
      · rw [hg8]
        try rw [hg8] at hF; dsimp only [cond_true, cond_false] at hF
        refine C_on (t := 12) rfl rfl rfl ?_
        refine Cm v1_0.v rfl rfl ?_
        refine C_on (t := 12) rfl rfl rfl ?_
        refine C_val (V_makeFunc (fn := .func 107) (vs := []) (us := [(.pointer (some ⟨k1, 0, some 0⟩))]) .nil (.cons (.tmp rfl rfl) .nil)) ?_
        refine C_on (t := 12) rfl rfl rfl ?_
        obtain ⟨r9, hx10, hF⟩ := bind_some hF
        refine C_x0 (.rd (.t (.t .h)) rfl (.rd .h rfl (.rd (.t .h) rfl .nil))) (X_callS cf106 (.cons (.tmp rfl rfl) (.cons (.tmp rfl rfl) .nil)) (g_slices_ContainsFunc_impl_Rule_impl_Rule_iAreRules1_ok a_l v1_0 k1 a_s v0_0 _ hx10)) (fun _ => ?_)
        refine C_on (t := 12) rfl rfl rfl ?_
        refine C_val (V_not (b := r9) (.tmp rfl rfl)) ?_
        refine C_val (V_pick (b := true) (u := (.bool (!r9))) (v := (.bool false)) (.tmp rfl rfl) (.tmp rfl rfl) (.bool _)) ?_
        refine Ca (.bool (!r9)) rfl rfl ?_
        refine C_nil ?_
        obtain rfl := Option.some.inj hF
        exact ⟨_, _, rfl, (EqL.cons rfl (EqL.nil)).eq, (.sel .nil)⟩
      rw [hg8]
      try rw [hg8] at hF; dsimp only [cond_true, cond_false] at hF
      iterate 4 refine C_off (t := 12) rfl rfl rfl ?_
      refine C_val (V_pick (b := false) (u := undef) (v := (.bool false)) (.tmp rfl rfl) (.tmp rfl rfl) (.bool _)) ?_
      refine Ca (.bool false) rfl rfl ?_
      refine C_nil ?_
      obtain rfl := Option.some.inj hF
      exact ⟨_, _, rfl, (EqL.cons rfl (EqL.nil)).eq, (.sel .nil)⟩
    rw [hg7]
    try rw [hg7] at hF; dsimp only [cond_true, cond_false] at hF
    iterate 3 refine C_off (t := 7) rfl rfl rfl ?_
    refine C_val (V_pick (b := false) (u := undef) (v := (.bool false)) (.tmp rfl rfl) (.tmp rfl rfl) (.bool _)) ?_
    refine Cm (.bool false) rfl rfl ?_
    iterate 4 refine C_off (t := 12) rfl rfl rfl ?_
    refine C_val (V_pick (b := false) (u := undef) (v := (.bool false)) (.tmp rfl rfl) (.tmp rfl rfl) (.bool _)) ?_
    refine Ca (.bool false) rfl rfl ?_
    refine C_nil ?_
    obtain rfl := Option.some.inj hF
    exact ⟨_, _, rfl, (EqL.cons rfl (EqL.nil)).eq, (.sel .nil)⟩
  rintro _ _ ⟨c12, g13, rfl, rfl, hE⟩
  replace hF := hO3
  clear hO3
  try dsimp only at hF
  refine K_ent hE ?_
  refine CW_ret ?_
  obtain rfl := Option.some.inj hF
  exact End_ret () (.tmp rfl rfl .nil) rfl (.sel .nil)

/-! impl.isValue -/
def i_isValue (a_n : Int) : Option (Bool) :=
  (i_within a_n 0 9).bind fun r1 =>
  some r1
theorem i_isValue_ok (a_n : Int) (R : Bool) (hF : i_isValue a_n = some R) :
    Fw.Spec Tryz.prog 123 [(.int .i64 a_n)] [] (fun _ : Unit => (.bool R)) (fun _ => []) := by
  refine Spec_enter (n := 5) Tryz.func123 rfl rfl (rs := [.tmp 2]) rfl rfl rfl ?_
  intro H0 F0
  unfold i_isValue at hF
  refine K_region (C_val (V_assign (v := (.bool false)) (.bool _)) ?_)
  refine C_nil (K_region (Cm (.int .i64 a_n) rfl rfl ?_))
  obtain ⟨r1, hx2, hF⟩ := bind_some hF
  refine C_x0 .nil (X_callS cf76 (.cons (.tmp rfl rfl) (.cons (.int _ _) (.cons (.int _ _) .nil))) (i_within_ok a_n 0 9 _ hx2)) (fun _ => ?_)
  refine Ca (.bool r1) rfl rfl ?_
  refine C_nil (CW_ret ?_)
  obtain rfl := Option.some.inj hF
  exact End_ret () (.tmp rfl rfl .nil) rfl (.sel .nil)

/-! impl.areValues$1 -/
def i_areValues_1 (a_n : Int) : Option (Bool) :=
  (i_isValue a_n).bind fun r1 =>
  some (!r1)
theorem i_areValues_1_ok (a_n : Int) (R : Bool) (hF : i_areValues_1 a_n = some R) :
    Fw.Spec Tryz.prog 122 [(.int .i64 a_n)] [] (fun _ : Unit => (.bool R)) (fun _ => []) := by
  refine Spec_enter (n := 6) Tryz.func122 rfl rfl (rs := [.tmp 2]) rfl rfl rfl ?_
  intro H0 F0
  unfold i_areValues_1 at hF
  refine K_region (C_val (V_assign (v := (.bool false)) (.bool _)) ?_)
  refine C_nil (K_region (Cm (.int .i64 a_n) rfl rfl ?_))
  obtain ⟨r1, hx2, hF⟩ := bind_some hF
  refine C_x0 .nil (X_callS cf123 (.cons (.tmp rfl rfl) .nil) (i_isValue_ok a_n _ hx2)) (fun _ => ?_)
  refine C_val (V_not (b := r1) (.tmp rfl rfl)) ?_
  refine Ca (.bool (!r1)) rfl rfl ?_
  refine C_nil (CW_ret ?_)
  obtain rfl := Option.some.inj hF
  exact End_ret () (.tmp rfl rfl .nil) rfl (.sel .nil)

/-! slices.IndexFunc[[]int,int] -/
def g_slices_IndexFunc_int_int_iareValues1_L1 : List Int → Nat → Option (Int)
  | [], k4 => some (-1)
  | x6 :: rest5, k4 => (i_areValues_1 x6).bind fun r15 =>
    if r15 then (
      some (k4 : Int))
    else (
      g_slices_IndexFunc_int_int_iareValues1_L1 rest5 (k4 + 1))
def g_slices_IndexFunc_int_int_iareValues1 (a_s : List Int) : Option (Int) :=
  g_slices_IndexFunc_int_int_iareValues1_L1 a_s 0
theorem g_slices_IndexFunc_int_int_iareValues1_ok (a_s : List Int) (v0_0 : Sv) (R : Int) (hF : g_slices_IndexFunc_int_int_iareValues1 a_s = some R) :
    Fw.Spec Tryz.prog 141 [v0_0.v, (.func (.func 122) [].toArray [].toArray)] [crd (RdS 3 rdInt) v0_0.v a_s] (fun _ : Unit => (.int .i64 R)) (fun _ => []) := by
  refine Spec_enter (n := 19) Tryz.func141 rfl rfl (rs := [.tmp 4]) rfl rfl rfl ?_
  intro H0 F0
  unfold g_slices_IndexFunc_int_int_iareValues1 at hF
  refine K_region (C_val (V_assign (v := (.int .i64 0)) (.int _ _)) ?_)
  refine C_nil (K_in (K_region (Cm v0_0.v rfl rfl ?_)))
  refine C_at .h (fun hp => V_lenR (l := a_s.length) sl22 (.tmp rfl rfl) (crd_len hp)) ?_
  refine C_val (V_move (v := (.int .i64 0)) (.int _ _)) ?_
  refine C_nil (CW_block (CW_loop (m := a_s.length) (fun m2 f' cs' => ∃ (g : Fr) (k4 : Nat) (rest5 : List Int), m2 = rest5.length ∧ f' = updL g [(0, v0_0.v), (1, (.func (.func 122) [].toArray [].toArray)), (7, (.int .i64 (a_s.length : Int))), (8, (.int .i64 (k4 : Int)))] ∧ List.drop k4 a_s = rest5 ∧ Ent cs' [crd (RdS 3 rdInt) v0_0.v a_s] ∧ g_slices_IndexFunc_int_int_iareValues1_L1 rest5 k4 = some R) ⟨_, 0, _, rfl, (EqL.cons rfl (EqL.cons rfl (EqL.cons rfl (EqL.cons rfl (EqL.nil))))).eq, rfl, (.sel (.rd .h rfl .nil)), hF⟩ ?_))
  clear hF
  rintro m2 _ _ ⟨g3, k4, rest5, rfl, rfl, hd7, hE, hF⟩
  refine K_ent hE ?_
  clear hE
  refine K_pure (c := crd (RdS 3 rdInt) v0_0.v a_s) .h crd_bound (fun hbd12 => ?_)
  rcases rest5 with _ | ⟨x6, rest5⟩
  · have hk8 := List.drop_eq_nil_iff.1 hd7
    have hfe11 : (decide (((k4 : Int) : Int) < (a_s.length : Int))) = false := decide_eq_false (by omega)
    rw [g_slices_IndexFunc_int_int_iareValues1_L1] at hF
    refine K_region (C_val (V_lss (i := (k4 : Int)) (j := (a_s.length : Int)) (.tmp rfl rfl) (.tmp rfl rfl)) ?_)
    refine C_nil (K_in (CW_cond (b := (decide (((k4 : Int) : Int) < (a_s.length : Int)))) (.tmp rfl rfl) (fun hb => absurd (hfe11.symm.trans hb) (by decide)) (fun _ => ?_)))
    refine CW_exit ?_
    iterate 2 refine CThen_exit ?_
    refine CIn_self (K_region (C_val (V_assign (v := (.int .i64 (-1))) (.int _ _)) ?_))
    refine C_nil (CW_ret ?_)
    obtain rfl := Option.some.inj hF
    exact End_ret () (.tmp rfl rfl .nil) rfl (.sel .nil)
  obtain ⟨hk8, hx9, hd10⟩ := drop_cons hd7
  have hfe11 : (decide (((k4 : Int) : Int) < (a_s.length : Int))) = true := decide_eq_true (by omega)
  rw [g_slices_IndexFunc_int_int_iareValues1_L1] at hF
  refine K_region (C_val (V_lss (i := (k4 : Int)) (j := (a_s.length : Int)) (.tmp rfl rfl) (.tmp rfl rfl)) ?_)
  refine C_nil (K_in (CW_cond (b := (decide (((k4 : Int) : Int) < (a_s.length : Int)))) (.tmp rfl rfl) (fun _ => ?_) (fun hb => absurd (hfe11.symm.trans hb) (by decide))))
  refine CW_skip (K_block (K_region (Cm (.int .i64 (k4 : Int)) rfl rfl ?_)))
  refine Ca (.int .i64 (k4 : Int)) rfl rfl ?_
  refine C_nil (K_region (Cm (.func (.func 122) [].toArray [].toArray) rfl rfl ?_))
  refine Cm v0_0.v rfl rfl ?_
  refine Cm (.int .i64 (k4 : Int)) rfl rfl ?_
  refine C_idx (a := x6) sl22 ty3.sz (.tmp rfl rfl) (.tmp rfl rfl) .h (Int.natCast_nonneg k4) hx9 (fun k13 j14 => ?_)
  refine C_ldS (w := (.int .i64 x6)) ag3 (.tmp rfl rfl) .h ls3_0 ?_
  obtain ⟨r15, hx16, hF⟩ := bind_some hF
  refine C_x0 .nil (X_callCS cf122 (.tmp rfl rfl) (.cons (.tmp rfl rfl) .nil) (i_areValues_1_ok x6 _ hx16)) (fun _ => ?_)
  refine C_nil (CW_cond (b := r15) (.tmp rfl rfl) (fun hb19 => ?_) (fun hb19 => ?_))
  · rw [if_pos hb19] at hF
    refine K_region (Cm (.int .i64 (k4 : Int)) rfl rfl ?_)
    refine Ca (.int .i64 (k4 : Int)) rfl rfl ?_
    refine C_nil (CW_ret ?_)
    obtain rfl := Option.some.inj hF
    exact End_ret () (.tmp rfl rfl .nil) rfl (.sel .nil)
  rw [if_neg (by rw [hb19]; exact Bool.false_ne_true)] at hF
  refine CW_skip (CW_region (C_val (V_add (i := (k4 : Int)) (j := 1) (.tmp rfl rfl) (.int _ _)) ?_))
  refine Cm (.int .i64 (IntKind.i64.wrap ((k4 : Int) + 1))) rfl rfl ?_
  refine C_nil ?_
  have hw18 : IntKind.i64.wrap ((k4 : Int) + 1) = ((k4 + 1 : Nat) : Int) := by rw [wrap_in (by omega) (by omega)]; rfl
  rw [hw18]
  exact ⟨_, Nat.lt_succ_self _, _, k4 + 1, rest5, rfl, (EqL.cons rfl (EqL.cons rfl (EqL.cons rfl (EqL.cons rfl (EqL.nil))))).eq, hd10, (.sel (.rd (.t .h) rfl .nil)), hF⟩

/-! slices.ContainsFunc[[]int,int] -/
def g_slices_ContainsFunc_int_int_iareValues1 (a_s : List Int) : Option (Bool) :=
  (g_slices_IndexFunc_int_int_iareValues1 a_s).bind fun r1 =>
  some (decide ((0 : Int) ≤ r1))
theorem g_slices_ContainsFunc_int_int_iareValues1_ok (a_s : List Int) (v0_0 : Sv) (R : Bool) (hF : g_slices_ContainsFunc_int_int_iareValues1 a_s = some R) :
    Fw.Spec Tryz.prog 114 [v0_0.v, (.func (.func 122) [].toArray [].toArray)] [crd (RdS 3 rdInt) v0_0.v a_s] (fun _ : Unit => (.bool R)) (fun _ => []) := by
  refine Spec_enter (n := 9) Tryz.func114 rfl rfl (rs := [.tmp 4]) rfl rfl rfl ?_
  intro H0 F0
  unfold g_slices_ContainsFunc_int_int_iareValues1 at hF
  refine K_region (C_val (V_assign (v := (.bool false)) (.bool _)) ?_)
  refine C_nil (K_region (Cm v0_0.v rfl rfl ?_))
  refine Cm (.func (.func 122) [].toArray [].toArray) rfl rfl ?_
  obtain ⟨r1, hx2, hF⟩ := bind_some hF
  refine C_x0 (.rd .h rfl .nil) (X_callS cf141 (.cons (.tmp rfl rfl) (.cons (.tmp rfl rfl) .nil)) (g_slices_IndexFunc_int_int_iareValues1_ok a_s v0_0 _ hx2)) (fun _ => ?_)
  refine C_val (V_geq (i := r1) (j := 0) (.tmp rfl rfl) (.int _ _)) ?_
  refine Ca (.bool (decide ((0 : Int) ≤ r1))) rfl rfl ?_
  refine C_nil (CW_ret ?_)
  obtain rfl := Option.some.inj hF
  exact End_ret () (.tmp rfl rfl .nil) rfl (.sel .nil)

/-! impl.areValues -/
def i_areValues (a_l : List Int) : Option (Bool) :=
  (g_slices_ContainsFunc_int_int_iareValues1 a_l).bind fun r1 =>
  some (!r1)
theorem i_areValues_ok (a_l : List Int) (v0_0 : Sv) (R : Bool) (hF : i_areValues a_l = some R) :
    Fw.Spec Tryz.prog 90 [v0_0.v] [crd (RdS 3 rdInt) v0_0.v a_l] (fun _ : Unit => (.bool R)) (fun _ => []) := by
  refine Spec_enter (n := 6) Tryz.func90 rfl rfl (rs := [.tmp 2]) rfl rfl rfl ?_
  intro H0 F0
  unfold i_areValues at hF
  refine K_region (C_val (V_assign (v := (.bool false)) (.bool _)) ?_)
  refine C_nil (K_region (Cm v0_0.v rfl rfl ?_))
  obtain ⟨r1, hx2, hF⟩ := bind_some hF
  refine C_x0 (.rd .h rfl .nil) (X_callS cf114 (.cons (.tmp rfl rfl) (.cons (.fn _) .nil)) (g_slices_ContainsFunc_int_int_iareValues1_ok a_l v0_0 _ hx2)) (fun _ => ?_)
  refine C_val (V_not (b := r1) (.tmp rfl rfl)) ?_
  refine Ca (.bool (!r1)) rfl rfl ?_
  refine C_nil (CW_ret ?_)
  obtain rfl := Option.some.inj hF
  exact End_ret () (.tmp rfl rfl .nil) rfl (.sel .nil)

/-! impl.IsFact -/
def i_IsFact (a_s : List Int) (a_f : Fact) : Option (Bool) :=
  ((i_hasRel a_s a_f.Rel).bind fun r4 =>
    bif r4 then ((ix a_s a_f.Rel).bind fun x8 =>
      bif (((a_f.Values.length : Int) : Int) == x8) then ((i_areValues a_f.Values).bind fun r15 =>
        some r15)
      else (some false))
    else (some false)).bind fun o2 =>
  match o2 with
  | c18 => some c18
theorem i_IsFact_ok (a_s : List Int) (v0_0 : Sv) (a_f : Fact) (v1_1 : Sv) (R : Bool) (hF : i_IsFact a_s a_f = some R) :
    Fw.Spec Tryz.prog 134 [v0_0.v, (.agg [(.int .i64 a_f.Rel), v1_1.v].toArray)] [crd (RdS 3 rdInt) v0_0.v a_s, crd (RdS 3 rdInt) v1_1.v a_f.Values] (fun _ : Unit => (.bool R)) (fun _ => []) := by
  refine Spec_enter (n := 25) Tryz.func134 rfl rfl (rs := [.tmp 4]) rfl rfl rfl ?_
  intro H0 F0
  unfold i_IsFact at hF
  refine K_region (C_newR rfl (N_box (g := false) (v := (.agg [(.int .i64 a_f.Rel), v1_1.v].toArray)) ty80.sz (.tmp rfl rfl) rfl) (fun k1 => ?_))
  refine C_val (V_assign (v := (.bool false)) (.bool _)) ?_
  refine C_nil ?_
  obtain ⟨o2, hio2, hO3⟩ := bind_some hF
  refine K_draw [0, 1, 2, 3, 4, 5, 6, 7, 8, 9, 10, 11, 12, 13, 14, 15, 16, 17, 18, 19, 20] [0, 0, 2, 7, 15, 31, 63, 127, 31, 31, 543, 1823, 3871, 8191, 16383, 32767, 65535, 131071, 262143, 524287, 1048575] [3, 18] mixed (by decide +kernel) ?_
  refine D_cut (fun f' cs' => ∃ (c18 : Bool) (g : Fr), c18 = o2 ∧ f' = updL g [(4, (.bool c18))] ∧ Ent cs' []) ?_ ?_
  · replace hF := hio2
    refine Dm v0_0.v rfl rfl rfl rfl ?_
    refine D_val rfl .no (fun ha => V_fieldAddr (off := 0) fd80_0 (EN ha (.tmp rfl rfl) rfl)) ?_
    refine D_at rfl .no .h rfl (fun ha hp => V_load (v := (.int .i64 a_f.Rel)) ag3 (EN ha (.tmp rfl rfl) rfl) hp.2 rfl rfl) ?_
    obtain ⟨r4, hx5, hF⟩ := bind_some hF
    refine D_act0 rfl rfl .no (.rd (.t .h) rfl .nil) .nil (fun ha => X_callS cf130 (.cons (EN ha (.tmp rfl rfl) rfl) (.cons (EN ha (.tmp rfl rfl) rfl) .nil)) (i_hasRel_ok a_s v0_0 a_f.Rel _ hx5)) (fun _ => ?_)
    refine Dm (.bool r4) rfl rfl rfl rfl ?_
    rcases Bool.eq_false_or_eq_true r4 with hg7 | hg7
    · rw [hg7]
      try rw [hg7] at hF; dsimp only [cond_true, cond_false] at hF
      refine D_val rfl (.on 9 rfl rfl rfl) (fun ha => V_fieldAddr (off := 1) fd80_1 (EN ha (.tmp rfl rfl) rfl)) ?_
      refine D_at rfl (.on 9 rfl rfl rfl) .h rfl (fun ha hp => V_load (v := v1_1.v) ag22 (EN ha (.tmp rfl rfl) rfl) hp.2 rfl rfl) ?_
      refine D_at rfl (.on 9 rfl rfl rfl) (.t (.t .h)) rfl (fun ha hp => V_lenR (l := a_f.Values.length) sl22 (EN ha (.tmp rfl rfl) rfl) (crd_len hp)) ?_
      refine D_val rfl (.on 9 rfl rfl rfl) (fun ha => V_move (v := v0_0.v) (EN ha (.tmp rfl rfl) rfl)) ?_
      refine D_val rfl (.on 9 rfl rfl rfl) (fun ha => V_fieldAddr (off := 0) fd80_0 (EN ha (.tmp rfl rfl) rfl)) ?_
      refine D_at rfl (.on 9 rfl rfl rfl) .h rfl (fun ha hp => V_load (v := (.int .i64 a_f.Rel)) ag3 (EN ha (.tmp rfl rfl) rfl) hp.2 rfl rfl) ?_
      obtain ⟨x8, hx9, hF⟩ := bind_some hF
      obtain ⟨hp10, hx11⟩ := ix_some hx9
      refine D_idx (a := x8) sl22 ty3.sz rfl (.on 9 rfl rfl rfl) (.tmp rfl rfl) (.tmp rfl rfl) rfl rfl (.t .h) hp10 hx11 (fun k12 j13 => ?_)
      refine D_ldS (w := (.int .i64 x8)) ag3 rfl (.on 9 rfl rfl rfl) (.tmp rfl rfl) rfl .h ls3_0 ?_
      refine D_val rfl (.on 9 rfl rfl rfl) (fun ha => V_eql (i := (a_f.Values.length : Int)) (j := x8) (EN ha (.tmp rfl rfl) rfl) (EN ha (.tmp rfl rfl) rfl)) ?_
      refine D_val rfl .no (fun ha => V_pick (b := true) (u := (.bool (((a_f.Values.length : Int) : Int) == x8))) (v := (.bool false)) (EN ha (.tmp rfl rfl) rfl) (EN ha (.tmp rfl rfl) rfl) (EN ha (.bool _) rfl)) ?_
      refine Dm (.bool (((a_f.Values.length : Int) : Int) == x8)) rfl rfl rfl rfl ?_
      rcases Bool.eq_false_or_eq_true (((a_f.Values.length : Int) : Int) == x8) with hg14 | hg14
      · rw [hg14]
        try rw [hg14] at hF; dsimp only [cond_true, cond_false] at hF
        refine D_val rfl (.on 20 rfl rfl rfl) (fun ha => V_fieldAddr (off := 1) fd80_1 (EN ha (.tmp rfl rfl) rfl)) ?_
        refine D_at rfl (.on 20 rfl rfl rfl) (.t .h) rfl (fun ha hp => V_load (v := v1_1.v) ag22 (EN ha (.tmp rfl rfl) rfl) hp.2 rfl rfl) ?_
        obtain ⟨r15, hx16, hF⟩ := bind_some hF
        refine D_act0 rfl rfl (.on 20 rfl rfl rfl) (.rd (.t (.t (.t .h))) rfl .nil) .nil (fun ha => X_callS cf90 (.cons (EN ha (.tmp rfl rfl) rfl) .nil) (i_areValues_ok a_f.Values v1_1 _ hx16)) (fun _ => ?_)
        refine D_val rfl .no (fun ha => V_pick (b := true) (u := (.bool r15)) (v := (.bool false)) (EN ha (.tmp rfl rfl) rfl) (EN ha (.tmp rfl rfl) rfl) (EN ha (.bool _) rfl)) ?_
        refine Da (.bool r15) rfl rfl rfl rfl ?_
        refine D_nil ?_
        obtain rfl := Option.some.inj hF
        exact ⟨_, _, rfl, (EqL.cons rfl (EqL.nil)).eq, (.sel .nil)⟩
      rw [hg14]
      try rw [hg14] at hF; dsimp only [cond_true, cond_false] at hF
      iterate 3 refine D_off 20 rfl rfl rfl rfl ?_
      refine D_val rfl .no (fun ha => V_pick (b := false) (u := undef) (v := (.bool false)) (EN ha (.tmp rfl rfl) rfl) (EN ha (.tmp rfl rfl) rfl) (EN ha (.bool _) rfl)) ?_
      refine Da (.bool false) rfl rfl rfl rfl ?_
      refine D_nil ?_
      obtain rfl := Option.some.inj hF
      exact ⟨_, _, rfl, (EqL.cons rfl (EqL.nil)).eq, (.sel .nil)⟩
    rw [hg7]
    try rw [hg7] at hF; dsimp only [cond_true, cond_false] at hF
    iterate 9 refine D_off 9 rfl rfl rfl rfl ?_
    refine D_val rfl .no (fun ha => V_pick (b := false) (u := undef) (v := (.bool false)) (EN ha (.tmp rfl rfl) rfl) (EN ha (.tmp rfl rfl) rfl) (EN ha (.bool _) rfl)) ?_
    refine Dm (.bool false) rfl rfl rfl rfl ?_
    iterate 3 refine D_off 20 rfl rfl rfl rfl ?_
    refine D_val rfl .no (fun ha => V_pick (b := false) (u := undef) (v := (.bool false)) (EN ha (.tmp rfl rfl) rfl) (EN ha (.tmp rfl rfl) rfl) (EN ha (.bool _) rfl)) ?_
    refine Da (.bool false) rfl rfl rfl rfl ?_
    refine D_nil ?_
    obtain rfl := Option.some.inj hF
    exact ⟨_, _, rfl, (EqL.cons rfl (EqL.nil)).eq, (.sel .nil)⟩
  rintro _ _ ⟨c18, g19, rfl, rfl, hE⟩
  replace hF := hO3
  clear hO3
  try dsimp only at hF
  refine K_ent hE ?_
  refine CW_ret ?_
  obtain rfl := Option.some.inj hF
  exact End_ret () (.tmp rfl rfl .nil) rfl (.sel .nil)

/-! cmp.isNaN[int] -/
def g_cmp_isNaN_int (a_x : Int) : Option (Bool) :=
  some ((a_x : Int) != a_x)
theorem g_cmp_isNaN_int_ok (a_x : Int) (R : Bool) (hF : g_cmp_isNaN_int a_x = some R) :
    Fw.Spec Tryz.prog 152 [(.int .i64 a_x)] [] (fun _ : Unit => (.bool R)) (fun _ => []) := by
  refine Spec_enter (n := 6) Tryz.func152 rfl rfl (rs := [.tmp 2]) rfl rfl rfl ?_
  intro H0 F0
  unfold g_cmp_isNaN_int at hF
  refine K_region (C_val (V_assign (v := (.bool false)) (.bool _)) ?_)
  refine C_nil (K_region ?_)
  iterate 2 refine Cm (.int .i64 a_x) rfl rfl ?_
  refine C_val (V_neq (i := a_x) (j := a_x) (.tmp rfl rfl) (.tmp rfl rfl)) ?_
  refine Ca (.bool ((a_x : Int) != a_x)) rfl rfl ?_
  refine C_nil (CW_ret ?_)
  obtain rfl := Option.some.inj hF
  exact End_ret () (.tmp rfl rfl .nil) rfl (.sel .nil)

/-! cmp.Compare[int] -/
def g_cmp_Compare_int (a_x : Int) (a_y : Int) : Option (Int) :=
  (g_cmp_isNaN_int a_x).bind fun r1 =>
  (g_cmp_isNaN_int a_y).bind fun r4 =>
  if r1 then (
    if r4 then (
      some 0)
    else (
      some (-1)))
  else (
    if r4 then (
      some 1)
    else (
      if (decide ((a_x : Int) < a_y)) then (
        some (-1))
      else (
        if (decide ((a_y : Int) < a_x)) then (
          some 1)
        else (
          some 0))))
theorem g_cmp_Compare_int_ok (a_x : Int) (a_y : Int) (R : Int) (hF : g_cmp_Compare_int a_x a_y = some R) :
    Fw.Spec Tryz.prog 138 [(.int .i64 a_x), (.int .i64 a_y)] [] (fun _ : Unit => (.int .i64 R)) (fun _ => []) := by
  refine Spec_enter (n := 20) Tryz.func138 rfl rfl (rs := [.tmp 4]) rfl rfl rfl ?_
  intro H0 F0
  unfold g_cmp_Compare_int at hF
  refine K_region (C_val (V_assign (v := (.int .i64 0)) (.int _ _)) ?_)
  refine C_nil (K_region (Cm (.int .i64 a_x) rfl rfl ?_))
  obtain ⟨r1, hx2, hF⟩ := bind_some hF
  refine C_x0 .nil (X_callS cf152 (.cons (.tmp rfl rfl) .nil) (g_cmp_isNaN_int_ok a_x _ hx2)) (fun _ => ?_)
  refine Ca (.bool r1) rfl rfl ?_
  refine C_nil (K_region (Cm (.int .i64 a_y) rfl rfl ?_))
  obtain ⟨r4, hx5, hF⟩ := bind_some hF
  refine C_x0 .nil (X_callS cf152 (.cons (.tmp rfl rfl) .nil) (g_cmp_isNaN_int_ok a_y _ hx5)) (fun _ => ?_)
  refine Ca (.bool r4) rfl rfl ?_
  refine C_nil (K_in (K_region (Cm (.bool r1) rfl rfl ?_)))
  refine C_nil (CW_cond (b := r1) (.tmp rfl rfl) (fun hb11 => ?_) (fun hb11 => ?_))
  · rw [if_pos hb11] at hF
    refine K_in (K_region (Cm (.bool r4) rfl rfl ?_))
    refine C_nil (CW_cond (b := r4) (.tmp rfl rfl) (fun hb7 => ?_) (fun hb7 => ?_))
    · rw [if_pos hb7] at hF
      refine K_region (C_val (V_assign (v := (.int .i64 0)) (.int _ _)) ?_)
      refine C_nil (CW_ret ?_)
      obtain rfl := Option.some.inj hF
      exact End_ret () (.tmp rfl rfl .nil) rfl (.sel .nil)
    rw [if_neg (by rw [hb7]; exact Bool.false_ne_true)] at hF
    refine CW_skip (K_region (C_val (V_assign (v := (.int .i64 (-1))) (.int _ _)) ?_))
    refine C_nil (CW_ret ?_)
    obtain rfl := Option.some.inj hF
    exact End_ret () (.tmp rfl rfl .nil) rfl (.sel .nil)
  rw [if_neg (by rw [hb11]; exact Bool.false_ne_true)] at hF
  refine CW_skip (K_in (K_region (Cm (.bool r4) rfl rfl ?_)))
  refine C_nil (CW_cond (b := r4) (.tmp rfl rfl) (fun hb10 => ?_) (fun hb10 => ?_))
  · rw [if_pos hb10] at hF
    refine K_region (C_val (V_assign (v := (.int .i64 1)) (.int _ _)) ?_)
    refine C_nil (CW_ret ?_)
    obtain rfl := Option.some.inj hF
    exact End_ret () (.tmp rfl rfl .nil) rfl (.sel .nil)
  rw [if_neg (by rw [hb10]; exact Bool.false_ne_true)] at hF
  refine CW_skip (K_in (K_region (Cm (.int .i64 a_x) rfl rfl ?_)))
  refine Cm (.int .i64 a_y) rfl rfl ?_
  refine C_val (V_lss (i := a_x) (j := a_y) (.tmp rfl rfl) (.tmp rfl rfl)) ?_
  refine C_nil (CW_cond (b := (decide ((a_x : Int) < a_y))) (.tmp rfl rfl) (fun hb9 => ?_) (fun hb9 => ?_))
  · rw [if_pos hb9] at hF
    refine K_region (C_val (V_assign (v := (.int .i64 (-1))) (.int _ _)) ?_)
    refine C_nil (CW_ret ?_)
    obtain rfl := Option.some.inj hF
    exact End_ret () (.tmp rfl rfl .nil) rfl (.sel .nil)
  rw [if_neg (by rw [hb9]; exact Bool.false_ne_true)] at hF
  refine CW_skip (K_in (K_region (Cm (.int .i64 a_x) rfl rfl ?_)))
  refine Cm (.int .i64 a_y) rfl rfl ?_
  refine C_val (V_gtr (i := a_x) (j := a_y) (.tmp rfl rfl) (.tmp rfl rfl)) ?_
  refine C_nil (CW_cond (b := (decide ((a_y : Int) < a_x))) (.tmp rfl rfl) (fun hb8 => ?_) (fun hb8 => ?_))
  · rw [if_pos hb8] at hF
    refine K_region (C_val (V_assign (v := (.int .i64 1)) (.int _ _)) ?_)
    refine C_nil (CW_ret ?_)
    obtain rfl := Option.some.inj hF
    exact End_ret () (.tmp rfl rfl .nil) rfl (.sel .nil)
  rw [if_neg (by rw [hb8]; exact Bool.false_ne_true)] at hF
  refine CW_skip (K_region (C_val (V_assign (v := (.int .i64 0)) (.int _ _)) ?_))
  refine C_nil (CW_ret ?_)
  obtain rfl := Option.some.inj hF
  exact End_ret () (.tmp rfl rfl .nil) rfl (.sel .nil)

/-! slices.Compare[[]int,int] -/
def g_slices_Compare_int_int_L1 (a_s1 : List Int) (a_s2 : List Int) : List Int → Nat → Option (Int)
  | [], k4 => if (decide (((a_s1.length : Int) : Int) < (a_s2.length : Int))) then (
      some (-1))
    else (
      some 0)
  | x6 :: rest5, k4 => if (decide (((a_s2.length : Int) : Int) ≤ (k4 : Int))) then (
      some 1)
    else (
      (ix a_s2 (k4 : Int)).bind fun x16 =>
      (g_cmp_Compare_int x6 x16).bind fun r22 =>
      if ((r22 : Int) != 0) then (
        some r22)
      else (
        g_slices_Compare_int_int_L1 a_s1 a_s2 rest5 (k4 + 1)))
def g_slices_Compare_int_int (a_s1 : List Int) (a_s2 : List Int) : Option (Int) :=
  g_slices_Compare_int_int_L1 a_s1 a_s2 a_s1 0
theorem g_slices_Compare_int_int_ok (a_s1 : List Int) (v0_0 : Sv) (a_s2 : List Int) (v1_0 : Sv) (R : Int) (hF : g_slices_Compare_int_int a_s1 a_s2 = some R) :
    Fw.Spec Tryz.prog 139 [v0_0.v, v1_0.v] [crd (RdS 3 rdInt) v0_0.v a_s1, crd (RdS 3 rdInt) v1_0.v a_s2] (fun _ : Unit => (.int .i64 R)) (fun _ => []) := by
  refine Spec_enter (n := 36) Tryz.func139 rfl rfl (rs := [.tmp 4]) rfl rfl rfl ?_
  intro H0 F0
  unfold g_slices_Compare_int_int at hF
  refine K_region (C_val (V_assign (v := (.int .i64 0)) (.int _ _)) ?_)
  refine C_nil (K_in (K_region (Cm v0_0.v rfl rfl ?_)))
  refine C_at .h (fun hp => V_lenR (l := a_s1.length) sl22 (.tmp rfl rfl) (crd_len hp)) ?_
  refine C_val (V_move (v := (.int .i64 0)) (.int _ _)) ?_
  refine C_nil (CW_block (CW_loop (m := a_s1.length) (fun m2 f' cs' => ∃ (g : Fr) (k4 : Nat) (rest5 : List Int), m2 = rest5.length ∧ f' = updL g [(0, v0_0.v), (1, v1_0.v), (9, v0_0.v), (10, (.int .i64 (a_s1.length : Int))), (11, (.int .i64 (k4 : Int)))] ∧ List.drop k4 a_s1 = rest5 ∧ Ent cs' [crd (RdS 3 rdInt) v0_0.v a_s1, crd (RdS 3 rdInt) v1_0.v a_s2] ∧ g_slices_Compare_int_int_L1 a_s1 a_s2 rest5 k4 = some R) ⟨_, 0, _, rfl, (EqL.cons rfl (EqL.cons rfl (EqL.cons rfl (EqL.cons rfl (EqL.cons rfl (EqL.nil)))))).eq, rfl, (.sel (.rd .h rfl (.rd (.t .h) rfl .nil))), hF⟩ ?_))
  clear hF
  rintro m2 _ _ ⟨g3, k4, rest5, rfl, rfl, hd7, hE, hF⟩
  refine K_ent hE ?_
  clear hE
  refine K_pure (c := crd (RdS 3 rdInt) v0_0.v a_s1) .h crd_bound (fun hbd12 => ?_)
  rcases rest5 with _ | ⟨x6, rest5⟩
  · have hk8 := List.drop_eq_nil_iff.1 hd7
    have hfe11 : (decide (((k4 : Int) : Int) < (a_s1.length : Int))) = false := decide_eq_false (by omega)
    rw [g_slices_Compare_int_int_L1] at hF
    refine K_region (C_val (V_lss (i := (k4 : Int)) (j := (a_s1.length : Int)) (.tmp rfl rfl) (.tmp rfl rfl)) ?_)
    refine C_nil (K_in (CW_cond (b := (decide (((k4 : Int) : Int) < (a_s1.length : Int)))) (.tmp rfl rfl) (fun hb => absurd (hfe11.symm.trans hb) (by decide)) (fun _ => ?_)))
    refine CW_exit ?_
    iterate 2 refine CThen_exit ?_
    refine CIn_self (K_in (K_region (Cm v0_0.v rfl rfl ?_)))
    refine C_at .h (fun hp => V_lenR (l := a_s1.length) sl22 (.tmp rfl rfl) (crd_len hp)) ?_
    refine Cm v1_0.v rfl rfl ?_
    refine C_at (.t .h) (fun hp => V_lenR (l := a_s2.length) sl22 (.tmp rfl rfl) (crd_len hp)) ?_
    refine C_val (V_lss (i := (a_s1.length : Int)) (j := (a_s2.length : Int)) (.tmp rfl rfl) (.tmp rfl rfl)) ?_
    refine C_nil (CW_cond (b := (decide (((a_s1.length : Int) : Int) < (a_s2.length : Int)))) (.tmp rfl rfl) (fun hb13 => ?_) (fun hb13 => ?_))
    · rw [if_pos hb13] at hF
      refine K_region (C_val (V_assign (v := (.int .i64 (-1))) (.int _ _)) ?_)
      refine C_nil (CW_ret ?_)
      obtain rfl := Option.some.inj hF
      exact End_ret () (.tmp rfl rfl .nil) rfl (.sel .nil)
    rw [if_neg (by rw [hb13]; exact Bool.false_ne_true)] at hF
    refine CW_skip (K_region (C_val (V_assign (v := (.int .i64 0)) (.int _ _)) ?_))
    refine C_nil (CW_ret ?_)
    obtain rfl := Option.some.inj hF
    exact End_ret () (.tmp rfl rfl .nil) rfl (.sel .nil)
  obtain ⟨hk8, hx9, hd10⟩ := drop_cons hd7
  have hfe11 : (decide (((k4 : Int) : Int) < (a_s1.length : Int))) = true := decide_eq_true (by omega)
  rw [g_slices_Compare_int_int_L1] at hF
  refine K_region (C_val (V_lss (i := (k4 : Int)) (j := (a_s1.length : Int)) (.tmp rfl rfl) (.tmp rfl rfl)) ?_)
  refine C_nil (K_in (CW_cond (b := (decide (((k4 : Int) : Int) < (a_s1.length : Int)))) (.tmp rfl rfl) (fun _ => ?_) (fun hb => absurd (hfe11.symm.trans hb) (by decide))))
  refine CW_skip (K_block (K_region (Cm (.int .i64 (k4 : Int)) rfl rfl ?_)))
  refine C_idx (a := x6) sl22 ty3.sz (.tmp rfl rfl) (.tmp rfl rfl) .h (Int.natCast_nonneg k4) hx9 (fun k14 j15 => ?_)
  refine C_ldS (w := (.int .i64 x6)) ag3 (.tmp rfl rfl) .h ls3_0 ?_
  refine Ca (.int .i64 (k4 : Int)) rfl rfl ?_
  refine Ca (.int .i64 x6) rfl rfl ?_
  refine C_nil (K_in (K_region (Cm (.int .i64 (k4 : Int)) rfl rfl ?_)))
  refine Cm v1_0.v rfl rfl ?_
  refine C_at (.t (.t .h)) (fun hp => V_lenR (l := a_s2.length) sl22 (.tmp rfl rfl) (crd_len hp)) ?_
  refine C_val (V_geq (i := (k4 : Int)) (j := (a_s2.length : Int)) (.tmp rfl rfl) (.tmp rfl rfl)) ?_
  refine C_nil (CW_cond (b := (decide (((a_s2.length : Int) : Int) ≤ (k4 : Int)))) (.tmp rfl rfl) (fun hb27 => ?_) (fun hb27 => ?_))
  · rw [if_pos hb27] at hF
    refine K_region (C_val (V_assign (v := (.int .i64 1)) (.int _ _)) ?_)
    refine C_nil (CW_ret ?_)
    obtain rfl := Option.some.inj hF
    exact End_ret () (.tmp rfl rfl .nil) rfl (.sel .nil)
  rw [if_neg (by rw [hb27]; exact Bool.false_ne_true)] at hF
  refine CW_skip (K_region (Cm v1_0.v rfl rfl ?_))
  refine Cm (.int .i64 (k4 : Int)) rfl rfl ?_
  obtain ⟨x16, hx17, hF⟩ := bind_some hF
  obtain ⟨hp18, hx19⟩ := ix_some hx17
  refine C_idx (a := x16) sl22 ty3.sz (.tmp rfl rfl) (.tmp rfl rfl) (.t (.t .h)) hp18 hx19 (fun k20 j21 => ?_)
  refine C_ldS (w := (.int .i64 x16)) ag3 (.tmp rfl rfl) .h ls3_0 ?_
  refine Ca (.int .i64 x16) rfl rfl ?_
  refine C_nil (K_region (Cm (.int .i64 x6) rfl rfl ?_))
  refine Cm (.int .i64 x16) rfl rfl ?_
  obtain ⟨r22, hx23, hF⟩ := bind_some hF
  refine C_x0 .nil (X_callS cf138 (.cons (.tmp rfl rfl) (.cons (.tmp rfl rfl) .nil)) (g_cmp_Compare_int_ok x6 x16 _ hx23)) (fun _ => ?_)
  refine Ca (.int .i64 r22) rfl rfl ?_
  refine C_nil (K_region (Cm (.int .i64 r22) rfl rfl ?_))
  refine C_val (V_neq (i := r22) (j := 0) (.tmp rfl rfl) (.int _ _)) ?_
  refine C_nil (CW_cond (b := ((r22 : Int) != 0)) (.tmp rfl rfl) (fun hb26 => ?_) (fun hb26 => ?_))
  · rw [if_pos hb26] at hF
    refine K_region (Cm (.int .i64 r22) rfl rfl ?_)
    refine Ca (.int .i64 r22) rfl rfl ?_
    refine C_nil (CW_ret ?_)
    obtain rfl := Option.some.inj hF
    exact End_ret () (.tmp rfl rfl .nil) rfl (.sel .nil)
  rw [if_neg (by rw [hb26]; exact Bool.false_ne_true)] at hF
  refine CW_skip (CW_region (C_val (V_add (i := (k4 : Int)) (j := 1) (.tmp rfl rfl) (.int _ _)) ?_))
  refine Cm (.int .i64 (IntKind.i64.wrap ((k4 : Int) + 1))) rfl rfl ?_
  refine C_nil ?_
  have hw25 : IntKind.i64.wrap ((k4 : Int) + 1) = ((k4 + 1 : Nat) : Int) := by rw [wrap_in (by omega) (by omega)]; rfl
  rw [hw25]
  exact ⟨_, Nat.lt_succ_self _, _, k4 + 1, rest5, rfl, (EqL.cons rfl (EqL.cons rfl (EqL.cons rfl (EqL.cons rfl (EqL.cons rfl (EqL.nil)))))).eq, hd10, (.sel (.rd (.t (.t .h)) rfl (.rd (.t (.t (.t .h))) rfl .nil))), hF⟩

/-! cmp.Or[int] -/
def g_cmp_Or_int_L1 : List Int → Nat → Option (Int)
  | [], k4 => some 0
  | x6 :: rest5, k4 => if ((x6 : Int) != 0) then (
      some x6)
    else (
      g_cmp_Or_int_L1 rest5 (k4 + 1))
def g_cmp_Or_int (a_vals : List Int) : Option (Int) :=
  g_cmp_Or_int_L1 a_vals 0
theorem g_cmp_Or_int_ok (a_vals : List Int) (v0_0 : Sv) (R : Int) (hF : g_cmp_Or_int a_vals = some R) :
    Fw.Spec Tryz.prog 137 [v0_0.v] [crd (RdS 3 rdInt) v0_0.v a_vals] (fun _ : Unit => (.int .i64 R)) (fun _ => []) := by
  refine Spec_enter (n := 18) Tryz.func137 rfl rfl (rs := [.tmp 2]) rfl rfl rfl ?_
  intro H0 F0
  unfold g_cmp_Or_int at hF
  refine K_region (C_val (V_assign (v := (.int .i64 0)) (.int _ _)) ?_)
  refine C_nil (K_region (C_val (V_assign (v := (.int .i64 0)) (.int _ _)) ?_))
  refine C_nil (K_in (K_region (Cm v0_0.v rfl rfl ?_)))
  refine C_at .h (fun hp => V_lenR (l := a_vals.length) sl22 (.tmp rfl rfl) (crd_len hp)) ?_
  refine C_val (V_move (v := (.int .i64 0)) (.int _ _)) ?_
  refine C_nil (CW_block (CW_loop (m := a_vals.length) (fun m2 f' cs' => ∃ (g : Fr) (k4 : Nat) (rest5 : List Int), m2 = rest5.length ∧ f' = updL g [(3, (.int .i64 0)), (6, v0_0.v), (7, (.int .i64 (a_vals.length : Int))), (8, (.int .i64 (k4 : Int)))] ∧ List.drop k4 a_vals = rest5 ∧ Ent cs' [crd (RdS 3 rdInt) v0_0.v a_vals] ∧ g_cmp_Or_int_L1 rest5 k4 = some R) ⟨_, 0, _, rfl, (EqL.cons rfl (EqL.cons rfl (EqL.cons rfl (EqL.cons rfl (EqL.nil))))).eq, rfl, (.sel (.rd .h rfl .nil)), hF⟩ ?_))
  clear hF
  rintro m2 _ _ ⟨g3, k4, rest5, rfl, rfl, hd7, hE, hF⟩
  refine K_ent hE ?_
  clear hE
  refine K_pure (c := crd (RdS 3 rdInt) v0_0.v a_vals) .h crd_bound (fun hbd12 => ?_)
  rcases rest5 with _ | ⟨x6, rest5⟩
  · have hk8 := List.drop_eq_nil_iff.1 hd7
    have hfe11 : (decide (((k4 : Int) : Int) < (a_vals.length : Int))) = false := decide_eq_false (by omega)
    rw [g_cmp_Or_int_L1] at hF
    refine K_region (C_val (V_lss (i := (k4 : Int)) (j := (a_vals.length : Int)) (.tmp rfl rfl) (.tmp rfl rfl)) ?_)
    refine C_nil (K_in (CW_cond (b := (decide (((k4 : Int) : Int) < (a_vals.length : Int)))) (.tmp rfl rfl) (fun hb => absurd (hfe11.symm.trans hb) (by decide)) (fun _ => ?_)))
    refine CW_exit ?_
    iterate 2 refine CThen_exit ?_
    refine CIn_self (K_region (Cm (.int .i64 0) rfl rfl ?_))
    refine Ca (.int .i64 0) rfl rfl ?_
    refine C_nil (CW_ret ?_)
    obtain rfl := Option.some.inj hF
    exact End_ret () (.tmp rfl rfl .nil) rfl (.sel .nil)
  obtain ⟨hk8, hx9, hd10⟩ := drop_cons hd7
  have hfe11 : (decide (((k4 : Int) : Int) < (a_vals.length : Int))) = true := decide_eq_true (by omega)
  rw [g_cmp_Or_int_L1] at hF
  refine K_region (C_val (V_lss (i := (k4 : Int)) (j := (a_vals.length : Int)) (.tmp rfl rfl) (.tmp rfl rfl)) ?_)
  refine C_nil (K_in (CW_cond (b := (decide (((k4 : Int) : Int) < (a_vals.length : Int)))) (.tmp rfl rfl) (fun _ => ?_) (fun hb => absurd (hfe11.symm.trans hb) (by decide))))
  refine CW_skip (K_block (K_region (C_idx (a := x6) sl22 ty3.sz (.tmp rfl rfl) (.tmp rfl rfl) .h (Int.natCast_nonneg k4) hx9 (fun k13 j14 => ?_))))
  refine C_ldS (w := (.int .i64 x6)) ag3 (.tmp rfl rfl) .h ls3_0 ?_
  refine Ca (.int .i64 x6) rfl rfl ?_
  refine C_nil (K_region (Cm (.int .i64 x6) rfl rfl ?_))
  refine Cm (.int .i64 0) rfl rfl ?_
  refine C_val (V_neq (i := x6) (j := 0) (.tmp rfl rfl) (.tmp rfl rfl)) ?_
  refine C_nil (CW_cond (b := ((x6 : Int) != 0)) (.tmp rfl rfl) (fun hb16 => ?_) (fun hb16 => ?_))
  · rw [if_pos hb16] at hF
    refine K_region (Cm (.int .i64 x6) rfl rfl ?_)
    refine Ca (.int .i64 x6) rfl rfl ?_
    refine C_nil (CW_ret ?_)
    obtain rfl := Option.some.inj hF
    exact End_ret () (.tmp rfl rfl .nil) rfl (.sel .nil)
  rw [if_neg (by rw [hb16]; exact Bool.false_ne_true)] at hF
  refine CW_skip (CW_region (C_val (V_add (i := (k4 : Int)) (j := 1) (.tmp rfl rfl) (.int _ _)) ?_))
  refine Cm (.int .i64 (IntKind.i64.wrap ((k4 : Int) + 1))) rfl rfl ?_
  refine C_nil ?_
  have hw15 : IntKind.i64.wrap ((k4 : Int) + 1) = ((k4 + 1 : Nat) : Int) := by rw [wrap_in (by omega) (by omega)]; rfl
  rw [hw15]
  exact ⟨_, Nat.lt_succ_self _, _, k4 + 1, rest5, rfl, (EqL.cons rfl (EqL.cons rfl (EqL.cons rfl (EqL.cons rfl (EqL.nil))))).eq, hd10, (.sel (.rd (.t .h) rfl .nil)), hF⟩

/-! impl.CompareFacts -/
def i_CompareFacts (a_a : Fact) (a_b : Fact) : Option (Int) :=
  (g_cmp_Compare_int a_a.Rel a_b.Rel).bind fun r3 =>
  (g_slices_Compare_int_int a_a.Values a_b.Values).bind fun r6 =>
  (g_cmp_Or_int ([r3, r6] : List Int)).bind fun r10 =>
  some r10
theorem i_CompareFacts_ok (a_a : Fact) (v0_1 : Sv) (a_b : Fact) (v1_1 : Sv) (R : Int) (hF : i_CompareFacts a_a a_b = some R) :
    Fw.Spec Tryz.prog 135 [(.agg [(.int .i64 a_a.Rel), v0_1.v].toArray), (.agg [(.int .i64 a_b.Rel), v1_1.v].toArray)] [crd (RdS 3 rdInt) v0_1.v a_a.Values, crd (RdS 3 rdInt) v1_1.v a_b.Values] (fun _ : Unit => (.int .i64 R)) (fun _ => []) := by
  refine Spec_enter (n := 17) Tryz.func135 rfl rfl (rs := [.tmp 4]) rfl rfl rfl ?_
  intro H0 F0
  unfold i_CompareFacts at hF
  refine K_region (C_newR rfl (N_box (g := false) (v := (.agg [(.int .i64 a_a.Rel), v0_1.v].toArray)) ty80.sz (.tmp rfl rfl) rfl) (fun k1 => ?_))
  refine C_newR rfl (N_box (g := false) (v := (.agg [(.int .i64 a_b.Rel), v1_1.v].toArray)) ty80.sz (.tmp rfl rfl) rfl) (fun k2 => ?_)
  refine C_val (V_assign (v := (.int .i64 0)) (.int _ _)) ?_
  refine C_nil (K_draw [0, 1, 2, 3, 5, 6, 7, 8, 4, 9, 10, 11, 12] [0, 1, 0, 4, 15, 0, 32, 0, 128, 511, 1023, 2047, 4095] [4, 9, 11] mixed (by decide +kernel) ?_)
  refine D_val rfl .no (fun ha => V_fieldAddr (off := 0) fd80_0 (EN ha (.tmp rfl rfl) rfl)) ?_
  refine D_at rfl .no (.t .h) rfl (fun ha hp => V_load (v := (.int .i64 a_a.Rel)) ag3 (EN ha (.tmp rfl rfl) rfl) hp.2 rfl rfl) ?_
  refine D_val rfl .no (fun ha => V_fieldAddr (off := 0) fd80_0 (EN ha (.tmp rfl rfl) rfl)) ?_
  refine D_at rfl .no .h rfl (fun ha hp => V_load (v := (.int .i64 a_b.Rel)) ag3 (EN ha (.tmp rfl rfl) rfl) hp.2 rfl rfl) ?_
  refine D_val rfl .no (fun ha => V_fieldAddr (off := 1) fd80_1 (EN ha (.tmp rfl rfl) rfl)) ?_
  refine D_at rfl .no (.t .h) rfl (fun ha hp => V_load (v := v0_1.v) ag22 (EN ha (.tmp rfl rfl) rfl) hp.2 rfl rfl) ?_
  refine D_val rfl .no (fun ha => V_fieldAddr (off := 1) fd80_1 (EN ha (.tmp rfl rfl) rfl)) ?_
  refine D_at rfl .no .h rfl (fun ha hp => V_load (v := v1_1.v) ag22 (EN ha (.tmp rfl rfl) rfl) hp.2 rfl rfl) ?_
  obtain ⟨r3, hx4, hF⟩ := bind_some hF
  refine D_act0 rfl rfl .no .nil .nil (fun ha => X_callS cf138 (.cons (EN ha (.tmp rfl rfl) rfl) (.cons (EN ha (.tmp rfl rfl) rfl) .nil)) (g_cmp_Compare_int_ok a_a.Rel a_b.Rel _ hx4)) (fun _ => ?_)
  obtain ⟨r6, hx7, hF⟩ := bind_some hF
  refine D_act0 rfl rfl .no (.rd (.t (.t .h)) rfl (.rd (.t (.t (.t .h))) rfl .nil)) .nil (fun ha => X_callS cf139 (.cons (EN ha (.tmp rfl rfl) rfl) (.cons (EN ha (.tmp rfl rfl) rfl) .nil)) (g_slices_Compare_int_int_ok a_a.Values v0_1 a_b.Values v1_1 _ hx7)) (fun _ => ?_)
  refine D_new rfl .no rfl (fun ha => N_buildSliceT (g := true) (len := 2) (parts := [(0, .tmp 9), (1, .tmp 14)]) sl22 ty3 (.cons (EN ha (.tmp rfl rfl) rfl) (.cons (EN ha (.tmp rfl rfl) rfl) .nil)) (vs := [(.int .i64 r3), (.int .i64 r6)]) rfl rfl rfl (by intro v hv; simp at hv; rcases hv with rfl | rfl <;> rfl)) (fun k9 => ?_)
  refine D_conv (.cons .h .nil) (own_lit (Ro := (roE rdInt)) (E := 3) (F := ([] ++ ([] ++ []))) (xs := ([r3, r6] : List Int)) (MkL_cons (Mk_pure (fun _ => rfl)) (MkL_cons (Mk_pure (fun _ => rfl)) MkL_nil apps) apps) rfl rfl) apps ?_
  obtain ⟨r10, hx11, hF⟩ := bind_some hF
  refine D_act1 rfl rfl .no (.cons .h .nil) (.dep rfl .nil) (fun ha => XC_borL (pre := []) (.cons frz_own .nil) (fun _ => .nil) (X_callS cf137 (.cons (EN ha (.tmp rfl rfl) rfl) .nil) (g_cmp_Or_int_ok ([r3, r6] : List Int) (⟨(some ⟨k9, 0, none⟩), 2, 1⟩) _ hx11))) (fun _ => ?_)
  refine Da (.int .i64 r10) rfl rfl rfl rfl ?_
  refine D_nil (CW_ret ?_)
  obtain rfl := Option.some.inj hF
  exact End_ret () (.tmp rfl rfl .nil) rfl (.sel .nil)

/-! impl.AreFacts -/
def i_AreFacts_L1 (a_s : List Int) (a_l : List Fact) : List Fact → Nat → Option (Bool)
  | [], k4 => ((i_IsSchema a_s).bind fun r15 =>
      bif r15 then (some (decide (((a_l.length : Int) : Int) ≤ 24)))
      else (some false)).bind fun o13 =>
    match o13 with
    | c19 => some c19
  | x6 :: rest5, k4 => ((i_IsFact a_s x6).bind fun r27 =>
      bif (!r27) then (some true)
      else (bif (decide ((0 : Int) < (k4 : Int))) then ((ix a_l (IntKind.i64.wrap ((k4 : Int) - 1))).bind fun x32 =>
          (i_CompareFacts x32 x6).bind fun r39 =>
          some (decide ((0 : Int) ≤ r39)))
        else (some false))).bind fun o25 =>
    match o25 with
    | c42 => if c42 then (
        some false)
      else (
        i_AreFacts_L1 a_s a_l rest5 (k4 + 1))
def i_AreFacts (a_s : List Int) (a_l : List Fact) : Option (Bool) :=
  i_AreFacts_L1 a_s a_l a_l 0
theorem i_AreFacts_ok (a_s : List Int) (v0_0 : Sv) (a_l : List Fact) (v1_0 : Sv) (R : Bool) (hF : i_AreFacts a_s a_l = some R) :
    Fw.Spec Tryz.prog 109 [v0_0.v, v1_0.v] [crd (RdS 3 rdInt) v0_0.v a_s, crd (RdS 80 rd80) v1_0.v a_l] (fun _ : Unit => (.bool R)) (fun _ => []) := by
  refine Spec_enter (n := 40) Tryz.func109 rfl rfl (rs := [.tmp 4]) rfl rfl rfl ?_
  intro H0 F0
  unfold i_AreFacts at hF
  refine K_region (C_val (V_assign (v := (.bool false)) (.bool _)) ?_)
  refine C_nil (K_in (K_region (Cm v1_0.v rfl rfl ?_)))
  refine C_at (.t .h) (fun hp => V_lenR (l := a_l.length) sl39 (.tmp rfl rfl) (crd_len hp)) ?_
  refine C_val (V_move (v := (.int .i64 0)) (.int _ _)) ?_
  refine C_nil (CW_block (CW_loop (m := a_l.length) (fun m2 f' cs' => ∃ (g : Fr) (k4 : Nat) (rest5 : List Fact), m2 = rest5.length ∧ f' = updL g [(0, v0_0.v), (1, v1_0.v), (7, v1_0.v), (8, (.int .i64 (a_l.length : Int))), (9, (.int .i64 (k4 : Int)))] ∧ List.drop k4 a_l = rest5 ∧ Ent cs' [crd (RdS 3 rdInt) v0_0.v a_s, crd (RdS 80 rd80) v1_0.v a_l] ∧ i_AreFacts_L1 a_s a_l rest5 k4 = some R) ⟨_, 0, _, rfl, (EqL.cons rfl (EqL.cons rfl (EqL.cons rfl (EqL.cons rfl (EqL.cons rfl (EqL.nil)))))).eq, rfl, (.sel (.rd .h rfl (.rd (.t .h) rfl .nil))), hF⟩ ?_))
  clear hF
  rintro m2 _ _ ⟨g3, k4, rest5, rfl, rfl, hd7, hE, hF⟩
  refine K_ent hE ?_
  clear hE
  refine K_pure (c := crd (RdS 80 rd80) v1_0.v a_l) (.t .h) crd_bound (fun hbd12 => ?_)
  rcases rest5 with _ | ⟨x6, rest5⟩
  · have hk8 := List.drop_eq_nil_iff.1 hd7
    have hfe11 : (decide (((k4 : Int) : Int) < (a_l.length : Int))) = false := decide_eq_false (by omega)
    rw [i_AreFacts_L1] at hF
    refine K_region (C_val (V_lss (i := (k4 : Int)) (j := (a_l.length : Int)) (.tmp rfl rfl) (.tmp rfl rfl)) ?_)
    refine C_nil (K_in (CW_cond (b := (decide (((k4 : Int) : Int) < (a_l.length : Int)))) (.tmp rfl rfl) (fun hb => absurd (hfe11.symm.trans hb) (by decide)) (fun _ => ?_)))
    refine CW_exit ?_
    iterate 2 refine CThen_exit ?_
    refine CIn_self ?_
    obtain ⟨o13, hio13, hO14⟩ := bind_some hF
    refine K_region (C_cut (fun f' cs' => ∃ (c19 : Bool) (g : Fr), c19 = o13 ∧ f' = updL g [(4, (.bool c19))] ∧ Ent cs' []) ?_ ?_)
    · replace hF := hio13
      refine Cm v0_0.v rfl rfl ?_
      obtain ⟨r15, hx16, hF⟩ := bind_some hF
      refine C_x0 (.rd .h rfl .nil) (X_callS cf102 (.cons (.tmp rfl rfl) .nil) (i_IsSchema_ok a_s v0_0 _ hx16)) (fun _ => ?_)
      refine Cm (.bool r15) rfl rfl ?_
      rcases Bool.eq_false_or_eq_true r15 with hg18 | hg18
      · rw [hg18]
        try rw [hg18] at hF; dsimp only [cond_true, cond_false] at hF
        refine C_on (t := 35) rfl rfl rfl ?_
        refine Cm v1_0.v rfl rfl ?_
        refine C_on (t := 35) rfl rfl rfl ?_
        refine C_at (.t .h) (fun hp => V_lenR (l := a_l.length) sl39 (.tmp rfl rfl) (crd_len hp)) ?_
        refine C_on (t := 35) rfl rfl rfl ?_
        refine C_val (V_leq (i := (a_l.length : Int)) (j := 24) (.tmp rfl rfl) (.int _ _)) ?_
        refine C_val (V_pick (b := true) (u := (.bool (decide (((a_l.length : Int) : Int) ≤ 24)))) (v := (.bool false)) (.tmp rfl rfl) (.tmp rfl rfl) (.bool _)) ?_
        refine Ca (.bool (decide (((a_l.length : Int) : Int) ≤ 24))) rfl rfl ?_
        refine C_nil ?_
        obtain rfl := Option.some.inj hF
        exact ⟨_, _, rfl, (EqL.cons rfl (EqL.nil)).eq, (.sel .nil)⟩
      rw [hg18]
      try rw [hg18] at hF; dsimp only [cond_true, cond_false] at hF
      iterate 3 refine C_off (t := 35) rfl rfl rfl ?_
      refine C_val (V_pick (b := false) (u := undef) (v := (.bool false)) (.tmp rfl rfl) (.tmp rfl rfl) (.bool _)) ?_
      refine Ca (.bool false) rfl rfl ?_
      refine C_nil ?_
      obtain rfl := Option.some.inj hF
      exact ⟨_, _, rfl, (EqL.cons rfl (EqL.nil)).eq, (.sel .nil)⟩
    rintro _ _ ⟨c19, g20, rfl, rfl, hE⟩
    replace hF := hO14
    clear hO14
    try dsimp only at hF
    refine K_ent hE ?_
    refine CW_ret ?_
    obtain rfl := Option.some.inj hF
    exact End_ret () (.tmp rfl rfl .nil) rfl (.sel .nil)
  obtain ⟨hk8, hx9, hd10⟩ := drop_cons hd7
  have hfe11 : (decide (((k4 : Int) : Int) < (a_l.length : Int))) = true := decide_eq_true (by omega)
  rw [i_AreFacts_L1] at hF
  refine K_region (C_val (V_lss (i := (k4 : Int)) (j := (a_l.length : Int)) (.tmp rfl rfl) (.tmp rfl rfl)) ?_)
  refine C_nil (K_in (CW_cond (b := (decide (((k4 : Int) : Int) < (a_l.length : Int)))) (.tmp rfl rfl) (fun _ => ?_) (fun hb => absurd (hfe11.symm.trans hb) (by decide))))
  refine CW_skip (K_block (K_region (Cm (.int .i64 (k4 : Int)) rfl rfl ?_)))
  refine C_idx (a := x6) sl39 ty80.sz (.tmp rfl rfl) (.tmp rfl rfl) (.t .h) (Int.natCast_nonneg k4) hx9 (fun k21 j22 => ?_)
  refine C_ldA1 (ul80_0_80 x6) ag80 ty80.sz rfl (.tmp rfl rfl) .h la80_0_80 (fun p23 => ?_)
  refine C_new rfl (N_allocT (g := true) ty80 rfl rfl) (fun k24 => ?_)
  refine Ca (.int .i64 (k4 : Int)) rfl rfl ?_
  refine C_x1 (.cons .h .nil) (X_storeB (e' := (.agg [(.int .i64 x6.Rel), p23.v].toArray)) (v := (.agg [(.int .i64 x6.Rel), p23.v].toArray)) ty80.sz (.tmp rfl rfl) (.tmp rfl rfl) rfl rfl rfl rfl rfl) (fun _ => ?_)
  refine C_nil ?_
  obtain ⟨o25, hio25, hO26⟩ := bind_some hF
  refine K_draw [0, 1, 2, 3, 4, 5, 6, 7, 8, 9, 10, 11, 12, 13, 14, 15, 16, 17] [0, 0, 3, 7, 15, 31, 63, 127, 255, 255, 767, 2047, 4095, 255, 16383, 32767, 65535, 131071] [2, 14] mixed (by decide +kernel) ?_
  refine D_cut (fun f' cs' => ∃ (c42 : Bool) (g : Fr), c42 = o25 ∧ f' = updL g [(0, v0_0.v), (1, v1_0.v), (7, v1_0.v), (8, (.int .i64 (a_l.length : Int))), (9, (.int .i64 (k4 : Int))), (31, (.bool c42))] ∧ Ent cs' [crd (RdS 3 rdInt) v0_0.v a_s, crd (RdS 80 rd80) v1_0.v a_l]) ?_ ?_
  · replace hF := hio25
    refine Dm v0_0.v rfl rfl rfl rfl ?_
    refine D_atO rfl .no .h (fun ha hp => V_loadBox ag80 ty80.sz rfl (EN ha (.tmp rfl rfl) rfl) hp.2 rfl) ?_
    obtain ⟨r27, hx28, hF⟩ := bind_some hF
    refine D_act0 rfl rfl .no (.rd (.t (.t (.t .h))) rfl (.rd (.t .h) rfl .nil)) (.dep rfl .nil) (fun ha => X_callS cf134 (.cons (EN ha (.tmp rfl rfl) rfl) (.cons (EN ha (.tmp rfl rfl) rfl) .nil)) (i_IsFact_ok a_s v0_0 x6 p23 _ hx28)) (fun _ => ?_)
    refine D_val rfl .no (fun ha => V_not (b := r27) (EN ha (.tmp rfl rfl) rfl)) ?_
    refine Dm (.bool (!r27)) rfl rfl rfl rfl ?_
    rcases Bool.eq_false_or_eq_true (!r27) with hg30 | hg30
    · rw [hg30]
      try rw [hg30] at hF; dsimp only [cond_true, cond_false] at hF
      iterate 3 refine D_off 18 rfl rfl rfl rfl ?_
      iterate 8 refine D_offU 21 rfl rfl rfl rfl ?_
      refine D_off 18 rfl rfl rfl rfl ?_
      refine D_val rfl .no (fun ha => V_pick (b := true) (u := (.bool true)) (v := undef) (EN ha (.tmp rfl rfl) rfl) (EN ha (.bool _) rfl) (EN ha (.tmp rfl rfl) rfl)) ?_
      refine D_nil ?_
      obtain rfl := Option.some.inj hF
      exact ⟨_, _, rfl, (EqL.cons rfl (EqL.cons rfl (EqL.cons rfl (EqL.cons rfl (EqL.cons rfl (EqL.cons rfl (EqL.nil))))))).eq, (.sel (.rd (.t (.t (.t .h))) rfl (.rd (.t (.t (.t (.t .h)))) rfl .nil)))⟩
    rw [hg30]
    try rw [hg30] at hF; dsimp only [cond_true, cond_false] at hF
    refine D_val rfl (.on 18 rfl rfl rfl) (fun ha => V_move (v := (.int .i64 (k4 : Int))) (EN ha (.tmp rfl rfl) rfl)) ?_
    refine D_val rfl (.on 18 rfl rfl rfl) (fun ha => V_gtr (i := (k4 : Int)) (j := 0) (EN ha (.tmp rfl rfl) rfl) (EN ha (.int _ _) rfl)) ?_
    refine D_val rfl (.on 18 rfl rfl rfl) (fun ha => V_move (v := (.bool (decide ((0 : Int) < (k4 : Int))))) (EN ha (.tmp rfl rfl) rfl)) ?_
    rcases Bool.eq_false_or_eq_true (decide ((0 : Int) < (k4 : Int))) with hg31 | hg31
    · rw [hg31]
      try rw [hg31] at hF; dsimp only [cond_true, cond_false] at hF
      refine D_val rfl (.on 21 rfl rfl rfl) (fun ha => V_move (v := v1_0.v) (EN ha (.tmp rfl rfl) rfl)) ?_
      refine D_val rfl (.on 21 rfl rfl rfl) (fun ha => V_move (v := (.int .i64 (k4 : Int))) (EN ha (.tmp rfl rfl) rfl)) ?_
      refine D_val rfl (.on 21 rfl rfl rfl) (fun ha => V_sub (i := (k4 : Int)) (j := 1) (EN ha (.tmp rfl rfl) rfl) (EN ha (.int _ _) rfl)) ?_
      obtain ⟨x32, hx33, hF⟩ := bind_some hF
      obtain ⟨hp34, hx35⟩ := ix_some hx33
      refine D_idx (a := x32) sl39 ty80.sz rfl (.on 21 rfl rfl rfl) (.tmp rfl rfl) (.tmp rfl rfl) rfl rfl (.t (.t (.t (.t .h)))) hp34 hx35 (fun k36 j37 => ?_)
      refine D_ldA1 (ul80_0_80 x32) ag80 ty80.sz rfl rfl (.on 21 rfl rfl rfl) (.tmp rfl rfl) rfl .h la80_0_80 (fun p38 => ?_)
      refine D_atO rfl (.on 21 rfl rfl rfl) (.t (.t .h)) (fun ha hp => V_loadBox ag80 ty80.sz rfl (EN ha (.tmp rfl rfl) rfl) hp.2 rfl) ?_
      obtain ⟨r39, hx40, hF⟩ := bind_some hF
      refine D_act0 rfl rfl (.on 21 rfl rfl rfl) (.rd .h rfl (.rd (.t (.t (.t .h))) rfl .nil)) (.dep rfl (.dep rfl .nil)) (fun ha => X_callS cf135 (.cons (EN ha (.tmp rfl rfl) rfl) (.cons (EN ha (.tmp rfl rfl) rfl) .nil)) (i_CompareFacts_ok x32 p38 x6 p23 _ hx40)) (fun _ => ?_)
      refine D_val rfl (.on 21 rfl rfl rfl) (fun ha => V_geq (i := r39) (j := 0) (EN ha (.tmp rfl rfl) rfl) (EN ha (.int _ _) rfl)) ?_
      refine D_val rfl (.on 18 rfl rfl rfl) (fun ha => V_pick (b := true) (u := (.bool (decide ((0 : Int) ≤ r39)))) (v := (.bool false)) (EN ha (.tmp rfl rfl) rfl) (EN ha (.tmp rfl rfl) rfl) (EN ha (.bool _) rfl)) ?_
      refine D_val rfl .no (fun ha => V_pick (b := false) (u := (.bool true)) (v := (.bool (decide ((0 : Int) ≤ r39)))) (EN ha (.tmp rfl rfl) rfl) (EN ha (.bool _) rfl) (EN ha (.tmp rfl rfl) rfl)) ?_
      refine D_nil ?_
      obtain rfl := Option.some.inj hF
      exact ⟨_, _, rfl, (EqL.cons rfl (EqL.cons rfl (EqL.cons rfl (EqL.cons rfl (EqL.cons rfl (EqL.cons rfl (EqL.nil))))))).eq, (.sel (.rd (.t (.t (.t (.t (.t .h))))) rfl (.rd (.t (.t (.t (.t (.t (.t .h)))))) rfl .nil)))⟩
    rw [hg31]
    try rw [hg31] at hF; dsimp only [cond_true, cond_false] at hF
    iterate 8 refine D_off 21 rfl rfl rfl rfl ?_
    refine D_val rfl (.on 18 rfl rfl rfl) (fun ha => V_pick (b := false) (u := undef) (v := (.bool false)) (EN ha (.tmp rfl rfl) rfl) (EN ha (.tmp rfl rfl) rfl) (EN ha (.bool _) rfl)) ?_
    refine D_val rfl .no (fun ha => V_pick (b := false) (u := (.bool true)) (v := (.bool false)) (EN ha (.tmp rfl rfl) rfl) (EN ha (.bool _) rfl) (EN ha (.tmp rfl rfl) rfl)) ?_
    refine D_nil ?_
    obtain rfl := Option.some.inj hF
    exact ⟨_, _, rfl, (EqL.cons rfl (EqL.cons rfl (EqL.cons rfl (EqL.cons rfl (EqL.cons rfl (EqL.cons rfl (EqL.nil))))))).eq, (.sel (.rd (.t (.t (.t .h))) rfl (.rd (.t (.t (.t (.t .h)))) rfl .nil)))⟩
  rintro _ _ ⟨c42, g45, rfl, rfl, hE⟩
  replace hF := hO26
  clear hO26
  try dsimp only at hF
  refine K_ent hE ?_
  refine CW_cond (b := c42) (.tmp rfl rfl) (fun hb44 => ?_) (fun hb44 => ?_)
  · rw [if_pos hb44] at hF
    refine K_region (C_val (V_assign (v := (.bool false)) (.bool _)) ?_)
    refine C_nil (CW_ret ?_)
    obtain rfl := Option.some.inj hF
    exact End_ret () (.tmp rfl rfl .nil) rfl (.sel .nil)
  rw [if_neg (by rw [hb44]; exact Bool.false_ne_true)] at hF
  refine CW_skip (CW_region (C_val (V_add (i := (k4 : Int)) (j := 1) (.tmp rfl rfl) (.int _ _)) ?_))
  refine Cm (.int .i64 (IntKind.i64.wrap ((k4 : Int) + 1))) rfl rfl ?_
  refine C_nil ?_
  have hw43 : IntKind.i64.wrap ((k4 : Int) + 1) = ((k4 + 1 : Nat) : Int) := by rw [wrap_in (by omega) (by omega)]; rfl
  rw [hw43]
  exact ⟨_, Nat.lt_succ_self _, _, k4 + 1, rest5, rfl, (EqL.cons rfl (EqL.cons rfl (EqL.cons rfl (EqL.cons rfl (EqL.cons rfl (EqL.nil)))))).eq, hd10, (.sel (.rd .h rfl (.rd (.t .h) rfl .nil))), hF⟩

/-! impl.IsSource -/
def i_IsSource (a_s : List Int) (a_x : Source) : Option (Bool) :=
  ((i_AreFacts a_s a_x.Facts).bind fun r4 =>
    bif r4 then ((i_within a_x.Version 0 1000).bind fun r8 =>
      some r8)
    else (some false)).bind fun o2 =>
  match o2 with
  | c11 => some c11
theorem i_IsSource_ok (a_s : List Int) (v0_0 : Sv) (a_x : Source) (v1_0 : Sv) (R : Bool) (hF : i_IsSource a_s a_x = some R) :
    Fw.Spec Tryz.prog 69 [v0_0.v, (.agg [v1_0.v, (.int .i64 a_x.Version)].toArray)] [crd (RdS 3 rdInt) v0_0.v a_s, crd (RdS 80 rd80) v1_0.v a_x.Facts] (fun _ : Unit => (.bool R)) (fun _ => []) := by
  refine Spec_enter (n := 14) Tryz.func69 rfl rfl (rs := [.tmp 4]) rfl rfl rfl ?_
  intro H0 F0
  unfold i_IsSource at hF
  refine K_region (C_newR rfl (N_box (g := false) (v := (.agg [v1_0.v, (.int .i64 a_x.Version)].toArray)) ty41.sz (.tmp rfl rfl) rfl) (fun k1 => ?_))
  refine C_val (V_assign (v := (.bool false)) (.bool _)) ?_
  refine C_nil ?_
  obtain ⟨o2, hio2, hO3⟩ := bind_some hF
  refine K_region (C_cut (fun f' cs' => ∃ (c11 : Bool) (g : Fr), c11 = o2 ∧ f' = updL g [(4, (.bool c11))] ∧ Ent cs' []) ?_ ?_)
  · replace hF := hio2
    refine Cm v0_0.v rfl rfl ?_
    refine C_val (V_fieldAddr (off := 0) fd41_0 (.tmp rfl rfl)) ?_
    refine C_at .h (fun hp => V_load (v := v1_0.v) ag39 (.tmp rfl rfl) hp.2 rfl rfl) ?_
    obtain ⟨r4, hx5, hF⟩ := bind_some hF
    refine C_x0 (.rd (.t .h) rfl (.rd (.t (.t .h)) rfl .nil)) (X_callS cf109 (.cons (.tmp rfl rfl) (.cons (.tmp rfl rfl) .nil)) (i_AreFacts_ok a_s v0_0 a_x.Facts v1_0 _ hx5)) (fun _ => ?_)
    refine Cm (.bool r4) rfl rfl ?_
    rcases Bool.eq_false_or_eq_true r4 with hg7 | hg7
    · rw [hg7]
      try rw [hg7] at hF; dsimp only [cond_true, cond_false] at hF
      refine C_on (t := 9) rfl rfl rfl ?_
      refine C_val (V_fieldAddr (off := 1) fd41_1 (.tmp rfl rfl)) ?_
      refine C_on (t := 9) rfl rfl rfl ?_
      refine C_at .h (fun hp => V_load (v := (.int .i64 a_x.Version)) ag3 (.tmp rfl rfl) hp.2 rfl rfl) ?_
      refine C_on (t := 9) rfl rfl rfl ?_
      obtain ⟨r8, hx9, hF⟩ := bind_some hF
      refine C_x0 .nil (X_callS cf76 (.cons (.tmp rfl rfl) (.cons (.int _ _) (.cons (.int _ _) .nil))) (i_within_ok a_x.Version 0 1000 _ hx9)) (fun _ => ?_)
      refine C_val (V_pick (b := true) (u := (.bool r8)) (v := (.bool false)) (.tmp rfl rfl) (.tmp rfl rfl) (.bool _)) ?_
      refine Ca (.bool r8) rfl rfl ?_
      refine C_nil ?_
      obtain rfl := Option.some.inj hF
      exact ⟨_, _, rfl, (EqL.cons rfl (EqL.nil)).eq, (.sel .nil)⟩
    rw [hg7]
    try rw [hg7] at hF; dsimp only [cond_true, cond_false] at hF
    iterate 3 refine C_off (t := 9) rfl rfl rfl ?_
    refine C_val (V_pick (b := false) (u := undef) (v := (.bool false)) (.tmp rfl rfl) (.tmp rfl rfl) (.bool _)) ?_
    refine Ca (.bool false) rfl rfl ?_
    refine C_nil ?_
    obtain rfl := Option.some.inj hF
    exact ⟨_, _, rfl, (EqL.cons rfl (EqL.nil)).eq, (.sel .nil)⟩
  rintro _ _ ⟨c11, g12, rfl, rfl, hE⟩
  replace hF := hO3
  clear hO3
  try dsimp only at hF
  refine K_ent hE ?_
  refine CW_ret ?_
  obtain rfl := Option.some.inj hF
  exact End_ret () (.tmp rfl rfl .nil) rfl (.sel .nil)

/-! impl.IsAccess -/
def i_IsAccess (a_s : List Int) (a_l : List Method) (a_a : Access) : Option (Bool) :=
  ((i_AreMethods a_s a_l).bind fun r4 =>
    bif r4 then ((i_within a_a.Method 0 (IntKind.i64.wrap ((a_l.length : Int) - 1))).bind fun r8 =>
      bif r8 then ((ix a_l a_a.Method).bind fun x12 =>
        bif (((a_a.Values.length : Int) : Int) == (x12.Inputs.length : Int)) then ((i_areValues a_a.Values).bind fun r20 =>
          some r20)
        else (some false))
      else (some false))
    else (some false)).bind fun o2 =>
  match o2 with
  | c23 => some c23
theorem i_IsAccess_ok (a_s : List Int) (v0_0 : Sv) (a_l : List Method) (v1_0 : Sv) (a_a : Access) (v2_1 : Sv) (R : Bool) (hF : i_IsAccess a_s a_l a_a = some R) :
    Fw.Spec Tryz.prog 74 [v0_0.v, v1_0.v, (.agg [(.int .i64 a_a.Method), v2_1.v].toArray)] [crd (RdS 3 rdInt) v0_0.v a_s, crd (RdS 108 rd108) v1_0.v a_l, crd (RdS 3 rdInt) v2_1.v a_a.Values] (fun _ : Unit => (.bool R)) (fun _ => []) := by
  refine Spec_enter (n := 36) Tryz.func74 rfl rfl (rs := [.tmp 6]) rfl rfl rfl ?_
  intro H0 F0
  unfold i_IsAccess at hF
  refine K_region (C_newR rfl (N_box (g := false) (v := (.agg [(.int .i64 a_a.Method), v2_1.v].toArray)) ty105.sz (.tmp rfl rfl) rfl) (fun k1 => ?_))
  refine C_val (V_assign (v := (.bool false)) (.bool _)) ?_
  refine C_nil ?_
  obtain ⟨o2, hio2, hO3⟩ := bind_some hF
  refine K_draw [0, 1, 2, 3, 4, 5, 6, 7, 8, 9, 10, 11, 12, 13, 14, 15, 16, 17, 18, 19, 20, 21, 22, 23, 24, 25, 26, 27, 28, 29] [0, 0, 3, 7, 15, 31, 15, 79, 207, 511, 1023, 2047, 4095, 8191, 16383, 4095, 4095, 69631, 233471, 495615, 1019903, 2068479, 4194303, 8388607, 16777215, 33554431, 67108863, 134217727, 268435455, 536870911] [2, 9, 27] mixed (by decide +kernel) ?_
  refine D_cut (fun f' cs' => ∃ (c23 : Bool) (g : Fr), c23 = o2 ∧ f' = updL g [(6, (.bool c23))] ∧ Ent cs' []) ?_ ?_
  · replace hF := hio2
    refine Dm v0_0.v rfl rfl rfl rfl ?_
    refine Dm v1_0.v rfl rfl rfl rfl ?_
    obtain ⟨r4, hx5, hF⟩ := bind_some hF
    refine D_act0 rfl rfl .no (.rd (.t .h) rfl (.rd (.t (.t .h)) rfl .nil)) .nil (fun ha => X_callS cf67 (.cons (EN ha (.tmp rfl rfl) rfl) (.cons (EN ha (.tmp rfl rfl) rfl) .nil)) (i_AreMethods_ok a_s v0_0 a_l v1_0 _ hx5)) (fun _ => ?_)
    refine Dm (.bool r4) rfl rfl rfl rfl ?_
    rcases Bool.eq_false_or_eq_true r4 with hg7 | hg7
    · rw [hg7]
      try rw [hg7] at hF; dsimp only [cond_true, cond_false] at hF
      refine D_val rfl (.on 10 rfl rfl rfl) (fun ha => V_fieldAddr (off := 0) fd105_0 (EN ha (.tmp rfl rfl) rfl)) ?_
      refine D_at rfl (.on 10 rfl rfl rfl) .h rfl (fun ha hp => V_load (v := (.int .i64 a_a.Method)) ag3 (EN ha (.tmp rfl rfl) rfl) hp.2 rfl rfl) ?_
      refine D_val rfl (.on 10 rfl rfl rfl) (fun ha => V_move (v := v1_0.v) (EN ha (.tmp rfl rfl) rfl)) ?_
      refine D_at rfl (.on 10 rfl rfl rfl) (.t (.t .h)) rfl (fun ha hp => V_lenR (l := a_l.length) sl37 (EN ha (.tmp rfl rfl) rfl) (crd_len hp)) ?_
      refine D_val rfl (.on 10 rfl rfl rfl) (fun ha => V_sub (i := (a_l.length : Int)) (j := 1) (EN ha (.tmp rfl rfl) rfl) (EN ha (.int _ _) rfl)) ?_
      obtain ⟨r8, hx9, hF⟩ := bind_some hF
      refine D_act0 rfl rfl (.on 10 rfl rfl rfl) .nil .nil (fun ha => X_callS cf76 (.cons (EN ha (.tmp rfl rfl) rfl) (.cons (EN ha (.int _ _) rfl) (.cons (EN ha (.tmp rfl rfl) rfl) .nil))) (i_within_ok a_a.Method 0 (IntKind.i64.wrap ((a_l.length : Int) - 1)) _ hx9)) (fun _ => ?_)
      refine D_val rfl .no (fun ha => V_pick (b := true) (u := (.bool r8)) (v := (.bool false)) (EN ha (.tmp rfl rfl) rfl) (EN ha (.tmp rfl rfl) rfl) (EN ha (.bool _) rfl)) ?_
      refine Dm (.bool r8) rfl rfl rfl rfl ?_
      rcases Bool.eq_false_or_eq_true r8 with hg11 | hg11
      · rw [hg11]
        try rw [hg11] at hF; dsimp only [cond_true, cond_false] at hF
        refine D_val rfl (.on 18 rfl rfl rfl) (fun ha => V_fieldAddr (off := 1) fd105_1 (EN ha (.tmp rfl rfl) rfl)) ?_
        refine D_at rfl (.on 18 rfl rfl rfl) .h rfl (fun ha hp => V_load (v := v2_1.v) ag22 (EN ha (.tmp rfl rfl) rfl) hp.2 rfl rfl) ?_
        refine D_at rfl (.on 18 rfl rfl rfl) (.t (.t (.t .h))) rfl (fun ha hp => V_lenR (l := a_a.Values.length) sl22 (EN ha (.tmp rfl rfl) rfl) (crd_len hp)) ?_
        refine D_val rfl (.on 18 rfl rfl rfl) (fun ha => V_move (v := v1_0.v) (EN ha (.tmp rfl rfl) rfl)) ?_
        refine D_val rfl (.on 18 rfl rfl rfl) (fun ha => V_fieldAddr (off := 0) fd105_0 (EN ha (.tmp rfl rfl) rfl)) ?_
        refine D_at rfl (.on 18 rfl rfl rfl) .h rfl (fun ha hp => V_load (v := (.int .i64 a_a.Method)) ag3 (EN ha (.tmp rfl rfl) rfl) hp.2 rfl rfl) ?_
        obtain ⟨x12, hx13, hF⟩ := bind_some hF
        obtain ⟨hp14, hx15⟩ := ix_some hx13
        refine D_idx (a := x12) sl37 ty108.sz rfl (.on 18 rfl rfl rfl) (.tmp rfl rfl) (.tmp rfl rfl) rfl rfl (.t (.t .h)) hp14 hx15 (fun k16 j17 => ?_)
        refine D_val rfl (.on 18 rfl rfl rfl) (fun ha => V_fieldAddr (off := 1) fd108_1 (EN ha (.tmp rfl rfl) rfl)) ?_
        refine D_ldV (R' := (RdS 3 rdInt)) ag22 rfl (.on 18 rfl rfl rfl) (.tmp rfl rfl) rfl .h lv108_1 (fun w18 => ?_)
        refine D_at rfl (.on 18 rfl rfl rfl) .h rfl (fun ha hp => V_lenR (l := x12.Inputs.length) sl22 (EN ha (.tmp rfl rfl) rfl) (crd_len hp)) ?_
        refine D_val rfl (.on 18 rfl rfl rfl) (fun ha => V_eql (i := (a_a.Values.length : Int)) (j := (x12.Inputs.length : Int)) (EN ha (.tmp rfl rfl) rfl) (EN ha (.tmp rfl rfl) rfl)) ?_
        refine D_val rfl .no (fun ha => V_pick (b := true) (u := (.bool (((a_a.Values.length : Int) : Int) == (x12.Inputs.length : Int)))) (v := (.bool false)) (EN ha (.tmp rfl rfl) rfl) (EN ha (.tmp rfl rfl) rfl) (EN ha (.bool _) rfl)) ?_
        refine Dm (.bool (((a_a.Values.length : Int) : Int) == (x12.Inputs.length : Int))) rfl rfl rfl rfl ?_
        rcases Bool.eq_false_or_eq_true (((a_a.Values.length : Int) : Int) == (x12.Inputs.length : Int)) with hg19 | hg19
        · rw [hg19]
          try rw [hg19] at hF; dsimp only [cond_true, cond_false] at hF
          refine D_val rfl (.on 31 rfl rfl rfl) (fun ha => V_fieldAddr (off := 1) fd105_1 (EN ha (.tmp rfl rfl) rfl)) ?_
          refine D_at rfl (.on 31 rfl rfl rfl) (.t (.t .h)) rfl (fun ha hp => V_load (v := v2_1.v) ag22 (EN ha (.tmp rfl rfl) rfl) hp.2 rfl rfl) ?_
          obtain ⟨r20, hx21, hF⟩ := bind_some hF
          refine D_act0 rfl rfl (.on 31 rfl rfl rfl) (.rd (.t (.t (.t (.t (.t .h))))) rfl .nil) .nil (fun ha => X_callS cf90 (.cons (EN ha (.tmp rfl rfl) rfl) .nil) (i_areValues_ok a_a.Values v2_1 _ hx21)) (fun _ => ?_)
          refine D_val rfl .no (fun ha => V_pick (b := true) (u := (.bool r20)) (v := (.bool false)) (EN ha (.tmp rfl rfl) rfl) (EN ha (.tmp rfl rfl) rfl) (EN ha (.bool _) rfl)) ?_
          refine Da (.bool r20) rfl rfl rfl rfl ?_
          refine D_nil ?_
          obtain rfl := Option.some.inj hF
          exact ⟨_, _, rfl, (EqL.cons rfl (EqL.nil)).eq, (.sel .nil)⟩
        rw [hg19]
        try rw [hg19] at hF; dsimp only [cond_true, cond_false] at hF
        iterate 3 refine D_off 31 rfl rfl rfl rfl ?_
        refine D_val rfl .no (fun ha => V_pick (b := false) (u := undef) (v := (.bool false)) (EN ha (.tmp rfl rfl) rfl) (EN ha (.tmp rfl rfl) rfl) (EN ha (.bool _) rfl)) ?_
        refine Da (.bool false) rfl rfl rfl rfl ?_
        refine D_nil ?_
        obtain rfl := Option.some.inj hF
        exact ⟨_, _, rfl, (EqL.cons rfl (EqL.nil)).eq, (.sel .nil)⟩
      rw [hg11]
      try rw [hg11] at hF; dsimp only [cond_true, cond_false] at hF
      iterate 11 refine D_off 18 rfl rfl rfl rfl ?_
      refine D_val rfl .no (fun ha => V_pick (b := false) (u := undef) (v := (.bool false)) (EN ha (.tmp rfl rfl) rfl) (EN ha (.tmp rfl rfl) rfl) (EN ha (.bool _) rfl)) ?_
      refine Dm (.bool false) rfl rfl rfl rfl ?_
      iterate 3 refine D_off 31 rfl rfl rfl rfl ?_
      refine D_val rfl .no (fun ha => V_pick (b := false) (u := undef) (v := (.bool false)) (EN ha (.tmp rfl rfl) rfl) (EN ha (.tmp rfl rfl) rfl) (EN ha (.bool _) rfl)) ?_
      refine Da (.bool false) rfl rfl rfl rfl ?_
      refine D_nil ?_
      obtain rfl := Option.some.inj hF
      exact ⟨_, _, rfl, (EqL.cons rfl (EqL.nil)).eq, (.sel .nil)⟩
    rw [hg7]
    try rw [hg7] at hF; dsimp only [cond_true, cond_false] at hF
    iterate 6 refine D_off 10 rfl rfl rfl rfl ?_
    refine D_val rfl .no (fun ha => V_pick (b := false) (u := undef) (v := (.bool false)) (EN ha (.tmp rfl rfl) rfl) (EN ha (.tmp rfl rfl) rfl) (EN ha (.bool _) rfl)) ?_
    refine Dm (.bool false) rfl rfl rfl rfl ?_
    iterate 11 refine D_off 18 rfl rfl rfl rfl ?_
    refine D_val rfl .no (fun ha => V_pick (b := false) (u := undef) (v := (.bool false)) (EN ha (.tmp rfl rfl) rfl) (EN ha (.tmp rfl rfl) rfl) (EN ha (.bool _) rfl)) ?_
    refine Dm (.bool false) rfl rfl rfl rfl ?_
    iterate 3 refine D_off 31 rfl rfl rfl rfl ?_
    refine D_val rfl .no (fun ha => V_pick (b := false) (u := undef) (v := (.bool false)) (EN ha (.tmp rfl rfl) rfl) (EN ha (.tmp rfl rfl) rfl) (EN ha (.bool _) rfl)) ?_
    refine Da (.bool false) rfl rfl rfl rfl ?_
    refine D_nil ?_
    obtain rfl := Option.some.inj hF
    exact ⟨_, _, rfl, (EqL.cons rfl (EqL.nil)).eq, (.sel .nil)⟩
  rintro _ _ ⟨c23, g24, rfl, rfl, hE⟩
  replace hF := hO3
  clear hO3
  try dsimp only at hF
  refine K_ent hE ?_
  refine CW_ret ?_
  obtain rfl := Option.some.inj hF
  exact End_ret () (.tmp rfl rfl .nil) rfl (.sel .nil)

/-! slices.Clone[[]int,int] -/
def g_slices_Clone_int_int (a_s : List Int) : Option ((List Int)) :=
  (app ([] : List Int) a_s).bind fun z5 =>
  some z5
theorem g_slices_Clone_int_int_ok (a_s : List Int) (v0_0 : Sv) (R : (List Int)) (hF : g_slices_Clone_int_int a_s = some R) :
    Fw.Spec Tryz.prog 164 [v0_0.v] [crd (RdS 3 rdInt) v0_0.v a_s] (fun p : Sv × List Nat => p.1.v) (fun p => [cown (OwnS 3 (roE rdInt)) p.2 p.1.v R]) := by
  refine Spec_enter (n := 8) Tryz.func164 rfl rfl (rs := [.tmp 2]) rfl rfl rfl ?_
  intro H0 F0
  unfold g_slices_Clone_int_int at hF
  refine K_region (C_val (V_assign (v := (.slice none 0 0)) EV.nilSlice) ?_)
  refine C_nil (K_in (K_region (Cm v0_0.v rfl rfl ?_)))
  refine C_eqNil (xs := a_s) sl22 (.tmp rfl rfl) .h crd_nilc (fun bn1 hn2 => ?_)
  refine C_nil (CW_cond (b := bn1) (.tmp rfl rfl) (fun hb3 => ?_) (fun hb3 => ?_))
  · have hnil := hn2 hb3
    replace hF : some [] = some R := by rw [hnil] at hF; simpa [app] using hF
    refine K_region (C_val (V_assign (v := (.slice none 0 0)) EV.nilSlice) ?_)
    refine C_nil (CW_ret ?_)
    obtain rfl := Option.some.inj hF
    exact End_ret (⟨none, 0, 0⟩, []) (.tmp rfl rfl .nil) rfl (.conv .nil (own_nil (Ro := (roE rdInt)) (E := 3)) (.cons .nil) (.sel (.cons .h .nil)))
  refine CW_skip (K_region (C_new rfl (N_buildSliceT (g := true) sl22 ty3 .nil (vs := []) rfl rfl rfl (by simp)) (fun k4 => ?_)))
  refine C_conv (.cons .h .nil) (own_lit (Ro := (roE rdInt)) (E := 3) (F := []) (xs := ([] : List Int)) MkL_nil rfl rfl) apps ?_
  refine Cm v0_0.v rfl rfl ?_
  obtain ⟨z5, hx6, hF⟩ := bind_some hF
  refine C_x1 (.cons .h (.rd .h rfl .nil)) (X_appendO (Ro := (roE rdInt)) sl22 ni22 ty3 rfl rfl rfl (.tmp rfl rfl) (.tmp rfl rfl) hx6 src_rd) (fun p7 => ?_)
  refine Ca p7.1.v rfl rfl ?_
  refine C_nil (CW_ret ?_)
  obtain rfl := Option.some.inj hF
  exact End_ret (p7.1, p7.2) (.tmp rfl rfl .nil) rfl (.sel (.cons .h .nil))

/-! impl.copyFact -/
def i_copyFact (a_f : Fact) : Option (Fact) :=
  (g_slices_Clone_int_int a_f.Values).bind fun r3 =>
  some ({ Rel := a_f.Rel, Values := r3 } : Fact)
theorem i_copyFact_ok (a_f : Fact) (v0_1 : Sv) (R : Fact) (hF : i_copyFact a_f = some R) :
    Fw.Spec Tryz.prog 158 [(.agg [(.int .i64 a_f.Rel), v0_1.v].toArray)] [crd (RdS 3 rdInt) v0_1.v a_f.Values] (fun p : Sv × List Nat => (.agg [(.int .i64 R.Rel), p.1.v].toArray)) (fun p => [cown (OwnS 3 (roE rdInt)) p.2 p.1.v R.Values]) := by
  refine Spec_enter (n := 9) Tryz.func158 rfl rfl (rs := [.cell 2 80]) rfl rfl rfl ?_
  intro H0 F0
  unfold i_copyFact at hF
  refine K_region (C_newR rfl (N_box (g := false) (v := (.agg [(.int .i64 a_f.Rel), v0_1.v].toArray)) ty80.sz (.tmp rfl rfl) rfl) (fun k1 => ?_))
  refine C_new rfl (N_allocT (g := true) ty80 rfl rfl) (fun k2 => ?_)
  refine C_nil (K_draw [0, 1, 2, 3, 4, 5, 6] [0, 1, 0, 4, 12, 31, 63] [4, 6] mixed (by decide +kernel) ?_)
  refine D_val rfl .no (fun ha => V_fieldAddr (off := 0) fd80_0 (EN ha (.tmp rfl rfl) rfl)) ?_
  refine D_at rfl .no (.t .h) rfl (fun ha hp => V_load (v := (.int .i64 a_f.Rel)) ag3 (EN ha (.tmp rfl rfl) rfl) hp.2 rfl rfl) ?_
  refine D_val rfl .no (fun ha => V_fieldAddr (off := 1) fd80_1 (EN ha (.tmp rfl rfl) rfl)) ?_
  refine D_at rfl .no (.t .h) rfl (fun ha hp => V_load (v := v0_1.v) ag22 (EN ha (.tmp rfl rfl) rfl) hp.2 rfl rfl) ?_
  obtain ⟨r3, hx4, hF⟩ := bind_some hF
  refine D_act1 rfl rfl .no (.rd (.t (.t .h)) rfl .nil) .nil (fun ha => X_callS cf164 (.cons (EN ha (.tmp rfl rfl) rfl) .nil) (g_slices_Clone_int_int_ok a_f.Values v0_1 _ hx4)) (fun p5 => ?_)
  refine D_val rfl .no (fun ha => V_build ty80 rfl (vs := [(.int .i64 a_f.Rel), p5.1.v]) (.cons (EN ha (.tmp rfl rfl) rfl) (.cons (EN ha (.tmp rfl rfl) rfl) .nil)) (cells := [(.int .i64 a_f.Rel), p5.1.v]) rfl) ?_
  refine D_act1 rfl rfl .no (.cons (.t .h) .nil) .nil (fun ha => X_storeB (e' := (.agg [(.int .i64 a_f.Rel), p5.1.v].toArray)) (v := (.agg [(.int .i64 a_f.Rel), p5.1.v].toArray)) ty80.sz (EN ha (.tmp rfl rfl) rfl) (EN ha (.tmp rfl rfl) rfl) rfl rfl rfl rfl rfl) (fun _ => ?_)
  refine D_nil (CW_ret ?_)
  obtain rfl := Option.some.inj hF
  exact End_ret (p5.1, p5.2) (.cellA rfl rfl .h rfl ag80 ty80.sz rfl rfl .nil) rfl (.sel (.cons (.t .h) .nil))

/-! impl.copyFacts -/
def i_copyFacts_L1 : List Fact → Nat → (List Fact) → Option ((List Fact))
  | [], k8, c2 => some c2
  | x10 :: rest9, k8, c2 => (i_copyFact x10).bind fun r21 =>
    (app c2 ([r21] : List Fact)).bind fun z25 =>
    i_copyFacts_L1 rest9 (k8 + 1) z25
def i_copyFacts (a_l : List Fact) : Option ((List Fact)) :=
  i_copyFacts_L1 a_l 0 ([] : List Fact)
theorem i_copyFacts_ok (a_l : List Fact) (v0_0 : Sv) (R : (List Fact)) (hF : i_copyFacts a_l = some R) :
    Fw.Spec Tryz.prog 150 [v0_0.v] [crd (RdS 80 rd80) v0_0.v a_l] (fun p : Sv × List Nat => p.1.v) (fun p => [cown (OwnS 80 ow80) p.2 p.1.v R]) := by
  refine Spec_enter (n := 20) Tryz.func150 rfl rfl (rs := [.tmp 2]) rfl rfl rfl ?_
  intro H0 F0
  unfold i_copyFacts at hF
  refine K_region (C_val (V_assign (v := (.slice none 0 0)) EV.nilSlice) ?_)
  refine C_nil (K_region (C_new rfl (N_buildSliceT (g := true) sl39 ty80 .nil (vs := []) rfl rfl rfl (by simp)) (fun k1 => ?_)))
  refine C_conv (.cons .h .nil) (own_lit (Ro := ow80) (E := 80) (F := []) (xs := ([] : List Fact)) MkL_nil rfl rfl) apps ?_
  refine Ca (.slice (some ⟨k1, 0, none⟩) 0 1) rfl rfl ?_
  refine C_nil (K_in (K_region (Cm v0_0.v rfl rfl ?_)))
  refine C_at (.t .h) (fun hp => V_lenR (l := a_l.length) sl39 (.tmp rfl rfl) (crd_len hp)) ?_
  refine C_val (V_move (v := (.int .i64 0)) (.int _ _)) ?_
  refine C_nil (CW_block (CW_loop (m := a_l.length) (fun m6 f' cs' => ∃ (g : Fr) (k8 : Nat) (rest9 : List Fact) (c2 : List Fact) (v3 : Sv) (F4 : List Nat), m6 = rest9.length ∧ f' = updL g [(3, v3.v), (7, v0_0.v), (8, (.int .i64 (a_l.length : Int))), (9, (.int .i64 (k8 : Int)))] ∧ List.drop k8 a_l = rest9 ∧ Ent cs' [cown (OwnS 80 ow80) F4 v3.v c2, crd (RdS 80 rd80) v0_0.v a_l] ∧ i_copyFacts_L1 rest9 k8 c2 = some R) ⟨_, 0, _, _, ⟨(some ⟨k1, 0, none⟩), 0, 1⟩, (k1 :: []), rfl, (EqL.cons rfl (EqL.cons rfl (EqL.cons rfl (EqL.cons rfl (EqL.nil))))).eq, rfl, (.sel (.cons .h (.rd .h rfl .nil))), hF⟩ ?_))
  clear hF
  rintro m6 _ _ ⟨g7, k8, rest9, c2, v3, F4, rfl, rfl, hd11, hE, hF⟩
  refine K_ent hE ?_
  clear hE
  refine K_pure (c := crd (RdS 80 rd80) v0_0.v a_l) (.t .h) crd_bound (fun hbd16 => ?_)
  rcases rest9 with _ | ⟨x10, rest9⟩
  · have hk12 := List.drop_eq_nil_iff.1 hd11
    have hfe15 : (decide (((k8 : Int) : Int) < (a_l.length : Int))) = false := decide_eq_false (by omega)
    rw [i_copyFacts_L1] at hF
    refine K_region (C_val (V_lss (i := (k8 : Int)) (j := (a_l.length : Int)) (.tmp rfl rfl) (.tmp rfl rfl)) ?_)
    refine C_nil (K_in (CW_cond (b := (decide (((k8 : Int) : Int) < (a_l.length : Int)))) (.tmp rfl rfl) (fun hb => absurd (hfe15.symm.trans hb) (by decide)) (fun _ => ?_)))
    refine CW_exit ?_
    iterate 2 refine CThen_exit ?_
    refine CIn_self (K_region (Cm v3.v rfl rfl ?_))
    refine Ca v3.v rfl rfl ?_
    refine C_nil (CW_ret ?_)
    obtain rfl := Option.some.inj hF
    exact End_ret (v3, F4) (.tmp rfl rfl .nil) rfl (.sel (.cons .h .nil))
  obtain ⟨hk12, hx13, hd14⟩ := drop_cons hd11
  have hfe15 : (decide (((k8 : Int) : Int) < (a_l.length : Int))) = true := decide_eq_true (by omega)
  rw [i_copyFacts_L1] at hF
  refine K_region (C_val (V_lss (i := (k8 : Int)) (j := (a_l.length : Int)) (.tmp rfl rfl) (.tmp rfl rfl)) ?_)
  refine C_nil (K_in (CW_cond (b := (decide (((k8 : Int) : Int) < (a_l.length : Int)))) (.tmp rfl rfl) (fun _ => ?_) (fun hb => absurd (hfe15.symm.trans hb) (by decide))))
  refine CW_skip (K_block (K_region (C_idx (a := x10) sl39 ty80.sz (.tmp rfl rfl) (.tmp rfl rfl) (.t .h) (Int.natCast_nonneg k8) hx13 (fun k17 j18 => ?_))))
  refine C_ldA1 (ul80_0_80 x10) ag80 ty80.sz rfl (.tmp rfl rfl) .h la80_0_80 (fun p19 => ?_)
  refine C_new rfl (N_allocT (g := true) ty80 rfl rfl) (fun k20 => ?_)
  refine C_x1 (.cons .h .nil) (X_storeB (e' := (.agg [(.int .i64 x10.Rel), p19.v].toArray)) (v := (.agg [(.int .i64 x10.Rel), p19.v].toArray)) ty80.sz (.tmp rfl rfl) (.tmp rfl rfl) rfl rfl rfl rfl rfl) (fun _ => ?_)
  refine C_nil (CW_region (Cm v3.v rfl rfl ?_))
  refine C_at .h (fun hp => V_loadBox ag80 ty80.sz rfl (.tmp rfl rfl) hp.2 rfl) ?_
  obtain ⟨r21, hx22, hF⟩ := bind_some hF
  refine C_x1 (.rd (.t .h) rfl .nil) (X_callS cf158 (.cons (.tmp rfl rfl) .nil) (i_copyFact_ok x10 p19 _ hx22)) (fun p23 => ?_)
  refine C_new rfl (N_buildSliceT (g := true) sl39 ty80 (.cons (.tmp rfl rfl) .nil) (vs := [(.agg [(.int .i64 r21.Rel), p23.1.v].toArray)]) rfl rfl rfl (by intro v hv; simp at hv; rcases hv with rfl <;> rfl)) (fun k24 => ?_)
  refine C_conv (.cons .h (.cons .h .nil)) (own_lit (Ro := ow80) (E := 80) (F := (p23.2 ++ [])) (xs := ([r21] : List Fact)) (MkL_cons mk80 MkL_nil apps) rfl rfl) apps ?_
  obtain ⟨z25, hx26, hF⟩ := bind_some hF
  refine C_x1 (.cons (.t (.t (.t (.t .h)))) (.cons .h .nil)) (X_appendO (Ro := ow80) sl39 ni39 ty80 rfl rfl rfl (.tmp rfl rfl) (.tmp rfl rfl) hx26 src_own) (fun p27 => ?_)
  refine Ca p27.1.v rfl rfl ?_
  refine C_nil (CW_region (C_val (V_add (i := (k8 : Int)) (j := 1) (.tmp rfl rfl) (.int _ _)) ?_))
  refine Cm (.int .i64 (IntKind.i64.wrap ((k8 : Int) + 1))) rfl rfl ?_
  refine C_nil ?_
  have hw28 : IntKind.i64.wrap ((k8 : Int) + 1) = ((k8 + 1 : Nat) : Int) := by rw [wrap_in (by omega) (by omega)]; rfl
  rw [hw28]
  exact ⟨_, Nat.lt_succ_self _, _, k8 + 1, rest9, _, p27.1, p27.2, rfl, (EqL.cons rfl (EqL.cons rfl (EqL.cons rfl (EqL.cons rfl (EqL.nil))))).eq, hd14, (.sel (.cons .h (.rd (.t (.t (.t .h))) rfl .nil))), hF⟩

/-! impl.matches$1 -/
def i_matches_1_L1 (a_f : Fact) (a_e2 : Access) : List Int → Nat → Option (Bool)
  | [], k5 => some false
  | x7 :: rest6, k5 => (ix a_f.Values x7).bind fun x16 =>
    (ix a_e2.Values (k5 : Int)).bind fun x22 =>
    if ((x16 : Int) != x22) then (
      some true)
    else (
      i_matches_1_L1 a_f a_e2 rest6 (k5 + 1))
def i_matches_1 (a_f : Fact) (a_e1 : Method) (a_e2 : Access) : Option (Bool) :=
  if ((a_f.Rel : Int) != a_e1.Rel) then (
    some true)
  else (
    i_matches_1_L1 a_f a_e2 a_e1.Inputs 0)
theorem i_matches_1_ok (a_f : Fact) (v0_1 : Sv) (kc1 : Nat) (a_e1 : Method) (vc1_1 : Sv) (kc2 : Nat) (a_e2 : Access) (vc2_1 : Sv) (R : Bool) (hF : i_matches_1 a_f a_e1 a_e2 = some R) :
    Fw.Spec Tryz.prog 151 [(.agg [(.int .i64 a_f.Rel), v0_1.v].toArray), (.pointer (some ⟨kc1, 0, some 0⟩)), (.pointer (some ⟨kc2, 0, some 0⟩))] [crd (RdS 3 rdInt) v0_1.v a_f.Values, cboR kc1 108 (.agg [(.int .i64 a_e1.Rel), vc1_1.v, (.int .i64 a_e1.Limit), (.int .i64 a_e1.Cost), (.int .i64 a_e1.Quota)].toArray), crd (RdS 3 rdInt) vc1_1.v a_e1.Inputs, cboR kc2 105 (.agg [(.int .i64 a_e2.Method), vc2_1.v].toArray), crd (RdS 3 rdInt) vc2_1.v a_e2.Values] (fun _ : Unit => (.bool R)) (fun _ => []) := by
  refine Spec_enter (n := 32) Tryz.func151 rfl rfl (rs := [.tmp 4]) rfl rfl rfl ?_
  intro H0 F0
  unfold i_matches_1 at hF
  refine K_region (C_newR rfl (N_box (g := false) (v := (.agg [(.int .i64 a_f.Rel), v0_1.v].toArray)) ty80.sz (.tmp rfl rfl) rfl) (fun k1 => ?_))
  refine C_val (V_assign (v := (.bool false)) (.bool _)) ?_
  refine C_nil (K_in (K_region (C_val (V_fieldAddr (off := 0) fd80_0 (.tmp rfl rfl)) ?_)))
  refine C_at .h (fun hp => V_load (v := (.int .i64 a_f.Rel)) ag3 (.tmp rfl rfl) hp.2 rfl rfl) ?_
  refine C_val (V_fieldAddr (off := 0) fd108_0 (.tmp rfl rfl)) ?_
  refine C_at (.t (.t .h)) (fun hp => V_load (v := (.int .i64 a_e1.Rel)) ag3 (.tmp rfl rfl) hp.2 rfl rfl) ?_
  refine C_val (V_neq (i := a_f.Rel) (j := a_e1.Rel) (.tmp rfl rfl) (.tmp rfl rfl)) ?_
  refine C_nil (CW_cond (b := ((a_f.Rel : Int) != a_e1.Rel)) (.tmp rfl rfl) (fun hb30 => ?_) (fun hb30 => ?_))
  · rw [if_pos hb30] at hF
    refine K_region (C_val (V_assign (v := (.bool true)) (.bool _)) ?_)
    refine C_nil (CW_ret ?_)
    obtain rfl := Option.some.inj hF
    exact End_ret () (.tmp rfl rfl .nil) rfl (.sel .nil)
  rw [if_neg (by rw [hb30]; exact Bool.false_ne_true)] at hF
  refine CW_skip (K_in (K_region (C_val (V_fieldAddr (off := 1) fd108_1 (.tmp rfl rfl)) ?_)))
  refine C_at (.t (.t .h)) (fun hp => V_load (v := vc1_1.v) ag22 (.tmp rfl rfl) hp.2 rfl rfl) ?_
  refine C_at (.t (.t (.t .h))) (fun hp => V_lenR (l := a_e1.Inputs.length) sl22 (.tmp rfl rfl) (crd_len hp)) ?_
  refine C_val (V_move (v := (.int .i64 0)) (.int _ _)) ?_
  refine C_nil (CW_block (CW_loop (m := a_e1.Inputs.length) (fun m3 f' cs' => ∃ (g : Fr) (k5 : Nat) (rest6 : List Int), m3 = rest6.length ∧ f' = updL g [(2, (.pointer (some ⟨kc2, 0, some 0⟩))), (3, (.pointer (some ⟨k1, 0, some 0⟩))), (13, vc1_1.v), (14, (.int .i64 (a_e1.Inputs.length : Int))), (15, (.int .i64 (k5 : Int)))] ∧ List.drop k5 a_e1.Inputs = rest6 ∧ Ent cs' [cboR kc2 105 (.agg [(.int .i64 a_e2.Method), vc2_1.v].toArray), crd (RdS 3 rdInt) vc2_1.v a_e2.Values, cboR k1 80 (.agg [(.int .i64 a_f.Rel), v0_1.v].toArray), crd (RdS 3 rdInt) v0_1.v a_f.Values, crd (RdS 3 rdInt) vc1_1.v a_e1.Inputs] ∧ i_matches_1_L1 a_f a_e2 rest6 k5 = some R) ⟨_, 0, _, rfl, (EqL.cons rfl (EqL.cons rfl (EqL.cons rfl (EqL.cons rfl (EqL.cons rfl (EqL.nil)))))).eq, rfl, (.sel (.rd (.t (.t (.t (.t .h)))) rfl (.rd (.t (.t (.t (.t (.t .h))))) rfl (.rd .h rfl (.rd (.t .h) rfl (.rd (.t (.t (.t .h))) rfl .nil)))))), hF⟩ ?_))
  clear hF
  rintro m3 _ _ ⟨g4, k5, rest6, rfl, rfl, hd8, hE, hF⟩
  refine K_ent hE ?_
  clear hE
  refine K_pure (c := crd (RdS 3 rdInt) vc1_1.v a_e1.Inputs) (.t (.t (.t (.t .h)))) crd_bound (fun hbd13 => ?_)
  rcases rest6 with _ | ⟨x7, rest6⟩
  · have hk9 := List.drop_eq_nil_iff.1 hd8
    have hfe12 : (decide (((k5 : Int) : Int) < (a_e1.Inputs.length : Int))) = false := decide_eq_false (by omega)
    rw [i_matches_1_L1] at hF
    refine K_region (C_val (V_lss (i := (k5 : Int)) (j := (a_e1.Inputs.length : Int)) (.tmp rfl rfl) (.tmp rfl rfl)) ?_)
    refine C_nil (K_in (CW_cond (b := (decide (((k5 : Int) : Int) < (a_e1.Inputs.length : Int)))) (.tmp rfl rfl) (fun hb => absurd (hfe12.symm.trans hb) (by decide)) (fun _ => ?_)))
    refine CW_exit ?_
    iterate 2 refine CThen_exit ?_
    refine CIn_self (K_region (C_val (V_assign (v := (.bool false)) (.bool _)) ?_))
    refine C_nil (CW_ret ?_)
    obtain rfl := Option.some.inj hF
    exact End_ret () (.tmp rfl rfl .nil) rfl (.sel .nil)
  obtain ⟨hk9, hx10, hd11⟩ := drop_cons hd8
  have hfe12 : (decide (((k5 : Int) : Int) < (a_e1.Inputs.length : Int))) = true := decide_eq_true (by omega)
  rw [i_matches_1_L1] at hF
  refine K_region (C_val (V_lss (i := (k5 : Int)) (j := (a_e1.Inputs.length : Int)) (.tmp rfl rfl) (.tmp rfl rfl)) ?_)
  refine C_nil (K_in (CW_cond (b := (decide (((k5 : Int) : Int) < (a_e1.Inputs.length : Int)))) (.tmp rfl rfl) (fun _ => ?_) (fun hb => absurd (hfe12.symm.trans hb) (by decide))))
  refine CW_skip (K_block (K_region (Cm (.int .i64 (k5 : Int)) rfl rfl ?_)))
  refine C_idx (a := x7) sl22 ty3.sz (.tmp rfl rfl) (.tmp rfl rfl) (.t (.t (.t (.t .h)))) (Int.natCast_nonneg k5) hx10 (fun k14 j15 => ?_)
  refine C_ldS (w := (.int .i64 x7)) ag3 (.tmp rfl rfl) .h ls3_0 ?_
  refine Ca (.int .i64 (k5 : Int)) rfl rfl ?_
  refine Ca (.int .i64 x7) rfl rfl ?_
  refine C_nil (K_draw [0, 1, 2, 3, 4, 5, 6, 7, 8, 9, 10] [0, 1, 0, 7, 15, 0, 32, 0, 224, 480, 1023] [] mixed (by decide +kernel) ?_)
  refine D_val rfl .no (fun ha => V_fieldAddr (off := 1) fd80_1 (EN ha (.tmp rfl rfl) rfl)) ?_
  refine D_at rfl .no (.t (.t (.t .h))) rfl (fun ha hp => V_load (v := v0_1.v) ag22 (EN ha (.tmp rfl rfl) rfl) hp.2 rfl rfl) ?_
  refine Dm (.int .i64 x7) rfl rfl rfl rfl ?_
  obtain ⟨x16, hx17, hF⟩ := bind_some hF
  obtain ⟨hp18, hx19⟩ := ix_some hx17
  refine D_idx (a := x16) sl22 ty3.sz rfl .no (.tmp rfl rfl) (.tmp rfl rfl) rfl rfl (.t (.t (.t (.t .h)))) hp18 hx19 (fun k20 j21 => ?_)
  refine D_ldS (w := (.int .i64 x16)) ag3 rfl .no (.tmp rfl rfl) rfl .h ls3_0 ?_
  refine D_val rfl .no (fun ha => V_fieldAddr (off := 1) fd105_1 (EN ha (.tmp rfl rfl) rfl)) ?_
  refine D_at rfl .no (.t (.t .h)) rfl (fun ha hp => V_load (v := vc2_1.v) ag22 (EN ha (.tmp rfl rfl) rfl) hp.2 rfl rfl) ?_
  refine Dm (.int .i64 (k5 : Int)) rfl rfl rfl rfl ?_
  obtain ⟨x22, hx23, hF⟩ := bind_some hF
  obtain ⟨hp24, hx25⟩ := ix_some hx23
  refine D_idx (a := x22) sl22 ty3.sz rfl .no (.tmp rfl rfl) (.tmp rfl rfl) rfl rfl (.t (.t (.t .h))) hp24 hx25 (fun k26 j27 => ?_)
  refine D_ldS (w := (.int .i64 x22)) ag3 rfl .no (.tmp rfl rfl) rfl .h ls3_0 ?_
  refine D_val rfl .no (fun ha => V_neq (i := x16) (j := x22) (EN ha (.tmp rfl rfl) rfl) (EN ha (.tmp rfl rfl) rfl)) ?_
  refine D_nil (CW_cond (b := ((x16 : Int) != x22)) (.tmp rfl rfl) (fun hb29 => ?_) (fun hb29 => ?_))
  · rw [if_pos hb29] at hF
    refine K_region (C_val (V_assign (v := (.bool true)) (.bool _)) ?_)
    refine C_nil (CW_ret ?_)
    obtain rfl := Option.some.inj hF
    exact End_ret () (.tmp rfl rfl .nil) rfl (.sel .nil)
  rw [if_neg (by rw [hb29]; exact Bool.false_ne_true)] at hF
  refine CW_skip (CW_region (C_val (V_add (i := (k5 : Int)) (j := 1) (.tmp rfl rfl) (.int _ _)) ?_))
  refine Cm (.int .i64 (IntKind.i64.wrap ((k5 : Int) + 1))) rfl rfl ?_
  refine C_nil ?_
  have hw28 : IntKind.i64.wrap ((k5 : Int) + 1) = ((k5 + 1 : Nat) : Int) := by rw [wrap_in (by omega) (by omega)]; rfl
  rw [hw28]
  exact ⟨_, Nat.lt_succ_self _, _, k5 + 1, rest6, rfl, (EqL.cons rfl (EqL.cons rfl (EqL.cons rfl (EqL.cons rfl (EqL.cons rfl (EqL.nil)))))).eq, hd11, (.sel (.rd (.t (.t (.t .h))) rfl (.rd (.t (.t (.t (.t .h)))) rfl (.rd (.t (.t (.t (.t (.t .h))))) rfl (.rd (.t (.t (.t (.t (.t (.t .h)))))) rfl (.rd (.t (.t (.t (.t (.t (.t (.t .h))))))) rfl .nil)))))), hF⟩

/-! impl.Fact] -/
def g_slices_IndexFunc_impl_Fact_impl_Fact_imatches1_L1 (a_e1 : Method) (a_e2 : Access) : List Fact → Nat → Option (Int)
  | [], k4 => some (-1)
  | x6 :: rest5, k4 => (i_matches_1 x6 a_e1 a_e2).bind fun r16 =>
    if r16 then (
      some (k4 : Int))
    else (
      g_slices_IndexFunc_impl_Fact_impl_Fact_imatches1_L1 a_e1 a_e2 rest5 (k4 + 1))
def g_slices_IndexFunc_impl_Fact_impl_Fact_imatches1 (a_s : List Fact) (a_e1 : Method) (a_e2 : Access) : Option (Int) :=
  g_slices_IndexFunc_impl_Fact_impl_Fact_imatches1_L1 a_e1 a_e2 a_s 0
theorem g_slices_IndexFunc_impl_Fact_impl_Fact_imatches1_ok (a_s : List Fact) (v0_0 : Sv) (kc1 : Nat) (a_e1 : Method) (vc1_1 : Sv) (kc2 : Nat) (a_e2 : Access) (vc2_1 : Sv) (R : Int) (hF : g_slices_IndexFunc_impl_Fact_impl_Fact_imatches1 a_s a_e1 a_e2 = some R) :
    Fw.Spec Tryz.prog 157 [v0_0.v, (.func (.func 151) [].toArray [(.pointer (some ⟨kc1, 0, some 0⟩)), (.pointer (some ⟨kc2, 0, some 0⟩))].toArray)] [crd (RdS 80 rd80) v0_0.v a_s, cboR kc1 108 (.agg [(.int .i64 a_e1.Rel), vc1_1.v, (.int .i64 a_e1.Limit), (.int .i64 a_e1.Cost), (.int .i64 a_e1.Quota)].toArray), crd (RdS 3 rdInt) vc1_1.v a_e1.Inputs, cboR kc2 105 (.agg [(.int .i64 a_e2.Method), vc2_1.v].toArray), crd (RdS 3 rdInt) vc2_1.v a_e2.Values] (fun _ : Unit => (.int .i64 R)) (fun _ => []) := by
  refine Spec_enter (n := 19) Tryz.func157 rfl rfl (rs := [.tmp 4]) rfl rfl rfl ?_
  intro H0 F0
  unfold g_slices_IndexFunc_impl_Fact_impl_Fact_imatches1 at hF
  refine K_region (C_val (V_assign (v := (.int .i64 0)) (.int _ _)) ?_)
  refine C_nil (K_in (K_region (Cm v0_0.v rfl rfl ?_)))
  refine C_at .h (fun hp => V_lenR (l := a_s.length) sl39 (.tmp rfl rfl) (crd_len hp)) ?_
  refine C_val (V_move (v := (.int .i64 0)) (.int _ _)) ?_
  refine C_nil (CW_block (CW_loop (m := a_s.length) (fun m2 f' cs' => ∃ (g : Fr) (k4 : Nat) (rest5 : List Fact), m2 = rest5.length ∧ f' = updL g [(0, v0_0.v), (1, (.func (.func 151) [].toArray [(.pointer (some ⟨kc1, 0, some 0⟩)), (.pointer (some ⟨kc2, 0, some 0⟩))].toArray)), (7, (.int .i64 (a_s.length : Int))), (8, (.int .i64 (k4 : Int)))] ∧ List.drop k4 a_s = rest5 ∧ Ent cs' [crd (RdS 80 rd80) v0_0.v a_s, cboR kc1 108 (.agg [(.int .i64 a_e1.Rel), vc1_1.v, (.int .i64 a_e1.Limit), (.int .i64 a_e1.Cost), (.int .i64 a_e1.Quota)].toArray), crd (RdS 3 rdInt) vc1_1.v a_e1.Inputs, cboR kc2 105 (.agg [(.int .i64 a_e2.Method), vc2_1.v].toArray), crd (RdS 3 rdInt) vc2_1.v a_e2.Values] ∧ g_slices_IndexFunc_impl_Fact_impl_Fact_imatches1_L1 a_e1 a_e2 rest5 k4 = some R) ⟨_, 0, _, rfl, (EqL.cons rfl (EqL.cons rfl (EqL.cons rfl (EqL.cons rfl (EqL.nil))))).eq, rfl, (.sel (.rd .h rfl (.rd (.t .h) rfl (.rd (.t (.t .h)) rfl (.rd (.t (.t (.t .h))) rfl (.rd (.t (.t (.t (.t .h)))) rfl .nil)))))), hF⟩ ?_))
  clear hF
  rintro m2 _ _ ⟨g3, k4, rest5, rfl, rfl, hd7, hE, hF⟩
  refine K_ent hE ?_
  clear hE
  refine K_pure (c := crd (RdS 80 rd80) v0_0.v a_s) .h crd_bound (fun hbd12 => ?_)
  rcases rest5 with _ | ⟨x6, rest5⟩
  · have hk8 := List.drop_eq_nil_iff.1 hd7
    have hfe11 : (decide (((k4 : Int) : Int) < (a_s.length : Int))) = false := decide_eq_false (by omega)
    rw [g_slices_IndexFunc_impl_Fact_impl_Fact_imatches1_L1] at hF
    refine K_region (C_val (V_lss (i := (k4 : Int)) (j := (a_s.length : Int)) (.tmp rfl rfl) (.tmp rfl rfl)) ?_)
    refine C_nil (K_in (CW_cond (b := (decide (((k4 : Int) : Int) < (a_s.length : Int)))) (.tmp rfl rfl) (fun hb => absurd (hfe11.symm.trans hb) (by decide)) (fun _ => ?_)))
    refine CW_exit ?_
    iterate 2 refine CThen_exit ?_
    refine CIn_self (K_region (C_val (V_assign (v := (.int .i64 (-1))) (.int _ _)) ?_))
    refine C_nil (CW_ret ?_)
    obtain rfl := Option.some.inj hF
    exact End_ret () (.tmp rfl rfl .nil) rfl (.sel .nil)
  obtain ⟨hk8, hx9, hd10⟩ := drop_cons hd7
  have hfe11 : (decide (((k4 : Int) : Int) < (a_s.length : Int))) = true := decide_eq_true (by omega)
  rw [g_slices_IndexFunc_impl_Fact_impl_Fact_imatches1_L1] at hF
  refine K_region (C_val (V_lss (i := (k4 : Int)) (j := (a_s.length : Int)) (.tmp rfl rfl) (.tmp rfl rfl)) ?_)
  refine C_nil (K_in (CW_cond (b := (decide (((k4 : Int) : Int) < (a_s.length : Int)))) (.tmp rfl rfl) (fun _ => ?_) (fun hb => absurd (hfe11.symm.trans hb) (by decide))))
  refine CW_skip (K_block (K_region (Cm (.int .i64 (k4 : Int)) rfl rfl ?_)))
  refine Ca (.int .i64 (k4 : Int)) rfl rfl ?_
  refine C_nil (K_region (Cm (.func (.func 151) [].toArray [(.pointer (some ⟨kc1, 0, some 0⟩)), (.pointer (some ⟨kc2, 0, some 0⟩))].toArray) rfl rfl ?_))
  refine Cm v0_0.v rfl rfl ?_
  refine Cm (.int .i64 (k4 : Int)) rfl rfl ?_
  refine C_idx (a := x6) sl39 ty80.sz (.tmp rfl rfl) (.tmp rfl rfl) .h (Int.natCast_nonneg k4) hx9 (fun k13 j14 => ?_)
  refine C_ldA1 (ul80_0_80 x6) ag80 ty80.sz rfl (.tmp rfl rfl) .h la80_0_80 (fun p15 => ?_)
  obtain ⟨r16, hx17, hF⟩ := bind_some hF
  refine C_x0 (.rd .h rfl (.rd (.t (.t (.t .h))) rfl (.rd (.t (.t (.t (.t .h)))) rfl (.rd (.t (.t (.t (.t (.t .h))))) rfl (.rd (.t (.t (.t (.t (.t (.t .h)))))) rfl .nil))))) (X_callCS cf151 (.tmp rfl rfl) (.cons (.tmp rfl rfl) .nil) (i_matches_1_ok x6 p15 kc1 a_e1 vc1_1 kc2 a_e2 vc2_1 _ hx17)) (fun _ => ?_)
  refine C_nil (CW_cond (b := r16) (.tmp rfl rfl) (fun hb20 => ?_) (fun hb20 => ?_))
  · rw [if_pos hb20] at hF
    refine K_region (Cm (.int .i64 (k4 : Int)) rfl rfl ?_)
    refine Ca (.int .i64 (k4 : Int)) rfl rfl ?_
    refine C_nil (CW_ret ?_)
    obtain rfl := Option.some.inj hF
    exact End_ret () (.tmp rfl rfl .nil) rfl (.sel .nil)
  rw [if_neg (by rw [hb20]; exact Bool.false_ne_true)] at hF
  refine CW_skip (CW_region (C_val (V_add (i := (k4 : Int)) (j := 1) (.tmp rfl rfl) (.int _ _)) ?_))
  refine Cm (.int .i64 (IntKind.i64.wrap ((k4 : Int) + 1))) rfl rfl ?_
  refine C_nil ?_
  have hw19 : IntKind.i64.wrap ((k4 : Int) + 1) = ((k4 + 1 : Nat) : Int) := by rw [wrap_in (by omega) (by omega)]; rfl
  rw [hw19]
  exact ⟨_, Nat.lt_succ_self _, _, k4 + 1, rest5, rfl, (EqL.cons rfl (EqL.cons rfl (EqL.cons rfl (EqL.cons rfl (EqL.nil))))).eq, hd10, (.sel (.rd (.t (.t .h)) rfl (.rd (.t (.t (.t .h))) rfl (.rd (.t (.t (.t (.t .h)))) rfl (.rd (.t (.t (.t (.t (.t .h))))) rfl (.rd (.t (.t (.t (.t (.t (.t .h)))))) rfl .nil)))))), hF⟩

/-! impl.Fact] -/
def g_slices_DeleteFunc_impl_Fact_impl_Fact_imatches1 (a_s : List Fact) (a_e1 : Method) (a_e2 : Access) : Option (List Fact) :=
  delL (fun a_q => i_matches_1 a_q a_e1 a_e2) a_s
theorem g_slices_DeleteFunc_impl_Fact_impl_Fact_imatches1_sh (qs : List (Value × Fact)) (v : Sv) (F : List Nat) (kc1 : Nat) (a_e1 : Method) (vc1_1 : Sv) (kc2 : Nat) (a_e2 : Access) (vc2_1 : Sv) (p : Value × Fact → Bool) (hcl : ∀ q ∈ qs, i_matches_1 q.2 a_e1 a_e2 = some (p q)) (hidx : g_slices_IndexFunc_impl_Fact_impl_Fact_imatches1 (qs.map Prod.snd) a_e1 a_e2 = some (ixF p qs 0)) (hbd : qs.length < 4611686018427387904) :
    Fw.Spec Tryz.prog 149 [v.v, (.func (.func 151) [].toArray [(.pointer (some ⟨kc1, 0, some 0⟩)), (.pointer (some ⟨kc2, 0, some 0⟩))].toArray)] [cown (OwnS 80 (roE (rq rd80))) F v.v qs, cboR kc1 108 (.agg [(.int .i64 a_e1.Rel), vc1_1.v, (.int .i64 a_e1.Limit), (.int .i64 a_e1.Cost), (.int .i64 a_e1.Quota)].toArray), crd (RdS 3 rdInt) vc1_1.v a_e1.Inputs, cboR kc2 105 (.agg [(.int .i64 a_e2.Method), vc2_1.v].toArray), crd (RdS 3 rdInt) vc2_1.v a_e2.Values] (fun q : Sv × List Nat => q.1.v) (fun q => [cown (OwnS 80 (roE (rq rd80))) q.2 q.1.v (qs.filter fun a => !p a)]) := by
  refine Spec_enter (n := 42) Tryz.func149 rfl rfl (rs := [.tmp 4]) rfl rfl rfl ?_
  intro H0 F0
  refine K_region ?_
  refine C_val (V_assign (v := (.slice none 0 0)) EV.nilSlice) ?_
  refine C_nil ?_
  refine K_region ?_
  refine C_val (V_move (v := v.v) (.tmp rfl rfl)) ?_
  refine C_val (V_move (v := (.func (.func 151) [].toArray [(.pointer (some ⟨kc1, 0, some 0⟩)), (.pointer (some ⟨kc2, 0, some 0⟩))].toArray)) (.tmp rfl rfl)) ?_
  refine C_x1 (.cons .h (.rd .h rfl (.rd (.t .h) rfl (.rd (.t (.t .h)) rfl (.rd (.t (.t (.t .h))) rfl .nil))))) (XC_borR frz_rq (fun _ => .nil) (XC_pre (.rd (.t (.t (.t (.t .h)))) rfl (.rd .h rfl (.rd (.t .h) rfl (.rd (.t (.t .h)) rfl (.rd (.t (.t (.t .h))) rfl .nil))))) (X_callS cf157 (.cons (.tmp rfl rfl) (.cons (.tmp rfl rfl) .nil)) (g_slices_IndexFunc_impl_Fact_impl_Fact_imatches1_ok (qs.map Prod.snd) v kc1 a_e1 vc1_1 kc2 a_e2 vc2_1 _ hidx)))) (fun _ => ?_)
  generalize hR : ixF p qs 0 = R0
  refine C_val (V_assign (v := (.int .i64 R0)) (.tmp rfl rfl)) ?_
  refine C_nil ?_
  refine K_in ?_
  refine K_region ?_
  refine C_val (V_move (v := (.int .i64 R0)) (.tmp rfl rfl)) ?_
  refine C_val (V_eql (i := R0) (j := (-1)) (.tmp rfl rfl) (.int _ _)) ?_
  refine C_nil ?_
  refine CW_cond (b := (R0 == (-1 : Int))) (.tmp rfl rfl) (fun hb => ?_) (fun hb => ?_)
  · refine K_region ?_
    refine C_val (V_move (v := v.v) (.tmp rfl rfl)) ?_
    refine C_val (V_assign (v := v.v) (.tmp rfl rfl)) ?_
    refine C_nil ?_
    refine CW_ret ?_
    have e : qs.filter (fun q => !p q) = qs := ixF_none (k := 0) (by rw [hR]; simpa using hb)
    rw [e]
    exact End_ret (v, F) (.tmp rfl rfl .nil) rfl (.sel (.cons .h .nil))
  refine CW_skip ?_
  obtain ⟨i0, hi0, hi1⟩ : ∃ i : Nat, R0 = (i : Int) ∧ i < qs.length := by
    rcases ixF_range p qs 0 with h | ⟨i, h, hi⟩
    · rw [hR] at h; subst h; simp at hb
    · exact ⟨i, by rw [← hR, h], by omega⟩
  subst hi0
  refine K_in ?_
  refine K_region ?_
  refine C_val (V_move (v := (.int .i64 (i0 : Int))) (.tmp rfl rfl)) ?_
  refine C_val (V_add (i := (i0 : Int)) (j := 1) (.tmp rfl rfl) (.int _ _)) ?_
  rw [show IntKind.i64.wrap ((i0 : Int) + 1) = ((i0 + 1 : Nat) : Int) from by rw [wrap_in (by omega) (by omega)]; rfl]
  refine C_val (V_assign (v := (.int .i64 ((i0 + 1 : Nat) : Int))) (.tmp rfl rfl)) ?_
  refine C_nil ?_
  refine CW_block ?_
  refine CW_loop (m := qs.length - (i0 + 1)) (fun m f' cs' => ∃ (g : Fr) (cur : List (Value × Fact)) (i j : Nat) (F' : List Nat), m = qs.length - j ∧ f' = updL g [(0, v.v), (1, (.func (.func 151) [].toArray [(.pointer (some ⟨kc1, 0, some 0⟩)), (.pointer (some ⟨kc2, 0, some 0⟩))].toArray)), (5, (.int .i64 (i : Int))), (6, (.int .i64 (j : Int)))] ∧ DelI p qs cur i j ∧ Ent cs' [cown (OwnS 80 (roE (rq rd80))) F' v.v cur, cboR kc1 108 (.agg [(.int .i64 a_e1.Rel), vc1_1.v, (.int .i64 a_e1.Limit), (.int .i64 a_e1.Cost), (.int .i64 a_e1.Quota)].toArray), crd (RdS 3 rdInt) vc1_1.v a_e1.Inputs, cboR kc2 105 (.agg [(.int .i64 a_e2.Method), vc2_1.v].toArray), crd (RdS 3 rdInt) vc2_1.v a_e2.Values]) ⟨_, qs, i0, i0 + 1, F, rfl, (EqL.cons rfl (EqL.cons rfl (EqL.cons rfl (EqL.cons rfl (EqL.nil))))).eq, DelI.init (by rw [hR]), .sel (.cons .h (.rd .h rfl (.rd (.t .h) rfl (.rd (.t (.t .h)) rfl (.rd (.t (.t (.t .h))) rfl .nil)))))⟩ ?_
  rintro m _ _ ⟨g, cur, i, j, F', rfl, rfl, hI, hE⟩
  refine K_ent hE ?_
  clear hE
  refine K_in ?_
  refine K_region ?_
  refine C_val (V_move (v := (.int .i64 (j : Int))) (.tmp rfl rfl)) ?_
  refine C_val (V_move (v := v.v) (.tmp rfl rfl)) ?_
  refine C_at .h (fun hp => V_lenR (l := cur.length) sl39 (.tmp rfl rfl) (cown_len hp)) ?_
  refine C_val (V_lss (i := (j : Int)) (j := (cur.length : Int)) (.tmp rfl rfl) (.tmp rfl rfl)) ?_
  refine C_nil ?_
  have hlen := hI.len
  have hij := hI.lt
  have hjl := hI.le
  refine CW_cond (b := (decide ((j : Int) < (cur.length : Int)))) (.tmp rfl rfl) (fun hb2 => ?_) (fun hb2 => ?_)
  · refine CW_skip ?_
    have hj : j < qs.length := by simp at hb2; omega
    obtain ⟨x, hx1, hx2⟩ := hI.at hj
    refine K_block ?_
    refine K_region ?_
    refine C_val (V_move (v := v.v) (.tmp rfl rfl)) ?_
    refine C_val (V_move (v := (.int .i64 (j : Int))) (.tmp rfl rfl)) ?_
    refine C_idxO sl39 ty80.sz (.tmp rfl rfl) (.tmp rfl rfl) .h (by simp; omega) (fun k hk => ?_)
    refine C_ldOW (a := x) (ul := fun i : Sv => [(.int .i64 x.2.Rel), i.v]) (cc := fun i => [crd (RdS 3 rdInt) i.v x.2.Values]) ag80 ty80.sz rfl (.tmp rfl rfl) .h hk (by simpa using hx1) (fun H e h => by obtain ⟨-, v0, h1, h0⟩ := h; exact ⟨v0, h1, rfl, by simp [crd, h0]⟩) (fun w => ?_)
    refine C_new rfl (N_allocT (g := true) ty80 rfl rfl) (fun k1 => ?_)
    refine C_x1 (.cons .h .nil) (X_storeB (e := (.agg [(.int .i64 0), (.slice none 0 0)].toArray)) (e' := (.agg [(.int .i64 x.2.Rel), w.v].toArray)) (v := (.agg [(.int .i64 x.2.Rel), w.v].toArray)) ty80.sz (.tmp rfl rfl) (.tmp rfl rfl) rfl rfl rfl rfl rfl) (fun _ => ?_)
    refine C_nil ?_
    refine K_region ?_
    refine C_val (V_move (v := (.func (.func 151) [].toArray [(.pointer (some ⟨kc1, 0, some 0⟩)), (.pointer (some ⟨kc2, 0, some 0⟩))].toArray)) (.tmp rfl rfl)) ?_
    refine C_at .h (fun hp => V_loadBox ag80 ty80.sz rfl (.tmp rfl rfl) hp.2 rfl) ?_
    refine C_x0 (.rd (.t (.t .h)) rfl (.rd (.t (.t (.t (.t .h)))) rfl (.rd (.t (.t (.t (.t (.t .h))))) rfl (.rd (.t (.t (.t (.t (.t (.t .h)))))) rfl (.rd (.t (.t (.t (.t (.t (.t (.t .h))))))) rfl .nil))))) (X_callCS cf151 (.tmp rfl rfl) (.cons (.tmp rfl rfl) .nil) (i_matches_1_ok x.2 w kc1 a_e1 vc1_1 kc2 a_e2 vc2_1 _ (hcl x (List.mem_of_getElem? hx2)))) (fun _ => ?_)
    refine C_val (V_not (b := p x) (.tmp rfl rfl)) ?_
    refine C_nil ?_
    refine CW_cond (b := (!p x)) (.tmp rfl rfl) (fun hb3 => ?_) (fun hb3 => ?_)
    · refine K_region ?_
      refine C_val (V_move (v := v.v) (.tmp rfl rfl)) ?_
      refine C_val (V_move (v := (.int .i64 (i : Int))) (.tmp rfl rfl)) ?_
      refine C_at .h (fun hp => V_loadBox ag80 ty80.sz rfl (.tmp rfl rfl) hp.2 rfl) ?_
      have hii : (decide ((0 : Int) ≤ (i : Int)) && decide ((i : Int) < (cur.length : Int))) = true := by simp; omega
      refine C_idxO sl39 ty80.sz (.tmp rfl rfl) (.tmp rfl rfl) (.t (.t (.t .h))) hii (fun k2 hk2 => ?_)
      refine C_x1 (.cons (.t (.t (.t .h))) (.rd (.t .h) rfl .nil)) (X_storeO (Ro := roE (rq rd80)) (a := x) (i := (i : Int)) ty80.sz rfl (.tmp rfl rfl) (.tmp rfl rfl) hk2 hii Mk_rd (fun _ _ _ _ h => by obtain ⟨-, -, v0, rfl, _⟩ := h; rfl)) (fun F2 => ?_)
      refine C_nil ?_
      refine CW_region ?_
      refine C_val (V_move (v := (.int .i64 (i : Int))) (.tmp rfl rfl)) ?_
      refine C_val (V_add (i := (i : Int)) (j := 1) (.tmp rfl rfl) (.int _ _)) ?_
      rw [show IntKind.i64.wrap ((i : Int) + 1) = ((i + 1 : Nat) : Int) from by rw [wrap_in (by omega) (by omega)]; rfl]
      refine C_val (V_assign (v := (.int .i64 ((i + 1 : Nat) : Int))) (.tmp rfl rfl)) ?_
      refine C_nil ?_
      refine CW_region ?_
      refine C_val (V_move (v := (.int .i64 (j : Int))) (.tmp rfl rfl)) ?_
      refine C_val (V_add (i := (j : Int)) (j := 1) (.tmp rfl rfl) (.int _ _)) ?_
      rw [show IntKind.i64.wrap ((j : Int) + 1) = ((j + 1 : Nat) : Int) from by rw [wrap_in (by omega) (by omega)]; rfl]
      refine C_val (V_assign (v := (.int .i64 ((j + 1 : Nat) : Int))) (.tmp rfl rfl)) ?_
      refine C_nil ?_
      exact ⟨_, by omega, _, cur.set i x, i + 1, j + 1, F2, rfl, (EqL.cons rfl (EqL.cons rfl (EqL.cons rfl (EqL.cons rfl (EqL.nil))))).eq, hI.no hx2 (by simpa using hb3), .sel (.cons .h (.rd (.t (.t (.t .h))) rfl (.rd (.t (.t (.t (.t .h)))) rfl (.rd (.t (.t (.t (.t (.t .h))))) rfl (.rd (.t (.t (.t (.t (.t (.t .h)))))) rfl .nil)))))⟩
    · refine CW_skip ?_
      refine CW_region ?_
      refine C_val (V_move (v := (.int .i64 (j : Int))) (.tmp rfl rfl)) ?_
      refine C_val (V_add (i := (j : Int)) (j := 1) (.tmp rfl rfl) (.int _ _)) ?_
      rw [show IntKind.i64.wrap ((j : Int) + 1) = ((j + 1 : Nat) : Int) from by rw [wrap_in (by omega) (by omega)]; rfl]
      refine C_val (V_assign (v := (.int .i64 ((j + 1 : Nat) : Int))) (.tmp rfl rfl)) ?_
      refine C_nil ?_
      exact ⟨_, by omega, _, cur, i, j + 1, F', rfl, (EqL.cons rfl (EqL.cons rfl (EqL.cons rfl (EqL.cons rfl (EqL.nil))))).eq, hI.yes hx2 (by simpa using hb3), .sel (.cons (.t (.t (.t .h))) (.rd (.t (.t (.t .h))) rfl (.rd (.t (.t (.t (.t .h)))) rfl (.rd (.t (.t (.t (.t (.t .h))))) rfl (.rd (.t (.t (.t (.t (.t (.t .h)))))) rfl .nil)))))⟩
  · refine CW_exit ?_
    refine CThen_exit ?_
    refine CThen_exit ?_
    refine CIn_self ?_
    have hj : qs.length ≤ j := by simp at hb2; omega
    refine K_pure .h (own_form (by intro e; rw [e] at hlen; simp at hlen; omega)) (fun hv => ?_)
    obtain ⟨k0, m0, rfl, hm0⟩ := hv
    refine K_region ?_
    refine C_val (V_move (v := (.slice (some ⟨k0, 0, none⟩) cur.length m0)) (.tmp rfl rfl)) ?_
    refine C_val (V_move (v := (.int .i64 (i : Int))) (.tmp rfl rfl)) ?_
    refine C_sliceLo sl39 ty80.sz (.tmp rfl rfl) (.tmp rfl rfl) .h (by omega) (by omega) ?_
    refine C_x1 (.cons .h .nil) (X_clear (l := cur.length) (m := m0) (k := k0) (i := i) (j := cur.length - i) sl39 ty80 rfl rfl rfl rfl rfl (by omega) (.tmp rfl rfl)) (fun _ => ?_)
    refine C_nil ?_
    refine K_region ?_
    refine C_val (V_move (v := (.slice (some ⟨k0, 0, none⟩) cur.length m0)) (.tmp rfl rfl)) ?_
    refine C_val (V_move (v := (.int .i64 (i : Int))) (.tmp rfl rfl)) ?_
    refine C_sliceHi sl39 ty80.sz (.tmp rfl rfl) hm0 (.tmp rfl rfl) .h rfl (by omega) (by omega) (by omega) ?_
    refine C_val (V_assign (v := (.slice (some ⟨k0, 0, none⟩) i 2)) (.tmp rfl rfl)) ?_
    refine C_nil ?_
    refine CW_ret ?_
    rw [← hI.fin hj]
    exact End_ret (⟨some ⟨k0, 0, none⟩, i, 2⟩, F') (.tmp rfl rfl .nil) rfl (.sel (.cons .h .nil))
theorem g_slices_DeleteFunc_impl_Fact_impl_Fact_imatches1_ok (a_s : List Fact) (v0_0 : Sv) (F0_0 : List Nat) (kc1 : Nat) (a_e1 : Method) (vc1_1 : Sv) (kc2 : Nat) (a_e2 : Access) (vc2_1 : Sv) (R : List Fact) (hF : g_slices_DeleteFunc_impl_Fact_impl_Fact_imatches1 a_s a_e1 a_e2 = some R) :
    Fw.Spec Tryz.prog 149 [v0_0.v, (.func (.func 151) [].toArray [(.pointer (some ⟨kc1, 0, some 0⟩)), (.pointer (some ⟨kc2, 0, some 0⟩))].toArray)] [cown (OwnS 80 ow80) F0_0 v0_0.v a_s, cboR kc1 108 (.agg [(.int .i64 a_e1.Rel), vc1_1.v, (.int .i64 a_e1.Limit), (.int .i64 a_e1.Cost), (.int .i64 a_e1.Quota)].toArray), crd (RdS 3 rdInt) vc1_1.v a_e1.Inputs, cboR kc2 105 (.agg [(.int .i64 a_e2.Method), vc2_1.v].toArray), crd (RdS 3 rdInt) vc2_1.v a_e2.Values] (fun p : Sv × List Nat => p.1.v) (fun p => [cown (OwnS 80 ow80) p.2 p.1.v R]) := by
  unfold g_slices_DeleteFunc_impl_Fact_impl_Fact_imatches1 at hF
  obtain ⟨h1, h2⟩ := delL_some hF
  refine Spec_pure cown_bound (fun hb => ?_)
  refine Spec_deep (R := rd80) rfl (fun es F1 hel => ⟨(es.zip a_s).filter (fun a => !(i_matches_1 a.2 a_e1 a_e2).getD false), List.filter_sublist, by rw [h2]; exact zip_filter (fun a => (i_matches_1 a a_e1 a_e2).getD false) es a_s hel, ?_⟩)
  refine g_slices_DeleteFunc_impl_Fact_impl_Fact_imatches1_sh (es.zip a_s) v0_0 F1 kc1 a_e1 vc1_1 kc2 a_e2 vc2_1 (fun a => (i_matches_1 a.2 a_e1 a_e2).getD false) (fun q hq => h1 q.2 (List.of_mem_zip hq).2) ?_ (by simp; omega)
  rw [List.map_snd_zip (Nat.le_of_eq hel.symm), ← ixF_map Prod.snd (fun a => (i_matches_1 a a_e1 a_e2).getD false), List.map_snd_zip (Nat.le_of_eq hel.symm)]
  exact index_loop (L := g_slices_IndexFunc_impl_Fact_impl_Fact_imatches1_L1 a_e1 a_e2) (fun _ => rfl) (fun _ _ _ => rfl) a_s 0 h1

/-! impl.matches -/
def i_matches (a_l : List Method) (a_facts : List Fact) (a_a : Access) : Option ((List Fact)) :=
  (ix a_l a_a.Method).bind fun x2 =>
  (i_copyFacts a_facts).bind fun r13 =>
  (g_slices_DeleteFunc_impl_Fact_impl_Fact_imatches1 r13 x2 a_a).bind fun r16 =>
  some r16
theorem i_matches_ok (a_l : List Method) (v0_0 : Sv) (a_facts : List Fact) (v1_0 : Sv) (a_a : Access) (v2_1 : Sv) (R : (List Fact)) (hF : i_matches a_l a_facts a_a = some R) :
    Fw.Spec Tryz.prog 136 [v0_0.v, v1_0.v, (.agg [(.int .i64 a_a.Method), v2_1.v].toArray)] [crd (RdS 108 rd108) v0_0.v a_l, crd (RdS 80 rd80) v1_0.v a_facts, crd (RdS 3 rdInt) v2_1.v a_a.Values] (fun p : Sv × List Nat => p.1.v) (fun p => [cown (OwnS 80 ow80) p.2 p.1.v R]) := by
  refine Spec_enter (n := 17) Tryz.func136 rfl rfl (rs := [.tmp 6]) rfl rfl rfl ?_
  intro H0 F0
  unfold i_matches at hF
  refine K_region (C_newR rfl (N_box (g := false) (v := (.agg [(.int .i64 a_a.Method), v2_1.v].toArray)) ty105.sz (.tmp rfl rfl) rfl) (fun k1 => ?_))
  refine C_val (V_assign (v := (.slice none 0 0)) EV.nilSlice) ?_
  refine C_nil (K_region (Cm v0_0.v rfl rfl ?_))
  refine C_val (V_fieldAddr (off := 0) fd105_0 (.tmp rfl rfl)) ?_
  refine C_at .h (fun hp => V_load (v := (.int .i64 a_a.Method)) ag3 (.tmp rfl rfl) hp.2 rfl rfl) ?_
  obtain ⟨x2, hx3, hF⟩ := bind_some hF
  obtain ⟨hp4, hx5⟩ := ix_some hx3
  refine C_idx (a := x2) sl37 ty108.sz (.tmp rfl rfl) (.tmp rfl rfl) (.t .h) hp4 hx5 (fun k6 j7 => ?_)
  refine C_ldA1 (ul108_0_108 x2) ag108 ty108.sz rfl (.tmp rfl rfl) .h la108_0_108 (fun p8 => ?_)
  refine C_new rfl (N_allocT (g := true) ty108 rfl rfl) (fun k9 => ?_)
  refine C_x1 (.cons .h .nil) (X_storeB (e' := (.agg [(.int .i64 x2.Rel), p8.v, (.int .i64 x2.Limit), (.int .i64 x2.Cost), (.int .i64 x2.Quota)].toArray)) (v := (.agg [(.int .i64 x2.Rel), p8.v, (.int .i64 x2.Limit), (.int .i64 x2.Cost), (.int .i64 x2.Quota)].toArray)) ty108.sz (.tmp rfl rfl) (.tmp rfl rfl) rfl rfl rfl rfl rfl) (fun _ => ?_)
  refine C_nil (K_frz .h frz_blk ?_)
  refine K_region (Cm v1_0.v rfl rfl ?_)
  obtain ⟨r13, hx14, hF⟩ := bind_some hF
  refine C_x1 (.rd (.t (.t (.t (.t (.t .h))))) rfl .nil) (X_callS cf150 (.cons (.tmp rfl rfl) .nil) (i_copyFacts_ok a_facts v1_0 _ hx14)) (fun p15 => ?_)
  refine C_val (V_makeFunc (fn := .func 151) (vs := []) (us := [(.pointer (some ⟨k9, 0, some 0⟩)), (.pointer (some ⟨k1, 0, some 0⟩))]) .nil (.cons (.tmp rfl rfl) (.cons (.tmp rfl rfl) .nil))) ?_
  obtain ⟨r16, hx17, hF⟩ := bind_some hF
  refine C_x1 (.cons .h (.rd .h rfl (.rd (.t .h) rfl (.rd (.t (.t (.t .h))) rfl (.rd (.t (.t (.t (.t (.t (.t .h)))))) rfl .nil))))) (X_callS cf149 (.cons (.tmp rfl rfl) (.cons (.tmp rfl rfl) .nil)) (g_slices_DeleteFunc_impl_Fact_impl_Fact_imatches1_ok r13 p15.1 p15.2 k9 x2 p8 k1 a_a v2_1 _ hx17)) (fun p18 => ?_)
  refine Ca p18.1.v rfl rfl ?_
  refine C_nil (CW_ret ?_)
  obtain rfl := Option.some.inj hF
  exact End_ret (p18.1, p18.2) (.tmp rfl rfl .nil) rfl (.sel (.cons .h .nil))

/-! impl.isTime -/
def i_isTime (a_t : Int) : Option (Bool) :=
  (i_within a_t 0 10000).bind fun r1 =>
  some r1
theorem i_isTime_ok (a_t : Int) (R : Bool) (hF : i_isTime a_t = some R) :
    Fw.Spec Tryz.prog 71 [(.int .i64 a_t)] [] (fun _ : Unit => (.bool R)) (fun _ => []) := by
  refine Spec_enter (n := 5) Tryz.func71 rfl rfl (rs := [.tmp 2]) rfl rfl rfl ?_
  intro H0 F0
  unfold i_isTime at hF
  refine K_region (C_val (V_assign (v := (.bool false)) (.bool _)) ?_)
  refine C_nil (K_region (Cm (.int .i64 a_t) rfl rfl ?_))
  obtain ⟨r1, hx2, hF⟩ := bind_some hF
  refine C_x0 .nil (X_callS cf76 (.cons (.tmp rfl rfl) (.cons (.int _ _) (.cons (.int _ _) .nil))) (i_within_ok a_t 0 10000 _ hx2)) (fun _ => ?_)
  refine Ca (.bool r1) rfl rfl ?_
  refine C_nil (CW_ret ?_)
  obtain rfl := Option.some.inj hF
  exact End_ret () (.tmp rfl rfl .nil) rfl (.sel .nil)

/-! impl.isStored -/
def i_isStored (a_s : List Int) (a_l : List Method) (a_x : Stored) : Option (Bool) :=
  ((i_IsAccess a_s a_l a_x.Access).bind fun r4 =>
    bif r4 then ((i_AreFacts a_s a_x.Facts).bind fun r8 =>
      bif r8 then ((i_matches a_l a_x.Facts a_x.Access).bind fun r12 =>
        bif (((r12.length : Int) : Int) == (a_x.Facts.length : Int)) then ((i_isTime a_x.At).bind fun r16 =>
          some r16)
        else (some false))
      else (some false))
    else (some false)).bind fun o2 =>
  match o2 with
  | c19 => some c19
theorem i_isStored_ok (a_s : List Int) (v0_0 : Sv) (a_l : List Method) (v1_0 : Sv) (a_x : Stored) (v2_1 : Sv) (v2_2 : Sv) (R : Bool) (hF : i_isStored a_s a_l a_x = some R) :
    Fw.Spec Tryz.prog 110 [v0_0.v, v1_0.v, (.agg [(.int .i64 a_x.Access.Method), v2_1.v, v2_2.v, (.int .i64 a_x.At)].toArray)] [crd (RdS 3 rdInt) v0_0.v a_s, crd (RdS 108 rd108) v1_0.v a_l, crd (RdS 3 rdInt) v2_1.v a_x.Access.Values, crd (RdS 80 rd80) v2_2.v a_x.Facts] (fun _ : Unit => (.bool R)) (fun _ => []) := by
  refine Spec_enter (n := 36) Tryz.func110 rfl rfl (rs := [.tmp 6]) rfl rfl rfl ?_
  intro H0 F0
  unfold i_isStored at hF
  refine K_region (C_newR rfl (N_box (g := false) (v := (.agg [(.int .i64 a_x.Access.Method), v2_1.v, v2_2.v, (.int .i64 a_x.At)].toArray)) ty147.sz (.tmp rfl rfl) rfl) (fun k1 => ?_))
  refine C_val (V_assign (v := (.bool false)) (.bool _)) ?_
  refine C_nil ?_
  obtain ⟨o2, hio2, hO3⟩ := bind_some hF
  refine K_draw [0, 1, 2, 3, 4, 5, 6, 7, 8, 9, 10, 11, 12, 13, 14, 15, 16, 19, 20, 21, 17, 18, 22, 23, 24, 25, 26, 27, 28, 29] [0, 0, 0, 4, 15, 31, 63, 63, 191, 511, 1023, 2047, 4095, 4095, 12287, 4095, 36863, 131071, 262143, 4095, 528383, 1576959, 4194303, 8388607, 16777215, 33554431, 67108863, 134217727, 268435455, 536870911] [4, 9, 17, 27] mixed (by decide +kernel) ?_
  refine D_cut (fun f' cs' => ∃ (c19 : Bool) (g : Fr), c19 = o2 ∧ f' = updL g [(6, (.bool c19))] ∧ Ent cs' []) ?_ ?_
  · replace hF := hio2
    refine Dm v0_0.v rfl rfl rfl rfl ?_
    refine Dm v1_0.v rfl rfl rfl rfl ?_
    refine D_val rfl .no (fun ha => V_fieldAddr (off := 0) fd147_0 (EN ha (.tmp rfl rfl) rfl)) ?_
    refine D_at rfl .no .h rfl (fun ha hp => V_loadA (s := 2) (l := [(.int .i64 a_x.Access.Method), v2_1.v]) ag105 ty105.sz (EN ha (.tmp rfl rfl) rfl) hp.2 rfl (by decide) (Nat.le_of_ble_eq_true rfl) rfl) ?_
    obtain ⟨r4, hx5, hF⟩ := bind_some hF
    refine D_act0 rfl rfl .no (.rd (.t .h) rfl (.rd (.t (.t .h)) rfl (.rd (.t (.t (.t .h))) rfl .nil))) .nil (fun ha => X_callS cf74 (.cons (EN ha (.tmp rfl rfl) rfl) (.cons (EN ha (.tmp rfl rfl) rfl) (.cons (EN ha (.tmp rfl rfl) rfl) .nil))) (i_IsAccess_ok a_s v0_0 a_l v1_0 a_x.Access v2_1 _ hx5)) (fun _ => ?_)
    refine Dm (.bool r4) rfl rfl rfl rfl ?_
    rcases Bool.eq_false_or_eq_true r4 with hg7 | hg7
    · rw [hg7]
      try rw [hg7] at hF; dsimp only [cond_true, cond_false] at hF
      refine D_val rfl (.on 12 rfl rfl rfl) (fun ha => V_move (v := v0_0.v) (EN ha (.tmp rfl rfl) rfl)) ?_
      refine D_val rfl (.on 12 rfl rfl rfl) (fun ha => V_fieldAddr (off := 2) fd147_1 (EN ha (.tmp rfl rfl) rfl)) ?_
      refine D_at rfl (.on 12 rfl rfl rfl) .h rfl (fun ha hp => V_load (v := v2_2.v) ag39 (EN ha (.tmp rfl rfl) rfl) hp.2 rfl rfl) ?_
      obtain ⟨r8, hx9, hF⟩ := bind_some hF
      refine D_act0 rfl rfl (.on 12 rfl rfl rfl) (.rd (.t .h) rfl (.rd (.t (.t (.t (.t .h)))) rfl .nil)) .nil (fun ha => X_callS cf109 (.cons (EN ha (.tmp rfl rfl) rfl) (.cons (EN ha (.tmp rfl rfl) rfl) .nil)) (i_AreFacts_ok a_s v0_0 a_x.Facts v2_2 _ hx9)) (fun _ => ?_)
      refine D_val rfl .no (fun ha => V_pick (b := true) (u := (.bool r8)) (v := (.bool false)) (EN ha (.tmp rfl rfl) rfl) (EN ha (.tmp rfl rfl) rfl) (EN ha (.bool _) rfl)) ?_
      refine Dm (.bool r8) rfl rfl rfl rfl ?_
      rcases Bool.eq_false_or_eq_true r8 with hg11 | hg11
      · rw [hg11]
        try rw [hg11] at hF; dsimp only [cond_true, cond_false] at hF
        refine D_val rfl (.on 18 rfl rfl rfl) (fun ha => V_move (v := v1_0.v) (EN ha (.tmp rfl rfl) rfl)) ?_
        refine D_val rfl (.on 18 rfl rfl rfl) (fun ha => V_fieldAddr (off := 2) fd147_1 (EN ha (.tmp rfl rfl) rfl)) ?_
        refine D_at rfl (.on 18 rfl rfl rfl) .h rfl (fun ha hp => V_load (v := v2_2.v) ag39 (EN ha (.tmp rfl rfl) rfl) hp.2 rfl rfl) ?_
        refine D_val rfl (.on 18 rfl rfl rfl) (fun ha => V_fieldAddr (off := 0) fd147_0 (EN ha (.tmp rfl rfl) rfl)) ?_
        refine D_at rfl (.on 18 rfl rfl rfl) .h rfl (fun ha hp => V_loadA (s := 2) (l := [(.int .i64 a_x.Access.Method), v2_1.v]) ag105 ty105.sz (EN ha (.tmp rfl rfl) rfl) hp.2 rfl (by decide) (Nat.le_of_ble_eq_true rfl) rfl) ?_
        refine D_val rfl (.on 18 rfl rfl rfl) (fun ha => V_fieldAddr (off := 2) fd147_1 (EN ha (.tmp rfl rfl) rfl)) ?_
        refine D_at rfl (.on 18 rfl rfl rfl) .h rfl (fun ha hp => V_load (v := v2_2.v) ag39 (EN ha (.tmp rfl rfl) rfl) hp.2 rfl rfl) ?_
        refine D_at rfl (.on 18 rfl rfl rfl) (.t (.t (.t (.t .h)))) rfl (fun ha hp => V_lenR (l := a_x.Facts.length) sl39 (EN ha (.tmp rfl rfl) rfl) (crd_len hp)) ?_
        obtain ⟨r12, hx13, hF⟩ := bind_some hF
        refine D_act1 rfl rfl (.on 18 rfl rfl rfl) (.rd (.t (.t .h)) rfl (.rd (.t (.t (.t (.t .h)))) rfl (.rd (.t (.t (.t .h))) rfl .nil))) .nil (fun ha => X_callS cf136 (.cons (EN ha (.tmp rfl rfl) rfl) (.cons (EN ha (.tmp rfl rfl) rfl) (.cons (EN ha (.tmp rfl rfl) rfl) .nil))) (i_matches_ok a_l v1_0 a_x.Facts v2_2 a_x.Access v2_1 _ hx13)) (fun p14 => ?_)
        refine D_atO rfl (.on 18 rfl rfl rfl) .h (fun ha hp => V_lenR (l := r12.length) sl39 (EN ha (.tmp rfl rfl) rfl) (cown_len hp)) ?_
        refine D_val rfl (.on 18 rfl rfl rfl) (fun ha => V_eql (i := (r12.length : Int)) (j := (a_x.Facts.length : Int)) (EN ha (.tmp rfl rfl) rfl) (EN ha (.tmp rfl rfl) rfl)) ?_
        refine D_val rfl .no (fun ha => V_pick (b := true) (u := (.bool (((r12.length : Int) : Int) == (a_x.Facts.length : Int)))) (v := (.bool false)) (EN ha (.tmp rfl rfl) rfl) (EN ha (.tmp rfl rfl) rfl) (EN ha (.bool _) rfl)) ?_
        refine Dm (.bool (((r12.length : Int) : Int) == (a_x.Facts.length : Int))) rfl rfl rfl rfl ?_
        rcases Bool.eq_false_or_eq_true (((r12.length : Int) : Int) == (a_x.Facts.length : Int)) with hg15 | hg15
        · rw [hg15]
          try rw [hg15] at hF; dsimp only [cond_true, cond_false] at hF
          refine D_val rfl (.on 31 rfl rfl rfl) (fun ha => V_fieldAddr (off := 3) fd147_2 (EN ha (.tmp rfl rfl) rfl)) ?_
          refine D_at rfl (.on 31 rfl rfl rfl) (.t .h) rfl (fun ha hp => V_load (v := (.int .i64 a_x.At)) ag3 (EN ha (.tmp rfl rfl) rfl) hp.2 rfl rfl) ?_
          obtain ⟨r16, hx17, hF⟩ := bind_some hF
          refine D_act0 rfl rfl (.on 31 rfl rfl rfl) .nil (.dep rfl .nil) (fun ha => X_callS cf71 (.cons (EN ha (.tmp rfl rfl) rfl) .nil) (i_isTime_ok a_x.At _ hx17)) (fun _ => ?_)
          refine D_val rfl .no (fun ha => V_pick (b := true) (u := (.bool r16)) (v := (.bool false)) (EN ha (.tmp rfl rfl) rfl) (EN ha (.tmp rfl rfl) rfl) (EN ha (.bool _) rfl)) ?_
          refine Da (.bool r16) rfl rfl rfl rfl ?_
          refine D_nil ?_
          obtain rfl := Option.some.inj hF
          exact ⟨_, _, rfl, (EqL.cons rfl (EqL.nil)).eq, (.sel .nil)⟩
        rw [hg15]
        try rw [hg15] at hF; dsimp only [cond_true, cond_false] at hF
        iterate 3 refine D_off 31 rfl rfl rfl rfl ?_
        refine D_val rfl .no (fun ha => V_pick (b := false) (u := undef) (v := (.bool false)) (EN ha (.tmp rfl rfl) rfl) (EN ha (.tmp rfl rfl) rfl) (EN ha (.bool _) rfl)) ?_
        refine Da (.bool false) rfl rfl rfl rfl ?_
        refine D_nil ?_
        obtain rfl := Option.some.inj hF
        exact ⟨_, _, rfl, (EqL.cons rfl (EqL.nil)).eq, (.sel .nil)⟩
      rw [hg11]
      try rw [hg11] at hF; dsimp only [cond_true, cond_false] at hF
      iterate 11 refine D_off 18 rfl rfl rfl rfl ?_
      refine D_val rfl .no (fun ha => V_pick (b := false) (u := undef) (v := (.bool false)) (EN ha (.tmp rfl rfl) rfl) (EN ha (.tmp rfl rfl) rfl) (EN ha (.bool _) rfl)) ?_
      refine Dm (.bool false) rfl rfl rfl rfl ?_
      iterate 3 refine D_off 31 rfl rfl rfl rfl ?_
      refine D_val rfl .no (fun ha => V_pick (b := false) (u := undef) (v := (.bool false)) (EN ha (.tmp rfl rfl) rfl) (EN ha (.tmp rfl rfl) rfl) (EN ha (.bool _) rfl)) ?_
      refine Da (.bool false) rfl rfl rfl rfl ?_
      refine D_nil ?_
      obtain rfl := Option.some.inj hF
      exact ⟨_, _, rfl, (EqL.cons rfl (EqL.nil)).eq, (.sel .nil)⟩
    rw [hg7]
    try rw [hg7] at hF; dsimp only [cond_true, cond_false] at hF
    iterate 4 refine D_off 12 rfl rfl rfl rfl ?_
    refine D_val rfl .no (fun ha => V_pick (b := false) (u := undef) (v := (.bool false)) (EN ha (.tmp rfl rfl) rfl) (EN ha (.tmp rfl rfl) rfl) (EN ha (.bool _) rfl)) ?_
    refine Dm (.bool false) rfl rfl rfl rfl ?_
    iterate 11 refine D_off 18 rfl rfl rfl rfl ?_
    refine D_val rfl .no (fun ha => V_pick (b := false) (u := undef) (v := (.bool false)) (EN ha (.tmp rfl rfl) rfl) (EN ha (.tmp rfl rfl) rfl) (EN ha (.bool _) rfl)) ?_
    refine Dm (.bool false) rfl rfl rfl rfl ?_
    iterate 3 refine D_off 31 rfl rfl rfl rfl ?_
    refine D_val rfl .no (fun ha => V_pick (b := false) (u := undef) (v := (.bool false)) (EN ha (.tmp rfl rfl) rfl) (EN ha (.tmp rfl rfl) rfl) (EN ha (.bool _) rfl)) ?_
    refine Da (.bool false) rfl rfl rfl rfl ?_
    refine D_nil ?_
    obtain rfl := Option.some.inj hF
    exact ⟨_, _, rfl, (EqL.cons rfl (EqL.nil)).eq, (.sel .nil)⟩
  rintro _ _ ⟨c19, g20, rfl, rfl, hE⟩
  replace hF := hO3
  clear hO3
  try dsimp only at hF
  refine K_ent hE ?_
  refine CW_ret ?_
  obtain rfl := Option.some.inj hF
  exact End_ret () (.tmp rfl rfl .nil) rfl (.sel .nil)

/-! impl.compareAccesses -/
def i_compareAccesses (a_a : Access) (a_b : Access) : Option (Int) :=
  (g_cmp_Compare_int a_a.Method a_b.Method).bind fun r3 =>
  (g_slices_Compare_int_int a_a.Values a_b.Values).bind fun r6 =>
  (g_cmp_Or_int ([r3, r6] : List Int)).bind fun r10 =>
  some r10
theorem i_compareAccesses_ok (a_a : Access) (v0_1 : Sv) (a_b : Access) (v1_1 : Sv) (R : Int) (hF : i_compareAccesses a_a a_b = some R) :
    Fw.Spec Tryz.prog 111 [(.agg [(.int .i64 a_a.Method), v0_1.v].toArray), (.agg [(.int .i64 a_b.Method), v1_1.v].toArray)] [crd (RdS 3 rdInt) v0_1.v a_a.Values, crd (RdS 3 rdInt) v1_1.v a_b.Values] (fun _ : Unit => (.int .i64 R)) (fun _ => []) := by
  refine Spec_enter (n := 17) Tryz.func111 rfl rfl (rs := [.tmp 4]) rfl rfl rfl ?_
  intro H0 F0
  unfold i_compareAccesses at hF
  refine K_region (C_newR rfl (N_box (g := false) (v := (.agg [(.int .i64 a_a.Method), v0_1.v].toArray)) ty105.sz (.tmp rfl rfl) rfl) (fun k1 => ?_))
  refine C_newR rfl (N_box (g := false) (v := (.agg [(.int .i64 a_b.Method), v1_1.v].toArray)) ty105.sz (.tmp rfl rfl) rfl) (fun k2 => ?_)
  refine C_val (V_assign (v := (.int .i64 0)) (.int _ _)) ?_
  refine C_nil (K_draw [0, 1, 2, 3, 5, 6, 7, 8, 4, 9, 10, 11, 12] [0, 1, 0, 4, 15, 0, 32, 0, 128, 511, 1023, 2047, 4095] [4, 9, 11] mixed (by decide +kernel) ?_)
  refine D_val rfl .no (fun ha => V_fieldAddr (off := 0) fd105_0 (EN ha (.tmp rfl rfl) rfl)) ?_
  refine D_at rfl .no (.t .h) rfl (fun ha hp => V_load (v := (.int .i64 a_a.Method)) ag3 (EN ha (.tmp rfl rfl) rfl) hp.2 rfl rfl) ?_
  refine D_val rfl .no (fun ha => V_fieldAddr (off := 0) fd105_0 (EN ha (.tmp rfl rfl) rfl)) ?_
  refine D_at rfl .no .h rfl (fun ha hp => V_load (v := (.int .i64 a_b.Method)) ag3 (EN ha (.tmp rfl rfl) rfl) hp.2 rfl rfl) ?_
  refine D_val rfl .no (fun ha => V_fieldAddr (off := 1) fd105_1 (EN ha (.tmp rfl rfl) rfl)) ?_
  refine D_at rfl .no (.t .h) rfl (fun ha hp => V_load (v := v0_1.v) ag22 (EN ha (.tmp rfl rfl) rfl) hp.2 rfl rfl) ?_
  refine D_val rfl .no (fun ha => V_fieldAddr (off := 1) fd105_1 (EN ha (.tmp rfl rfl) rfl)) ?_
  refine D_at rfl .no .h rfl (fun ha hp => V_load (v := v1_1.v) ag22 (EN ha (.tmp rfl rfl) rfl) hp.2 rfl rfl) ?_
  obtain ⟨r3, hx4, hF⟩ := bind_some hF
  refine D_act0 rfl rfl .no .nil .nil (fun ha => X_callS cf138 (.cons (EN ha (.tmp rfl rfl) rfl) (.cons (EN ha (.tmp rfl rfl) rfl) .nil)) (g_cmp_Compare_int_ok a_a.Method a_b.Method _ hx4)) (fun _ => ?_)
  obtain ⟨r6, hx7, hF⟩ := bind_some hF
  refine D_act0 rfl rfl .no (.rd (.t (.t .h)) rfl (.rd (.t (.t (.t .h))) rfl .nil)) .nil (fun ha => X_callS cf139 (.cons (EN ha (.tmp rfl rfl) rfl) (.cons (EN ha (.tmp rfl rfl) rfl) .nil)) (g_slices_Compare_int_int_ok a_a.Values v0_1 a_b.Values v1_1 _ hx7)) (fun _ => ?_)
  refine D_new rfl .no rfl (fun ha => N_buildSliceT (g := true) (len := 2) (parts := [(0, .tmp 9), (1, .tmp 14)]) sl22 ty3 (.cons (EN ha (.tmp rfl rfl) rfl) (.cons (EN ha (.tmp rfl rfl) rfl) .nil)) (vs := [(.int .i64 r3), (.int .i64 r6)]) rfl rfl rfl (by intro v hv; simp at hv; rcases hv with rfl | rfl <;> rfl)) (fun k9 => ?_)
  refine D_conv (.cons .h .nil) (own_lit (Ro := (roE rdInt)) (E := 3) (F := ([] ++ ([] ++ []))) (xs := ([r3, r6] : List Int)) (MkL_cons (Mk_pure (fun _ => rfl)) (MkL_cons (Mk_pure (fun _ => rfl)) MkL_nil apps) apps) rfl rfl) apps ?_
  obtain ⟨r10, hx11, hF⟩ := bind_some hF
  refine D_act1 rfl rfl .no (.cons .h .nil) (.dep rfl .nil) (fun ha => XC_borL (pre := []) (.cons frz_own .nil) (fun _ => .nil) (X_callS cf137 (.cons (EN ha (.tmp rfl rfl) rfl) .nil) (g_cmp_Or_int_ok ([r3, r6] : List Int) (⟨(some ⟨k9, 0, none⟩), 2, 1⟩) _ hx11))) (fun _ => ?_)
  refine Da (.int .i64 r10) rfl rfl rfl rfl ?_
  refine D_nil (CW_ret ?_)
  obtain rfl := Option.some.inj hF
  exact End_ret () (.tmp rfl rfl .nil) rfl (.sel .nil)

/-! impl.IsCache -/
def i_IsCache_L1 (a_s : List Int) (a_l : List Method) (a_c : Cache) : List Stored → Nat → Option (Bool)
  | [], k5 => ((i_AreMethods a_s a_l).bind fun r16 =>
      bif r16 then ((i_within a_c.Age 0 100).bind fun r20 =>
        bif r20 then (some (decide (((a_c.Entries.length : Int) : Int) ≤ 100)))
        else (some false))
      else (some false)).bind fun o14 =>
    match o14 with
    | c24 => some c24
  | x7 :: rest6, k5 => ((i_isStored a_s a_l x7).bind fun r32 =>
      bif (!r32) then (some true)
      else (bif (decide ((0 : Int) < (k5 : Int))) then ((ix a_c.Entries (IntKind.i64.wrap ((k5 : Int) - 1))).bind fun x37 =>
          (i_compareAccesses x37.Access x7.Access).bind fun r44 =>
          some (decide ((0 : Int) ≤ r44)))
        else (some false))).bind fun o30 =>
    match o30 with
    | c47 => if c47 then (
        some false)
      else (
        i_IsCache_L1 a_s a_l a_c rest6 (k5 + 1))
def i_IsCache (a_s : List Int) (a_l : List Method) (a_c : Cache) : Option (Bool) :=
  i_IsCache_L1 a_s a_l a_c a_c.Entries 0
theorem i_IsCache_ok (a_s : List Int) (v0_0 : Sv) (a_l : List Method) (v1_0 : Sv) (a_c : Cache) (v2_0 : Sv) (R : Bool) (hF : i_IsCache a_s a_l a_c = some R) :
    Fw.Spec Tryz.prog 70 [v0_0.v, v1_0.v, (.agg [v2_0.v, (.int .i64 a_c.Age)].toArray)] [crd (RdS 3 rdInt) v0_0.v a_s, crd (RdS 108 rd108) v1_0.v a_l, crd (RdS 147 rd147) v2_0.v a_c.Entries] (fun _ : Unit => (.bool R)) (fun _ => []) := by
  refine Spec_enter (n := 54) Tryz.func70 rfl rfl (rs := [.tmp 6]) rfl rfl rfl ?_
  intro H0 F0
  unfold i_IsCache at hF
  refine K_region (C_newR rfl (N_box (g := false) (v := (.agg [v2_0.v, (.int .i64 a_c.Age)].toArray)) ty44.sz (.tmp rfl rfl) rfl) (fun k1 => ?_))
  refine C_val (V_assign (v := (.bool false)) (.bool _)) ?_
  refine C_nil (K_in (K_region (C_val (V_fieldAddr (off := 0) fd44_0 (.tmp rfl rfl)) ?_)))
  refine C_at .h (fun hp => V_load (v := v2_0.v) ag42 (.tmp rfl rfl) hp.2 rfl rfl) ?_
  refine C_at (.t (.t (.t .h))) (fun hp => V_lenR (l := a_c.Entries.length) sl42 (.tmp rfl rfl) (crd_len hp)) ?_
  refine C_val (V_move (v := (.int .i64 0)) (.int _ _)) ?_
  refine C_nil (CW_block (CW_loop (m := a_c.Entries.length) (fun m3 f' cs' => ∃ (g : Fr) (k5 : Nat) (rest6 : List Stored), m3 = rest6.length ∧ f' = updL g [(0, v0_0.v), (1, v1_0.v), (5, (.pointer (some ⟨k1, 0, some 0⟩))), (10, v2_0.v), (11, (.int .i64 (a_c.Entries.length : Int))), (12, (.int .i64 (k5 : Int)))] ∧ List.drop k5 a_c.Entries = rest6 ∧ Ent cs' [crd (RdS 3 rdInt) v0_0.v a_s, crd (RdS 108 rd108) v1_0.v a_l, cboR k1 44 (.agg [v2_0.v, (.int .i64 a_c.Age)].toArray), crd (RdS 147 rd147) v2_0.v a_c.Entries] ∧ i_IsCache_L1 a_s a_l a_c rest6 k5 = some R) ⟨_, 0, _, rfl, (EqL.cons rfl (EqL.cons rfl (EqL.cons rfl (EqL.cons rfl (EqL.cons rfl (EqL.cons rfl (EqL.nil))))))).eq, rfl, (.sel (.rd (.t .h) rfl (.rd (.t (.t .h)) rfl (.rd .h rfl (.rd (.t (.t (.t .h))) rfl .nil))))), hF⟩ ?_))
  clear hF
  rintro m3 _ _ ⟨g4, k5, rest6, rfl, rfl, hd8, hE, hF⟩
  refine K_ent hE ?_
  clear hE
  refine K_pure (c := crd (RdS 147 rd147) v2_0.v a_c.Entries) (.t (.t (.t .h))) crd_bound (fun hbd13 => ?_)
  rcases rest6 with _ | ⟨x7, rest6⟩
  · have hk9 := List.drop_eq_nil_iff.1 hd8
    have hfe12 : (decide (((k5 : Int) : Int) < (a_c.Entries.length : Int))) = false := decide_eq_false (by omega)
    rw [i_IsCache_L1] at hF
    refine K_region (C_val (V_lss (i := (k5 : Int)) (j := (a_c.Entries.length : Int)) (.tmp rfl rfl) (.tmp rfl rfl)) ?_)
    refine C_nil (K_in (CW_cond (b := (decide (((k5 : Int) : Int) < (a_c.Entries.length : Int)))) (.tmp rfl rfl) (fun hb => absurd (hfe12.symm.trans hb) (by decide)) (fun _ => ?_)))
    refine CW_exit ?_
    iterate 2 refine CThen_exit ?_
    refine CIn_self ?_
    obtain ⟨o14, hio14, hO15⟩ := bind_some hF
    refine K_region (C_cut (fun f' cs' => ∃ (c24 : Bool) (g : Fr), c24 = o14 ∧ f' = updL g [(6, (.bool c24))] ∧ Ent cs' []) ?_ ?_)
    · replace hF := hio14
      refine Cm v0_0.v rfl rfl ?_
      refine Cm v1_0.v rfl rfl ?_
      obtain ⟨r16, hx17, hF⟩ := bind_some hF
      refine C_x0 (.rd .h rfl (.rd (.t .h) rfl .nil)) (X_callS cf67 (.cons (.tmp rfl rfl) (.cons (.tmp rfl rfl) .nil)) (i_AreMethods_ok a_s v0_0 a_l v1_0 _ hx17)) (fun _ => ?_)
      refine Cm (.bool r16) rfl rfl ?_
      rcases Bool.eq_false_or_eq_true r16 with hg19 | hg19
      · rw [hg19]
        try rw [hg19] at hF; dsimp only [cond_true, cond_false] at hF
        refine C_on (t := 43) rfl rfl rfl ?_
        refine C_val (V_fieldAddr (off := 1) fd44_1 (.tmp rfl rfl)) ?_
        refine C_on (t := 43) rfl rfl rfl ?_
        refine C_at (.t (.t .h)) (fun hp => V_load (v := (.int .i64 a_c.Age)) ag3 (.tmp rfl rfl) hp.2 rfl rfl) ?_
        refine C_on (t := 43) rfl rfl rfl ?_
        obtain ⟨r20, hx21, hF⟩ := bind_some hF
        refine C_x0 .nil (X_callS cf76 (.cons (.tmp rfl rfl) (.cons (.int _ _) (.cons (.int _ _) .nil))) (i_within_ok a_c.Age 0 100 _ hx21)) (fun _ => ?_)
        refine C_val (V_pick (b := true) (u := (.bool r20)) (v := (.bool false)) (.tmp rfl rfl) (.tmp rfl rfl) (.bool _)) ?_
        refine Cm (.bool r20) rfl rfl ?_
        rcases Bool.eq_false_or_eq_true r20 with hg23 | hg23
        · rw [hg23]
          try rw [hg23] at hF; dsimp only [cond_true, cond_false] at hF
          refine C_on (t := 48) rfl rfl rfl ?_
          refine C_val (V_fieldAddr (off := 0) fd44_0 (.tmp rfl rfl)) ?_
          refine C_on (t := 48) rfl rfl rfl ?_
          refine C_at (.t (.t .h)) (fun hp => V_load (v := v2_0.v) ag42 (.tmp rfl rfl) hp.2 rfl rfl) ?_
          refine C_on (t := 48) rfl rfl rfl ?_
          refine C_at (.t (.t (.t .h))) (fun hp => V_lenR (l := a_c.Entries.length) sl42 (.tmp rfl rfl) (crd_len hp)) ?_
          refine C_on (t := 48) rfl rfl rfl ?_
          refine C_val (V_leq (i := (a_c.Entries.length : Int)) (j := 100) (.tmp rfl rfl) (.int _ _)) ?_
          refine C_val (V_pick (b := true) (u := (.bool (decide (((a_c.Entries.length : Int) : Int) ≤ 100)))) (v := (.bool false)) (.tmp rfl rfl) (.tmp rfl rfl) (.bool _)) ?_
          refine Ca (.bool (decide (((a_c.Entries.length : Int) : Int) ≤ 100))) rfl rfl ?_
          refine C_nil ?_
          obtain rfl := Option.some.inj hF
          exact ⟨_, _, rfl, (EqL.cons rfl (EqL.nil)).eq, (.sel .nil)⟩
        rw [hg23]
        try rw [hg23] at hF; dsimp only [cond_true, cond_false] at hF
        iterate 4 refine C_off (t := 48) rfl rfl rfl ?_
        refine C_val (V_pick (b := false) (u := undef) (v := (.bool false)) (.tmp rfl rfl) (.tmp rfl rfl) (.bool _)) ?_
        refine Ca (.bool false) rfl rfl ?_
        refine C_nil ?_
        obtain rfl := Option.some.inj hF
        exact ⟨_, _, rfl, (EqL.cons rfl (EqL.nil)).eq, (.sel .nil)⟩
      rw [hg19]
      try rw [hg19] at hF; dsimp only [cond_true, cond_false] at hF
      iterate 3 refine C_off (t := 43) rfl rfl rfl ?_
      refine C_val (V_pick (b := false) (u := undef) (v := (.bool false)) (.tmp rfl rfl) (.tmp rfl rfl) (.bool _)) ?_
      refine Cm (.bool false) rfl rfl ?_
      iterate 4 refine C_off (t := 48) rfl rfl rfl ?_
      refine C_val (V_pick (b := false) (u := undef) (v := (.bool false)) (.tmp rfl rfl) (.tmp rfl rfl) (.bool _)) ?_
      refine Ca (.bool false) rfl rfl ?_
      refine C_nil ?_
      obtain rfl := Option.some.inj hF
      exact ⟨_, _, rfl, (EqL.cons rfl (EqL.nil)).eq, (.sel .nil)⟩
    rintro _ _ ⟨c24, g25, rfl, rfl, hE⟩
    replace hF := hO15
    clear hO15
    try dsimp only at hF
    refine K_ent hE ?_
    refine CW_ret ?_
    obtain rfl := Option.some.inj hF
    exact End_ret () (.tmp rfl rfl .nil) rfl (.sel .nil)
  obtain ⟨hk9, hx10, hd11⟩ := drop_cons hd8
  have hfe12 : (decide (((k5 : Int) : Int) < (a_c.Entries.length : Int))) = true := decide_eq_true (by omega)
  rw [i_IsCache_L1] at hF
  refine K_region (C_val (V_lss (i := (k5 : Int)) (j := (a_c.Entries.length : Int)) (.tmp rfl rfl) (.tmp rfl rfl)) ?_)
  refine C_nil (K_in (CW_cond (b := (decide (((k5 : Int) : Int) < (a_c.Entries.length : Int)))) (.tmp rfl rfl) (fun _ => ?_) (fun hb => absurd (hfe12.symm.trans hb) (by decide))))
  refine CW_skip (K_block (K_region (Cm (.int .i64 (k5 : Int)) rfl rfl ?_)))
  refine C_idx (a := x7) sl42 ty147.sz (.tmp rfl rfl) (.tmp rfl rfl) (.t (.t (.t .h))) (Int.natCast_nonneg k5) hx10 (fun k26 j27 => ?_)
  refine C_ldA2 (ul147_0_147 x7) ag147 ty147.sz rfl (.tmp rfl rfl) .h la147_0_147 (fun p28 => ?_)
  refine C_new rfl (N_allocT (g := true) ty147 rfl rfl) (fun k29 => ?_)
  refine Ca (.int .i64 (k5 : Int)) rfl rfl ?_
  refine C_x1 (.cons .h .nil) (X_storeB (e' := (.agg [(.int .i64 x7.Access.Method), p28.1.v, p28.2.v, (.int .i64 x7.At)].toArray)) (v := (.agg [(.int .i64 x7.Access.Method), p28.1.v, p28.2.v, (.int .i64 x7.At)].toArray)) ty147.sz (.tmp rfl rfl) (.tmp rfl rfl) rfl rfl rfl rfl rfl) (fun _ => ?_)
  refine C_nil ?_
  obtain ⟨o30, hio30, hO31⟩ := bind_some hF
  refine K_draw [0, 1, 2, 3, 4, 5, 6, 7, 8, 9, 10, 11, 12, 13, 14, 15, 16, 17, 18, 19, 20, 21] [0, 0, 0, 7, 15, 31, 63, 127, 255, 511, 1023, 511, 2559, 8191, 16383, 32767, 511, 66047, 262143, 524287, 1048575, 2097151] [3, 18] mixed (by decide +kernel) ?_
  refine D_cut (fun f' cs' => ∃ (c47 : Bool) (g : Fr), c47 = o30 ∧ f' = updL g [(0, v0_0.v), (1, v1_0.v), (5, (.pointer (some ⟨k1, 0, some 0⟩))), (10, v2_0.v), (11, (.int .i64 (a_c.Entries.length : Int))), (12, (.int .i64 (k5 : Int))), (38, (.bool c47))] ∧ Ent cs' [crd (RdS 3 rdInt) v0_0.v a_s, crd (RdS 108 rd108) v1_0.v a_l, cboR k1 44 (.agg [v2_0.v, (.int .i64 a_c.Age)].toArray), crd (RdS 147 rd147) v2_0.v a_c.Entries]) ?_ ?_
  · replace hF := hio30
    refine Dm v0_0.v rfl rfl rfl rfl ?_
    refine Dm v1_0.v rfl rfl rfl rfl ?_
    refine D_atO rfl .no .h (fun ha hp => V_loadBox ag147 ty147.sz rfl (EN ha (.tmp rfl rfl) rfl) hp.2 rfl) ?_
    obtain ⟨r32, hx33, hF⟩ := bind_some hF
    refine D_act0 rfl rfl .no (.rd (.t (.t (.t (.t .h)))) rfl (.rd (.t (.t (.t (.t (.t .h))))) rfl (.rd (.t .h) rfl (.rd (.t (.t .h)) rfl .nil)))) (.dep rfl .nil) (fun ha => X_callS cf110 (.cons (EN ha (.tmp rfl rfl) rfl) (.cons (EN ha (.tmp rfl rfl) rfl) (.cons (EN ha (.tmp rfl rfl) rfl) .nil))) (i_isStored_ok a_s v0_0 a_l v1_0 x7 p28.1 p28.2 _ hx33)) (fun _ => ?_)
    refine D_val rfl .no (fun ha => V_not (b := r32) (EN ha (.tmp rfl rfl) rfl)) ?_
    refine Dm (.bool (!r32)) rfl rfl rfl rfl ?_
    rcases Bool.eq_false_or_eq_true (!r32) with hg35 | hg35
    · rw [hg35]
      try rw [hg35] at hF; dsimp only [cond_true, cond_false] at hF
      iterate 3 refine D_off 22 rfl rfl rfl rfl ?_
      iterate 11 refine D_offU 25 rfl rfl rfl rfl ?_
      refine D_off 22 rfl rfl rfl rfl ?_
      refine D_val rfl .no (fun ha => V_pick (b := true) (u := (.bool true)) (v := undef) (EN ha (.tmp rfl rfl) rfl) (EN ha (.bool _) rfl) (EN ha (.tmp rfl rfl) rfl)) ?_
      refine D_nil ?_
      obtain rfl := Option.some.inj hF
      exact ⟨_, _, rfl, (EqL.cons rfl (EqL.cons rfl (EqL.cons rfl (EqL.cons rfl (EqL.cons rfl (EqL.cons rfl (EqL.cons rfl (EqL.nil)))))))).eq, (.sel (.rd (.t (.t (.t (.t .h)))) rfl (.rd (.t (.t (.t (.t (.t .h))))) rfl (.rd (.t (.t (.t (.t (.t (.t .h)))))) rfl (.rd (.t (.t (.t (.t (.t (.t (.t .h))))))) rfl .nil)))))⟩
    rw [hg35]
    try rw [hg35] at hF; dsimp only [cond_true, cond_false] at hF
    refine D_val rfl (.on 22 rfl rfl rfl) (fun ha => V_move (v := (.int .i64 (k5 : Int))) (EN ha (.tmp rfl rfl) rfl)) ?_
    refine D_val rfl (.on 22 rfl rfl rfl) (fun ha => V_gtr (i := (k5 : Int)) (j := 0) (EN ha (.tmp rfl rfl) rfl) (EN ha (.int _ _) rfl)) ?_
    refine D_val rfl (.on 22 rfl rfl rfl) (fun ha => V_move (v := (.bool (decide ((0 : Int) < (k5 : Int))))) (EN ha (.tmp rfl rfl) rfl)) ?_
    rcases Bool.eq_false_or_eq_true (decide ((0 : Int) < (k5 : Int))) with hg36 | hg36
    · rw [hg36]
      try rw [hg36] at hF; dsimp only [cond_true, cond_false] at hF
      refine D_val rfl (.on 25 rfl rfl rfl) (fun ha => V_fieldAddr (off := 0) fd44_0 (EN ha (.tmp rfl rfl) rfl)) ?_
      refine D_at rfl (.on 25 rfl rfl rfl) (.t (.t (.t (.t (.t (.t .h)))))) rfl (fun ha hp => V_load (v := v2_0.v) ag42 (EN ha (.tmp rfl rfl) rfl) hp.2 rfl rfl) ?_
      refine D_val rfl (.on 25 rfl rfl rfl) (fun ha => V_move (v := (.int .i64 (k5 : Int))) (EN ha (.tmp rfl rfl) rfl)) ?_
      refine D_val rfl (.on 25 rfl rfl rfl) (fun ha => V_sub (i := (k5 : Int)) (j := 1) (EN ha (.tmp rfl rfl) rfl) (EN ha (.int _ _) rfl)) ?_
      obtain ⟨x37, hx38, hF⟩ := bind_some hF
      obtain ⟨hp39, hx40⟩ := ix_some hx38
      refine D_idx (a := x37) sl42 ty147.sz rfl (.on 25 rfl rfl rfl) (.tmp rfl rfl) (.tmp rfl rfl) rfl rfl (.t (.t (.t (.t (.t (.t (.t .h))))))) hp39 hx40 (fun k41 j42 => ?_)
      refine D_val rfl (.on 25 rfl rfl rfl) (fun ha => V_fieldAddr (off := 0) fd147_0 (EN ha (.tmp rfl rfl) rfl)) ?_
      refine D_ldA1 (ul147_0_105 x37) ag105 ty105.sz rfl rfl (.on 25 rfl rfl rfl) (.tmp rfl rfl) rfl .h la147_0_105 (fun p43 => ?_)
      refine D_val rfl (.on 25 rfl rfl rfl) (fun ha => V_fieldAddr (off := 0) fd147_0 (EN ha (.tmp rfl rfl) rfl)) ?_
      refine D_atO rfl (.on 25 rfl rfl rfl) (.t (.t .h)) (fun ha hp => V_loadA (s := 2) (l := [(.int .i64 x7.Access.Method), p28.1.v]) ag105 ty105.sz (EN ha (.tmp rfl rfl) rfl) hp.2 rfl (by decide) (Nat.le_of_ble_eq_true rfl) rfl) ?_
      obtain ⟨r44, hx45, hF⟩ := bind_some hF
      refine D_act0 rfl rfl (.on 25 rfl rfl rfl) (.rd .h rfl (.rd (.t (.t (.t .h))) rfl .nil)) (.dep rfl (.dep rfl .nil)) (fun ha => X_callS cf111 (.cons (EN ha (.tmp rfl rfl) rfl) (.cons (EN ha (.tmp rfl rfl) rfl) .nil)) (i_compareAccesses_ok x37.Access p43 x7.Access p28.1 _ hx45)) (fun _ => ?_)
      refine D_val rfl (.on 25 rfl rfl rfl) (fun ha => V_geq (i := r44) (j := 0) (EN ha (.tmp rfl rfl) rfl) (EN ha (.int _ _) rfl)) ?_
      refine D_val rfl (.on 22 rfl rfl rfl) (fun ha => V_pick (b := true) (u := (.bool (decide ((0 : Int) ≤ r44)))) (v := (.bool false)) (EN ha (.tmp rfl rfl) rfl) (EN ha (.tmp rfl rfl) rfl) (EN ha (.bool _) rfl)) ?_
      refine D_val rfl .no (fun ha => V_pick (b := false) (u := (.bool true)) (v := (.bool (decide ((0 : Int) ≤ r44)))) (EN ha (.tmp rfl rfl) rfl) (EN ha (.bool _) rfl) (EN ha (.tmp rfl rfl) rfl)) ?_
      refine D_nil ?_
      obtain rfl := Option.some.inj hF
      exact ⟨_, _, rfl, (EqL.cons rfl (EqL.cons rfl (EqL.cons rfl (EqL.cons rfl (EqL.cons rfl (EqL.cons rfl (EqL.cons rfl (EqL.nil)))))))).eq, (.sel (.rd (.t (.t (.t (.t (.t (.t .h)))))) rfl (.rd (.t (.t (.t (.t (.t (.t (.t .h))))))) rfl (.rd (.t (.t (.t (.t (.t (.t (.t (.t .h)))))))) rfl (.rd (.t (.t (.t (.t (.t (.t (.t (.t (.t .h))))))))) rfl .nil)))))⟩
    rw [hg36]
    try rw [hg36] at hF; dsimp only [cond_true, cond_false] at hF
    iterate 11 refine D_off 25 rfl rfl rfl rfl ?_
    refine D_val rfl (.on 22 rfl rfl rfl) (fun ha => V_pick (b := false) (u := undef) (v := (.bool false)) (EN ha (.tmp rfl rfl) rfl) (EN ha (.tmp rfl rfl) rfl) (EN ha (.bool _) rfl)) ?_
    refine D_val rfl .no (fun ha => V_pick (b := false) (u := (.bool true)) (v := (.bool false)) (EN ha (.tmp rfl rfl) rfl) (EN ha (.bool _) rfl) (EN ha (.tmp rfl rfl) rfl)) ?_
    refine D_nil ?_
    obtain rfl := Option.some.inj hF
    exact ⟨_, _, rfl, (EqL.cons rfl (EqL.cons rfl (EqL.cons rfl (EqL.cons rfl (EqL.cons rfl (EqL.cons rfl (EqL.cons rfl (EqL.nil)))))))).eq, (.sel (.rd (.t (.t (.t (.t .h)))) rfl (.rd (.t (.t (.t (.t (.t .h))))) rfl (.rd (.t (.t (.t (.t (.t (.t .h)))))) rfl (.rd (.t (.t (.t (.t (.t (.t (.t .h))))))) rfl .nil)))))⟩
  rintro _ _ ⟨c47, g50, rfl, rfl, hE⟩
  replace hF := hO31
  clear hO31
  try dsimp only at hF
  refine K_ent hE ?_
  refine CW_cond (b := c47) (.tmp rfl rfl) (fun hb49 => ?_) (fun hb49 => ?_)
  · rw [if_pos hb49] at hF
    refine K_region (C_val (V_assign (v := (.bool false)) (.bool _)) ?_)
    refine C_nil (CW_ret ?_)
    obtain rfl := Option.some.inj hF
    exact End_ret () (.tmp rfl rfl .nil) rfl (.sel .nil)
  rw [if_neg (by rw [hb49]; exact Bool.false_ne_true)] at hF
  refine CW_skip (CW_region (C_val (V_add (i := (k5 : Int)) (j := 1) (.tmp rfl rfl) (.int _ _)) ?_))
  refine Cm (.int .i64 (IntKind.i64.wrap ((k5 : Int) + 1))) rfl rfl ?_
  refine C_nil ?_
  have hw48 : IntKind.i64.wrap ((k5 : Int) + 1) = ((k5 + 1 : Nat) : Int) := by rw [wrap_in (by omega) (by omega)]; rfl
  rw [hw48]
  exact ⟨_, Nat.lt_succ_self _, _, k5 + 1, rest6, rfl, (EqL.cons rfl (EqL.cons rfl (EqL.cons rfl (EqL.cons rfl (EqL.cons rfl (EqL.cons rfl (EqL.nil))))))).eq, hd11, (.sel (.rd .h rfl (.rd (.t .h) rfl (.rd (.t (.t .h)) rfl (.rd (.t (.t (.t .h))) rfl .nil))))), hF⟩

/-! impl.IsMediator$1 -/
def i_IsMediator_1 (a_a : Access) (a_e1 : Mediator) : Option (Bool) :=
  (i_IsAccess a_e1.Schema a_e1.Methods a_a).bind fun r2 =>
  some (!r2)
theorem i_IsMediator_1_ok (a_a : Access) (v0_1 : Sv) (kc1 : Nat) (a_e1 : Mediator) (vc1_0 : Sv) (vc1_1 : Sv) (vc1_2 : Sv) (vc1_3 : Sv) (vc1_5 : Sv) (vc1_8 : Sv) (vc1_9 : Sv) (vc1_11 : Sv) (R : Bool) (hF : i_IsMediator_1 a_a a_e1 = some R) :
    Fw.Spec Tryz.prog 73 [(.agg [(.int .i64 a_a.Method), v0_1.v].toArray), (.pointer (some ⟨kc1, 0, some 0⟩))] [crd (RdS 3 rdInt) v0_1.v a_a.Values, cboR kc1 47 (.agg [vc1_0.v, vc1_1.v, vc1_2.v, vc1_3.v, (.int .i64 a_e1.Source.Version), vc1_5.v, (.int .i64 a_e1.Cache.Age), (.int .i64 a_e1.Now), vc1_8.v, vc1_9.v, (.int .i64 a_e1.Spent), vc1_11.v].toArray), crd (RdS 3 rdInt) vc1_0.v a_e1.Schema, crd (RdS 108 rd108) vc1_1.v a_e1.Methods, crd (RdS 110 rd110) vc1_2.v a_e1.Rules, crd (RdS 80 rd80) vc1_3.v a_e1.Source.Facts, crd (RdS 147 rd147) vc1_5.v a_e1.Cache.Entries, crd (RdS 105 rd105) vc1_8.v a_e1.Log, crd (RdS 3 rdInt) vc1_9.v a_e1.Times, crd (RdS 83 (RdS 22 (RdS 3 rdInt))) vc1_11.v a_e1.Results] (fun _ : Unit => (.bool R)) (fun _ => []) := by
  refine Spec_enter (n := 11) Tryz.func73 rfl rfl (rs := [.tmp 3]) rfl rfl rfl ?_
  intro H0 F0
  unfold i_IsMediator_1 at hF
  refine K_region (C_newR rfl (N_box (g := false) (v := (.agg [(.int .i64 a_a.Method), v0_1.v].toArray)) ty105.sz (.tmp rfl rfl) rfl) (fun k1 => ?_))
  refine C_val (V_assign (v := (.bool false)) (.bool _)) ?_
  refine C_nil (K_region (C_val (V_fieldAddr (off := 0) fd47_0 (.tmp rfl rfl)) ?_))
  refine C_at (.t (.t .h)) (fun hp => V_load (v := vc1_0.v) ag22 (.tmp rfl rfl) hp.2 rfl rfl) ?_
  refine C_val (V_fieldAddr (off := 1) fd47_1 (.tmp rfl rfl)) ?_
  refine C_at (.t (.t .h)) (fun hp => V_load (v := vc1_1.v) ag37 (.tmp rfl rfl) hp.2 rfl rfl) ?_
  refine C_at .h (fun hp => V_loadBox ag105 ty105.sz rfl (.tmp rfl rfl) hp.2 rfl) ?_
  obtain ⟨r2, hx3, hF⟩ := bind_some hF
  refine C_x0 (.rd (.t (.t (.t .h))) rfl (.rd (.t (.t (.t (.t .h)))) rfl (.rd (.t .h) rfl .nil))) (X_callS cf74 (.cons (.tmp rfl rfl) (.cons (.tmp rfl rfl) (.cons (.tmp rfl rfl) .nil))) (i_IsAccess_ok a_e1.Schema vc1_0 a_e1.Methods vc1_1 a_a v0_1 _ hx3)) (fun _ => ?_)
  refine C_val (V_not (b := r2) (.tmp rfl rfl)) ?_
  refine Ca (.bool (!r2)) rfl rfl ?_
  refine C_nil (CW_ret ?_)
  obtain rfl := Option.some.inj hF
  exact End_ret () (.tmp rfl rfl .nil) rfl (.sel .nil)

/-! impl.Access] -/
def g_slices_IndexFunc_impl_Access_impl_Access_iIsMediator1_L1 (a_e1 : Mediator) : List Access → Nat → Option (Int)
  | [], k4 => some (-1)
  | x6 :: rest5, k4 => (i_IsMediator_1 x6 a_e1).bind fun r16 =>
    if r16 then (
      some (k4 : Int))
    else (
      g_slices_IndexFunc_impl_Access_impl_Access_iIsMediator1_L1 a_e1 rest5 (k4 + 1))
def g_slices_IndexFunc_impl_Access_impl_Access_iIsMediator1 (a_s : List Access) (a_e1 : Mediator) : Option (Int) :=
  g_slices_IndexFunc_impl_Access_impl_Access_iIsMediator1_L1 a_e1 a_s 0
theorem g_slices_IndexFunc_impl_Access_impl_Access_iIsMediator1_ok (a_s : List Access) (v0_0 : Sv) (kc1 : Nat) (a_e1 : Mediator) (vc1_0 : Sv) (vc1_1 : Sv) (vc1_2 : Sv) (vc1_3 : Sv) (vc1_5 : Sv) (vc1_8 : Sv) (vc1_9 : Sv) (vc1_11 : Sv) (R : Int) (hF : g_slices_IndexFunc_impl_Access_impl_Access_iIsMediator1 a_s a_e1 = some R) :
    Fw.Spec Tryz.prog 112 [v0_0.v, (.func (.func 73) [].toArray [(.pointer (some ⟨kc1, 0, some 0⟩))].toArray)] [crd (RdS 105 rd105) v0_0.v a_s, cboR kc1 47 (.agg [vc1_0.v, vc1_1.v, vc1_2.v, vc1_3.v, (.int .i64 a_e1.Source.Version), vc1_5.v, (.int .i64 a_e1.Cache.Age), (.int .i64 a_e1.Now), vc1_8.v, vc1_9.v, (.int .i64 a_e1.Spent), vc1_11.v].toArray), crd (RdS 3 rdInt) vc1_0.v a_e1.Schema, crd (RdS 108 rd108) vc1_1.v a_e1.Methods, crd (RdS 110 rd110) vc1_2.v a_e1.Rules, crd (RdS 80 rd80) vc1_3.v a_e1.Source.Facts, crd (RdS 147 rd147) vc1_5.v a_e1.Cache.Entries, crd (RdS 105 rd105) vc1_8.v a_e1.Log, crd (RdS 3 rdInt) vc1_9.v a_e1.Times, crd (RdS 83 (RdS 22 (RdS 3 rdInt))) vc1_11.v a_e1.Results] (fun _ : Unit => (.int .i64 R)) (fun _ => []) := by
  refine Spec_enter (n := 19) Tryz.func112 rfl rfl (rs := [.tmp 4]) rfl rfl rfl ?_
  intro H0 F0
  unfold g_slices_IndexFunc_impl_Access_impl_Access_iIsMediator1 at hF
  refine K_region (C_val (V_assign (v := (.int .i64 0)) (.int _ _)) ?_)
  refine C_nil (K_in (K_region (Cm v0_0.v rfl rfl ?_)))
  refine C_at .h (fun hp => V_lenR (l := a_s.length) sl45 (.tmp rfl rfl) (crd_len hp)) ?_
  refine C_val (V_move (v := (.int .i64 0)) (.int _ _)) ?_
  refine C_nil (CW_block (CW_loop (m := a_s.length) (fun m2 f' cs' => ∃ (g : Fr) (k4 : Nat) (rest5 : List Access), m2 = rest5.length ∧ f' = updL g [(0, v0_0.v), (1, (.func (.func 73) [].toArray [(.pointer (some ⟨kc1, 0, some 0⟩))].toArray)), (7, (.int .i64 (a_s.length : Int))), (8, (.int .i64 (k4 : Int)))] ∧ List.drop k4 a_s = rest5 ∧ Ent cs' [crd (RdS 105 rd105) v0_0.v a_s, cboR kc1 47 (.agg [vc1_0.v, vc1_1.v, vc1_2.v, vc1_3.v, (.int .i64 a_e1.Source.Version), vc1_5.v, (.int .i64 a_e1.Cache.Age), (.int .i64 a_e1.Now), vc1_8.v, vc1_9.v, (.int .i64 a_e1.Spent), vc1_11.v].toArray), crd (RdS 3 rdInt) vc1_0.v a_e1.Schema, crd (RdS 108 rd108) vc1_1.v a_e1.Methods, crd (RdS 110 rd110) vc1_2.v a_e1.Rules, crd (RdS 80 rd80) vc1_3.v a_e1.Source.Facts, crd (RdS 147 rd147) vc1_5.v a_e1.Cache.Entries, crd (RdS 105 rd105) vc1_8.v a_e1.Log, crd (RdS 3 rdInt) vc1_9.v a_e1.Times, crd (RdS 83 (RdS 22 (RdS 3 rdInt))) vc1_11.v a_e1.Results] ∧ g_slices_IndexFunc_impl_Access_impl_Access_iIsMediator1_L1 a_e1 rest5 k4 = some R) ⟨_, 0, _, rfl, (EqL.cons rfl (EqL.cons rfl (EqL.cons rfl (EqL.cons rfl (EqL.nil))))).eq, rfl, (.sel (.rd .h rfl (.rd (.t .h) rfl (.rd (.t (.t .h)) rfl (.rd (.t (.t (.t .h))) rfl (.rd (.t (.t (.t (.t .h)))) rfl (.rd (.t (.t (.t (.t (.t .h))))) rfl (.rd (.t (.t (.t (.t (.t (.t .h)))))) rfl (.rd (.t (.t (.t (.t (.t (.t (.t .h))))))) rfl (.rd (.t (.t (.t (.t (.t (.t (.t (.t .h)))))))) rfl (.rd (.t (.t (.t (.t (.t (.t (.t (.t (.t .h))))))))) rfl .nil))))))))))), hF⟩ ?_))
  clear hF
  rintro m2 _ _ ⟨g3, k4, rest5, rfl, rfl, hd7, hE, hF⟩
  refine K_ent hE ?_
  clear hE
  refine K_pure (c := crd (RdS 105 rd105) v0_0.v a_s) .h crd_bound (fun hbd12 => ?_)
  rcases rest5 with _ | ⟨x6, rest5⟩
  · have hk8 := List.drop_eq_nil_iff.1 hd7
    have hfe11 : (decide (((k4 : Int) : Int) < (a_s.length : Int))) = false := decide_eq_false (by omega)
    rw [g_slices_IndexFunc_impl_Access_impl_Access_iIsMediator1_L1] at hF
    refine K_region (C_val (V_lss (i := (k4 : Int)) (j := (a_s.length : Int)) (.tmp rfl rfl) (.tmp rfl rfl)) ?_)
    refine C_nil (K_in (CW_cond (b := (decide (((k4 : Int) : Int) < (a_s.length : Int)))) (.tmp rfl rfl) (fun hb => absurd (hfe11.symm.trans hb) (by decide)) (fun _ => ?_)))
    refine CW_exit ?_
    iterate 2 refine CThen_exit ?_
    refine CIn_self (K_region (C_val (V_assign (v := (.int .i64 (-1))) (.int _ _)) ?_))
    refine C_nil (CW_ret ?_)
    obtain rfl := Option.some.inj hF
    exact End_ret () (.tmp rfl rfl .nil) rfl (.sel .nil)
  obtain ⟨hk8, hx9, hd10⟩ := drop_cons hd7
  have hfe11 : (decide (((k4 : Int) : Int) < (a_s.length : Int))) = true := decide_eq_true (by omega)
  rw [g_slices_IndexFunc_impl_Access_impl_Access_iIsMediator1_L1] at hF
  refine K_region (C_val (V_lss (i := (k4 : Int)) (j := (a_s.length : Int)) (.tmp rfl rfl) (.tmp rfl rfl)) ?_)
  refine C_nil (K_in (CW_cond (b := (decide (((k4 : Int) : Int) < (a_s.length : Int)))) (.tmp rfl rfl) (fun _ => ?_) (fun hb => absurd (hfe11.symm.trans hb) (by decide))))
  refine CW_skip (K_block (K_region (Cm (.int .i64 (k4 : Int)) rfl rfl ?_)))
  refine Ca (.int .i64 (k4 : Int)) rfl rfl ?_
  refine C_nil (K_region (Cm (.func (.func 73) [].toArray [(.pointer (some ⟨kc1, 0, some 0⟩))].toArray) rfl rfl ?_))
  refine Cm v0_0.v rfl rfl ?_
  refine Cm (.int .i64 (k4 : Int)) rfl rfl ?_
  refine C_idx (a := x6) sl45 ty105.sz (.tmp rfl rfl) (.tmp rfl rfl) .h (Int.natCast_nonneg k4) hx9 (fun k13 j14 => ?_)
  refine C_ldA1 (ul105_0_105 x6) ag105 ty105.sz rfl (.tmp rfl rfl) .h la105_0_105 (fun p15 => ?_)
  obtain ⟨r16, hx17, hF⟩ := bind_some hF
  refine C_x0 (.rd .h rfl (.rd (.t (.t (.t .h))) rfl (.rd (.t (.t (.t (.t .h)))) rfl (.rd (.t (.t (.t (.t (.t .h))))) rfl (.rd (.t (.t (.t (.t (.t (.t .h)))))) rfl (.rd (.t (.t (.t (.t (.t (.t (.t .h))))))) rfl (.rd (.t (.t (.t (.t (.t (.t (.t (.t .h)))))))) rfl (.rd (.t (.t (.t (.t (.t (.t (.t (.t (.t .h))))))))) rfl (.rd (.t (.t (.t (.t (.t (.t (.t (.t (.t (.t .h)))))))))) rfl (.rd (.t (.t (.t (.t (.t (.t (.t (.t (.t (.t (.t .h))))))))))) rfl .nil)))))))))) (X_callCS cf73 (.tmp rfl rfl) (.cons (.tmp rfl rfl) .nil) (i_IsMediator_1_ok x6 p15 kc1 a_e1 vc1_0 vc1_1 vc1_2 vc1_3 vc1_5 vc1_8 vc1_9 vc1_11 _ hx17)) (fun _ => ?_)
  refine C_nil (CW_cond (b := r16) (.tmp rfl rfl) (fun hb20 => ?_) (fun hb20 => ?_))
  · rw [if_pos hb20] at hF
    refine K_region (Cm (.int .i64 (k4 : Int)) rfl rfl ?_)
    refine Ca (.int .i64 (k4 : Int)) rfl rfl ?_
    refine C_nil (CW_ret ?_)
    obtain rfl := Option.some.inj hF
    exact End_ret () (.tmp rfl rfl .nil) rfl (.sel .nil)
  rw [if_neg (by rw [hb20]; exact Bool.false_ne_true)] at hF
  refine CW_skip (CW_region (C_val (V_add (i := (k4 : Int)) (j := 1) (.tmp rfl rfl) (.int _ _)) ?_))
  refine Cm (.int .i64 (IntKind.i64.wrap ((k4 : Int) + 1))) rfl rfl ?_
  refine C_nil ?_
  have hw19 : IntKind.i64.wrap ((k4 : Int) + 1) = ((k4 + 1 : Nat) : Int) := by rw [wrap_in (by omega) (by omega)]; rfl
  rw [hw19]
  exact ⟨_, Nat.lt_succ_self _, _, k4 + 1, rest5, rfl, (EqL.cons rfl (EqL.cons rfl (EqL.cons rfl (EqL.cons rfl (EqL.nil))))).eq, hd10, (.sel (.rd (.t (.t .h)) rfl (.rd (.t (.t (.t .h))) rfl (.rd (.t (.t (.t (.t .h)))) rfl (.rd (.t (.t (.t (.t (.t .h))))) rfl (.rd (.t (.t (.t (.t (.t (.t .h)))))) rfl (.rd (.t (.t (.t (.t (.t (.t (.t .h))))))) rfl (.rd (.t (.t (.t (.t (.t (.t (.t (.t .h)))))))) rfl (.rd (.t (.t (.t (.t (.t (.t (.t (.t (.t .h))))))))) rfl (.rd (.t (.t (.t (.t (.t (.t (.t (.t (.t (.t .h)))))))))) rfl (.rd (.t (.t (.t (.t (.t (.t (.t (.t (.t (.t (.t .h))))))))))) rfl .nil))))))))))), hF⟩

/-! impl.Access] -/
def g_slices_ContainsFunc_impl_Access_impl_Access_iIsMediator1 (a_s : List Access) (a_e1 : Mediator) : Option (Bool) :=
  (g_slices_IndexFunc_impl_Access_impl_Access_iIsMediator1 a_s a_e1).bind fun r1 =>
  some (decide ((0 : Int) ≤ r1))
theorem g_slices_ContainsFunc_impl_Access_impl_Access_iIsMediator1_ok (a_s : List Access) (v0_0 : Sv) (kc1 : Nat) (a_e1 : Mediator) (vc1_0 : Sv) (vc1_1 : Sv) (vc1_2 : Sv) (vc1_3 : Sv) (vc1_5 : Sv) (vc1_8 : Sv) (vc1_9 : Sv) (vc1_11 : Sv) (R : Bool) (hF : g_slices_ContainsFunc_impl_Access_impl_Access_iIsMediator1 a_s a_e1 = some R) :
    Fw.Spec Tryz.prog 72 [v0_0.v, (.func (.func 73) [].toArray [(.pointer (some ⟨kc1, 0, some 0⟩))].toArray)] [crd (RdS 105 rd105) v0_0.v a_s, cboR kc1 47 (.agg [vc1_0.v, vc1_1.v, vc1_2.v, vc1_3.v, (.int .i64 a_e1.Source.Version), vc1_5.v, (.int .i64 a_e1.Cache.Age), (.int .i64 a_e1.Now), vc1_8.v, vc1_9.v, (.int .i64 a_e1.Spent), vc1_11.v].toArray), crd (RdS 3 rdInt) vc1_0.v a_e1.Schema, crd (RdS 108 rd108) vc1_1.v a_e1.Methods, crd (RdS 110 rd110) vc1_2.v a_e1.Rules, crd (RdS 80 rd80) vc1_3.v a_e1.Source.Facts, crd (RdS 147 rd147) vc1_5.v a_e1.Cache.Entries, crd (RdS 105 rd105) vc1_8.v a_e1.Log, crd (RdS 3 rdInt) vc1_9.v a_e1.Times, crd (RdS 83 (RdS 22 (RdS 3 rdInt))) vc1_11.v a_e1.Results] (fun _ : Unit => (.bool R)) (fun _ => []) := by
  refine Spec_enter (n := 9) Tryz.func72 rfl rfl (rs := [.tmp 4]) rfl rfl rfl ?_
  intro H0 F0
  unfold g_slices_ContainsFunc_impl_Access_impl_Access_iIsMediator1 at hF
  refine K_region (C_val (V_assign (v := (.bool false)) (.bool _)) ?_)
  refine C_nil (K_region (Cm v0_0.v rfl rfl ?_))
  refine Cm (.func (.func 73) [].toArray [(.pointer (some ⟨kc1, 0, some 0⟩))].toArray) rfl rfl ?_
  obtain ⟨r1, hx2, hF⟩ := bind_some hF
  refine C_x0 (.rd .h rfl (.rd (.t .h) rfl (.rd (.t (.t .h)) rfl (.rd (.t (.t (.t .h))) rfl (.rd (.t (.t (.t (.t .h)))) rfl (.rd (.t (.t (.t (.t (.t .h))))) rfl (.rd (.t (.t (.t (.t (.t (.t .h)))))) rfl (.rd (.t (.t (.t (.t (.t (.t (.t .h))))))) rfl (.rd (.t (.t (.t (.t (.t (.t (.t (.t .h)))))))) rfl (.rd (.t (.t (.t (.t (.t (.t (.t (.t (.t .h))))))))) rfl .nil)))))))))) (X_callS cf112 (.cons (.tmp rfl rfl) (.cons (.tmp rfl rfl) .nil)) (g_slices_IndexFunc_impl_Access_impl_Access_iIsMediator1_ok a_s v0_0 kc1 a_e1 vc1_0 vc1_1 vc1_2 vc1_3 vc1_5 vc1_8 vc1_9 vc1_11 _ hx2)) (fun _ => ?_)
  refine C_val (V_geq (i := r1) (j := 0) (.tmp rfl rfl) (.int _ _)) ?_
  refine Ca (.bool (decide ((0 : Int) ≤ r1))) rfl rfl ?_
  refine C_nil (CW_ret ?_)
  obtain rfl := Option.some.inj hF
  exact End_ret () (.tmp rfl rfl .nil) rfl (.sel .nil)

/-! cmp.Less[int] -/
def g_cmp_Less_int (a_x : Int) (a_y : Int) : Option (Bool) :=
  ((g_cmp_isNaN_int a_x).bind fun r3 =>
    bif r3 then ((g_cmp_isNaN_int a_y).bind fun r7 =>
      bif (!r7) then (some true)
      else (some (decide ((a_x : Int) < a_y))))
    else (some (decide ((a_x : Int) < a_y)))).bind fun o1 =>
  match o1 with
  | c11 => some c11
theorem g_cmp_Less_int_ok (a_x : Int) (a_y : Int) (R : Bool) (hF : g_cmp_Less_int a_x a_y = some R) :
    Fw.Spec Tryz.prog 140 [(.int .i64 a_x), (.int .i64 a_y)] [] (fun _ : Unit => (.bool R)) (fun _ => []) := by
  refine Spec_enter (n := 17) Tryz.func140 rfl rfl (rs := [.tmp 4]) rfl rfl rfl ?_
  intro H0 F0
  unfold g_cmp_Less_int at hF
  refine K_region (C_val (V_assign (v := (.bool false)) (.bool _)) ?_)
  refine C_nil ?_
  obtain ⟨o1, hio1, hO2⟩ := bind_some hF
  refine K_region (C_cut (fun f' cs' => ∃ (c11 : Bool) (g : Fr), c11 = o1 ∧ f' = updL g [(4, (.bool c11))] ∧ Ent cs' []) ?_ ?_)
  · replace hF := hio1
    refine Cm (.int .i64 a_x) rfl rfl ?_
    obtain ⟨r3, hx4, hF⟩ := bind_some hF
    refine C_x0 .nil (X_callS cf152 (.cons (.tmp rfl rfl) .nil) (g_cmp_isNaN_int_ok a_x _ hx4)) (fun _ => ?_)
    refine Cm (.bool r3) rfl rfl ?_
    rcases Bool.eq_false_or_eq_true r3 with hg6 | hg6
    · rw [hg6]
      try rw [hg6] at hF; dsimp only [cond_true, cond_false] at hF
      refine C_on (t := 7) rfl rfl rfl ?_
      refine Cm (.int .i64 a_y) rfl rfl ?_
      refine C_on (t := 7) rfl rfl rfl ?_
      obtain ⟨r7, hx8, hF⟩ := bind_some hF
      refine C_x0 .nil (X_callS cf152 (.cons (.tmp rfl rfl) .nil) (g_cmp_isNaN_int_ok a_y _ hx8)) (fun _ => ?_)
      refine C_on (t := 7) rfl rfl rfl ?_
      refine C_val (V_not (b := r7) (.tmp rfl rfl)) ?_
      refine C_val (V_pick (b := true) (u := (.bool (!r7))) (v := (.bool false)) (.tmp rfl rfl) (.tmp rfl rfl) (.bool _)) ?_
      refine Cm (.bool (!r7)) rfl rfl ?_
      rcases Bool.eq_false_or_eq_true (!r7) with hg10 | hg10
      · rw [hg10]
        try rw [hg10] at hF; dsimp only [cond_true, cond_false] at hF
        iterate 3 refine C_off (t := 12) rfl rfl rfl ?_
        refine C_val (V_pick (b := true) (u := (.bool true)) (v := undef) (.tmp rfl rfl) (.bool _) (.tmp rfl rfl)) ?_
        refine Ca (.bool true) rfl rfl ?_
        refine C_nil ?_
        obtain rfl := Option.some.inj hF
        exact ⟨_, _, rfl, (EqL.cons rfl (EqL.nil)).eq, (.sel .nil)⟩
      rw [hg10]
      try rw [hg10] at hF; dsimp only [cond_true, cond_false] at hF
      refine C_on (t := 12) rfl rfl rfl ?_
      refine Cm (.int .i64 a_x) rfl rfl ?_
      refine C_on (t := 12) rfl rfl rfl ?_
      refine Cm (.int .i64 a_y) rfl rfl ?_
      refine C_on (t := 12) rfl rfl rfl ?_
      refine C_val (V_lss (i := a_x) (j := a_y) (.tmp rfl rfl) (.tmp rfl rfl)) ?_
      refine C_val (V_pick (b := false) (u := (.bool true)) (v := (.bool (decide ((a_x : Int) < a_y)))) (.tmp rfl rfl) (.bool _) (.tmp rfl rfl)) ?_
      refine Ca (.bool (decide ((a_x : Int) < a_y))) rfl rfl ?_
      refine C_nil ?_
      obtain rfl := Option.some.inj hF
      exact ⟨_, _, rfl, (EqL.cons rfl (EqL.nil)).eq, (.sel .nil)⟩
    rw [hg6]
    try rw [hg6] at hF; dsimp only [cond_true, cond_false] at hF
    iterate 3 refine C_off (t := 7) rfl rfl rfl ?_
    refine C_val (V_pick (b := false) (u := undef) (v := (.bool false)) (.tmp rfl rfl) (.tmp rfl rfl) (.bool _)) ?_
    refine Cm (.bool false) rfl rfl ?_
    refine C_on (t := 12) rfl rfl rfl ?_
    refine Cm (.int .i64 a_x) rfl rfl ?_
    refine C_on (t := 12) rfl rfl rfl ?_
    refine Cm (.int .i64 a_y) rfl rfl ?_
    refine C_on (t := 12) rfl rfl rfl ?_
    refine C_val (V_lss (i := a_x) (j := a_y) (.tmp rfl rfl) (.tmp rfl rfl)) ?_
    refine C_val (V_pick (b := false) (u := (.bool true)) (v := (.bool (decide ((a_x : Int) < a_y)))) (.tmp rfl rfl) (.bool _) (.tmp rfl rfl)) ?_
    refine Ca (.bool (decide ((a_x : Int) < a_y))) rfl rfl ?_
    refine C_nil ?_
    obtain rfl := Option.some.inj hF
    exact ⟨_, _, rfl, (EqL.cons rfl (EqL.nil)).eq, (.sel .nil)⟩
  rintro _ _ ⟨c11, g12, rfl, rfl, hE⟩
  replace hF := hO2
  clear hO2
  try dsimp only at hF
  refine K_ent hE ?_
  refine CW_ret ?_
  obtain rfl := Option.some.inj hF
  exact End_ret () (.tmp rfl rfl .nil) rfl (.sel .nil)

/-! slices.IsSorted[[]int,int] -/
def g_slices_IsSorted_int_int_L1 (a_x : List Int) : Nat → Int → Option (Bool)
  | 0, _ => none
  | m2 + 1, c1 => if (decide ((0 : Int) < c1)) then (
      (ix a_x c1).bind fun x10 =>
      (ix a_x (IntKind.i64.wrap (c1 - 1))).bind fun x16 =>
      (g_cmp_Less_int x10 x16).bind fun r22 =>
      if r22 then (
        some false)
      else (
        g_slices_IsSorted_int_int_L1 a_x m2 (IntKind.i64.wrap (c1 - 1))))
    else (
      some true)
def g_slices_IsSorted_int_int (a_x : List Int) : Option (Bool) :=
  g_slices_IsSorted_int_int_L1 a_x (((IntKind.i64.wrap ((a_x.length : Int) - 1)) - 0).toNat + 2) (IntKind.i64.wrap ((a_x.length : Int) - 1))
theorem g_slices_IsSorted_int_int_ok (a_x : List Int) (v0_0 : Sv) (R : Bool) (hF : g_slices_IsSorted_int_int a_x = some R) :
    Fw.Spec Tryz.prog 113 [v0_0.v] [crd (RdS 3 rdInt) v0_0.v a_x] (fun _ : Unit => (.bool R)) (fun _ => []) := by
  refine Spec_enter (n := 21) Tryz.func113 rfl rfl (rs := [.tmp 2]) rfl rfl rfl ?_
  intro H0 F0
  unfold g_slices_IsSorted_int_int at hF
  refine K_region (C_val (V_assign (v := (.bool false)) (.bool _)) ?_)
  refine C_nil (K_in (K_region (Cm v0_0.v rfl rfl ?_)))
  refine C_at .h (fun hp => V_lenR (l := a_x.length) sl22 (.tmp rfl rfl) (crd_len hp)) ?_
  refine C_val (V_sub (i := (a_x.length : Int)) (j := 1) (.tmp rfl rfl) (.int _ _)) ?_
  refine Ca (.int .i64 (IntKind.i64.wrap ((a_x.length : Int) - 1))) rfl rfl ?_
  refine C_nil (CW_block (CW_loop (m := (((IntKind.i64.wrap ((a_x.length : Int) - 1)) - 0).toNat + 2)) (fun m2 f' cs' => ∃ (g : Fr) (c1 : Int), f' = updL g [(0, v0_0.v), (3, (.int .i64 c1))] ∧ Ent cs' [crd (RdS 3 rdInt) v0_0.v a_x] ∧ g_slices_IsSorted_int_int_L1 a_x m2 c1 = some R) ⟨_, _, (EqL.cons rfl (EqL.cons rfl (EqL.nil))).eq, (.sel (.rd .h rfl .nil)), hF⟩ ?_))
  clear hF
  rintro m2 _ _ ⟨g3, c1, rfl, hE, hF⟩
  refine K_ent hE ?_
  clear hE
  rcases m2 with _ | m2
  · rw [g_slices_IsSorted_int_int_L1] at hF
    exact absurd hF (by simp)
  rw [g_slices_IsSorted_int_int_L1] at hF
  refine K_in (K_region (Cm (.int .i64 c1) rfl rfl ?_))
  refine C_val (V_gtr (i := c1) (j := 0) (.tmp rfl rfl) (.int _ _)) ?_
  refine C_nil (CW_cond (b := (decide ((0 : Int) < c1))) (.tmp rfl rfl) (fun hb26 => ?_) (fun hb26 => ?_))
  · rw [if_pos hb26] at hF
    refine CW_skip (K_block (K_draw [0, 1, 2, 3, 4, 5, 6, 7, 8, 9] [0, 0, 3, 7, 0, 0, 32, 112, 240, 511] [9] mixed (by decide +kernel) ?_))
    refine Dm v0_0.v rfl rfl rfl rfl ?_
    refine Dm (.int .i64 c1) rfl rfl rfl rfl ?_
    obtain ⟨x10, hx11, hF⟩ := bind_some hF
    obtain ⟨hp12, hx13⟩ := ix_some hx11
    refine D_idx (a := x10) sl22 ty3.sz rfl .no (.tmp rfl rfl) (.tmp rfl rfl) rfl rfl .h hp12 hx13 (fun k14 j15 => ?_)
    refine D_ldS (w := (.int .i64 x10)) ag3 rfl .no (.tmp rfl rfl) rfl .h ls3_0 ?_
    refine Dm v0_0.v rfl rfl rfl rfl ?_
    refine Dm (.int .i64 c1) rfl rfl rfl rfl ?_
    refine D_val rfl .no (fun ha => V_sub (i := c1) (j := 1) (EN ha (.tmp rfl rfl) rfl) (EN ha (.int _ _) rfl)) ?_
    obtain ⟨x16, hx17, hF⟩ := bind_some hF
    obtain ⟨hp18, hx19⟩ := ix_some hx17
    refine D_idx (a := x16) sl22 ty3.sz rfl .no (.tmp rfl rfl) (.tmp rfl rfl) rfl rfl (.t .h) hp18 hx19 (fun k20 j21 => ?_)
    refine D_ldS (w := (.int .i64 x16)) ag3 rfl .no (.tmp rfl rfl) rfl .h ls3_0 ?_
    obtain ⟨r22, hx23, hF⟩ := bind_some hF
    refine D_act0 rfl rfl .no .nil .nil (fun ha => X_callS cf140 (.cons (EN ha (.tmp rfl rfl) rfl) (.cons (EN ha (.tmp rfl rfl) rfl) .nil)) (g_cmp_Less_int_ok x10 x16 _ hx23)) (fun _ => ?_)
    refine D_nil (CW_cond (b := r22) (.tmp rfl rfl) (fun hb25 => ?_) (fun hb25 => ?_))
    · rw [if_pos hb25] at hF
      refine K_region (C_val (V_assign (v := (.bool false)) (.bool _)) ?_)
      refine C_nil (CW_ret ?_)
      obtain rfl := Option.some.inj hF
      exact End_ret () (.tmp rfl rfl .nil) rfl (.sel .nil)
    rw [if_neg (by rw [hb25]; exact Bool.false_ne_true)] at hF
    refine CW_skip (CW_region (Cm (.int .i64 c1) rfl rfl ?_))
    refine C_val (V_sub (i := c1) (j := 1) (.tmp rfl rfl) (.int _ _)) ?_
    refine Ca (.int .i64 (IntKind.i64.wrap (c1 - 1))) rfl rfl ?_
    refine C_nil ?_
    exact ⟨m2, Nat.lt_succ_self _, _, _, (EqL.cons rfl (EqL.cons rfl (EqL.nil))).eq, (.sel (.rd (.t (.t .h)) rfl .nil)), hF⟩
  rw [if_neg (by rw [hb26]; exact Bool.false_ne_true)] at hF
  refine CW_exit ?_
  iterate 2 refine CThen_exit ?_
  refine CIn_self (K_region (C_val (V_assign (v := (.bool true)) (.bool _)) ?_))
  refine C_nil (CW_ret ?_)
  obtain rfl := Option.some.inj hF
  exact End_ret () (.tmp rfl rfl .nil) rfl (.sel .nil)

/-! impl.areTimes$1 -/
def i_areTimes_1 (a_t : Int) : Option (Bool) :=
  (i_isTime a_t).bind fun r1 =>
  some (!r1)
theorem i_areTimes_1_ok (a_t : Int) (R : Bool) (hF : i_areTimes_1 a_t = some R) :
    Fw.Spec Tryz.prog 115 [(.int .i64 a_t)] [] (fun _ : Unit => (.bool R)) (fun _ => []) := by
  refine Spec_enter (n := 6) Tryz.func115 rfl rfl (rs := [.tmp 2]) rfl rfl rfl ?_
  intro H0 F0
  unfold i_areTimes_1 at hF
  refine K_region (C_val (V_assign (v := (.bool false)) (.bool _)) ?_)
  refine C_nil (K_region (Cm (.int .i64 a_t) rfl rfl ?_))
  obtain ⟨r1, hx2, hF⟩ := bind_some hF
  refine C_x0 .nil (X_callS cf71 (.cons (.tmp rfl rfl) .nil) (i_isTime_ok a_t _ hx2)) (fun _ => ?_)
  refine C_val (V_not (b := r1) (.tmp rfl rfl)) ?_
  refine Ca (.bool (!r1)) rfl rfl ?_
  refine C_nil (CW_ret ?_)
  obtain rfl := Option.some.inj hF
  exact End_ret () (.tmp rfl rfl .nil) rfl (.sel .nil)

/-! slices.IndexFunc[[]int,int] -/
def g_slices_IndexFunc_int_int_iareTimes1_L1 : List Int → Nat → Option (Int)
  | [], k4 => some (-1)
  | x6 :: rest5, k4 => (i_areTimes_1 x6).bind fun r15 =>
    if r15 then (
      some (k4 : Int))
    else (
      g_slices_IndexFunc_int_int_iareTimes1_L1 rest5 (k4 + 1))
def g_slices_IndexFunc_int_int_iareTimes1 (a_s : List Int) : Option (Int) :=
  g_slices_IndexFunc_int_int_iareTimes1_L1 a_s 0
theorem g_slices_IndexFunc_int_int_iareTimes1_ok (a_s : List Int) (v0_0 : Sv) (R : Int) (hF : g_slices_IndexFunc_int_int_iareTimes1 a_s = some R) :
    Fw.Spec Tryz.prog 141 [v0_0.v, (.func (.func 115) [].toArray [].toArray)] [crd (RdS 3 rdInt) v0_0.v a_s] (fun _ : Unit => (.int .i64 R)) (fun _ => []) := by
  refine Spec_enter (n := 19) Tryz.func141 rfl rfl (rs := [.tmp 4]) rfl rfl rfl ?_
  intro H0 F0
  unfold g_slices_IndexFunc_int_int_iareTimes1 at hF
  refine K_region (C_val (V_assign (v := (.int .i64 0)) (.int _ _)) ?_)
  refine C_nil (K_in (K_region (Cm v0_0.v rfl rfl ?_)))
  refine C_at .h (fun hp => V_lenR (l := a_s.length) sl22 (.tmp rfl rfl) (crd_len hp)) ?_
  refine C_val (V_move (v := (.int .i64 0)) (.int _ _)) ?_
  refine C_nil (CW_block (CW_loop (m := a_s.length) (fun m2 f' cs' => ∃ (g : Fr) (k4 : Nat) (rest5 : List Int), m2 = rest5.length ∧ f' = updL g [(0, v0_0.v), (1, (.func (.func 115) [].toArray [].toArray)), (7, (.int .i64 (a_s.length : Int))), (8, (.int .i64 (k4 : Int)))] ∧ List.drop k4 a_s = rest5 ∧ Ent cs' [crd (RdS 3 rdInt) v0_0.v a_s] ∧ g_slices_IndexFunc_int_int_iareTimes1_L1 rest5 k4 = some R) ⟨_, 0, _, rfl, (EqL.cons rfl (EqL.cons rfl (EqL.cons rfl (EqL.cons rfl (EqL.nil))))).eq, rfl, (.sel (.rd .h rfl .nil)), hF⟩ ?_))
  clear hF
  rintro m2 _ _ ⟨g3, k4, rest5, rfl, rfl, hd7, hE, hF⟩
  refine K_ent hE ?_
  clear hE
  refine K_pure (c := crd (RdS 3 rdInt) v0_0.v a_s) .h crd_bound (fun hbd12 => ?_)
  rcases rest5 with _ | ⟨x6, rest5⟩
  · have hk8 := List.drop_eq_nil_iff.1 hd7
    have hfe11 : (decide (((k4 : Int) : Int) < (a_s.length : Int))) = false := decide_eq_false (by omega)
    rw [g_slices_IndexFunc_int_int_iareTimes1_L1] at hF
    refine K_region (C_val (V_lss (i := (k4 : Int)) (j := (a_s.length : Int)) (.tmp rfl rfl) (.tmp rfl rfl)) ?_)
    refine C_nil (K_in (CW_cond (b := (decide (((k4 : Int) : Int) < (a_s.length : Int)))) (.tmp rfl rfl) (fun hb => absurd (hfe11.symm.trans hb) (by decide)) (fun _ => ?_)))
    refine CW_exit ?_
    iterate 2 refine CThen_exit ?_
    refine CIn_self (K_region (C_val (V_assign (v := (.int .i64 (-1))) (.int _ _)) ?_))
    refine C_nil (CW_ret ?_)
    obtain rfl := Option.some.inj hF
    exact End_ret () (.tmp rfl rfl .nil) rfl (.sel .nil)
  obtain ⟨hk8, hx9, hd10⟩ := drop_cons hd7
  have hfe11 : (decide (((k4 : Int) : Int) < (a_s.length : Int))) = true := decide_eq_true (by omega)
  rw [g_slices_IndexFunc_int_int_iareTimes1_L1] at hF
  refine K_region (C_val (V_lss (i := (k4 : Int)) (j := (a_s.length : Int)) (.tmp rfl rfl) (.tmp rfl rfl)) ?_)
  refine C_nil (K_in (CW_cond (b := (decide (((k4 : Int) : Int) < (a_s.length : Int)))) (.tmp rfl rfl) (fun _ => ?_) (fun hb => absurd (hfe11.symm.trans hb) (by decide))))
  refine CW_skip (K_block (K_region (Cm (.int .i64 (k4 : Int)) rfl rfl ?_)))
  refine Ca (.int .i64 (k4 : Int)) rfl rfl ?_
  refine C_nil (K_region (Cm (.func (.func 115) [].toArray [].toArray) rfl rfl ?_))
  refine Cm v0_0.v rfl rfl ?_
  refine Cm (.int .i64 (k4 : Int)) rfl rfl ?_
  refine C_idx (a := x6) sl22 ty3.sz (.tmp rfl rfl) (.tmp rfl rfl) .h (Int.natCast_nonneg k4) hx9 (fun k13 j14 => ?_)
  refine C_ldS (w := (.int .i64 x6)) ag3 (.tmp rfl rfl) .h ls3_0 ?_
  obtain ⟨r15, hx16, hF⟩ := bind_some hF
  refine C_x0 .nil (X_callCS cf115 (.tmp rfl rfl) (.cons (.tmp rfl rfl) .nil) (i_areTimes_1_ok x6 _ hx16)) (fun _ => ?_)
  refine C_nil (CW_cond (b := r15) (.tmp rfl rfl) (fun hb19 => ?_) (fun hb19 => ?_))
  · rw [if_pos hb19] at hF
    refine K_region (Cm (.int .i64 (k4 : Int)) rfl rfl ?_)
    refine Ca (.int .i64 (k4 : Int)) rfl rfl ?_
    refine C_nil (CW_ret ?_)
    obtain rfl := Option.some.inj hF
    exact End_ret () (.tmp rfl rfl .nil) rfl (.sel .nil)
  rw [if_neg (by rw [hb19]; exact Bool.false_ne_true)] at hF
  refine CW_skip (CW_region (C_val (V_add (i := (k4 : Int)) (j := 1) (.tmp rfl rfl) (.int _ _)) ?_))
  refine Cm (.int .i64 (IntKind.i64.wrap ((k4 : Int) + 1))) rfl rfl ?_
  refine C_nil ?_
  have hw18 : IntKind.i64.wrap ((k4 : Int) + 1) = ((k4 + 1 : Nat) : Int) := by rw [wrap_in (by omega) (by omega)]; rfl
  rw [hw18]
  exact ⟨_, Nat.lt_succ_self _, _, k4 + 1, rest5, rfl, (EqL.cons rfl (EqL.cons rfl (EqL.cons rfl (EqL.cons rfl (EqL.nil))))).eq, hd10, (.sel (.rd (.t .h) rfl .nil)), hF⟩

/-! slices.ContainsFunc[[]int,int] -/
def g_slices_ContainsFunc_int_int_iareTimes1 (a_s : List Int) : Option (Bool) :=
  (g_slices_IndexFunc_int_int_iareTimes1 a_s).bind fun r1 =>
  some (decide ((0 : Int) ≤ r1))
theorem g_slices_ContainsFunc_int_int_iareTimes1_ok (a_s : List Int) (v0_0 : Sv) (R : Bool) (hF : g_slices_ContainsFunc_int_int_iareTimes1 a_s = some R) :
    Fw.Spec Tryz.prog 114 [v0_0.v, (.func (.func 115) [].toArray [].toArray)] [crd (RdS 3 rdInt) v0_0.v a_s] (fun _ : Unit => (.bool R)) (fun _ => []) := by
  refine Spec_enter (n := 9) Tryz.func114 rfl rfl (rs := [.tmp 4]) rfl rfl rfl ?_
  intro H0 F0
  unfold g_slices_ContainsFunc_int_int_iareTimes1 at hF
  refine K_region (C_val (V_assign (v := (.bool false)) (.bool _)) ?_)
  refine C_nil (K_region (Cm v0_0.v rfl rfl ?_))
  refine Cm (.func (.func 115) [].toArray [].toArray) rfl rfl ?_
  obtain ⟨r1, hx2, hF⟩ := bind_some hF
  refine C_x0 (.rd .h rfl .nil) (X_callS cf141 (.cons (.tmp rfl rfl) (.cons (.tmp rfl rfl) .nil)) (g_slices_IndexFunc_int_int_iareTimes1_ok a_s v0_0 _ hx2)) (fun _ => ?_)
  refine C_val (V_geq (i := r1) (j := 0) (.tmp rfl rfl) (.int _ _)) ?_
  refine Ca (.bool (decide ((0 : Int) ≤ r1))) rfl rfl ?_
  refine C_nil (CW_ret ?_)
  obtain rfl := Option.some.inj hF
  exact End_ret () (.tmp rfl rfl .nil) rfl (.sel .nil)

/-! impl.areTimes -/
def i_areTimes (a_l : List Int) : Option (Bool) :=
  ((g_slices_IsSorted_int_int a_l).bind fun r3 =>
    bif r3 then ((g_slices_ContainsFunc_int_int_iareTimes1 a_l).bind fun r7 =>
      some (!r7))
    else (some false)).bind fun o1 =>
  match o1 with
  | c10 => some c10
theorem i_areTimes_ok (a_l : List Int) (v0_0 : Sv) (R : Bool) (hF : i_areTimes a_l = some R) :
    Fw.Spec Tryz.prog 75 [v0_0.v] [crd (RdS 3 rdInt) v0_0.v a_l] (fun _ : Unit => (.bool R)) (fun _ => []) := by
  refine Spec_enter (n := 10) Tryz.func75 rfl rfl (rs := [.tmp 2]) rfl rfl rfl ?_
  intro H0 F0
  unfold i_areTimes at hF
  refine K_region (C_val (V_assign (v := (.bool false)) (.bool _)) ?_)
  refine C_nil ?_
  obtain ⟨o1, hio1, hO2⟩ := bind_some hF
  refine K_region (C_cut (fun f' cs' => ∃ (c10 : Bool) (g : Fr), c10 = o1 ∧ f' = updL g [(2, (.bool c10))] ∧ Ent cs' []) ?_ ?_)
  · replace hF := hio1
    refine Cm v0_0.v rfl rfl ?_
    obtain ⟨r3, hx4, hF⟩ := bind_some hF
    refine C_x0 (.rd .h rfl .nil) (X_callS cf113 (.cons (.tmp rfl rfl) .nil) (g_slices_IsSorted_int_int_ok a_l v0_0 _ hx4)) (fun _ => ?_)
    refine Cm (.bool r3) rfl rfl ?_
    rcases Bool.eq_false_or_eq_true r3 with hg6 | hg6
    · rw [hg6]
      try rw [hg6] at hF; dsimp only [cond_true, cond_false] at hF
      refine C_on (t := 5) rfl rfl rfl ?_
      refine Cm v0_0.v rfl rfl ?_
      refine C_on (t := 5) rfl rfl rfl ?_
      obtain ⟨r7, hx8, hF⟩ := bind_some hF
      refine C_x0 (.rd .h rfl .nil) (X_callS cf114 (.cons (.tmp rfl rfl) (.cons (.fn _) .nil)) (g_slices_ContainsFunc_int_int_iareTimes1_ok a_l v0_0 _ hx8)) (fun _ => ?_)
      refine C_on (t := 5) rfl rfl rfl ?_
      refine C_val (V_not (b := r7) (.tmp rfl rfl)) ?_
      refine C_val (V_pick (b := true) (u := (.bool (!r7))) (v := (.bool false)) (.tmp rfl rfl) (.tmp rfl rfl) (.bool _)) ?_
      refine Ca (.bool (!r7)) rfl rfl ?_
      refine C_nil ?_
      obtain rfl := Option.some.inj hF
      exact ⟨_, _, rfl, (EqL.cons rfl (EqL.nil)).eq, (.sel .nil)⟩
    rw [hg6]
    try rw [hg6] at hF; dsimp only [cond_true, cond_false] at hF
    iterate 3 refine C_off (t := 5) rfl rfl rfl ?_
    refine C_val (V_pick (b := false) (u := undef) (v := (.bool false)) (.tmp rfl rfl) (.tmp rfl rfl) (.bool _)) ?_
    refine Ca (.bool false) rfl rfl ?_
    refine C_nil ?_
    obtain rfl := Option.some.inj hF
    exact ⟨_, _, rfl, (EqL.cons rfl (EqL.nil)).eq, (.sel .nil)⟩
  rintro _ _ ⟨c10, g11, rfl, rfl, hE⟩
  replace hF := hO2
  clear hO2
  try dsimp only at hF
  refine K_ent hE ?_
  refine CW_ret ?_
  obtain rfl := Option.some.inj hF
  exact End_ret () (.tmp rfl rfl .nil) rfl (.sel .nil)

/-! impl.IsMediator -/
def i_IsMediator (a_m : Mediator) : Option (Bool) :=
  ((i_AreMethods a_m.Schema a_m.Methods).bind fun r4 =>
    bif r4 then ((i_AreRules a_m.Schema a_m.Rules).bind fun r8 =>
      bif r8 then ((i_IsSource a_m.Schema a_m.Source).bind fun r12 =>
        bif r12 then ((i_IsCache a_m.Schema a_m.Methods a_m.Cache).bind fun r16 =>
          bif r16 then ((i_isTime a_m.Now).bind fun r20 =>
            bif r20 then (bif (decide (((a_m.Log.length : Int) : Int) ≤ 1000)) then ((g_slices_ContainsFunc_impl_Access_impl_Access_iIsMediator1 a_m.Log a_m).bind fun r25 =>
                bif (!r25) then (bif (((a_m.Times.length : Int) : Int) == (a_m.Log.length : Int)) then ((i_areTimes a_m.Times).bind fun r30 =>
                    bif r30 then ((i_within a_m.Spent 0 1000000).bind fun r34 =>
                      bif r34 then (some (decide (((a_m.Results.length : Int) : Int) ≤ 100)))
                      else (some false))
                    else (some false))
                  else (some false))
                else (some false))
              else (some false))
            else (some false))
          else (some false))
        else (some false))
      else (some false))
    else (some false)).bind fun o2 =>
  match o2 with
  | c38 => some c38
theorem i_IsMediator_ok (a_m : Mediator) (v0_0 : Sv) (v0_1 : Sv) (v0_2 : Sv) (v0_3 : Sv) (v0_5 : Sv) (v0_8 : Sv) (v0_9 : Sv) (v0_11 : Sv) (R : Bool) (hF : i_IsMediator a_m = some R) :
    Fw.Spec Tryz.prog 28 [(.agg [v0_0.v, v0_1.v, v0_2.v, v0_3.v, (.int .i64 a_m.Source.Version), v0_5.v, (.int .i64 a_m.Cache.Age), (.int .i64 a_m.Now), v0_8.v, v0_9.v, (.int .i64 a_m.Spent), v0_11.v].toArray)] [crd (RdS 3 rdInt) v0_0.v a_m.Schema, crd (RdS 108 rd108) v0_1.v a_m.Methods, crd (RdS 110 rd110) v0_2.v a_m.Rules, crd (RdS 80 rd80) v0_3.v a_m.Source.Facts, crd (RdS 147 rd147) v0_5.v a_m.Cache.Entries, crd (RdS 105 rd105) v0_8.v a_m.Log, crd (RdS 3 rdInt) v0_9.v a_m.Times, crd (RdS 83 (RdS 22 (RdS 3 rdInt))) v0_11.v a_m.Results] (fun _ : Unit => (.bool R)) (fun _ => []) := by
  refine Spec_enter (n := 74) Tryz.func28 rfl rfl (rs := [.tmp 2]) rfl rfl rfl ?_
  intro H0 F0
  unfold i_IsMediator at hF
  refine K_region (C_newR rfl (N_box (g := false) (v := (.agg [v0_0.v, v0_1.v, v0_2.v, v0_3.v, (.int .i64 a_m.Source.Version), v0_5.v, (.int .i64 a_m.Cache.Age), (.int .i64 a_m.Now), v0_8.v, v0_9.v, (.int .i64 a_m.Spent), v0_11.v].toArray)) ty47.sz (.tmp rfl rfl) rfl) (fun k1 => ?_))
  refine C_val (V_assign (v := (.bool false)) (.bool _)) ?_
  refine C_nil ?_
  obtain ⟨o2, hio2, hO3⟩ := bind_some hF
  refine K_region (C_cut (fun f' cs' => ∃ (c38 : Bool) (g : Fr), c38 = o2 ∧ f' = updL g [(2, (.bool c38))] ∧ Ent cs' []) ?_ ?_)
  · replace hF := hio2
    refine C_val (V_fieldAddr (off := 0) fd47_0 (.tmp rfl rfl)) ?_
    refine C_at .h (fun hp => V_load (v := v0_0.v) ag22 (.tmp rfl rfl) hp.2 rfl rfl) ?_
    refine C_val (V_fieldAddr (off := 1) fd47_1 (.tmp rfl rfl)) ?_
    refine C_at .h (fun hp => V_load (v := v0_1.v) ag37 (.tmp rfl rfl) hp.2 rfl rfl) ?_
    obtain ⟨r4, hx5, hF⟩ := bind_some hF
    refine C_x0 (.rd (.t .h) rfl (.rd (.t (.t .h)) rfl .nil)) (X_callS cf67 (.cons (.tmp rfl rfl) (.cons (.tmp rfl rfl) .nil)) (i_AreMethods_ok a_m.Schema v0_0 a_m.Methods v0_1 _ hx5)) (fun _ => ?_)
    refine Cm (.bool r4) rfl rfl ?_
    rcases Bool.eq_false_or_eq_true r4 with hg7 | hg7
    · rw [hg7]
      try rw [hg7] at hF; dsimp only [cond_true, cond_false] at hF
      refine C_on (t := 8) rfl rfl rfl ?_
      refine C_val (V_fieldAddr (off := 0) fd47_0 (.tmp rfl rfl)) ?_
      refine C_on (t := 8) rfl rfl rfl ?_
      refine C_at .h (fun hp => V_load (v := v0_0.v) ag22 (.tmp rfl rfl) hp.2 rfl rfl) ?_
      refine C_on (t := 8) rfl rfl rfl ?_
      refine C_val (V_fieldAddr (off := 2) fd47_2 (.tmp rfl rfl)) ?_
      refine C_on (t := 8) rfl rfl rfl ?_
      refine C_at .h (fun hp => V_load (v := v0_2.v) ag38 (.tmp rfl rfl) hp.2 rfl rfl) ?_
      refine C_on (t := 8) rfl rfl rfl ?_
      obtain ⟨r8, hx9, hF⟩ := bind_some hF
      refine C_x0 (.rd (.t .h) rfl (.rd (.t (.t (.t .h))) rfl .nil)) (X_callS cf68 (.cons (.tmp rfl rfl) (.cons (.tmp rfl rfl) .nil)) (i_AreRules_ok a_m.Schema v0_0 a_m.Rules v0_2 _ hx9)) (fun _ => ?_)
      refine C_val (V_pick (b := true) (u := (.bool r8)) (v := (.bool false)) (.tmp rfl rfl) (.tmp rfl rfl) (.bool _)) ?_
      refine Cm (.bool r8) rfl rfl ?_
      rcases Bool.eq_false_or_eq_true r8 with hg11 | hg11
      · rw [hg11]
        try rw [hg11] at hF; dsimp only [cond_true, cond_false] at hF
        refine C_on (t := 15) rfl rfl rfl ?_
        refine C_val (V_fieldAddr (off := 0) fd47_0 (.tmp rfl rfl)) ?_
        refine C_on (t := 15) rfl rfl rfl ?_
        refine C_at .h (fun hp => V_load (v := v0_0.v) ag22 (.tmp rfl rfl) hp.2 rfl rfl) ?_
        refine C_on (t := 15) rfl rfl rfl ?_
        refine C_val (V_fieldAddr (off := 3) fd47_3 (.tmp rfl rfl)) ?_
        refine C_on (t := 15) rfl rfl rfl ?_
        refine C_at .h (fun hp => V_loadA (s := 2) (l := [v0_3.v, (.int .i64 a_m.Source.Version)]) ag41 ty41.sz (.tmp rfl rfl) hp.2 rfl (by decide) (Nat.le_of_ble_eq_true rfl) rfl) ?_
        refine C_on (t := 15) rfl rfl rfl ?_
        obtain ⟨r12, hx13, hF⟩ := bind_some hF
        refine C_x0 (.rd (.t .h) rfl (.rd (.t (.t (.t (.t .h)))) rfl .nil)) (X_callS cf69 (.cons (.tmp rfl rfl) (.cons (.tmp rfl rfl) .nil)) (i_IsSource_ok a_m.Schema v0_0 a_m.Source v0_3 _ hx13)) (fun _ => ?_)
        refine C_val (V_pick (b := true) (u := (.bool r12)) (v := (.bool false)) (.tmp rfl rfl) (.tmp rfl rfl) (.bool _)) ?_
        refine Cm (.bool r12) rfl rfl ?_
        rcases Bool.eq_false_or_eq_true r12 with hg15 | hg15
        · rw [hg15]
          try rw [hg15] at hF; dsimp only [cond_true, cond_false] at hF
          refine C_on (t := 22) rfl rfl rfl ?_
          refine C_val (V_fieldAddr (off := 0) fd47_0 (.tmp rfl rfl)) ?_
          refine C_on (t := 22) rfl rfl rfl ?_
          refine C_at .h (fun hp => V_load (v := v0_0.v) ag22 (.tmp rfl rfl) hp.2 rfl rfl) ?_
          refine C_on (t := 22) rfl rfl rfl ?_
          refine C_val (V_fieldAddr (off := 1) fd47_1 (.tmp rfl rfl)) ?_
          refine C_on (t := 22) rfl rfl rfl ?_
          refine C_at .h (fun hp => V_load (v := v0_1.v) ag37 (.tmp rfl rfl) hp.2 rfl rfl) ?_
          refine C_on (t := 22) rfl rfl rfl ?_
          refine C_val (V_fieldAddr (off := 5) fd47_4 (.tmp rfl rfl)) ?_
          refine C_on (t := 22) rfl rfl rfl ?_
          refine C_at .h (fun hp => V_loadA (s := 2) (l := [v0_5.v, (.int .i64 a_m.Cache.Age)]) ag44 ty44.sz (.tmp rfl rfl) hp.2 rfl (by decide) (Nat.le_of_ble_eq_true rfl) rfl) ?_
          refine C_on (t := 22) rfl rfl rfl ?_
          obtain ⟨r16, hx17, hF⟩ := bind_some hF
          refine C_x0 (.rd (.t .h) rfl (.rd (.t (.t .h)) rfl (.rd (.t (.t (.t (.t (.t .h))))) rfl .nil))) (X_callS cf70 (.cons (.tmp rfl rfl) (.cons (.tmp rfl rfl) (.cons (.tmp rfl rfl) .nil))) (i_IsCache_ok a_m.Schema v0_0 a_m.Methods v0_1 a_m.Cache v0_5 _ hx17)) (fun _ => ?_)
          refine C_val (V_pick (b := true) (u := (.bool r16)) (v := (.bool false)) (.tmp rfl rfl) (.tmp rfl rfl) (.bool _)) ?_
          refine Cm (.bool r16) rfl rfl ?_
          rcases Bool.eq_false_or_eq_true r16 with hg19 | hg19
          · rw [hg19]
            try rw [hg19] at hF; dsimp only [cond_true, cond_false] at hF
            refine C_on (t := 31) rfl rfl rfl ?_
            refine C_val (V_fieldAddr (off := 7) fd47_5 (.tmp rfl rfl)) ?_
            refine C_on (t := 31) rfl rfl rfl ?_
            refine C_at .h (fun hp => V_load (v := (.int .i64 a_m.Now)) ag3 (.tmp rfl rfl) hp.2 rfl rfl) ?_
            refine C_on (t := 31) rfl rfl rfl ?_
            obtain ⟨r20, hx21, hF⟩ := bind_some hF
            refine C_x0 .nil (X_callS cf71 (.cons (.tmp rfl rfl) .nil) (i_isTime_ok a_m.Now _ hx21)) (fun _ => ?_)
            refine C_val (V_pick (b := true) (u := (.bool r20)) (v := (.bool false)) (.tmp rfl rfl) (.tmp rfl rfl) (.bool _)) ?_
            refine Cm (.bool r20) rfl rfl ?_
            rcases Bool.eq_false_or_eq_true r20 with hg23 | hg23
            · rw [hg23]
              try rw [hg23] at hF; dsimp only [cond_true, cond_false] at hF
              refine C_on (t := 36) rfl rfl rfl ?_
              refine C_val (V_fieldAddr (off := 8) fd47_6 (.tmp rfl rfl)) ?_
              refine C_on (t := 36) rfl rfl rfl ?_
              refine C_at .h (fun hp => V_load (v := v0_8.v) ag45 (.tmp rfl rfl) hp.2 rfl rfl) ?_
              refine C_on (t := 36) rfl rfl rfl ?_
              refine C_at (.t (.t (.t (.t (.t (.t .h)))))) (fun hp => V_lenR (l := a_m.Log.length) sl45 (.tmp rfl rfl) (crd_len hp)) ?_
              refine C_on (t := 36) rfl rfl rfl ?_
              refine C_val (V_leq (i := (a_m.Log.length : Int)) (j := 1000) (.tmp rfl rfl) (.int _ _)) ?_
              refine C_val (V_pick (b := true) (u := (.bool (decide (((a_m.Log.length : Int) : Int) ≤ 1000)))) (v := (.bool false)) (.tmp rfl rfl) (.tmp rfl rfl) (.bool _)) ?_
              refine Cm (.bool (decide (((a_m.Log.length : Int) : Int) ≤ 1000))) rfl rfl ?_
              rcases Bool.eq_false_or_eq_true (decide (((a_m.Log.length : Int) : Int) ≤ 1000)) with hg24 | hg24
              · rw [hg24]
                try rw [hg24] at hF; dsimp only [cond_true, cond_false] at hF
                refine C_on (t := 42) rfl rfl rfl ?_
                refine C_val (V_fieldAddr (off := 8) fd47_6 (.tmp rfl rfl)) ?_
                refine C_on (t := 42) rfl rfl rfl ?_
                refine C_at .h (fun hp => V_load (v := v0_8.v) ag45 (.tmp rfl rfl) hp.2 rfl rfl) ?_
                refine C_on (t := 42) rfl rfl rfl ?_
                refine C_val (V_makeFunc (fn := .func 73) (vs := []) (us := [(.pointer (some ⟨k1, 0, some 0⟩))]) .nil (.cons (.tmp rfl rfl) .nil)) ?_
                refine C_on (t := 42) rfl rfl rfl ?_
                obtain ⟨r25, hx26, hF⟩ := bind_some hF
                refine C_x0 (.rd (.t (.t (.t (.t (.t (.t .h)))))) rfl (.rd .h rfl (.rd (.t .h) rfl (.rd (.t (.t .h)) rfl (.rd (.t (.t (.t .h))) rfl (.rd (.t (.t (.t (.t .h)))) rfl (.rd (.t (.t (.t (.t (.t .h))))) rfl (.rd (.t (.t (.t (.t (.t (.t .h)))))) rfl (.rd (.t (.t (.t (.t (.t (.t (.t .h))))))) rfl (.rd (.t (.t (.t (.t (.t (.t (.t (.t .h)))))))) rfl .nil)))))))))) (X_callS cf72 (.cons (.tmp rfl rfl) (.cons (.tmp rfl rfl) .nil)) (g_slices_ContainsFunc_impl_Access_impl_Access_iIsMediator1_ok a_m.Log v0_8 k1 a_m v0_0 v0_1 v0_2 v0_3 v0_5 v0_8 v0_9 v0_11 _ hx26)) (fun _ => ?_)
                refine C_on (t := 42) rfl rfl rfl ?_
                refine C_val (V_not (b := r25) (.tmp rfl rfl)) ?_
                refine C_val (V_pick (b := true) (u := (.bool (!r25))) (v := (.bool false)) (.tmp rfl rfl) (.tmp rfl rfl) (.bool _)) ?_
                refine Cm (.bool (!r25)) rfl rfl ?_
                rcases Bool.eq_false_or_eq_true (!r25) with hg28 | hg28
                · rw [hg28]
                  try rw [hg28] at hF; dsimp only [cond_true, cond_false] at hF
                  refine C_on (t := 49) rfl rfl rfl ?_
                  refine C_val (V_fieldAddr (off := 9) fd47_7 (.tmp rfl rfl)) ?_
                  refine C_on (t := 49) rfl rfl rfl ?_
                  refine C_at .h (fun hp => V_load (v := v0_9.v) ag22 (.tmp rfl rfl) hp.2 rfl rfl) ?_
                  refine C_on (t := 49) rfl rfl rfl ?_
                  refine C_at (.t (.t (.t (.t (.t (.t (.t .h))))))) (fun hp => V_lenR (l := a_m.Times.length) sl22 (.tmp rfl rfl) (crd_len hp)) ?_
                  refine C_on (t := 49) rfl rfl rfl ?_
                  refine C_val (V_fieldAddr (off := 8) fd47_6 (.tmp rfl rfl)) ?_
                  refine C_on (t := 49) rfl rfl rfl ?_
                  refine C_at .h (fun hp => V_load (v := v0_8.v) ag45 (.tmp rfl rfl) hp.2 rfl rfl) ?_
                  refine C_on (t := 49) rfl rfl rfl ?_
                  refine C_at (.t (.t (.t (.t (.t (.t .h)))))) (fun hp => V_lenR (l := a_m.Log.length) sl45 (.tmp rfl rfl) (crd_len hp)) ?_
                  refine C_on (t := 49) rfl rfl rfl ?_
                  refine C_val (V_eql (i := (a_m.Times.length : Int)) (j := (a_m.Log.length : Int)) (.tmp rfl rfl) (.tmp rfl rfl)) ?_
                  refine C_val (V_pick (b := true) (u := (.bool (((a_m.Times.length : Int) : Int) == (a_m.Log.length : Int)))) (v := (.bool false)) (.tmp rfl rfl) (.tmp rfl rfl) (.bool _)) ?_
                  refine Cm (.bool (((a_m.Times.length : Int) : Int) == (a_m.Log.length : Int))) rfl rfl ?_
                  rcases Bool.eq_false_or_eq_true (((a_m.Times.length : Int) : Int) == (a_m.Log.length : Int)) with hg29 | hg29
                  · rw [hg29]
                    try rw [hg29] at hF; dsimp only [cond_true, cond_false] at hF
                    refine C_on (t := 58) rfl rfl rfl ?_
                    refine C_val (V_fieldAddr (off := 9) fd47_7 (.tmp rfl rfl)) ?_
                    refine C_on (t := 58) rfl rfl rfl ?_
                    refine C_at .h (fun hp => V_load (v := v0_9.v) ag22 (.tmp rfl rfl) hp.2 rfl rfl) ?_
                    refine C_on (t := 58) rfl rfl rfl ?_
                    obtain ⟨r30, hx31, hF⟩ := bind_some hF
                    refine C_x0 (.rd (.t (.t (.t (.t (.t (.t (.t .h))))))) rfl .nil) (X_callS cf75 (.cons (.tmp rfl rfl) .nil) (i_areTimes_ok a_m.Times v0_9 _ hx31)) (fun _ => ?_)
                    refine C_val (V_pick (b := true) (u := (.bool r30)) (v := (.bool false)) (.tmp rfl rfl) (.tmp rfl rfl) (.bool _)) ?_
                    refine Cm (.bool r30) rfl rfl ?_
                    rcases Bool.eq_false_or_eq_true r30 with hg33 | hg33
                    · rw [hg33]
                      try rw [hg33] at hF; dsimp only [cond_true, cond_false] at hF
                      refine C_on (t := 63) rfl rfl rfl ?_
                      refine C_val (V_fieldAddr (off := 10) fd47_8 (.tmp rfl rfl)) ?_
                      refine C_on (t := 63) rfl rfl rfl ?_
                      refine C_at .h (fun hp => V_load (v := (.int .i64 a_m.Spent)) ag3 (.tmp rfl rfl) hp.2 rfl rfl) ?_
                      refine C_on (t := 63) rfl rfl rfl ?_
                      obtain ⟨r34, hx35, hF⟩ := bind_some hF
                      refine C_x0 .nil (X_callS cf76 (.cons (.tmp rfl rfl) (.cons (.int _ _) (.cons (.int _ _) .nil))) (i_within_ok a_m.Spent 0 1000000 _ hx35)) (fun _ => ?_)
                      refine C_val (V_pick (b := true) (u := (.bool r34)) (v := (.bool false)) (.tmp rfl rfl) (.tmp rfl rfl) (.bool _)) ?_
                      refine Cm (.bool r34) rfl rfl ?_
                      rcases Bool.eq_false_or_eq_true r34 with hg37 | hg37
                      · rw [hg37]
                        try rw [hg37] at hF; dsimp only [cond_true, cond_false] at hF
                        refine C_on (t := 68) rfl rfl rfl ?_
                        refine C_val (V_fieldAddr (off := 11) fd47_9 (.tmp rfl rfl)) ?_
                        refine C_on (t := 68) rfl rfl rfl ?_
                        refine C_at .h (fun hp => V_load (v := v0_11.v) ag32 (.tmp rfl rfl) hp.2 rfl rfl) ?_
                        refine C_on (t := 68) rfl rfl rfl ?_
                        refine C_at (.t (.t (.t (.t (.t (.t (.t (.t .h)))))))) (fun hp => V_lenR (l := a_m.Results.length) sl32 (.tmp rfl rfl) (crd_len hp)) ?_
                        refine C_on (t := 68) rfl rfl rfl ?_
                        refine C_val (V_leq (i := (a_m.Results.length : Int)) (j := 100) (.tmp rfl rfl) (.int _ _)) ?_
                        refine C_val (V_pick (b := true) (u := (.bool (decide (((a_m.Results.length : Int) : Int) ≤ 100)))) (v := (.bool false)) (.tmp rfl rfl) (.tmp rfl rfl) (.bool _)) ?_
                        refine Ca (.bool (decide (((a_m.Results.length : Int) : Int) ≤ 100))) rfl rfl ?_
                        refine C_nil ?_
                        obtain rfl := Option.some.inj hF
                        exact ⟨_, _, rfl, (EqL.cons rfl (EqL.nil)).eq, (.sel .nil)⟩
                      rw [hg37]
                      try rw [hg37] at hF; dsimp only [cond_true, cond_false] at hF
                      iterate 4 refine C_off (t := 68) rfl rfl rfl ?_
                      refine C_val (V_pick (b := false) (u := undef) (v := (.bool false)) (.tmp rfl rfl) (.tmp rfl rfl) (.bool _)) ?_
                      refine Ca (.bool false) rfl rfl ?_
                      refine C_nil ?_
                      obtain rfl := Option.some.inj hF
                      exact ⟨_, _, rfl, (EqL.cons rfl (EqL.nil)).eq, (.sel .nil)⟩
                    rw [hg33]
                    try rw [hg33] at hF; dsimp only [cond_true, cond_false] at hF
                    iterate 3 refine C_off (t := 63) rfl rfl rfl ?_
                    refine C_val (V_pick (b := false) (u := undef) (v := (.bool false)) (.tmp rfl rfl) (.tmp rfl rfl) (.bool _)) ?_
                    refine Cm (.bool false) rfl rfl ?_
                    iterate 4 refine C_off (t := 68) rfl rfl rfl ?_
                    refine C_val (V_pick (b := false) (u := undef) (v := (.bool false)) (.tmp rfl rfl) (.tmp rfl rfl) (.bool _)) ?_
                    refine Ca (.bool false) rfl rfl ?_
                    refine C_nil ?_
                    obtain rfl := Option.some.inj hF
                    exact ⟨_, _, rfl, (EqL.cons rfl (EqL.nil)).eq, (.sel .nil)⟩
                  rw [hg29]
                  try rw [hg29] at hF; dsimp only [cond_true, cond_false] at hF
                  iterate 3 refine C_off (t := 58) rfl rfl rfl ?_
                  refine C_val (V_pick (b := false) (u := undef) (v := (.bool false)) (.tmp rfl rfl) (.tmp rfl rfl) (.bool _)) ?_
                  refine Cm (.bool false) rfl rfl ?_
                  iterate 3 refine C_off (t := 63) rfl rfl rfl ?_
                  refine C_val (V_pick (b := false) (u := undef) (v := (.bool false)) (.tmp rfl rfl) (.tmp rfl rfl) (.bool _)) ?_
                  refine Cm (.bool false) rfl rfl ?_
                  iterate 4 refine C_off (t := 68) rfl rfl rfl ?_
                  refine C_val (V_pick (b := false) (u := undef) (v := (.bool false)) (.tmp rfl rfl) (.tmp rfl rfl) (.bool _)) ?_
                  refine Ca (.bool false) rfl rfl ?_
                  refine C_nil ?_
                  obtain rfl := Option.some.inj hF
                  exact ⟨_, _, rfl, (EqL.cons rfl (EqL.nil)).eq, (.sel .nil)⟩
                rw [hg28]
                try rw [hg28] at hF; dsimp only [cond_true, cond_false] at hF
                iterate 7 refine C_off (t := 49) rfl rfl rfl ?_
                refine C_val (V_pick (b := false) (u := undef) (v := (.bool false)) (.tmp rfl rfl) (.tmp rfl rfl) (.bool _)) ?_
                refine Cm (.bool false) rfl rfl ?_
                iterate 3 refine C_off (t := 58) rfl rfl rfl ?_
                refine C_val (V_pick (b := false) (u := undef) (v := (.bool false)) (.tmp rfl rfl) (.tmp rfl rfl) (.bool _)) ?_
                refine Cm (.bool false) rfl rfl ?_
                iterate 3 refine C_off (t := 63) rfl rfl rfl ?_
                refine C_val (V_pick (b := false) (u := undef) (v := (.bool false)) (.tmp rfl rfl) (.tmp rfl rfl) (.bool _)) ?_
                refine Cm (.bool false) rfl rfl ?_
                iterate 4 refine C_off (t := 68) rfl rfl rfl ?_
                refine C_val (V_pick (b := false) (u := undef) (v := (.bool false)) (.tmp rfl rfl) (.tmp rfl rfl) (.bool _)) ?_
                refine Ca (.bool false) rfl rfl ?_
                refine C_nil ?_
                obtain rfl := Option.some.inj hF
                exact ⟨_, _, rfl, (EqL.cons rfl (EqL.nil)).eq, (.sel .nil)⟩
              rw [hg24]
              try rw [hg24] at hF; dsimp only [cond_true, cond_false] at hF
              iterate 5 refine C_off (t := 42) rfl rfl rfl ?_
              refine C_val (V_pick (b := false) (u := undef) (v := (.bool false)) (.tmp rfl rfl) (.tmp rfl rfl) (.bool _)) ?_
              refine Cm (.bool false) rfl rfl ?_
              iterate 7 refine C_off (t := 49) rfl rfl rfl ?_
              refine C_val (V_pick (b := false) (u := undef) (v := (.bool false)) (.tmp rfl rfl) (.tmp rfl rfl) (.bool _)) ?_
              refine Cm (.bool false) rfl rfl ?_
              iterate 3 refine C_off (t := 58) rfl rfl rfl ?_
              refine C_val (V_pick (b := false) (u := undef) (v := (.bool false)) (.tmp rfl rfl) (.tmp rfl rfl) (.bool _)) ?_
              refine Cm (.bool false) rfl rfl ?_
              iterate 3 refine C_off (t := 63) rfl rfl rfl ?_
              refine C_val (V_pick (b := false) (u := undef) (v := (.bool false)) (.tmp rfl rfl) (.tmp rfl rfl) (.bool _)) ?_
              refine Cm (.bool false) rfl rfl ?_
              iterate 4 refine C_off (t := 68) rfl rfl rfl ?_
              refine C_val (V_pick (b := false) (u := undef) (v := (.bool false)) (.tmp rfl rfl) (.tmp rfl rfl) (.bool _)) ?_
              refine Ca (.bool false) rfl rfl ?_
              refine C_nil ?_
              obtain rfl := Option.some.inj hF
              exact ⟨_, _, rfl, (EqL.cons rfl (EqL.nil)).eq, (.sel .nil)⟩
            rw [hg23]
            try rw [hg23] at hF; dsimp only [cond_true, cond_false] at hF
            iterate 4 refine C_off (t := 36) rfl rfl rfl ?_
            refine C_val (V_pick (b := false) (u := undef) (v := (.bool false)) (.tmp rfl rfl) (.tmp rfl rfl) (.bool _)) ?_
            refine Cm (.bool false) rfl rfl ?_
            iterate 5 refine C_off (t := 42) rfl rfl rfl ?_
            refine C_val (V_pick (b := false) (u := undef) (v := (.bool false)) (.tmp rfl rfl) (.tmp rfl rfl) (.bool _)) ?_
            refine Cm (.bool false) rfl rfl ?_
            iterate 7 refine C_off (t := 49) rfl rfl rfl ?_
            refine C_val (V_pick (b := false) (u := undef) (v := (.bool false)) (.tmp rfl rfl) (.tmp rfl rfl) (.bool _)) ?_
            refine Cm (.bool false) rfl rfl ?_
            iterate 3 refine C_off (t := 58) rfl rfl rfl ?_
            refine C_val (V_pick (b := false) (u := undef) (v := (.bool false)) (.tmp rfl rfl) (.tmp rfl rfl) (.bool _)) ?_
            refine Cm (.bool false) rfl rfl ?_
            iterate 3 refine C_off (t := 63) rfl rfl rfl ?_
            refine C_val (V_pick (b := false) (u := undef) (v := (.bool false)) (.tmp rfl rfl) (.tmp rfl rfl) (.bool _)) ?_
            refine Cm (.bool false) rfl rfl ?_
            iterate 4 refine C_off (t := 68) rfl rfl rfl ?_
            refine C_val (V_pick (b := false) (u := undef) (v := (.bool false)) (.tmp rfl rfl) (.tmp rfl rfl) (.bool _)) ?_
            refine Ca (.bool false) rfl rfl ?_
            refine C_nil ?_
            obtain rfl := Option.some.inj hF
            exact ⟨_, _, rfl, (EqL.cons rfl (EqL.nil)).eq, (.sel .nil)⟩
          rw [hg19]
          try rw [hg19] at hF; dsimp only [cond_true, cond_false] at hF
          iterate 3 refine C_off (t := 31) rfl rfl rfl ?_
          refine C_val (V_pick (b := false) (u := undef) (v := (.bool false)) (.tmp rfl rfl) (.tmp rfl rfl) (.bool _)) ?_
          refine Cm (.bool false) rfl rfl ?_
          iterate 4 refine C_off (t := 36) rfl rfl rfl ?_
          refine C_val (V_pick (b := false) (u := undef) (v := (.bool false)) (.tmp rfl rfl) (.tmp rfl rfl) (.bool _)) ?_
          refine Cm (.bool false) rfl rfl ?_
          iterate 5 refine C_off (t := 42) rfl rfl rfl ?_
          refine C_val (V_pick (b := false) (u := undef) (v := (.bool false)) (.tmp rfl rfl) (.tmp rfl rfl) (.bool _)) ?_
          refine Cm (.bool false) rfl rfl ?_
          iterate 7 refine C_off (t := 49) rfl rfl rfl ?_
          refine C_val (V_pick (b := false) (u := undef) (v := (.bool false)) (.tmp rfl rfl) (.tmp rfl rfl) (.bool _)) ?_
          refine Cm (.bool false) rfl rfl ?_
          iterate 3 refine C_off (t := 58) rfl rfl rfl ?_
          refine C_val (V_pick (b := false) (u := undef) (v := (.bool false)) (.tmp rfl rfl) (.tmp rfl rfl) (.bool _)) ?_
          refine Cm (.bool false) rfl rfl ?_
          iterate 3 refine C_off (t := 63) rfl rfl rfl ?_
          refine C_val (V_pick (b := false) (u := undef) (v := (.bool false)) (.tmp rfl rfl) (.tmp rfl rfl) (.bool _)) ?_
          refine Cm (.bool false) rfl rfl ?_
          iterate 4 refine C_off (t := 68) rfl rfl rfl ?_
          refine C_val (V_pick (b := false) (u := undef) (v := (.bool false)) (.tmp rfl rfl) (.tmp rfl rfl) (.bool _)) ?_
          refine Ca (.bool false) rfl rfl ?_
          refine C_nil ?_
          obtain rfl := Option.some.inj hF
          exact ⟨_, _, rfl, (EqL.cons rfl (EqL.nil)).eq, (.sel .nil)⟩
        rw [hg15]
        try rw [hg15] at hF; dsimp only [cond_true, cond_false] at hF
        iterate 7 refine C_off (t := 22) rfl rfl rfl ?_
        refine C_val (V_pick (b := false) (u := undef) (v := (.bool false)) (.tmp rfl rfl) (.tmp rfl rfl) (.bool _)) ?_
        refine Cm (.bool false) rfl rfl ?_
        iterate 3 refine C_off (t := 31) rfl rfl rfl ?_
        refine C_val (V_pick (b := false) (u := undef) (v := (.bool false)) (.tmp rfl rfl) (.tmp rfl rfl) (.bool _)) ?_
        refine Cm (.bool false) rfl rfl ?_
        iterate 4 refine C_off (t := 36) rfl rfl rfl ?_
        refine C_val (V_pick (b := false) (u := undef) (v := (.bool false)) (.tmp rfl rfl) (.tmp rfl rfl) (.bool _)) ?_
        refine Cm (.bool false) rfl rfl ?_
        iterate 5 refine C_off (t := 42) rfl rfl rfl ?_
        refine C_val (V_pick (b := false) (u := undef) (v := (.bool false)) (.tmp rfl rfl) (.tmp rfl rfl) (.bool _)) ?_
        refine Cm (.bool false) rfl rfl ?_
        iterate 7 refine C_off (t := 49) rfl rfl rfl ?_
        refine C_val (V_pick (b := false) (u := undef) (v := (.bool false)) (.tmp rfl rfl) (.tmp rfl rfl) (.bool _)) ?_
        refine Cm (.bool false) rfl rfl ?_
        iterate 3 refine C_off (t := 58) rfl rfl rfl ?_
        refine C_val (V_pick (b := false) (u := undef) (v := (.bool false)) (.tmp rfl rfl) (.tmp rfl rfl) (.bool _)) ?_
        refine Cm (.bool false) rfl rfl ?_
        iterate 3 refine C_off (t := 63) rfl rfl rfl ?_
        refine C_val (V_pick (b := false) (u := undef) (v := (.bool false)) (.tmp rfl rfl) (.tmp rfl rfl) (.bool _)) ?_
        refine Cm (.bool false) rfl rfl ?_
        iterate 4 refine C_off (t := 68) rfl rfl rfl ?_
        refine C_val (V_pick (b := false) (u := undef) (v := (.bool false)) (.tmp rfl rfl) (.tmp rfl rfl) (.bool _)) ?_
        refine Ca (.bool false) rfl rfl ?_
        refine C_nil ?_
        obtain rfl := Option.some.inj hF
        exact ⟨_, _, rfl, (EqL.cons rfl (EqL.nil)).eq, (.sel .nil)⟩
      rw [hg11]
      try rw [hg11] at hF; dsimp only [cond_true, cond_false] at hF
      iterate 5 refine C_off (t := 15) rfl rfl rfl ?_
      refine C_val (V_pick (b := false) (u := undef) (v := (.bool false)) (.tmp rfl rfl) (.tmp rfl rfl) (.bool _)) ?_
      refine Cm (.bool false) rfl rfl ?_
      iterate 7 refine C_off (t := 22) rfl rfl rfl ?_
      refine C_val (V_pick (b := false) (u := undef) (v := (.bool false)) (.tmp rfl rfl) (.tmp rfl rfl) (.bool _)) ?_
      refine Cm (.bool false) rfl rfl ?_
      iterate 3 refine C_off (t := 31) rfl rfl rfl ?_
      refine C_val (V_pick (b := false) (u := undef) (v := (.bool false)) (.tmp rfl rfl) (.tmp rfl rfl) (.bool _)) ?_
      refine Cm (.bool false) rfl rfl ?_
      iterate 4 refine C_off (t := 36) rfl rfl rfl ?_
      refine C_val (V_pick (b := false) (u := undef) (v := (.bool false)) (.tmp rfl rfl) (.tmp rfl rfl) (.bool _)) ?_
      refine Cm (.bool false) rfl rfl ?_
      iterate 5 refine C_off (t := 42) rfl rfl rfl ?_
      refine C_val (V_pick (b := false) (u := undef) (v := (.bool false)) (.tmp rfl rfl) (.tmp rfl rfl) (.bool _)) ?_
      refine Cm (.bool false) rfl rfl ?_
      iterate 7 refine C_off (t := 49) rfl rfl rfl ?_
      refine C_val (V_pick (b := false) (u := undef) (v := (.bool false)) (.tmp rfl rfl) (.tmp rfl rfl) (.bool _)) ?_
      refine Cm (.bool false) rfl rfl ?_
      iterate 3 refine C_off (t := 58) rfl rfl rfl ?_
      refine C_val (V_pick (b := false) (u := undef) (v := (.bool false)) (.tmp rfl rfl) (.tmp rfl rfl) (.bool _)) ?_
      refine Cm (.bool false) rfl rfl ?_
      iterate 3 refine C_off (t := 63) rfl rfl rfl ?_
      refine C_val (V_pick (b := false) (u := undef) (v := (.bool false)) (.tmp rfl rfl) (.tmp rfl rfl) (.bool _)) ?_
      refine Cm (.bool false) rfl rfl ?_
      iterate 4 refine C_off (t := 68) rfl rfl rfl ?_
      refine C_val (V_pick (b := false) (u := undef) (v := (.bool false)) (.tmp rfl rfl) (.tmp rfl rfl) (.bool _)) ?_
      refine Ca (.bool false) rfl rfl ?_
      refine C_nil ?_
      obtain rfl := Option.some.inj hF
      exact ⟨_, _, rfl, (EqL.cons rfl (EqL.nil)).eq, (.sel .nil)⟩
    rw [hg7]
    try rw [hg7] at hF; dsimp only [cond_true, cond_false] at hF
    iterate 5 refine C_off (t := 8) rfl rfl rfl ?_
    refine C_val (V_pick (b := false) (u := undef) (v := (.bool false)) (.tmp rfl rfl) (.tmp rfl rfl) (.bool _)) ?_
    refine Cm (.bool false) rfl rfl ?_
    iterate 5 refine C_off (t := 15) rfl rfl rfl ?_
    refine C_val (V_pick (b := false) (u := undef) (v := (.bool false)) (.tmp rfl rfl) (.tmp rfl rfl) (.bool _)) ?_
    refine Cm (.bool false) rfl rfl ?_
    iterate 7 refine C_off (t := 22) rfl rfl rfl ?_
    refine C_val (V_pick (b := false) (u := undef) (v := (.bool false)) (.tmp rfl rfl) (.tmp rfl rfl) (.bool _)) ?_
    refine Cm (.bool false) rfl rfl ?_
    iterate 3 refine C_off (t := 31) rfl rfl rfl ?_
    refine C_val (V_pick (b := false) (u := undef) (v := (.bool false)) (.tmp rfl rfl) (.tmp rfl rfl) (.bool _)) ?_
    refine Cm (.bool false) rfl rfl ?_
    iterate 4 refine C_off (t := 36) rfl rfl rfl ?_
    refine C_val (V_pick (b := false) (u := undef) (v := (.bool false)) (.tmp rfl rfl) (.tmp rfl rfl) (.bool _)) ?_
    refine Cm (.bool false) rfl rfl ?_
    iterate 5 refine C_off (t := 42) rfl rfl rfl ?_
    refine C_val (V_pick (b := false) (u := undef) (v := (.bool false)) (.tmp rfl rfl) (.tmp rfl rfl) (.bool _)) ?_
    refine Cm (.bool false) rfl rfl ?_
    iterate 7 refine C_off (t := 49) rfl rfl rfl ?_
    refine C_val (V_pick (b := false) (u := undef) (v := (.bool false)) (.tmp rfl rfl) (.tmp rfl rfl) (.bool _)) ?_
    refine Cm (.bool false) rfl rfl ?_
    iterate 3 refine C_off (t := 58) rfl rfl rfl ?_
    refine C_val (V_pick (b := false) (u := undef) (v := (.bool false)) (.tmp rfl rfl) (.tmp rfl rfl) (.bool _)) ?_
    refine Cm (.bool false) rfl rfl ?_
    iterate 3 refine C_off (t := 63) rfl rfl rfl ?_
    refine C_val (V_pick (b := false) (u := undef) (v := (.bool false)) (.tmp rfl rfl) (.tmp rfl rfl) (.bool _)) ?_
    refine Cm (.bool false) rfl rfl ?_
    iterate 4 refine C_off (t := 68) rfl rfl rfl ?_
    refine C_val (V_pick (b := false) (u := undef) (v := (.bool false)) (.tmp rfl rfl) (.tmp rfl rfl) (.bool _)) ?_
    refine Ca (.bool false) rfl rfl ?_
    refine C_nil ?_
    obtain rfl := Option.some.inj hF
    exact ⟨_, _, rfl, (EqL.cons rfl (EqL.nil)).eq, (.sel .nil)⟩
  rintro _ _ ⟨c38, g39, rfl, rfl, hE⟩
  replace hF := hO3
  clear hO3
  try dsimp only at hF
  refine K_ent hE ?_
  refine CW_ret ?_
  obtain rfl := Option.some.inj hF
  exact End_ret () (.tmp rfl rfl .nil) rfl (.sel .nil)

/-! impl.digest).mix -/
def i_digest_mix_L1 : List Int → Nat → Int → Option (Int)
  | [], k19, c15 => some c15
  | x21 :: rest20, k19, c15 => i_digest_mix_L1 rest20 (k19 + 1) (Int.tmod (IntKind.i64.wrap ((IntKind.i64.wrap ((IntKind.i64.wrap (131 * c15)) + x21)) + 7)) 1000003)
def i_digest_mix (a_d : Int) (a_l : List Int) : Option (Int) :=
  i_digest_mix_L1 a_l 0 a_d
theorem i_digest_mix_ok (kq0 : Nat) (a_d : Int) (a_l : List Int) (v1_0 : Sv) (R : Int) (hF : i_digest_mix a_d a_l = some R) :
    Fw.Spec Tryz.prog 42 [(.pointer (some ⟨kq0, 0, some 0⟩)), v1_0.v] [cbox kq0 84 (.int .i64 a_d), crd (RdS 3 rdInt) v1_0.v a_l] (fun _ : Unit => (.tuple [].toArray)) (fun _ => [cbox kq0 84 (.int .i64 R)]) := by
  refine Spec_enter (n := 23) Tryz.func42 rfl rfl (rs := []) rfl rfl rfl ?_
  intro H0 F0
  unfold i_digest_mix at hF
  refine K_region (Cm v1_0.v rfl rfl ?_)
  refine C_at (.t .h) (fun hp => V_lenR (l := a_l.length) sl22 (.tmp rfl rfl) (crd_len hp)) ?_
  refine C_val (V_move (v := (.int .i64 0)) (.int _ _)) ?_
  refine C_nil (CW_block (CW_loop (m := a_l.length) (fun m17 f' cs' => ∃ (g : Fr) (k19 : Nat) (rest20 : List Int) (c15 : Int), m17 = rest20.length ∧ f' = updL g [(0, (.pointer (some ⟨kq0, 0, some 0⟩))), (6, v1_0.v), (7, (.int .i64 (a_l.length : Int))), (8, (.int .i64 (k19 : Int)))] ∧ List.drop k19 a_l = rest20 ∧ Ent cs' [cbox kq0 84 (.int .i64 c15), crd (RdS 3 rdInt) v1_0.v a_l] ∧ i_digest_mix_L1 rest20 k19 c15 = some R) ⟨_, 0, _, _, rfl, (EqL.cons rfl (EqL.cons rfl (EqL.cons rfl (EqL.cons rfl (EqL.nil))))).eq, rfl, (.sel (.cons .h (.rd .h rfl .nil))), hF⟩ ?_))
  clear hF
  rintro m17 _ _ ⟨g18, k19, rest20, c15, rfl, rfl, hd22, hE, hF⟩
  refine K_ent hE ?_
  clear hE
  refine K_pure (c := crd (RdS 3 rdInt) v1_0.v a_l) (.t .h) crd_bound (fun hbd27 => ?_)
  rcases rest20 with _ | ⟨x21, rest20⟩
  · have hk23 := List.drop_eq_nil_iff.1 hd22
    have hfe26 : (decide (((k19 : Int) : Int) < (a_l.length : Int))) = false := decide_eq_false (by omega)
    rw [i_digest_mix_L1] at hF
    refine K_region (C_val (V_lss (i := (k19 : Int)) (j := (a_l.length : Int)) (.tmp rfl rfl) (.tmp rfl rfl)) ?_)
    refine C_nil (K_in (CW_cond (b := (decide (((k19 : Int) : Int) < (a_l.length : Int)))) (.tmp rfl rfl) (fun hb => absurd (hfe26.symm.trans hb) (by decide)) (fun _ => ?_)))
    refine CW_exit ?_
    iterate 2 refine CThen_exit ?_
    refine CIn_self ?_
    obtain rfl := Option.some.inj hF
    exact End_nor () .nil rfl (.sel (.cons .h .nil))
  obtain ⟨hk23, hx24, hd25⟩ := drop_cons hd22
  have hfe26 : (decide (((k19 : Int) : Int) < (a_l.length : Int))) = true := decide_eq_true (by omega)
  rw [i_digest_mix_L1] at hF
  refine K_region (C_val (V_lss (i := (k19 : Int)) (j := (a_l.length : Int)) (.tmp rfl rfl) (.tmp rfl rfl)) ?_)
  refine C_nil (K_in (CW_cond (b := (decide (((k19 : Int) : Int) < (a_l.length : Int)))) (.tmp rfl rfl) (fun _ => ?_) (fun hb => absurd (hfe26.symm.trans hb) (by decide))))
  refine CW_skip (K_block (K_region (C_idx (a := x21) sl22 ty3.sz (.tmp rfl rfl) (.tmp rfl rfl) (.t .h) (Int.natCast_nonneg k19) hx24 (fun k28 j29 => ?_))))
  refine C_ldS (w := (.int .i64 x21)) ag3 (.tmp rfl rfl) .h ls3_0 ?_
  refine Ca (.int .i64 x21) rfl rfl ?_
  refine C_nil (CW_region ?_)
  iterate 2 refine Cm (.pointer (some ⟨kq0, 0, some 0⟩)) rfl rfl ?_
  refine C_val (V_nilCheck (v := (.pointer (some ⟨kq0, 0, some 0⟩))) rfl (.tmp rfl rfl)) ?_
  refine C_at (.t .h) (fun hp => V_load (v := (.int .i64 c15)) ag84 (.tmp rfl rfl) hp.2 rfl rfl) ?_
  refine C_val (V_mul (i := 131) (j := c15) (.int _ _) (.tmp rfl rfl)) ?_
  refine Cm (.int .i64 x21) rfl rfl ?_
  refine C_val (V_add (i := (IntKind.i64.wrap (131 * c15))) (j := x21) (.tmp rfl rfl) (.tmp rfl rfl)) ?_
  refine C_val (V_add (i := (IntKind.i64.wrap ((IntKind.i64.wrap (131 * c15)) + x21))) (j := 7) (.tmp rfl rfl) (.int _ _)) ?_
  refine C_val (V_rem (i := (IntKind.i64.wrap ((IntKind.i64.wrap ((IntKind.i64.wrap (131 * c15)) + x21)) + 7))) (j := 1000003) (.tmp rfl rfl) (.int _ _) (by decide)) ?_
  refine C_val (V_nilCheck (v := (.pointer (some ⟨kq0, 0, some 0⟩))) rfl (.tmp rfl rfl)) ?_
  refine C_x1 (.cons (.t .h) .nil) (X_storeB (e' := (.int .i64 (Int.tmod (IntKind.i64.wrap ((IntKind.i64.wrap ((IntKind.i64.wrap (131 * c15)) + x21)) + 7)) 1000003))) (v := (.int .i64 (Int.tmod (IntKind.i64.wrap ((IntKind.i64.wrap ((IntKind.i64.wrap (131 * c15)) + x21)) + 7)) 1000003))) ty84.sz (.tmp rfl rfl) (.tmp rfl rfl) rfl rfl rfl rfl rfl) (fun _ => ?_)
  refine C_nil (CW_region (C_val (V_add (i := (k19 : Int)) (j := 1) (.tmp rfl rfl) (.int _ _)) ?_))
  refine Cm (.int .i64 (IntKind.i64.wrap ((k19 : Int) + 1))) rfl rfl ?_
  refine C_nil ?_
  have hw30 : IntKind.i64.wrap ((k19 : Int) + 1) = ((k19 + 1 : Nat) : Int) := by rw [wrap_in (by omega) (by omega)]; rfl
  rw [hw30]
  exact ⟨_, Nat.lt_succ_self _, _, k19 + 1, rest20, _, rfl, (EqL.cons rfl (EqL.cons rfl (EqL.cons rfl (EqL.cons rfl (EqL.nil))))).eq, hd25, (.sel (.cons .h (.rd (.t .h) rfl .nil))), hF⟩

/-! strings.Join -/
def g_strings_Join (a_e : List (List UInt8)) (a_sep : List UInt8) : Option (List UInt8) :=
  if a_e.length < 4294967296 ∧ (Lib.join a_e a_sep).length < 4294967296 then some (Lib.join a_e a_sep) else none
theorem g_strings_Join_ok (a_e : List (List UInt8)) (v0_0 : Sv) (a_sep : List UInt8) (R : List UInt8) (hF : g_strings_Join a_e a_sep = some R) :
    Fw.Spec Tryz.prog 30 [v0_0.v, sv a_sep] [crd (RdS 9 rdStr) v0_0.v a_e] (fun _ : Unit => (sv R)) (fun _ => []) := by
  unfold g_strings_Join at hF
  split at hF
  · rename_i h
    cases hF
    exact Spec_join ty9.sz (Go.Proofs.Any.strings_Join_none lays156 extra) (Go.Proofs.Any.strings_Join lays156 extra) h.1 h.2
  · simp at hF

/-! strconv.Itoa -/
def g_strconv_Itoa (a_n : Int) : Option (List UInt8) :=
  if -9223372036854775808 ≤ a_n ∧ a_n ≤ 9223372036854775807 then some (Lib.itoa a_n) else none
theorem g_strconv_Itoa_ok (a_n : Int) (R : List UInt8) (hF : g_strconv_Itoa a_n = some R) :
    Fw.Spec Tryz.prog 77 [.int .i64 a_n] [] (fun _ : Unit => (sv R)) (fun _ => []) := by
  unfold g_strconv_Itoa at hF
  split at hF
  · rename_i h
    cases hF
    exact Spec_itoa fun w hv => Go.Proofs.Any.strconv_Itoa laysM171 a_n h.1 h.2 w (Vok.var (fun _ h => h) hv.choose_spec)
  · simp at hF

/-! impl.FormatInt -/
def i_FormatInt (a_n : Int) : Option ((List UInt8)) :=
  (g_strconv_Itoa a_n).bind fun r1 =>
  some r1
theorem i_FormatInt_ok (a_n : Int) (R : (List UInt8)) (hF : i_FormatInt a_n = some R) :
    Fw.Spec Tryz.prog 29 [(.int .i64 a_n)] [] (fun _ : Unit => (sv R)) (fun _ => []) := by
  refine Spec_enter (n := 5) Tryz.func29 rfl rfl (rs := [.tmp 2]) rfl rfl rfl ?_
  intro H0 F0
  unfold i_FormatInt at hF
  refine K_region (C_val (V_assign (v := (sv [])) (.sv _)) ?_)
  refine C_nil (K_region (Cm (.int .i64 a_n) rfl rfl ?_))
  obtain ⟨r1, hx2, hF⟩ := bind_some hF
  refine C_x0 .nil (X_callS cf77 (.cons (.tmp rfl rfl) .nil) (g_strconv_Itoa_ok a_n _ hx2)) (fun _ => ?_)
  refine Ca (sv r1) rfl rfl ?_
  refine C_nil (CW_ret ?_)
  obtain rfl := Option.some.inj hF
  exact End_ret () (.tmp rfl rfl .nil) rfl (.sel .nil)

/-! impl.joined -/
def i_joined_L1 (a_by : List UInt8) : List Int → Nat → (List (List UInt8)) → Option ((List UInt8))
  | [], k8, c2 => (g_strings_Join c2 a_by).bind fun r17 =>
    some r17
  | x10 :: rest9, k8, c2 => (i_FormatInt x10).bind fun r22 =>
    (app c2 ([r22] : List (List UInt8))).bind fun z26 =>
    i_joined_L1 a_by rest9 (k8 + 1) z26
def i_joined (a_l : List Int) (a_by : List UInt8) : Option ((List UInt8)) :=
  i_joined_L1 a_by a_l 0 ([] : List (List UInt8))
theorem i_joined_ok (a_l : List Int) (v0_0 : Sv) (a_by : List UInt8) (R : (List UInt8)) (hF : i_joined a_l a_by = some R) :
    Fw.Spec Tryz.prog 91 [v0_0.v, (sv a_by)] [crd (RdS 3 rdInt) v0_0.v a_l] (fun _ : Unit => (sv R)) (fun _ => []) := by
  refine Spec_enter (n := 24) Tryz.func91 rfl rfl (rs := [.tmp 4]) rfl rfl rfl ?_
  intro H0 F0
  unfold i_joined at hF
  refine K_region (C_val (V_assign (v := (sv [])) (.sv _)) ?_)
  refine C_nil (K_region (C_new rfl (N_buildSliceT (g := true) sl68 ty9 .nil (vs := []) rfl rfl rfl (by simp)) (fun k1 => ?_)))
  refine C_conv (.cons .h .nil) (own_lit (Ro := (roE rdStr)) (E := 9) (F := []) (xs := ([] : List (List UInt8))) MkL_nil rfl rfl) apps ?_
  refine Ca (.slice (some ⟨k1, 0, none⟩) 0 1) rfl rfl ?_
  refine C_nil (K_in (K_region (Cm v0_0.v rfl rfl ?_)))
  refine C_at (.t .h) (fun hp => V_lenR (l := a_l.length) sl22 (.tmp rfl rfl) (crd_len hp)) ?_
  refine C_val (V_move (v := (.int .i64 0)) (.int _ _)) ?_
  refine C_nil (CW_block (CW_loop (m := a_l.length) (fun m6 f' cs' => ∃ (g : Fr) (k8 : Nat) (rest9 : List Int) (c2 : List (List UInt8)) (v3 : Sv) (F4 : List Nat), m6 = rest9.length ∧ f' = updL g [(1, (sv a_by)), (5, v3.v), (9, v0_0.v), (10, (.int .i64 (a_l.length : Int))), (11, (.int .i64 (k8 : Int)))] ∧ List.drop k8 a_l = rest9 ∧ Ent cs' [cown (OwnS 9 (roE rdStr)) F4 v3.v c2, crd (RdS 3 rdInt) v0_0.v a_l] ∧ i_joined_L1 a_by rest9 k8 c2 = some R) ⟨_, 0, _, _, ⟨(some ⟨k1, 0, none⟩), 0, 1⟩, (k1 :: []), rfl, (EqL.cons rfl (EqL.cons rfl (EqL.cons rfl (EqL.cons rfl (EqL.cons rfl (EqL.nil)))))).eq, rfl, (.sel (.cons .h (.rd .h rfl .nil))), hF⟩ ?_))
  clear hF
  rintro m6 _ _ ⟨g7, k8, rest9, c2, v3, F4, rfl, rfl, hd11, hE, hF⟩
  refine K_ent hE ?_
  clear hE
  refine K_pure (c := crd (RdS 3 rdInt) v0_0.v a_l) (.t .h) crd_bound (fun hbd16 => ?_)
  rcases rest9 with _ | ⟨x10, rest9⟩
  · have hk12 := List.drop_eq_nil_iff.1 hd11
    have hfe15 : (decide (((k8 : Int) : Int) < (a_l.length : Int))) = false := decide_eq_false (by omega)
    rw [i_joined_L1] at hF
    refine K_region (C_val (V_lss (i := (k8 : Int)) (j := (a_l.length : Int)) (.tmp rfl rfl) (.tmp rfl rfl)) ?_)
    refine C_nil (K_in (CW_cond (b := (decide (((k8 : Int) : Int) < (a_l.length : Int)))) (.tmp rfl rfl) (fun hb => absurd (hfe15.symm.trans hb) (by decide)) (fun _ => ?_)))
    refine CW_exit ?_
    iterate 2 refine CThen_exit ?_
    refine CIn_self (K_region (Cm v3.v rfl rfl ?_))
    refine Cm (sv a_by) rfl rfl ?_
    obtain ⟨r17, hx18, hF⟩ := bind_some hF
    refine C_x1 (.cons .h .nil) (XC_borL (pre := []) (.cons frz_own .nil) (fun _ => .nil) (X_callS cf30 (.cons (.tmp rfl rfl) (.cons (.tmp rfl rfl) .nil)) (g_strings_Join_ok c2 v3 a_by _ hx18))) (fun _ => ?_)
    refine Ca (sv r17) rfl rfl ?_
    refine C_nil (CW_ret ?_)
    obtain rfl := Option.some.inj hF
    exact End_ret () (.tmp rfl rfl .nil) rfl (.sel .nil)
  obtain ⟨hk12, hx13, hd14⟩ := drop_cons hd11
  have hfe15 : (decide (((k8 : Int) : Int) < (a_l.length : Int))) = true := decide_eq_true (by omega)
  rw [i_joined_L1] at hF
  refine K_region (C_val (V_lss (i := (k8 : Int)) (j := (a_l.length : Int)) (.tmp rfl rfl) (.tmp rfl rfl)) ?_)
  refine C_nil (K_in (CW_cond (b := (decide (((k8 : Int) : Int) < (a_l.length : Int)))) (.tmp rfl rfl) (fun _ => ?_) (fun hb => absurd (hfe15.symm.trans hb) (by decide))))
  refine CW_skip (K_block (K_region (C_idx (a := x10) sl22 ty3.sz (.tmp rfl rfl) (.tmp rfl rfl) (.t .h) (Int.natCast_nonneg k8) hx13 (fun k20 j21 => ?_))))
  refine C_ldS (w := (.int .i64 x10)) ag3 (.tmp rfl rfl) .h ls3_0 ?_
  refine Ca (.int .i64 x10) rfl rfl ?_
  refine C_nil (CW_region (Cm v3.v rfl rfl ?_))
  refine Cm (.int .i64 x10) rfl rfl ?_
  obtain ⟨r22, hx23, hF⟩ := bind_some hF
  refine C_x0 .nil (X_callS cf29 (.cons (.tmp rfl rfl) .nil) (i_FormatInt_ok x10 _ hx23)) (fun _ => ?_)
  refine C_new rfl (N_buildSliceT (g := true) sl68 ty9 (.cons (.tmp rfl rfl) .nil) (vs := [(sv r22)]) rfl rfl rfl (by intro v hv; simp at hv; rcases hv with rfl <;> rfl)) (fun k25 => ?_)
  refine C_conv (.cons .h .nil) (own_lit (Ro := (roE rdStr)) (E := 9) (F := ([] ++ [])) (xs := ([r22] : List (List UInt8))) (MkL_cons (Mk_pure (fun _ => rfl)) MkL_nil apps) rfl rfl) apps ?_
  obtain ⟨z26, hx27, hF⟩ := bind_some hF
  refine C_x1 (.cons (.t (.t .h)) (.cons .h .nil)) (X_appendO (Ro := (roE rdStr)) sl68 ni68 ty9 rfl rfl rfl (.tmp rfl rfl) (.tmp rfl rfl) hx27 src_own) (fun p28 => ?_)
  refine Ca p28.1.v rfl rfl ?_
  refine C_nil (CW_region (C_val (V_add (i := (k8 : Int)) (j := 1) (.tmp rfl rfl) (.int _ _)) ?_))
  refine Cm (.int .i64 (IntKind.i64.wrap ((k8 : Int) + 1))) rfl rfl ?_
  refine C_nil ?_
  have hw29 : IntKind.i64.wrap ((k8 : Int) + 1) = ((k8 + 1 : Nat) : Int) := by rw [wrap_in (by omega) (by omega)]; rfl
  rw [hw29]
  exact ⟨_, Nat.lt_succ_self _, _, k8 + 1, rest9, _, p28.1, p28.2, rfl, (EqL.cons rfl (EqL.cons rfl (EqL.cons rfl (EqL.cons rfl (EqL.cons rfl (EqL.nil)))))).eq, hd14, (.sel (.cons .h (.rd (.t .h) rfl .nil))), hF⟩

end Go.Proofs.YtfkhlplpbhadhaaGreatDoor
