/-
  Functions of the program as Lean functions, and that the calls return what these say: part 2. No conditions.
-/
import Derived.Shelf.Sort.Plain
import Derived.Shelf.Slices.In.SortNone
import Derived.Shelf.Slices.CompactI
import Derived.Test.YtlfebfhfgfjceabGreatCheckCertificateG0
import Derived.KernelRfl
set_option maxRecDepth 100000
set_option maxHeartbeats 1000000
set_option linter.unusedVariables false
namespace Go.Proofs.YtlfebfhfgfjceabGreat
open Go Go.Fw

/-! spec.AddFact -/
def s_AddFact_L1 (a_f : Fact) : List Fact → Nat → (List Fact) → Bool → Option ((List Fact))
  | [], k13, c6, c9 => if (!c9) then (
      (s_l2One a_f.Rel a_f.Values).bind fun r22 =>
      (app c6 ([r22] : List Fact)).bind fun z26 =>
      some z26)
    else (
      some c6)
  | x15 :: rest14, k13, c6, c9 => ((bif (!c9) then ((s_CompareFacts a_f x15).bind fun r38 =>
          some (decide ((r38 : Int) < 0)))
        else (some false)).bind fun o32 =>
      match o32 with
      | c41 => if c41 then (
          (s_l2One a_f.Rel a_f.Values).bind fun r42 =>
          (app c6 ([r42] : List Fact)).bind fun z46 =>
          (s_l2One x15.Rel x15.Values).bind fun r54 =>
          (app z46 ([r54] : List Fact)).bind fun z58 =>
          some (z58, true))
        else (
          (s_l2One x15.Rel x15.Values).bind fun r66 =>
          (app c6 ([r66] : List Fact)).bind fun z70 =>
          some (z70, c9))).bind fun o30 =>
    match o30 with
    | (c75, c78) => s_AddFact_L1 a_f rest14 (k13 + 1) c75 c78
def s_AddFact (a_l : List Fact) (a_f : Fact) : Option ((List Fact)) :=
  (s_HasFact a_l a_f).bind fun r3 =>
  s_AddFact_L1 a_f a_l 0 ([] : List Fact) r3
theorem s_AddFact_ok (a_l : List Fact) (v0_0 : Sv) (a_f : Fact) (v1_1 : Sv) (R : (List Fact)) (hF : s_AddFact a_l a_f = some R) :
    Fw.Spec Tryz.prog 147 [v0_0.v, (.agg [(.int .i64 a_f.Rel), v1_1.v].toArray)] [crd (RdS 80 rd80) v0_0.v a_l, crd (RdS 3 rdInt) v1_1.v a_f.Values] (fun p : Sv × List Nat => p.1.v) (fun p => [cown (OwnS 80 ow80) p.2 p.1.v R]) := by
  refine Spec_enter (n := 62) Tryz.func147 rfl rfl (rs := [.tmp 4]) rfl rfl rfl ?_
  intro H0 F0
  unfold s_AddFact at hF
  refine K_region (C_newR rfl (N_box (g := false) (v := (.agg [(.int .i64 a_f.Rel), v1_1.v].toArray)) ty80.h.sz (.tmp rfl rfl) rfl) (fun k1 => ?_))
  refine C_val (V_assign (v := (.slice none 0 0)) EV.nilSlice) ?_
  refine C_nil (K_region (C_new rfl (N_buildSliceT (g := true) sl40.h ty80.h .nil (vs := []) rfl rfl rfl (by simp)) (fun k2 => ?_)))
  refine C_conv (.cons .h .nil) (own_lit (Ro := ow80) (E := 80) (F := []) (xs := ([] : List Fact)) MkL_nil rfl rfl) apps ?_
  refine Ca (.slice (some ⟨k2, 0, none⟩) 0 1) rfl rfl ?_
  refine C_nil (K_region (Cm v0_0.v rfl rfl ?_))
  refine C_at (.t .h) (fun hp => V_loadBox ag80.h ty80.h.sz rfl (.tmp rfl rfl) hp.2 rfl) ?_
  obtain ⟨r3, hx4, hF⟩ := bind_some hF
  refine C_x0 (.rd (.t (.t .h)) rfl (.rd (.t (.t (.t .h))) rfl .nil)) (X_callS cf183.h (.cons (.tmp rfl rfl) (.cons (.tmp rfl rfl) .nil)) (s_HasFact_ok a_l v0_0 a_f v1_1 _ hx4)) (fun _ => ?_)
  refine Ca (.bool r3) rfl rfl ?_
  refine C_nil (K_in (K_region (C_val (V_assign (v := (.int .i64 0)) (.int _ _)) ?_)))
  refine C_nil (CW_block (CW_loop (m := a_l.length) (fun m11 f' cs' => ∃ (g : Fr) (k13 : Nat) (rest14 : List Fact) (c6 : List Fact) (c9 : Bool) (v7 : Sv) (F8 : List Nat), m11 = rest14.length ∧ f' = updL g [(0, v0_0.v), (3, (.pointer (some ⟨k1, 0, some 0⟩))), (5, v7.v), (6, (.bool c9)), (7, (.int .i64 (k13 : Int)))] ∧ List.drop k13 a_l = rest14 ∧ Ent cs' [crd (RdS 80 rd80) v0_0.v a_l, cboR k1 80 (.agg [(.int .i64 a_f.Rel), v1_1.v].toArray), crd (RdS 3 rdInt) v1_1.v a_f.Values, cown (OwnS 80 ow80) F8 v7.v c6] ∧ s_AddFact_L1 a_f rest14 k13 c6 c9 = some R) ⟨_, 0, _, _, _, ⟨(some ⟨k2, 0, none⟩), 0, 1⟩, (k2 :: []), rfl, (EqL.cons rfl (EqL.cons rfl (EqL.cons rfl (EqL.cons rfl (EqL.cons rfl (EqL.nil)))))).eq, rfl, (.sel (.rd (.t (.t .h)) rfl (.rd (.t .h) rfl (.rd (.t (.t (.t .h))) rfl (.cons .h .nil))))), hF⟩ ?_))
  clear hF
  rintro m11 _ _ ⟨g12, k13, rest14, c6, c9, v7, F8, rfl, rfl, hd16, hE, hF⟩
  refine K_ent hE ?_
  clear hE
  refine K_pure (c := crd (RdS 80 rd80) v0_0.v a_l) .h crd_bound (fun hbd21 => ?_)
  rcases rest14 with _ | ⟨x15, rest14⟩
  · have hk17 := List.drop_eq_nil_iff.1 hd16
    have hfe20 : (decide (((k13 : Int) : Int) < (a_l.length : Int))) = false := decide_eq_false (by omega)
    rw [s_AddFact_L1] at hF
    refine K_in (K_region (Cm (.int .i64 (k13 : Int)) rfl rfl ?_))
    refine Cm v0_0.v rfl rfl ?_
    refine C_at .h (fun hp => V_lenR (l := a_l.length) sl40.h (.tmp rfl rfl) (crd_len hp)) ?_
    refine C_val (V_lss (i := (k13 : Int)) (j := (a_l.length : Int)) (.tmp rfl rfl) (.tmp rfl rfl)) ?_
    refine C_nil (CW_cond (b := (decide (((k13 : Int) : Int) < (a_l.length : Int)))) (.tmp rfl rfl) (fun hb => absurd (hfe20.symm.trans hb) (by decide)) (fun _ => ?_))
    refine CW_exit ?_
    iterate 2 refine CThen_exit ?_
    refine CIn_self (K_in (K_region (Cm (.bool c9) rfl rfl ?_)))
    refine C_val (V_not (b := c9) (.tmp rfl rfl)) ?_
    refine C_nil (CW_cond (b := (!c9)) (.tmp rfl rfl) (fun hb29 => ?_) (fun hb29 => ?_))
    · rw [if_pos hb29] at hF
      refine CW_region (Cm v7.v rfl rfl ?_)
      refine C_val (V_fieldAddr (off := 0) fd80_0.h (.tmp rfl rfl)) ?_
      refine C_at (.t .h) (fun hp => V_load (v := (.int .i64 a_f.Rel)) ag3.h (.tmp rfl rfl) hp.2 rfl rfl) ?_
      refine C_val (V_fieldAddr (off := 1) fd80_1.h (.tmp rfl rfl)) ?_
      refine C_at (.t .h) (fun hp => V_load (v := v1_1.v) ag22.h (.tmp rfl rfl) hp.2 rfl rfl) ?_
      obtain ⟨r22, hx23, hF⟩ := bind_some hF
      refine C_x1 (.rd (.t (.t .h)) rfl .nil) (X_callS cf178.h (.cons (.tmp rfl rfl) (.cons (.tmp rfl rfl) .nil)) (s_l2One_ok a_f.Rel a_f.Values v1_1 _ hx23)) (fun p24 => ?_)
      refine C_new rfl (N_buildSliceT (g := true) sl40.h ty80.h (.cons (.tmp rfl rfl) .nil) (vs := [(.agg [(.int .i64 r22.Rel), p24.1.v].toArray)]) rfl rfl rfl (by intro v hv; simp at hv; rcases hv with rfl <;> rfl)) (fun k25 => ?_)
      refine C_conv (.cons .h (.cons .h .nil)) (own_lit (Ro := ow80) (E := 80) (F := (p24.2 ++ [])) (xs := ([r22] : List Fact)) (MkL_cons mk80 MkL_nil apps) rfl rfl) apps ?_
      obtain ⟨z26, hx27, hF⟩ := bind_some hF
      refine C_x1 (.cons (.t (.t (.t (.t .h)))) (.cons .h .nil)) (X_appendO (Ro := ow80) sl40.h ni40 ty80.h rfl rfl rfl (.tmp rfl rfl) (.tmp rfl rfl) hx27 src_own) (fun p28 => ?_)
      refine Ca p28.1.v rfl rfl ?_
      refine C_nil (K_region (Cm p28.1.v rfl rfl ?_))
      refine Ca p28.1.v rfl rfl ?_
      refine C_nil (CW_ret ?_)
      obtain rfl := Option.some.inj hF
      exact End_ret (p28.1, p28.2) (.tmp rfl rfl .nil) rfl (.sel (.cons .h .nil))
    rw [if_neg (by rw [hb29]; exact Bool.false_ne_true)] at hF
    refine CW_skip (K_region (Cm v7.v rfl rfl ?_))
    refine Ca v7.v rfl rfl ?_
    refine C_nil (CW_ret ?_)
    obtain rfl := Option.some.inj hF
    exact End_ret (v7, F8) (.tmp rfl rfl .nil) rfl (.sel (.cons (.t (.t (.t .h))) .nil))
  obtain ⟨hk17, hx18, hd19⟩ := drop_cons hd16
  have hfe20 : (decide (((k13 : Int) : Int) < (a_l.length : Int))) = true := decide_eq_true (by omega)
  rw [s_AddFact_L1] at hF
  refine K_in (K_region (Cm (.int .i64 (k13 : Int)) rfl rfl ?_))
  refine Cm v0_0.v rfl rfl ?_
  refine C_at .h (fun hp => V_lenR (l := a_l.length) sl40.h (.tmp rfl rfl) (crd_len hp)) ?_
  refine C_val (V_lss (i := (k13 : Int)) (j := (a_l.length : Int)) (.tmp rfl rfl) (.tmp rfl rfl)) ?_
  refine C_nil (CW_cond (b := (decide (((k13 : Int) : Int) < (a_l.length : Int)))) (.tmp rfl rfl) (fun _ => ?_) (fun hb => absurd (hfe20.symm.trans hb) (by decide)))
  refine CW_skip ?_
  obtain ⟨o30, hio30, hO31⟩ := bind_some hF
  refine K_cut (fun f' cs' => ∃ (c75 : List Fact) (c78 : Bool) (v76 : Sv) (F77 : List Nat) (g : Fr), o30 = (c75, c78) ∧ f' = updL g [(0, v0_0.v), (3, (.pointer (some ⟨k1, 0, some 0⟩))), (5, v76.v), (6, (.bool c78)), (7, (.int .i64 (k13 : Int)))] ∧ Ent cs' [crd (RdS 80 rd80) v0_0.v a_l, cboR k1 80 (.agg [(.int .i64 a_f.Rel), v1_1.v].toArray), crd (RdS 3 rdInt) v1_1.v a_f.Values, cown (OwnS 80 ow80) F77 v76.v c75]) ?_ ?_
  · replace hF := hio30
    refine CW_block (K_in ?_)
    obtain ⟨o32, hio32, hO33⟩ := bind_some hF
    refine K_draw [0, 1, 2, 3, 4, 5, 6, 7, 8, 9, 10] [0, 1, 3, 7, 7, 7, 55, 119, 255, 511, 1023] [8] mixed (by decide +kernel) ?_
    refine D_cut (fun f' cs' => ∃ (c41 : Bool) (g : Fr), c41 = o32 ∧ f' = updL g [(0, v0_0.v), (3, (.pointer (some ⟨k1, 0, some 0⟩))), (5, v7.v), (6, (.bool c9)), (7, (.int .i64 (k13 : Int))), (28, (.bool c41))] ∧ Ent cs' [crd (RdS 80 rd80) v0_0.v a_l, cboR k1 80 (.agg [(.int .i64 a_f.Rel), v1_1.v].toArray), crd (RdS 3 rdInt) v1_1.v a_f.Values, cown (OwnS 80 ow80) F8 v7.v c6]) ?_ ?_
    · replace hF := hio32
      refine Dm (.bool c9) rfl rfl rfl rfl ?_
      refine D_val rfl .no (fun ha => V_not (b := c9) (EN ha (.tmp rfl rfl) rfl)) ?_
      refine Dm (.bool (!c9)) rfl rfl rfl rfl ?_
      rcases Bool.eq_false_or_eq_true (!c9) with hg34 | hg34
      · rw [hg34]
        try rw [hg34] at hF; dsimp only [cond_true, cond_false] at hF
        refine D_at rfl (.on 20 rfl rfl rfl) (.t .h) rfl (fun ha hp => V_loadBox ag80.h ty80.h.sz rfl (EN ha (.tmp rfl rfl) rfl) hp.2 rfl) ?_
        refine D_val rfl (.on 20 rfl rfl rfl) (fun ha => V_move (v := v0_0.v) (EN ha (.tmp rfl rfl) rfl)) ?_
        refine D_val rfl (.on 20 rfl rfl rfl) (fun ha => V_move (v := (.int .i64 (k13 : Int))) (EN ha (.tmp rfl rfl) rfl)) ?_
        refine D_idx (a := x15) sl40.h ty80.h.sz rfl (.on 20 rfl rfl rfl) (.tmp rfl rfl) (.tmp rfl rfl) rfl rfl .h (Int.natCast_nonneg k13) hx18 (fun k35 j36 => ?_)
        refine D_ldA1 (ul80_0_80 x15) ag80.h ty80.h.sz rfl rfl (.on 20 rfl rfl rfl) (.tmp rfl rfl) rfl .h la80_0_80 (fun p37 => ?_)
        obtain ⟨r38, hx39, hF⟩ := bind_some hF
        refine D_act0 rfl rfl (.on 20 rfl rfl rfl) (.rd (.t (.t (.t (.t .h)))) rfl (.rd .h rfl .nil)) .nil (fun ha => X_callS cf67.h (.cons (EN ha (.tmp rfl rfl) rfl) (.cons (EN ha (.tmp rfl rfl) rfl) .nil)) (s_CompareFacts_ok a_f v1_1 x15 p37 _ hx39)) (fun _ => ?_)
        refine D_val rfl (.on 20 rfl rfl rfl) (fun ha => V_lss (i := r38) (j := 0) (EN ha (.tmp rfl rfl) rfl) (EN ha (.int _ _) rfl)) ?_
        refine D_val rfl .no (fun ha => V_pick (b := true) (u := (.bool (decide ((r38 : Int) < 0)))) (v := (.bool false)) (EN ha (.tmp rfl rfl) rfl) (EN ha (.tmp rfl rfl) rfl) (EN ha (.bool _) rfl)) ?_
        refine D_nil ?_
        obtain rfl := Option.some.inj hF
        exact ⟨_, _, rfl, (EqL.cons rfl (EqL.cons rfl (EqL.cons rfl (EqL.cons rfl (EqL.cons rfl (EqL.cons rfl (EqL.nil))))))).eq, (.sel (.rd (.t (.t .h)) rfl (.rd (.t (.t (.t .h))) rfl (.rd (.t (.t (.t (.t .h)))) rfl (.cons (.t (.t (.t (.t (.t .h))))) .nil)))))⟩
      rw [hg34]
      try rw [hg34] at hF; dsimp only [cond_true, cond_false] at hF
      iterate 7 refine D_off 20 rfl rfl rfl rfl ?_
      refine D_val rfl .no (fun ha => V_pick (b := false) (u := undef) (v := (.bool false)) (EN ha (.tmp rfl rfl) rfl) (EN ha (.tmp rfl rfl) rfl) (EN ha (.bool _) rfl)) ?_
      refine D_nil ?_
      obtain rfl := Option.some.inj hF
      exact ⟨_, _, rfl, (EqL.cons rfl (EqL.cons rfl (EqL.cons rfl (EqL.cons rfl (EqL.cons rfl (EqL.cons rfl (EqL.nil))))))).eq, (.sel (.rd .h rfl (.rd (.t .h) rfl (.rd (.t (.t .h)) rfl (.cons (.t (.t (.t .h))) .nil)))))⟩
    rintro _ _ ⟨c41, g74, rfl, rfl, hE⟩
    replace hF := hO33
    clear hO33
    try dsimp only at hF
    refine K_ent hE ?_
    refine CW_cond (b := c41) (.tmp rfl rfl) (fun hb73 => ?_) (fun hb73 => ?_)
    · rw [if_pos hb73] at hF
      refine K_region (Cm v7.v rfl rfl ?_)
      refine C_val (V_fieldAddr (off := 0) fd80_0.h (.tmp rfl rfl)) ?_
      refine C_at (.t .h) (fun hp => V_load (v := (.int .i64 a_f.Rel)) ag3.h (.tmp rfl rfl) hp.2 rfl rfl) ?_
      refine C_val (V_fieldAddr (off := 1) fd80_1.h (.tmp rfl rfl)) ?_
      refine C_at (.t .h) (fun hp => V_load (v := v1_1.v) ag22.h (.tmp rfl rfl) hp.2 rfl rfl) ?_
      obtain ⟨r42, hx43, hF⟩ := bind_some hF
      refine C_x1 (.rd (.t (.t .h)) rfl .nil) (X_callS cf178.h (.cons (.tmp rfl rfl) (.cons (.tmp rfl rfl) .nil)) (s_l2One_ok a_f.Rel a_f.Values v1_1 _ hx43)) (fun p44 => ?_)
      refine C_new rfl (N_buildSliceT (g := true) sl40.h ty80.h (.cons (.tmp rfl rfl) .nil) (vs := [(.agg [(.int .i64 r42.Rel), p44.1.v].toArray)]) rfl rfl rfl (by intro v hv; simp at hv; rcases hv with rfl <;> rfl)) (fun k45 => ?_)
      refine C_conv (.cons .h (.cons .h .nil)) (own_lit (Ro := ow80) (E := 80) (F := (p44.2 ++ [])) (xs := ([r42] : List Fact)) (MkL_cons mk80 MkL_nil apps) rfl rfl) apps ?_
      obtain ⟨z46, hx47, hF⟩ := bind_some hF
      refine C_x1 (.cons (.t (.t (.t (.t .h)))) (.cons .h .nil)) (X_appendO (Ro := ow80) sl40.h ni40 ty80.h rfl rfl rfl (.tmp rfl rfl) (.tmp rfl rfl) hx47 src_own) (fun p48 => ?_)
      refine Ca p48.1.v rfl rfl ?_
      refine C_nil (CW_region (C_val (V_assign (v := (.bool true)) (.bool _)) ?_))
      refine C_nil (CW_draw [0, 1, 2, 3, 4, 5, 6, 7, 8, 9, 10, 11, 12, 13, 14] [0, 0, 0, 6, 14, 30, 0, 0, 192, 448, 960, 2046, 4094, 8191, 16383] [11, 13] mixed (by decide +kernel) ?_)
      refine Dm p48.1.v rfl rfl rfl rfl ?_
      refine Dm v0_0.v rfl rfl rfl rfl ?_
      refine Dm (.int .i64 (k13 : Int)) rfl rfl rfl rfl ?_
      refine D_idx (a := x15) sl40.h ty80.h.sz rfl .no (.tmp rfl rfl) (.tmp rfl rfl) rfl rfl (.t .h) (Int.natCast_nonneg k13) hx18 (fun k49 j50 => ?_)
      refine D_val rfl .no (fun ha => V_fieldAddr (off := 0) fd80_0.h (EN ha (.tmp rfl rfl) rfl)) ?_
      refine D_ldS (w := (.int .i64 x15.Rel)) ag3.h rfl .no (.tmp rfl rfl) rfl .h ls80_0 ?_
      refine Dm v0_0.v rfl rfl rfl rfl ?_
      refine Dm (.int .i64 (k13 : Int)) rfl rfl rfl rfl ?_
      refine D_idx (a := x15) sl40.h ty80.h.sz rfl .no (.tmp rfl rfl) (.tmp rfl rfl) rfl rfl (.t (.t .h)) (Int.natCast_nonneg k13) hx18 (fun k51 j52 => ?_)
      refine D_val rfl .no (fun ha => V_fieldAddr (off := 1) fd80_1.h (EN ha (.tmp rfl rfl) rfl)) ?_
      refine D_ldV (R' := (RdS 3 rdInt)) ag22.h rfl .no (.tmp rfl rfl) rfl .h lv80_1 (fun w53 => ?_)
      obtain ⟨r54, hx55, hF⟩ := bind_some hF
      refine D_act1 rfl rfl .no (.rd .h rfl .nil) .nil (fun ha => X_callS cf178.h (.cons (EN ha (.tmp rfl rfl) rfl) (.cons (EN ha (.tmp rfl rfl) rfl) .nil)) (s_l2One_ok x15.Rel x15.Values w53 _ hx55)) (fun p56 => ?_)
      refine D_new rfl .no rfl (fun ha => N_buildSliceT (g := true) (len := 1) (parts := [(0, .tmp 48)]) sl40.h ty80.h (.cons (EN ha (.tmp rfl rfl) rfl) .nil) (vs := [(.agg [(.int .i64 r54.Rel), p56.1.v].toArray)]) rfl rfl rfl (by intro v hv; simp at hv; rcases hv with rfl <;> rfl)) (fun k57 => ?_)
      refine D_conv (.cons .h (.cons .h .nil)) (own_lit (Ro := ow80) (E := 80) (F := (p56.2 ++ [])) (xs := ([r54] : List Fact)) (MkL_cons mk80 MkL_nil apps) rfl rfl) apps ?_
      obtain ⟨z58, hx59, hF⟩ := bind_some hF
      refine D_act1 rfl rfl .no (.cons (.t (.t (.t (.t .h)))) (.cons .h .nil)) (.dep rfl .nil) (fun ha => X_appendO (Ro := ow80) sl40.h ni40 ty80.h rfl rfl rfl (EN ha (.tmp rfl rfl) rfl) (EN ha (.tmp rfl rfl) rfl) hx59 src_own) (fun p60 => ?_)
      refine Da p60.1.v rfl rfl rfl rfl ?_
      refine D_nil ?_
      obtain rfl := Option.some.inj hF
      exact ⟨_, _, p60.1, p60.2, _, rfl, (EqL.cons rfl (EqL.cons rfl (EqL.cons rfl (EqL.cons rfl (EqL.cons rfl (EqL.nil)))))).eq, (.sel (.rd (.t (.t (.t (.t .h)))) rfl (.rd (.t (.t (.t (.t (.t .h))))) rfl (.rd (.t (.t (.t (.t (.t (.t .h)))))) rfl (.cons .h .nil)))))⟩
    rw [if_neg (by rw [hb73]; exact Bool.false_ne_true)] at hF
    refine CW_skip (CW_draw [0, 1, 2, 3, 4, 5, 6, 7, 8, 9, 10, 11, 12, 13, 14] [0, 0, 0, 6, 14, 30, 0, 0, 192, 448, 960, 2046, 4094, 8191, 16383] [11, 13] mixed (by decide +kernel) ?_)
    refine Dm v7.v rfl rfl rfl rfl ?_
    refine Dm v0_0.v rfl rfl rfl rfl ?_
    refine Dm (.int .i64 (k13 : Int)) rfl rfl rfl rfl ?_
    refine D_idx (a := x15) sl40.h ty80.h.sz rfl .no (.tmp rfl rfl) (.tmp rfl rfl) rfl rfl .h (Int.natCast_nonneg k13) hx18 (fun k61 j62 => ?_)
    refine D_val rfl .no (fun ha => V_fieldAddr (off := 0) fd80_0.h (EN ha (.tmp rfl rfl) rfl)) ?_
    refine D_ldS (w := (.int .i64 x15.Rel)) ag3.h rfl .no (.tmp rfl rfl) rfl .h ls80_0 ?_
    refine Dm v0_0.v rfl rfl rfl rfl ?_
    refine Dm (.int .i64 (k13 : Int)) rfl rfl rfl rfl ?_
    refine D_idx (a := x15) sl40.h ty80.h.sz rfl .no (.tmp rfl rfl) (.tmp rfl rfl) rfl rfl (.t .h) (Int.natCast_nonneg k13) hx18 (fun k63 j64 => ?_)
    refine D_val rfl .no (fun ha => V_fieldAddr (off := 1) fd80_1.h (EN ha (.tmp rfl rfl) rfl)) ?_
    refine D_ldV (R' := (RdS 3 rdInt)) ag22.h rfl .no (.tmp rfl rfl) rfl .h lv80_1 (fun w65 => ?_)
    obtain ⟨r66, hx67, hF⟩ := bind_some hF
    refine D_act1 rfl rfl .no (.rd .h rfl .nil) .nil (fun ha => X_callS cf178.h (.cons (EN ha (.tmp rfl rfl) rfl) (.cons (EN ha (.tmp rfl rfl) rfl) .nil)) (s_l2One_ok x15.Rel x15.Values w65 _ hx67)) (fun p68 => ?_)
    refine D_new rfl .no rfl (fun ha => N_buildSliceT (g := true) (len := 1) (parts := [(0, .tmp 48)]) sl40.h ty80.h (.cons (EN ha (.tmp rfl rfl) rfl) .nil) (vs := [(.agg [(.int .i64 r66.Rel), p68.1.v].toArray)]) rfl rfl rfl (by intro v hv; simp at hv; rcases hv with rfl <;> rfl)) (fun k69 => ?_)
    refine D_conv (.cons .h (.cons .h .nil)) (own_lit (Ro := ow80) (E := 80) (F := (p68.2 ++ [])) (xs := ([r66] : List Fact)) (MkL_cons mk80 MkL_nil apps) rfl rfl) apps ?_
    obtain ⟨z70, hx71, hF⟩ := bind_some hF
    refine D_act1 rfl rfl .no (.cons (.t (.t (.t (.t (.t (.t (.t .h))))))) (.cons .h .nil)) (.dep rfl .nil) (fun ha => X_appendO (Ro := ow80) sl40.h ni40 ty80.h rfl rfl rfl (EN ha (.tmp rfl rfl) rfl) (EN ha (.tmp rfl rfl) rfl) hx71 src_own) (fun p72 => ?_)
    refine Da p72.1.v rfl rfl rfl rfl ?_
    refine D_nil ?_
    obtain rfl := Option.some.inj hF
    exact ⟨_, _, p72.1, p72.2, _, rfl, (EqL.cons rfl (EqL.cons rfl (EqL.cons rfl (EqL.cons rfl (EqL.cons rfl (EqL.nil)))))).eq, (.sel (.rd (.t (.t (.t (.t .h)))) rfl (.rd (.t (.t (.t (.t (.t .h))))) rfl (.rd (.t (.t (.t (.t (.t (.t .h)))))) rfl (.cons .h .nil)))))⟩
  rintro _ _ ⟨c75, c78, v76, F77, g80, rfl, rfl, hE⟩
  replace hF := hO31
  clear hO31
  try dsimp only at hF
  refine K_ent hE ?_
  refine CW_region (Cm (.int .i64 (k13 : Int)) rfl rfl ?_)
  refine C_val (V_add (i := (k13 : Int)) (j := 1) (.tmp rfl rfl) (.int _ _)) ?_
  refine Ca (.int .i64 (IntKind.i64.wrap ((k13 : Int) + 1))) rfl rfl ?_
  refine C_nil ?_
  have hw79 : IntKind.i64.wrap ((k13 : Int) + 1) = ((k13 + 1 : Nat) : Int) := by rw [wrap_in (by omega) (by omega)]; rfl
  rw [hw79]
  exact ⟨_, Nat.lt_succ_self _, _, k13 + 1, rest14, _, _, v76, F77, rfl, (EqL.cons rfl (EqL.cons rfl (EqL.cons rfl (EqL.cons rfl (EqL.cons rfl (EqL.nil)))))).eq, hd19, (.sel (.rd .h rfl (.rd (.t .h) rfl (.rd (.t (.t .h)) rfl (.cons (.t (.t (.t .h))) .nil))))), hF⟩

/-! spec.l8Step -/
def s_l8Step_L24 (x2166 : Fact) (r2178 : (List Fact)) : Nat → (List Int) → Int → Option ((List Fact) × (List Int))
  | 0, _, _ => none
  | m2208 + 1, c2205, c2207 => if (decide ((c2207 : Int) < (x2166.Values.length : Int))) then (
      (ix x2166.Values c2207).bind fun x2222 =>
      (s_l3Put c2205 x2222).bind fun r2228 =>
      s_l8Step_L24 x2166 r2178 m2208 r2228 (IntKind.i64.wrap (c2207 + 1)))
    else (
      some (r2178, c2205))
def s_l8Step_L21 (z1969 : List Access) : List Fact → Nat → (List Fact) → (List Int) → Option ((List Fact) × (List Int) × (List Access))
  | [], k2164, c2156, c2159 => some (c2156, c2159, z1969)
  | x2166 :: rest2165, k2164, c2156, c2159 => ((s_AddFact c2156 x2166).bind fun r2178 =>
      s_l8Step_L24 x2166 r2178 (((x2166.Values.length : Int) - 0).toNat + 2) c2159 0).bind fun o2173 =>
    match o2173 with
    | (c2232, c2235) => s_l8Step_L21 z1969 rest2165 (k2164 + 1) c2232 c2235
def s_l8Step_L1 (a_l : List Method) (a_facts : List Fact) (a_r : Reached) (r3 : Reached) (r7 : (List Access)) : List Access → Nat → (List Fact) → (List Int) → (List Access) → Option (Reached × Bool)
  | [], k1953, c1942, c1945, c1947 => if (((r7.length : Int) : Int) == 0) then (
      some (({ Facts := c1942, Values := c1945, Log := c1947, Rounds := r3.Rounds } : Reached), false))
    else (
      some (({ Facts := c1942, Values := c1945, Log := c1947, Rounds := (IntKind.i64.wrap (a_r.Rounds + 1)) } : Reached), true))
  | x1955 :: rest1954, k1953, c1942, c1945, c1947 => ((app c1947 ([x1955] : List Access)).bind fun z1969 =>
      (ix a_l x1955.Method).bind fun x1974 =>
      (s_l5Matches x1974 x1955.Values a_facts).bind fun r1984 =>
      s_l8Step_L21 z1969 r1984 0 c1942 c1945).bind fun o1963 =>
    match o1963 with
    | (c2239, c2242, c2244) => s_l8Step_L1 a_l a_facts a_r r3 r7 rest1954 (k1953 + 1) c2239 c2242 c2244
def s_l8Step (a_l : List Method) (a_facts : List Fact) (a_r : Reached) : Option (Reached × Bool) :=
  (s_l8Copy a_r).bind fun r3 =>
  (s_l8Open a_l a_r).bind fun r7 =>
  s_l8Step_L1 a_l a_facts a_r r3 r7 r7 0 r3.Facts r3.Values r3.Log
theorem s_l8Step_ok (a_l : List Method) (v0_0 : Sv) (a_facts : List Fact) (v1_0 : Sv) (a_r : Reached) (v2_0 : Sv) (v2_1 : Sv) (v2_2 : Sv) (R : Reached × Bool) (hF : s_l8Step a_l a_facts a_r = some R) :
    Fw.Spec Tryz.prog 106 [v0_0.v, v1_0.v, (.agg [v2_0.v, v2_1.v, v2_2.v, (.int .i64 a_r.Rounds)].toArray)] [crd (RdS 77 rd77) v0_0.v a_l, crd (RdS 80 rd80) v1_0.v a_facts, crd (RdS 80 rd80) v2_0.v a_r.Facts, crd (RdS 3 rdInt) v2_1.v a_r.Values, crd (RdS 141 rd141) v2_2.v a_r.Log] (fun p : Sv × List Nat × Sv × Sv => (.tuple [(.agg [p.1.v, p.2.2.1.v, p.2.2.2.v, (.int .i64 R.1.Rounds)].toArray), (.bool R.2)].toArray)) (fun p => [cown (OwnS 80 ow80) p.2.1 p.1.v R.1.Facts, crd (RdS 3 rdInt) p.2.2.1.v R.1.Values, crd (RdS 141 rd141) p.2.2.2.v R.1.Log]) := by
  refine Spec_enter (n := 94) Tryz.func106 rfl rfl (rs := [.cell 6 73, .tmp 7]) rfl rfl rfl ?_
  intro H0 F0
  unfold s_l8Step at hF
  refine au ?_
  refine AbR (fun k1 => ?_)
  refine AnW (fun k2 => ?_)
  iterate 4 refine au ?_
  obtain ⟨r3, hx4, hF⟩ := bind_some hF
  refine Cx3 (s_l8Copy_ok _ _ _ _ _ hx4) (fun p5 => ?_)
  refine AnW (fun k6 => ?_)
  refine As (.agg [p5.1.v, p5.2.2.1.v, p5.2.2.2.2.1.v, (.int .i64 r3.Rounds)].toArray) ?_
  iterate 4 refine au ?_
  obtain ⟨r7, hx8, hF⟩ := bind_some hF
  refine Cx1 (s_l8Open_ok _ _ _ _ _ _ _ hx8) (fun p9 => ?_)
  iterate 6 refine au ?_
  refine CW_block (K_frz .h frz_own ?_)
  refine CW_loop (m := r7.length) (fun m1951 f' cs' => ∃ (g : Fr) (k1953 : Nat) (rest1954 : List Access) (c1942 : List Fact) (c1945 : List Int) (c1947 : List Access) (v1943 : Sv) (F1944 : List Nat) (v1946 : Sv) (v1948 : Sv) (F1949 : List Nat), m1951 = rest1954.length ∧ f' = updL g [(0, v0_0.v), (1, v1_0.v), (5, (.pointer (some ⟨k1, 0, some 0⟩))), (6, (.pointer (some ⟨k2, 0, some 0⟩))), (8, (.pointer (some ⟨k6, 0, some 0⟩))), (9, p9.1.v), (10, (.int .i64 (k1953 : Int)))] ∧ List.drop k1953 r7 = rest1954 ∧ Ent cs' [crd (RdS 77 rd77) v0_0.v a_l, crd (RdS 80 rd80) v1_0.v a_facts, cboR k1 73 (.agg [v2_0.v, v2_1.v, v2_2.v, (.int .i64 a_r.Rounds)].toArray), crd (RdS 80 rd80) v2_0.v a_r.Facts, crd (RdS 3 rdInt) v2_1.v a_r.Values, crd (RdS 141 rd141) v2_2.v a_r.Log, cbox k2 73 (.agg [(.slice none 0 0), (.slice none 0 0), (.slice none 0 0), (.int .i64 0)].toArray), cbox k6 73 (.agg [v1943.v, v1946.v, v1948.v, (.int .i64 r3.Rounds)].toArray), cown (OwnS 80 ow80) F1944 v1943.v c1942, crd (RdS 3 rdInt) v1946.v c1945, cown (OwnS 141 (roE rd141)) F1949 v1948.v c1947, crd (RdS 141 rd141) p9.1.v r7] ∧ s_l8Step_L1 a_l a_facts a_r r3 r7 rest1954 k1953 c1942 c1945 c1947 = some R) ⟨_, 0, _, _, _, _, p5.1, p5.2.1, p5.2.2.1, p5.2.2.2.2.1, (p5.2.2.2.2.2.take 1), rfl, eqA, rfl, (.frz (.t (.t (.t .h))) frz_own (.half (.t (.t (.t (.t .h)))) entA)), hF⟩ ?_
  clear hF
  rintro m1951 _ _ ⟨g1952, k1953, rest1954, c1942, c1945, c1947, v1943, F1944, v1946, v1948, F1949, rfl, rfl, hd1956, hE, hF⟩
  refine K_ent hE ?_
  clear hE
  refine K_pure (c := crd (RdS 141 rd141) p9.1.v r7) (.t (.t (.t (.t (.t (.t (.t (.t (.t (.t (.t .h))))))))))) crd_bound (fun hbd1961 => ?_)
  rcases rest1954 with _ | ⟨x1955, rest1954⟩
  · have hk1957 := List.drop_eq_nil_iff.1 hd1956
    rw [s_l8Step_L1] at hF
    iterate 7 refine au ?_
    refine CdF ?_
    iterate 10 refine au ?_
    refine Cc (fun hb1962 => ?_) (fun hb1962 => ?_)
    · rw [if_pos hb1962] at hF
      iterate 2 refine au ?_
      refine As (.agg [v1943.v, v1946.v, v1948.v, (.int .i64 r3.Rounds)].toArray) ?_
      iterate 3 refine au ?_
      cases hF
      exact End_ret (v1943, F1944, v1946, v1948) (.cellA rfl rfl .h rfl ag73.h ty73.h.sz rfl rfl (.tmp rfl rfl .nil)) rfl (.frz (.t (.t (.t (.t (.t (.t (.t (.t (.t (.t .h)))))))))) frz_own (.sel (.cons (.t (.t (.t (.t (.t (.t (.t (.t (.t .h))))))))) (.rd (.t (.t (.t (.t (.t (.t (.t (.t (.t .h))))))))) rfl (.rd .h rfl .nil)))))
    rw [if_neg (nt hb1962)] at hF
    iterate 6 refine au ?_
    refine As (.agg [v1943.v, v1946.v, v1948.v, (.int .i64 (IntKind.i64.wrap (a_r.Rounds + 1)))].toArray) ?_
    iterate 3 refine au ?_
    refine As (.agg [v1943.v, v1946.v, v1948.v, (.int .i64 (IntKind.i64.wrap (a_r.Rounds + 1)))].toArray) ?_
    iterate 3 refine au ?_
    cases hF
    exact End_ret (v1943, F1944, v1946, v1948) (.cellA rfl rfl .h rfl ag73.h ty73.h.sz rfl rfl (.tmp rfl rfl .nil)) rfl (.frz (.t (.t (.t (.t (.t (.t (.t (.t (.t (.t .h)))))))))) frz_own (.sel (.cons (.t (.t (.t (.t (.t (.t (.t (.t (.t .h))))))))) (.rd (.t (.t (.t (.t (.t (.t (.t (.t (.t .h))))))))) rfl (.rd .h rfl .nil)))))
  obtain ⟨hk1957, hx1958, hd1959⟩ := drop_cons hd1956
  rw [s_l8Step_L1] at hF
  iterate 7 refine au ?_
  refine CdT ?_
  refine au ?_
  obtain ⟨o1963, hio1963, hO1964⟩ := bind_some hF
  refine K_cut (fun f' cs' => ∃ (c2239 : List Fact) (c2242 : List Int) (c2244 : List Access) (v2240 : Sv) (F2241 : List Nat) (v2243 : Sv) (v2245 : Sv) (F2246 : List Nat) (g : Fr), o1963 = (c2239, c2242, c2244) ∧ f' = updL g [(0, v0_0.v), (1, v1_0.v), (5, (.pointer (some ⟨k1, 0, some 0⟩))), (6, (.pointer (some ⟨k2, 0, some 0⟩))), (8, (.pointer (some ⟨k6, 0, some 0⟩))), (9, p9.1.v), (10, (.int .i64 (k1953 : Int)))] ∧ Ent cs' [crd (RdS 77 rd77) v0_0.v a_l, crd (RdS 80 rd80) v1_0.v a_facts, cboR k1 73 (.agg [v2_0.v, v2_1.v, v2_2.v, (.int .i64 a_r.Rounds)].toArray), crd (RdS 80 rd80) v2_0.v a_r.Facts, crd (RdS 3 rdInt) v2_1.v a_r.Values, crd (RdS 141 rd141) v2_2.v a_r.Log, cbox k2 73 (.agg [(.slice none 0 0), (.slice none 0 0), (.slice none 0 0), (.int .i64 0)].toArray), cbox k6 73 (.agg [v2240.v, v2243.v, v2245.v, (.int .i64 r3.Rounds)].toArray), cown (OwnS 80 ow80) F2241 v2240.v c2239, crd (RdS 3 rdInt) v2243.v c2242, cown (OwnS 141 (roE rd141)) F2246 v2245.v c2244, crd (RdS 141 rd141) p9.1.v r7]) ?_ ?_
  · replace hF := hio1963
    refine CW_block (K_draw [0, 1, 2, 3, 4, 5, 6, 7, 8, 9] [0, 1, 0, 0, 12, 28, 60, 127, 255, 511] [7, 9] mixed (by decide +kernel) ?_)
    refine du ?_
    refine D_atO rfl .no (.t (.t (.t (.t (.t (.t (.t .h))))))) (fun ha hp => V_load (v := v1948.v) ag71.h (EN ha (.tmp rfl rfl) rfl) hp.2 rfl rfl) ?_
    iterate 2 refine du ?_
    refine Di hx1958 (fun k1965 j1966 => ?_)
    refine DlA1 (ul141_0_141 x1955) la141_0_141 (fun p1967 => ?_)
    refine D_new rfl .no rfl (fun ha => N_buildSliceT (g := true) (len := 1) (parts := [(0, .tmp 30)]) sl71.h ty141.h (.cons (EN ha (.tmp rfl rfl) rfl) .nil) (vs := [(.agg [(.int .i64 x1955.Method), p1967.v].toArray)]) rfl rfl rfl (by intro v hv; simp at hv; rcases hv with rfl <;> rfl)) (fun k1968 => ?_)
    refine Dv1 (.cons .h (.rd .h rfl .nil)) (own_lit (Ro := (roE rd141)) (E := 141) (F := ([] ++ [])) (xs := ([x1955] : List Access)) (MkL_cons mr141 MkL_nil apps) rfl rfl) ?_
    obtain ⟨z1969, hx1970, hF⟩ := bind_some hF
    refine D_act1 rfl rfl .no (.cons (.t (.t (.t (.t (.t (.t (.t (.t (.t (.t (.t (.t (.t .h))))))))))))) (.cons .h .nil)) (.dep rfl (.dep rfl .nil)) (fun ha => X_appendO (Ro := (roE rd141)) sl71.h ni71 ty141.h rfl rfl rfl (EN ha (.tmp rfl rfl) rfl) (EN ha (.tmp rfl rfl) rfl) hx1970 src_own) (fun p1971 => ?_)
    refine du ?_
    refine D_act1 rfl rfl .no (.cons (.t (.t (.t (.t (.t (.t (.t (.t (.t (.t .h)))))))))) .nil) (.dep rfl (.dep rfl .nil)) (fun ha => X_storeB (e' := (.agg [v1943.v, v1946.v, p1971.1.v, (.int .i64 r3.Rounds)].toArray)) ty71.h.sz (EN ha (.tmp rfl rfl) rfl) (EN ha (.tmp rfl rfl) rfl) rfl rfl rfl rfl rfl) (fun _ => ?_)
    refine du ?_
    refine K_draw [0, 1, 2, 3, 4, 5, 6, 7, 8, 9, 10, 11, 12, 13, 14, 15] [0, 0, 0, 6, 14, 30, 63, 127, 0, 0, 768, 1792, 3840, 0, 16383, 32767] [14] mixed (by decide +kernel) ?_
    iterate 3 refine du ?_
    refine Di hx1958 (fun k1972 j1973 => ?_)
    refine du ?_
    refine Dl ls141_0 ?_
    obtain ⟨x1974, hx1975, hF⟩ := bind_some hF
    obtain ⟨hp1976, hx1977⟩ := ix_some hx1975
    refine Di hx1977 (fun k1978 j1979 => ?_)
    refine DlA1 (ul77_0_77 x1974) la77_0_77 (fun p1980 => ?_)
    iterate 2 refine du ?_
    refine Di hx1958 (fun k1981 j1982 => ?_)
    refine du ?_
    refine D_ldV (R' := (RdS 3 rdInt)) ag22.h rfl .no (.tmp rfl rfl) rfl .h lv141_1 (fun w1983 => ?_)
    refine du ?_
    obtain ⟨r1984, hx1985, hF⟩ := bind_some hF
    refine Dx1 (s_l5Matches_ok _ _ _ _ _ _ _ hx1985) (fun p1986 => ?_)
    iterate 2 refine du ?_
    iterate 3 refine au ?_
    refine CW_block (K_frz .h frz_own ?_)
    refine CW_loop (m := r1984.length) (fun m2162 f' cs' => ∃ (g : Fr) (k2164 : Nat) (rest2165 : List Fact) (c2156 : List Fact) (c2159 : List Int) (v2157 : Sv) (F2158 : List Nat) (v2160 : Sv), m2162 = rest2165.length ∧ f' = updL g [(0, v0_0.v), (1, v1_0.v), (5, (.pointer (some ⟨k1, 0, some 0⟩))), (6, (.pointer (some ⟨k2, 0, some 0⟩))), (8, (.pointer (some ⟨k6, 0, some 0⟩))), (9, p9.1.v), (10, (.int .i64 (k1953 : Int))), (11, p1986.1.v), (12, (.int .i64 (k2164 : Int)))] ∧ List.drop k2164 r1984 = rest2165 ∧ Ent cs' [crd (RdS 77 rd77) v0_0.v a_l, crd (RdS 80 rd80) v1_0.v a_facts, cboR k1 73 (.agg [v2_0.v, v2_1.v, v2_2.v, (.int .i64 a_r.Rounds)].toArray), crd (RdS 80 rd80) v2_0.v a_r.Facts, crd (RdS 3 rdInt) v2_1.v a_r.Values, crd (RdS 141 rd141) v2_2.v a_r.Log, cbox k2 73 (.agg [(.slice none 0 0), (.slice none 0 0), (.slice none 0 0), (.int .i64 0)].toArray), cbox k6 73 (.agg [v2157.v, v2160.v, p1971.1.v, (.int .i64 r3.Rounds)].toArray), cown (OwnS 80 ow80) F2158 v2157.v c2156, crd (RdS 3 rdInt) v2160.v c2159, cown (OwnS 141 (roE rd141)) p1971.2 p1971.1.v z1969, crd (RdS 141 rd141) p9.1.v r7, crd (RdS 80 rd80) p1986.1.v r1984] ∧ s_l8Step_L21 z1969 rest2165 k2164 c2156 c2159 = some o1963) ⟨_, 0, _, _, _, v1943, F1944, v1946, rfl, eqA, rfl, entA, hF⟩ ?_
    clear hF
    rintro m2162 _ _ ⟨g2163, k2164, rest2165, c2156, c2159, v2157, F2158, v2160, rfl, rfl, hd2167, hE, hF⟩
    refine K_ent hE ?_
    clear hE
    refine K_pure (c := crd (RdS 80 rd80) p1986.1.v r1984) (.t (.t (.t (.t (.t (.t (.t (.t (.t (.t (.t (.t .h)))))))))))) crd_bound (fun hbd2172 => ?_)
    rcases rest2165 with _ | ⟨x2166, rest2165⟩
    · have hk2168 := List.drop_eq_nil_iff.1 hd2167
      rw [s_l8Step_L21] at hF
      iterate 7 refine au ?_
      refine CdF ?_
      iterate 4 refine au ?_
      cases hF
      exact ⟨_, _, _, v2157, F2158, v2160, p1971.1, p1971.2, _, rfl, eqA, entA⟩
    obtain ⟨hk2168, hx2169, hd2170⟩ := drop_cons hd2167
    rw [s_l8Step_L21] at hF
    iterate 7 refine au ?_
    refine CdT ?_
    refine au ?_
    obtain ⟨o2173, hio2173, hO2174⟩ := bind_some hF
    refine K_cut (fun f' cs' => ∃ (c2232 : List Fact) (c2235 : List Int) (v2233 : Sv) (F2234 : List Nat) (v2236 : Sv) (g : Fr), o2173 = (c2232, c2235) ∧ f' = updL g [(0, v0_0.v), (1, v1_0.v), (5, (.pointer (some ⟨k1, 0, some 0⟩))), (6, (.pointer (some ⟨k2, 0, some 0⟩))), (8, (.pointer (some ⟨k6, 0, some 0⟩))), (9, p9.1.v), (10, (.int .i64 (k1953 : Int))), (11, p1986.1.v), (12, (.int .i64 (k2164 : Int)))] ∧ Ent cs' [crd (RdS 77 rd77) v0_0.v a_l, crd (RdS 80 rd80) v1_0.v a_facts, cboR k1 73 (.agg [v2_0.v, v2_1.v, v2_2.v, (.int .i64 a_r.Rounds)].toArray), crd (RdS 80 rd80) v2_0.v a_r.Facts, crd (RdS 3 rdInt) v2_1.v a_r.Values, crd (RdS 141 rd141) v2_2.v a_r.Log, cbox k2 73 (.agg [(.slice none 0 0), (.slice none 0 0), (.slice none 0 0), (.int .i64 0)].toArray), cbox k6 73 (.agg [v2233.v, v2236.v, p1971.1.v, (.int .i64 r3.Rounds)].toArray), cown (OwnS 80 ow80) F2234 v2233.v c2232, crd (RdS 3 rdInt) v2236.v c2235, cown (OwnS 141 (roE rd141)) p1971.2 p1971.1.v z1969, crd (RdS 141 rd141) p9.1.v r7, crd (RdS 80 rd80) p1986.1.v r1984]) ?_ ?_
    · replace hF := hio2173
      refine CW_block (K_draw [0, 1, 2, 3, 4, 5, 6, 7, 8] [0, 1, 0, 0, 12, 28, 63, 127, 255] [6, 8] mixed (by decide +kernel) ?_)
      refine du ?_
      refine D_atO rfl .no (.t (.t (.t (.t (.t (.t (.t .h))))))) (fun ha hp => V_load (v := v2157.v) ag40.h (EN ha (.tmp rfl rfl) rfl) hp.2 rfl rfl) ?_
      iterate 2 refine du ?_
      refine Di hx2169 (fun k2175 j2176 => ?_)
      refine DlA1 (ul80_0_80 x2166) la80_0_80 (fun p2177 => ?_)
      obtain ⟨r2178, hx2179, hF⟩ := bind_some hF
      refine D_act2 rfl rfl .no (.cons (.t (.t (.t (.t (.t (.t (.t (.t (.t (.t .h)))))))))) (.rd .h rfl .nil)) (.dep rfl .nil) (fun ha => XC_bor frz_own (fun _ => (.cons .nil)) (X_callS cf147.h (.cons (EN ha (.tmp rfl rfl) rfl) (.cons (EN ha (.tmp rfl rfl) rfl) .nil)) (s_AddFact_ok c2156 v2157 x2166 p2177 _ hx2179))) (fun p2180 => ?_)
      refine du ?_
      refine D_act1 rfl rfl .no (.cons (.t (.t (.t (.t (.t (.t (.t (.t (.t (.t (.t .h))))))))))) .nil) (.dep rfl .nil) (fun ha => X_storeB (e' := (.agg [p2180.1.v, v2160.v, p1971.1.v, (.int .i64 r3.Rounds)].toArray)) ty40.h.sz (EN ha (.tmp rfl rfl) rfl) (EN ha (.tmp rfl rfl) rfl) rfl rfl rfl rfl rfl) (fun _ => ?_)
      refine du ?_
      iterate 3 refine au ?_
      refine CW_block (CW_loop (m := (((x2166.Values.length : Int) - 0).toNat + 2)) (fun m2208 f' cs' => ∃ (g : Fr) (c2205 : List Int) (c2207 : Int) (v2206 : Sv), f' = updL g [(0, v0_0.v), (1, v1_0.v), (5, (.pointer (some ⟨k1, 0, some 0⟩))), (6, (.pointer (some ⟨k2, 0, some 0⟩))), (8, (.pointer (some ⟨k6, 0, some 0⟩))), (9, p9.1.v), (10, (.int .i64 (k1953 : Int))), (11, p1986.1.v), (12, (.int .i64 (k2164 : Int))), (13, (.int .i64 c2207))] ∧ Ent cs' [crd (RdS 77 rd77) v0_0.v a_l, crd (RdS 80 rd80) v1_0.v a_facts, cboR k1 73 (.agg [v2_0.v, v2_1.v, v2_2.v, (.int .i64 a_r.Rounds)].toArray), crd (RdS 80 rd80) v2_0.v a_r.Facts, crd (RdS 3 rdInt) v2_1.v a_r.Values, crd (RdS 141 rd141) v2_2.v a_r.Log, cbox k2 73 (.agg [(.slice none 0 0), (.slice none 0 0), (.slice none 0 0), (.int .i64 0)].toArray), cbox k6 73 (.agg [p2180.1.v, v2206.v, p1971.1.v, (.int .i64 r3.Rounds)].toArray), cown (OwnS 80 ow80) p2180.2 p2180.1.v r2178, crd (RdS 3 rdInt) v2206.v c2205, cown (OwnS 141 (roE rd141)) p1971.2 p1971.1.v z1969, crd (RdS 141 rd141) p9.1.v r7, crd (RdS 80 rd80) p1986.1.v r1984] ∧ s_l8Step_L24 x2166 r2178 m2208 c2205 c2207 = some o2173) ⟨_, _, _, v2160, eqA, entA, hF⟩ ?_)
      clear hF
      rintro m2208 _ _ ⟨g2209, c2205, c2207, v2206, rfl, hE, hF⟩
      refine K_ent hE ?_
      clear hE
      rcases m2208 with _ | m2208
      · rw [s_l8Step_L24] at hF
        exact absurd hF (by simp)
      rw [s_l8Step_L24] at hF
      iterate 5 refine au ?_
      refine Ai hx2169 (fun k2216 j2217 => ?_)
      refine au ?_
      refine C_ldV (R' := (RdS 3 rdInt)) ag22.h (.tmp rfl rfl) .h lv80_1 (fun w2218 => ?_)
      iterate 3 refine au ?_
      refine Cc (fun hb2231 => ?_) (fun hb2231 => ?_)
      · rw [if_pos hb2231] at hF
        iterate 2 refine au ?_
        refine CW_draw [0, 1, 2, 3, 4, 5, 6, 7, 8, 9, 10, 11, 12] [0, 1, 0, 0, 12, 28, 60, 0, 252, 508, 1023, 2047, 4095] [10, 12] mixed (by decide +kernel) ?_
        refine du ?_
        refine D_atO rfl .no (.t (.t (.t (.t (.t (.t (.t (.t (.t .h))))))))) (fun ha hp => V_load (v := v2206.v) ag22.h (EN ha (.tmp rfl rfl) rfl) hp.2 rfl rfl) ?_
        iterate 2 refine du ?_
        refine Di hx2169 (fun k2219 j2220 => ?_)
        refine du ?_
        refine D_ldV (R' := (RdS 3 rdInt)) ag22.h rfl .no (.tmp rfl rfl) rfl .h lv80_1 (fun w2221 => ?_)
        refine du ?_
        obtain ⟨x2222, hx2223, hF⟩ := bind_some hF
        obtain ⟨hp2224, hx2225⟩ := ix_some hx2223
        refine Di hx2225 (fun k2226 j2227 => ?_)
        refine Dl ls3_0 ?_
        obtain ⟨r2228, hx2229, hF⟩ := bind_some hF
        refine Dx1 (s_l3Put_ok _ _ _ _ hx2229) (fun p2230 => ?_)
        refine du ?_
        refine D_act1 rfl rfl .no (.cons (.t (.t (.t (.t (.t (.t (.t (.t (.t (.t (.t (.t (.t .h))))))))))))) .nil) (.dep rfl .nil) (fun ha => X_storeB (e' := (.agg [p2180.1.v, p2230.v, p1971.1.v, (.int .i64 r3.Rounds)].toArray)) ty22.h.sz (EN ha (.tmp rfl rfl) rfl) (EN ha (.tmp rfl rfl) rfl) rfl rfl rfl rfl rfl) (fun _ => ?_)
        refine du ?_
        iterate 5 refine au ?_
        exact ⟨m2208, Nat.lt_succ_self _, _, _, _, p2230, eqA, entA, hF⟩
      rw [if_neg (nt hb2231)] at hF
      iterate 4 refine au ?_
      cases hF
      exact ⟨_, _, p2180.1, p2180.2, v2206, _, rfl, eqA, entA⟩
    rintro _ _ ⟨c2232, c2235, v2233, F2234, v2236, g2238, rfl, rfl, hE⟩
    replace hF := hO2174
    clear hO2174
    try dsimp only at hF
    refine K_ent hE ?_
    iterate 5 refine au ?_
    rw [wk k2164]
    exact ⟨_, Nat.lt_succ_self _, _, k2164 + 1, rest2165, _, _, v2233, F2234, v2236, rfl, eqA, hd2170, entA, hF⟩
  rintro _ _ ⟨c2239, c2242, c2244, v2240, F2241, v2243, v2245, F2246, g2248, rfl, rfl, hE⟩
  replace hF := hO1964
  clear hO1964
  try dsimp only at hF
  refine K_ent hE ?_
  iterate 5 refine au ?_
  rw [wk k1953]
  exact ⟨_, Nat.lt_succ_self _, _, k1953 + 1, rest1954, _, _, _, v2240, F2241, v2243, v2245, F2246, rfl, eqA, hd1959, entA, hF⟩

/-! spec.StepReach -/
def s_StepReach (a_s : List Int) (a_l : List Method) (a_facts : List Fact) (a_r : Reached) : Option (Reached × Bool) :=
  ((s_AreMethods a_s a_l).bind fun r5 =>
    bif (!r5) then (some true)
    else ((s_AreFacts a_s a_facts).bind fun r9 =>
      bif (!r9) then (some true)
      else ((s_l8Values a_r.Values).bind fun r13 =>
        bif (!r13) then (some true)
        else ((s_AreFacts a_s a_r.Facts).bind fun r17 =>
          bif (!r17) then (some true)
          else ((s_l1In a_r.Rounds 0 100).bind fun r21 =>
            some (!r21)))))).bind fun o3 =>
  match o3 with
  | c24 => if c24 then (
      (s_l8Copy a_r).bind fun r25 =>
      some (r25, false))
    else (
      (s_l8Step a_l a_facts a_r).bind fun r28 =>
      some (r28.1, r28.2))
theorem s_StepReach_ok (a_s : List Int) (v0_0 : Sv) (a_l : List Method) (v1_0 : Sv) (a_facts : List Fact) (v2_0 : Sv) (a_r : Reached) (v3_0 : Sv) (v3_1 : Sv) (v3_2 : Sv) (R : Reached × Bool) (hF : s_StepReach a_s a_l a_facts a_r = some R) :
    Fw.Spec Tryz.prog 70 [v0_0.v, v1_0.v, v2_0.v, (.agg [v3_0.v, v3_1.v, v3_2.v, (.int .i64 a_r.Rounds)].toArray)] [crd (RdS 3 rdInt) v0_0.v a_s, crd (RdS 77 rd77) v1_0.v a_l, crd (RdS 80 rd80) v2_0.v a_facts, crd (RdS 80 rd80) v3_0.v a_r.Facts, crd (RdS 3 rdInt) v3_1.v a_r.Values, crd (RdS 141 rd141) v3_2.v a_r.Log] (fun p : Sv × List Nat × Sv × Sv => (.tuple [(.agg [p.1.v, p.2.2.1.v, p.2.2.2.v, (.int .i64 R.1.Rounds)].toArray), (.bool R.2)].toArray)) (fun p => [cown (OwnS 80 ow80) p.2.1 p.1.v R.1.Facts, crd (RdS 3 rdInt) p.2.2.1.v R.1.Values, crd (RdS 141 rd141) p.2.2.2.v R.1.Log]) := by
  refine Spec_enter (n := 52) Tryz.func70 rfl rfl (rs := [.cell 8 73, .tmp 9]) rfl rfl rfl ?_
  intro H0 F0
  unfold s_StepReach at hF
  refine au ?_
  refine AbR (fun k1 => ?_)
  refine AnW (fun k2 => ?_)
  iterate 3 refine au ?_
  obtain ⟨o3, hio3, hO4⟩ := bind_some hF
  refine au ?_
  refine C_cut (fun f' cs' => ∃ (c24 : Bool) (g : Fr), c24 = o3 ∧ f' = updL g [(1, v1_0.v), (2, v2_0.v), (7, (.pointer (some ⟨k1, 0, some 0⟩))), (8, (.pointer (some ⟨k2, 0, some 0⟩))), (40, (.bool c24))] ∧ Ent cs' [crd (RdS 77 rd77) v1_0.v a_l, crd (RdS 80 rd80) v2_0.v a_facts, cboR k1 73 (.agg [v3_0.v, v3_1.v, v3_2.v, (.int .i64 a_r.Rounds)].toArray), crd (RdS 80 rd80) v3_0.v a_r.Facts, crd (RdS 3 rdInt) v3_1.v a_r.Values, crd (RdS 141 rd141) v3_2.v a_r.Log, cbox k2 73 (.agg [(.slice none 0 0), (.slice none 0 0), (.slice none 0 0), (.int .i64 0)].toArray)]) ?_ ?_
  · replace hF := hio3
    iterate 2 refine au ?_
    obtain ⟨r5, hx6, hF⟩ := bind_some hF
    refine Cx0 (s_AreMethods_ok _ _ _ _ _ hx6) (fun _ => ?_)
    iterate 2 refine au ?_
    rcases Bool.eq_false_or_eq_true (!r5) with hg8 | hg8
    · rw [hg8]
      try rw [hg8] at hF; dsimp only [cond_true, cond_false] at hF
      iterate 25 refine au ?_
      cases hF
      exact ⟨_, _, rfl, eqA, entA⟩
    rw [hg8]
    try rw [hg8] at hF; dsimp only [cond_true, cond_false] at hF
    iterate 5 refine au ?_
    obtain ⟨r9, hx10, hF⟩ := bind_some hF
    refine Cx0 (s_AreFacts_ok _ _ _ _ _ hx10) (fun _ => ?_)
    iterate 4 refine au ?_
    rcases Bool.eq_false_or_eq_true (!r9) with hg12 | hg12
    · rw [hg12]
      try rw [hg12] at hF; dsimp only [cond_true, cond_false] at hF
      iterate 19 refine au ?_
      cases hF
      exact ⟨_, _, rfl, eqA, entA⟩
    rw [hg12]
    try rw [hg12] at hF; dsimp only [cond_true, cond_false] at hF
    iterate 5 refine au ?_
    obtain ⟨r13, hx14, hF⟩ := bind_some hF
    refine Cx0 (s_l8Values_ok _ _ _ hx14) (fun _ => ?_)
    iterate 4 refine au ?_
    rcases Bool.eq_false_or_eq_true (!r13) with hg16 | hg16
    · rw [hg16]
      try rw [hg16] at hF; dsimp only [cond_true, cond_false] at hF
      iterate 13 refine au ?_
      cases hF
      exact ⟨_, _, rfl, eqA, entA⟩
    rw [hg16]
    try rw [hg16] at hF; dsimp only [cond_true, cond_false] at hF
    iterate 7 refine au ?_
    obtain ⟨r17, hx18, hF⟩ := bind_some hF
    refine Cx0 (s_AreFacts_ok _ _ _ _ _ hx18) (fun _ => ?_)
    iterate 4 refine au ?_
    rcases Bool.eq_false_or_eq_true (!r17) with hg20 | hg20
    · rw [hg20]
      try rw [hg20] at hF; dsimp only [cond_true, cond_false] at hF
      iterate 6 refine au ?_
      cases hF
      exact ⟨_, _, rfl, eqA, entA⟩
    rw [hg20]
    try rw [hg20] at hF; dsimp only [cond_true, cond_false] at hF
    iterate 5 refine au ?_
    obtain ⟨r21, hx22, hF⟩ := bind_some hF
    refine Cx0 (s_l1In_ok _ _ _ _ hx22) (fun _ => ?_)
    iterate 4 refine au ?_
    cases hF
    exact ⟨_, _, rfl, eqA, entA⟩
  rintro _ _ ⟨c24, g33, rfl, rfl, hE⟩
  replace hF := hO4
  clear hO4
  try dsimp only at hF
  refine K_ent hE ?_
  refine Cc (fun hb32 => ?_) (fun hb32 => ?_)
  · rw [if_pos hb32] at hF
    iterate 2 refine au ?_
    obtain ⟨r25, hx26, hF⟩ := bind_some hF
    refine Cx3 (s_l8Copy_ok _ _ _ _ _ hx26) (fun p27 => ?_)
    refine As (.agg [p27.1.v, p27.2.2.1.v, p27.2.2.2.2.1.v, (.int .i64 r25.Rounds)].toArray) ?_
    iterate 3 refine au ?_
    cases hF
    exact End_ret (p27.1, p27.2.1, p27.2.2.1, p27.2.2.2.2.1) (.cellA rfl rfl .h rfl ag73.h ty73.h.sz rfl rfl (.tmp rfl rfl .nil)) rfl (.frz (.t (.t .h)) frz_own (.frz (.t (.t (.t .h))) frz_own (.sel (.cons (.t (.t (.t .h))) (.rd (.t .h) rfl (.rd .h rfl .nil))))))
  rw [if_neg (nt hb32)] at hF
  iterate 5 refine au ?_
  obtain ⟨r28, hx29, hF⟩ := bind_some hF
  refine Cx3 (s_l8Step_ok _ _ _ _ _ _ _ _ _ hx29) (fun p30 => ?_)
  refine au ?_
  refine C_val (V_extract (l := [(.agg [p30.1.v, p30.2.2.1.v, p30.2.2.2.v, (.int .i64 r28.1.Rounds)].toArray), (.bool r28.2)]) (v := (.agg [p30.1.v, p30.2.2.1.v, p30.2.2.2.v, (.int .i64 r28.1.Rounds)].toArray)) (.tmp rfl rfl) rfl) ?_
  refine C_val (V_extract (l := [(.agg [p30.1.v, p30.2.2.1.v, p30.2.2.2.v, (.int .i64 r28.1.Rounds)].toArray), (.bool r28.2)]) (v := (.bool r28.2)) (.tmp rfl rfl) rfl) ?_
  refine AnW (fun k31 => ?_)
  refine As (.agg [p30.1.v, p30.2.2.1.v, p30.2.2.2.v, (.int .i64 r28.1.Rounds)].toArray) ?_
  iterate 5 refine au ?_
  refine As (.agg [p30.1.v, p30.2.2.1.v, p30.2.2.2.v, (.int .i64 r28.1.Rounds)].toArray) ?_
  iterate 3 refine au ?_
  cases hF
  exact End_ret (p30.1, p30.2.1, p30.2.2.1, p30.2.2.2) (.cellA rfl rfl .h rfl ag73.h ty73.h.sz rfl rfl (.tmp rfl rfl .nil)) rfl (.sel (.cons (.t (.t .h)) (.rd (.t (.t .h)) rfl (.rd (.t (.t (.t .h))) rfl .nil))))

/-! spec.ReachAll -/
def s_ReachAll_L1 (a_s : List Int) (a_l : List Method) (a_facts : List Fact) : Nat → (List Fact) → (List Int) → (List Access) → Int → Int → Option (Reached)
  | 0, _, _, _, _, _ => none
  | m50 + 1, c41, c44, c46, c48, c49 => if (decide ((c49 : Int) < 40)) then (
      (s_StepReach a_s a_l a_facts ({ Facts := c41, Values := c44, Log := c46, Rounds := c48 } : Reached)).bind fun r58 =>
      if (!r58.2) then (
        some ({ Facts := c41, Values := c44, Log := c46, Rounds := c48 } : Reached))
      else (
        s_ReachAll_L1 a_s a_l a_facts m50 r58.1.Facts r58.1.Values r58.1.Log r58.1.Rounds (IntKind.i64.wrap (c49 + 1))))
    else (
      some ({ Facts := c41, Values := c44, Log := c46, Rounds := c48 } : Reached))
def s_ReachAll (a_s : List Int) (a_l : List Method) (a_facts : List Fact) (a_seeds : List Int) : Option (Reached) :=
  (s_StartReach a_seeds).bind fun r2 =>
  s_ReachAll_L1 a_s a_l a_facts (((40 : Int) - 0).toNat + 2) r2.Facts r2.Values r2.Log r2.Rounds 0
theorem s_ReachAll_ok (a_s : List Int) (v0_0 : Sv) (a_l : List Method) (v1_0 : Sv) (a_facts : List Fact) (v2_0 : Sv) (a_seeds : List Int) (v3_0 : Sv) (R : Reached) (hF : s_ReachAll a_s a_l a_facts a_seeds = some R) :
    Fw.Spec Tryz.prog 39 [v0_0.v, v1_0.v, v2_0.v, v3_0.v] [crd (RdS 3 rdInt) v0_0.v a_s, crd (RdS 77 rd77) v1_0.v a_l, crd (RdS 80 rd80) v2_0.v a_facts, crd (RdS 3 rdInt) v3_0.v a_seeds] (fun p : Sv × Sv × Sv => (.agg [p.1.v, p.2.1.v, p.2.2.v, (.int .i64 R.Rounds)].toArray)) (fun p => [crd (RdS 80 rd80) p.1.v R.Facts, crd (RdS 3 rdInt) p.2.1.v R.Values, crd (RdS 141 rd141) p.2.2.v R.Log]) := by
  refine Spec_enter (n := 32) Tryz.func39 rfl rfl (rs := [.cell 8 73]) rfl rfl rfl ?_
  intro H0 F0
  unfold s_ReachAll at hF
  refine au ?_
  refine AnW (fun k1 => ?_)
  iterate 3 refine au ?_
  obtain ⟨r2, hx3, hF⟩ := bind_some hF
  refine Cx3 (s_StartReach_ok _ _ _ hx3) (fun p4 => ?_)
  refine AnW (fun k5 => ?_)
  refine As (.agg [p4.1.v, p4.2.2.1.v, p4.2.2.2.1.v, (.int .i64 r2.Rounds)].toArray) ?_
  iterate 5 refine au ?_
  refine CW_block (CW_loop (m := (((40 : Int) - 0).toNat + 2)) (fun m50 f' cs' => ∃ (g : Fr) (c41 : List Fact) (c44 : List Int) (c46 : List Access) (c48 : Int) (c49 : Int) (v42 : Sv) (F43 : List Nat) (v45 : Sv) (v47 : Sv), f' = updL g [(0, v0_0.v), (1, v1_0.v), (2, v2_0.v), (8, (.pointer (some ⟨k1, 0, some 0⟩))), (9, (.pointer (some ⟨k5, 0, some 0⟩))), (10, (.int .i64 c49))] ∧ Ent cs' [crd (RdS 3 rdInt) v0_0.v a_s, crd (RdS 77 rd77) v1_0.v a_l, crd (RdS 80 rd80) v2_0.v a_facts, cbox k1 73 (.agg [(.slice none 0 0), (.slice none 0 0), (.slice none 0 0), (.int .i64 0)].toArray), cbox k5 73 (.agg [v42.v, v45.v, v47.v, (.int .i64 c48)].toArray), cown (OwnS 80 ow80) F43 v42.v c41, crd (RdS 3 rdInt) v45.v c44, crd (RdS 141 rd141) v47.v c46] ∧ s_ReachAll_L1 a_s a_l a_facts m50 c41 c44 c46 c48 c49 = some R) ⟨_, _, _, _, _, _, p4.1, p4.2.1, p4.2.2.1, p4.2.2.2.1, eqA, (.frz (.t (.t (.t .h))) frz_own entA), hF⟩ ?_)
  clear hF
  rintro m50 _ _ ⟨g51, c41, c44, c46, c48, c49, v42, F43, v45, v47, rfl, hE, hF⟩
  refine K_ent hE ?_
  clear hE
  rcases m50 with _ | m50
  · rw [s_ReachAll_L1] at hF
    exact absurd hF (by simp)
  rw [s_ReachAll_L1] at hF
  iterate 5 refine au ?_
  refine Cc (fun hb63 => ?_) (fun hb63 => ?_)
  · rw [if_pos hb63] at hF
    iterate 2 refine au ?_
    refine K_frz (.t (.t (.t (.t (.t .h))))) frz_own ?_
    iterate 5 refine au ?_
    obtain ⟨r58, hx59, hF⟩ := bind_some hF
    refine Cx3 (s_StepReach_ok _ _ _ _ _ _ _ _ _ _ _ hx59) (fun p60 => ?_)
    refine au ?_
    refine C_val (V_extract (l := [(.agg [p60.1.v, p60.2.2.1.v, p60.2.2.2.v, (.int .i64 r58.1.Rounds)].toArray), (.bool r58.2)]) (v := (.agg [p60.1.v, p60.2.2.1.v, p60.2.2.2.v, (.int .i64 r58.1.Rounds)].toArray)) (.tmp rfl rfl) rfl) ?_
    refine C_val (V_extract (l := [(.agg [p60.1.v, p60.2.2.1.v, p60.2.2.2.v, (.int .i64 r58.1.Rounds)].toArray), (.bool r58.2)]) (v := (.bool r58.2)) (.tmp rfl rfl) rfl) ?_
    refine AnW (fun k61 => ?_)
    refine As (.agg [p60.1.v, p60.2.2.1.v, p60.2.2.2.v, (.int .i64 r58.1.Rounds)].toArray) ?_
    iterate 7 refine au ?_
    refine Cc (fun hb62 => ?_) (fun hb62 => ?_)
    · rw [if_pos hb62] at hF
      iterate 2 refine au ?_
      refine As (.agg [v42.v, v45.v, v47.v, (.int .i64 c48)].toArray) ?_
      iterate 2 refine au ?_
      cases hF
      exact Er (v42, v45, v47)
    rw [if_neg (nt hb62)] at hF
    iterate 3 refine au ?_
    refine As (.agg [p60.1.v, p60.2.2.1.v, p60.2.2.2.v, (.int .i64 r58.1.Rounds)].toArray) ?_
    iterate 6 refine au ?_
    exact ⟨m50, Nat.lt_succ_self _, _, _, _, _, _, _, p60.1, p60.2.1, p60.2.2.1, p60.2.2.2, eqA, entA, hF⟩
  rw [if_neg (nt hb63)] at hF
  iterate 6 refine au ?_
  refine As (.agg [v42.v, v45.v, v47.v, (.int .i64 c48)].toArray) ?_
  iterate 2 refine au ?_
  cases hF
  exact End_ret (v42, v45, v47) (.cellA rfl rfl .h rfl ag73.h ty73.h.sz rfl rfl .nil) rfl (.frz (.t (.t (.t (.t (.t .h))))) frz_own (.sel (.rd .h rfl (.rd (.t (.t (.t (.t (.t (.t .h)))))) rfl (.rd (.t (.t (.t (.t (.t (.t (.t .h))))))) rfl .nil)))))

/-! spec.SameFacts -/
def s_SameFacts_L1 (a_b : List Fact) : List Fact → Nat → Option (Bool)
  | [], k4 => some true
  | x6 :: rest5, k4 => (ix a_b (k4 : Int)).bind fun x16 =>
    (s_CompareFacts x6 x16).bind fun r23 =>
    if ((r23 : Int) != 0) then (
      some false)
    else (
      s_SameFacts_L1 a_b rest5 (k4 + 1))
def s_SameFacts (a_a : List Fact) (a_b : List Fact) : Option (Bool) :=
  if (((a_a.length : Int) : Int) != (a_b.length : Int)) then (
    some false)
  else (
    s_SameFacts_L1 a_b a_a 0)
theorem s_SameFacts_ok (a_a : List Fact) (v0_0 : Sv) (a_b : List Fact) (v1_0 : Sv) (R : Bool) (hF : s_SameFacts a_a a_b = some R) :
    Fw.Spec Tryz.prog 87 [v0_0.v, v1_0.v] [crd (RdS 80 rd80) v0_0.v a_a, crd (RdS 80 rd80) v1_0.v a_b] (fun _ : Unit => (.bool R)) (fun _ => []) := by
  refine Spec_enter (n := 27) Tryz.func87 rfl rfl (rs := [.tmp 4]) rfl rfl rfl ?_
  intro H0 F0
  unfold s_SameFacts at hF
  iterate 11 refine au ?_
  refine Cc (fun hb28 => ?_) (fun hb28 => ?_)
  · rw [if_pos hb28] at hF
    iterate 4 refine au ?_
    cases hF
    exact Er ()
  rw [if_neg (nt hb28)] at hF
  iterate 5 refine au ?_
  refine CW_block (CW_loop (m := a_a.length) (fun m2 f' cs' => ∃ (g : Fr) (k4 : Nat) (rest5 : List Fact), m2 = rest5.length ∧ f' = updL g [(0, v0_0.v), (1, v1_0.v), (5, (.int .i64 (k4 : Int)))] ∧ List.drop k4 a_a = rest5 ∧ Ent cs' [crd (RdS 80 rd80) v0_0.v a_a, crd (RdS 80 rd80) v1_0.v a_b] ∧ s_SameFacts_L1 a_b rest5 k4 = some R) ⟨_, 0, _, rfl, eqA, rfl, entA, hF⟩ ?_)
  clear hF
  rintro m2 _ _ ⟨g3, k4, rest5, rfl, rfl, hd7, hE, hF⟩
  refine K_ent hE ?_
  clear hE
  refine K_pure (c := crd (RdS 80 rd80) v0_0.v a_a) .h crd_bound (fun hbd12 => ?_)
  rcases rest5 with _ | ⟨x6, rest5⟩
  · have hk8 := List.drop_eq_nil_iff.1 hd7
    rw [s_SameFacts_L1] at hF
    iterate 7 refine au ?_
    refine CdF ?_
    iterate 8 refine au ?_
    cases hF
    exact Er ()
  obtain ⟨hk8, hx9, hd10⟩ := drop_cons hd7
  rw [s_SameFacts_L1] at hF
  iterate 7 refine au ?_
  refine CdT ?_
  iterate 2 refine au ?_
  refine K_draw [0, 1, 2, 3, 4, 5, 6, 7, 8, 9] [0, 0, 3, 7, 0, 0, 48, 112, 255, 511] [8] mixed (by decide +kernel) ?_
  iterate 2 refine du ?_
  refine Di hx9 (fun k13 j14 => ?_)
  refine DlA1 (ul80_0_80 x6) la80_0_80 (fun p15 => ?_)
  iterate 2 refine du ?_
  obtain ⟨x16, hx17, hF⟩ := bind_some hF
  obtain ⟨hp18, hx19⟩ := ix_some hx17
  refine Di hx19 (fun k20 j21 => ?_)
  refine DlA1 (ul80_0_80 x16) la80_0_80 (fun p22 => ?_)
  obtain ⟨r23, hx24, hF⟩ := bind_some hF
  refine Dx0 (s_CompareFacts_ok _ _ _ _ _ hx24) (fun _ => ?_)
  iterate 2 refine du ?_
  refine Cc (fun hb27 => ?_) (fun hb27 => ?_)
  · rw [if_pos hb27] at hF
    iterate 4 refine au ?_
    cases hF
    exact Er ()
  rw [if_neg (nt hb27)] at hF
  iterate 6 refine au ?_
  rw [wk k4]
  exact ⟨_, Nat.lt_succ_self _, _, k4 + 1, rest5, rfl, eqA, hd10, entA, hF⟩

/-! spec.SameAccesses -/
def s_SameAccesses_L1 (a_b : List Access) : List Access → Nat → Option (Bool)
  | [], k4 => some true
  | x6 :: rest5, k4 => (ix a_b (k4 : Int)).bind fun x16 =>
    (s_l5Same x6 x16).bind fun r23 =>
    if (!r23) then (
      some false)
    else (
      s_SameAccesses_L1 a_b rest5 (k4 + 1))
def s_SameAccesses (a_a : List Access) (a_b : List Access) : Option (Bool) :=
  if (((a_a.length : Int) : Int) != (a_b.length : Int)) then (
    some false)
  else (
    s_SameAccesses_L1 a_b a_a 0)
theorem s_SameAccesses_ok (a_a : List Access) (v0_0 : Sv) (a_b : List Access) (v1_0 : Sv) (R : Bool) (hF : s_SameAccesses a_a a_b = some R) :
    Fw.Spec Tryz.prog 88 [v0_0.v, v1_0.v] [crd (RdS 141 rd141) v0_0.v a_a, crd (RdS 141 rd141) v1_0.v a_b] (fun _ : Unit => (.bool R)) (fun _ => []) := by
  refine Spec_enter (n := 27) Tryz.func88 rfl rfl (rs := [.tmp 4]) rfl rfl rfl ?_
  intro H0 F0
  unfold s_SameAccesses at hF
  iterate 11 refine au ?_
  refine Cc (fun hb28 => ?_) (fun hb28 => ?_)
  · rw [if_pos hb28] at hF
    iterate 4 refine au ?_
    cases hF
    exact Er ()
  rw [if_neg (nt hb28)] at hF
  iterate 5 refine au ?_
  refine CW_block (CW_loop (m := a_a.length) (fun m2 f' cs' => ∃ (g : Fr) (k4 : Nat) (rest5 : List Access), m2 = rest5.length ∧ f' = updL g [(0, v0_0.v), (1, v1_0.v), (5, (.int .i64 (k4 : Int)))] ∧ List.drop k4 a_a = rest5 ∧ Ent cs' [crd (RdS 141 rd141) v0_0.v a_a, crd (RdS 141 rd141) v1_0.v a_b] ∧ s_SameAccesses_L1 a_b rest5 k4 = some R) ⟨_, 0, _, rfl, eqA, rfl, entA, hF⟩ ?_)
  clear hF
  rintro m2 _ _ ⟨g3, k4, rest5, rfl, rfl, hd7, hE, hF⟩
  refine K_ent hE ?_
  clear hE
  refine K_pure (c := crd (RdS 141 rd141) v0_0.v a_a) .h crd_bound (fun hbd12 => ?_)
  rcases rest5 with _ | ⟨x6, rest5⟩
  · have hk8 := List.drop_eq_nil_iff.1 hd7
    rw [s_SameAccesses_L1] at hF
    iterate 7 refine au ?_
    refine CdF ?_
    iterate 8 refine au ?_
    cases hF
    exact Er ()
  obtain ⟨hk8, hx9, hd10⟩ := drop_cons hd7
  rw [s_SameAccesses_L1] at hF
  iterate 7 refine au ?_
  refine CdT ?_
  iterate 2 refine au ?_
  refine K_draw [0, 1, 2, 3, 4, 5, 6, 7, 8, 9] [0, 0, 3, 7, 0, 0, 48, 112, 255, 511] [8] mixed (by decide +kernel) ?_
  iterate 2 refine du ?_
  refine Di hx9 (fun k13 j14 => ?_)
  refine DlA1 (ul141_0_141 x6) la141_0_141 (fun p15 => ?_)
  iterate 2 refine du ?_
  obtain ⟨x16, hx17, hF⟩ := bind_some hF
  obtain ⟨hp18, hx19⟩ := ix_some hx17
  refine Di hx19 (fun k20 j21 => ?_)
  refine DlA1 (ul141_0_141 x16) la141_0_141 (fun p22 => ?_)
  obtain ⟨r23, hx24, hF⟩ := bind_some hF
  refine Dx0 (s_l5Same_ok _ _ _ _ _ hx24) (fun _ => ?_)
  iterate 2 refine du ?_
  refine Cc (fun hb27 => ?_) (fun hb27 => ?_)
  · rw [if_pos hb27] at hF
    iterate 4 refine au ?_
    cases hF
    exact Er ()
  rw [if_neg (nt hb27)] at hF
  iterate 6 refine au ?_
  rw [wk k4]
  exact ⟨_, Nat.lt_succ_self _, _, k4 + 1, rest5, rfl, eqA, hd10, entA, hF⟩

/-! spec.EqualReached -/
def s_EqualReached (a_a : Reached) (a_b : Reached) : Option (Bool) :=
  ((s_SameFacts a_a.Facts a_b.Facts).bind fun r5 =>
    bif r5 then ((s_l2Ints a_a.Values a_b.Values).bind fun r9 =>
      bif r9 then ((s_SameAccesses a_a.Log a_b.Log).bind fun r13 =>
        bif r13 then (some ((a_a.Rounds : Int) == a_b.Rounds))
        else (some false))
      else (some false))
    else (some false)).bind fun o3 =>
  match o3 with
  | c17 => some c17
theorem s_EqualReached_ok (a_a : Reached) (v0_0 : Sv) (v0_1 : Sv) (v0_2 : Sv) (a_b : Reached) (v1_0 : Sv) (v1_1 : Sv) (v1_2 : Sv) (R : Bool) (hF : s_EqualReached a_a a_b = some R) :
    Fw.Spec Tryz.prog 55 [(.agg [v0_0.v, v0_1.v, v0_2.v, (.int .i64 a_a.Rounds)].toArray), (.agg [v1_0.v, v1_1.v, v1_2.v, (.int .i64 a_b.Rounds)].toArray)] [crd (RdS 80 rd80) v0_0.v a_a.Facts, crd (RdS 3 rdInt) v0_1.v a_a.Values, crd (RdS 141 rd141) v0_2.v a_a.Log, crd (RdS 80 rd80) v1_0.v a_b.Facts, crd (RdS 3 rdInt) v1_1.v a_b.Values, crd (RdS 141 rd141) v1_2.v a_b.Log] (fun _ : Unit => (.bool R)) (fun _ => []) := by
  refine Spec_enter (n := 31) Tryz.func55 rfl rfl (rs := [.tmp 4]) rfl rfl rfl ?_
  intro H0 F0
  unfold s_EqualReached at hF
  refine au ?_
  refine AbR (fun k1 => ?_)
  refine AbR (fun k2 => ?_)
  iterate 2 refine au ?_
  obtain ⟨o3, hio3, hO4⟩ := bind_some hF
  refine au ?_
  refine C_cut (fun f' cs' => ∃ (c17 : Bool) (g : Fr), c17 = o3 ∧ f' = updL g [(4, (.bool c17))] ∧ Ent cs' []) ?_ ?_
  · replace hF := hio3
    iterate 4 refine au ?_
    obtain ⟨r5, hx6, hF⟩ := bind_some hF
    refine Cx0 (s_SameFacts_ok _ _ _ _ _ hx6) (fun _ => ?_)
    refine au ?_
    rcases Bool.eq_false_or_eq_true r5 with hg8 | hg8
    · rw [hg8]
      try rw [hg8] at hF; dsimp only [cond_true, cond_false] at hF
      iterate 9 refine au ?_
      obtain ⟨r9, hx10, hF⟩ := bind_some hF
      refine Cx0 (s_l2Ints_ok _ _ _ _ _ hx10) (fun _ => ?_)
      iterate 2 refine au ?_
      rcases Bool.eq_false_or_eq_true r9 with hg12 | hg12
      · rw [hg12]
        try rw [hg12] at hF; dsimp only [cond_true, cond_false] at hF
        iterate 9 refine au ?_
        obtain ⟨r13, hx14, hF⟩ := bind_some hF
        refine Cx0 (s_SameAccesses_ok _ _ _ _ _ hx14) (fun _ => ?_)
        iterate 2 refine au ?_
        rcases Bool.eq_false_or_eq_true r13 with hg16 | hg16
        · rw [hg16]
          try rw [hg16] at hF; dsimp only [cond_true, cond_false] at hF
          iterate 13 refine au ?_
          cases hF
          exact ⟨_, _, rfl, eqA, entA⟩
        rw [hg16]
        try rw [hg16] at hF; dsimp only [cond_true, cond_false] at hF
        iterate 8 refine au ?_
        cases hF
        exact ⟨_, _, rfl, eqA, entA⟩
      rw [hg12]
      try rw [hg12] at hF; dsimp only [cond_true, cond_false] at hF
      iterate 15 refine au ?_
      cases hF
      exact ⟨_, _, rfl, eqA, entA⟩
    rw [hg8]
    try rw [hg8] at hF; dsimp only [cond_true, cond_false] at hF
    iterate 22 refine au ?_
    cases hF
    exact ⟨_, _, rfl, eqA, entA⟩
  rintro _ _ ⟨c17, g18, rfl, rfl, hE⟩
  replace hF := hO4
  clear hO4
  try dsimp only at hF
  refine K_ent hE ?_
  refine au ?_
  cases hF
  exact Er ()

/-! spec.l4Copy -/
def s_l4Copy (a_b : Binding) : Option (Binding) :=
  (app ([] : List Int) a_b.Vars).bind fun z5 =>
  (app ([] : List Int) a_b.Values).bind fun z8 =>
  some ({ Vars := z5, Values := z8 } : Binding)
theorem s_l4Copy_ok (a_b : Binding) (v0_0 : Sv) (v0_1 : Sv) (R : Binding) (hF : s_l4Copy a_b = some R) :
    Fw.Spec Tryz.prog 184 [(.agg [v0_0.v, v0_1.v].toArray)] [crd (RdS 3 rdInt) v0_0.v a_b.Vars, crd (RdS 3 rdInt) v0_1.v a_b.Values] (fun p : Sv × List Nat × Sv × List Nat => (.agg [p.1.v, p.2.2.1.v].toArray)) (fun p => [cown (OwnS 3 (roE rdInt)) p.2.1 p.1.v R.Vars, cown (OwnS 3 (roE rdInt)) p.2.2.2 p.2.2.1.v R.Values]) := by
  refine Spec_enter (n := 12) Tryz.func184 rfl rfl (rs := [.cell 2 126]) rfl rfl rfl ?_
  intro H0 F0
  unfold s_l4Copy at hF
  refine au ?_
  refine AbR (fun k1 => ?_)
  refine AnW (fun k2 => ?_)
  refine au ?_
  refine K_draw [0, 1, 2, 4, 5, 6, 3, 7, 8, 9] [0, 0, 2, 7, 0, 0, 32, 127, 255, 511] [3, 7, 9] mixed (by decide +kernel) ?_
  refine D_new rfl .no rfl (fun ha => N_buildSliceT (g := true) (len := 0) (parts := []) sl22.h ty3.h .nil (vs := []) rfl rfl rfl (by simp)) (fun k3 => ?_)
  refine Dv1 (.cons .h .nil) (own_lit (Ro := (roE rdInt)) (E := 3) (F := []) (xs := ([] : List Int)) MkL_nil rfl rfl) ?_
  iterate 2 refine du ?_
  refine D_new rfl .no rfl (fun ha => N_buildSliceT (g := true) (len := 0) (parts := []) sl22.h ty3.h .nil (vs := []) rfl rfl rfl (by simp)) (fun k4 => ?_)
  refine Dv1 (.cons .h .nil) (own_lit (Ro := (roE rdInt)) (E := 3) (F := []) (xs := ([] : List Int)) MkL_nil rfl rfl) ?_
  iterate 2 refine du ?_
  obtain ⟨z5, hx6, hF⟩ := bind_some hF
  refine D_act1 rfl rfl .no (.cons (.t .h) (.rd (.t (.t (.t .h))) rfl .nil)) (.own .h (by simp [cown]) (.dep rfl .nil)) (fun ha => X_appendO (Ro := (roE rdInt)) sl22.h ni22 ty3.h rfl rfl rfl (EN ha (.tmp rfl rfl) rfl) (EN ha (.tmp rfl rfl) rfl) hx6 src_rd) (fun p7 => ?_)
  obtain ⟨z8, hx9, hF⟩ := bind_some hF
  refine D_act1 rfl rfl .no (.cons (.t .h) (.rd (.t (.t (.t (.t .h)))) rfl .nil)) (.dep rfl (.dep rfl .nil)) (fun ha => X_appendO (Ro := (roE rdInt)) sl22.h ni22 ty3.h rfl rfl rfl (EN ha (.tmp rfl rfl) rfl) (EN ha (.tmp rfl rfl) rfl) hx9 src_rd) (fun p10 => ?_)
  refine D_val rfl .no (fun ha => V_build ty126.h rfl (vs := [p7.1.v, p10.1.v]) (.cons (EN ha (.tmp rfl rfl) rfl) (.cons (EN ha (.tmp rfl rfl) rfl) .nil)) (cells := [p7.1.v, p10.1.v]) rfl) ?_
  refine D_act1 rfl rfl .no (.cons (.t (.t .h)) .nil) (.dep rfl (.dep rfl .nil)) (fun ha => X_storeB (e' := (.agg [p7.1.v, p10.1.v].toArray)) (v := (.agg [p7.1.v, p10.1.v].toArray)) ty126.h.sz (EN ha (.tmp rfl rfl) rfl) (EN ha (.tmp rfl rfl) rfl) rfl rfl rfl rfl rfl) (fun _ => ?_)
  refine du ?_
  refine au ?_
  cases hF
  exact Er (p7.1, p7.2, p10.1, p10.2)

/-! spec.ValueOf -/
def s_ValueOf_L1 (a_b : Binding) (a_term : Int) : Nat → Int → Option (Int)
  | 0, _ => none
  | m6 + 1, c5 => if ((decide ((c5 : Int) < (a_b.Vars.length : Int))) && (decide ((c5 : Int) < (a_b.Values.length : Int)))) then (
      (ix a_b.Vars c5).bind fun x16 =>
      if ((x16 : Int) == a_term) then (
        (ix a_b.Values c5).bind fun x22 =>
        some x22)
      else (
        s_ValueOf_L1 a_b a_term m6 (IntKind.i64.wrap (c5 + 1))))
    else (
      some (-1))
def s_ValueOf (a_b : Binding) (a_term : Int) : Option (Int) :=
  (s_IsVar a_term).bind fun r2 =>
  if (!r2) then (
    some a_term)
  else (
    s_ValueOf_L1 a_b a_term (((a_b.Vars.length : Int) - 0).toNat + 2) 0)
theorem s_ValueOf_ok (a_b : Binding) (v0_0 : Sv) (v0_1 : Sv) (a_term : Int) (R : Int) (hF : s_ValueOf a_b a_term = some R) :
    Fw.Spec Tryz.prog 107 [(.agg [v0_0.v, v0_1.v].toArray), (.int .i64 a_term)] [crd (RdS 3 rdInt) v0_0.v a_b.Vars, crd (RdS 3 rdInt) v0_1.v a_b.Values] (fun _ : Unit => (.int .i64 R)) (fun _ => []) := by
  refine Spec_enter (n := 36) Tryz.func107 rfl rfl (rs := [.tmp 4]) rfl rfl rfl ?_
  intro H0 F0
  unfold s_ValueOf at hF
  refine au ?_
  refine AbR (fun k1 => ?_)
  iterate 5 refine au ?_
  obtain ⟨r2, hx3, hF⟩ := bind_some hF
  refine Cx0 (s_IsVar_ok _ _ hx3) (fun _ => ?_)
  iterate 2 refine au ?_
  refine Cc (fun hb30 => ?_) (fun hb30 => ?_)
  · rw [if_pos hb30] at hF
    iterate 5 refine au ?_
    cases hF
    exact Er ()
  rw [if_neg (nt hb30)] at hF
  iterate 5 refine au ?_
  refine CW_block (CW_loop (m := (((a_b.Vars.length : Int) - 0).toNat + 2)) (fun m6 f' cs' => ∃ (g : Fr) (c5 : Int), f' = updL g [(1, (.int .i64 a_term)), (2, (.pointer (some ⟨k1, 0, some 0⟩))), (5, (.int .i64 c5))] ∧ Ent cs' [cboR k1 126 (.agg [v0_0.v, v0_1.v].toArray), crd (RdS 3 rdInt) v0_0.v a_b.Vars, crd (RdS 3 rdInt) v0_1.v a_b.Values] ∧ s_ValueOf_L1 a_b a_term m6 c5 = some R) ⟨_, _, eqA, entA, hF⟩ ?_)
  clear hF
  rintro m6 _ _ ⟨g7, c5, rfl, hE, hF⟩
  refine K_ent hE ?_
  clear hE
  rcases m6 with _ | m6
  · rw [s_ValueOf_L1] at hF
    exact absurd hF (by simp)
  rw [s_ValueOf_L1] at hF
  iterate 2 refine au ?_
  refine C_cut (fun f' cs' => ∃ (g : Fr), f' = updL g [(1, (.int .i64 a_term)), (2, (.pointer (some ⟨k1, 0, some 0⟩))), (5, (.int .i64 c5)), (21, (.bool ((decide ((c5 : Int) < (a_b.Vars.length : Int))) && (decide ((c5 : Int) < (a_b.Values.length : Int))))))] ∧ Ent cs' [cboR k1 126 (.agg [v0_0.v, v0_1.v].toArray), crd (RdS 3 rdInt) v0_0.v a_b.Vars, crd (RdS 3 rdInt) v0_1.v a_b.Values]) ?_ ?_
  · iterate 6 refine au ?_
    rcases Bool.eq_false_or_eq_true (decide ((c5 : Int) < (a_b.Vars.length : Int))) with hg14 | hg14
    · rw [hg14]
      try rw [hg14] at hF; dsimp only [cond_true, cond_false] at hF
      iterate 12 refine au ?_
      exact ⟨_, eqA, entA⟩
    rw [hg14]
    try rw [hg14] at hF; dsimp only [cond_true, cond_false] at hF
    iterate 7 refine au ?_
    exact ⟨_, eqA, entA⟩
  rintro _ _ ⟨g15, rfl, hE⟩
  refine K_ent hE ?_
  refine Cc (fun hb29 => ?_) (fun hb29 => ?_)
  · rw [if_pos hb29] at hF
    iterate 6 refine au ?_
    obtain ⟨x16, hx17, hF⟩ := bind_some hF
    obtain ⟨hp18, hx19⟩ := ix_some hx17
    refine Ai hx19 (fun k20 j21 => ?_)
    refine Al ls3_0 ?_
    iterate 3 refine au ?_
    refine Cc (fun hb28 => ?_) (fun hb28 => ?_)
    · rw [if_pos hb28] at hF
      iterate 4 refine au ?_
      obtain ⟨x22, hx23, hF⟩ := bind_some hF
      obtain ⟨hp24, hx25⟩ := ix_some hx23
      refine Ai hx25 (fun k26 j27 => ?_)
      refine Al ls3_0 ?_
      iterate 3 refine au ?_
      cases hF
      exact Er ()
    rw [if_neg (nt hb28)] at hF
    iterate 6 refine au ?_
    exact ⟨m6, Nat.lt_succ_self _, _, _, eqA, entA, hF⟩
  rw [if_neg (nt hb29)] at hF
  iterate 8 refine au ?_
  cases hF
  exact Er ()

/-! spec.l4Bound -/
def s_l4Bound_L1 (a_b : Binding) (a_v : Int) : Nat → Int → Option (Bool)
  | 0, _ => none
  | m3 + 1, c2 => if ((decide ((c2 : Int) < (a_b.Vars.length : Int))) && (decide ((c2 : Int) < (a_b.Values.length : Int)))) then (
      (ix a_b.Vars c2).bind fun x13 =>
      if ((x13 : Int) == a_v) then (
        some true)
      else (
        s_l4Bound_L1 a_b a_v m3 (IntKind.i64.wrap (c2 + 1))))
    else (
      some false)
def s_l4Bound (a_b : Binding) (a_v : Int) : Option (Bool) :=
  s_l4Bound_L1 a_b a_v (((a_b.Vars.length : Int) - 0).toNat + 2) 0
theorem s_l4Bound_ok (a_b : Binding) (v0_0 : Sv) (v0_1 : Sv) (a_v : Int) (R : Bool) (hF : s_l4Bound a_b a_v = some R) :
    Fw.Spec Tryz.prog 185 [(.agg [v0_0.v, v0_1.v].toArray), (.int .i64 a_v)] [crd (RdS 3 rdInt) v0_0.v a_b.Vars, crd (RdS 3 rdInt) v0_1.v a_b.Values] (fun _ : Unit => (.bool R)) (fun _ => []) := by
  refine Spec_enter (n := 27) Tryz.func185 rfl rfl (rs := [.tmp 4]) rfl rfl rfl ?_
  intro H0 F0
  unfold s_l4Bound at hF
  refine au ?_
  refine AbR (fun k1 => ?_)
  iterate 6 refine au ?_
  refine CW_block (CW_loop (m := (((a_b.Vars.length : Int) - 0).toNat + 2)) (fun m3 f' cs' => ∃ (g : Fr) (c2 : Int), f' = updL g [(1, (.int .i64 a_v)), (2, (.pointer (some ⟨k1, 0, some 0⟩))), (5, (.int .i64 c2))] ∧ Ent cs' [cboR k1 126 (.agg [v0_0.v, v0_1.v].toArray), crd (RdS 3 rdInt) v0_0.v a_b.Vars, crd (RdS 3 rdInt) v0_1.v a_b.Values] ∧ s_l4Bound_L1 a_b a_v m3 c2 = some R) ⟨_, _, eqA, entA, hF⟩ ?_)
  clear hF
  rintro m3 _ _ ⟨g4, c2, rfl, hE, hF⟩
  refine K_ent hE ?_
  clear hE
  rcases m3 with _ | m3
  · rw [s_l4Bound_L1] at hF
    exact absurd hF (by simp)
  rw [s_l4Bound_L1] at hF
  iterate 2 refine au ?_
  refine C_cut (fun f' cs' => ∃ (g : Fr), f' = updL g [(1, (.int .i64 a_v)), (2, (.pointer (some ⟨k1, 0, some 0⟩))), (5, (.int .i64 c2)), (17, (.bool ((decide ((c2 : Int) < (a_b.Vars.length : Int))) && (decide ((c2 : Int) < (a_b.Values.length : Int))))))] ∧ Ent cs' [cboR k1 126 (.agg [v0_0.v, v0_1.v].toArray), crd (RdS 3 rdInt) v0_0.v a_b.Vars, crd (RdS 3 rdInt) v0_1.v a_b.Values]) ?_ ?_
  · iterate 6 refine au ?_
    rcases Bool.eq_false_or_eq_true (decide ((c2 : Int) < (a_b.Vars.length : Int))) with hg11 | hg11
    · rw [hg11]
      try rw [hg11] at hF; dsimp only [cond_true, cond_false] at hF
      iterate 12 refine au ?_
      exact ⟨_, eqA, entA⟩
    rw [hg11]
    try rw [hg11] at hF; dsimp only [cond_true, cond_false] at hF
    iterate 7 refine au ?_
    exact ⟨_, eqA, entA⟩
  rintro _ _ ⟨g12, rfl, hE⟩
  refine K_ent hE ?_
  refine Cc (fun hb20 => ?_) (fun hb20 => ?_)
  · rw [if_pos hb20] at hF
    iterate 6 refine au ?_
    obtain ⟨x13, hx14, hF⟩ := bind_some hF
    obtain ⟨hp15, hx16⟩ := ix_some hx14
    refine Ai hx16 (fun k17 j18 => ?_)
    refine Al ls3_0 ?_
    iterate 3 refine au ?_
    refine Cc (fun hb19 => ?_) (fun hb19 => ?_)
    · rw [if_pos hb19] at hF
      iterate 4 refine au ?_
      cases hF
      exact Er ()
    rw [if_neg (nt hb19)] at hF
    iterate 6 refine au ?_
    exact ⟨m3, Nat.lt_succ_self _, _, _, eqA, entA, hF⟩
  rw [if_neg (nt hb20)] at hF
  iterate 8 refine au ?_
  cases hF
  exact Er ()

/-! spec.l4Bind -/
def s_l4Bind (a_b : Binding) (a_v : Int) (a_x : Int) : Option (Binding) :=
  (app ([] : List Int) a_b.Vars).bind fun z7 =>
  (app z7 ([a_v] : List Int)).bind fun z10 =>
  (app ([] : List Int) a_b.Values).bind fun z13 =>
  (app z13 ([a_x] : List Int)).bind fun z16 =>
  some ({ Vars := z10, Values := z16 } : Binding)
theorem s_l4Bind_ok (a_b : Binding) (v0_0 : Sv) (v0_1 : Sv) (a_v : Int) (a_x : Int) (R : Binding) (hF : s_l4Bind a_b a_v a_x = some R) :
    Fw.Spec Tryz.prog 186 [(.agg [v0_0.v, v0_1.v].toArray), (.int .i64 a_v), (.int .i64 a_x)] [crd (RdS 3 rdInt) v0_0.v a_b.Vars, crd (RdS 3 rdInt) v0_1.v a_b.Values] (fun p : Sv × List Nat × Sv × List Nat => (.agg [p.1.v, p.2.2.1.v].toArray)) (fun p => [cown (OwnS 3 (roE rdInt)) p.2.1 p.1.v R.Vars, cown (OwnS 3 (roE rdInt)) p.2.2.2 p.2.2.1.v R.Values]) := by
  refine Spec_enter (n := 22) Tryz.func186 rfl rfl (rs := [.cell 6 126]) rfl rfl rfl ?_
  intro H0 F0
  unfold s_l4Bind at hF
  refine au ?_
  refine AbR (fun k1 => ?_)
  refine AnW (fun k2 => ?_)
  refine au ?_
  refine K_draw [0, 1, 2, 4, 5, 7, 8, 9, 11, 12, 3, 6, 10, 13, 14, 15] [0, 0, 2, 7, 0, 16, 63, 0, 0, 256, 1023, 0, 2048, 8191, 16383, 32767] [3, 6, 10, 13, 15] mixed (by decide +kernel) ?_
  refine D_new rfl .no rfl (fun ha => N_buildSliceT (g := true) (len := 0) (parts := []) sl22.h ty3.h .nil (vs := []) rfl rfl rfl (by simp)) (fun k3 => ?_)
  refine Dv1 (.cons .h .nil) (own_lit (Ro := (roE rdInt)) (E := 3) (F := []) (xs := ([] : List Int)) MkL_nil rfl rfl) ?_
  iterate 3 refine du ?_
  refine D_new rfl .no rfl (fun ha => N_buildSliceT (g := true) (len := 1) (parts := [(0, .tmp 11)]) sl22.h ty3.h (.cons (EN ha (.tmp rfl rfl) rfl) .nil) (vs := [(.int .i64 a_v)]) rfl rfl rfl (by intro v hv; simp at hv; rcases hv with rfl <;> rfl)) (fun k4 => ?_)
  refine Dv1 (.cons .h .nil) (own_lit (Ro := (roE rdInt)) (E := 3) (F := ([] ++ [])) (xs := ([a_v] : List Int)) (MkL_cons (Mk_pure (fun _ => rfl)) MkL_nil apps) rfl rfl) ?_
  refine D_new rfl .no rfl (fun ha => N_buildSliceT (g := true) (len := 0) (parts := []) sl22.h ty3.h .nil (vs := []) rfl rfl rfl (by simp)) (fun k5 => ?_)
  refine Dv1 (.cons .h .nil) (own_lit (Ro := (roE rdInt)) (E := 3) (F := []) (xs := ([] : List Int)) MkL_nil rfl rfl) ?_
  iterate 3 refine du ?_
  refine D_new rfl .no rfl (fun ha => N_buildSliceT (g := true) (len := 1) (parts := [(0, .tmp 18)]) sl22.h ty3.h (.cons (EN ha (.tmp rfl rfl) rfl) .nil) (vs := [(.int .i64 a_x)]) rfl rfl rfl (by intro v hv; simp at hv; rcases hv with rfl <;> rfl)) (fun k6 => ?_)
  refine Dv1 (.cons .h .nil) (own_lit (Ro := (roE rdInt)) (E := 3) (F := ([] ++ [])) (xs := ([a_x] : List Int)) (MkL_cons (Mk_pure (fun _ => rfl)) MkL_nil apps) rfl rfl) ?_
  obtain ⟨z7, hx8, hF⟩ := bind_some hF
  refine D_act1 rfl rfl .no (.cons (.t (.t (.t .h))) (.rd (.t (.t (.t (.t (.t .h))))) rfl .nil)) (.own .h (by simp [cown]) (.own (.t .h) (by simp [cown]) (.own (.t (.t .h)) (by simp [cown]) (.dep rfl .nil)))) (fun ha => X_appendO (Ro := (roE rdInt)) sl22.h ni22 ty3.h rfl rfl rfl (EN ha (.tmp rfl rfl) rfl) (EN ha (.tmp rfl rfl) rfl) hx8 src_rd) (fun p9 => ?_)
  obtain ⟨z10, hx11, hF⟩ := bind_some hF
  refine D_act1 rfl rfl .no (.cons .h (.cons (.t (.t .h)) .nil)) (.own .h (by simp [cown]) (.own (.t .h) (by simp [cown]) (.dep rfl (.dep rfl .nil)))) (fun ha => X_appendO (Ro := (roE rdInt)) sl22.h ni22 ty3.h rfl rfl rfl (EN ha (.tmp rfl rfl) rfl) (EN ha (.tmp rfl rfl) rfl) hx11 src_own) (fun p12 => ?_)
  obtain ⟨z13, hx14, hF⟩ := bind_some hF
  refine D_act1 rfl rfl .no (.cons (.t (.t .h)) (.rd (.t (.t (.t (.t (.t .h))))) rfl .nil)) (.own (.t .h) (by simp [cown]) (.dep rfl (.dep rfl (.dep rfl .nil)))) (fun ha => X_appendO (Ro := (roE rdInt)) sl22.h ni22 ty3.h rfl rfl rfl (EN ha (.tmp rfl rfl) rfl) (EN ha (.tmp rfl rfl) rfl) hx14 src_rd) (fun p15 => ?_)
  obtain ⟨z16, hx17, hF⟩ := bind_some hF
  refine D_act1 rfl rfl .no (.cons .h (.cons (.t .h) .nil)) (.dep rfl (.dep rfl (.dep rfl (.dep rfl .nil)))) (fun ha => X_appendO (Ro := (roE rdInt)) sl22.h ni22 ty3.h rfl rfl rfl (EN ha (.tmp rfl rfl) rfl) (EN ha (.tmp rfl rfl) rfl) hx17 src_own) (fun p18 => ?_)
  refine D_val rfl .no (fun ha => V_build ty126.h rfl (vs := [p12.1.v, p18.1.v]) (.cons (EN ha (.tmp rfl rfl) rfl) (.cons (EN ha (.tmp rfl rfl) rfl) .nil)) (cells := [p12.1.v, p18.1.v]) rfl) ?_
  refine D_act1 rfl rfl .no (.cons (.t (.t .h)) .nil) (.dep rfl (.dep rfl (.dep rfl (.dep rfl .nil)))) (fun ha => X_storeB (e' := (.agg [p12.1.v, p18.1.v].toArray)) (v := (.agg [p12.1.v, p18.1.v].toArray)) ty126.h.sz (EN ha (.tmp rfl rfl) rfl) (EN ha (.tmp rfl rfl) rfl) rfl rfl rfl rfl rfl) (fun _ => ?_)
  refine du ?_
  refine au ?_
  cases hF
  exact Er (p12.1, p12.2, p18.1, p18.2)

/-! spec.MatchAtom -/
def s_MatchAtom_L1 (a_f : Fact) : List Int → Nat → (List Int) → (List Int) → Option (Binding × Bool)
  | [], k80, c71, c74 => some (({ Vars := c71, Values := c74 } : Binding), true)
  | x82 :: rest81, k80, c71, c74 => (((s_ValueOf ({ Vars := c71, Values := c74 } : Binding) x82).bind fun r93 =>
      ((s_IsVar x82).bind fun r100 =>
        bif r100 then ((s_l4Bound ({ Vars := c71, Values := c74 } : Binding) x82).bind fun r106 =>
          some (!r106))
        else (some false)).bind fun o96 =>
      match o96 with
      | c109 => if c109 then (
          (ix a_f.Values (k80 : Int)).bind fun x112 =>
          (s_l4Bind ({ Vars := c71, Values := c74 } : Binding) x82 x112).bind fun r118 =>
          some (.inr (r118.Vars, r118.Values)))
        else (
          (ix a_f.Values (k80 : Int)).bind fun x121 =>
          if ((r93 : Int) != x121) then (
            some (.inl (({ Vars := [], Values := [] } : Binding), false)))
          else (
            some (.inr (c71, c74))))) : Option (Sum (Binding × Bool) ((List Int) × (List Int)))).bind fun o89 =>
    match o89 with
    | .inl r => some r
    | .inr (c130, c133) => s_MatchAtom_L1 a_f rest81 (k80 + 1) c130 c133
def s_MatchAtom (a_b : Binding) (a_a : Atom) (a_f : Fact) : Option (Binding × Bool) :=
  (s_l4Copy a_b).bind fun r5 =>
  if (((a_a.Rel : Int) != a_f.Rel) || ((((a_a.Terms.length : Int) : Int) != (a_f.Values.length : Int)) || (((a_b.Vars.length : Int) : Int) != (a_b.Values.length : Int)))) then (
    some (({ Vars := [], Values := [] } : Binding), false))
  else (
    s_MatchAtom_L1 a_f a_a.Terms 0 r5.Vars r5.Values)
theorem s_MatchAtom_ok (a_b : Binding) (v0_0 : Sv) (v0_1 : Sv) (a_a : Atom) (v1_1 : Sv) (a_f : Fact) (v2_1 : Sv) (R : Binding × Bool) (hF : s_MatchAtom a_b a_a a_f = some R) :
    Fw.Spec Tryz.prog 149 [(.agg [v0_0.v, v0_1.v].toArray), (.agg [(.int .i64 a_a.Rel), v1_1.v].toArray), (.agg [(.int .i64 a_f.Rel), v2_1.v].toArray)] [crd (RdS 3 rdInt) v0_0.v a_b.Vars, crd (RdS 3 rdInt) v0_1.v a_b.Values, crd (RdS 3 rdInt) v1_1.v a_a.Terms, crd (RdS 3 rdInt) v2_1.v a_f.Values] (fun p : Sv × List Nat × Sv × List Nat => (.tuple [(.agg [p.1.v, p.2.2.1.v].toArray), (.bool R.2)].toArray)) (fun p => [cown (OwnS 3 (roE rdInt)) p.2.1 p.1.v R.1.Vars, cown (OwnS 3 (roE rdInt)) p.2.2.2 p.2.2.1.v R.1.Values]) := by
  refine Spec_enter (n := 88) Tryz.func149 rfl rfl (rs := [.cell 6 126, .tmp 7]) rfl rfl rfl ?_
  intro H0 F0
  unfold s_MatchAtom at hF
  refine au ?_
  refine AbR (fun k1 => ?_)
  refine AbR (fun k2 => ?_)
  refine AbR (fun k3 => ?_)
  refine AnW (fun k4 => ?_)
  iterate 4 refine au ?_
  obtain ⟨r5, hx6, hF⟩ := bind_some hF
  refine Cx2 (s_l4Copy_ok _ _ _ _ hx6) (fun p7 => ?_)
  refine AnW (fun k8 => ?_)
  refine As (.agg [p7.1.v, p7.2.2.1.v].toArray) ?_
  iterate 3 refine au ?_
  refine C_cut (fun f' cs' => ∃ (g : Fr), f' = updL g [(4, (.pointer (some ⟨k2, 0, some 0⟩))), (5, (.pointer (some ⟨k3, 0, some 0⟩))), (6, (.pointer (some ⟨k4, 0, some 0⟩))), (8, (.pointer (some ⟨k8, 0, some 0⟩))), (35, (.bool (((a_a.Rel : Int) != a_f.Rel) || ((((a_a.Terms.length : Int) : Int) != (a_f.Values.length : Int)) || (((a_b.Vars.length : Int) : Int) != (a_b.Values.length : Int))))))] ∧ Ent cs' [cboR k2 102 (.agg [(.int .i64 a_a.Rel), v1_1.v].toArray), crd (RdS 3 rdInt) v1_1.v a_a.Terms, cboR k3 80 (.agg [(.int .i64 a_f.Rel), v2_1.v].toArray), crd (RdS 3 rdInt) v2_1.v a_f.Values, cbox k4 126 (.agg [(.slice none 0 0), (.slice none 0 0)].toArray), cbox k8 126 (.agg [p7.1.v, p7.2.2.1.v].toArray), cown (OwnS 3 (roE rdInt)) p7.2.1 p7.1.v r5.Vars, cown (OwnS 3 (roE rdInt)) p7.2.2.2 p7.2.2.1.v r5.Values]) ?_ ?_
  · iterate 6 refine au ?_
    rcases Bool.eq_false_or_eq_true ((a_a.Rel : Int) != a_f.Rel) with hg9 | hg9
    · rw [hg9]
      try rw [hg9] at hF; dsimp only [cond_true, cond_false] at hF
      iterate 18 refine au ?_
      exact ⟨_, eqA, entA⟩
    rw [hg9]
    try rw [hg9] at hF; dsimp only [cond_true, cond_false] at hF
    iterate 16 refine au ?_
    rcases Bool.eq_false_or_eq_true (((a_a.Terms.length : Int) : Int) != (a_f.Values.length : Int)) with hg10 | hg10
    · rw [hg10]
      try rw [hg10] at hF; dsimp only [cond_true, cond_false] at hF
      iterate 9 refine au ?_
      exact ⟨_, eqA, entA⟩
    rw [hg10]
    try rw [hg10] at hF; dsimp only [cond_true, cond_false] at hF
    iterate 16 refine au ?_
    exact ⟨_, eqA, entA⟩
  rintro _ _ ⟨g11, rfl, hE⟩
  refine K_ent hE ?_
  refine Cc (fun hb138 => ?_) (fun hb138 => ?_)
  · rw [if_pos hb138] at hF
    refine au ?_
    refine C_val (V_build ty126.h rfl (vs := []) .nil (cells := [(.slice none 0 0), (.slice none 0 0)]) rfl) ?_
    refine As (.agg [(.slice none 0 0), (.slice none 0 0)].toArray) ?_
    iterate 3 refine au ?_
    cases hF
    exact End_ret (⟨none, 0, 0⟩, [], ⟨none, 0, 0⟩, []) (.cellA rfl rfl .h rfl ag126.h ty126.h.sz rfl rfl (.tmp rfl rfl .nil)) rfl (.conv .nil (own_nil (Ro := (roE rdInt)) (E := 3)) (.cons .nil) (.conv .nil (own_nil (Ro := (roE rdInt)) (E := 3)) (.cons .nil) (.sel (.cons (.t .h) (.cons .h .nil)))))
  rw [if_neg (nt hb138)] at hF
  iterate 5 refine au ?_
  refine CW_block (CW_loop (m := a_a.Terms.length) (fun m78 f' cs' => ∃ (g : Fr) (k80 : Nat) (rest81 : List Int) (c71 : List Int) (c74 : List Int) (v72 : Sv) (F73 : List Nat) (v75 : Sv) (F76 : List Nat), m78 = rest81.length ∧ f' = updL g [(4, (.pointer (some ⟨k2, 0, some 0⟩))), (5, (.pointer (some ⟨k3, 0, some 0⟩))), (6, (.pointer (some ⟨k4, 0, some 0⟩))), (8, (.pointer (some ⟨k8, 0, some 0⟩))), (9, (.int .i64 (k80 : Int)))] ∧ List.drop k80 a_a.Terms = rest81 ∧ Ent cs' [cboR k2 102 (.agg [(.int .i64 a_a.Rel), v1_1.v].toArray), crd (RdS 3 rdInt) v1_1.v a_a.Terms, cboR k3 80 (.agg [(.int .i64 a_f.Rel), v2_1.v].toArray), crd (RdS 3 rdInt) v2_1.v a_f.Values, cbox k4 126 (.agg [(.slice none 0 0), (.slice none 0 0)].toArray), cbox k8 126 (.agg [v72.v, v75.v].toArray), cown (OwnS 3 (roE rdInt)) F73 v72.v c71, cown (OwnS 3 (roE rdInt)) F76 v75.v c74] ∧ s_MatchAtom_L1 a_f rest81 k80 c71 c74 = some R) ⟨_, 0, _, _, _, p7.1, p7.2.1, p7.2.2.1, p7.2.2.2, rfl, eqA, rfl, entA, hF⟩ ?_)
  clear hF
  rintro m78 _ _ ⟨g79, k80, rest81, c71, c74, v72, F73, v75, F76, rfl, rfl, hd83, hE, hF⟩
  refine K_ent hE ?_
  clear hE
  refine K_pure (c := crd (RdS 3 rdInt) v1_1.v a_a.Terms) (.t .h) crd_bound (fun hbd88 => ?_)
  rcases rest81 with _ | ⟨x82, rest81⟩
  · have hk84 := List.drop_eq_nil_iff.1 hd83
    rw [s_MatchAtom_L1] at hF
    iterate 8 refine au ?_
    refine CdF ?_
    iterate 6 refine au ?_
    refine As (.agg [v72.v, v75.v].toArray) ?_
    iterate 3 refine au ?_
    cases hF
    exact End_ret (v72, F73, v75, F76) (.cellA rfl rfl .h rfl ag126.h ty126.h.sz rfl rfl (.tmp rfl rfl .nil)) rfl (.sel (.cons (.t (.t (.t (.t (.t (.t .h)))))) (.cons (.t (.t (.t (.t (.t (.t .h)))))) .nil)))
  obtain ⟨hk84, hx85, hd86⟩ := drop_cons hd83
  rw [s_MatchAtom_L1] at hF
  iterate 8 refine au ?_
  refine CdT ?_
  refine au ?_
  obtain ⟨o89, hio89, hO90⟩ := bind_some hF
  refine K_cut (fun f' cs' => ∃ (c130 : List Int) (c133 : List Int) (v131 : Sv) (F132 : List Nat) (v134 : Sv) (F135 : List Nat) (g : Fr), o89 = .inr (c130, c133) ∧ f' = updL g [(4, (.pointer (some ⟨k2, 0, some 0⟩))), (5, (.pointer (some ⟨k3, 0, some 0⟩))), (6, (.pointer (some ⟨k4, 0, some 0⟩))), (8, (.pointer (some ⟨k8, 0, some 0⟩))), (9, (.int .i64 (k80 : Int)))] ∧ Ent cs' [cboR k2 102 (.agg [(.int .i64 a_a.Rel), v1_1.v].toArray), crd (RdS 3 rdInt) v1_1.v a_a.Terms, cboR k3 80 (.agg [(.int .i64 a_f.Rel), v2_1.v].toArray), crd (RdS 3 rdInt) v2_1.v a_f.Values, cbox k4 126 (.agg [(.slice none 0 0), (.slice none 0 0)].toArray), cbox k8 126 (.agg [v131.v, v134.v].toArray), cown (OwnS 3 (roE rdInt)) F132 v131.v c130, cown (OwnS 3 (roE rdInt)) F135 v134.v c133]) ?_ ?_
  · replace hF := hio89
    refine CW_block (K_draw [0, 1, 2, 3, 4, 5, 6, 7] [0, 0, 2, 0, 14, 30, 63, 127] [6] mixed (by decide +kernel) ?_)
    refine D_atO rfl .no (.t (.t (.t (.t (.t .h))))) (fun ha hp => V_loadBox ag126.h ty126.h.sz rfl (EN ha (.tmp rfl rfl) rfl) hp.2 rfl) ?_
    iterate 3 refine du ?_
    refine Di hx85 (fun k91 j92 => ?_)
    refine Dl ls3_0 ?_
    obtain ⟨r93, hx94, hF⟩ := bind_some hF
    refine D_act2 rfl rfl .no (.cons (.t (.t (.t (.t (.t (.t (.t (.t .h)))))))) (.cons (.t (.t (.t (.t (.t (.t (.t .h))))))) .nil)) (.dep rfl .nil) (fun ha => XC_borL (pre := []) (.cons frz_own (.cons frz_own .nil)) (fun _ => .nil) (X_callS cf107.h (.cons (EN ha (.tmp rfl rfl) rfl) (.cons (EN ha (.tmp rfl rfl) rfl) .nil)) (s_ValueOf_ok ({ Vars := c71, Values := c74 } : Binding) v72 v75 x82 _ hx94))) (fun _ => ?_)
    iterate 2 refine du ?_
    obtain ⟨o96, hio96, hO97⟩ := bind_some hF
    refine K_draw [0, 1, 2, 3, 4, 5, 6, 7, 8, 9, 10, 11, 12, 13, 14, 15] [0, 1, 0, 7, 15, 31, 63, 127, 127, 383, 127, 1919, 3967, 8191, 16383, 32767] [5, 13] mixed (by decide +kernel) ?_
    refine D_cut (fun f' cs' => ∃ (c109 : Bool) (g : Fr), c109 = o96 ∧ f' = updL g [(4, (.pointer (some ⟨k2, 0, some 0⟩))), (5, (.pointer (some ⟨k3, 0, some 0⟩))), (6, (.pointer (some ⟨k4, 0, some 0⟩))), (8, (.pointer (some ⟨k8, 0, some 0⟩))), (9, (.int .i64 (k80 : Int))), (10, (.int .i64 r93)), (66, (.bool c109))] ∧ Ent cs' [cboR k2 102 (.agg [(.int .i64 a_a.Rel), v1_1.v].toArray), crd (RdS 3 rdInt) v1_1.v a_a.Terms, cboR k3 80 (.agg [(.int .i64 a_f.Rel), v2_1.v].toArray), crd (RdS 3 rdInt) v2_1.v a_f.Values, cbox k4 126 (.agg [(.slice none 0 0), (.slice none 0 0)].toArray), cbox k8 126 (.agg [v72.v, v75.v].toArray), cown (OwnS 3 (roE rdInt)) F73 v72.v c71, cown (OwnS 3 (roE rdInt)) F76 v75.v c74]) ?_ ?_
    · replace hF := hio96
      iterate 3 refine du ?_
      refine Di hx85 (fun k98 j99 => ?_)
      refine Dl ls3_0 ?_
      obtain ⟨r100, hx101, hF⟩ := bind_some hF
      refine Dx0 (s_IsVar_ok _ _ hx101) (fun _ => ?_)
      refine du ?_
      rcases Bool.eq_false_or_eq_true r100 with hg103 | hg103
      · rw [hg103]
        try rw [hg103] at hF; dsimp only [cond_true, cond_false] at hF
        refine D_atO rfl (.on 57 rfl rfl rfl) (.t (.t (.t (.t (.t (.t (.t (.t (.t .h))))))))) (fun ha hp => V_loadBox ag126.h ty126.h.sz rfl (EN ha (.tmp rfl rfl) rfl) hp.2 rfl) ?_
        iterate 3 refine du ?_
        refine Di hx85 (fun k104 j105 => ?_)
        refine Dl ls3_0 ?_
        obtain ⟨r106, hx107, hF⟩ := bind_some hF
        refine D_act2 rfl rfl (.on 57 rfl rfl rfl) (.cons (.t (.t .h)) (.cons (.t (.t .h)) .nil)) (.dep rfl .nil) (fun ha => XC_borL (pre := []) (.cons frz_own (.cons frz_own .nil)) (fun _ => .nil) (X_callS cf185.h (.cons (EN ha (.tmp rfl rfl) rfl) (.cons (EN ha (.tmp rfl rfl) rfl) .nil)) (s_l4Bound_ok ({ Vars := c71, Values := c74 } : Binding) v72 v75 x82 _ hx107))) (fun _ => ?_)
        iterate 3 refine du ?_
        cases hF
        exact ⟨_, _, rfl, eqA, entA⟩
      rw [hg103]
      try rw [hg103] at hF; dsimp only [cond_true, cond_false] at hF
      iterate 10 refine du ?_
      cases hF
      exact ⟨_, _, rfl, eqA, entA⟩
    rintro _ _ ⟨c109, g129, rfl, rfl, hE⟩
    replace hF := hO97
    clear hO97
    try dsimp only at hF
    refine K_ent hE ?_
    refine Cc (fun hb128 => ?_) (fun hb128 => ?_)
    · rw [if_pos hb128] at hF
      refine CW_draw [0, 1, 2, 3, 4, 5, 6, 7, 8, 9, 10, 11, 12] [0, 0, 2, 0, 14, 30, 0, 64, 0, 448, 960, 2047, 4095] [11, 12] mixed (by decide +kernel) ?_
      refine D_atO rfl .no (.t (.t (.t (.t (.t .h))))) (fun ha hp => V_loadBox ag126.h ty126.h.sz rfl (EN ha (.tmp rfl rfl) rfl) hp.2 rfl) ?_
      iterate 3 refine du ?_
      refine Di hx85 (fun k110 j111 => ?_)
      refine Dl ls3_0 ?_
      iterate 3 refine du ?_
      obtain ⟨x112, hx113, hF⟩ := bind_some hF
      obtain ⟨hp114, hx115⟩ := ix_some hx113
      refine Di hx115 (fun k116 j117 => ?_)
      refine Dl ls3_0 ?_
      obtain ⟨r118, hx119, hF⟩ := bind_some hF
      refine D_act4 rfl rfl .no (.cons (.t (.t (.t (.t (.t (.t (.t (.t (.t .h))))))))) (.cons (.t (.t (.t (.t (.t (.t (.t (.t .h)))))))) .nil)) (.dep rfl .nil) (fun ha => XC_borL (pre := []) (.cons frz_own (.cons frz_own .nil)) (fun _ => (.cons (.cons .nil))) (X_callS cf186.h (.cons (EN ha (.tmp rfl rfl) rfl) (.cons (EN ha (.tmp rfl rfl) rfl) (.cons (EN ha (.tmp rfl rfl) rfl) .nil))) (s_l4Bind_ok ({ Vars := c71, Values := c74 } : Binding) v72 v75 x82 x112 _ hx119))) (fun p120 => ?_)
      refine D_act1 rfl rfl .no (.cons (.t (.t (.t (.t (.t (.t (.t (.t (.t (.t (.t .h))))))))))) .nil) (.dep rfl .nil) (fun ha => X_storeB (e' := (.agg [p120.1.v, p120.2.2.1.v].toArray)) (v := (.agg [p120.1.v, p120.2.2.1.v].toArray)) ty126.h.sz (EN ha (.tmp rfl rfl) rfl) (EN ha (.tmp rfl rfl) rfl) rfl rfl rfl rfl rfl) (fun _ => ?_)
      refine du ?_
      cases hF
      exact ⟨_, _, p120.1, p120.2.1, p120.2.2.1, p120.2.2.2, _, rfl, eqA, entA⟩
    rw [if_neg (nt hb128)] at hF
    iterate 5 refine au ?_
    obtain ⟨x121, hx122, hF⟩ := bind_some hF
    obtain ⟨hp123, hx124⟩ := ix_some hx122
    refine Ai hx124 (fun k125 j126 => ?_)
    refine Al ls3_0 ?_
    iterate 2 refine au ?_
    refine Cc (fun hb127 => ?_) (fun hb127 => ?_)
    · rw [if_pos hb127] at hF
      refine au ?_
      refine C_val (V_build ty126.h rfl (vs := []) .nil (cells := [(.slice none 0 0), (.slice none 0 0)]) rfl) ?_
      refine As (.agg [(.slice none 0 0), (.slice none 0 0)].toArray) ?_
      iterate 3 refine au ?_
      cases hF
      replace hF := hO90
      try dsimp only at hF
      cases hF
      exact End_ret (⟨none, 0, 0⟩, [], ⟨none, 0, 0⟩, []) (.cellA rfl rfl .h rfl ag126.h ty126.h.sz rfl rfl (.tmp rfl rfl .nil)) rfl (.conv .nil (own_nil (Ro := (roE rdInt)) (E := 3)) (.cons .nil) (.conv .nil (own_nil (Ro := (roE rdInt)) (E := 3)) (.cons .nil) (.sel (.cons (.t .h) (.cons .h .nil)))))
    rw [if_neg (nt hb127)] at hF
    refine au ?_
    cases hF
    exact ⟨_, _, v72, F73, v75, F76, _, rfl, eqA, entA⟩
  rintro _ _ ⟨c130, c133, v131, F132, v134, F135, g137, rfl, rfl, hE⟩
  replace hF := hO90
  clear hO90
  try dsimp only at hF
  refine K_ent hE ?_
  iterate 5 refine au ?_
  rw [wk k80]
  exact ⟨_, Nat.lt_succ_self _, _, k80 + 1, rest81, _, _, v131, F132, v134, F135, rfl, eqA, hd86, entA, hF⟩

/-! spec.l4Extend -/
def s_l4Extend_L2 (a_a : Atom) (x11 : Binding) : List Fact → Nat → (List Binding) → Option ((List Binding))
  | [], k26, c20 => some c20
  | x28 :: rest27, k26, c20 => ((s_MatchAtom x11 a_a x28).bind fun r44 =>
      if r44.2 then (
        (app c20 ([r44.1] : List Binding)).bind fun z48 =>
        some z48)
      else (
        some c20)).bind fun o35 =>
    match o35 with
    | c52 => s_l4Extend_L2 a_a x11 rest27 (k26 + 1) c52
def s_l4Extend_L1 (a_a : Atom) (a_facts : List Fact) : List Binding → Nat → (List Binding) → Option ((List Binding))
  | [], k9, c3 => some c3
  | x11 :: rest10, k9, c3 => (s_l4Extend_L2 a_a x11 a_facts 0 c3).bind fun o18 =>
    match o18 with
    | c57 => s_l4Extend_L1 a_a a_facts rest10 (k9 + 1) c57
def s_l4Extend (a_l : List Binding) (a_a : Atom) (a_facts : List Fact) : Option ((List Binding)) :=
  s_l4Extend_L1 a_a a_facts a_l 0 ([] : List Binding)
theorem s_l4Extend_ok (a_l : List Binding) (v0_0 : Sv) (a_a : Atom) (v1_1 : Sv) (a_facts : List Fact) (v2_0 : Sv) (R : (List Binding)) (hF : s_l4Extend a_l a_a a_facts = some R) :
    Fw.Spec Tryz.prog 109 [v0_0.v, (.agg [(.int .i64 a_a.Rel), v1_1.v].toArray), v2_0.v] [crd (RdS 126 rd126) v0_0.v a_l, crd (RdS 3 rdInt) v1_1.v a_a.Terms, crd (RdS 80 rd80) v2_0.v a_facts] (fun p : Sv × List Nat => p.1.v) (fun p => [cown (OwnS 126 ow126) p.2 p.1.v R]) := by
  refine Spec_enter (n := 44) Tryz.func109 rfl rfl (rs := [.tmp 6]) rfl rfl rfl ?_
  intro H0 F0
  unfold s_l4Extend at hF
  refine K_region (C_newR rfl (N_box (g := false) (v := (.agg [(.int .i64 a_a.Rel), v1_1.v].toArray)) ty102.h.sz (.tmp rfl rfl) rfl) (fun k1 => ?_))
  refine C_val (V_assign (v := (.slice none 0 0)) EV.nilSlice) ?_
  refine C_nil (K_region (C_new rfl (N_buildSliceT (g := true) sl106.h ty126.h .nil (vs := []) rfl rfl rfl (by simp)) (fun k2 => ?_)))
  refine C_conv (.cons .h .nil) (own_lit (Ro := ow126) (E := 126) (F := []) (xs := ([] : List Binding)) MkL_nil rfl rfl) apps ?_
  refine Ca (.slice (some ⟨k2, 0, none⟩) 0 1) rfl rfl ?_
  refine C_nil (K_in (K_region (C_val (V_assign (v := (.int .i64 0)) (.int _ _)) ?_)))
  refine C_nil (CW_block (CW_loop (m := a_l.length) (fun m7 f' cs' => ∃ (g : Fr) (k9 : Nat) (rest10 : List Binding) (c3 : List Binding) (v4 : Sv) (F5 : List Nat), m7 = rest10.length ∧ f' = updL g [(0, v0_0.v), (2, v2_0.v), (4, (.pointer (some ⟨k1, 0, some 0⟩))), (7, v4.v), (8, (.int .i64 (k9 : Int)))] ∧ List.drop k9 a_l = rest10 ∧ Ent cs' [crd (RdS 126 rd126) v0_0.v a_l, crd (RdS 80 rd80) v2_0.v a_facts, cboR k1 102 (.agg [(.int .i64 a_a.Rel), v1_1.v].toArray), crd (RdS 3 rdInt) v1_1.v a_a.Terms, cown (OwnS 126 ow126) F5 v4.v c3] ∧ s_l4Extend_L1 a_a a_facts rest10 k9 c3 = some R) ⟨_, 0, _, _, ⟨(some ⟨k2, 0, none⟩), 0, 1⟩, (k2 :: []), rfl, (EqL.cons rfl (EqL.cons rfl (EqL.cons rfl (EqL.cons rfl (EqL.cons rfl (EqL.nil)))))).eq, rfl, (.sel (.rd (.t (.t .h)) rfl (.rd (.t (.t (.t (.t .h)))) rfl (.rd (.t .h) rfl (.rd (.t (.t (.t .h))) rfl (.cons .h .nil)))))), hF⟩ ?_))
  clear hF
  rintro m7 _ _ ⟨g8, k9, rest10, c3, v4, F5, rfl, rfl, hd12, hE, hF⟩
  refine K_ent hE ?_
  clear hE
  refine K_pure (c := crd (RdS 126 rd126) v0_0.v a_l) .h crd_bound (fun hbd17 => ?_)
  rcases rest10 with _ | ⟨x11, rest10⟩
  · have hk13 := List.drop_eq_nil_iff.1 hd12
    have hfe16 : (decide (((k9 : Int) : Int) < (a_l.length : Int))) = false := decide_eq_false (by omega)
    rw [s_l4Extend_L1] at hF
    refine K_in (K_region (Cm (.int .i64 (k9 : Int)) rfl rfl ?_))
    refine Cm v0_0.v rfl rfl ?_
    refine C_at .h (fun hp => V_lenR (l := a_l.length) sl106.h (.tmp rfl rfl) (crd_len hp)) ?_
    refine C_val (V_lss (i := (k9 : Int)) (j := (a_l.length : Int)) (.tmp rfl rfl) (.tmp rfl rfl)) ?_
    refine C_nil (CW_cond (b := (decide (((k9 : Int) : Int) < (a_l.length : Int)))) (.tmp rfl rfl) (fun hb => absurd (hfe16.symm.trans hb) (by decide)) (fun _ => ?_))
    refine CW_exit ?_
    iterate 2 refine CThen_exit ?_
    refine CIn_self (K_region (Cm v4.v rfl rfl ?_))
    refine Ca v4.v rfl rfl ?_
    refine C_nil (CW_ret ?_)
    obtain rfl := Option.some.inj hF
    exact End_ret (v4, F5) (.tmp rfl rfl .nil) rfl (.sel (.cons (.t (.t (.t (.t .h)))) .nil))
  obtain ⟨hk13, hx14, hd15⟩ := drop_cons hd12
  have hfe16 : (decide (((k9 : Int) : Int) < (a_l.length : Int))) = true := decide_eq_true (by omega)
  rw [s_l4Extend_L1] at hF
  refine K_in (K_region (Cm (.int .i64 (k9 : Int)) rfl rfl ?_))
  refine Cm v0_0.v rfl rfl ?_
  refine C_at .h (fun hp => V_lenR (l := a_l.length) sl106.h (.tmp rfl rfl) (crd_len hp)) ?_
  refine C_val (V_lss (i := (k9 : Int)) (j := (a_l.length : Int)) (.tmp rfl rfl) (.tmp rfl rfl)) ?_
  refine C_nil (CW_cond (b := (decide (((k9 : Int) : Int) < (a_l.length : Int)))) (.tmp rfl rfl) (fun _ => ?_) (fun hb => absurd (hfe16.symm.trans hb) (by decide)))
  refine CW_skip ?_
  obtain ⟨o18, hio18, hO19⟩ := bind_some hF
  refine K_cut (fun f' cs' => ∃ (c57 : List Binding) (v58 : Sv) (F59 : List Nat) (g : Fr), c57 = o18 ∧ f' = updL g [(0, v0_0.v), (2, v2_0.v), (4, (.pointer (some ⟨k1, 0, some 0⟩))), (7, v58.v), (8, (.int .i64 (k9 : Int)))] ∧ Ent cs' [crd (RdS 126 rd126) v0_0.v a_l, crd (RdS 80 rd80) v2_0.v a_facts, cboR k1 102 (.agg [(.int .i64 a_a.Rel), v1_1.v].toArray), crd (RdS 3 rdInt) v1_1.v a_a.Terms, cown (OwnS 126 ow126) F59 v58.v c57]) ?_ ?_
  · replace hF := hio18
    refine CW_block (K_region (C_val (V_assign (v := (.int .i64 0)) (.int _ _)) ?_))
    refine C_nil (CW_block (CW_loop (m := a_facts.length) (fun m24 f' cs' => ∃ (g : Fr) (k26 : Nat) (rest27 : List Fact) (c20 : List Binding) (v21 : Sv) (F22 : List Nat), m24 = rest27.length ∧ f' = updL g [(0, v0_0.v), (2, v2_0.v), (4, (.pointer (some ⟨k1, 0, some 0⟩))), (7, v21.v), (8, (.int .i64 (k9 : Int))), (9, (.int .i64 (k26 : Int)))] ∧ List.drop k26 a_facts = rest27 ∧ Ent cs' [crd (RdS 126 rd126) v0_0.v a_l, crd (RdS 80 rd80) v2_0.v a_facts, cboR k1 102 (.agg [(.int .i64 a_a.Rel), v1_1.v].toArray), crd (RdS 3 rdInt) v1_1.v a_a.Terms, cown (OwnS 126 ow126) F22 v21.v c20] ∧ s_l4Extend_L2 a_a x11 rest27 k26 c20 = some o18) ⟨_, 0, _, _, v4, F5, rfl, (EqL.cons rfl (EqL.cons rfl (EqL.cons rfl (EqL.cons rfl (EqL.cons rfl (EqL.cons rfl (EqL.nil))))))).eq, rfl, (.sel (.rd .h rfl (.rd (.t .h) rfl (.rd (.t (.t .h)) rfl (.rd (.t (.t (.t .h))) rfl (.cons (.t (.t (.t (.t .h)))) .nil)))))), hF⟩ ?_))
    clear hF
    rintro m24 _ _ ⟨g25, k26, rest27, c20, v21, F22, rfl, rfl, hd29, hE, hF⟩
    refine K_ent hE ?_
    clear hE
    refine K_pure (c := crd (RdS 80 rd80) v2_0.v a_facts) (.t .h) crd_bound (fun hbd34 => ?_)
    rcases rest27 with _ | ⟨x28, rest27⟩
    · have hk30 := List.drop_eq_nil_iff.1 hd29
      have hfe33 : (decide (((k26 : Int) : Int) < (a_facts.length : Int))) = false := decide_eq_false (by omega)
      rw [s_l4Extend_L2] at hF
      refine K_in (K_region (Cm (.int .i64 (k26 : Int)) rfl rfl ?_))
      refine Cm v2_0.v rfl rfl ?_
      refine C_at (.t .h) (fun hp => V_lenR (l := a_facts.length) sl40.h (.tmp rfl rfl) (crd_len hp)) ?_
      refine C_val (V_lss (i := (k26 : Int)) (j := (a_facts.length : Int)) (.tmp rfl rfl) (.tmp rfl rfl)) ?_
      refine C_nil (CW_cond (b := (decide (((k26 : Int) : Int) < (a_facts.length : Int)))) (.tmp rfl rfl) (fun hb => absurd (hfe33.symm.trans hb) (by decide)) (fun _ => ?_))
      refine CW_exit ?_
      iterate 2 refine CThen_exit ?_
      refine CIn_self ?_
      obtain rfl := Option.some.inj hF
      exact ⟨_, v21, F22, _, rfl, (EqL.cons rfl (EqL.cons rfl (EqL.cons rfl (EqL.cons rfl (EqL.cons rfl (EqL.nil)))))).eq, (.sel (.rd .h rfl (.rd (.t .h) rfl (.rd (.t (.t .h)) rfl (.rd (.t (.t (.t .h))) rfl (.cons (.t (.t (.t (.t .h)))) .nil))))))⟩
    obtain ⟨hk30, hx31, hd32⟩ := drop_cons hd29
    have hfe33 : (decide (((k26 : Int) : Int) < (a_facts.length : Int))) = true := decide_eq_true (by omega)
    rw [s_l4Extend_L2] at hF
    refine K_in (K_region (Cm (.int .i64 (k26 : Int)) rfl rfl ?_))
    refine Cm v2_0.v rfl rfl ?_
    refine C_at (.t .h) (fun hp => V_lenR (l := a_facts.length) sl40.h (.tmp rfl rfl) (crd_len hp)) ?_
    refine C_val (V_lss (i := (k26 : Int)) (j := (a_facts.length : Int)) (.tmp rfl rfl) (.tmp rfl rfl)) ?_
    refine C_nil (CW_cond (b := (decide (((k26 : Int) : Int) < (a_facts.length : Int)))) (.tmp rfl rfl) (fun _ => ?_) (fun hb => absurd (hfe33.symm.trans hb) (by decide)))
    refine CW_skip ?_
    obtain ⟨o35, hio35, hO36⟩ := bind_some hF
    refine K_cut (fun f' cs' => ∃ (c52 : List Binding) (v53 : Sv) (F54 : List Nat) (g : Fr), c52 = o35 ∧ f' = updL g [(0, v0_0.v), (2, v2_0.v), (4, (.pointer (some ⟨k1, 0, some 0⟩))), (7, v53.v), (8, (.int .i64 (k9 : Int))), (9, (.int .i64 (k26 : Int)))] ∧ Ent cs' [crd (RdS 126 rd126) v0_0.v a_l, crd (RdS 80 rd80) v2_0.v a_facts, cboR k1 102 (.agg [(.int .i64 a_a.Rel), v1_1.v].toArray), crd (RdS 3 rdInt) v1_1.v a_a.Terms, cown (OwnS 126 ow126) F54 v53.v c52]) ?_ ?_
    · replace hF := hio35
      refine CW_block (K_draw [0, 1, 2, 3, 4, 5, 6, 7, 8, 13, 9, 10, 11, 12, 14, 15] [0, 0, 3, 7, 0, 0, 0, 96, 224, 511, 1023, 2047, 2047, 0, 12287, 32767] [9, 14] mixed (by decide +kernel) ?_)
      refine Dm v0_0.v rfl rfl rfl rfl ?_
      refine Dm (.int .i64 (k9 : Int)) rfl rfl rfl rfl ?_
      refine D_idx (a := x11) sl106.h ty126.h.sz rfl .no (.tmp rfl rfl) (.tmp rfl rfl) rfl rfl .h (Int.natCast_nonneg k9) hx14 (fun k37 j38 => ?_)
      refine D_ldA2 (ul126_0_126 x11) ag126.h ty126.h.sz rfl rfl .no (.tmp rfl rfl) rfl .h la126_0_126 (fun p39 => ?_)
      refine D_at rfl .no (.t (.t (.t (.t (.t .h))))) rfl (fun ha hp => V_loadBox ag102.h ty102.h.sz rfl (EN ha (.tmp rfl rfl) rfl) hp.2 rfl) ?_
      refine Dm v2_0.v rfl rfl rfl rfl ?_
      refine Dm (.int .i64 (k26 : Int)) rfl rfl rfl rfl ?_
      refine D_idx (a := x28) sl40.h ty80.h.sz rfl .no (.tmp rfl rfl) (.tmp rfl rfl) rfl rfl (.t (.t (.t (.t .h)))) (Int.natCast_nonneg k26) hx31 (fun k40 j41 => ?_)
      refine D_ldA1 (ul80_0_80 x28) ag80.h ty80.h.sz rfl rfl .no (.tmp rfl rfl) rfl .h la80_0_80 (fun p42 => ?_)
      refine D_new rfl .no rfl (fun ha => N_allocT (g := true) ty126.h rfl rfl) (fun k43 => ?_)
      obtain ⟨r44, hx45, hF⟩ := bind_some hF
      refine D_act2 rfl rfl .no (.rd (.t (.t (.t .h))) rfl (.rd (.t (.t (.t (.t .h)))) rfl (.rd (.t (.t (.t (.t (.t (.t (.t (.t (.t .h))))))))) rfl (.rd (.t .h) rfl .nil)))) (.own .h (fun _ h => h) .nil) (fun ha => X_callS cf149.h (.cons (EN ha (.tmp rfl rfl) rfl) (.cons (EN ha (.tmp rfl rfl) rfl) (.cons (EN ha (.tmp rfl rfl) rfl) .nil))) (s_MatchAtom_ok x11 p39.1 p39.2 a_a v1_1 x28 p42 _ hx45)) (fun p46 => ?_)
      refine Dm (.tuple [(.agg [p46.1.v, p46.2.2.1.v].toArray), (.bool r44.2)].toArray) rfl rfl rfl rfl ?_
      refine D_val rfl .no (fun ha => V_extract (l := [(.agg [p46.1.v, p46.2.2.1.v].toArray), (.bool r44.2)]) (v := (.agg [p46.1.v, p46.2.2.1.v].toArray)) (EN ha (.tmp rfl rfl) rfl) rfl) ?_
      refine D_val rfl .no (fun ha => V_extract (l := [(.agg [p46.1.v, p46.2.2.1.v].toArray), (.bool r44.2)]) (v := (.bool r44.2)) (EN ha (.tmp rfl rfl) rfl) rfl) ?_
      refine D_act1 rfl rfl .no (.cons (.t (.t .h)) .nil) (.dep rfl .nil) (fun ha => X_storeB (e' := (.agg [p46.1.v, p46.2.2.1.v].toArray)) (v := (.agg [p46.1.v, p46.2.2.1.v].toArray)) ty126.h.sz (EN ha (.tmp rfl rfl) rfl) (EN ha (.tmp rfl rfl) rfl) rfl rfl rfl rfl rfl) (fun _ => ?_)
      refine Da (.bool r44.2) rfl rfl rfl rfl ?_
      refine D_nil (K_region (Cm (.bool r44.2) rfl rfl ?_))
      refine C_nil (CW_cond (b := r44.2) (.tmp rfl rfl) (fun hb51 => ?_) (fun hb51 => ?_))
      · rw [if_pos hb51] at hF
        refine CW_region (Cm v21.v rfl rfl ?_)
        refine C_at .h (fun hp => V_loadBox ag126.h ty126.h.sz rfl (.tmp rfl rfl) hp.2 rfl) ?_
        refine C_new rfl (N_buildSliceT (g := true) sl106.h ty126.h (.cons (.tmp rfl rfl) .nil) (vs := [(.agg [p46.1.v, p46.2.2.1.v].toArray)]) rfl rfl rfl (by intro v hv; simp at hv; rcases hv with rfl <;> rfl)) (fun k47 => ?_)
        refine C_conv (.cons .h (.cons (.t .h) (.cons (.t .h) .nil))) (own_lit (Ro := ow126) (E := 126) (F := ((p46.2.1 ++ p46.2.2.2) ++ [])) (xs := ([r44.1] : List Binding)) (MkL_cons mk126 MkL_nil apps) rfl rfl) apps ?_
        obtain ⟨z48, hx49, hF⟩ := bind_some hF
        refine C_x1 (.cons (.t (.t (.t (.t (.t (.t (.t (.t (.t (.t (.t .h))))))))))) (.cons .h .nil)) (X_appendO (Ro := ow126) sl106.h ni106 ty126.h rfl rfl rfl (.tmp rfl rfl) (.tmp rfl rfl) hx49 src_own) (fun p50 => ?_)
        refine Ca p50.1.v rfl rfl ?_
        refine C_nil ?_
        obtain rfl := Option.some.inj hF
        exact ⟨_, p50.1, p50.2, _, rfl, (EqL.cons rfl (EqL.cons rfl (EqL.cons rfl (EqL.cons rfl (EqL.cons rfl (EqL.cons rfl (EqL.nil))))))).eq, (.sel (.rd (.t (.t (.t (.t (.t (.t (.t .h))))))) rfl (.rd (.t (.t (.t (.t (.t (.t (.t (.t .h)))))))) rfl (.rd (.t (.t (.t (.t (.t (.t (.t (.t (.t .h))))))))) rfl (.rd (.t (.t (.t (.t (.t (.t (.t (.t (.t (.t .h)))))))))) rfl (.cons .h .nil))))))⟩
      rw [if_neg (by rw [hb51]; exact Bool.false_ne_true)] at hF
      refine CW_skip ?_
      obtain rfl := Option.some.inj hF
      exact ⟨_, v21, F22, _, rfl, (EqL.cons rfl (EqL.cons rfl (EqL.cons rfl (EqL.cons rfl (EqL.cons rfl (EqL.cons rfl (EqL.nil))))))).eq, (.sel (.rd (.t (.t (.t (.t (.t (.t (.t (.t .h)))))))) rfl (.rd (.t (.t (.t (.t (.t (.t (.t (.t (.t .h))))))))) rfl (.rd (.t (.t (.t (.t (.t (.t (.t (.t (.t (.t .h)))))))))) rfl (.rd (.t (.t (.t (.t (.t (.t (.t (.t (.t (.t (.t .h))))))))))) rfl (.cons (.t (.t (.t (.t (.t (.t (.t (.t (.t (.t (.t (.t .h)))))))))))) .nil))))))⟩
    rintro _ _ ⟨c52, v53, F54, g56, rfl, rfl, hE⟩
    replace hF := hO36
    clear hO36
    try dsimp only at hF
    refine K_ent hE ?_
    refine CW_region (Cm (.int .i64 (k26 : Int)) rfl rfl ?_)
    refine C_val (V_add (i := (k26 : Int)) (j := 1) (.tmp rfl rfl) (.int _ _)) ?_
    refine Ca (.int .i64 (IntKind.i64.wrap ((k26 : Int) + 1))) rfl rfl ?_
    refine C_nil ?_
    have hw55 : IntKind.i64.wrap ((k26 : Int) + 1) = ((k26 + 1 : Nat) : Int) := by rw [wrap_in (by omega) (by omega)]; rfl
    rw [hw55]
    exact ⟨_, Nat.lt_succ_self _, _, k26 + 1, rest27, _, v53, F54, rfl, (EqL.cons rfl (EqL.cons rfl (EqL.cons rfl (EqL.cons rfl (EqL.cons rfl (EqL.cons rfl (EqL.nil))))))).eq, hd32, (.sel (.rd .h rfl (.rd (.t .h) rfl (.rd (.t (.t .h)) rfl (.rd (.t (.t (.t .h))) rfl (.cons (.t (.t (.t (.t .h)))) .nil)))))), hF⟩
  rintro _ _ ⟨c57, v58, F59, g61, rfl, rfl, hE⟩
  replace hF := hO19
  clear hO19
  try dsimp only at hF
  refine K_ent hE ?_
  refine CW_region (Cm (.int .i64 (k9 : Int)) rfl rfl ?_)
  refine C_val (V_add (i := (k9 : Int)) (j := 1) (.tmp rfl rfl) (.int _ _)) ?_
  refine Ca (.int .i64 (IntKind.i64.wrap ((k9 : Int) + 1))) rfl rfl ?_
  refine C_nil ?_
  have hw60 : IntKind.i64.wrap ((k9 : Int) + 1) = ((k9 + 1 : Nat) : Int) := by rw [wrap_in (by omega) (by omega)]; rfl
  rw [hw60]
  exact ⟨_, Nat.lt_succ_self _, _, k9 + 1, rest10, _, v58, F59, rfl, (EqL.cons rfl (EqL.cons rfl (EqL.cons rfl (EqL.cons rfl (EqL.cons rfl (EqL.nil)))))).eq, hd15, (.sel (.rd .h rfl (.rd (.t .h) rfl (.rd (.t (.t .h)) rfl (.rd (.t (.t (.t .h))) rfl (.cons (.t (.t (.t (.t .h)))) .nil)))))), hF⟩

/-! spec.BindingsOf -/
def s_BindingsOf_L1 (a_facts : List Fact) : List Atom → Nat → (List Binding) → Option ((List Binding))
  | [], k9, c3 => some c3
  | x11 :: rest10, k9, c3 => (s_l4Extend c3 x11 a_facts).bind fun r21 =>
    s_BindingsOf_L1 a_facts rest10 (k9 + 1) r21
def s_BindingsOf (a_q : Query) (a_facts : List Fact) : Option ((List Binding)) :=
  s_BindingsOf_L1 a_facts a_q.Atoms 0 ([({ Vars := [], Values := [] } : Binding)] : List Binding)
theorem s_BindingsOf_ok (a_q : Query) (v0_0 : Sv) (v0_1 : Sv) (a_facts : List Fact) (v1_0 : Sv) (R : (List Binding)) (hF : s_BindingsOf a_q a_facts = some R) :
    Fw.Spec Tryz.prog 74 [(.agg [v0_0.v, v0_1.v].toArray), v1_0.v] [crd (RdS 3 rdInt) v0_0.v a_q.Head, crd (RdS 102 rd102) v0_1.v a_q.Atoms, crd (RdS 80 rd80) v1_0.v a_facts] (fun p : Sv × List Nat => p.1.v) (fun p => [cown (OwnS 126 ow126) p.2 p.1.v R]) := by
  refine Spec_enter (n := 25) Tryz.func74 rfl rfl (rs := [.tmp 4]) rfl rfl rfl ?_
  intro H0 F0
  unfold s_BindingsOf at hF
  refine au ?_
  refine AbR (fun k1 => ?_)
  iterate 3 refine au ?_
  refine C_val (V_build ty126.h rfl (vs := []) .nil (cells := [(.slice none 0 0), (.slice none 0 0)]) rfl) ?_
  refine C_new rfl (N_buildSliceT (g := true) sl106.h ty126.h (.cons (.tmp rfl rfl) .nil) (vs := [(.agg [(.slice none 0 0), (.slice none 0 0)].toArray)]) rfl rfl rfl (by intro v hv; simp at hv; rcases hv with rfl <;> rfl)) (fun k2 => ?_)
  iterate 2 refine C_conv .nil (own_nil (Ro := (roE rdInt)) (E := 3)) apps ?_
  refine Cv1 (.cons (.t (.t .h)) (.cons (.t .h) (.cons .h .nil))) (own_lit (Ro := ow126) (E := 126) (F := (([] ++ []) ++ [])) (xs := ([({ Vars := [], Values := [] } : Binding)] : List Binding)) (MkL_cons (mk126 (v0 := ⟨none, 0, 0⟩) (v1 := ⟨none, 0, 0⟩) (a := ({ Vars := [], Values := [] } : Binding))) MkL_nil apps) rfl rfl) ?_
  iterate 6 refine au ?_
  refine CW_block (CW_loop (m := a_q.Atoms.length) (fun m7 f' cs' => ∃ (g : Fr) (k9 : Nat) (rest10 : List Atom) (c3 : List Binding) (v4 : Sv) (F5 : List Nat), m7 = rest10.length ∧ f' = updL g [(1, v1_0.v), (2, (.pointer (some ⟨k1, 0, some 0⟩))), (5, v4.v), (6, (.int .i64 (k9 : Int)))] ∧ List.drop k9 a_q.Atoms = rest10 ∧ Ent cs' [crd (RdS 80 rd80) v1_0.v a_facts, cboR k1 38 (.agg [v0_0.v, v0_1.v].toArray), crd (RdS 3 rdInt) v0_0.v a_q.Head, crd (RdS 102 rd102) v0_1.v a_q.Atoms, cown (OwnS 126 ow126) F5 v4.v c3] ∧ s_BindingsOf_L1 a_facts rest10 k9 c3 = some R) ⟨_, 0, _, _, ⟨(some ⟨k2, 0, none⟩), 1, 1⟩, (k2 :: (([] ++ []) ++ [])), rfl, eqA, rfl, entA, hF⟩ ?_)
  clear hF
  rintro m7 _ _ ⟨g8, k9, rest10, c3, v4, F5, rfl, rfl, hd12, hE, hF⟩
  refine K_ent hE ?_
  clear hE
  refine K_pure (c := crd (RdS 102 rd102) v0_1.v a_q.Atoms) (.t (.t (.t .h))) crd_bound (fun hbd17 => ?_)
  rcases rest10 with _ | ⟨x11, rest10⟩
  · have hk13 := List.drop_eq_nil_iff.1 hd12
    rw [s_BindingsOf_L1] at hF
    iterate 8 refine au ?_
    refine CdF ?_
    iterate 9 refine au ?_
    cases hF
    exact Er (v4, F5)
  obtain ⟨hk13, hx14, hd15⟩ := drop_cons hd12
  rw [s_BindingsOf_L1] at hF
  iterate 8 refine au ?_
  refine CdT ?_
  iterate 7 refine au ?_
  refine Ai hx14 (fun k18 j19 => ?_)
  refine AlA1 (ul102_0_102 x11) la102_0_102 (fun p20 => ?_)
  refine au ?_
  obtain ⟨r21, hx22, hF⟩ := bind_some hF
  refine C_x2 (.cons (.t (.t (.t (.t (.t (.t .h)))))) (.rd .h rfl (.rd (.t (.t .h)) rfl .nil))) (XC_bor frz_own (fun _ => (.cons .nil)) (X_callS cf109.h (.cons (.tmp rfl rfl) (.cons (.tmp rfl rfl) (.cons (.tmp rfl rfl) .nil))) (s_l4Extend_ok c3 v4 x11 p20 a_facts v1_0 _ hx22))) (fun p23 => ?_)
  iterate 7 refine au ?_
  rw [wk k9]
  exact ⟨_, Nat.lt_succ_self _, _, k9 + 1, rest10, _, p23.1, p23.2, rfl, eqA, hd15, entA, hF⟩

/-! spec.l4Less -/
def s_l4Less_L1 (a_a : List Int) (a_b : List Int) : Nat → Int → Option (Bool)
  | 0, _ => none
  | m2 + 1, c1 => if ((decide ((c1 : Int) < (a_a.length : Int))) && (decide ((c1 : Int) < (a_b.length : Int)))) then (
      (ix a_a c1).bind fun x12 =>
      (ix a_b c1).bind fun x18 =>
      if ((x12 : Int) != x18) then (
        (ix a_a c1).bind fun x24 =>
        (ix a_b c1).bind fun x30 =>
        some (decide ((x24 : Int) < x30)))
      else (
        s_l4Less_L1 a_a a_b m2 (IntKind.i64.wrap (c1 + 1))))
    else (
      some (decide (((a_a.length : Int) : Int) < (a_b.length : Int))))
def s_l4Less (a_a : List Int) (a_b : List Int) : Option (Bool) :=
  s_l4Less_L1 a_a a_b (((a_a.length : Int) - 0).toNat + 2) 0
theorem s_l4Less_ok (a_a : List Int) (v0_0 : Sv) (a_b : List Int) (v1_0 : Sv) (R : Bool) (hF : s_l4Less a_a a_b = some R) :
    Fw.Spec Tryz.prog 148 [v0_0.v, v1_0.v] [crd (RdS 3 rdInt) v0_0.v a_a, crd (RdS 3 rdInt) v1_0.v a_b] (fun _ : Unit => (.bool R)) (fun _ => []) := by
  refine Spec_enter (n := 41) Tryz.func148 rfl rfl (rs := [.tmp 4]) rfl rfl rfl ?_
  intro H0 F0
  unfold s_l4Less at hF
  iterate 7 refine au ?_
  refine CW_block (CW_loop (m := (((a_a.length : Int) - 0).toNat + 2)) (fun m2 f' cs' => ∃ (g : Fr) (c1 : Int), f' = updL g [(0, v0_0.v), (1, v1_0.v), (5, (.int .i64 c1))] ∧ Ent cs' [crd (RdS 3 rdInt) v0_0.v a_a, crd (RdS 3 rdInt) v1_0.v a_b] ∧ s_l4Less_L1 a_a a_b m2 c1 = some R) ⟨_, _, eqA, entA, hF⟩ ?_)
  clear hF
  rintro m2 _ _ ⟨g3, c1, rfl, hE, hF⟩
  refine K_ent hE ?_
  clear hE
  rcases m2 with _ | m2
  · rw [s_l4Less_L1] at hF
    exact absurd hF (by simp)
  rw [s_l4Less_L1] at hF
  iterate 2 refine au ?_
  refine C_cut (fun f' cs' => ∃ (g : Fr), f' = updL g [(0, v0_0.v), (1, v1_0.v), (5, (.int .i64 c1)), (15, (.bool ((decide ((c1 : Int) < (a_a.length : Int))) && (decide ((c1 : Int) < (a_b.length : Int))))))] ∧ Ent cs' [crd (RdS 3 rdInt) v0_0.v a_a, crd (RdS 3 rdInt) v1_0.v a_b]) ?_ ?_
  · iterate 5 refine au ?_
    rcases Bool.eq_false_or_eq_true (decide ((c1 : Int) < (a_a.length : Int))) with hg10 | hg10
    · rw [hg10]
      try rw [hg10] at hF; dsimp only [cond_true, cond_false] at hF
      iterate 10 refine au ?_
      exact ⟨_, eqA, entA⟩
    rw [hg10]
    try rw [hg10] at hF; dsimp only [cond_true, cond_false] at hF
    iterate 6 refine au ?_
    exact ⟨_, eqA, entA⟩
  rintro _ _ ⟨g11, rfl, hE⟩
  refine K_ent hE ?_
  refine Cc (fun hb37 => ?_) (fun hb37 => ?_)
  · rw [if_pos hb37] at hF
    iterate 2 refine au ?_
    refine K_draw [0, 1, 2, 3, 4, 5, 6, 7, 8] [0, 0, 3, 7, 0, 0, 48, 112, 255] [] mixed (by decide +kernel) ?_
    iterate 2 refine du ?_
    obtain ⟨x12, hx13, hF⟩ := bind_some hF
    obtain ⟨hp14, hx15⟩ := ix_some hx13
    refine Di hx15 (fun k16 j17 => ?_)
    refine Dl ls3_0 ?_
    iterate 2 refine du ?_
    obtain ⟨x18, hx19, hF⟩ := bind_some hF
    obtain ⟨hp20, hx21⟩ := ix_some hx19
    refine Di hx21 (fun k22 j23 => ?_)
    refine Dl ls3_0 ?_
    iterate 2 refine du ?_
    refine Cc (fun hb36 => ?_) (fun hb36 => ?_)
    · rw [if_pos hb36] at hF
      refine K_draw [0, 1, 2, 3, 4, 5, 6, 7, 8, 9] [0, 0, 3, 7, 0, 0, 48, 112, 255, 511] [] mixed (by decide +kernel) ?_
      iterate 2 refine du ?_
      obtain ⟨x24, hx25, hF⟩ := bind_some hF
      obtain ⟨hp26, hx27⟩ := ix_some hx25
      refine Di hx27 (fun k28 j29 => ?_)
      refine Dl ls3_0 ?_
      iterate 2 refine du ?_
      obtain ⟨x30, hx31, hF⟩ := bind_some hF
      obtain ⟨hp32, hx33⟩ := ix_some hx31
      refine Di hx33 (fun k34 j35 => ?_)
      refine Dl ls3_0 ?_
      iterate 3 refine du ?_
      refine au ?_
      cases hF
      exact Er ()
    rw [if_neg (nt hb36)] at hF
    iterate 6 refine au ?_
    exact ⟨m2, Nat.lt_succ_self _, _, _, eqA, entA, hF⟩
  rw [if_neg (nt hb37)] at hF
  iterate 13 refine au ?_
  cases hF
  exact Er ()

/-! spec.AddTuple -/
def s_AddTuple_L2 (a_t : List Int) : List (List Int) → Nat → (List (List Int)) → Bool → Option ((List (List Int)))
  | [], k22, c15, c18 => if (!c18) then (
      (app ([] : List Int) a_t).bind fun z32 =>
      (app c15 ([z32] : List (List Int))).bind fun z36 =>
      some z36)
    else (
      some c15)
  | x24 :: rest23, k22, c15, c18 => ((bif (!c18) then ((s_l4Less a_t x24).bind fun r48 =>
          some r48)
        else (some false)).bind fun o42 =>
      match o42 with
      | c51 => if c51 then (
          (app ([] : List Int) a_t).bind fun z53 =>
          (app c15 ([z53] : List (List Int))).bind fun z57 =>
          (app ([] : List Int) x24).bind fun z64 =>
          (app z57 ([z64] : List (List Int))).bind fun z68 =>
          some (z68, true))
        else (
          (app ([] : List Int) x24).bind fun z75 =>
          (app c15 ([z75] : List (List Int))).bind fun z79 =>
          some (z79, c18))).bind fun o40 =>
    match o40 with
    | (c84, c87) => s_AddTuple_L2 a_t rest23 (k22 + 1) c84 c87
def s_AddTuple_L1 (a_l : List (List Int)) (a_t : List Int) : List (List Int) → Nat → Bool → Option ((List (List Int)))
  | [], k6, c2 => s_AddTuple_L2 a_t a_l 0 ([] : List (List Int)) c2
  | x8 :: rest7, k6, c2 => (bif c2 then (some true)
      else ((s_l2Ints x8 a_t).bind fun r96 =>
        some r96)).bind fun o90 =>
    match o90 with
    | c99 => s_AddTuple_L1 a_l a_t rest7 (k6 + 1) c99
def s_AddTuple (a_l : List (List Int)) (a_t : List Int) : Option ((List (List Int))) :=
  s_AddTuple_L1 a_l a_t a_l 0 false
theorem s_AddTuple_ok (a_l : List (List Int)) (v0_0 : Sv) (a_t : List Int) (v1_0 : Sv) (R : (List (List Int))) (hF : s_AddTuple a_l a_t = some R) :
    Fw.Spec Tryz.prog 108 [v0_0.v, v1_0.v] [crd (RdS 22 (RdS 3 rdInt)) v0_0.v a_l, crd (RdS 3 rdInt) v1_0.v a_t] (fun p : Sv × List Nat => p.1.v) (fun p => [cown (OwnS 22 (OwnS 3 (roE rdInt))) p.2 p.1.v R]) := by
  refine Spec_enter (n := 65) Tryz.func108 rfl rfl (rs := [.tmp 4]) rfl rfl rfl ?_
  intro H0 F0
  unfold s_AddTuple at hF
  iterate 4 refine au ?_
  refine C_new rfl (N_buildSliceT (g := true) sl31.h ty22.h .nil (vs := []) rfl rfl rfl (by simp)) (fun k1 => ?_)
  refine Cv1 (.cons .h .nil) (own_lit (Ro := (OwnS 3 (roE rdInt))) (E := 22) (F := []) (xs := ([] : List (List Int))) MkL_nil rfl rfl) ?_
  iterate 9 refine au ?_
  refine CW_block (CW_loop (m := a_l.length) (fun m4 f' cs' => ∃ (g : Fr) (k6 : Nat) (rest7 : List (List Int)) (c2 : Bool), m4 = rest7.length ∧ f' = updL g [(0, v0_0.v), (1, v1_0.v), (5, (.slice (some ⟨k1, 0, none⟩) 0 1)), (6, (.bool c2)), (7, (.int .i64 (k6 : Int)))] ∧ List.drop k6 a_l = rest7 ∧ Ent cs' [crd (RdS 22 (RdS 3 rdInt)) v0_0.v a_l, crd (RdS 3 rdInt) v1_0.v a_t, cown (OwnS 22 (OwnS 3 (roE rdInt))) (k1 :: []) (.slice (some ⟨k1, 0, none⟩) 0 1) ([] : List (List Int))] ∧ s_AddTuple_L1 a_l a_t rest7 k6 c2 = some R) ⟨_, 0, _, _, rfl, eqA, rfl, entA, hF⟩ ?_)
  clear hF
  rintro m4 _ _ ⟨g5, k6, rest7, c2, rfl, rfl, hd9, hE, hF⟩
  refine K_ent hE ?_
  clear hE
  refine K_pure (c := crd (RdS 22 (RdS 3 rdInt)) v0_0.v a_l) .h crd_bound (fun hbd14 => ?_)
  rcases rest7 with _ | ⟨x8, rest7⟩
  · have hk10 := List.drop_eq_nil_iff.1 hd9
    rw [s_AddTuple_L1] at hF
    iterate 7 refine au ?_
    refine CdF ?_
    iterate 8 refine au ?_
    refine CW_block (CW_loop (m := a_l.length) (fun m20 f' cs' => ∃ (g : Fr) (k22 : Nat) (rest23 : List (List Int)) (c15 : List (List Int)) (c18 : Bool) (v16 : Sv) (F17 : List Nat), m20 = rest23.length ∧ f' = updL g [(0, v0_0.v), (1, v1_0.v), (5, v16.v), (6, (.bool c18)), (8, (.int .i64 (k22 : Int)))] ∧ List.drop k22 a_l = rest23 ∧ Ent cs' [crd (RdS 22 (RdS 3 rdInt)) v0_0.v a_l, crd (RdS 3 rdInt) v1_0.v a_t, cown (OwnS 22 (OwnS 3 (roE rdInt))) F17 v16.v c15] ∧ s_AddTuple_L2 a_t rest23 k22 c15 c18 = some R) ⟨_, 0, _, _, _, ⟨(some ⟨k1, 0, none⟩), 0, 1⟩, (k1 :: []), rfl, eqA, rfl, entA, hF⟩ ?_)
    clear hF
    rintro m20 _ _ ⟨g21, k22, rest23, c15, c18, v16, F17, rfl, rfl, hd25, hE, hF⟩
    refine K_ent hE ?_
    clear hE
    refine K_pure (c := crd (RdS 22 (RdS 3 rdInt)) v0_0.v a_l) .h crd_bound (fun hbd30 => ?_)
    rcases rest23 with _ | ⟨x24, rest23⟩
    · have hk26 := List.drop_eq_nil_iff.1 hd25
      rw [s_AddTuple_L2] at hF
      iterate 7 refine au ?_
      refine CdF ?_
      iterate 9 refine au ?_
      refine Cc (fun hb39 => ?_) (fun hb39 => ?_)
      · rw [if_pos hb39] at hF
        iterate 2 refine au ?_
        refine C_new rfl (N_buildSliceT (g := true) sl22.h ty3.h .nil (vs := []) rfl rfl rfl (by simp)) (fun k31 => ?_)
        refine Cv1 (.cons .h .nil) (own_lit (Ro := (roE rdInt)) (E := 3) (F := []) (xs := ([] : List Int)) MkL_nil rfl rfl) ?_
        refine au ?_
        obtain ⟨z32, hx33, hF⟩ := bind_some hF
        refine C_x1 (.cons .h (.rd (.t .h) rfl .nil)) (X_appendO (Ro := (roE rdInt)) sl22.h ni22 ty3.h rfl rfl rfl (.tmp rfl rfl) (.tmp rfl rfl) hx33 src_rd) (fun p34 => ?_)
        refine C_new rfl (N_buildSliceT (g := true) sl31.h ty22.h (.cons (.tmp rfl rfl) .nil) (vs := [p34.1.v]) rfl rfl rfl (by intro v hv; simp at hv; rcases hv with rfl <;> rfl)) (fun k35 => ?_)
        refine Cv1 (.cons .h (.cons .h .nil)) (own_lit (Ro := (OwnS 3 (roE rdInt))) (E := 22) (F := (p34.2 ++ [])) (xs := ([z32] : List (List Int))) (MkL_cons Mk_own MkL_nil apps) rfl rfl) ?_
        obtain ⟨z36, hx37, hF⟩ := bind_some hF
        refine C_x1 (.cons (.t (.t (.t .h))) (.cons .h .nil)) (X_appendO (Ro := (OwnS 3 (roE rdInt))) sl31.h ni31 ty22.h rfl rfl rfl (.tmp rfl rfl) (.tmp rfl rfl) hx37 src_own) (fun p38 => ?_)
        iterate 7 refine au ?_
        cases hF
        exact Er (p38.1, p38.2)
      rw [if_neg (nt hb39)] at hF
      iterate 6 refine au ?_
      cases hF
      exact Er (v16, F17)
    obtain ⟨hk26, hx27, hd28⟩ := drop_cons hd25
    rw [s_AddTuple_L2] at hF
    iterate 7 refine au ?_
    refine CdT ?_
    refine au ?_
    obtain ⟨o40, hio40, hO41⟩ := bind_some hF
    refine K_cut (fun f' cs' => ∃ (c84 : List (List Int)) (c87 : Bool) (v85 : Sv) (F86 : List Nat) (g : Fr), o40 = (c84, c87) ∧ f' = updL g [(0, v0_0.v), (1, v1_0.v), (5, v85.v), (6, (.bool c87)), (8, (.int .i64 (k22 : Int)))] ∧ Ent cs' [crd (RdS 22 (RdS 3 rdInt)) v0_0.v a_l, crd (RdS 3 rdInt) v1_0.v a_t, cown (OwnS 22 (OwnS 3 (roE rdInt))) F86 v85.v c84]) ?_ ?_
    · replace hF := hio40
      refine CW_block (K_in ?_)
      obtain ⟨o42, hio42, hO43⟩ := bind_some hF
      refine au ?_
      refine C_cut (fun f' cs' => ∃ (c51 : Bool) (g : Fr), c51 = o42 ∧ f' = updL g [(0, v0_0.v), (1, v1_0.v), (5, v16.v), (6, (.bool c18)), (8, (.int .i64 (k22 : Int))), (40, (.bool c51))] ∧ Ent cs' [crd (RdS 22 (RdS 3 rdInt)) v0_0.v a_l, crd (RdS 3 rdInt) v1_0.v a_t, cown (OwnS 22 (OwnS 3 (roE rdInt))) F17 v16.v c15]) ?_ ?_
      · replace hF := hio42
        iterate 3 refine au ?_
        rcases Bool.eq_false_or_eq_true (!c18) with hg44 | hg44
        · rw [hg44]
          try rw [hg44] at hF; dsimp only [cond_true, cond_false] at hF
          iterate 7 refine au ?_
          refine Ai hx27 (fun k45 j46 => ?_)
          refine au ?_
          refine C_ldV (R' := (RdS 3 rdInt)) ag22.h (.tmp rfl rfl) .h lv22_0 (fun w47 => ?_)
          refine au ?_
          obtain ⟨r48, hx49, hF⟩ := bind_some hF
          refine Cx0 (s_l4Less_ok _ _ _ _ _ hx49) (fun _ => ?_)
          iterate 2 refine au ?_
          cases hF
          exact ⟨_, _, rfl, eqA, entA⟩
        rw [hg44]
        try rw [hg44] at hF; dsimp only [cond_true, cond_false] at hF
        iterate 8 refine au ?_
        cases hF
        exact ⟨_, _, rfl, eqA, entA⟩
      rintro _ _ ⟨c51, g83, rfl, rfl, hE⟩
      replace hF := hO43
      clear hO43
      try dsimp only at hF
      refine K_ent hE ?_
      refine Cc (fun hb82 => ?_) (fun hb82 => ?_)
      · rw [if_pos hb82] at hF
        iterate 2 refine au ?_
        refine C_new rfl (N_buildSliceT (g := true) sl22.h ty3.h .nil (vs := []) rfl rfl rfl (by simp)) (fun k52 => ?_)
        refine Cv1 (.cons .h .nil) (own_lit (Ro := (roE rdInt)) (E := 3) (F := []) (xs := ([] : List Int)) MkL_nil rfl rfl) ?_
        refine au ?_
        obtain ⟨z53, hx54, hF⟩ := bind_some hF
        refine C_x1 (.cons .h (.rd (.t .h) rfl .nil)) (X_appendO (Ro := (roE rdInt)) sl22.h ni22 ty3.h rfl rfl rfl (.tmp rfl rfl) (.tmp rfl rfl) hx54 src_rd) (fun p55 => ?_)
        refine C_new rfl (N_buildSliceT (g := true) sl31.h ty22.h (.cons (.tmp rfl rfl) .nil) (vs := [p55.1.v]) rfl rfl rfl (by intro v hv; simp at hv; rcases hv with rfl <;> rfl)) (fun k56 => ?_)
        refine Cv1 (.cons .h (.cons .h .nil)) (own_lit (Ro := (OwnS 3 (roE rdInt))) (E := 22) (F := (p55.2 ++ [])) (xs := ([z53] : List (List Int))) (MkL_cons Mk_own MkL_nil apps) rfl rfl) ?_
        obtain ⟨z57, hx58, hF⟩ := bind_some hF
        refine C_x1 (.cons (.t (.t (.t .h))) (.cons .h .nil)) (X_appendO (Ro := (OwnS 3 (roE rdInt))) sl31.h ni31 ty22.h rfl rfl rfl (.tmp rfl rfl) (.tmp rfl rfl) hx58 src_own) (fun p59 => ?_)
        iterate 7 refine au ?_
        refine C_new rfl (N_buildSliceT (g := true) sl22.h ty3.h .nil (vs := []) rfl rfl rfl (by simp)) (fun k60 => ?_)
        refine Cv1 (.cons .h .nil) (own_lit (Ro := (roE rdInt)) (E := 3) (F := []) (xs := ([] : List Int)) MkL_nil rfl rfl) ?_
        iterate 2 refine au ?_
        refine Ai hx27 (fun k61 j62 => ?_)
        refine C_ldV (R' := (RdS 3 rdInt)) ag22.h (.tmp rfl rfl) .h lv22_0 (fun w63 => ?_)
        obtain ⟨z64, hx65, hF⟩ := bind_some hF
        refine C_x1 (.cons (.t (.t .h)) (.rd .h rfl .nil)) (X_appendO (Ro := (roE rdInt)) sl22.h ni22 ty3.h rfl rfl rfl (.tmp rfl rfl) (.tmp rfl rfl) hx65 src_rd) (fun p66 => ?_)
        refine C_new rfl (N_buildSliceT (g := true) sl31.h ty22.h (.cons (.tmp rfl rfl) .nil) (vs := [p66.1.v]) rfl rfl rfl (by intro v hv; simp at hv; rcases hv with rfl <;> rfl)) (fun k67 => ?_)
        refine Cv1 (.cons .h (.cons .h .nil)) (own_lit (Ro := (OwnS 3 (roE rdInt))) (E := 22) (F := (p66.2 ++ [])) (xs := ([z64] : List (List Int))) (MkL_cons Mk_own MkL_nil apps) rfl rfl) ?_
        obtain ⟨z68, hx69, hF⟩ := bind_some hF
        refine C_x1 (.cons (.t (.t (.t .h))) (.cons .h .nil)) (X_appendO (Ro := (OwnS 3 (roE rdInt))) sl31.h ni31 ty22.h rfl rfl rfl (.tmp rfl rfl) (.tmp rfl rfl) hx69 src_own) (fun p70 => ?_)
        iterate 2 refine au ?_
        cases hF
        exact ⟨_, _, p70.1, p70.2, _, rfl, eqA, entA⟩
      rw [if_neg (nt hb82)] at hF
      iterate 3 refine au ?_
      refine C_new rfl (N_buildSliceT (g := true) sl22.h ty3.h .nil (vs := []) rfl rfl rfl (by simp)) (fun k71 => ?_)
      refine Cv1 (.cons .h .nil) (own_lit (Ro := (roE rdInt)) (E := 3) (F := []) (xs := ([] : List Int)) MkL_nil rfl rfl) ?_
      iterate 2 refine au ?_
      refine Ai hx27 (fun k72 j73 => ?_)
      refine C_ldV (R' := (RdS 3 rdInt)) ag22.h (.tmp rfl rfl) .h lv22_0 (fun w74 => ?_)
      obtain ⟨z75, hx76, hF⟩ := bind_some hF
      refine C_x1 (.cons (.t (.t .h)) (.rd .h rfl .nil)) (X_appendO (Ro := (roE rdInt)) sl22.h ni22 ty3.h rfl rfl rfl (.tmp rfl rfl) (.tmp rfl rfl) hx76 src_rd) (fun p77 => ?_)
      refine C_new rfl (N_buildSliceT (g := true) sl31.h ty22.h (.cons (.tmp rfl rfl) .nil) (vs := [p77.1.v]) rfl rfl rfl (by intro v hv; simp at hv; rcases hv with rfl <;> rfl)) (fun k78 => ?_)
      refine Cv1 (.cons .h (.cons .h .nil)) (own_lit (Ro := (OwnS 3 (roE rdInt))) (E := 22) (F := (p77.2 ++ [])) (xs := ([z75] : List (List Int))) (MkL_cons Mk_own MkL_nil apps) rfl rfl) ?_
      obtain ⟨z79, hx80, hF⟩ := bind_some hF
      refine C_x1 (.cons (.t (.t (.t (.t (.t .h))))) (.cons .h .nil)) (X_appendO (Ro := (OwnS 3 (roE rdInt))) sl31.h ni31 ty22.h rfl rfl rfl (.tmp rfl rfl) (.tmp rfl rfl) hx80 src_own) (fun p81 => ?_)
      iterate 2 refine au ?_
      cases hF
      exact ⟨_, _, p81.1, p81.2, _, rfl, eqA, entA⟩
    rintro _ _ ⟨c84, c87, v85, F86, g89, rfl, rfl, hE⟩
    replace hF := hO41
    clear hO41
    try dsimp only at hF
    refine K_ent hE ?_
    iterate 5 refine au ?_
    rw [wk k22]
    exact ⟨_, Nat.lt_succ_self _, _, k22 + 1, rest23, _, _, v85, F86, rfl, eqA, hd28, entA, hF⟩
  obtain ⟨hk10, hx11, hd12⟩ := drop_cons hd9
  rw [s_AddTuple_L1] at hF
  iterate 7 refine au ?_
  refine CdT ?_
  iterate 2 refine au ?_
  obtain ⟨o90, hio90, hO91⟩ := bind_some hF
  refine au ?_
  refine C_cut (fun f' cs' => ∃ (c99 : Bool) (g : Fr), c99 = o90 ∧ f' = updL g [(0, v0_0.v), (1, v1_0.v), (5, (.slice (some ⟨k1, 0, none⟩) 0 1)), (6, (.bool c99)), (7, (.int .i64 (k6 : Int)))] ∧ Ent cs' [crd (RdS 22 (RdS 3 rdInt)) v0_0.v a_l, crd (RdS 3 rdInt) v1_0.v a_t, cown (OwnS 22 (OwnS 3 (roE rdInt))) (k1 :: []) (.slice (some ⟨k1, 0, none⟩) 0 1) ([] : List (List Int))]) ?_ ?_
  · replace hF := hio90
    iterate 2 refine au ?_
    rcases Bool.eq_false_or_eq_true c2 with hg92 | hg92
    · rw [hg92]
      try rw [hg92] at hF; dsimp only [cond_true, cond_false] at hF
      iterate 9 refine au ?_
      cases hF
      exact ⟨_, _, rfl, eqA, entA⟩
    rw [hg92]
    try rw [hg92] at hF; dsimp only [cond_true, cond_false] at hF
    iterate 5 refine au ?_
    refine Ai hx11 (fun k93 j94 => ?_)
    refine au ?_
    refine C_ldV (R' := (RdS 3 rdInt)) ag22.h (.tmp rfl rfl) .h lv22_0 (fun w95 => ?_)
    iterate 3 refine au ?_
    obtain ⟨r96, hx97, hF⟩ := bind_some hF
    refine Cx0 (s_l2Ints_ok _ _ _ _ _ hx97) (fun _ => ?_)
    iterate 3 refine au ?_
    cases hF
    exact ⟨_, _, rfl, eqA, entA⟩
  rintro _ _ ⟨c99, g101, rfl, rfl, hE⟩
  replace hF := hO91
  clear hO91
  try dsimp only at hF
  refine K_ent hE ?_
  iterate 5 refine au ?_
  rw [wk k6]
  exact ⟨_, Nat.lt_succ_self _, _, k6 + 1, rest7, _, rfl, eqA, hd12, entA, hF⟩

/-! spec.l4Tuples -/
def s_l4Tuples_L2 (c3 : List (List Int)) (x11 : Binding) : List Int → Nat → (List Int) → Option ((List (List Int)))
  | [], k27, c21 => (s_AddTuple c3 c21).bind fun r36 =>
    some r36
  | x29 :: rest28, k27, c21 => (s_ValueOf x11 x29).bind fun r44 =>
    (app c21 ([r44] : List Int)).bind fun z48 =>
    s_l4Tuples_L2 c3 x11 rest28 (k27 + 1) z48
def s_l4Tuples_L1 (a_q : Query) : List Binding → Nat → (List (List Int)) → Option ((List (List Int)))
  | [], k9, c3 => some c3
  | x11 :: rest10, k9, c3 => (s_l4Tuples_L2 c3 x11 a_q.Head 0 ([] : List Int)).bind fun o18 =>
    match o18 with
    | c52 => s_l4Tuples_L1 a_q rest10 (k9 + 1) c52
def s_l4Tuples (a_q : Query) (a_l : List Binding) : Option ((List (List Int))) :=
  s_l4Tuples_L1 a_q a_l 0 ([] : List (List Int))
theorem s_l4Tuples_ok (a_q : Query) (v0_0 : Sv) (v0_1 : Sv) (a_l : List Binding) (v1_0 : Sv) (R : (List (List Int))) (hF : s_l4Tuples a_q a_l = some R) :
    Fw.Spec Tryz.prog 73 [(.agg [v0_0.v, v0_1.v].toArray), v1_0.v] [crd (RdS 3 rdInt) v0_0.v a_q.Head, crd (RdS 102 rd102) v0_1.v a_q.Atoms, crd (RdS 126 rd126) v1_0.v a_l] (fun p : Sv × List Nat => p.1.v) (fun p => [cown (OwnS 22 (OwnS 3 (roE rdInt))) p.2 p.1.v R]) := by
  refine Spec_enter (n := 41) Tryz.func73 rfl rfl (rs := [.tmp 4]) rfl rfl rfl ?_
  intro H0 F0
  unfold s_l4Tuples at hF
  refine au ?_
  refine AbR (fun k1 => ?_)
  iterate 3 refine au ?_
  refine C_new rfl (N_buildSliceT (g := true) sl31.h ty22.h .nil (vs := []) rfl rfl rfl (by simp)) (fun k2 => ?_)
  refine Cv1 (.cons .h .nil) (own_lit (Ro := (OwnS 3 (roE rdInt))) (E := 22) (F := []) (xs := ([] : List (List Int))) MkL_nil rfl rfl) ?_
  iterate 6 refine au ?_
  refine CW_block (CW_loop (m := a_l.length) (fun m7 f' cs' => ∃ (g : Fr) (k9 : Nat) (rest10 : List Binding) (c3 : List (List Int)) (v4 : Sv) (F5 : List Nat), m7 = rest10.length ∧ f' = updL g [(1, v1_0.v), (2, (.pointer (some ⟨k1, 0, some 0⟩))), (5, v4.v), (6, (.int .i64 (k9 : Int)))] ∧ List.drop k9 a_l = rest10 ∧ Ent cs' [crd (RdS 126 rd126) v1_0.v a_l, cboR k1 38 (.agg [v0_0.v, v0_1.v].toArray), crd (RdS 3 rdInt) v0_0.v a_q.Head, crd (RdS 102 rd102) v0_1.v a_q.Atoms, cown (OwnS 22 (OwnS 3 (roE rdInt))) F5 v4.v c3] ∧ s_l4Tuples_L1 a_q rest10 k9 c3 = some R) ⟨_, 0, _, _, ⟨(some ⟨k2, 0, none⟩), 0, 1⟩, (k2 :: []), rfl, eqA, rfl, entA, hF⟩ ?_)
  clear hF
  rintro m7 _ _ ⟨g8, k9, rest10, c3, v4, F5, rfl, rfl, hd12, hE, hF⟩
  refine K_ent hE ?_
  clear hE
  refine K_pure (c := crd (RdS 126 rd126) v1_0.v a_l) .h crd_bound (fun hbd17 => ?_)
  rcases rest10 with _ | ⟨x11, rest10⟩
  · have hk13 := List.drop_eq_nil_iff.1 hd12
    rw [s_l4Tuples_L1] at hF
    iterate 7 refine au ?_
    refine CdF ?_
    iterate 9 refine au ?_
    cases hF
    exact Er (v4, F5)
  obtain ⟨hk13, hx14, hd15⟩ := drop_cons hd12
  rw [s_l4Tuples_L1] at hF
  iterate 7 refine au ?_
  refine CdT ?_
  refine au ?_
  obtain ⟨o18, hio18, hO19⟩ := bind_some hF
  refine K_cut (fun f' cs' => ∃ (c52 : List (List Int)) (v53 : Sv) (F54 : List Nat) (g : Fr), c52 = o18 ∧ f' = updL g [(1, v1_0.v), (2, (.pointer (some ⟨k1, 0, some 0⟩))), (5, v53.v), (6, (.int .i64 (k9 : Int)))] ∧ Ent cs' [crd (RdS 126 rd126) v1_0.v a_l, cboR k1 38 (.agg [v0_0.v, v0_1.v].toArray), crd (RdS 3 rdInt) v0_0.v a_q.Head, crd (RdS 102 rd102) v0_1.v a_q.Atoms, cown (OwnS 22 (OwnS 3 (roE rdInt))) F54 v53.v c52]) ?_ ?_
  · replace hF := hio18
    refine CW_block (K_region (C_new rfl (N_buildSliceT (g := true) sl22.h ty3.h .nil (vs := []) rfl rfl rfl (by simp)) (fun k20 => ?_)))
    refine Cv1 (.cons .h .nil) (own_lit (Ro := (roE rdInt)) (E := 3) (F := []) (xs := ([] : List Int)) MkL_nil rfl rfl) ?_
    iterate 6 refine au ?_
    refine CW_block (CW_loop (m := a_q.Head.length) (fun m25 f' cs' => ∃ (g : Fr) (k27 : Nat) (rest28 : List Int) (c21 : List Int) (v22 : Sv) (F23 : List Nat), m25 = rest28.length ∧ f' = updL g [(1, v1_0.v), (2, (.pointer (some ⟨k1, 0, some 0⟩))), (5, v4.v), (6, (.int .i64 (k9 : Int))), (7, v22.v), (8, (.int .i64 (k27 : Int)))] ∧ List.drop k27 a_q.Head = rest28 ∧ Ent cs' [crd (RdS 126 rd126) v1_0.v a_l, cboR k1 38 (.agg [v0_0.v, v0_1.v].toArray), crd (RdS 3 rdInt) v0_0.v a_q.Head, crd (RdS 102 rd102) v0_1.v a_q.Atoms, cown (OwnS 22 (OwnS 3 (roE rdInt))) F5 v4.v c3, cown (OwnS 3 (roE rdInt)) F23 v22.v c21] ∧ s_l4Tuples_L2 c3 x11 rest28 k27 c21 = some o18) ⟨_, 0, _, _, ⟨(some ⟨k20, 0, none⟩), 0, 1⟩, (k20 :: []), rfl, eqA, rfl, entA, hF⟩ ?_)
    clear hF
    rintro m25 _ _ ⟨g26, k27, rest28, c21, v22, F23, rfl, rfl, hd30, hE, hF⟩
    refine K_ent hE ?_
    clear hE
    refine K_pure (c := crd (RdS 3 rdInt) v0_0.v a_q.Head) (.t (.t .h)) crd_bound (fun hbd35 => ?_)
    rcases rest28 with _ | ⟨x29, rest28⟩
    · have hk31 := List.drop_eq_nil_iff.1 hd30
      rw [s_l4Tuples_L2] at hF
      iterate 8 refine au ?_
      refine CdF ?_
      iterate 7 refine au ?_
      obtain ⟨r36, hx37, hF⟩ := bind_some hF
      refine C_x3 (.cons (.t (.t (.t (.t (.t .h))))) (.cons (.t (.t (.t (.t .h)))) .nil)) (XC_borL (pre := []) (.cons frz_own (.cons frz_own .nil)) (fun _ => (.cons .nil)) (X_callS cf108.h (.cons (.tmp rfl rfl) (.cons (.tmp rfl rfl) .nil)) (s_AddTuple_ok c3 v4 c21 v22 _ hx37))) (fun p38 => ?_)
      iterate 2 refine au ?_
      cases hF
      exact ⟨_, p38.1, p38.2, _, rfl, eqA, entA⟩
    obtain ⟨hk31, hx32, hd33⟩ := drop_cons hd30
    rw [s_l4Tuples_L2] at hF
    iterate 8 refine au ?_
    refine CdT ?_
    iterate 2 refine au ?_
    refine CW_draw [0, 1, 2, 3, 4, 5, 6, 7, 8, 9, 10, 11, 12, 13] [0, 0, 0, 6, 14, 0, 32, 0, 224, 480, 1022, 2046, 4095, 8191] [10, 12] mixed (by decide +kernel) ?_
    iterate 3 refine du ?_
    refine Di hx14 (fun k39 j40 => ?_)
    refine DlA2 (ul126_0_126 x11) la126_0_126 (fun p41 => ?_)
    iterate 3 refine du ?_
    refine Di hx32 (fun k42 j43 => ?_)
    refine Dl ls3_0 ?_
    obtain ⟨r44, hx45, hF⟩ := bind_some hF
    refine Dx0 (s_ValueOf_ok _ _ _ _ _ hx45) (fun _ => ?_)
    refine D_new rfl .no rfl (fun ha => N_buildSliceT (g := true) (len := 1) (parts := [(0, .tmp 34)]) sl22.h ty3.h (.cons (EN ha (.tmp rfl rfl) rfl) .nil) (vs := [(.int .i64 r44)]) rfl rfl rfl (by intro v hv; simp at hv; rcases hv with rfl <;> rfl)) (fun k47 => ?_)
    refine Dv1 (.cons .h .nil) (own_lit (Ro := (roE rdInt)) (E := 3) (F := ([] ++ [])) (xs := ([r44] : List Int)) (MkL_cons (Mk_pure (fun _ => rfl)) MkL_nil apps) rfl rfl) ?_
    obtain ⟨z48, hx49, hF⟩ := bind_some hF
    refine D_act1 rfl rfl .no (.cons (.t (.t (.t (.t (.t (.t (.t (.t (.t (.t .h)))))))))) (.cons .h .nil)) (.dep rfl .nil) (fun ha => X_appendO (Ro := (roE rdInt)) sl22.h ni22 ty3.h rfl rfl rfl (EN ha (.tmp rfl rfl) rfl) (EN ha (.tmp rfl rfl) rfl) hx49 src_own) (fun p50 => ?_)
    iterate 2 refine du ?_
    iterate 5 refine au ?_
    rw [wk k27]
    exact ⟨_, Nat.lt_succ_self _, _, k27 + 1, rest28, _, p50.1, p50.2, rfl, eqA, hd33, entA, hF⟩
  rintro _ _ ⟨c52, v53, F54, g56, rfl, rfl, hE⟩
  replace hF := hO19
  clear hO19
  try dsimp only at hF
  refine K_ent hE ?_
  iterate 5 refine au ?_
  rw [wk k9]
  exact ⟨_, Nat.lt_succ_self _, _, k9 + 1, rest10, _, v53, F54, rfl, eqA, hd15, entA, hF⟩

/-! spec.AnswersOf -/
def s_AnswersOf (a_s : List Int) (a_q : Query) (a_facts : List Fact) : Option ((List (List Int))) :=
  ((s_IsQuery a_s a_q).bind fun r4 =>
    bif (!r4) then (some true)
    else ((s_AreFacts a_s a_facts).bind fun r8 =>
      some (!r8))).bind fun o2 =>
  match o2 with
  | c11 => if c11 then (
      some ([] : List (List Int)))
    else (
      (s_BindingsOf a_q a_facts).bind fun r13 =>
      (s_l4Tuples a_q r13).bind fun r16 =>
      some r16)
theorem s_AnswersOf_ok (a_s : List Int) (v0_0 : Sv) (a_q : Query) (v1_0 : Sv) (v1_1 : Sv) (a_facts : List Fact) (v2_0 : Sv) (R : (List (List Int))) (hF : s_AnswersOf a_s a_q a_facts = some R) :
    Fw.Spec Tryz.prog 41 [v0_0.v, (.agg [v1_0.v, v1_1.v].toArray), v2_0.v] [crd (RdS 3 rdInt) v0_0.v a_s, crd (RdS 3 rdInt) v1_0.v a_q.Head, crd (RdS 102 rd102) v1_1.v a_q.Atoms, crd (RdS 80 rd80) v2_0.v a_facts] (fun p : Sv × List Nat => p.1.v) (fun p => [cown (OwnS 22 (OwnS 3 (roE rdInt))) p.2 p.1.v R]) := by
  refine Spec_enter (n := 23) Tryz.func41 rfl rfl (rs := [.tmp 6]) rfl rfl rfl ?_
  intro H0 F0
  unfold s_AnswersOf at hF
  refine K_region (C_newR rfl (N_box (g := false) (v := (.agg [v1_0.v, v1_1.v].toArray)) ty38.h.sz (.tmp rfl rfl) rfl) (fun k1 => ?_))
  refine C_val (V_assign (v := (.slice none 0 0)) EV.nilSlice) ?_
  refine C_nil (K_in ?_)
  obtain ⟨o2, hio2, hO3⟩ := bind_some hF
  refine K_region (C_cut (fun f' cs' => ∃ (c11 : Bool) (g : Fr), c11 = o2 ∧ f' = updL g [(2, v2_0.v), (4, (.pointer (some ⟨k1, 0, some 0⟩))), (16, (.bool c11))] ∧ Ent cs' [crd (RdS 80 rd80) v2_0.v a_facts, cboR k1 38 (.agg [v1_0.v, v1_1.v].toArray), crd (RdS 3 rdInt) v1_0.v a_q.Head, crd (RdS 102 rd102) v1_1.v a_q.Atoms]) ?_ ?_)
  · replace hF := hio2
    refine Cm v0_0.v rfl rfl ?_
    refine C_at .h (fun hp => V_loadBox ag38.h ty38.h.sz rfl (.tmp rfl rfl) hp.2 rfl) ?_
    obtain ⟨r4, hx5, hF⟩ := bind_some hF
    refine C_x0 (.rd (.t .h) rfl (.rd (.t (.t .h)) rfl (.rd (.t (.t (.t .h))) rfl .nil))) (X_callS cf65.h (.cons (.tmp rfl rfl) (.cons (.tmp rfl rfl) .nil)) (s_IsQuery_ok a_s v0_0 a_q v1_0 v1_1 _ hx5)) (fun _ => ?_)
    refine C_val (V_not (b := r4) (.tmp rfl rfl)) ?_
    refine Cm (.bool (!r4)) rfl rfl ?_
    rcases Bool.eq_false_or_eq_true (!r4) with hg7 | hg7
    · rw [hg7]
      try rw [hg7] at hF; dsimp only [cond_true, cond_false] at hF
      iterate 4 refine C_off (t := 11) rfl rfl rfl ?_
      refine C_val (V_pick (b := true) (u := (.bool true)) (v := undef) (.tmp rfl rfl) (.bool _) (.tmp rfl rfl)) ?_
      refine C_nil ?_
      obtain rfl := Option.some.inj hF
      exact ⟨_, _, rfl, (EqL.cons rfl (EqL.cons rfl (EqL.cons rfl (EqL.nil)))).eq, (.sel (.rd (.t (.t (.t (.t .h)))) rfl (.rd .h rfl (.rd (.t (.t .h)) rfl (.rd (.t (.t (.t .h))) rfl .nil)))))⟩
    rw [hg7]
    try rw [hg7] at hF; dsimp only [cond_true, cond_false] at hF
    refine C_on (t := 11) rfl rfl rfl ?_
    refine Cm v0_0.v rfl rfl ?_
    refine C_on (t := 11) rfl rfl rfl ?_
    refine Cm v2_0.v rfl rfl ?_
    refine C_on (t := 11) rfl rfl rfl ?_
    obtain ⟨r8, hx9, hF⟩ := bind_some hF
    refine C_x0 (.rd (.t .h) rfl (.rd (.t (.t (.t (.t .h)))) rfl .nil)) (X_callS cf38.h (.cons (.tmp rfl rfl) (.cons (.tmp rfl rfl) .nil)) (s_AreFacts_ok a_s v0_0 a_facts v2_0 _ hx9)) (fun _ => ?_)
    refine C_on (t := 11) rfl rfl rfl ?_
    refine C_val (V_not (b := r8) (.tmp rfl rfl)) ?_
    refine C_val (V_pick (b := false) (u := (.bool true)) (v := (.bool (!r8))) (.tmp rfl rfl) (.bool _) (.tmp rfl rfl)) ?_
    refine C_nil ?_
    obtain rfl := Option.some.inj hF
    exact ⟨_, _, rfl, (EqL.cons rfl (EqL.cons rfl (EqL.cons rfl (EqL.nil)))).eq, (.sel (.rd (.t (.t (.t (.t .h)))) rfl (.rd .h rfl (.rd (.t (.t .h)) rfl (.rd (.t (.t (.t .h))) rfl .nil)))))⟩
  rintro _ _ ⟨c11, g20, rfl, rfl, hE⟩
  replace hF := hO3
  clear hO3
  try dsimp only at hF
  refine K_ent hE ?_
  refine CW_cond (b := c11) (.tmp rfl rfl) (fun hb19 => ?_) (fun hb19 => ?_)
  · rw [if_pos hb19] at hF
    refine K_region (C_new rfl (N_buildSliceT (g := true) sl31.h ty22.h .nil (vs := []) rfl rfl rfl (by simp)) (fun k12 => ?_))
    refine C_conv (.cons .h .nil) (own_lit (Ro := (OwnS 3 (roE rdInt))) (E := 22) (F := []) (xs := ([] : List (List Int))) MkL_nil rfl rfl) apps ?_
    refine Ca (.slice (some ⟨k12, 0, none⟩) 0 1) rfl rfl ?_
    refine C_nil (CW_ret ?_)
    obtain rfl := Option.some.inj hF
    exact End_ret (⟨(some ⟨k12, 0, none⟩), 0, 1⟩, (k12 :: [])) (.tmp rfl rfl .nil) rfl (.sel (.cons .h .nil))
  rw [if_neg (by rw [hb19]; exact Bool.false_ne_true)] at hF
  refine CW_skip (K_draw [0, 1, 2, 3, 4, 5] [0, 0, 0, 6, 15, 31] [3, 4] mixed (by decide +kernel) ?_)
  iterate 2 refine D_at rfl .no (.t .h) rfl (fun ha hp => V_loadBox ag38.h ty38.h.sz rfl (EN ha (.tmp rfl rfl) rfl) hp.2 rfl) ?_
  refine Dm v2_0.v rfl rfl rfl rfl ?_
  obtain ⟨r13, hx14, hF⟩ := bind_some hF
  refine D_act1 rfl rfl .no (.rd (.t (.t .h)) rfl (.rd (.t (.t (.t .h))) rfl (.rd .h rfl .nil))) .nil (fun ha => X_callS cf74.h (.cons (EN ha (.tmp rfl rfl) rfl) (.cons (EN ha (.tmp rfl rfl) rfl) .nil)) (s_BindingsOf_ok a_q v1_0 v1_1 a_facts v2_0 _ hx14)) (fun p15 => ?_)
  obtain ⟨r16, hx17, hF⟩ := bind_some hF
  refine D_act2 rfl rfl .no (.cons .h (.rd (.t (.t .h)) rfl (.rd (.t (.t (.t .h))) rfl .nil))) .nil (fun ha => XC_bor frz_own (fun _ => (.cons .nil)) (XC_pre (.rd (.t .h) rfl (.rd (.t (.t .h)) rfl (.rd .h rfl .nil))) (X_callS cf73.h (.cons (EN ha (.tmp rfl rfl) rfl) (.cons (EN ha (.tmp rfl rfl) rfl) .nil)) (s_l4Tuples_ok a_q v1_0 v1_1 r13 p15.1 _ hx17)))) (fun p18 => ?_)
  refine Da p18.1.v rfl rfl rfl rfl ?_
  refine D_nil (CW_ret ?_)
  obtain rfl := Option.some.inj hF
  exact End_ret (p18.1, p18.2) (.tmp rfl rfl .nil) rfl (.sel (.cons (.t .h) .nil))

/-! spec.l10HasTuple -/
def s_l10HasTuple_L1 (a_t : List Int) : List (List Int) → Nat → Option (Bool)
  | [], k4 => some false
  | x6 :: rest5, k4 => (s_l2Ints x6 a_t).bind fun r16 =>
    if r16 then (
      some true)
    else (
      s_l10HasTuple_L1 a_t rest5 (k4 + 1))
def s_l10HasTuple (a_l : List (List Int)) (a_t : List Int) : Option (Bool) :=
  s_l10HasTuple_L1 a_t a_l 0
theorem s_l10HasTuple_ok (a_l : List (List Int)) (v0_0 : Sv) (a_t : List Int) (v1_0 : Sv) (R : Bool) (hF : s_l10HasTuple a_l a_t = some R) :
    Fw.Spec Tryz.prog 56 [v0_0.v, v1_0.v] [crd (RdS 22 (RdS 3 rdInt)) v0_0.v a_l, crd (RdS 3 rdInt) v1_0.v a_t] (fun _ : Unit => (.bool R)) (fun _ => []) := by
  refine Spec_enter (n := 18) Tryz.func56 rfl rfl (rs := [.tmp 4]) rfl rfl rfl ?_
  intro H0 F0
  unfold s_l10HasTuple at hF
  iterate 7 refine au ?_
  refine CW_block (CW_loop (m := a_l.length) (fun m2 f' cs' => ∃ (g : Fr) (k4 : Nat) (rest5 : List (List Int)), m2 = rest5.length ∧ f' = updL g [(0, v0_0.v), (1, v1_0.v), (5, (.int .i64 (k4 : Int)))] ∧ List.drop k4 a_l = rest5 ∧ Ent cs' [crd (RdS 22 (RdS 3 rdInt)) v0_0.v a_l, crd (RdS 3 rdInt) v1_0.v a_t] ∧ s_l10HasTuple_L1 a_t rest5 k4 = some R) ⟨_, 0, _, rfl, eqA, rfl, entA, hF⟩ ?_)
  clear hF
  rintro m2 _ _ ⟨g3, k4, rest5, rfl, rfl, hd7, hE, hF⟩
  refine K_ent hE ?_
  clear hE
  refine K_pure (c := crd (RdS 22 (RdS 3 rdInt)) v0_0.v a_l) .h crd_bound (fun hbd12 => ?_)
  rcases rest5 with _ | ⟨x6, rest5⟩
  · have hk8 := List.drop_eq_nil_iff.1 hd7
    rw [s_l10HasTuple_L1] at hF
    iterate 7 refine au ?_
    refine CdF ?_
    iterate 8 refine au ?_
    cases hF
    exact Er ()
  obtain ⟨hk8, hx9, hd10⟩ := drop_cons hd7
  rw [s_l10HasTuple_L1] at hF
  iterate 7 refine au ?_
  refine CdT ?_
  iterate 5 refine au ?_
  refine Ai hx9 (fun k13 j14 => ?_)
  refine C_ldV (R' := (RdS 3 rdInt)) ag22.h (.tmp rfl rfl) .h lv22_0 (fun w15 => ?_)
  refine au ?_
  obtain ⟨r16, hx17, hF⟩ := bind_some hF
  refine Cx0 (s_l2Ints_ok _ _ _ _ _ hx17) (fun _ => ?_)
  refine au ?_
  refine Cc (fun hb20 => ?_) (fun hb20 => ?_)
  · rw [if_pos hb20] at hF
    iterate 4 refine au ?_
    cases hF
    exact Er ()
  rw [if_neg (nt hb20)] at hF
  iterate 6 refine au ?_
  rw [wk k4]
  exact ⟨_, Nat.lt_succ_self _, _, k4 + 1, rest5, rfl, eqA, hd10, entA, hF⟩

/-! spec.CheckCertificate -/
def s_CheckCertificate (a_s : List Int) (a_l : List Method) (a_q : Query) (a_c : Certificate) : Option (Bool) :=
  ((s_l6Fine a_s a_l a_q).bind fun r5 =>
    bif (!r5) then (some true)
    else ((s_AreFacts a_s a_c.All).bind fun r9 =>
      bif (!r9) then (some true)
      else ((s_AreFacts a_s a_c.Some).bind fun r13 =>
        some (!r13)))).bind fun o3 =>
  match o3 with
  | c16 => if c16 then (
      some false)
    else (
      (s_ConstantsOf a_q).bind fun r18 =>
      (s_ReachAll a_s a_l a_c.All r18).bind fun r21 =>
      (s_ConstantsOf a_q).bind fun r25 =>
      (s_ReachAll a_s a_l a_c.Some r25).bind fun r28 =>
      ((s_EqualReached r21 r28).bind fun r33 =>
        bif r33 then ((s_AnswersOf a_s a_q a_c.All).bind fun r37 =>
          (s_l10HasTuple r37 a_c.Tuple).bind fun r40 =>
          bif r40 then ((s_AnswersOf a_s a_q a_c.Some).bind fun r44 =>
            (s_l10HasTuple r44 a_c.Tuple).bind fun r47 =>
            some (!r47))
          else (some false))
        else (some false)).bind fun o31 =>
      match o31 with
      | c50 => some c50)
theorem s_CheckCertificate_ok (a_s : List Int) (v0_0 : Sv) (a_l : List Method) (v1_0 : Sv) (a_q : Query) (v2_0 : Sv) (v2_1 : Sv) (a_c : Certificate) (v3_0 : Sv) (v3_1 : Sv) (v3_2 : Sv) (R : Bool) (hF : s_CheckCertificate a_s a_l a_q a_c = some R) :
    Fw.Spec Tryz.prog 27 [v0_0.v, v1_0.v, (.agg [v2_0.v, v2_1.v].toArray), (.agg [v3_0.v, v3_1.v, v3_2.v].toArray)] [crd (RdS 3 rdInt) v0_0.v a_s, crd (RdS 77 rd77) v1_0.v a_l, crd (RdS 3 rdInt) v2_0.v a_q.Head, crd (RdS 102 rd102) v2_1.v a_q.Atoms, crd (RdS 80 rd80) v3_0.v a_c.All, crd (RdS 80 rd80) v3_1.v a_c.Some, crd (RdS 3 rdInt) v3_2.v a_c.Tuple] (fun _ : Unit => (.bool R)) (fun _ => []) := by
  refine Spec_enter (n := 68) Tryz.func27 rfl rfl (rs := [.tmp 8]) rfl rfl rfl ?_
  intro H0 F0
  unfold s_CheckCertificate at hF
  refine K_region (C_newR rfl (N_box (g := false) (v := (.agg [v2_0.v, v2_1.v].toArray)) ty38.h.sz (.tmp rfl rfl) rfl) (fun k1 => ?_))
  refine C_newR rfl (N_box (g := false) (v := (.agg [v3_0.v, v3_1.v, v3_2.v].toArray)) ty58.h.sz (.tmp rfl rfl) rfl) (fun k2 => ?_)
  refine C_val (V_assign (v := (.bool false)) (.bool _)) ?_
  refine C_nil (K_in ?_)
  obtain ⟨o3, hio3, hO4⟩ := bind_some hF
  refine K_region (C_cut (fun f' cs' => ∃ (c16 : Bool) (g : Fr), c16 = o3 ∧ f' = updL g [(0, v0_0.v), (1, v1_0.v), (6, (.pointer (some ⟨k1, 0, some 0⟩))), (7, (.pointer (some ⟨k2, 0, some 0⟩))), (29, (.bool c16))] ∧ Ent cs' [crd (RdS 3 rdInt) v0_0.v a_s, crd (RdS 77 rd77) v1_0.v a_l, cboR k1 38 (.agg [v2_0.v, v2_1.v].toArray), crd (RdS 3 rdInt) v2_0.v a_q.Head, crd (RdS 102 rd102) v2_1.v a_q.Atoms, cboR k2 58 (.agg [v3_0.v, v3_1.v, v3_2.v].toArray), crd (RdS 80 rd80) v3_0.v a_c.All, crd (RdS 80 rd80) v3_1.v a_c.Some, crd (RdS 3 rdInt) v3_2.v a_c.Tuple]) ?_ ?_)
  · replace hF := hio3
    refine Cm v0_0.v rfl rfl ?_
    refine Cm v1_0.v rfl rfl ?_
    refine C_at (.t .h) (fun hp => V_loadBox ag38.h ty38.h.sz rfl (.tmp rfl rfl) hp.2 rfl) ?_
    obtain ⟨r5, hx6, hF⟩ := bind_some hF
    refine C_x0 (.rd (.t (.t .h)) rfl (.rd (.t (.t (.t .h))) rfl (.rd (.t (.t (.t (.t .h)))) rfl (.rd (.t (.t (.t (.t (.t .h))))) rfl .nil)))) (X_callS cf37.h (.cons (.tmp rfl rfl) (.cons (.tmp rfl rfl) (.cons (.tmp rfl rfl) .nil))) (s_l6Fine_ok a_s v0_0 a_l v1_0 a_q v2_0 v2_1 _ hx6)) (fun _ => ?_)
    refine C_val (V_not (b := r5) (.tmp rfl rfl)) ?_
    refine Cm (.bool (!r5)) rfl rfl ?_
    rcases Bool.eq_false_or_eq_true (!r5) with hg8 | hg8
    · rw [hg8]
      try rw [hg8] at hF; dsimp only [cond_true, cond_false] at hF
      iterate 5 refine C_off (t := 16) rfl rfl rfl ?_
      refine C_val (V_pick (b := true) (u := (.bool true)) (v := undef) (.tmp rfl rfl) (.bool _) (.tmp rfl rfl)) ?_
      refine Cm (.bool true) rfl rfl ?_
      iterate 5 refine C_off (t := 23) rfl rfl rfl ?_
      refine C_val (V_pick (b := true) (u := (.bool true)) (v := undef) (.tmp rfl rfl) (.bool _) (.tmp rfl rfl)) ?_
      refine C_nil ?_
      obtain rfl := Option.some.inj hF
      exact ⟨_, _, rfl, (EqL.cons rfl (EqL.cons rfl (EqL.cons rfl (EqL.cons rfl (EqL.cons rfl (EqL.nil)))))).eq, (.sel (.rd (.t (.t .h)) rfl (.rd (.t (.t (.t .h))) rfl (.rd (.t .h) rfl (.rd (.t (.t (.t (.t .h)))) rfl (.rd (.t (.t (.t (.t (.t .h))))) rfl (.rd .h rfl (.rd (.t (.t (.t (.t (.t (.t .h)))))) rfl (.rd (.t (.t (.t (.t (.t (.t (.t .h))))))) rfl (.rd (.t (.t (.t (.t (.t (.t (.t (.t .h)))))))) rfl .nil))))))))))⟩
    rw [hg8]
    try rw [hg8] at hF; dsimp only [cond_true, cond_false] at hF
    refine C_on (t := 16) rfl rfl rfl ?_
    refine Cm v0_0.v rfl rfl ?_
    refine C_on (t := 16) rfl rfl rfl ?_
    refine C_val (V_fieldAddr (off := 0) fd58_0.h (.tmp rfl rfl)) ?_
    refine C_on (t := 16) rfl rfl rfl ?_
    refine C_at .h (fun hp => V_load (v := v3_0.v) ag40.h (.tmp rfl rfl) hp.2 rfl rfl) ?_
    refine C_on (t := 16) rfl rfl rfl ?_
    obtain ⟨r9, hx10, hF⟩ := bind_some hF
    refine C_x0 (.rd (.t (.t .h)) rfl (.rd (.t (.t (.t (.t (.t (.t .h)))))) rfl .nil)) (X_callS cf38.h (.cons (.tmp rfl rfl) (.cons (.tmp rfl rfl) .nil)) (s_AreFacts_ok a_s v0_0 a_c.All v3_0 _ hx10)) (fun _ => ?_)
    refine C_on (t := 16) rfl rfl rfl ?_
    refine C_val (V_not (b := r9) (.tmp rfl rfl)) ?_
    refine C_val (V_pick (b := false) (u := (.bool true)) (v := (.bool (!r9))) (.tmp rfl rfl) (.bool _) (.tmp rfl rfl)) ?_
    refine Cm (.bool (!r9)) rfl rfl ?_
    rcases Bool.eq_false_or_eq_true (!r9) with hg12 | hg12
    · rw [hg12]
      try rw [hg12] at hF; dsimp only [cond_true, cond_false] at hF
      iterate 5 refine C_off (t := 23) rfl rfl rfl ?_
      refine C_val (V_pick (b := true) (u := (.bool true)) (v := undef) (.tmp rfl rfl) (.bool _) (.tmp rfl rfl)) ?_
      refine C_nil ?_
      obtain rfl := Option.some.inj hF
      exact ⟨_, _, rfl, (EqL.cons rfl (EqL.cons rfl (EqL.cons rfl (EqL.cons rfl (EqL.cons rfl (EqL.nil)))))).eq, (.sel (.rd (.t (.t .h)) rfl (.rd (.t (.t (.t .h))) rfl (.rd (.t .h) rfl (.rd (.t (.t (.t (.t .h)))) rfl (.rd (.t (.t (.t (.t (.t .h))))) rfl (.rd .h rfl (.rd (.t (.t (.t (.t (.t (.t .h)))))) rfl (.rd (.t (.t (.t (.t (.t (.t (.t .h))))))) rfl (.rd (.t (.t (.t (.t (.t (.t (.t (.t .h)))))))) rfl .nil))))))))))⟩
    rw [hg12]
    try rw [hg12] at hF; dsimp only [cond_true, cond_false] at hF
    refine C_on (t := 23) rfl rfl rfl ?_
    refine Cm v0_0.v rfl rfl ?_
    refine C_on (t := 23) rfl rfl rfl ?_
    refine C_val (V_fieldAddr (off := 1) fd58_1.h (.tmp rfl rfl)) ?_
    refine C_on (t := 23) rfl rfl rfl ?_
    refine C_at .h (fun hp => V_load (v := v3_1.v) ag40.h (.tmp rfl rfl) hp.2 rfl rfl) ?_
    refine C_on (t := 23) rfl rfl rfl ?_
    obtain ⟨r13, hx14, hF⟩ := bind_some hF
    refine C_x0 (.rd (.t (.t .h)) rfl (.rd (.t (.t (.t (.t (.t (.t (.t .h))))))) rfl .nil)) (X_callS cf38.h (.cons (.tmp rfl rfl) (.cons (.tmp rfl rfl) .nil)) (s_AreFacts_ok a_s v0_0 a_c.Some v3_1 _ hx14)) (fun _ => ?_)
    refine C_on (t := 23) rfl rfl rfl ?_
    refine C_val (V_not (b := r13) (.tmp rfl rfl)) ?_
    refine C_val (V_pick (b := false) (u := (.bool true)) (v := (.bool (!r13))) (.tmp rfl rfl) (.bool _) (.tmp rfl rfl)) ?_
    refine C_nil ?_
    obtain rfl := Option.some.inj hF
    exact ⟨_, _, rfl, (EqL.cons rfl (EqL.cons rfl (EqL.cons rfl (EqL.cons rfl (EqL.cons rfl (EqL.nil)))))).eq, (.sel (.rd (.t (.t .h)) rfl (.rd (.t (.t (.t .h))) rfl (.rd (.t .h) rfl (.rd (.t (.t (.t (.t .h)))) rfl (.rd (.t (.t (.t (.t (.t .h))))) rfl (.rd .h rfl (.rd (.t (.t (.t (.t (.t (.t .h)))))) rfl (.rd (.t (.t (.t (.t (.t (.t (.t .h))))))) rfl (.rd (.t (.t (.t (.t (.t (.t (.t (.t .h)))))))) rfl .nil))))))))))⟩
  rintro _ _ ⟨c16, g53, rfl, rfl, hE⟩
  replace hF := hO4
  clear hO4
  try dsimp only at hF
  refine K_ent hE ?_
  refine CW_cond (b := c16) (.tmp rfl rfl) (fun hb52 => ?_) (fun hb52 => ?_)
  · rw [if_pos hb52] at hF
    refine K_region (C_val (V_assign (v := (.bool false)) (.bool _)) ?_)
    refine C_nil (CW_ret ?_)
    obtain rfl := Option.some.inj hF
    exact End_ret () (.tmp rfl rfl .nil) rfl (.sel .nil)
  rw [if_neg (by rw [hb52]; exact Bool.false_ne_true)] at hF
  refine CW_skip (K_draw [0, 1, 2, 3, 4, 7, 5, 6, 8] [0, 0, 0, 4, 0, 16, 63, 0, 255] [5, 6, 8] mixed (by decide +kernel) ?_)
  refine Dm v0_0.v rfl rfl rfl rfl ?_
  refine Dm v1_0.v rfl rfl rfl rfl ?_
  refine D_val rfl .no (fun ha => V_fieldAddr (off := 0) fd58_0.h (EN ha (.tmp rfl rfl) rfl)) ?_
  refine D_at rfl .no (.t (.t (.t (.t (.t .h))))) rfl (fun ha hp => V_load (v := v3_0.v) ag40.h (EN ha (.tmp rfl rfl) rfl) hp.2 rfl rfl) ?_
  refine D_at rfl .no (.t (.t .h)) rfl (fun ha hp => V_loadBox ag38.h ty38.h.sz rfl (EN ha (.tmp rfl rfl) rfl) hp.2 rfl) ?_
  refine D_new rfl .no rfl (fun ha => N_allocT (g := true) ty73.h rfl rfl) (fun k17 => ?_)
  obtain ⟨r18, hx19, hF⟩ := bind_some hF
  refine D_act1 rfl rfl .no (.rd (.t (.t (.t (.t .h)))) rfl (.rd (.t (.t (.t (.t (.t .h))))) rfl .nil)) (.own .h (fun _ h => h) .nil) (fun ha => X_callS cf40.h (.cons (EN ha (.tmp rfl rfl) rfl) .nil) (s_ConstantsOf_ok a_q v2_0 v2_1 _ hx19)) (fun p20 => ?_)
  obtain ⟨r21, hx22, hF⟩ := bind_some hF
  refine D_act3 rfl rfl .no (.rd (.t (.t .h)) rfl (.rd (.t (.t (.t .h))) rfl (.rd (.t (.t (.t (.t (.t (.t (.t (.t .h)))))))) rfl (.rd .h rfl .nil)))) (.own (.t .h) (fun _ h => h) .nil) (fun ha => X_callS cf39.h (.cons (EN ha (.tmp rfl rfl) rfl) (.cons (EN ha (.tmp rfl rfl) rfl) (.cons (EN ha (.tmp rfl rfl) rfl) (.cons (EN ha (.tmp rfl rfl) rfl) .nil)))) (s_ReachAll_ok a_s v0_0 a_l v1_0 a_c.All v3_0 r18 p20 _ hx22)) (fun p23 => ?_)
  refine D_act1 rfl rfl .no (.cons (.t (.t (.t (.t .h)))) .nil) (.dep rfl .nil) (fun ha => X_storeB (e' := (.agg [p23.1.v, p23.2.1.v, p23.2.2.v, (.int .i64 r21.Rounds)].toArray)) (v := (.agg [p23.1.v, p23.2.1.v, p23.2.2.v, (.int .i64 r21.Rounds)].toArray)) ty73.h.sz (EN ha (.tmp rfl rfl) rfl) (EN ha (.tmp rfl rfl) rfl) rfl rfl rfl rfl rfl) (fun _ => ?_)
  refine D_nil (K_draw [0, 1, 2, 3, 4, 7, 5, 6, 8] [0, 0, 0, 4, 0, 16, 63, 0, 255] [5, 6, 8] mixed (by decide +kernel) ?_)
  refine Dm v0_0.v rfl rfl rfl rfl ?_
  refine Dm v1_0.v rfl rfl rfl rfl ?_
  refine D_val rfl .no (fun ha => V_fieldAddr (off := 1) fd58_1.h (EN ha (.tmp rfl rfl) rfl)) ?_
  refine D_at rfl .no (.t (.t (.t (.t (.t (.t (.t (.t (.t (.t .h)))))))))) rfl (fun ha hp => V_load (v := v3_1.v) ag40.h (EN ha (.tmp rfl rfl) rfl) hp.2 rfl rfl) ?_
  refine D_at rfl .no (.t (.t (.t (.t (.t (.t (.t .h))))))) rfl (fun ha hp => V_loadBox ag38.h ty38.h.sz rfl (EN ha (.tmp rfl rfl) rfl) hp.2 rfl) ?_
  refine D_new rfl .no rfl (fun ha => N_allocT (g := true) ty73.h rfl rfl) (fun k24 => ?_)
  obtain ⟨r25, hx26, hF⟩ := bind_some hF
  refine D_act1 rfl rfl .no (.rd (.t (.t (.t (.t (.t (.t (.t (.t (.t .h))))))))) rfl (.rd (.t (.t (.t (.t (.t (.t (.t (.t (.t (.t .h)))))))))) rfl .nil)) (.own .h (fun _ h => h) .nil) (fun ha => X_callS cf40.h (.cons (EN ha (.tmp rfl rfl) rfl) .nil) (s_ConstantsOf_ok a_q v2_0 v2_1 _ hx26)) (fun p27 => ?_)
  obtain ⟨r28, hx29, hF⟩ := bind_some hF
  refine D_act3 rfl rfl .no (.rd (.t (.t (.t (.t (.t (.t (.t .h))))))) rfl (.rd (.t (.t (.t (.t (.t (.t (.t (.t .h)))))))) rfl (.rd (.t (.t (.t (.t (.t (.t (.t (.t (.t (.t (.t (.t (.t (.t .h)))))))))))))) rfl (.rd .h rfl .nil)))) (.own (.t .h) (fun _ h => h) .nil) (fun ha => X_callS cf39.h (.cons (EN ha (.tmp rfl rfl) rfl) (.cons (EN ha (.tmp rfl rfl) rfl) (.cons (EN ha (.tmp rfl rfl) rfl) (.cons (EN ha (.tmp rfl rfl) rfl) .nil)))) (s_ReachAll_ok a_s v0_0 a_l v1_0 a_c.Some v3_1 r25 p27 _ hx29)) (fun p30 => ?_)
  refine D_act1 rfl rfl .no (.cons (.t (.t (.t (.t .h)))) .nil) (.dep rfl .nil) (fun ha => X_storeB (e' := (.agg [p30.1.v, p30.2.1.v, p30.2.2.v, (.int .i64 r28.Rounds)].toArray)) (v := (.agg [p30.1.v, p30.2.1.v, p30.2.2.v, (.int .i64 r28.Rounds)].toArray)) ty73.h.sz (EN ha (.tmp rfl rfl) rfl) (EN ha (.tmp rfl rfl) rfl) rfl rfl rfl rfl rfl) (fun _ => ?_)
  refine D_nil ?_
  obtain ⟨o31, hio31, hO32⟩ := bind_some hF
  refine K_draw [0, 1, 2, 3, 4, 5, 6, 7, 9, 10, 8, 11, 12, 13, 14, 15, 16, 17, 19, 20, 18, 21, 22, 23, 24] [0, 0, 3, 7, 15, 15, 15, 79, 255, 15, 527, 2047, 4095, 8191, 16383, 16383, 16383, 81919, 262143, 16383, 540671, 2097151, 4194303, 8388607, 16777215] [2, 8, 11, 18, 21] mixed (by decide +kernel) ?_
  refine D_cut (fun f' cs' => ∃ (c50 : Bool) (g : Fr), c50 = o31 ∧ f' = updL g [(8, (.bool c50))] ∧ Ent cs' []) ?_ ?_
  · replace hF := hio31
    refine D_atO rfl .no (.t (.t (.t (.t (.t .h))))) (fun ha hp => V_loadBox ag73.h ty73.h.sz rfl (EN ha (.tmp rfl rfl) rfl) hp.2 rfl) ?_
    refine D_atO rfl .no .h (fun ha hp => V_loadBox ag73.h ty73.h.sz rfl (EN ha (.tmp rfl rfl) rfl) hp.2 rfl) ?_
    obtain ⟨r33, hx34, hF⟩ := bind_some hF
    refine D_act0 rfl rfl .no (.rd (.t (.t (.t (.t (.t (.t .h)))))) rfl (.rd (.t (.t (.t (.t (.t (.t (.t .h))))))) rfl (.rd (.t (.t (.t (.t (.t (.t (.t (.t .h)))))))) rfl (.rd (.t .h) rfl (.rd (.t (.t .h)) rfl (.rd (.t (.t (.t .h))) rfl .nil)))))) (.dep rfl (.dep rfl .nil)) (fun ha => X_callS cf55.h (.cons (EN ha (.tmp rfl rfl) rfl) (.cons (EN ha (.tmp rfl rfl) rfl) .nil)) (s_EqualReached_ok r21 p23.1 p23.2.1 p23.2.2 r28 p30.1 p30.2.1 p30.2.2 _ hx34)) (fun _ => ?_)
    refine Dm (.bool r33) rfl rfl rfl rfl ?_
    rcases Bool.eq_false_or_eq_true r33 with hg36 | hg36
    · rw [hg36]
      try rw [hg36] at hF; dsimp only [cond_true, cond_false] at hF
      refine D_val rfl (.on 47 rfl rfl rfl) (fun ha => V_move (v := v0_0.v) (EN ha (.tmp rfl rfl) rfl)) ?_
      refine D_at rfl (.on 47 rfl rfl rfl) (.t (.t (.t (.t (.t (.t (.t (.t (.t (.t (.t (.t .h)))))))))))) rfl (fun ha hp => V_loadBox ag38.h ty38.h.sz rfl (EN ha (.tmp rfl rfl) rfl) hp.2 rfl) ?_
      refine D_val rfl (.on 47 rfl rfl rfl) (fun ha => V_fieldAddr (off := 0) fd58_0.h (EN ha (.tmp rfl rfl) rfl)) ?_
      refine D_at rfl (.on 47 rfl rfl rfl) (.t (.t (.t (.t (.t (.t (.t (.t (.t (.t (.t (.t (.t (.t (.t .h))))))))))))))) rfl (fun ha hp => V_load (v := v3_0.v) ag40.h (EN ha (.tmp rfl rfl) rfl) hp.2 rfl rfl) ?_
      refine D_val rfl (.on 47 rfl rfl rfl) (fun ha => V_fieldAddr (off := 2) fd58_2.h (EN ha (.tmp rfl rfl) rfl)) ?_
      refine D_at rfl (.on 47 rfl rfl rfl) (.t (.t (.t (.t (.t (.t (.t (.t (.t (.t (.t (.t (.t (.t (.t .h))))))))))))))) rfl (fun ha hp => V_load (v := v3_2.v) ag22.h (EN ha (.tmp rfl rfl) rfl) hp.2 rfl rfl) ?_
      obtain ⟨r37, hx38, hF⟩ := bind_some hF
      refine D_act1 rfl rfl (.on 47 rfl rfl rfl) (.rd (.t (.t (.t (.t (.t (.t (.t (.t (.t (.t .h)))))))))) rfl (.rd (.t (.t (.t (.t (.t (.t (.t (.t (.t (.t (.t (.t (.t .h))))))))))))) rfl (.rd (.t (.t (.t (.t (.t (.t (.t (.t (.t (.t (.t (.t (.t (.t .h)))))))))))))) rfl (.rd (.t (.t (.t (.t (.t (.t (.t (.t (.t (.t (.t (.t (.t (.t (.t (.t .h)))))))))))))))) rfl .nil)))) (.dep rfl (.dep rfl .nil)) (fun ha => X_callS cf41.h (.cons (EN ha (.tmp rfl rfl) rfl) (.cons (EN ha (.tmp rfl rfl) rfl) (.cons (EN ha (.tmp rfl rfl) rfl) .nil))) (s_AnswersOf_ok a_s v0_0 a_q v2_0 v2_1 a_c.All v3_0 _ hx38)) (fun p39 => ?_)
      obtain ⟨r40, hx41, hF⟩ := bind_some hF
      refine D_act1 rfl rfl (.on 47 rfl rfl rfl) (.cons .h (.rd (.t (.t (.t (.t (.t (.t (.t (.t (.t (.t (.t (.t (.t (.t (.t (.t (.t (.t .h)))))))))))))))))) rfl .nil)) (.dep rfl (.dep rfl .nil)) (fun ha => XC_bor frz_own (fun _ => .nil) (X_callS cf56.h (.cons (EN ha (.tmp rfl rfl) rfl) (.cons (EN ha (.tmp rfl rfl) rfl) .nil)) (s_l10HasTuple_ok r37 p39.1 a_c.Tuple v3_2 _ hx41))) (fun _ => ?_)
      refine D_val rfl .no (fun ha => V_pick (b := true) (u := (.bool r40)) (v := (.bool false)) (EN ha (.tmp rfl rfl) rfl) (EN ha (.tmp rfl rfl) rfl) (EN ha (.bool _) rfl)) ?_
      refine Dm (.bool r40) rfl rfl rfl rfl ?_
      rcases Bool.eq_false_or_eq_true r40 with hg43 | hg43
      · rw [hg43]
        try rw [hg43] at hF; dsimp only [cond_true, cond_false] at hF
        refine D_val rfl (.on 57 rfl rfl rfl) (fun ha => V_move (v := v0_0.v) (EN ha (.tmp rfl rfl) rfl)) ?_
        refine D_at rfl (.on 57 rfl rfl rfl) (.t (.t (.t (.t (.t (.t (.t (.t (.t (.t (.t (.t (.t .h))))))))))))) rfl (fun ha hp => V_loadBox ag38.h ty38.h.sz rfl (EN ha (.tmp rfl rfl) rfl) hp.2 rfl) ?_
        refine D_val rfl (.on 57 rfl rfl rfl) (fun ha => V_fieldAddr (off := 1) fd58_1.h (EN ha (.tmp rfl rfl) rfl)) ?_
        refine D_at rfl (.on 57 rfl rfl rfl) (.t (.t (.t (.t (.t (.t (.t (.t (.t (.t (.t (.t (.t (.t (.t (.t .h)))))))))))))))) rfl (fun ha hp => V_load (v := v3_1.v) ag40.h (EN ha (.tmp rfl rfl) rfl) hp.2 rfl rfl) ?_
        refine D_val rfl (.on 57 rfl rfl rfl) (fun ha => V_fieldAddr (off := 2) fd58_2.h (EN ha (.tmp rfl rfl) rfl)) ?_
        refine D_at rfl (.on 57 rfl rfl rfl) (.t (.t (.t (.t (.t (.t (.t (.t (.t (.t (.t (.t (.t (.t (.t (.t .h)))))))))))))))) rfl (fun ha hp => V_load (v := v3_2.v) ag22.h (EN ha (.tmp rfl rfl) rfl) hp.2 rfl rfl) ?_
        obtain ⟨r44, hx45, hF⟩ := bind_some hF
        refine D_act1 rfl rfl (.on 57 rfl rfl rfl) (.rd (.t (.t (.t (.t (.t (.t (.t (.t (.t (.t (.t .h))))))))))) rfl (.rd (.t (.t (.t (.t (.t (.t (.t (.t (.t (.t (.t (.t (.t (.t .h)))))))))))))) rfl (.rd (.t (.t (.t (.t (.t (.t (.t (.t (.t (.t (.t (.t (.t (.t (.t .h))))))))))))))) rfl (.rd (.t (.t (.t (.t (.t (.t (.t (.t (.t (.t (.t (.t (.t (.t (.t (.t (.t (.t .h)))))))))))))))))) rfl .nil)))) (.dep rfl (.dep rfl .nil)) (fun ha => X_callS cf41.h (.cons (EN ha (.tmp rfl rfl) rfl) (.cons (EN ha (.tmp rfl rfl) rfl) (.cons (EN ha (.tmp rfl rfl) rfl) .nil))) (s_AnswersOf_ok a_s v0_0 a_q v2_0 v2_1 a_c.Some v3_1 _ hx45)) (fun p46 => ?_)
        obtain ⟨r47, hx48, hF⟩ := bind_some hF
        refine D_act1 rfl rfl (.on 57 rfl rfl rfl) (.cons .h (.rd (.t (.t (.t (.t (.t (.t (.t (.t (.t (.t (.t (.t (.t (.t (.t (.t (.t (.t (.t .h))))))))))))))))))) rfl .nil)) (.dep rfl (.dep rfl .nil)) (fun ha => XC_bor frz_own (fun _ => .nil) (X_callS cf56.h (.cons (EN ha (.tmp rfl rfl) rfl) (.cons (EN ha (.tmp rfl rfl) rfl) .nil)) (s_l10HasTuple_ok r44 p46.1 a_c.Tuple v3_2 _ hx48))) (fun _ => ?_)
        refine D_val rfl (.on 57 rfl rfl rfl) (fun ha => V_not (b := r47) (EN ha (.tmp rfl rfl) rfl)) ?_
        refine D_val rfl .no (fun ha => V_pick (b := true) (u := (.bool (!r47))) (v := (.bool false)) (EN ha (.tmp rfl rfl) rfl) (EN ha (.tmp rfl rfl) rfl) (EN ha (.bool _) rfl)) ?_
        refine Da (.bool (!r47)) rfl rfl rfl rfl ?_
        refine D_nil ?_
        obtain rfl := Option.some.inj hF
        exact ⟨_, _, rfl, (EqL.cons rfl (EqL.nil)).eq, (.sel .nil)⟩
      rw [hg43]
      try rw [hg43] at hF; dsimp only [cond_true, cond_false] at hF
      iterate 9 refine D_off 57 rfl rfl rfl rfl ?_
      refine D_val rfl .no (fun ha => V_pick (b := false) (u := undef) (v := (.bool false)) (EN ha (.tmp rfl rfl) rfl) (EN ha (.tmp rfl rfl) rfl) (EN ha (.bool _) rfl)) ?_
      refine Da (.bool false) rfl rfl rfl rfl ?_
      refine D_nil ?_
      obtain rfl := Option.some.inj hF
      exact ⟨_, _, rfl, (EqL.cons rfl (EqL.nil)).eq, (.sel .nil)⟩
    rw [hg36]
    try rw [hg36] at hF; dsimp only [cond_true, cond_false] at hF
    iterate 8 refine D_off 47 rfl rfl rfl rfl ?_
    refine D_val rfl .no (fun ha => V_pick (b := false) (u := undef) (v := (.bool false)) (EN ha (.tmp rfl rfl) rfl) (EN ha (.tmp rfl rfl) rfl) (EN ha (.bool _) rfl)) ?_
    refine Dm (.bool false) rfl rfl rfl rfl ?_
    iterate 9 refine D_off 57 rfl rfl rfl rfl ?_
    refine D_val rfl .no (fun ha => V_pick (b := false) (u := undef) (v := (.bool false)) (EN ha (.tmp rfl rfl) rfl) (EN ha (.tmp rfl rfl) rfl) (EN ha (.bool _) rfl)) ?_
    refine Da (.bool false) rfl rfl rfl rfl ?_
    refine D_nil ?_
    obtain rfl := Option.some.inj hF
    exact ⟨_, _, rfl, (EqL.cons rfl (EqL.nil)).eq, (.sel .nil)⟩
  rintro _ _ ⟨c50, g51, rfl, rfl, hE⟩
  replace hF := hO32
  clear hO32
  try dsimp only at hF
  refine K_ent hE ?_
  refine CW_ret ?_
  obtain rfl := Option.some.inj hF
  exact End_ret () (.tmp rfl rfl .nil) rfl (.sel .nil)

/-! impl.within -/
def i_within (a_n : Int) (a_low : Int) (a_high : Int) : Option (Bool) :=
  some ((decide ((a_low : Int) ≤ a_n)) && (decide ((a_n : Int) ≤ a_high)))
theorem i_within_ok (a_n : Int) (a_low : Int) (a_high : Int) (R : Bool) (hF : i_within a_n a_low a_high = some R) :
    Fw.Spec Tryz.prog 110 [(.int .i64 a_n), (.int .i64 a_low), (.int .i64 a_high)] [] (fun _ : Unit => (.bool R)) (fun _ => []) := by
  refine Spec_enter (n := 15) Tryz.func110 rfl rfl (rs := [.tmp 6]) rfl rfl rfl ?_
  intro H0 F0
  unfold i_within at hF
  iterate 4 refine au ?_
  refine C_cut (fun f' cs' => ∃ (g : Fr), f' = updL g [(6, (.bool ((decide ((a_low : Int) ≤ a_n)) && (decide ((a_n : Int) ≤ a_high)))))] ∧ Ent cs' []) ?_ ?_
  · iterate 4 refine au ?_
    rcases Bool.eq_false_or_eq_true (decide ((a_low : Int) ≤ a_n)) with hg1 | hg1
    · rw [hg1]
      try rw [hg1] at hF; dsimp only [cond_true, cond_false] at hF
      iterate 9 refine au ?_
      exact ⟨_, eqA, entA⟩
    rw [hg1]
    try rw [hg1] at hF; dsimp only [cond_true, cond_false] at hF
    iterate 6 refine au ?_
    exact ⟨_, eqA, entA⟩
  rintro _ _ ⟨g2, rfl, hE⟩
  refine K_ent hE ?_
  refine au ?_
  cases hF
  exact Er ()

/-! impl.IsSchema$1 -/
def i_IsSchema_1 (a_n : Int) : Option (Bool) :=
  (i_within a_n 1 3).bind fun r1 =>
  some (!r1)
theorem i_IsSchema_1_ok (a_n : Int) (R : Bool) (hF : i_IsSchema_1 a_n = some R) :
    Fw.Spec Tryz.prog 121 [(.int .i64 a_n)] [] (fun _ : Unit => (.bool R)) (fun _ => []) := by
  refine Spec_enter (n := 6) Tryz.func121 rfl rfl (rs := [.tmp 2]) rfl rfl rfl ?_
  intro H0 F0
  unfold i_IsSchema_1 at hF
  iterate 5 refine au ?_
  obtain ⟨r1, hx2, hF⟩ := bind_some hF
  refine Cx0 (i_within_ok _ _ _ _ hx2) (fun _ => ?_)
  iterate 4 refine au ?_
  cases hF
  exact Er ()

/-! slices.IndexFunc[[]int,int] -/
def g_slices_IndexFunc_int_int_iIsSchema1_L1 : List Int → Nat → Option (Int)
  | [], k4 => some (-1)
  | x6 :: rest5, k4 => (i_IsSchema_1 x6).bind fun r15 =>
    if r15 then (
      some (k4 : Int))
    else (
      g_slices_IndexFunc_int_int_iIsSchema1_L1 rest5 (k4 + 1))
def g_slices_IndexFunc_int_int_iIsSchema1 (a_s : List Int) : Option (Int) :=
  g_slices_IndexFunc_int_int_iIsSchema1_L1 a_s 0
theorem g_slices_IndexFunc_int_int_iIsSchema1_ok (a_s : List Int) (v0_0 : Sv) (R : Int) (hF : g_slices_IndexFunc_int_int_iIsSchema1 a_s = some R) :
    Fw.Spec Tryz.prog 157 [v0_0.v, (.func (.func 121) [].toArray [].toArray)] [crd (RdS 3 rdInt) v0_0.v a_s] (fun _ : Unit => (.int .i64 R)) (fun _ => []) := by
  refine Spec_enter (n := 19) Tryz.func157 rfl rfl (rs := [.tmp 4]) rfl rfl rfl ?_
  intro H0 F0
  unfold g_slices_IndexFunc_int_int_iIsSchema1 at hF
  iterate 9 refine au ?_
  refine CW_block (CW_loop (m := a_s.length) (fun m2 f' cs' => ∃ (g : Fr) (k4 : Nat) (rest5 : List Int), m2 = rest5.length ∧ f' = updL g [(0, v0_0.v), (1, (.func (.func 121) [].toArray [].toArray)), (7, (.int .i64 (a_s.length : Int))), (8, (.int .i64 (k4 : Int)))] ∧ List.drop k4 a_s = rest5 ∧ Ent cs' [crd (RdS 3 rdInt) v0_0.v a_s] ∧ g_slices_IndexFunc_int_int_iIsSchema1_L1 rest5 k4 = some R) ⟨_, 0, _, rfl, eqA, rfl, entA, hF⟩ ?_)
  clear hF
  rintro m2 _ _ ⟨g3, k4, rest5, rfl, rfl, hd7, hE, hF⟩
  refine K_ent hE ?_
  clear hE
  refine K_pure (c := crd (RdS 3 rdInt) v0_0.v a_s) .h crd_bound (fun hbd12 => ?_)
  rcases rest5 with _ | ⟨x6, rest5⟩
  · have hk8 := List.drop_eq_nil_iff.1 hd7
    rw [g_slices_IndexFunc_int_int_iIsSchema1_L1] at hF
    iterate 4 refine au ?_
    refine CdF ?_
    iterate 8 refine au ?_
    cases hF
    exact Er ()
  obtain ⟨hk8, hx9, hd10⟩ := drop_cons hd7
  rw [g_slices_IndexFunc_int_int_iIsSchema1_L1] at hF
  iterate 4 refine au ?_
  refine CdT ?_
  iterate 10 refine au ?_
  refine Ai hx9 (fun k13 j14 => ?_)
  refine Al ls3_0 ?_
  obtain ⟨r15, hx16, hF⟩ := bind_some hF
  refine C_x0 .nil (X_callCS cf121.h (.tmp rfl rfl) (.cons (.tmp rfl rfl) .nil) (i_IsSchema_1_ok x6 _ hx16)) (fun _ => ?_)
  refine au ?_
  refine Cc (fun hb19 => ?_) (fun hb19 => ?_)
  · rw [if_pos hb19] at hF
    iterate 5 refine au ?_
    cases hF
    exact Er ()
  rw [if_neg (nt hb19)] at hF
  iterate 5 refine au ?_
  rw [wk k4]
  exact ⟨_, Nat.lt_succ_self _, _, k4 + 1, rest5, rfl, eqA, hd10, entA, hF⟩

/-! slices.ContainsFunc[[]int,int] -/
def g_slices_ContainsFunc_int_int_iIsSchema1 (a_s : List Int) : Option (Bool) :=
  (g_slices_IndexFunc_int_int_iIsSchema1 a_s).bind fun r1 =>
  some (decide ((0 : Int) ≤ r1))
theorem g_slices_ContainsFunc_int_int_iIsSchema1_ok (a_s : List Int) (v0_0 : Sv) (R : Bool) (hF : g_slices_ContainsFunc_int_int_iIsSchema1 a_s = some R) :
    Fw.Spec Tryz.prog 120 [v0_0.v, (.func (.func 121) [].toArray [].toArray)] [crd (RdS 3 rdInt) v0_0.v a_s] (fun _ : Unit => (.bool R)) (fun _ => []) := by
  refine Spec_enter (n := 9) Tryz.func120 rfl rfl (rs := [.tmp 4]) rfl rfl rfl ?_
  intro H0 F0
  unfold g_slices_ContainsFunc_int_int_iIsSchema1 at hF
  iterate 6 refine au ?_
  obtain ⟨r1, hx2, hF⟩ := bind_some hF
  refine Cx0 (g_slices_IndexFunc_int_int_iIsSchema1_ok _ _ _ hx2) (fun _ => ?_)
  iterate 4 refine au ?_
  cases hF
  exact Er ()

/-! impl.IsSchema -/
def i_IsSchema (a_s : List Int) : Option (Bool) :=
  ((i_within (a_s.length : Int) 1 3).bind fun r3 =>
    bif r3 then ((g_slices_ContainsFunc_int_int_iIsSchema1 a_s).bind fun r7 =>
      some (!r7))
    else (some false)).bind fun o1 =>
  match o1 with
  | c10 => some c10
theorem i_IsSchema_ok (a_s : List Int) (v0_0 : Sv) (R : Bool) (hF : i_IsSchema a_s = some R) :
    Fw.Spec Tryz.prog 79 [v0_0.v] [crd (RdS 3 rdInt) v0_0.v a_s] (fun _ : Unit => (.bool R)) (fun _ => []) := by
  refine Spec_enter (n := 11) Tryz.func79 rfl rfl (rs := [.tmp 2]) rfl rfl rfl ?_
  intro H0 F0
  unfold i_IsSchema at hF
  iterate 3 refine au ?_
  obtain ⟨o1, hio1, hO2⟩ := bind_some hF
  refine au ?_
  refine C_cut (fun f' cs' => ∃ (c10 : Bool) (g : Fr), c10 = o1 ∧ f' = updL g [(2, (.bool c10))] ∧ Ent cs' []) ?_ ?_
  · replace hF := hio1
    iterate 2 refine au ?_
    obtain ⟨r3, hx4, hF⟩ := bind_some hF
    refine Cx0 (i_within_ok _ _ _ _ hx4) (fun _ => ?_)
    refine au ?_
    rcases Bool.eq_false_or_eq_true r3 with hg6 | hg6
    · rw [hg6]
      try rw [hg6] at hF; dsimp only [cond_true, cond_false] at hF
      iterate 3 refine au ?_
      obtain ⟨r7, hx8, hF⟩ := bind_some hF
      refine Cx0 (g_slices_ContainsFunc_int_int_iIsSchema1_ok _ _ _ hx8) (fun _ => ?_)
      iterate 5 refine au ?_
      cases hF
      exact ⟨_, _, rfl, eqA, entA⟩
    rw [hg6]
    try rw [hg6] at hF; dsimp only [cond_true, cond_false] at hF
    iterate 6 refine au ?_
    cases hF
    exact ⟨_, _, rfl, eqA, entA⟩
  rintro _ _ ⟨c10, g11, rfl, rfl, hE⟩
  replace hF := hO2
  clear hO2
  try dsimp only at hF
  refine K_ent hE ?_
  refine au ?_
  cases hF
  exact Er ()

/-! impl.hasRel -/
def i_hasRel (a_s : List Int) (a_rel : Int) : Option (Bool) :=
  ((i_IsSchema a_s).bind fun r3 =>
    bif r3 then ((i_within a_rel 0 (IntKind.i64.wrap ((a_s.length : Int) - 1))).bind fun r7 =>
      some r7)
    else (some false)).bind fun o1 =>
  match o1 with
  | c10 => some c10
theorem i_hasRel_ok (a_s : List Int) (v0_0 : Sv) (a_rel : Int) (R : Bool) (hF : i_hasRel a_s a_rel = some R) :
    Fw.Spec Tryz.prog 115 [v0_0.v, (.int .i64 a_rel)] [crd (RdS 3 rdInt) v0_0.v a_s] (fun _ : Unit => (.bool R)) (fun _ => []) := by
  refine Spec_enter (n := 14) Tryz.func115 rfl rfl (rs := [.tmp 4]) rfl rfl rfl ?_
  intro H0 F0
  unfold i_hasRel at hF
  iterate 3 refine au ?_
  obtain ⟨o1, hio1, hO2⟩ := bind_some hF
  refine au ?_
  refine C_cut (fun f' cs' => ∃ (c10 : Bool) (g : Fr), c10 = o1 ∧ f' = updL g [(4, (.bool c10))] ∧ Ent cs' []) ?_ ?_
  · replace hF := hio1
    refine au ?_
    obtain ⟨r3, hx4, hF⟩ := bind_some hF
    refine Cx0 (i_IsSchema_ok _ _ _ hx4) (fun _ => ?_)
    refine au ?_
    rcases Bool.eq_false_or_eq_true r3 with hg6 | hg6
    · rw [hg6]
      try rw [hg6] at hF; dsimp only [cond_true, cond_false] at hF
      iterate 9 refine au ?_
      obtain ⟨r7, hx8, hF⟩ := bind_some hF
      refine Cx0 (i_within_ok _ _ _ _ hx8) (fun _ => ?_)
      iterate 3 refine au ?_
      cases hF
      exact ⟨_, _, rfl, eqA, entA⟩
    rw [hg6]
    try rw [hg6] at hF; dsimp only [cond_true, cond_false] at hF
    iterate 8 refine au ?_
    cases hF
    exact ⟨_, _, rfl, eqA, entA⟩
  rintro _ _ ⟨c10, g11, rfl, rfl, hE⟩
  replace hF := hO2
  clear hO2
  try dsimp only at hF
  refine K_ent hE ?_
  refine au ?_
  cases hF
  exact Er ()

/-! impl.ascending -/
def i_ascending_L1 (a_l : List Int) : List Int → Nat → Option (Bool)
  | [], k4 => some true
  | x6 :: rest5, k4 => (bif (decide ((0 : Int) < (k4 : Int))) then ((ix a_l (IntKind.i64.wrap ((k4 : Int) - 1))).bind fun x18 =>
        some (decide ((x6 : Int) ≤ x18)))
      else (some false)).bind fun o13 =>
    match o13 with
    | c24 => if c24 then (
        some false)
      else (
        i_ascending_L1 a_l rest5 (k4 + 1))
def i_ascending (a_l : List Int) : Option (Bool) :=
  i_ascending_L1 a_l a_l 0
theorem i_ascending_ok (a_l : List Int) (v0_0 : Sv) (R : Bool) (hF : i_ascending a_l = some R) :
    Fw.Spec Tryz.prog 175 [v0_0.v] [crd (RdS 3 rdInt) v0_0.v a_l] (fun _ : Unit => (.bool R)) (fun _ => []) := by
  refine Spec_enter (n := 24) Tryz.func175 rfl rfl (rs := [.tmp 2]) rfl rfl rfl ?_
  intro H0 F0
  unfold i_ascending at hF
  iterate 9 refine au ?_
  refine CW_block (CW_loop (m := a_l.length) (fun m2 f' cs' => ∃ (g : Fr) (k4 : Nat) (rest5 : List Int), m2 = rest5.length ∧ f' = updL g [(0, v0_0.v), (5, (.int .i64 (a_l.length : Int))), (6, (.int .i64 (k4 : Int)))] ∧ List.drop k4 a_l = rest5 ∧ Ent cs' [crd (RdS 3 rdInt) v0_0.v a_l] ∧ i_ascending_L1 a_l rest5 k4 = some R) ⟨_, 0, _, rfl, eqA, rfl, entA, hF⟩ ?_)
  clear hF
  rintro m2 _ _ ⟨g3, k4, rest5, rfl, rfl, hd7, hE, hF⟩
  refine K_ent hE ?_
  clear hE
  refine K_pure (c := crd (RdS 3 rdInt) v0_0.v a_l) .h crd_bound (fun hbd12 => ?_)
  rcases rest5 with _ | ⟨x6, rest5⟩
  · have hk8 := List.drop_eq_nil_iff.1 hd7
    rw [i_ascending_L1] at hF
    iterate 4 refine au ?_
    refine CdF ?_
    iterate 8 refine au ?_
    cases hF
    exact Er ()
  obtain ⟨hk8, hx9, hd10⟩ := drop_cons hd7
  rw [i_ascending_L1] at hF
  iterate 4 refine au ?_
  refine CdT ?_
  iterate 6 refine au ?_
  obtain ⟨o13, hio13, hO14⟩ := bind_some hF
  refine K_draw [0, 1, 2, 3, 4, 5, 6, 7, 8, 9, 10, 11, 12, 13] [0, 1, 3, 7, 7, 31, 63, 7, 7, 263, 903, 1927, 4095, 8191] [] mixed (by decide +kernel) ?_
  refine D_cut (fun f' cs' => ∃ (c24 : Bool) (g : Fr), c24 = o13 ∧ f' = updL g [(0, v0_0.v), (5, (.int .i64 (a_l.length : Int))), (6, (.int .i64 (k4 : Int))), (22, (.bool c24))] ∧ Ent cs' [crd (RdS 3 rdInt) v0_0.v a_l]) ?_ ?_
  · replace hF := hio13
    iterate 3 refine du ?_
    rcases Bool.eq_false_or_eq_true (decide ((0 : Int) < (k4 : Int))) with hg15 | hg15
    · rw [hg15]
      try rw [hg15] at hF; dsimp only [cond_true, cond_false] at hF
      iterate 2 refine du ?_
      refine Di hx9 (fun k16 j17 => ?_)
      refine Dl ls3_0 ?_
      iterate 3 refine du ?_
      obtain ⟨x18, hx19, hF⟩ := bind_some hF
      obtain ⟨hp20, hx21⟩ := ix_some hx19
      refine Di hx21 (fun k22 j23 => ?_)
      refine Dl ls3_0 ?_
      iterate 3 refine du ?_
      cases hF
      exact ⟨_, _, rfl, eqA, entA⟩
    rw [hg15]
    try rw [hg15] at hF; dsimp only [cond_true, cond_false] at hF
    iterate 12 refine du ?_
    cases hF
    exact ⟨_, _, rfl, eqA, entA⟩
  rintro _ _ ⟨c24, g27, rfl, rfl, hE⟩
  replace hF := hO14
  clear hO14
  try dsimp only at hF
  refine K_ent hE ?_
  refine Cc (fun hb26 => ?_) (fun hb26 => ?_)
  · rw [if_pos hb26] at hF
    iterate 4 refine au ?_
    cases hF
    exact Er ()
  rw [if_neg (nt hb26)] at hF
  iterate 5 refine au ?_
  rw [wk k4]
  exact ⟨_, Nat.lt_succ_self _, _, k4 + 1, rest5, rfl, eqA, hd10, entA, hF⟩

/-! impl.Method).fits$1 -/
def i_Method_fits_1 (a_i : Int) (a_e1 : Int) : Option (Bool) :=
  (i_within a_i 0 (IntKind.i64.wrap (a_e1 - 1))).bind fun r1 =>
  some (!r1)
theorem i_Method_fits_1_ok (a_i : Int) (kc1 : Nat) (a_e1 : Int) (R : Bool) (hF : i_Method_fits_1 a_i a_e1 = some R) :
    Fw.Spec Tryz.prog 176 [(.int .i64 a_i), (.pointer (some ⟨kc1, 0, some 0⟩))] [cboR kc1 3 (.int .i64 a_e1)] (fun _ : Unit => (.bool R)) (fun _ => []) := by
  refine Spec_enter (n := 9) Tryz.func176 rfl rfl (rs := [.tmp 3]) rfl rfl rfl ?_
  intro H0 F0
  unfold i_Method_fits_1 at hF
  iterate 7 refine au ?_
  obtain ⟨r1, hx2, hF⟩ := bind_some hF
  refine Cx0 (i_within_ok _ _ _ _ hx2) (fun _ => ?_)
  iterate 4 refine au ?_
  cases hF
  exact Er ()

/-! slices.IndexFunc[[]int,int] -/
def g_slices_IndexFunc_int_int_iMethodfits1_L1 (a_e1 : Int) : List Int → Nat → Option (Int)
  | [], k4 => some (-1)
  | x6 :: rest5, k4 => (i_Method_fits_1 x6 a_e1).bind fun r15 =>
    if r15 then (
      some (k4 : Int))
    else (
      g_slices_IndexFunc_int_int_iMethodfits1_L1 a_e1 rest5 (k4 + 1))
def g_slices_IndexFunc_int_int_iMethodfits1 (a_s : List Int) (a_e1 : Int) : Option (Int) :=
  g_slices_IndexFunc_int_int_iMethodfits1_L1 a_e1 a_s 0
theorem g_slices_IndexFunc_int_int_iMethodfits1_ok (a_s : List Int) (v0_0 : Sv) (kc1 : Nat) (a_e1 : Int) (R : Int) (hF : g_slices_IndexFunc_int_int_iMethodfits1 a_s a_e1 = some R) :
    Fw.Spec Tryz.prog 157 [v0_0.v, (.func (.func 176) [].toArray [(.pointer (some ⟨kc1, 0, some 0⟩))].toArray)] [crd (RdS 3 rdInt) v0_0.v a_s, cboR kc1 3 (.int .i64 a_e1)] (fun _ : Unit => (.int .i64 R)) (fun _ => []) := by
  refine Spec_enter (n := 19) Tryz.func157 rfl rfl (rs := [.tmp 4]) rfl rfl rfl ?_
  intro H0 F0
  unfold g_slices_IndexFunc_int_int_iMethodfits1 at hF
  iterate 9 refine au ?_
  refine CW_block (CW_loop (m := a_s.length) (fun m2 f' cs' => ∃ (g : Fr) (k4 : Nat) (rest5 : List Int), m2 = rest5.length ∧ f' = updL g [(0, v0_0.v), (1, (.func (.func 176) [].toArray [(.pointer (some ⟨kc1, 0, some 0⟩))].toArray)), (7, (.int .i64 (a_s.length : Int))), (8, (.int .i64 (k4 : Int)))] ∧ List.drop k4 a_s = rest5 ∧ Ent cs' [crd (RdS 3 rdInt) v0_0.v a_s, cboR kc1 3 (.int .i64 a_e1)] ∧ g_slices_IndexFunc_int_int_iMethodfits1_L1 a_e1 rest5 k4 = some R) ⟨_, 0, _, rfl, eqA, rfl, entA, hF⟩ ?_)
  clear hF
  rintro m2 _ _ ⟨g3, k4, rest5, rfl, rfl, hd7, hE, hF⟩
  refine K_ent hE ?_
  clear hE
  refine K_pure (c := crd (RdS 3 rdInt) v0_0.v a_s) .h crd_bound (fun hbd12 => ?_)
  rcases rest5 with _ | ⟨x6, rest5⟩
  · have hk8 := List.drop_eq_nil_iff.1 hd7
    rw [g_slices_IndexFunc_int_int_iMethodfits1_L1] at hF
    iterate 4 refine au ?_
    refine CdF ?_
    iterate 8 refine au ?_
    cases hF
    exact Er ()
  obtain ⟨hk8, hx9, hd10⟩ := drop_cons hd7
  rw [g_slices_IndexFunc_int_int_iMethodfits1_L1] at hF
  iterate 4 refine au ?_
  refine CdT ?_
  iterate 10 refine au ?_
  refine Ai hx9 (fun k13 j14 => ?_)
  refine Al ls3_0 ?_
  obtain ⟨r15, hx16, hF⟩ := bind_some hF
  refine C_x0 (.rd (.t (.t .h)) rfl .nil) (X_callCS cf176.h (.tmp rfl rfl) (.cons (.tmp rfl rfl) .nil) (i_Method_fits_1_ok x6 kc1 a_e1 _ hx16)) (fun _ => ?_)
  refine au ?_
  refine Cc (fun hb19 => ?_) (fun hb19 => ?_)
  · rw [if_pos hb19] at hF
    iterate 5 refine au ?_
    cases hF
    exact Er ()
  rw [if_neg (nt hb19)] at hF
  iterate 5 refine au ?_
  rw [wk k4]
  exact ⟨_, Nat.lt_succ_self _, _, k4 + 1, rest5, rfl, eqA, hd10, entA, hF⟩

/-! slices.ContainsFunc[[]int,int] -/
def g_slices_ContainsFunc_int_int_iMethodfits1 (a_s : List Int) (a_e1 : Int) : Option (Bool) :=
  (g_slices_IndexFunc_int_int_iMethodfits1 a_s a_e1).bind fun r1 =>
  some (decide ((0 : Int) ≤ r1))
theorem g_slices_ContainsFunc_int_int_iMethodfits1_ok (a_s : List Int) (v0_0 : Sv) (kc1 : Nat) (a_e1 : Int) (R : Bool) (hF : g_slices_ContainsFunc_int_int_iMethodfits1 a_s a_e1 = some R) :
    Fw.Spec Tryz.prog 120 [v0_0.v, (.func (.func 176) [].toArray [(.pointer (some ⟨kc1, 0, some 0⟩))].toArray)] [crd (RdS 3 rdInt) v0_0.v a_s, cboR kc1 3 (.int .i64 a_e1)] (fun _ : Unit => (.bool R)) (fun _ => []) := by
  refine Spec_enter (n := 9) Tryz.func120 rfl rfl (rs := [.tmp 4]) rfl rfl rfl ?_
  intro H0 F0
  unfold g_slices_ContainsFunc_int_int_iMethodfits1 at hF
  iterate 6 refine au ?_
  obtain ⟨r1, hx2, hF⟩ := bind_some hF
  refine Cx0 (g_slices_IndexFunc_int_int_iMethodfits1_ok _ _ _ _ _ hx2) (fun _ => ?_)
  iterate 4 refine au ?_
  cases hF
  exact Er ()

/-! impl.isCost -/
def i_isCost (a_n : Int) : Option (Bool) :=
  (i_within a_n 0 99).bind fun r1 =>
  some r1
theorem i_isCost_ok (a_n : Int) (R : Bool) (hF : i_isCost a_n = some R) :
    Fw.Spec Tryz.prog 177 [(.int .i64 a_n)] [] (fun _ : Unit => (.bool R)) (fun _ => []) := by
  refine Spec_enter (n := 5) Tryz.func177 rfl rfl (rs := [.tmp 2]) rfl rfl rfl ?_
  intro H0 F0
  unfold i_isCost at hF
  iterate 5 refine au ?_
  obtain ⟨r1, hx2, hF⟩ := bind_some hF
  refine Cx0 (i_within_ok _ _ _ _ hx2) (fun _ => ?_)
  iterate 3 refine au ?_
  cases hF
  exact Er ()

/-! impl.Method).fits -/
def i_Method_fits (a_m : Method) (a_arity : Int) : Option (Bool) :=
  ((i_ascending a_m.Inputs).bind fun r5 =>
    bif r5 then ((g_slices_ContainsFunc_int_int_iMethodfits1 a_m.Inputs a_arity).bind fun r9 =>
      bif (!r9) then ((i_within a_m.Limit 0 9).bind fun r13 =>
        bif r13 then ((i_isCost a_m.Cost).bind fun r17 =>
          bif r17 then ((i_within a_m.Quota 1 99).bind fun r21 =>
            some r21)
          else (some false))
        else (some false))
      else (some false))
    else (some false)).bind fun o3 =>
  match o3 with
  | c24 => some c24
theorem i_Method_fits_ok (a_m : Method) (v0_1 : Sv) (a_arity : Int) (R : Bool) (hF : i_Method_fits a_m a_arity = some R) :
    Fw.Spec Tryz.prog 139 [(.agg [(.int .i64 a_m.Rel), v0_1.v, (.int .i64 a_m.Limit), (.int .i64 a_m.Cost), (.int .i64 a_m.Quota)].toArray), (.int .i64 a_arity)] [crd (RdS 3 rdInt) v0_1.v a_m.Inputs] (fun _ : Unit => (.bool R)) (fun _ => []) := by
  refine Spec_enter (n := 30) Tryz.func139 rfl rfl (rs := [.tmp 4]) rfl rfl rfl ?_
  intro H0 F0
  unfold i_Method_fits at hF
  refine au ?_
  refine AbR (fun k1 => ?_)
  refine AbR (fun k2 => ?_)
  iterate 2 refine au ?_
  obtain ⟨o3, hio3, hO4⟩ := bind_some hF
  refine au ?_
  refine C_cut (fun f' cs' => ∃ (c24 : Bool) (g : Fr), c24 = o3 ∧ f' = updL g [(4, (.bool c24))] ∧ Ent cs' []) ?_ ?_
  · replace hF := hio3
    iterate 2 refine au ?_
    obtain ⟨r5, hx6, hF⟩ := bind_some hF
    refine Cx0 (i_ascending_ok _ _ _ hx6) (fun _ => ?_)
    refine au ?_
    rcases Bool.eq_false_or_eq_true r5 with hg8 | hg8
    · rw [hg8]
      try rw [hg8] at hF; dsimp only [cond_true, cond_false] at hF
      iterate 5 refine au ?_
      refine C_val (V_makeFunc (fn := .func 176) (vs := []) (us := [(.pointer (some ⟨k2, 0, some 0⟩))]) .nil (.cons (.tmp rfl rfl) .nil)) ?_
      refine au ?_
      obtain ⟨r9, hx10, hF⟩ := bind_some hF
      refine Cx0 (g_slices_ContainsFunc_int_int_iMethodfits1_ok _ _ _ _ _ hx10) (fun _ => ?_)
      iterate 4 refine au ?_
      rcases Bool.eq_false_or_eq_true (!r9) with hg12 | hg12
      · rw [hg12]
        try rw [hg12] at hF; dsimp only [cond_true, cond_false] at hF
        iterate 5 refine au ?_
        obtain ⟨r13, hx14, hF⟩ := bind_some hF
        refine Cx0 (i_within_ok _ _ _ _ hx14) (fun _ => ?_)
        iterate 2 refine au ?_
        rcases Bool.eq_false_or_eq_true r13 with hg16 | hg16
        · rw [hg16]
          try rw [hg16] at hF; dsimp only [cond_true, cond_false] at hF
          iterate 5 refine au ?_
          obtain ⟨r17, hx18, hF⟩ := bind_some hF
          refine Cx0 (i_isCost_ok _ _ hx18) (fun _ => ?_)
          iterate 2 refine au ?_
          rcases Bool.eq_false_or_eq_true r17 with hg20 | hg20
          · rw [hg20]
            try rw [hg20] at hF; dsimp only [cond_true, cond_false] at hF
            iterate 5 refine au ?_
            obtain ⟨r21, hx22, hF⟩ := bind_some hF
            refine Cx0 (i_within_ok _ _ _ _ hx22) (fun _ => ?_)
            iterate 3 refine au ?_
            cases hF
            exact ⟨_, _, rfl, eqA, entA⟩
          rw [hg20]
          try rw [hg20] at hF; dsimp only [cond_true, cond_false] at hF
          iterate 6 refine au ?_
          cases hF
          exact ⟨_, _, rfl, eqA, entA⟩
        rw [hg16]
        try rw [hg16] at hF; dsimp only [cond_true, cond_false] at hF
        iterate 11 refine au ?_
        cases hF
        exact ⟨_, _, rfl, eqA, entA⟩
      rw [hg12]
      try rw [hg12] at hF; dsimp only [cond_true, cond_false] at hF
      iterate 16 refine au ?_
      cases hF
      exact ⟨_, _, rfl, eqA, entA⟩
    rw [hg8]
    try rw [hg8] at hF; dsimp only [cond_true, cond_false] at hF
    iterate 23 refine au ?_
    cases hF
    exact ⟨_, _, rfl, eqA, entA⟩
  rintro _ _ ⟨c24, g25, rfl, rfl, hE⟩
  replace hF := hO4
  clear hO4
  try dsimp only at hF
  refine K_ent hE ?_
  refine au ?_
  cases hF
  exact Er ()

/-! impl.IsMethod -/
def i_IsMethod (a_s : List Int) (a_m : Method) : Option (Bool) :=
  ((i_hasRel a_s a_m.Rel).bind fun r4 =>
    bif r4 then ((ix a_s a_m.Rel).bind fun x8 =>
      (i_Method_fits a_m x8).bind fun r14 =>
      some r14)
    else (some false)).bind fun o2 =>
  match o2 with
  | c17 => some c17
theorem i_IsMethod_ok (a_s : List Int) (v0_0 : Sv) (a_m : Method) (v1_1 : Sv) (R : Bool) (hF : i_IsMethod a_s a_m = some R) :
    Fw.Spec Tryz.prog 97 [v0_0.v, (.agg [(.int .i64 a_m.Rel), v1_1.v, (.int .i64 a_m.Limit), (.int .i64 a_m.Cost), (.int .i64 a_m.Quota)].toArray)] [crd (RdS 3 rdInt) v0_0.v a_s, crd (RdS 3 rdInt) v1_1.v a_m.Inputs] (fun _ : Unit => (.bool R)) (fun _ => []) := by
  refine Spec_enter (n := 18) Tryz.func97 rfl rfl (rs := [.tmp 4]) rfl rfl rfl ?_
  intro H0 F0
  unfold i_IsMethod at hF
  refine K_region (C_newR rfl (N_box (g := false) (v := (.agg [(.int .i64 a_m.Rel), v1_1.v, (.int .i64 a_m.Limit), (.int .i64 a_m.Cost), (.int .i64 a_m.Quota)].toArray)) ty77.h.sz (.tmp rfl rfl) rfl) (fun k1 => ?_))
  refine C_val (V_assign (v := (.bool false)) (.bool _)) ?_
  refine C_nil ?_
  obtain ⟨o2, hio2, hO3⟩ := bind_some hF
  refine K_draw [0, 1, 2, 3, 4, 5, 6, 7, 8, 9, 10, 11, 12, 13] [0, 0, 2, 7, 15, 31, 31, 31, 159, 479, 991, 2047, 4095, 8191] [3, 11] mixed (by decide +kernel) ?_
  refine D_cut (fun f' cs' => ∃ (c17 : Bool) (g : Fr), c17 = o2 ∧ f' = updL g [(4, (.bool c17))] ∧ Ent cs' []) ?_ ?_
  · replace hF := hio2
    refine Dm v0_0.v rfl rfl rfl rfl ?_
    refine D_val rfl .no (fun ha => V_fieldAddr (off := 0) fd77_0.h (EN ha (.tmp rfl rfl) rfl)) ?_
    refine D_at rfl .no .h rfl (fun ha hp => V_load (v := (.int .i64 a_m.Rel)) ag3.h (EN ha (.tmp rfl rfl) rfl) hp.2 rfl rfl) ?_
    obtain ⟨r4, hx5, hF⟩ := bind_some hF
    refine D_act0 rfl rfl .no (.rd (.t .h) rfl .nil) .nil (fun ha => X_callS cf115.h (.cons (EN ha (.tmp rfl rfl) rfl) (.cons (EN ha (.tmp rfl rfl) rfl) .nil)) (i_hasRel_ok a_s v0_0 a_m.Rel _ hx5)) (fun _ => ?_)
    refine Dm (.bool r4) rfl rfl rfl rfl ?_
    rcases Bool.eq_false_or_eq_true r4 with hg7 | hg7
    · rw [hg7]
      try rw [hg7] at hF; dsimp only [cond_true, cond_false] at hF
      refine D_at rfl (.on 9 rfl rfl rfl) .h rfl (fun ha hp => V_loadBox ag77.h ty77.h.sz rfl (EN ha (.tmp rfl rfl) rfl) hp.2 rfl) ?_
      refine D_val rfl (.on 9 rfl rfl rfl) (fun ha => V_move (v := v0_0.v) (EN ha (.tmp rfl rfl) rfl)) ?_
      refine D_val rfl (.on 9 rfl rfl rfl) (fun ha => V_fieldAddr (off := 0) fd77_0.h (EN ha (.tmp rfl rfl) rfl)) ?_
      refine D_at rfl (.on 9 rfl rfl rfl) .h rfl (fun ha hp => V_load (v := (.int .i64 a_m.Rel)) ag3.h (EN ha (.tmp rfl rfl) rfl) hp.2 rfl rfl) ?_
      obtain ⟨x8, hx9, hF⟩ := bind_some hF
      obtain ⟨hp10, hx11⟩ := ix_some hx9
      refine D_idx (a := x8) sl22.h ty3.h.sz rfl (.on 9 rfl rfl rfl) (.tmp rfl rfl) (.tmp rfl rfl) rfl rfl (.t .h) hp10 hx11 (fun k12 j13 => ?_)
      refine D_ldS (w := (.int .i64 x8)) ag3.h rfl (.on 9 rfl rfl rfl) (.tmp rfl rfl) rfl .h ls3_0 ?_
      obtain ⟨r14, hx15, hF⟩ := bind_some hF
      refine D_act0 rfl rfl (.on 9 rfl rfl rfl) (.rd (.t (.t (.t .h))) rfl .nil) .nil (fun ha => X_callS cf139.h (.cons (EN ha (.tmp rfl rfl) rfl) (.cons (EN ha (.tmp rfl rfl) rfl) .nil)) (i_Method_fits_ok a_m v1_1 x8 _ hx15)) (fun _ => ?_)
      refine D_val rfl .no (fun ha => V_pick (b := true) (u := (.bool r14)) (v := (.bool false)) (EN ha (.tmp rfl rfl) rfl) (EN ha (.tmp rfl rfl) rfl) (EN ha (.bool _) rfl)) ?_
      refine Da (.bool r14) rfl rfl rfl rfl ?_
      refine D_nil ?_
      obtain rfl := Option.some.inj hF
      exact ⟨_, _, rfl, (EqL.cons rfl (EqL.nil)).eq, (.sel .nil)⟩
    rw [hg7]
    try rw [hg7] at hF; dsimp only [cond_true, cond_false] at hF
    iterate 7 refine D_off 9 rfl rfl rfl rfl ?_
    refine D_val rfl .no (fun ha => V_pick (b := false) (u := undef) (v := (.bool false)) (EN ha (.tmp rfl rfl) rfl) (EN ha (.tmp rfl rfl) rfl) (EN ha (.bool _) rfl)) ?_
    refine Da (.bool false) rfl rfl rfl rfl ?_
    refine D_nil ?_
    obtain rfl := Option.some.inj hF
    exact ⟨_, _, rfl, (EqL.cons rfl (EqL.nil)).eq, (.sel .nil)⟩
  rintro _ _ ⟨c17, g18, rfl, rfl, hE⟩
  replace hF := hO3
  clear hO3
  try dsimp only at hF
  refine K_ent hE ?_
  refine CW_ret ?_
  obtain rfl := Option.some.inj hF
  exact End_ret () (.tmp rfl rfl .nil) rfl (.sel .nil)

/-! impl.AreMethods$1 -/
def i_AreMethods_1 (a_m : Method) (a_e1 : List Int) : Option (Bool) :=
  (i_IsMethod a_e1 a_m).bind fun r2 =>
  some (!r2)
theorem i_AreMethods_1_ok (a_m : Method) (v0_1 : Sv) (kc1 : Nat) (a_e1 : List Int) (vc1_0 : Sv) (R : Bool) (hF : i_AreMethods_1 a_m a_e1 = some R) :
    Fw.Spec Tryz.prog 96 [(.agg [(.int .i64 a_m.Rel), v0_1.v, (.int .i64 a_m.Limit), (.int .i64 a_m.Cost), (.int .i64 a_m.Quota)].toArray), (.pointer (some ⟨kc1, 0, some 0⟩))] [crd (RdS 3 rdInt) v0_1.v a_m.Inputs, cboR kc1 22 vc1_0.v, crd (RdS 3 rdInt) vc1_0.v a_e1] (fun _ : Unit => (.bool R)) (fun _ => []) := by
  refine Spec_enter (n := 8) Tryz.func96 rfl rfl (rs := [.tmp 3]) rfl rfl rfl ?_
  intro H0 F0
  unfold i_AreMethods_1 at hF
  refine au ?_
  refine AbR (fun k1 => ?_)
  iterate 5 refine au ?_
  obtain ⟨r2, hx3, hF⟩ := bind_some hF
  refine Cx0 (i_IsMethod_ok _ _ _ _ _ hx3) (fun _ => ?_)
  iterate 4 refine au ?_
  cases hF
  exact Er ()

/-! impl.Method] -/
def g_slices_IndexFunc_impl_Method_impl_Method_iAreMethods1_L1 (a_e1 : List Int) : List Method → Nat → Option (Int)
  | [], k4 => some (-1)
  | x6 :: rest5, k4 => (i_AreMethods_1 x6 a_e1).bind fun r16 =>
    if r16 then (
      some (k4 : Int))
    else (
      g_slices_IndexFunc_impl_Method_impl_Method_iAreMethods1_L1 a_e1 rest5 (k4 + 1))
def g_slices_IndexFunc_impl_Method_impl_Method_iAreMethods1 (a_s : List Method) (a_e1 : List Int) : Option (Int) :=
  g_slices_IndexFunc_impl_Method_impl_Method_iAreMethods1_L1 a_e1 a_s 0
theorem g_slices_IndexFunc_impl_Method_impl_Method_iAreMethods1_ok (a_s : List Method) (v0_0 : Sv) (kc1 : Nat) (a_e1 : List Int) (vc1_0 : Sv) (R : Int) (hF : g_slices_IndexFunc_impl_Method_impl_Method_iAreMethods1 a_s a_e1 = some R) :
    Fw.Spec Tryz.prog 138 [v0_0.v, (.func (.func 96) [].toArray [(.pointer (some ⟨kc1, 0, some 0⟩))].toArray)] [crd (RdS 77 rd77) v0_0.v a_s, cboR kc1 22 vc1_0.v, crd (RdS 3 rdInt) vc1_0.v a_e1] (fun _ : Unit => (.int .i64 R)) (fun _ => []) := by
  refine Spec_enter (n := 19) Tryz.func138 rfl rfl (rs := [.tmp 4]) rfl rfl rfl ?_
  intro H0 F0
  unfold g_slices_IndexFunc_impl_Method_impl_Method_iAreMethods1 at hF
  iterate 9 refine au ?_
  refine CW_block (CW_loop (m := a_s.length) (fun m2 f' cs' => ∃ (g : Fr) (k4 : Nat) (rest5 : List Method), m2 = rest5.length ∧ f' = updL g [(0, v0_0.v), (1, (.func (.func 96) [].toArray [(.pointer (some ⟨kc1, 0, some 0⟩))].toArray)), (7, (.int .i64 (a_s.length : Int))), (8, (.int .i64 (k4 : Int)))] ∧ List.drop k4 a_s = rest5 ∧ Ent cs' [crd (RdS 77 rd77) v0_0.v a_s, cboR kc1 22 vc1_0.v, crd (RdS 3 rdInt) vc1_0.v a_e1] ∧ g_slices_IndexFunc_impl_Method_impl_Method_iAreMethods1_L1 a_e1 rest5 k4 = some R) ⟨_, 0, _, rfl, eqA, rfl, entA, hF⟩ ?_)
  clear hF
  rintro m2 _ _ ⟨g3, k4, rest5, rfl, rfl, hd7, hE, hF⟩
  refine K_ent hE ?_
  clear hE
  refine K_pure (c := crd (RdS 77 rd77) v0_0.v a_s) .h crd_bound (fun hbd12 => ?_)
  rcases rest5 with _ | ⟨x6, rest5⟩
  · have hk8 := List.drop_eq_nil_iff.1 hd7
    rw [g_slices_IndexFunc_impl_Method_impl_Method_iAreMethods1_L1] at hF
    iterate 4 refine au ?_
    refine CdF ?_
    iterate 8 refine au ?_
    cases hF
    exact Er ()
  obtain ⟨hk8, hx9, hd10⟩ := drop_cons hd7
  rw [g_slices_IndexFunc_impl_Method_impl_Method_iAreMethods1_L1] at hF
  iterate 4 refine au ?_
  refine CdT ?_
  iterate 10 refine au ?_
  refine Ai hx9 (fun k13 j14 => ?_)
  refine AlA1 (ul77_0_77 x6) la77_0_77 (fun p15 => ?_)
  obtain ⟨r16, hx17, hF⟩ := bind_some hF
  refine C_x0 (.rd .h rfl (.rd (.t (.t (.t .h))) rfl (.rd (.t (.t (.t (.t .h)))) rfl .nil))) (X_callCS cf96.h (.tmp rfl rfl) (.cons (.tmp rfl rfl) .nil) (i_AreMethods_1_ok x6 p15 kc1 a_e1 vc1_0 _ hx17)) (fun _ => ?_)
  refine au ?_
  refine Cc (fun hb20 => ?_) (fun hb20 => ?_)
  · rw [if_pos hb20] at hF
    iterate 5 refine au ?_
    cases hF
    exact Er ()
  rw [if_neg (nt hb20)] at hF
  iterate 5 refine au ?_
  rw [wk k4]
  exact ⟨_, Nat.lt_succ_self _, _, k4 + 1, rest5, rfl, eqA, hd10, entA, hF⟩

/-! impl.Method] -/
def g_slices_ContainsFunc_impl_Method_impl_Method_iAreMethods1 (a_s : List Method) (a_e1 : List Int) : Option (Bool) :=
  (g_slices_IndexFunc_impl_Method_impl_Method_iAreMethods1 a_s a_e1).bind fun r1 =>
  some (decide ((0 : Int) ≤ r1))
theorem g_slices_ContainsFunc_impl_Method_impl_Method_iAreMethods1_ok (a_s : List Method) (v0_0 : Sv) (kc1 : Nat) (a_e1 : List Int) (vc1_0 : Sv) (R : Bool) (hF : g_slices_ContainsFunc_impl_Method_impl_Method_iAreMethods1 a_s a_e1 = some R) :
    Fw.Spec Tryz.prog 95 [v0_0.v, (.func (.func 96) [].toArray [(.pointer (some ⟨kc1, 0, some 0⟩))].toArray)] [crd (RdS 77 rd77) v0_0.v a_s, cboR kc1 22 vc1_0.v, crd (RdS 3 rdInt) vc1_0.v a_e1] (fun _ : Unit => (.bool R)) (fun _ => []) := by
  refine Spec_enter (n := 9) Tryz.func95 rfl rfl (rs := [.tmp 4]) rfl rfl rfl ?_
  intro H0 F0
  unfold g_slices_ContainsFunc_impl_Method_impl_Method_iAreMethods1 at hF
  iterate 6 refine au ?_
  obtain ⟨r1, hx2, hF⟩ := bind_some hF
  refine Cx0 (g_slices_IndexFunc_impl_Method_impl_Method_iAreMethods1_ok _ _ _ _ _ _ hx2) (fun _ => ?_)
  iterate 4 refine au ?_
  cases hF
  exact Er ()

/-! impl.AreMethods -/
def i_AreMethods (a_s : List Int) (a_l : List Method) : Option (Bool) :=
  ((i_IsSchema a_s).bind fun r4 =>
    bif r4 then (bif (decide (((a_l.length : Int) : Int) ≤ 5)) then ((g_slices_ContainsFunc_impl_Method_impl_Method_iAreMethods1 a_l a_s).bind fun r9 =>
        some (!r9))
      else (some false))
    else (some false)).bind fun o2 =>
  match o2 with
  | c12 => some c12
theorem i_AreMethods_ok (a_s : List Int) (v0_0 : Sv) (a_l : List Method) (v1_0 : Sv) (R : Bool) (hF : i_AreMethods a_s a_l = some R) :
    Fw.Spec Tryz.prog 61 [v0_0.v, v1_0.v] [crd (RdS 3 rdInt) v0_0.v a_s, crd (RdS 77 rd77) v1_0.v a_l] (fun _ : Unit => (.bool R)) (fun _ => []) := by
  refine Spec_enter (n := 18) Tryz.func61 rfl rfl (rs := [.tmp 4]) rfl rfl rfl ?_
  intro H0 F0
  unfold i_AreMethods at hF
  refine au ?_
  refine AbR (fun k1 => ?_)
  iterate 2 refine au ?_
  obtain ⟨o2, hio2, hO3⟩ := bind_some hF
  refine au ?_
  refine C_cut (fun f' cs' => ∃ (c12 : Bool) (g : Fr), c12 = o2 ∧ f' = updL g [(4, (.bool c12))] ∧ Ent cs' []) ?_ ?_
  · replace hF := hio2
    refine au ?_
    obtain ⟨r4, hx5, hF⟩ := bind_some hF
    refine Cx0 (i_IsSchema_ok _ _ _ hx5) (fun _ => ?_)
    refine au ?_
    rcases Bool.eq_false_or_eq_true r4 with hg7 | hg7
    · rw [hg7]
      try rw [hg7] at hF; dsimp only [cond_true, cond_false] at hF
      iterate 8 refine au ?_
      rcases Bool.eq_false_or_eq_true (decide (((a_l.length : Int) : Int) ≤ 5)) with hg8 | hg8
      · rw [hg8]
        try rw [hg8] at hF; dsimp only [cond_true, cond_false] at hF
        iterate 3 refine au ?_
        refine C_val (V_makeFunc (fn := .func 96) (vs := []) (us := [(.pointer (some ⟨k1, 0, some 0⟩))]) .nil (.cons (.tmp rfl rfl) .nil)) ?_
        refine au ?_
        obtain ⟨r9, hx10, hF⟩ := bind_some hF
        refine Cx0 (g_slices_ContainsFunc_impl_Method_impl_Method_iAreMethods1_ok _ _ _ _ _ _ hx10) (fun _ => ?_)
        iterate 5 refine au ?_
        cases hF
        exact ⟨_, _, rfl, eqA, entA⟩
      rw [hg8]
      try rw [hg8] at hF; dsimp only [cond_true, cond_false] at hF
      iterate 7 refine au ?_
      cases hF
      exact ⟨_, _, rfl, eqA, entA⟩
    rw [hg7]
    try rw [hg7] at hF; dsimp only [cond_true, cond_false] at hF
    iterate 12 refine au ?_
    cases hF
    exact ⟨_, _, rfl, eqA, entA⟩
  rintro _ _ ⟨c12, g13, rfl, rfl, hE⟩
  replace hF := hO3
  clear hO3
  try dsimp only at hF
  refine K_ent hE ?_
  refine au ?_
  cases hF
  exact Er ()

/-! impl.isValue -/
def i_isValue (a_n : Int) : Option (Bool) :=
  (i_within a_n 0 9).bind fun r1 =>
  some r1
theorem i_isValue_ok (a_n : Int) (R : Bool) (hF : i_isValue a_n = some R) :
    Fw.Spec Tryz.prog 85 [(.int .i64 a_n)] [] (fun _ : Unit => (.bool R)) (fun _ => []) := by
  refine Spec_enter (n := 5) Tryz.func85 rfl rfl (rs := [.tmp 2]) rfl rfl rfl ?_
  intro H0 F0
  unfold i_isValue at hF
  iterate 5 refine au ?_
  obtain ⟨r1, hx2, hF⟩ := bind_some hF
  refine Cx0 (i_within_ok _ _ _ _ hx2) (fun _ => ?_)
  iterate 3 refine au ?_
  cases hF
  exact Er ()

/-! impl.IsVar -/
def i_IsVar (a_t : Int) : Option (Bool) :=
  (i_within a_t 10 17).bind fun r1 =>
  some r1
theorem i_IsVar_ok (a_t : Int) (R : Bool) (hF : i_IsVar a_t = some R) :
    Fw.Spec Tryz.prog 189 [(.int .i64 a_t)] [] (fun _ : Unit => (.bool R)) (fun _ => []) := by
  refine Spec_enter (n := 5) Tryz.func189 rfl rfl (rs := [.tmp 2]) rfl rfl rfl ?_
  intro H0 F0
  unfold i_IsVar at hF
  iterate 5 refine au ?_
  obtain ⟨r1, hx2, hF⟩ := bind_some hF
  refine Cx0 (i_within_ok _ _ _ _ hx2) (fun _ => ?_)
  iterate 3 refine au ?_
  cases hF
  exact Er ()

/-! impl.IsTerm -/
def i_IsTerm (a_t : Int) : Option (Bool) :=
  ((i_isValue a_t).bind fun r3 =>
    bif r3 then (some true)
    else ((i_IsVar a_t).bind fun r7 =>
      some r7)).bind fun o1 =>
  match o1 with
  | c10 => some c10
theorem i_IsTerm_ok (a_t : Int) (R : Bool) (hF : i_IsTerm a_t = some R) :
    Fw.Spec Tryz.prog 188 [(.int .i64 a_t)] [] (fun _ : Unit => (.bool R)) (fun _ => []) := by
  refine Spec_enter (n := 9) Tryz.func188 rfl rfl (rs := [.tmp 2]) rfl rfl rfl ?_
  intro H0 F0
  unfold i_IsTerm at hF
  iterate 3 refine au ?_
  obtain ⟨o1, hio1, hO2⟩ := bind_some hF
  refine au ?_
  refine C_cut (fun f' cs' => ∃ (c10 : Bool) (g : Fr), c10 = o1 ∧ f' = updL g [(2, (.bool c10))] ∧ Ent cs' []) ?_ ?_
  · replace hF := hio1
    refine au ?_
    obtain ⟨r3, hx4, hF⟩ := bind_some hF
    refine Cx0 (i_isValue_ok _ _ hx4) (fun _ => ?_)
    refine au ?_
    rcases Bool.eq_false_or_eq_true r3 with hg6 | hg6
    · rw [hg6]
      try rw [hg6] at hF; dsimp only [cond_true, cond_false] at hF
      iterate 5 refine au ?_
      cases hF
      exact ⟨_, _, rfl, eqA, entA⟩
    rw [hg6]
    try rw [hg6] at hF; dsimp only [cond_true, cond_false] at hF
    iterate 3 refine au ?_
    obtain ⟨r7, hx8, hF⟩ := bind_some hF
    refine Cx0 (i_IsVar_ok _ _ hx8) (fun _ => ?_)
    iterate 3 refine au ?_
    cases hF
    exact ⟨_, _, rfl, eqA, entA⟩
  rintro _ _ ⟨c10, g11, rfl, rfl, hE⟩
  replace hF := hO2
  clear hO2
  try dsimp only at hF
  refine K_ent hE ?_
  refine au ?_
  cases hF
  exact Er ()

/-! impl.areTerms$1 -/
def i_areTerms_1 (a_t : Int) : Option (Bool) :=
  (i_IsTerm a_t).bind fun r1 =>
  some (!r1)
theorem i_areTerms_1_ok (a_t : Int) (R : Bool) (hF : i_areTerms_1 a_t = some R) :
    Fw.Spec Tryz.prog 187 [(.int .i64 a_t)] [] (fun _ : Unit => (.bool R)) (fun _ => []) := by
  refine Spec_enter (n := 6) Tryz.func187 rfl rfl (rs := [.tmp 2]) rfl rfl rfl ?_
  intro H0 F0
  unfold i_areTerms_1 at hF
  iterate 5 refine au ?_
  obtain ⟨r1, hx2, hF⟩ := bind_some hF
  refine Cx0 (i_IsTerm_ok _ _ hx2) (fun _ => ?_)
  iterate 4 refine au ?_
  cases hF
  exact Er ()

/-! slices.IndexFunc[[]int,int] -/
def g_slices_IndexFunc_int_int_iareTerms1_L1 : List Int → Nat → Option (Int)
  | [], k4 => some (-1)
  | x6 :: rest5, k4 => (i_areTerms_1 x6).bind fun r15 =>
    if r15 then (
      some (k4 : Int))
    else (
      g_slices_IndexFunc_int_int_iareTerms1_L1 rest5 (k4 + 1))
def g_slices_IndexFunc_int_int_iareTerms1 (a_s : List Int) : Option (Int) :=
  g_slices_IndexFunc_int_int_iareTerms1_L1 a_s 0
theorem g_slices_IndexFunc_int_int_iareTerms1_ok (a_s : List Int) (v0_0 : Sv) (R : Int) (hF : g_slices_IndexFunc_int_int_iareTerms1 a_s = some R) :
    Fw.Spec Tryz.prog 157 [v0_0.v, (.func (.func 187) [].toArray [].toArray)] [crd (RdS 3 rdInt) v0_0.v a_s] (fun _ : Unit => (.int .i64 R)) (fun _ => []) := by
  refine Spec_enter (n := 19) Tryz.func157 rfl rfl (rs := [.tmp 4]) rfl rfl rfl ?_
  intro H0 F0
  unfold g_slices_IndexFunc_int_int_iareTerms1 at hF
  iterate 9 refine au ?_
  refine CW_block (CW_loop (m := a_s.length) (fun m2 f' cs' => ∃ (g : Fr) (k4 : Nat) (rest5 : List Int), m2 = rest5.length ∧ f' = updL g [(0, v0_0.v), (1, (.func (.func 187) [].toArray [].toArray)), (7, (.int .i64 (a_s.length : Int))), (8, (.int .i64 (k4 : Int)))] ∧ List.drop k4 a_s = rest5 ∧ Ent cs' [crd (RdS 3 rdInt) v0_0.v a_s] ∧ g_slices_IndexFunc_int_int_iareTerms1_L1 rest5 k4 = some R) ⟨_, 0, _, rfl, eqA, rfl, entA, hF⟩ ?_)
  clear hF
  rintro m2 _ _ ⟨g3, k4, rest5, rfl, rfl, hd7, hE, hF⟩
  refine K_ent hE ?_
  clear hE
  refine K_pure (c := crd (RdS 3 rdInt) v0_0.v a_s) .h crd_bound (fun hbd12 => ?_)
  rcases rest5 with _ | ⟨x6, rest5⟩
  · have hk8 := List.drop_eq_nil_iff.1 hd7
    rw [g_slices_IndexFunc_int_int_iareTerms1_L1] at hF
    iterate 4 refine au ?_
    refine CdF ?_
    iterate 8 refine au ?_
    cases hF
    exact Er ()
  obtain ⟨hk8, hx9, hd10⟩ := drop_cons hd7
  rw [g_slices_IndexFunc_int_int_iareTerms1_L1] at hF
  iterate 4 refine au ?_
  refine CdT ?_
  iterate 10 refine au ?_
  refine Ai hx9 (fun k13 j14 => ?_)
  refine Al ls3_0 ?_
  obtain ⟨r15, hx16, hF⟩ := bind_some hF
  refine C_x0 .nil (X_callCS cf187.h (.tmp rfl rfl) (.cons (.tmp rfl rfl) .nil) (i_areTerms_1_ok x6 _ hx16)) (fun _ => ?_)
  refine au ?_
  refine Cc (fun hb19 => ?_) (fun hb19 => ?_)
  · rw [if_pos hb19] at hF
    iterate 5 refine au ?_
    cases hF
    exact Er ()
  rw [if_neg (nt hb19)] at hF
  iterate 5 refine au ?_
  rw [wk k4]
  exact ⟨_, Nat.lt_succ_self _, _, k4 + 1, rest5, rfl, eqA, hd10, entA, hF⟩

/-! slices.ContainsFunc[[]int,int] -/
def g_slices_ContainsFunc_int_int_iareTerms1 (a_s : List Int) : Option (Bool) :=
  (g_slices_IndexFunc_int_int_iareTerms1 a_s).bind fun r1 =>
  some (decide ((0 : Int) ≤ r1))
theorem g_slices_ContainsFunc_int_int_iareTerms1_ok (a_s : List Int) (v0_0 : Sv) (R : Bool) (hF : g_slices_ContainsFunc_int_int_iareTerms1 a_s = some R) :
    Fw.Spec Tryz.prog 120 [v0_0.v, (.func (.func 187) [].toArray [].toArray)] [crd (RdS 3 rdInt) v0_0.v a_s] (fun _ : Unit => (.bool R)) (fun _ => []) := by
  refine Spec_enter (n := 9) Tryz.func120 rfl rfl (rs := [.tmp 4]) rfl rfl rfl ?_
  intro H0 F0
  unfold g_slices_ContainsFunc_int_int_iareTerms1 at hF
  iterate 6 refine au ?_
  obtain ⟨r1, hx2, hF⟩ := bind_some hF
  refine Cx0 (g_slices_IndexFunc_int_int_iareTerms1_ok _ _ _ hx2) (fun _ => ?_)
  iterate 4 refine au ?_
  cases hF
  exact Er ()

/-! impl.areTerms -/
def i_areTerms (a_l : List Int) : Option (Bool) :=
  (g_slices_ContainsFunc_int_int_iareTerms1 a_l).bind fun r1 =>
  some (!r1)
theorem i_areTerms_ok (a_l : List Int) (v0_0 : Sv) (R : Bool) (hF : i_areTerms a_l = some R) :
    Fw.Spec Tryz.prog 151 [v0_0.v] [crd (RdS 3 rdInt) v0_0.v a_l] (fun _ : Unit => (.bool R)) (fun _ => []) := by
  refine Spec_enter (n := 6) Tryz.func151 rfl rfl (rs := [.tmp 2]) rfl rfl rfl ?_
  intro H0 F0
  unfold i_areTerms at hF
  iterate 5 refine au ?_
  obtain ⟨r1, hx2, hF⟩ := bind_some hF
  refine Cx0 (g_slices_ContainsFunc_int_int_iareTerms1_ok _ _ _ hx2) (fun _ => ?_)
  iterate 4 refine au ?_
  cases hF
  exact Er ()

/-! impl.IsAtom -/
def i_IsAtom (a_s : List Int) (a_a : Atom) : Option (Bool) :=
  ((i_hasRel a_s a_a.Rel).bind fun r4 =>
    bif r4 then ((ix a_s a_a.Rel).bind fun x8 =>
      bif (((a_a.Terms.length : Int) : Int) == x8) then ((i_areTerms a_a.Terms).bind fun r15 =>
        some r15)
      else (some false))
    else (some false)).bind fun o2 =>
  match o2 with
  | c18 => some c18
theorem i_IsAtom_ok (a_s : List Int) (v0_0 : Sv) (a_a : Atom) (v1_1 : Sv) (R : Bool) (hF : i_IsAtom a_s a_a = some R) :
    Fw.Spec Tryz.prog 113 [v0_0.v, (.agg [(.int .i64 a_a.Rel), v1_1.v].toArray)] [crd (RdS 3 rdInt) v0_0.v a_s, crd (RdS 3 rdInt) v1_1.v a_a.Terms] (fun _ : Unit => (.bool R)) (fun _ => []) := by
  refine Spec_enter (n := 25) Tryz.func113 rfl rfl (rs := [.tmp 4]) rfl rfl rfl ?_
  intro H0 F0
  unfold i_IsAtom at hF
  refine au ?_
  refine AbR (fun k1 => ?_)
  iterate 2 refine au ?_
  obtain ⟨o2, hio2, hO3⟩ := bind_some hF
  refine K_draw [0, 1, 2, 3, 4, 5, 6, 7, 8, 9, 10, 11, 12, 13, 14, 15, 16, 17, 18, 19, 20] [0, 0, 2, 7, 15, 31, 63, 127, 31, 31, 543, 1823, 3871, 8191, 16383, 32767, 65535, 131071, 262143, 524287, 1048575] [3, 18] mixed (by decide +kernel) ?_
  refine D_cut (fun f' cs' => ∃ (c18 : Bool) (g : Fr), c18 = o2 ∧ f' = updL g [(4, (.bool c18))] ∧ Ent cs' []) ?_ ?_
  · replace hF := hio2
    iterate 3 refine du ?_
    obtain ⟨r4, hx5, hF⟩ := bind_some hF
    refine Dx0 (i_hasRel_ok _ _ _ _ hx5) (fun _ => ?_)
    refine du ?_
    rcases Bool.eq_false_or_eq_true r4 with hg7 | hg7
    · rw [hg7]
      try rw [hg7] at hF; dsimp only [cond_true, cond_false] at hF
      iterate 6 refine du ?_
      obtain ⟨x8, hx9, hF⟩ := bind_some hF
      obtain ⟨hp10, hx11⟩ := ix_some hx9
      refine Di hx11 (fun k12 j13 => ?_)
      refine Dl ls3_0 ?_
      iterate 3 refine du ?_
      rcases Bool.eq_false_or_eq_true (((a_a.Terms.length : Int) : Int) == x8) with hg14 | hg14
      · rw [hg14]
        try rw [hg14] at hF; dsimp only [cond_true, cond_false] at hF
        iterate 2 refine du ?_
        obtain ⟨r15, hx16, hF⟩ := bind_some hF
        refine Dx0 (i_areTerms_ok _ _ _ hx16) (fun _ => ?_)
        iterate 3 refine du ?_
        cases hF
        exact ⟨_, _, rfl, eqA, entA⟩
      rw [hg14]
      try rw [hg14] at hF; dsimp only [cond_true, cond_false] at hF
      iterate 6 refine du ?_
      cases hF
      exact ⟨_, _, rfl, eqA, entA⟩
    rw [hg7]
    try rw [hg7] at hF; dsimp only [cond_true, cond_false] at hF
    iterate 17 refine du ?_
    cases hF
    exact ⟨_, _, rfl, eqA, entA⟩
  rintro _ _ ⟨c18, g19, rfl, rfl, hE⟩
  replace hF := hO3
  clear hO3
  try dsimp only at hF
  refine K_ent hE ?_
  refine au ?_
  cases hF
  exact Er ()

/-! impl.IsQuery$1 -/
def i_IsQuery_1 (a_a : Atom) (a_e1 : List Int) : Option (Bool) :=
  (i_IsAtom a_e1 a_a).bind fun r2 =>
  some (!r2)
theorem i_IsQuery_1_ok (a_a : Atom) (v0_1 : Sv) (kc1 : Nat) (a_e1 : List Int) (vc1_0 : Sv) (R : Bool) (hF : i_IsQuery_1 a_a a_e1 = some R) :
    Fw.Spec Tryz.prog 112 [(.agg [(.int .i64 a_a.Rel), v0_1.v].toArray), (.pointer (some ⟨kc1, 0, some 0⟩))] [crd (RdS 3 rdInt) v0_1.v a_a.Terms, cboR kc1 22 vc1_0.v, crd (RdS 3 rdInt) vc1_0.v a_e1] (fun _ : Unit => (.bool R)) (fun _ => []) := by
  refine Spec_enter (n := 8) Tryz.func112 rfl rfl (rs := [.tmp 3]) rfl rfl rfl ?_
  intro H0 F0
  unfold i_IsQuery_1 at hF
  refine au ?_
  refine AbR (fun k1 => ?_)
  iterate 5 refine au ?_
  obtain ⟨r2, hx3, hF⟩ := bind_some hF
  refine Cx0 (i_IsAtom_ok _ _ _ _ _ hx3) (fun _ => ?_)
  iterate 4 refine au ?_
  cases hF
  exact Er ()

/-! impl.Atom] -/
def g_slices_IndexFunc_impl_Atom_impl_Atom_iIsQuery1_L1 (a_e1 : List Int) : List Atom → Nat → Option (Int)
  | [], k4 => some (-1)
  | x6 :: rest5, k4 => (i_IsQuery_1 x6 a_e1).bind fun r16 =>
    if r16 then (
      some (k4 : Int))
    else (
      g_slices_IndexFunc_impl_Atom_impl_Atom_iIsQuery1_L1 a_e1 rest5 (k4 + 1))
def g_slices_IndexFunc_impl_Atom_impl_Atom_iIsQuery1 (a_s : List Atom) (a_e1 : List Int) : Option (Int) :=
  g_slices_IndexFunc_impl_Atom_impl_Atom_iIsQuery1_L1 a_e1 a_s 0
theorem g_slices_IndexFunc_impl_Atom_impl_Atom_iIsQuery1_ok (a_s : List Atom) (v0_0 : Sv) (kc1 : Nat) (a_e1 : List Int) (vc1_0 : Sv) (R : Int) (hF : g_slices_IndexFunc_impl_Atom_impl_Atom_iIsQuery1 a_s a_e1 = some R) :
    Fw.Spec Tryz.prog 150 [v0_0.v, (.func (.func 112) [].toArray [(.pointer (some ⟨kc1, 0, some 0⟩))].toArray)] [crd (RdS 102 rd102) v0_0.v a_s, cboR kc1 22 vc1_0.v, crd (RdS 3 rdInt) vc1_0.v a_e1] (fun _ : Unit => (.int .i64 R)) (fun _ => []) := by
  refine Spec_enter (n := 19) Tryz.func150 rfl rfl (rs := [.tmp 4]) rfl rfl rfl ?_
  intro H0 F0
  unfold g_slices_IndexFunc_impl_Atom_impl_Atom_iIsQuery1 at hF
  iterate 9 refine au ?_
  refine CW_block (CW_loop (m := a_s.length) (fun m2 f' cs' => ∃ (g : Fr) (k4 : Nat) (rest5 : List Atom), m2 = rest5.length ∧ f' = updL g [(0, v0_0.v), (1, (.func (.func 112) [].toArray [(.pointer (some ⟨kc1, 0, some 0⟩))].toArray)), (7, (.int .i64 (a_s.length : Int))), (8, (.int .i64 (k4 : Int)))] ∧ List.drop k4 a_s = rest5 ∧ Ent cs' [crd (RdS 102 rd102) v0_0.v a_s, cboR kc1 22 vc1_0.v, crd (RdS 3 rdInt) vc1_0.v a_e1] ∧ g_slices_IndexFunc_impl_Atom_impl_Atom_iIsQuery1_L1 a_e1 rest5 k4 = some R) ⟨_, 0, _, rfl, eqA, rfl, entA, hF⟩ ?_)
  clear hF
  rintro m2 _ _ ⟨g3, k4, rest5, rfl, rfl, hd7, hE, hF⟩
  refine K_ent hE ?_
  clear hE
  refine K_pure (c := crd (RdS 102 rd102) v0_0.v a_s) .h crd_bound (fun hbd12 => ?_)
  rcases rest5 with _ | ⟨x6, rest5⟩
  · have hk8 := List.drop_eq_nil_iff.1 hd7
    rw [g_slices_IndexFunc_impl_Atom_impl_Atom_iIsQuery1_L1] at hF
    iterate 4 refine au ?_
    refine CdF ?_
    iterate 8 refine au ?_
    cases hF
    exact Er ()
  obtain ⟨hk8, hx9, hd10⟩ := drop_cons hd7
  rw [g_slices_IndexFunc_impl_Atom_impl_Atom_iIsQuery1_L1] at hF
  iterate 4 refine au ?_
  refine CdT ?_
  iterate 10 refine au ?_
  refine Ai hx9 (fun k13 j14 => ?_)
  refine AlA1 (ul102_0_102 x6) la102_0_102 (fun p15 => ?_)
  obtain ⟨r16, hx17, hF⟩ := bind_some hF
  refine C_x0 (.rd .h rfl (.rd (.t (.t (.t .h))) rfl (.rd (.t (.t (.t (.t .h)))) rfl .nil))) (X_callCS cf112.h (.tmp rfl rfl) (.cons (.tmp rfl rfl) .nil) (i_IsQuery_1_ok x6 p15 kc1 a_e1 vc1_0 _ hx17)) (fun _ => ?_)
  refine au ?_
  refine Cc (fun hb20 => ?_) (fun hb20 => ?_)
  · rw [if_pos hb20] at hF
    iterate 5 refine au ?_
    cases hF
    exact Er ()
  rw [if_neg (nt hb20)] at hF
  iterate 5 refine au ?_
  rw [wk k4]
  exact ⟨_, Nat.lt_succ_self _, _, k4 + 1, rest5, rfl, eqA, hd10, entA, hF⟩

/-! impl.Atom] -/
def g_slices_ContainsFunc_impl_Atom_impl_Atom_iIsQuery1 (a_s : List Atom) (a_e1 : List Int) : Option (Bool) :=
  (g_slices_IndexFunc_impl_Atom_impl_Atom_iIsQuery1 a_s a_e1).bind fun r1 =>
  some (decide ((0 : Int) ≤ r1))
theorem g_slices_ContainsFunc_impl_Atom_impl_Atom_iIsQuery1_ok (a_s : List Atom) (v0_0 : Sv) (kc1 : Nat) (a_e1 : List Int) (vc1_0 : Sv) (R : Bool) (hF : g_slices_ContainsFunc_impl_Atom_impl_Atom_iIsQuery1 a_s a_e1 = some R) :
    Fw.Spec Tryz.prog 111 [v0_0.v, (.func (.func 112) [].toArray [(.pointer (some ⟨kc1, 0, some 0⟩))].toArray)] [crd (RdS 102 rd102) v0_0.v a_s, cboR kc1 22 vc1_0.v, crd (RdS 3 rdInt) vc1_0.v a_e1] (fun _ : Unit => (.bool R)) (fun _ => []) := by
  refine Spec_enter (n := 9) Tryz.func111 rfl rfl (rs := [.tmp 4]) rfl rfl rfl ?_
  intro H0 F0
  unfold g_slices_ContainsFunc_impl_Atom_impl_Atom_iIsQuery1 at hF
  iterate 6 refine au ?_
  obtain ⟨r1, hx2, hF⟩ := bind_some hF
  refine Cx0 (g_slices_IndexFunc_impl_Atom_impl_Atom_iIsQuery1_ok _ _ _ _ _ _ hx2) (fun _ => ?_)
  iterate 4 refine au ?_
  cases hF
  exact Er ()

/-! slices.Sort[[]int,int] -/
def g_slices_Sort_int_int (a_x : List Int) : Option (List Int) :=
  some (a_x.mergeSort fun x y => decide (x ≤ y))
theorem g_slices_Sort_int_int_ok (a_x : List Int) (v0_0 : Sv) (F0_0 : List Nat) (R : List Int) (hF : g_slices_Sort_int_int a_x = some R) :
    Fw.Spec Tryz.prog 130 [v0_0.v] [cown (OwnS 3 (roE rdInt)) F0_0 v0_0.v a_x] (fun _ : List Nat => (.tuple [].toArray)) (fun p => [cown (OwnS 3 (roE rdInt)) p v0_0.v R]) := by
  cases hF
  exact Spec_sort ty3.h (Go.Proofs.Any.slices_Sort_int_none lays189) (Go.Proofs.Any.slices_Sort_int lays189)

/-! slices.Compact[[]int,int] -/
def g_slices_Compact_int_int (a_x : List Int) : Option (List Int) :=
  some (Lib.compact a_x)
theorem g_slices_Compact_int_int_ok (a_x : List Int) (v0_0 : Sv) (F0_0 : List Nat) (R : List Int) (hF : g_slices_Compact_int_int a_x = some R) :
    Fw.Spec Tryz.prog 131 [v0_0.v] [cown (OwnS 3 (roE rdInt)) F0_0 v0_0.v a_x] (fun p : Sv × List Nat => p.1.v) (fun p => [cown (OwnS 3 (roE rdInt)) p.2 p.1.v R]) := by
  cases hF
  exact Spec_compact ty3.h compact_le rfl (Go.Proofs.Any.slices_Compact_int_empty lays2020) (Go.Proofs.Any.slices_Compact_int lays2020)

/-! impl.termsOf -/
def i_termsOf_iIsVar_L2 : List Int → Nat → (List Int) → Option ((List Int))
  | [], k35, c29 => some c29
  | x37 :: rest36, k35, c29 => ((i_IsVar x37).bind fun r48 =>
      if r48 then (
        (app c29 ([x37] : List Int)).bind fun z52 =>
        some z52)
      else (
        some c29)).bind fun o44 =>
    match o44 with
    | c56 => i_termsOf_iIsVar_L2 rest36 (k35 + 1) c56
def i_termsOf_iIsVar_L1 : List Atom → Nat → (List Int) → Option ((List Int))
  | [], k8, c2 => (g_slices_Sort_int_int c2).bind fun r17 =>
    (g_slices_Compact_int_int r17).bind fun r20 =>
    some r20
  | x10 :: rest9, k8, c2 => (i_termsOf_iIsVar_L2 x10.Terms 0 c2).bind fun o23 =>
    match o23 with
    | c61 => i_termsOf_iIsVar_L1 rest9 (k8 + 1) c61
def i_termsOf_iIsVar (a_atoms : List Atom) : Option ((List Int)) :=
  i_termsOf_iIsVar_L1 a_atoms 0 ([] : List Int)
theorem i_termsOf_iIsVar_ok (a_atoms : List Atom) (v0_0 : Sv) (R : (List Int)) (hF : i_termsOf_iIsVar a_atoms = some R) :
    Fw.Spec Tryz.prog 84 [v0_0.v, (.func (.func 189) [].toArray [].toArray)] [crd (RdS 102 rd102) v0_0.v a_atoms] (fun p : Sv × List Nat => p.1.v) (fun p => [cown (OwnS 3 (roE rdInt)) p.2 p.1.v R]) := by
  refine Spec_enter (n := 37) Tryz.func84 rfl rfl (rs := [.tmp 4]) rfl rfl rfl ?_
  intro H0 F0
  unfold i_termsOf_iIsVar at hF
  iterate 4 refine au ?_
  refine C_new rfl (N_buildSliceT (g := true) sl22.h ty3.h .nil (vs := []) rfl rfl rfl (by simp)) (fun k1 => ?_)
  refine C_conv (.cons .h .nil) (own_lit (Ro := (roE rdInt)) (E := 3) (F := []) (xs := ([] : List Int)) MkL_nil rfl rfl) apps ?_
  iterate 8 refine au ?_
  refine CW_block (CW_loop (m := a_atoms.length) (fun m6 f' cs' => ∃ (g : Fr) (k8 : Nat) (rest9 : List Atom) (c2 : List Int) (v3 : Sv) (F4 : List Nat), m6 = rest9.length ∧ f' = updL g [(1, (.func (.func 189) [].toArray [].toArray)), (5, v3.v), (11, v0_0.v), (12, (.int .i64 (a_atoms.length : Int))), (13, (.int .i64 (k8 : Int)))] ∧ List.drop k8 a_atoms = rest9 ∧ Ent cs' [cown (OwnS 3 (roE rdInt)) F4 v3.v c2, crd (RdS 102 rd102) v0_0.v a_atoms] ∧ i_termsOf_iIsVar_L1 rest9 k8 c2 = some R) ⟨_, 0, _, _, ⟨(some ⟨k1, 0, none⟩), 0, 1⟩, (k1 :: []), rfl, (EqL.cons rfl (EqL.cons rfl (EqL.cons rfl (EqL.cons rfl (EqL.cons rfl (EqL.nil)))))).eq, rfl, (.sel (.cons .h (.rd .h rfl .nil))), hF⟩ ?_)
  clear hF
  rintro m6 _ _ ⟨g7, k8, rest9, c2, v3, F4, rfl, rfl, hd11, hE, hF⟩
  refine K_ent hE ?_
  clear hE
  refine K_pure (c := crd (RdS 102 rd102) v0_0.v a_atoms) (.t .h) crd_bound (fun hbd16 => ?_)
  rcases rest9 with _ | ⟨x10, rest9⟩
  · have hk12 := List.drop_eq_nil_iff.1 hd11
    have hfe15 : (decide (((k8 : Int) : Int) < (a_atoms.length : Int))) = false := decide_eq_false (by omega)
    rw [i_termsOf_iIsVar_L1] at hF
    iterate 4 refine au ?_
    refine CW_cond (b := (decide (((k8 : Int) : Int) < (a_atoms.length : Int)))) (.tmp rfl rfl) (fun hb => absurd (hfe15.symm.trans hb) (by decide)) (fun _ => ?_)
    iterate 6 refine au ?_
    obtain ⟨r17, hx18, hF⟩ := bind_some hF
    refine C_x1 (.cons .h .nil) (X_callS cf130.h (.cons (.tmp rfl rfl) .nil) (g_slices_Sort_int_int_ok c2 v3 F4 _ hx18)) (fun p19 => ?_)
    iterate 3 refine au ?_
    obtain ⟨r20, hx21, hF⟩ := bind_some hF
    refine C_x1 (.cons .h .nil) (X_callS cf131.h (.cons (.tmp rfl rfl) .nil) (g_slices_Compact_int_int_ok r17 v3 p19 _ hx21)) (fun p22 => ?_)
    iterate 3 refine au ?_
    obtain rfl := Option.some.inj hF
    exact End_ret (p22.1, p22.2) (.tmp rfl rfl .nil) rfl (.sel (.cons .h .nil))
  obtain ⟨hk12, hx13, hd14⟩ := drop_cons hd11
  have hfe15 : (decide (((k8 : Int) : Int) < (a_atoms.length : Int))) = true := decide_eq_true (by omega)
  rw [i_termsOf_iIsVar_L1] at hF
  iterate 4 refine au ?_
  refine CW_cond (b := (decide (((k8 : Int) : Int) < (a_atoms.length : Int)))) (.tmp rfl rfl) (fun _ => ?_) (fun hb => absurd (hfe15.symm.trans hb) (by decide))
  refine au ?_
  obtain ⟨o23, hio23, hO24⟩ := bind_some hF
  refine K_cut (fun f' cs' => ∃ (c61 : List Int) (v62 : Sv) (F63 : List Nat) (g : Fr), c61 = o23 ∧ f' = updL g [(1, (.func (.func 189) [].toArray [].toArray)), (5, v62.v), (11, v0_0.v), (12, (.int .i64 (a_atoms.length : Int))), (13, (.int .i64 (k8 : Int)))] ∧ Ent cs' [cown (OwnS 3 (roE rdInt)) F63 v62.v c61, crd (RdS 102 rd102) v0_0.v a_atoms]) ?_ ?_
  · replace hF := hio23
    refine CW_block (K_region (C_idx (a := x10) sl36.h ty102.h.sz (.tmp rfl rfl) (.tmp rfl rfl) (.t .h) (Int.natCast_nonneg k8) hx13 (fun k25 j26 => ?_)))
    refine C_ldA1 (ul102_0_102 x10) ag102.h ty102.h.sz rfl (.tmp rfl rfl) .h la102_0_102 (fun p27 => ?_)
    refine C_new rfl (N_allocT (g := true) ty102.h rfl rfl) (fun k28 => ?_)
    refine C_x1 (.cons .h .nil) (X_storeB (e' := (.agg [(.int .i64 x10.Rel), p27.v].toArray)) (v := (.agg [(.int .i64 x10.Rel), p27.v].toArray)) ty102.h.sz (.tmp rfl rfl) (.tmp rfl rfl) rfl rfl rfl rfl rfl) (fun _ => ?_)
    iterate 7 refine au ?_
    refine CW_block (CW_loop (m := x10.Terms.length) (fun m33 f' cs' => ∃ (g : Fr) (k35 : Nat) (rest36 : List Int) (c29 : List Int) (v30 : Sv) (F31 : List Nat), m33 = rest36.length ∧ f' = updL g [(1, (.func (.func 189) [].toArray [].toArray)), (5, v30.v), (11, v0_0.v), (12, (.int .i64 (a_atoms.length : Int))), (13, (.int .i64 (k8 : Int))), (18, p27.v), (19, (.int .i64 (x10.Terms.length : Int))), (20, (.int .i64 (k35 : Int)))] ∧ List.drop k35 x10.Terms = rest36 ∧ Ent cs' [cown (OwnS 3 (roE rdInt)) F31 v30.v c29, crd (RdS 102 rd102) v0_0.v a_atoms, crd (RdS 3 rdInt) p27.v x10.Terms] ∧ i_termsOf_iIsVar_L2 rest36 k35 c29 = some o23) ⟨_, 0, _, _, v3, F4, rfl, (EqL.cons rfl (EqL.cons rfl (EqL.cons rfl (EqL.cons rfl (EqL.cons rfl (EqL.cons rfl (EqL.cons rfl (EqL.cons rfl (EqL.nil))))))))).eq, rfl, (.sel (.cons (.t (.t (.t .h))) (.rd (.t (.t (.t .h))) rfl (.rd (.t .h) rfl .nil)))), hF⟩ ?_)
    clear hF
    rintro m33 _ _ ⟨g34, k35, rest36, c29, v30, F31, rfl, rfl, hd38, hE, hF⟩
    refine K_ent hE ?_
    clear hE
    refine K_pure (c := crd (RdS 3 rdInt) p27.v x10.Terms) (.t (.t .h)) crd_bound (fun hbd43 => ?_)
    rcases rest36 with _ | ⟨x37, rest36⟩
    · have hk39 := List.drop_eq_nil_iff.1 hd38
      have hfe42 : (decide (((k35 : Int) : Int) < (x10.Terms.length : Int))) = false := decide_eq_false (by omega)
      rw [i_termsOf_iIsVar_L2] at hF
      iterate 4 refine au ?_
      refine CW_cond (b := (decide (((k35 : Int) : Int) < (x10.Terms.length : Int)))) (.tmp rfl rfl) (fun hb => absurd (hfe42.symm.trans hb) (by decide)) (fun _ => ?_)
      iterate 4 refine au ?_
      obtain rfl := Option.some.inj hF
      exact ⟨_, v30, F31, _, rfl, (EqL.cons rfl (EqL.cons rfl (EqL.cons rfl (EqL.cons rfl (EqL.cons rfl (EqL.nil)))))).eq, (.sel (.cons .h (.rd .h rfl .nil)))⟩
    obtain ⟨hk39, hx40, hd41⟩ := drop_cons hd38
    have hfe42 : (decide (((k35 : Int) : Int) < (x10.Terms.length : Int))) = true := decide_eq_true (by omega)
    rw [i_termsOf_iIsVar_L2] at hF
    iterate 4 refine au ?_
    refine CW_cond (b := (decide (((k35 : Int) : Int) < (x10.Terms.length : Int)))) (.tmp rfl rfl) (fun _ => ?_) (fun hb => absurd (hfe42.symm.trans hb) (by decide))
    refine au ?_
    obtain ⟨o44, hio44, hO45⟩ := bind_some hF
    refine K_cut (fun f' cs' => ∃ (c56 : List Int) (v57 : Sv) (F58 : List Nat) (g : Fr), c56 = o44 ∧ f' = updL g [(1, (.func (.func 189) [].toArray [].toArray)), (5, v57.v), (11, v0_0.v), (12, (.int .i64 (a_atoms.length : Int))), (13, (.int .i64 (k8 : Int))), (18, p27.v), (19, (.int .i64 (x10.Terms.length : Int))), (20, (.int .i64 (k35 : Int)))] ∧ Ent cs' [cown (OwnS 3 (roE rdInt)) F58 v57.v c56, crd (RdS 102 rd102) v0_0.v a_atoms, crd (RdS 3 rdInt) p27.v x10.Terms]) ?_ ?_
    · replace hF := hio44
      refine CW_block (K_region (C_idx (a := x37) sl22.h ty3.h.sz (.tmp rfl rfl) (.tmp rfl rfl) (.t (.t .h)) (Int.natCast_nonneg k35) hx40 (fun k46 j47 => ?_)))
      refine C_ldS (w := (.int .i64 x37)) ag3.h (.tmp rfl rfl) .h ls3_0 ?_
      iterate 5 refine au ?_
      obtain ⟨r48, hx49, hF⟩ := bind_some hF
      refine C_x0 .nil (X_callCS cf189.h (.tmp rfl rfl) (.cons (.tmp rfl rfl) .nil) (i_IsVar_ok x37 _ hx49)) (fun _ => ?_)
      refine au ?_
      refine CW_cond (b := r48) (.tmp rfl rfl) (fun hb55 => ?_) (fun hb55 => ?_)
      · rw [if_pos hb55] at hF
        iterate 3 refine au ?_
        refine C_new rfl (N_buildSliceT (g := true) sl22.h ty3.h (.cons (.tmp rfl rfl) .nil) (vs := [(.int .i64 x37)]) rfl rfl rfl (by intro v hv; simp at hv; rcases hv with rfl <;> rfl)) (fun k51 => ?_)
        refine C_conv (.cons .h .nil) (own_lit (Ro := (roE rdInt)) (E := 3) (F := ([] ++ [])) (xs := ([x37] : List Int)) (MkL_cons (Mk_pure (fun _ => rfl)) MkL_nil apps) rfl rfl) apps ?_
        obtain ⟨z52, hx53, hF⟩ := bind_some hF
        refine C_x1 (.cons (.t (.t .h)) (.cons .h .nil)) (X_appendO (Ro := (roE rdInt)) sl22.h ni22 ty3.h rfl rfl rfl (.tmp rfl rfl) (.tmp rfl rfl) hx53 src_own) (fun p54 => ?_)
        iterate 2 refine au ?_
        obtain rfl := Option.some.inj hF
        exact ⟨_, p54.1, p54.2, _, rfl, (EqL.cons rfl (EqL.cons rfl (EqL.cons rfl (EqL.cons rfl (EqL.cons rfl (EqL.cons rfl (EqL.cons rfl (EqL.cons rfl (EqL.nil))))))))).eq, (.sel (.cons .h (.rd (.t .h) rfl (.rd (.t (.t .h)) rfl .nil))))⟩
      rw [if_neg (by rw [hb55]; exact Bool.false_ne_true)] at hF
      refine au ?_
      obtain rfl := Option.some.inj hF
      exact ⟨_, v30, F31, _, rfl, (EqL.cons rfl (EqL.cons rfl (EqL.cons rfl (EqL.cons rfl (EqL.cons rfl (EqL.cons rfl (EqL.cons rfl (EqL.cons rfl (EqL.nil))))))))).eq, (.sel (.cons (.t .h) (.rd (.t .h) rfl (.rd (.t (.t .h)) rfl .nil))))⟩
    rintro _ _ ⟨c56, v57, F58, g60, rfl, rfl, hE⟩
    replace hF := hO45
    clear hO45
    try dsimp only at hF
    refine K_ent hE ?_
    iterate 4 refine au ?_
    have hw59 : IntKind.i64.wrap ((k35 : Int) + 1) = ((k35 + 1 : Nat) : Int) := by rw [wrap_in (by omega) (by omega)]; rfl
    rw [hw59]
    exact ⟨_, Nat.lt_succ_self _, _, k35 + 1, rest36, _, v57, F58, rfl, (EqL.cons rfl (EqL.cons rfl (EqL.cons rfl (EqL.cons rfl (EqL.cons rfl (EqL.cons rfl (EqL.cons rfl (EqL.cons rfl (EqL.nil))))))))).eq, hd41, (.sel (.cons .h (.rd .h rfl (.rd (.t .h) rfl .nil)))), hF⟩
  rintro _ _ ⟨c61, v62, F63, g65, rfl, rfl, hE⟩
  replace hF := hO24
  clear hO24
  try dsimp only at hF
  refine K_ent hE ?_
  iterate 4 refine au ?_
  have hw64 : IntKind.i64.wrap ((k8 : Int) + 1) = ((k8 + 1 : Nat) : Int) := by rw [wrap_in (by omega) (by omega)]; rfl
  rw [hw64]
  exact ⟨_, Nat.lt_succ_self _, _, k8 + 1, rest9, _, v62, F63, rfl, (EqL.cons rfl (EqL.cons rfl (EqL.cons rfl (EqL.cons rfl (EqL.cons rfl (EqL.nil)))))).eq, hd14, (.sel (.cons .h (.rd .h rfl .nil))), hF⟩

/-! impl.VarsOf -/
def i_VarsOf (a_q : Query) : Option ((List Int)) :=
  (i_termsOf_iIsVar a_q.Atoms).bind fun r2 =>
  some r2
theorem i_VarsOf_ok (a_q : Query) (v0_0 : Sv) (v0_1 : Sv) (R : (List Int)) (hF : i_VarsOf a_q = some R) :
    Fw.Spec Tryz.prog 152 [(.agg [v0_0.v, v0_1.v].toArray)] [crd (RdS 3 rdInt) v0_0.v a_q.Head, crd (RdS 102 rd102) v0_1.v a_q.Atoms] (fun p : Sv × List Nat => p.1.v) (fun p => [cown (OwnS 3 (roE rdInt)) p.2 p.1.v R]) := by
  refine Spec_enter (n := 6) Tryz.func152 rfl rfl (rs := [.tmp 2]) rfl rfl rfl ?_
  intro H0 F0
  unfold i_VarsOf at hF
  refine au ?_
  refine AbR (fun k1 => ?_)
  iterate 5 refine au ?_
  obtain ⟨r2, hx3, hF⟩ := bind_some hF
  refine Cx1 (i_termsOf_iIsVar_ok _ _ _ hx3) (fun p4 => ?_)
  iterate 3 refine au ?_
  cases hF
  exact Er (p4.1, p4.2)

/-! slices.Index[[]int,int] -/
def g_slices_Index_int_int_L1 (a_v : Int) : List Int → Nat → Option (Int)
  | [], k4 => some (-1)
  | x6 :: rest5, k4 => if ((a_v : Int) == x6) then (
      some (k4 : Int))
    else (
      g_slices_Index_int_int_L1 a_v rest5 (k4 + 1))
def g_slices_Index_int_int (a_s : List Int) (a_v : Int) : Option (Int) :=
  g_slices_Index_int_int_L1 a_v a_s 0
theorem g_slices_Index_int_int_ok (a_s : List Int) (v0_0 : Sv) (a_v : Int) (R : Int) (hF : g_slices_Index_int_int a_s a_v = some R) :
    Fw.Spec Tryz.prog 190 [v0_0.v, (.int .i64 a_v)] [crd (RdS 3 rdInt) v0_0.v a_s] (fun _ : Unit => (.int .i64 R)) (fun _ => []) := by
  refine Spec_enter (n := 19) Tryz.func190 rfl rfl (rs := [.tmp 4]) rfl rfl rfl ?_
  intro H0 F0
  unfold g_slices_Index_int_int at hF
  iterate 9 refine au ?_
  refine CW_block (CW_loop (m := a_s.length) (fun m2 f' cs' => ∃ (g : Fr) (k4 : Nat) (rest5 : List Int), m2 = rest5.length ∧ f' = updL g [(0, v0_0.v), (1, (.int .i64 a_v)), (7, (.int .i64 (a_s.length : Int))), (8, (.int .i64 (k4 : Int)))] ∧ List.drop k4 a_s = rest5 ∧ Ent cs' [crd (RdS 3 rdInt) v0_0.v a_s] ∧ g_slices_Index_int_int_L1 a_v rest5 k4 = some R) ⟨_, 0, _, rfl, eqA, rfl, entA, hF⟩ ?_)
  clear hF
  rintro m2 _ _ ⟨g3, k4, rest5, rfl, rfl, hd7, hE, hF⟩
  refine K_ent hE ?_
  clear hE
  refine K_pure (c := crd (RdS 3 rdInt) v0_0.v a_s) .h crd_bound (fun hbd12 => ?_)
  rcases rest5 with _ | ⟨x6, rest5⟩
  · have hk8 := List.drop_eq_nil_iff.1 hd7
    rw [g_slices_Index_int_int_L1] at hF
    iterate 4 refine au ?_
    refine CdF ?_
    iterate 8 refine au ?_
    cases hF
    exact Er ()
  obtain ⟨hk8, hx9, hd10⟩ := drop_cons hd7
  rw [g_slices_Index_int_int_L1] at hF
  iterate 4 refine au ?_
  refine CdT ?_
  iterate 10 refine au ?_
  refine Ai hx9 (fun k13 j14 => ?_)
  refine Al ls3_0 ?_
  iterate 2 refine au ?_
  refine Cc (fun hb16 => ?_) (fun hb16 => ?_)
  · rw [if_pos hb16] at hF
    iterate 5 refine au ?_
    cases hF
    exact Er ()
  rw [if_neg (nt hb16)] at hF
  iterate 5 refine au ?_
  rw [wk k4]
  exact ⟨_, Nat.lt_succ_self _, _, k4 + 1, rest5, rfl, eqA, hd10, entA, hF⟩

/-! slices.Contains[[]int,int] -/
def g_slices_Contains_int_int (a_s : List Int) (a_v : Int) : Option (Bool) :=
  (g_slices_Index_int_int a_s a_v).bind fun r1 =>
  some (decide ((0 : Int) ≤ r1))
theorem g_slices_Contains_int_int_ok (a_s : List Int) (v0_0 : Sv) (a_v : Int) (R : Bool) (hF : g_slices_Contains_int_int a_s a_v = some R) :
    Fw.Spec Tryz.prog 154 [v0_0.v, (.int .i64 a_v)] [crd (RdS 3 rdInt) v0_0.v a_s] (fun _ : Unit => (.bool R)) (fun _ => []) := by
  refine Spec_enter (n := 9) Tryz.func154 rfl rfl (rs := [.tmp 4]) rfl rfl rfl ?_
  intro H0 F0
  unfold g_slices_Contains_int_int at hF
  iterate 6 refine au ?_
  obtain ⟨r1, hx2, hF⟩ := bind_some hF
  refine Cx0 (g_slices_Index_int_int_ok _ _ _ _ hx2) (fun _ => ?_)
  iterate 4 refine au ?_
  cases hF
  exact Er ()

/-! impl.hasHead$1 -/
def i_hasHead_1 (a_t : Int) (a_e1 : List Int) : Option (Bool) :=
  (g_slices_Contains_int_int a_e1 a_t).bind fun r1 =>
  some (!r1)
theorem i_hasHead_1_ok (a_t : Int) (kc1 : Nat) (a_e1 : List Int) (vc1_0 : Sv) (R : Bool) (hF : i_hasHead_1 a_t a_e1 = some R) :
    Fw.Spec Tryz.prog 153 [(.int .i64 a_t), (.pointer (some ⟨kc1, 0, some 0⟩))] [cboR kc1 22 vc1_0.v, crd (RdS 3 rdInt) vc1_0.v a_e1] (fun _ : Unit => (.bool R)) (fun _ => []) := by
  refine Spec_enter (n := 8) Tryz.func153 rfl rfl (rs := [.tmp 3]) rfl rfl rfl ?_
  intro H0 F0
  unfold i_hasHead_1 at hF
  iterate 6 refine au ?_
  obtain ⟨r1, hx2, hF⟩ := bind_some hF
  refine Cx0 (g_slices_Contains_int_int_ok _ _ _ _ hx2) (fun _ => ?_)
  iterate 4 refine au ?_
  cases hF
  exact Er ()

/-! slices.IndexFunc[[]int,int] -/
def g_slices_IndexFunc_int_int_ihasHead1_L1 (a_e1 : List Int) : List Int → Nat → Option (Int)
  | [], k4 => some (-1)
  | x6 :: rest5, k4 => (i_hasHead_1 x6 a_e1).bind fun r15 =>
    if r15 then (
      some (k4 : Int))
    else (
      g_slices_IndexFunc_int_int_ihasHead1_L1 a_e1 rest5 (k4 + 1))
def g_slices_IndexFunc_int_int_ihasHead1 (a_s : List Int) (a_e1 : List Int) : Option (Int) :=
  g_slices_IndexFunc_int_int_ihasHead1_L1 a_e1 a_s 0
theorem g_slices_IndexFunc_int_int_ihasHead1_ok (a_s : List Int) (v0_0 : Sv) (kc1 : Nat) (a_e1 : List Int) (vc1_0 : Sv) (R : Int) (hF : g_slices_IndexFunc_int_int_ihasHead1 a_s a_e1 = some R) :
    Fw.Spec Tryz.prog 157 [v0_0.v, (.func (.func 153) [].toArray [(.pointer (some ⟨kc1, 0, some 0⟩))].toArray)] [crd (RdS 3 rdInt) v0_0.v a_s, cboR kc1 22 vc1_0.v, crd (RdS 3 rdInt) vc1_0.v a_e1] (fun _ : Unit => (.int .i64 R)) (fun _ => []) := by
  refine Spec_enter (n := 19) Tryz.func157 rfl rfl (rs := [.tmp 4]) rfl rfl rfl ?_
  intro H0 F0
  unfold g_slices_IndexFunc_int_int_ihasHead1 at hF
  iterate 9 refine au ?_
  refine CW_block (CW_loop (m := a_s.length) (fun m2 f' cs' => ∃ (g : Fr) (k4 : Nat) (rest5 : List Int), m2 = rest5.length ∧ f' = updL g [(0, v0_0.v), (1, (.func (.func 153) [].toArray [(.pointer (some ⟨kc1, 0, some 0⟩))].toArray)), (7, (.int .i64 (a_s.length : Int))), (8, (.int .i64 (k4 : Int)))] ∧ List.drop k4 a_s = rest5 ∧ Ent cs' [crd (RdS 3 rdInt) v0_0.v a_s, cboR kc1 22 vc1_0.v, crd (RdS 3 rdInt) vc1_0.v a_e1] ∧ g_slices_IndexFunc_int_int_ihasHead1_L1 a_e1 rest5 k4 = some R) ⟨_, 0, _, rfl, eqA, rfl, entA, hF⟩ ?_)
  clear hF
  rintro m2 _ _ ⟨g3, k4, rest5, rfl, rfl, hd7, hE, hF⟩
  refine K_ent hE ?_
  clear hE
  refine K_pure (c := crd (RdS 3 rdInt) v0_0.v a_s) .h crd_bound (fun hbd12 => ?_)
  rcases rest5 with _ | ⟨x6, rest5⟩
  · have hk8 := List.drop_eq_nil_iff.1 hd7
    rw [g_slices_IndexFunc_int_int_ihasHead1_L1] at hF
    iterate 4 refine au ?_
    refine CdF ?_
    iterate 8 refine au ?_
    cases hF
    exact Er ()
  obtain ⟨hk8, hx9, hd10⟩ := drop_cons hd7
  rw [g_slices_IndexFunc_int_int_ihasHead1_L1] at hF
  iterate 4 refine au ?_
  refine CdT ?_
  iterate 10 refine au ?_
  refine Ai hx9 (fun k13 j14 => ?_)
  refine Al ls3_0 ?_
  obtain ⟨r15, hx16, hF⟩ := bind_some hF
  refine C_x0 (.rd (.t (.t .h)) rfl (.rd (.t (.t (.t .h))) rfl .nil)) (X_callCS cf153.h (.tmp rfl rfl) (.cons (.tmp rfl rfl) .nil) (i_hasHead_1_ok x6 kc1 a_e1 vc1_0 _ hx16)) (fun _ => ?_)
  refine au ?_
  refine Cc (fun hb19 => ?_) (fun hb19 => ?_)
  · rw [if_pos hb19] at hF
    iterate 5 refine au ?_
    cases hF
    exact Er ()
  rw [if_neg (nt hb19)] at hF
  iterate 5 refine au ?_
  rw [wk k4]
  exact ⟨_, Nat.lt_succ_self _, _, k4 + 1, rest5, rfl, eqA, hd10, entA, hF⟩

/-! slices.ContainsFunc[[]int,int] -/
def g_slices_ContainsFunc_int_int_ihasHead1 (a_s : List Int) (a_e1 : List Int) : Option (Bool) :=
  (g_slices_IndexFunc_int_int_ihasHead1 a_s a_e1).bind fun r1 =>
  some (decide ((0 : Int) ≤ r1))
theorem g_slices_ContainsFunc_int_int_ihasHead1_ok (a_s : List Int) (v0_0 : Sv) (kc1 : Nat) (a_e1 : List Int) (vc1_0 : Sv) (R : Bool) (hF : g_slices_ContainsFunc_int_int_ihasHead1 a_s a_e1 = some R) :
    Fw.Spec Tryz.prog 120 [v0_0.v, (.func (.func 153) [].toArray [(.pointer (some ⟨kc1, 0, some 0⟩))].toArray)] [crd (RdS 3 rdInt) v0_0.v a_s, cboR kc1 22 vc1_0.v, crd (RdS 3 rdInt) vc1_0.v a_e1] (fun _ : Unit => (.bool R)) (fun _ => []) := by
  refine Spec_enter (n := 9) Tryz.func120 rfl rfl (rs := [.tmp 4]) rfl rfl rfl ?_
  intro H0 F0
  unfold g_slices_ContainsFunc_int_int_ihasHead1 at hF
  iterate 6 refine au ?_
  obtain ⟨r1, hx2, hF⟩ := bind_some hF
  refine Cx0 (g_slices_IndexFunc_int_int_ihasHead1_ok _ _ _ _ _ _ hx2) (fun _ => ?_)
  iterate 4 refine au ?_
  cases hF
  exact Er ()

/-! impl.hasHead -/
def i_hasHead (a_q : Query) : Option (Bool) :=
  (i_VarsOf a_q).bind fun r2 =>
  (bif (decide (((a_q.Head.length : Int) : Int) ≤ 3)) then ((g_slices_ContainsFunc_int_int_ihasHead1 a_q.Head r2).bind fun r11 =>
      some (!r11))
    else (some false)).bind fun o8 =>
  match o8 with
  | c14 => some c14
theorem i_hasHead_ok (a_q : Query) (v0_0 : Sv) (v0_1 : Sv) (R : Bool) (hF : i_hasHead a_q = some R) :
    Fw.Spec Tryz.prog 114 [(.agg [v0_0.v, v0_1.v].toArray)] [crd (RdS 3 rdInt) v0_0.v a_q.Head, crd (RdS 102 rd102) v0_1.v a_q.Atoms] (fun _ : Unit => (.bool R)) (fun _ => []) := by
  refine Spec_enter (n := 17) Tryz.func114 rfl rfl (rs := [.tmp 2]) rfl rfl rfl ?_
  intro H0 F0
  unfold i_hasHead at hF
  refine au ?_
  refine AbR (fun k1 => ?_)
  iterate 4 refine au ?_
  obtain ⟨r2, hx3, hF⟩ := bind_some hF
  refine Cx1 (i_VarsOf_ok _ _ _ _ hx3) (fun p4 => ?_)
  refine AnW (fun k5 => ?_)
  refine As p4.1.v ?_
  refine au ?_
  refine K_frz .h frz_blk ?_
  refine K_frz (.t .h) frz_own ?_
  obtain ⟨o8, hio8, hO9⟩ := bind_some hF
  refine au ?_
  refine C_cut (fun f' cs' => ∃ (c14 : Bool) (g : Fr), c14 = o8 ∧ f' = updL g [(2, (.bool c14))] ∧ Ent cs' []) ?_ ?_
  · replace hF := hio8
    iterate 5 refine au ?_
    rcases Bool.eq_false_or_eq_true (decide (((a_q.Head.length : Int) : Int) ≤ 3)) with hg10 | hg10
    · rw [hg10]
      try rw [hg10] at hF; dsimp only [cond_true, cond_false] at hF
      iterate 5 refine au ?_
      refine C_val (V_makeFunc (fn := .func 153) (vs := []) (us := [(.pointer (some ⟨k5, 0, some 0⟩))]) .nil (.cons (.tmp rfl rfl) .nil)) ?_
      refine au ?_
      obtain ⟨r11, hx12, hF⟩ := bind_some hF
      refine Cx0 (g_slices_ContainsFunc_int_int_ihasHead1_ok _ _ _ _ _ _ hx12) (fun _ => ?_)
      iterate 5 refine au ?_
      cases hF
      exact ⟨_, _, rfl, eqA, entA⟩
    rw [hg10]
    try rw [hg10] at hF; dsimp only [cond_true, cond_false] at hF
    iterate 8 refine au ?_
    cases hF
    exact ⟨_, _, rfl, eqA, entA⟩
  rintro _ _ ⟨c14, g15, rfl, rfl, hE⟩
  replace hF := hO9
  clear hO9
  try dsimp only at hF
  refine K_ent hE ?_
  refine au ?_
  cases hF
  exact Er ()

/-! impl.IsQuery -/
def i_IsQuery (a_s : List Int) (a_q : Query) : Option (Bool) :=
  ((i_IsSchema a_s).bind fun r5 =>
    bif r5 then ((i_within (a_q.Atoms.length : Int) 1 4).bind fun r9 =>
      bif r9 then ((g_slices_ContainsFunc_impl_Atom_impl_Atom_iIsQuery1 a_q.Atoms a_s).bind fun r13 =>
        bif (!r13) then ((i_hasHead a_q).bind fun r17 =>
          some r17)
        else (some false))
      else (some false))
    else (some false)).bind fun o3 =>
  match o3 with
  | c20 => some c20
theorem i_IsQuery_ok (a_s : List Int) (v0_0 : Sv) (a_q : Query) (v1_0 : Sv) (v1_1 : Sv) (R : Bool) (hF : i_IsQuery a_s a_q = some R) :
    Fw.Spec Tryz.prog 76 [v0_0.v, (.agg [v1_0.v, v1_1.v].toArray)] [crd (RdS 3 rdInt) v0_0.v a_s, crd (RdS 3 rdInt) v1_0.v a_q.Head, crd (RdS 102 rd102) v1_1.v a_q.Atoms] (fun _ : Unit => (.bool R)) (fun _ => []) := by
  refine Spec_enter (n := 24) Tryz.func76 rfl rfl (rs := [.tmp 4]) rfl rfl rfl ?_
  intro H0 F0
  unfold i_IsQuery at hF
  refine au ?_
  refine AbR (fun k1 => ?_)
  refine AbR (fun k2 => ?_)
  iterate 2 refine au ?_
  obtain ⟨o3, hio3, hO4⟩ := bind_some hF
  refine au ?_
  refine C_cut (fun f' cs' => ∃ (c20 : Bool) (g : Fr), c20 = o3 ∧ f' = updL g [(4, (.bool c20))] ∧ Ent cs' []) ?_ ?_
  · replace hF := hio3
    refine au ?_
    obtain ⟨r5, hx6, hF⟩ := bind_some hF
    refine Cx0 (i_IsSchema_ok _ _ _ hx6) (fun _ => ?_)
    refine au ?_
    rcases Bool.eq_false_or_eq_true r5 with hg8 | hg8
    · rw [hg8]
      try rw [hg8] at hF; dsimp only [cond_true, cond_false] at hF
      iterate 7 refine au ?_
      obtain ⟨r9, hx10, hF⟩ := bind_some hF
      refine Cx0 (i_within_ok _ _ _ _ hx10) (fun _ => ?_)
      iterate 2 refine au ?_
      rcases Bool.eq_false_or_eq_true r9 with hg12 | hg12
      · rw [hg12]
        try rw [hg12] at hF; dsimp only [cond_true, cond_false] at hF
        iterate 5 refine au ?_
        refine C_val (V_makeFunc (fn := .func 112) (vs := []) (us := [(.pointer (some ⟨k1, 0, some 0⟩))]) .nil (.cons (.tmp rfl rfl) .nil)) ?_
        refine au ?_
        obtain ⟨r13, hx14, hF⟩ := bind_some hF
        refine Cx0 (g_slices_ContainsFunc_impl_Atom_impl_Atom_iIsQuery1_ok _ _ _ _ _ _ hx14) (fun _ => ?_)
        iterate 4 refine au ?_
        rcases Bool.eq_false_or_eq_true (!r13) with hg16 | hg16
        · rw [hg16]
          try rw [hg16] at hF; dsimp only [cond_true, cond_false] at hF
          iterate 3 refine au ?_
          obtain ⟨r17, hx18, hF⟩ := bind_some hF
          refine Cx0 (i_hasHead_ok _ _ _ _ hx18) (fun _ => ?_)
          iterate 3 refine au ?_
          cases hF
          exact ⟨_, _, rfl, eqA, entA⟩
        rw [hg16]
        try rw [hg16] at hF; dsimp only [cond_true, cond_false] at hF
        iterate 5 refine au ?_
        cases hF
        exact ⟨_, _, rfl, eqA, entA⟩
      rw [hg12]
      try rw [hg12] at hF; dsimp only [cond_true, cond_false] at hF
      iterate 12 refine au ?_
      cases hF
      exact ⟨_, _, rfl, eqA, entA⟩
    rw [hg8]
    try rw [hg8] at hF; dsimp only [cond_true, cond_false] at hF
    iterate 18 refine au ?_
    cases hF
    exact ⟨_, _, rfl, eqA, entA⟩
  rintro _ _ ⟨c20, g21, rfl, rfl, hE⟩
  replace hF := hO4
  clear hO4
  try dsimp only at hF
  refine K_ent hE ?_
  refine au ?_
  cases hF
  exact Er ()

/-! impl.areAsked -/
def i_areAsked (a_s : List Int) (a_l : List Method) (a_q : Query) : Option (Bool) :=
  ((i_AreMethods a_s a_l).bind fun r4 =>
    bif r4 then ((i_IsQuery a_s a_q).bind fun r8 =>
      some r8)
    else (some false)).bind fun o2 =>
  match o2 with
  | c11 => some c11
theorem i_areAsked_ok (a_s : List Int) (v0_0 : Sv) (a_l : List Method) (v1_0 : Sv) (a_q : Query) (v2_0 : Sv) (v2_1 : Sv) (R : Bool) (hF : i_areAsked a_s a_l a_q = some R) :
    Fw.Spec Tryz.prog 45 [v0_0.v, v1_0.v, (.agg [v2_0.v, v2_1.v].toArray)] [crd (RdS 3 rdInt) v0_0.v a_s, crd (RdS 77 rd77) v1_0.v a_l, crd (RdS 3 rdInt) v2_0.v a_q.Head, crd (RdS 102 rd102) v2_1.v a_q.Atoms] (fun _ : Unit => (.bool R)) (fun _ => []) := by
  refine Spec_enter (n := 15) Tryz.func45 rfl rfl (rs := [.tmp 6]) rfl rfl rfl ?_
  intro H0 F0
  unfold i_areAsked at hF
  refine au ?_
  refine AbR (fun k1 => ?_)
  iterate 2 refine au ?_
  obtain ⟨o2, hio2, hO3⟩ := bind_some hF
  refine au ?_
  refine C_cut (fun f' cs' => ∃ (c11 : Bool) (g : Fr), c11 = o2 ∧ f' = updL g [(6, (.bool c11))] ∧ Ent cs' []) ?_ ?_
  · replace hF := hio2
    iterate 2 refine au ?_
    obtain ⟨r4, hx5, hF⟩ := bind_some hF
    refine Cx0 (i_AreMethods_ok _ _ _ _ _ hx5) (fun _ => ?_)
    refine au ?_
    rcases Bool.eq_false_or_eq_true r4 with hg7 | hg7
    · rw [hg7]
      try rw [hg7] at hF; dsimp only [cond_true, cond_false] at hF
      iterate 5 refine au ?_
      obtain ⟨r8, hx9, hF⟩ := bind_some hF
      refine Cx0 (i_IsQuery_ok _ _ _ _ _ _ hx9) (fun _ => ?_)
      iterate 3 refine au ?_
      cases hF
      exact ⟨_, _, rfl, eqA, entA⟩
    rw [hg7]
    try rw [hg7] at hF; dsimp only [cond_true, cond_false] at hF
    iterate 6 refine au ?_
    cases hF
    exact ⟨_, _, rfl, eqA, entA⟩
  rintro _ _ ⟨c11, g12, rfl, rfl, hE⟩
  replace hF := hO3
  clear hO3
  try dsimp only at hF
  refine K_ent hE ?_
  refine au ?_
  cases hF
  exact Er ()

/-! impl.areValues$1 -/
def i_areValues_1 (a_n : Int) : Option (Bool) :=
  (i_isValue a_n).bind fun r1 =>
  some (!r1)
theorem i_areValues_1_ok (a_n : Int) (R : Bool) (hF : i_areValues_1 a_n = some R) :
    Fw.Spec Tryz.prog 155 [(.int .i64 a_n)] [] (fun _ : Unit => (.bool R)) (fun _ => []) := by
  refine Spec_enter (n := 6) Tryz.func155 rfl rfl (rs := [.tmp 2]) rfl rfl rfl ?_
  intro H0 F0
  unfold i_areValues_1 at hF
  iterate 5 refine au ?_
  obtain ⟨r1, hx2, hF⟩ := bind_some hF
  refine Cx0 (i_isValue_ok _ _ hx2) (fun _ => ?_)
  iterate 4 refine au ?_
  cases hF
  exact Er ()

/-! slices.IndexFunc[[]int,int] -/
def g_slices_IndexFunc_int_int_iareValues1_L1 : List Int → Nat → Option (Int)
  | [], k4 => some (-1)
  | x6 :: rest5, k4 => (i_areValues_1 x6).bind fun r15 =>
    if r15 then (
      some (k4 : Int))
    else (
      g_slices_IndexFunc_int_int_iareValues1_L1 rest5 (k4 + 1))
def g_slices_IndexFunc_int_int_iareValues1 (a_s : List Int) : Option (Int) :=
  g_slices_IndexFunc_int_int_iareValues1_L1 a_s 0
theorem g_slices_IndexFunc_int_int_iareValues1_ok (a_s : List Int) (v0_0 : Sv) (R : Int) (hF : g_slices_IndexFunc_int_int_iareValues1 a_s = some R) :
    Fw.Spec Tryz.prog 157 [v0_0.v, (.func (.func 155) [].toArray [].toArray)] [crd (RdS 3 rdInt) v0_0.v a_s] (fun _ : Unit => (.int .i64 R)) (fun _ => []) := by
  refine Spec_enter (n := 19) Tryz.func157 rfl rfl (rs := [.tmp 4]) rfl rfl rfl ?_
  intro H0 F0
  unfold g_slices_IndexFunc_int_int_iareValues1 at hF
  iterate 9 refine au ?_
  refine CW_block (CW_loop (m := a_s.length) (fun m2 f' cs' => ∃ (g : Fr) (k4 : Nat) (rest5 : List Int), m2 = rest5.length ∧ f' = updL g [(0, v0_0.v), (1, (.func (.func 155) [].toArray [].toArray)), (7, (.int .i64 (a_s.length : Int))), (8, (.int .i64 (k4 : Int)))] ∧ List.drop k4 a_s = rest5 ∧ Ent cs' [crd (RdS 3 rdInt) v0_0.v a_s] ∧ g_slices_IndexFunc_int_int_iareValues1_L1 rest5 k4 = some R) ⟨_, 0, _, rfl, eqA, rfl, entA, hF⟩ ?_)
  clear hF
  rintro m2 _ _ ⟨g3, k4, rest5, rfl, rfl, hd7, hE, hF⟩
  refine K_ent hE ?_
  clear hE
  refine K_pure (c := crd (RdS 3 rdInt) v0_0.v a_s) .h crd_bound (fun hbd12 => ?_)
  rcases rest5 with _ | ⟨x6, rest5⟩
  · have hk8 := List.drop_eq_nil_iff.1 hd7
    rw [g_slices_IndexFunc_int_int_iareValues1_L1] at hF
    iterate 4 refine au ?_
    refine CdF ?_
    iterate 8 refine au ?_
    cases hF
    exact Er ()
  obtain ⟨hk8, hx9, hd10⟩ := drop_cons hd7
  rw [g_slices_IndexFunc_int_int_iareValues1_L1] at hF
  iterate 4 refine au ?_
  refine CdT ?_
  iterate 10 refine au ?_
  refine Ai hx9 (fun k13 j14 => ?_)
  refine Al ls3_0 ?_
  obtain ⟨r15, hx16, hF⟩ := bind_some hF
  refine C_x0 .nil (X_callCS cf155.h (.tmp rfl rfl) (.cons (.tmp rfl rfl) .nil) (i_areValues_1_ok x6 _ hx16)) (fun _ => ?_)
  refine au ?_
  refine Cc (fun hb19 => ?_) (fun hb19 => ?_)
  · rw [if_pos hb19] at hF
    iterate 5 refine au ?_
    cases hF
    exact Er ()
  rw [if_neg (nt hb19)] at hF
  iterate 5 refine au ?_
  rw [wk k4]
  exact ⟨_, Nat.lt_succ_self _, _, k4 + 1, rest5, rfl, eqA, hd10, entA, hF⟩

/-! slices.ContainsFunc[[]int,int] -/
def g_slices_ContainsFunc_int_int_iareValues1 (a_s : List Int) : Option (Bool) :=
  (g_slices_IndexFunc_int_int_iareValues1 a_s).bind fun r1 =>
  some (decide ((0 : Int) ≤ r1))
theorem g_slices_ContainsFunc_int_int_iareValues1_ok (a_s : List Int) (v0_0 : Sv) (R : Bool) (hF : g_slices_ContainsFunc_int_int_iareValues1 a_s = some R) :
    Fw.Spec Tryz.prog 120 [v0_0.v, (.func (.func 155) [].toArray [].toArray)] [crd (RdS 3 rdInt) v0_0.v a_s] (fun _ : Unit => (.bool R)) (fun _ => []) := by
  refine Spec_enter (n := 9) Tryz.func120 rfl rfl (rs := [.tmp 4]) rfl rfl rfl ?_
  intro H0 F0
  unfold g_slices_ContainsFunc_int_int_iareValues1 at hF
  iterate 6 refine au ?_
  obtain ⟨r1, hx2, hF⟩ := bind_some hF
  refine Cx0 (g_slices_IndexFunc_int_int_iareValues1_ok _ _ _ hx2) (fun _ => ?_)
  iterate 4 refine au ?_
  cases hF
  exact Er ()

/-! impl.areValues -/
def i_areValues (a_l : List Int) : Option (Bool) :=
  (g_slices_ContainsFunc_int_int_iareValues1 a_l).bind fun r1 =>
  some (!r1)
theorem i_areValues_ok (a_l : List Int) (v0_0 : Sv) (R : Bool) (hF : i_areValues a_l = some R) :
    Fw.Spec Tryz.prog 116 [v0_0.v] [crd (RdS 3 rdInt) v0_0.v a_l] (fun _ : Unit => (.bool R)) (fun _ => []) := by
  refine Spec_enter (n := 6) Tryz.func116 rfl rfl (rs := [.tmp 2]) rfl rfl rfl ?_
  intro H0 F0
  unfold i_areValues at hF
  iterate 5 refine au ?_
  obtain ⟨r1, hx2, hF⟩ := bind_some hF
  refine Cx0 (g_slices_ContainsFunc_int_int_iareValues1_ok _ _ _ hx2) (fun _ => ?_)
  iterate 4 refine au ?_
  cases hF
  exact Er ()

/-! impl.IsFact -/
def i_IsFact (a_s : List Int) (a_f : Fact) : Option (Bool) :=
  ((i_hasRel a_s a_f.Rel).bind fun r4 =>
    bif r4 then ((ix a_s a_f.Rel).bind fun x8 =>
      bif (((a_f.Values.length : Int) : Int) == x8) then ((i_areValues a_f.Values).bind fun r15 =>
        some r15)
      else (some false))
    else (some false)).bind fun o2 =>
  match o2 with
  | c18 => some c18
theorem i_IsFact_ok (a_s : List Int) (v0_0 : Sv) (a_f : Fact) (v1_1 : Sv) (R : Bool) (hF : i_IsFact a_s a_f = some R) :
    Fw.Spec Tryz.prog 77 [v0_0.v, (.agg [(.int .i64 a_f.Rel), v1_1.v].toArray)] [crd (RdS 3 rdInt) v0_0.v a_s, crd (RdS 3 rdInt) v1_1.v a_f.Values] (fun _ : Unit => (.bool R)) (fun _ => []) := by
  refine Spec_enter (n := 25) Tryz.func77 rfl rfl (rs := [.tmp 4]) rfl rfl rfl ?_
  intro H0 F0
  unfold i_IsFact at hF
  refine au ?_
  refine AbR (fun k1 => ?_)
  iterate 2 refine au ?_
  obtain ⟨o2, hio2, hO3⟩ := bind_some hF
  refine K_draw [0, 1, 2, 3, 4, 5, 6, 7, 8, 9, 10, 11, 12, 13, 14, 15, 16, 17, 18, 19, 20] [0, 0, 2, 7, 15, 31, 63, 127, 31, 31, 543, 1823, 3871, 8191, 16383, 32767, 65535, 131071, 262143, 524287, 1048575] [3, 18] mixed (by decide +kernel) ?_
  refine D_cut (fun f' cs' => ∃ (c18 : Bool) (g : Fr), c18 = o2 ∧ f' = updL g [(4, (.bool c18))] ∧ Ent cs' []) ?_ ?_
  · replace hF := hio2
    iterate 3 refine du ?_
    obtain ⟨r4, hx5, hF⟩ := bind_some hF
    refine Dx0 (i_hasRel_ok _ _ _ _ hx5) (fun _ => ?_)
    refine du ?_
    rcases Bool.eq_false_or_eq_true r4 with hg7 | hg7
    · rw [hg7]
      try rw [hg7] at hF; dsimp only [cond_true, cond_false] at hF
      iterate 6 refine du ?_
      obtain ⟨x8, hx9, hF⟩ := bind_some hF
      obtain ⟨hp10, hx11⟩ := ix_some hx9
      refine Di hx11 (fun k12 j13 => ?_)
      refine Dl ls3_0 ?_
      iterate 3 refine du ?_
      rcases Bool.eq_false_or_eq_true (((a_f.Values.length : Int) : Int) == x8) with hg14 | hg14
      · rw [hg14]
        try rw [hg14] at hF; dsimp only [cond_true, cond_false] at hF
        iterate 2 refine du ?_
        obtain ⟨r15, hx16, hF⟩ := bind_some hF
        refine Dx0 (i_areValues_ok _ _ _ hx16) (fun _ => ?_)
        iterate 3 refine du ?_
        cases hF
        exact ⟨_, _, rfl, eqA, entA⟩
      rw [hg14]
      try rw [hg14] at hF; dsimp only [cond_true, cond_false] at hF
      iterate 6 refine du ?_
      cases hF
      exact ⟨_, _, rfl, eqA, entA⟩
    rw [hg7]
    try rw [hg7] at hF; dsimp only [cond_true, cond_false] at hF
    iterate 17 refine du ?_
    cases hF
    exact ⟨_, _, rfl, eqA, entA⟩
  rintro _ _ ⟨c18, g19, rfl, rfl, hE⟩
  replace hF := hO3
  clear hO3
  try dsimp only at hF
  refine K_ent hE ?_
  refine au ?_
  cases hF
  exact Er ()

/-! cmp.isNaN[int] -/
def g_cmp_isNaN_int (a_x : Int) : Option (Bool) :=
  some ((a_x : Int) != a_x)
theorem g_cmp_isNaN_int_ok (a_x : Int) (R : Bool) (hF : g_cmp_isNaN_int a_x = some R) :
    Fw.Spec Tryz.prog 156 [(.int .i64 a_x)] [] (fun _ : Unit => (.bool R)) (fun _ => []) := by
  refine Spec_enter (n := 6) Tryz.func156 rfl rfl (rs := [.tmp 2]) rfl rfl rfl ?_
  intro H0 F0
  unfold g_cmp_isNaN_int at hF
  iterate 10 refine au ?_
  cases hF
  exact Er ()

/-! cmp.Compare[int] -/
def g_cmp_Compare_int (a_x : Int) (a_y : Int) : Option (Int) :=
  (g_cmp_isNaN_int a_x).bind fun r1 =>
  (g_cmp_isNaN_int a_y).bind fun r4 =>
  if r1 then (
    if r4 then (
      some 0)
    else (
      some (-1)))
  else (
    if r4 then (
      some 1)
    else (
      if (decide ((a_x : Int) < a_y)) then (
        some (-1))
      else (
        if (decide ((a_y : Int) < a_x)) then (
          some 1)
        else (
          some 0))))
theorem g_cmp_Compare_int_ok (a_x : Int) (a_y : Int) (R : Int) (hF : g_cmp_Compare_int a_x a_y = some R) :
    Fw.Spec Tryz.prog 118 [(.int .i64 a_x), (.int .i64 a_y)] [] (fun _ : Unit => (.int .i64 R)) (fun _ => []) := by
  refine Spec_enter (n := 20) Tryz.func118 rfl rfl (rs := [.tmp 4]) rfl rfl rfl ?_
  intro H0 F0
  unfold g_cmp_Compare_int at hF
  iterate 5 refine au ?_
  obtain ⟨r1, hx2, hF⟩ := bind_some hF
  refine Cx0 (g_cmp_isNaN_int_ok _ _ hx2) (fun _ => ?_)
  iterate 4 refine au ?_
  obtain ⟨r4, hx5, hF⟩ := bind_some hF
  refine Cx0 (g_cmp_isNaN_int_ok _ _ hx5) (fun _ => ?_)
  iterate 6 refine au ?_
  refine Cc (fun hb11 => ?_) (fun hb11 => ?_)
  · rw [if_pos hb11] at hF
    iterate 4 refine au ?_
    refine Cc (fun hb7 => ?_) (fun hb7 => ?_)
    · rw [if_pos hb7] at hF
      iterate 4 refine au ?_
      cases hF
      exact Er ()
    rw [if_neg (nt hb7)] at hF
    iterate 5 refine au ?_
    cases hF
    exact Er ()
  rw [if_neg (nt hb11)] at hF
  iterate 5 refine au ?_
  refine Cc (fun hb10 => ?_) (fun hb10 => ?_)
  · rw [if_pos hb10] at hF
    iterate 4 refine au ?_
    cases hF
    exact Er ()
  rw [if_neg (nt hb10)] at hF
  iterate 7 refine au ?_
  refine Cc (fun hb9 => ?_) (fun hb9 => ?_)
  · rw [if_pos hb9] at hF
    iterate 4 refine au ?_
    cases hF
    exact Er ()
  rw [if_neg (nt hb9)] at hF
  iterate 7 refine au ?_
  refine Cc (fun hb8 => ?_) (fun hb8 => ?_)
  · rw [if_pos hb8] at hF
    iterate 4 refine au ?_
    cases hF
    exact Er ()
  rw [if_neg (nt hb8)] at hF
  iterate 5 refine au ?_
  cases hF
  exact Er ()

/-! slices.Compare[[]int,int] -/
def g_slices_Compare_int_int_L1 (a_s1 : List Int) (a_s2 : List Int) : List Int → Nat → Option (Int)
  | [], k4 => if (decide (((a_s1.length : Int) : Int) < (a_s2.length : Int))) then (
      some (-1))
    else (
      some 0)
  | x6 :: rest5, k4 => if (decide (((a_s2.length : Int) : Int) ≤ (k4 : Int))) then (
      some 1)
    else (
      (ix a_s2 (k4 : Int)).bind fun x16 =>
      (g_cmp_Compare_int x6 x16).bind fun r22 =>
      if ((r22 : Int) != 0) then (
        some r22)
      else (
        g_slices_Compare_int_int_L1 a_s1 a_s2 rest5 (k4 + 1)))
def g_slices_Compare_int_int (a_s1 : List Int) (a_s2 : List Int) : Option (Int) :=
  g_slices_Compare_int_int_L1 a_s1 a_s2 a_s1 0
theorem g_slices_Compare_int_int_ok (a_s1 : List Int) (v0_0 : Sv) (a_s2 : List Int) (v1_0 : Sv) (R : Int) (hF : g_slices_Compare_int_int a_s1 a_s2 = some R) :
    Fw.Spec Tryz.prog 119 [v0_0.v, v1_0.v] [crd (RdS 3 rdInt) v0_0.v a_s1, crd (RdS 3 rdInt) v1_0.v a_s2] (fun _ : Unit => (.int .i64 R)) (fun _ => []) := by
  refine Spec_enter (n := 36) Tryz.func119 rfl rfl (rs := [.tmp 4]) rfl rfl rfl ?_
  intro H0 F0
  unfold g_slices_Compare_int_int at hF
  iterate 9 refine au ?_
  refine CW_block (CW_loop (m := a_s1.length) (fun m2 f' cs' => ∃ (g : Fr) (k4 : Nat) (rest5 : List Int), m2 = rest5.length ∧ f' = updL g [(0, v0_0.v), (1, v1_0.v), (9, v0_0.v), (10, (.int .i64 (a_s1.length : Int))), (11, (.int .i64 (k4 : Int)))] ∧ List.drop k4 a_s1 = rest5 ∧ Ent cs' [crd (RdS 3 rdInt) v0_0.v a_s1, crd (RdS 3 rdInt) v1_0.v a_s2] ∧ g_slices_Compare_int_int_L1 a_s1 a_s2 rest5 k4 = some R) ⟨_, 0, _, rfl, eqA, rfl, entA, hF⟩ ?_)
  clear hF
  rintro m2 _ _ ⟨g3, k4, rest5, rfl, rfl, hd7, hE, hF⟩
  refine K_ent hE ?_
  clear hE
  refine K_pure (c := crd (RdS 3 rdInt) v0_0.v a_s1) .h crd_bound (fun hbd12 => ?_)
  rcases rest5 with _ | ⟨x6, rest5⟩
  · have hk8 := List.drop_eq_nil_iff.1 hd7
    rw [g_slices_Compare_int_int_L1] at hF
    iterate 4 refine au ?_
    refine CdF ?_
    iterate 12 refine au ?_
    refine Cc (fun hb13 => ?_) (fun hb13 => ?_)
    · rw [if_pos hb13] at hF
      iterate 4 refine au ?_
      cases hF
      exact Er ()
    rw [if_neg (nt hb13)] at hF
    iterate 5 refine au ?_
    cases hF
    exact Er ()
  obtain ⟨hk8, hx9, hd10⟩ := drop_cons hd7
  rw [g_slices_Compare_int_int_L1] at hF
  iterate 4 refine au ?_
  refine CdT ?_
  iterate 4 refine au ?_
  refine Ai hx9 (fun k14 j15 => ?_)
  refine Al ls3_0 ?_
  iterate 10 refine au ?_
  refine Cc (fun hb27 => ?_) (fun hb27 => ?_)
  · rw [if_pos hb27] at hF
    iterate 4 refine au ?_
    cases hF
    exact Er ()
  rw [if_neg (nt hb27)] at hF
  iterate 4 refine au ?_
  obtain ⟨x16, hx17, hF⟩ := bind_some hF
  obtain ⟨hp18, hx19⟩ := ix_some hx17
  refine Ai hx19 (fun k20 j21 => ?_)
  refine Al ls3_0 ?_
  iterate 5 refine au ?_
  obtain ⟨r22, hx23, hF⟩ := bind_some hF
  refine Cx0 (g_cmp_Compare_int_ok _ _ _ hx23) (fun _ => ?_)
  iterate 6 refine au ?_
  refine Cc (fun hb26 => ?_) (fun hb26 => ?_)
  · rw [if_pos hb26] at hF
    iterate 5 refine au ?_
    cases hF
    exact Er ()
  rw [if_neg (nt hb26)] at hF
  iterate 5 refine au ?_
  rw [wk k4]
  exact ⟨_, Nat.lt_succ_self _, _, k4 + 1, rest5, rfl, eqA, hd10, entA, hF⟩

/-! cmp.Or[int] -/
def g_cmp_Or_int_L1 : List Int → Nat → Option (Int)
  | [], k4 => some 0
  | x6 :: rest5, k4 => if ((x6 : Int) != 0) then (
      some x6)
    else (
      g_cmp_Or_int_L1 rest5 (k4 + 1))
def g_cmp_Or_int (a_vals : List Int) : Option (Int) :=
  g_cmp_Or_int_L1 a_vals 0
theorem g_cmp_Or_int_ok (a_vals : List Int) (v0_0 : Sv) (R : Int) (hF : g_cmp_Or_int a_vals = some R) :
    Fw.Spec Tryz.prog 117 [v0_0.v] [crd (RdS 3 rdInt) v0_0.v a_vals] (fun _ : Unit => (.int .i64 R)) (fun _ => []) := by
  refine Spec_enter (n := 18) Tryz.func117 rfl rfl (rs := [.tmp 2]) rfl rfl rfl ?_
  intro H0 F0
  unfold g_cmp_Or_int at hF
  iterate 12 refine au ?_
  refine CW_block (CW_loop (m := a_vals.length) (fun m2 f' cs' => ∃ (g : Fr) (k4 : Nat) (rest5 : List Int), m2 = rest5.length ∧ f' = updL g [(3, (.int .i64 0)), (6, v0_0.v), (7, (.int .i64 (a_vals.length : Int))), (8, (.int .i64 (k4 : Int)))] ∧ List.drop k4 a_vals = rest5 ∧ Ent cs' [crd (RdS 3 rdInt) v0_0.v a_vals] ∧ g_cmp_Or_int_L1 rest5 k4 = some R) ⟨_, 0, _, rfl, eqA, rfl, entA, hF⟩ ?_)
  clear hF
  rintro m2 _ _ ⟨g3, k4, rest5, rfl, rfl, hd7, hE, hF⟩
  refine K_ent hE ?_
  clear hE
  refine K_pure (c := crd (RdS 3 rdInt) v0_0.v a_vals) .h crd_bound (fun hbd12 => ?_)
  rcases rest5 with _ | ⟨x6, rest5⟩
  · have hk8 := List.drop_eq_nil_iff.1 hd7
    rw [g_cmp_Or_int_L1] at hF
    iterate 4 refine au ?_
    refine CdF ?_
    iterate 9 refine au ?_
    cases hF
    exact Er ()
  obtain ⟨hk8, hx9, hd10⟩ := drop_cons hd7
  rw [g_cmp_Or_int_L1] at hF
  iterate 4 refine au ?_
  refine CdT ?_
  iterate 3 refine au ?_
  refine Ai hx9 (fun k13 j14 => ?_)
  refine Al ls3_0 ?_
  iterate 7 refine au ?_
  refine Cc (fun hb16 => ?_) (fun hb16 => ?_)
  · rw [if_pos hb16] at hF
    iterate 5 refine au ?_
    cases hF
    exact Er ()
  rw [if_neg (nt hb16)] at hF
  iterate 5 refine au ?_
  rw [wk k4]
  exact ⟨_, Nat.lt_succ_self _, _, k4 + 1, rest5, rfl, eqA, hd10, entA, hF⟩

end Go.Proofs.YtlfebfhfgfjceabGreat
