/-
  Functions of the program as Lean functions, and that the calls return what these say: part 4. No conditions.
-/
import Derived.Shelf.Sort.Plain
import Derived.Shelf.Slices.In.SortNone
import Derived.Shelf.Slices.CompactI
import Derived.Test.YtlfebfhfgfjceabGreatCheckCertificateG2
import Derived.KernelRfl
set_option maxRecDepth 100000
set_option maxHeartbeats 1000000
set_option linter.unusedVariables false
namespace Go.Proofs.YtlfebfhfgfjceabGreat
open Go Go.Fw

/-! impl.tuplesOf -/
def i_tuplesOf_L1 (a_q : Query) : List Binding → Nat → (List (List Int)) → Option ((List (List Int)))
  | [], k9, c3 => some c3
  | x11 :: rest10, k9, c3 => (i_TupleOf a_q x11).bind fun r22 =>
    (i_addedTuple c3 r22).bind fun r25 =>
    i_tuplesOf_L1 a_q rest10 (k9 + 1) r25
def i_tuplesOf (a_q : Query) (a_bindings : List Binding) : Option ((List (List Int))) :=
  i_tuplesOf_L1 a_q a_bindings 0 ([] : List (List Int))
theorem i_tuplesOf_ok (a_q : Query) (v0_0 : Sv) (v0_1 : Sv) (a_bindings : List Binding) (v1_0 : Sv) (R : (List (List Int))) (hF : i_tuplesOf a_q a_bindings = some R) :
    Fw.Spec Tryz.prog 80 [(.agg [v0_0.v, v0_1.v].toArray), v1_0.v] [crd (RdS 3 rdInt) v0_0.v a_q.Head, crd (RdS 102 rd102) v0_1.v a_q.Atoms, crd (RdS 126 rd126) v1_0.v a_bindings] (fun p : Sv × List Nat => p.1.v) (fun p => [cown (OwnS 22 (OwnS 3 (roE rdInt))) p.2 p.1.v R]) := by
  refine Spec_enter (n := 22) Tryz.func80 rfl rfl (rs := [.tmp 4]) rfl rfl rfl ?_
  intro H0 F0
  unfold i_tuplesOf at hF
  refine au ?_
  refine C_newR rfl (N_box (g := false) (v := (.agg [v0_0.v, v0_1.v].toArray)) ty38.h.sz (.tmp rfl rfl) rfl) (fun k1 => ?_)
  iterate 3 refine au ?_
  refine C_new rfl (N_buildSliceT (g := true) sl31.h ty22.h .nil (vs := []) rfl rfl rfl (by simp)) (fun k2 => ?_)
  refine C_conv (.cons .h .nil) (own_lit (Ro := (OwnS 3 (roE rdInt))) (E := 22) (F := []) (xs := ([] : List (List Int))) MkL_nil rfl rfl) apps ?_
  iterate 8 refine au ?_
  refine CW_block (CW_loop (m := a_bindings.length) (fun m7 f' cs' => ∃ (g : Fr) (k9 : Nat) (rest10 : List Binding) (c3 : List (List Int)) (v4 : Sv) (F5 : List Nat), m7 = rest10.length ∧ f' = updL g [(2, (.pointer (some ⟨k1, 0, some 0⟩))), (5, v4.v), (9, v1_0.v), (10, (.int .i64 (a_bindings.length : Int))), (11, (.int .i64 (k9 : Int)))] ∧ List.drop k9 a_bindings = rest10 ∧ Ent cs' [cboR k1 38 (.agg [v0_0.v, v0_1.v].toArray), crd (RdS 3 rdInt) v0_0.v a_q.Head, crd (RdS 102 rd102) v0_1.v a_q.Atoms, cown (OwnS 22 (OwnS 3 (roE rdInt))) F5 v4.v c3, crd (RdS 126 rd126) v1_0.v a_bindings] ∧ i_tuplesOf_L1 a_q rest10 k9 c3 = some R) ⟨_, 0, _, _, ⟨(some ⟨k2, 0, none⟩), 0, 1⟩, (k2 :: []), rfl, (EqL.cons rfl (EqL.cons rfl (EqL.cons rfl (EqL.cons rfl (EqL.cons rfl (EqL.nil)))))).eq, rfl, (.sel (.rd (.t .h) rfl (.rd (.t (.t .h)) rfl (.rd (.t (.t (.t .h))) rfl (.cons .h (.rd (.t (.t (.t .h))) rfl .nil)))))), hF⟩ ?_)
  clear hF
  rintro m7 _ _ ⟨g8, k9, rest10, c3, v4, F5, rfl, rfl, hd12, hE, hF⟩
  refine K_ent hE ?_
  clear hE
  refine K_pure (c := crd (RdS 126 rd126) v1_0.v a_bindings) (.t (.t (.t (.t .h)))) crd_bound (fun hbd17 => ?_)
  rcases rest10 with _ | ⟨x11, rest10⟩
  · have hk13 := List.drop_eq_nil_iff.1 hd12
    have hfe16 : (decide (((k9 : Int) : Int) < (a_bindings.length : Int))) = false := decide_eq_false (by omega)
    rw [i_tuplesOf_L1] at hF
    iterate 4 refine au ?_
    refine CW_cond (b := (decide (((k9 : Int) : Int) < (a_bindings.length : Int)))) (.tmp rfl rfl) (fun hb => absurd (hfe16.symm.trans hb) (by decide)) (fun _ => ?_)
    iterate 9 refine au ?_
    obtain rfl := Option.some.inj hF
    exact End_ret (v4, F5) (.tmp rfl rfl .nil) rfl (.sel (.cons (.t (.t (.t .h))) .nil))
  obtain ⟨hk13, hx14, hd15⟩ := drop_cons hd12
  have hfe16 : (decide (((k9 : Int) : Int) < (a_bindings.length : Int))) = true := decide_eq_true (by omega)
  rw [i_tuplesOf_L1] at hF
  iterate 4 refine au ?_
  refine CW_cond (b := (decide (((k9 : Int) : Int) < (a_bindings.length : Int)))) (.tmp rfl rfl) (fun _ => ?_) (fun hb => absurd (hfe16.symm.trans hb) (by decide))
  iterate 3 refine au ?_
  refine C_idx (a := x11) sl106.h ty126.h.sz (.tmp rfl rfl) (.tmp rfl rfl) (.t (.t (.t (.t .h)))) (Int.natCast_nonneg k9) hx14 (fun k18 j19 => ?_)
  refine C_ldA2 (ul126_0_126 x11) ag126.h ty126.h.sz rfl (.tmp rfl rfl) .h la126_0_126 (fun p20 => ?_)
  refine C_new rfl (N_allocT (g := true) ty126.h rfl rfl) (fun k21 => ?_)
  refine C_x1 (.cons .h .nil) (X_storeB (e' := (.agg [p20.1.v, p20.2.v].toArray)) (v := (.agg [p20.1.v, p20.2.v].toArray)) ty126.h.sz (.tmp rfl rfl) (.tmp rfl rfl) rfl rfl rfl rfl rfl) (fun _ => ?_)
  iterate 5 refine au ?_
  obtain ⟨r22, hx23, hF⟩ := bind_some hF
  refine C_x1 (.rd (.t (.t (.t (.t (.t .h))))) rfl (.rd (.t (.t (.t (.t (.t (.t .h)))))) rfl (.rd (.t .h) rfl (.rd (.t (.t .h)) rfl .nil)))) (X_callS cf123.h (.cons (.tmp rfl rfl) (.cons (.tmp rfl rfl) .nil)) (i_TupleOf_ok a_q v0_0 v0_1 x11 p20.1 p20.2 _ hx23)) (fun p24 => ?_)
  refine C_frz .h frz_own ?_
  obtain ⟨r25, hx26, hF⟩ := bind_some hF
  refine C_x1 (.cons (.t (.t (.t (.t (.t (.t (.t (.t .h)))))))) (.rd .h rfl .nil)) (X_callS cf122.h (.cons (.tmp rfl rfl) (.cons (.tmp rfl rfl) .nil)) (i_addedTuple_ok c3 v4 F5 r22 p24.1 _ hx26)) (fun p27 => ?_)
  iterate 6 refine au ?_
  have hw28 : IntKind.i64.wrap ((k9 : Int) + 1) = ((k9 + 1 : Nat) : Int) := by rw [wrap_in (by omega) (by omega)]; rfl
  rw [hw28]
  exact ⟨_, Nat.lt_succ_self _, _, k9 + 1, rest10, _, p27.1, p27.2, rfl, (EqL.cons rfl (EqL.cons rfl (EqL.cons rfl (EqL.cons rfl (EqL.cons rfl (EqL.nil)))))).eq, hd15, (.sel (.rd (.t (.t (.t (.t (.t (.t .h)))))) rfl (.rd (.t (.t (.t (.t (.t (.t (.t .h))))))) rfl (.rd (.t (.t (.t (.t (.t (.t (.t (.t .h)))))))) rfl (.cons .h (.rd (.t (.t (.t (.t (.t (.t (.t (.t .h)))))))) rfl .nil)))))), hF⟩

/-! impl.answers -/
def i_answers (a_q : Query) (a_facts : List Fact) : Option ((List (List Int))) :=
  (i_BindingsOf a_q a_facts).bind fun r2 =>
  (i_tuplesOf a_q r2).bind fun r5 =>
  some r5
theorem i_answers_ok (a_q : Query) (v0_0 : Sv) (v0_1 : Sv) (a_facts : List Fact) (v1_0 : Sv) (R : (List (List Int))) (hF : i_answers a_q a_facts = some R) :
    Fw.Spec Tryz.prog 47 [(.agg [v0_0.v, v0_1.v].toArray), v1_0.v] [crd (RdS 3 rdInt) v0_0.v a_q.Head, crd (RdS 102 rd102) v0_1.v a_q.Atoms, crd (RdS 80 rd80) v1_0.v a_facts] (fun p : Sv × List Nat => p.1.v) (fun p => [cown (OwnS 22 (OwnS 3 (roE rdInt))) p.2 p.1.v R]) := by
  refine Spec_enter (n := 10) Tryz.func47 rfl rfl (rs := [.tmp 4]) rfl rfl rfl ?_
  intro H0 F0
  unfold i_answers at hF
  refine K_region (C_newR rfl (N_box (g := false) (v := (.agg [v0_0.v, v0_1.v].toArray)) ty38.h.sz (.tmp rfl rfl) rfl) (fun k1 => ?_))
  refine C_val (V_assign (v := (.slice none 0 0)) EV.nilSlice) ?_
  refine C_nil (K_draw [0, 1, 2, 3, 4, 5] [0, 0, 0, 6, 15, 31] [3, 4] mixed (by decide +kernel) ?_)
  iterate 2 refine D_at rfl .no .h rfl (fun ha hp => V_loadBox ag38.h ty38.h.sz rfl (EN ha (.tmp rfl rfl) rfl) hp.2 rfl) ?_
  refine Dm v1_0.v rfl rfl rfl rfl ?_
  obtain ⟨r2, hx3, hF⟩ := bind_some hF
  refine D_act1 rfl rfl .no (.rd (.t .h) rfl (.rd (.t (.t .h)) rfl (.rd (.t (.t (.t .h))) rfl .nil))) .nil (fun ha => X_callS cf81.h (.cons (EN ha (.tmp rfl rfl) rfl) (.cons (EN ha (.tmp rfl rfl) rfl) .nil)) (i_BindingsOf_ok a_q v0_0 v0_1 a_facts v1_0 _ hx3)) (fun p4 => ?_)
  obtain ⟨r5, hx6, hF⟩ := bind_some hF
  refine D_act2 rfl rfl .no (.cons .h (.rd (.t .h) rfl (.rd (.t (.t .h)) rfl .nil))) .nil (fun ha => XC_bor frz_own (fun _ => (.cons .nil)) (XC_pre (.rd (.t .h) rfl (.rd (.t (.t .h)) rfl (.rd .h rfl .nil))) (X_callS cf80.h (.cons (EN ha (.tmp rfl rfl) rfl) (.cons (EN ha (.tmp rfl rfl) rfl) .nil)) (i_tuplesOf_ok a_q v0_0 v0_1 r2 p4.1 _ hx6)))) (fun p7 => ?_)
  refine Da p7.1.v rfl rfl rfl rfl ?_
  refine D_nil (CW_ret ?_)
  obtain rfl := Option.some.inj hF
  exact End_ret (p7.1, p7.2) (.tmp rfl rfl .nil) rfl (.sel (.cons (.t .h) .nil))

/-! impl.CheckCertificate -/
def i_CheckCertificate (a_s : List Int) (a_l : List Method) (a_q : Query) (a_c : Certificate) : Option (Bool) :=
  ((i_areAsked a_s a_l a_q).bind fun r5 =>
    bif (!r5) then (some true)
    else ((i_AreFacts a_s a_c.All).bind fun r9 =>
      bif (!r9) then (some true)
      else ((i_AreFacts a_s a_c.Some).bind fun r13 =>
        some (!r13)))).bind fun o3 =>
  match o3 with
  | c16 => if c16 then (
      some false)
    else (
      (i_ConstantsOf a_q).bind fun r17 =>
      ((i_reach a_l a_c.All r17).bind fun r22 =>
        (i_reach a_l a_c.Some r17).bind fun r25 =>
        (i_EqualReached r22 r25).bind fun r28 =>
        bif r28 then ((i_answers a_q a_c.All).bind fun r32 =>
          (i_hasTuple r32 a_c.Tuple).bind fun r35 =>
          bif r35 then ((i_answers a_q a_c.Some).bind fun r39 =>
            (i_hasTuple r39 a_c.Tuple).bind fun r42 =>
            some (!r42))
          else (some false))
        else (some false)).bind fun o20 =>
      match o20 with
      | c45 => some c45)
theorem i_CheckCertificate_ok (a_s : List Int) (v0_0 : Sv) (a_l : List Method) (v1_0 : Sv) (a_q : Query) (v2_0 : Sv) (v2_1 : Sv) (a_c : Certificate) (v3_0 : Sv) (v3_1 : Sv) (v3_2 : Sv) (R : Bool) (hF : i_CheckCertificate a_s a_l a_q a_c = some R) :
    Fw.Spec Tryz.prog 29 [v0_0.v, v1_0.v, (.agg [v2_0.v, v2_1.v].toArray), (.agg [v3_0.v, v3_1.v, v3_2.v].toArray)] [crd (RdS 3 rdInt) v0_0.v a_s, crd (RdS 77 rd77) v1_0.v a_l, crd (RdS 3 rdInt) v2_0.v a_q.Head, crd (RdS 102 rd102) v2_1.v a_q.Atoms, crd (RdS 80 rd80) v3_0.v a_c.All, crd (RdS 80 rd80) v3_1.v a_c.Some, crd (RdS 3 rdInt) v3_2.v a_c.Tuple] (fun _ : Unit => (.bool R)) (fun _ => []) := by
  refine Spec_enter (n := 61) Tryz.func29 rfl rfl (rs := [.tmp 8]) rfl rfl rfl ?_
  intro H0 F0
  unfold i_CheckCertificate at hF
  refine K_region (C_newR rfl (N_box (g := false) (v := (.agg [v2_0.v, v2_1.v].toArray)) ty38.h.sz (.tmp rfl rfl) rfl) (fun k1 => ?_))
  refine C_newR rfl (N_box (g := false) (v := (.agg [v3_0.v, v3_1.v, v3_2.v].toArray)) ty58.h.sz (.tmp rfl rfl) rfl) (fun k2 => ?_)
  refine C_val (V_assign (v := (.bool false)) (.bool _)) ?_
  refine C_nil (K_in ?_)
  obtain ⟨o3, hio3, hO4⟩ := bind_some hF
  refine K_region (C_cut (fun f' cs' => ∃ (c16 : Bool) (g : Fr), c16 = o3 ∧ f' = updL g [(1, v1_0.v), (6, (.pointer (some ⟨k1, 0, some 0⟩))), (7, (.pointer (some ⟨k2, 0, some 0⟩))), (28, (.bool c16))] ∧ Ent cs' [crd (RdS 77 rd77) v1_0.v a_l, cboR k1 38 (.agg [v2_0.v, v2_1.v].toArray), crd (RdS 3 rdInt) v2_0.v a_q.Head, crd (RdS 102 rd102) v2_1.v a_q.Atoms, cboR k2 58 (.agg [v3_0.v, v3_1.v, v3_2.v].toArray), crd (RdS 80 rd80) v3_0.v a_c.All, crd (RdS 80 rd80) v3_1.v a_c.Some, crd (RdS 3 rdInt) v3_2.v a_c.Tuple]) ?_ ?_)
  · replace hF := hio3
    refine Cm v0_0.v rfl rfl ?_
    refine Cm v1_0.v rfl rfl ?_
    refine C_at (.t .h) (fun hp => V_loadBox ag38.h ty38.h.sz rfl (.tmp rfl rfl) hp.2 rfl) ?_
    obtain ⟨r5, hx6, hF⟩ := bind_some hF
    refine C_x0 (.rd (.t (.t .h)) rfl (.rd (.t (.t (.t .h))) rfl (.rd (.t (.t (.t (.t .h)))) rfl (.rd (.t (.t (.t (.t (.t .h))))) rfl .nil)))) (X_callS cf45.h (.cons (.tmp rfl rfl) (.cons (.tmp rfl rfl) (.cons (.tmp rfl rfl) .nil))) (i_areAsked_ok a_s v0_0 a_l v1_0 a_q v2_0 v2_1 _ hx6)) (fun _ => ?_)
    refine C_val (V_not (b := r5) (.tmp rfl rfl)) ?_
    refine Cm (.bool (!r5)) rfl rfl ?_
    rcases Bool.eq_false_or_eq_true (!r5) with hg8 | hg8
    · rw [hg8]
      try rw [hg8] at hF; dsimp only [cond_true, cond_false] at hF
      iterate 5 refine C_off (t := 15) rfl rfl rfl ?_
      refine C_val (V_pick (b := true) (u := (.bool true)) (v := undef) (.tmp rfl rfl) (.bool _) (.tmp rfl rfl)) ?_
      refine Cm (.bool true) rfl rfl ?_
      iterate 5 refine C_off (t := 22) rfl rfl rfl ?_
      refine C_val (V_pick (b := true) (u := (.bool true)) (v := undef) (.tmp rfl rfl) (.bool _) (.tmp rfl rfl)) ?_
      refine C_nil ?_
      obtain rfl := Option.some.inj hF
      exact ⟨_, _, rfl, (EqL.cons rfl (EqL.cons rfl (EqL.cons rfl (EqL.cons rfl (EqL.nil))))).eq, (.sel (.rd (.t (.t (.t .h))) rfl (.rd (.t .h) rfl (.rd (.t (.t (.t (.t .h)))) rfl (.rd (.t (.t (.t (.t (.t .h))))) rfl (.rd .h rfl (.rd (.t (.t (.t (.t (.t (.t .h)))))) rfl (.rd (.t (.t (.t (.t (.t (.t (.t .h))))))) rfl (.rd (.t (.t (.t (.t (.t (.t (.t (.t .h)))))))) rfl .nil)))))))))⟩
    rw [hg8]
    try rw [hg8] at hF; dsimp only [cond_true, cond_false] at hF
    refine C_on (t := 15) rfl rfl rfl ?_
    refine Cm v0_0.v rfl rfl ?_
    refine C_on (t := 15) rfl rfl rfl ?_
    refine C_val (V_fieldAddr (off := 0) fd58_0.h (.tmp rfl rfl)) ?_
    refine C_on (t := 15) rfl rfl rfl ?_
    refine C_at .h (fun hp => V_load (v := v3_0.v) ag40.h (.tmp rfl rfl) hp.2 rfl rfl) ?_
    refine C_on (t := 15) rfl rfl rfl ?_
    obtain ⟨r9, hx10, hF⟩ := bind_some hF
    refine C_x0 (.rd (.t (.t .h)) rfl (.rd (.t (.t (.t (.t (.t (.t .h)))))) rfl .nil)) (X_callS cf46.h (.cons (.tmp rfl rfl) (.cons (.tmp rfl rfl) .nil)) (i_AreFacts_ok a_s v0_0 a_c.All v3_0 _ hx10)) (fun _ => ?_)
    refine C_on (t := 15) rfl rfl rfl ?_
    refine C_val (V_not (b := r9) (.tmp rfl rfl)) ?_
    refine C_val (V_pick (b := false) (u := (.bool true)) (v := (.bool (!r9))) (.tmp rfl rfl) (.bool _) (.tmp rfl rfl)) ?_
    refine Cm (.bool (!r9)) rfl rfl ?_
    rcases Bool.eq_false_or_eq_true (!r9) with hg12 | hg12
    · rw [hg12]
      try rw [hg12] at hF; dsimp only [cond_true, cond_false] at hF
      iterate 5 refine C_off (t := 22) rfl rfl rfl ?_
      refine C_val (V_pick (b := true) (u := (.bool true)) (v := undef) (.tmp rfl rfl) (.bool _) (.tmp rfl rfl)) ?_
      refine C_nil ?_
      obtain rfl := Option.some.inj hF
      exact ⟨_, _, rfl, (EqL.cons rfl (EqL.cons rfl (EqL.cons rfl (EqL.cons rfl (EqL.nil))))).eq, (.sel (.rd (.t (.t (.t .h))) rfl (.rd (.t .h) rfl (.rd (.t (.t (.t (.t .h)))) rfl (.rd (.t (.t (.t (.t (.t .h))))) rfl (.rd .h rfl (.rd (.t (.t (.t (.t (.t (.t .h)))))) rfl (.rd (.t (.t (.t (.t (.t (.t (.t .h))))))) rfl (.rd (.t (.t (.t (.t (.t (.t (.t (.t .h)))))))) rfl .nil)))))))))⟩
    rw [hg12]
    try rw [hg12] at hF; dsimp only [cond_true, cond_false] at hF
    refine C_on (t := 22) rfl rfl rfl ?_
    refine Cm v0_0.v rfl rfl ?_
    refine C_on (t := 22) rfl rfl rfl ?_
    refine C_val (V_fieldAddr (off := 1) fd58_1.h (.tmp rfl rfl)) ?_
    refine C_on (t := 22) rfl rfl rfl ?_
    refine C_at .h (fun hp => V_load (v := v3_1.v) ag40.h (.tmp rfl rfl) hp.2 rfl rfl) ?_
    refine C_on (t := 22) rfl rfl rfl ?_
    obtain ⟨r13, hx14, hF⟩ := bind_some hF
    refine C_x0 (.rd (.t (.t .h)) rfl (.rd (.t (.t (.t (.t (.t (.t (.t .h))))))) rfl .nil)) (X_callS cf46.h (.cons (.tmp rfl rfl) (.cons (.tmp rfl rfl) .nil)) (i_AreFacts_ok a_s v0_0 a_c.Some v3_1 _ hx14)) (fun _ => ?_)
    refine C_on (t := 22) rfl rfl rfl ?_
    refine C_val (V_not (b := r13) (.tmp rfl rfl)) ?_
    refine C_val (V_pick (b := false) (u := (.bool true)) (v := (.bool (!r13))) (.tmp rfl rfl) (.bool _) (.tmp rfl rfl)) ?_
    refine C_nil ?_
    obtain rfl := Option.some.inj hF
    exact ⟨_, _, rfl, (EqL.cons rfl (EqL.cons rfl (EqL.cons rfl (EqL.cons rfl (EqL.nil))))).eq, (.sel (.rd (.t (.t (.t .h))) rfl (.rd (.t .h) rfl (.rd (.t (.t (.t (.t .h)))) rfl (.rd (.t (.t (.t (.t (.t .h))))) rfl (.rd .h rfl (.rd (.t (.t (.t (.t (.t (.t .h)))))) rfl (.rd (.t (.t (.t (.t (.t (.t (.t .h))))))) rfl (.rd (.t (.t (.t (.t (.t (.t (.t (.t .h)))))))) rfl .nil)))))))))⟩
  rintro _ _ ⟨c16, g48, rfl, rfl, hE⟩
  replace hF := hO4
  clear hO4
  try dsimp only at hF
  refine K_ent hE ?_
  refine CW_cond (b := c16) (.tmp rfl rfl) (fun hb47 => ?_) (fun hb47 => ?_)
  · rw [if_pos hb47] at hF
    refine K_region (C_val (V_assign (v := (.bool false)) (.bool _)) ?_)
    refine C_nil (CW_ret ?_)
    obtain rfl := Option.some.inj hF
    exact End_ret () (.tmp rfl rfl .nil) rfl (.sel .nil)
  rw [if_neg (by rw [hb47]; exact Bool.false_ne_true)] at hF
  refine CW_skip (K_region (C_at (.t .h) (fun hp => V_loadBox ag38.h ty38.h.sz rfl (.tmp rfl rfl) hp.2 rfl) ?_))
  obtain ⟨r17, hx18, hF⟩ := bind_some hF
  refine C_x1 (.rd (.t (.t .h)) rfl (.rd (.t (.t (.t .h))) rfl .nil)) (X_callS cf49.h (.cons (.tmp rfl rfl) .nil) (i_ConstantsOf_ok a_q v2_0 v2_1 _ hx18)) (fun p19 => ?_)
  refine Ca p19.1.v rfl rfl ?_
  refine C_nil (K_frz .h frz_own ?_)
  obtain ⟨o20, hio20, hO21⟩ := bind_some hF
  refine K_draw [0, 1, 2, 3, 5, 6, 7, 8, 4, 9, 10, 11, 12, 13, 14, 16, 17, 15, 18, 19, 20, 21, 22, 23, 25, 26, 24, 27, 28, 29, 30] [0, 0, 2, 0, 15, 0, 0, 64, 0, 511, 1023, 2047, 4095, 4095, 12287, 32767, 4095, 69631, 262143, 524287, 1048575, 2097151, 2097151, 6291455, 16777215, 2097151, 35651583, 134217727, 268435455, 536870911, 1073741823] [4, 9, 10, 15, 18, 24, 27] mixed (by decide +kernel) ?_
  refine D_cut (fun f' cs' => ∃ (c45 : Bool) (g : Fr), c45 = o20 ∧ f' = updL g [(8, (.bool c45))] ∧ Ent cs' []) ?_ ?_
  · replace hF := hio20
    refine Dm v1_0.v rfl rfl rfl rfl ?_
    refine D_val rfl .no (fun ha => V_fieldAddr (off := 0) fd58_0.h (EN ha (.tmp rfl rfl) rfl)) ?_
    refine D_at rfl .no (.t (.t (.t (.t (.t .h))))) rfl (fun ha hp => V_load (v := v3_0.v) ag40.h (EN ha (.tmp rfl rfl) rfl) hp.2 rfl rfl) ?_
    refine Dm p19.1.v rfl rfl rfl rfl ?_
    refine Dm v1_0.v rfl rfl rfl rfl ?_
    refine D_val rfl .no (fun ha => V_fieldAddr (off := 1) fd58_1.h (EN ha (.tmp rfl rfl) rfl)) ?_
    refine D_at rfl .no (.t (.t (.t (.t (.t .h))))) rfl (fun ha hp => V_load (v := v3_1.v) ag40.h (EN ha (.tmp rfl rfl) rfl) hp.2 rfl rfl) ?_
    refine Dm p19.1.v rfl rfl rfl rfl ?_
    obtain ⟨r22, hx23, hF⟩ := bind_some hF
    refine D_act3 rfl rfl .no (.rd (.t .h) rfl (.rd (.t (.t (.t (.t (.t (.t .h)))))) rfl (.rd .h rfl .nil))) .nil (fun ha => X_callS cf48.h (.cons (EN ha (.tmp rfl rfl) rfl) (.cons (EN ha (.tmp rfl rfl) rfl) (.cons (EN ha (.tmp rfl rfl) rfl) .nil))) (i_reach_ok a_l v1_0 a_c.All v3_0 r17 p19.1 _ hx23)) (fun p24 => ?_)
    obtain ⟨r25, hx26, hF⟩ := bind_some hF
    refine D_act3 rfl rfl .no (.rd (.t (.t (.t (.t .h)))) rfl (.rd (.t (.t (.t (.t (.t (.t (.t (.t (.t (.t .h)))))))))) rfl (.rd (.t (.t (.t .h))) rfl .nil))) .nil (fun ha => X_callS cf48.h (.cons (EN ha (.tmp rfl rfl) rfl) (.cons (EN ha (.tmp rfl rfl) rfl) (.cons (EN ha (.tmp rfl rfl) rfl) .nil))) (i_reach_ok a_l v1_0 a_c.Some v3_1 r17 p19.1 _ hx26)) (fun p27 => ?_)
    obtain ⟨r28, hx29, hF⟩ := bind_some hF
    refine D_act6 rfl rfl .no (.cons (.t (.t .h)) (.cons (.t .h) (.cons .h (.cons (.t (.t .h)) (.cons (.t .h) (.cons .h .nil)))))) .nil (fun ha => XC_borG (pre := []) (.cons frz_own (.cons frz_own (.cons frz_own (.cons frz_own (.cons frz_own (.cons frz_own .nil)))))) (fun _ => .nil) (XC_pre (.rd (.t (.t (.t (.t (.t .h))))) rfl (.rd (.t (.t (.t (.t .h)))) rfl (.rd (.t (.t (.t .h))) rfl (.rd (.t (.t .h)) rfl (.rd (.t .h) rfl (.rd .h rfl .nil)))))) (X_callS cf57.h (.cons (EN ha (.tmp rfl rfl) rfl) (.cons (EN ha (.tmp rfl rfl) rfl) .nil)) (i_EqualReached_ok r22 p24.1 p24.2.2.1 p24.2.2.2.2.1 r25 p27.1 p27.2.2.1 p27.2.2.2.2.1 _ hx29)))) (fun _ => ?_)
    refine Dm (.bool r28) rfl rfl rfl rfl ?_
    rcases Bool.eq_false_or_eq_true r28 with hg31 | hg31
    · rw [hg31]
      try rw [hg31] at hF; dsimp only [cond_true, cond_false] at hF
      refine D_at rfl (.on 42 rfl rfl rfl) (.t (.t (.t (.t (.t (.t (.t (.t .h)))))))) rfl (fun ha hp => V_loadBox ag38.h ty38.h.sz rfl (EN ha (.tmp rfl rfl) rfl) hp.2 rfl) ?_
      refine D_val rfl (.on 42 rfl rfl rfl) (fun ha => V_fieldAddr (off := 0) fd58_0.h (EN ha (.tmp rfl rfl) rfl)) ?_
      refine D_at rfl (.on 42 rfl rfl rfl) (.t (.t (.t (.t (.t (.t (.t (.t (.t (.t (.t .h))))))))))) rfl (fun ha hp => V_load (v := v3_0.v) ag40.h (EN ha (.tmp rfl rfl) rfl) hp.2 rfl rfl) ?_
      refine D_val rfl (.on 42 rfl rfl rfl) (fun ha => V_fieldAddr (off := 2) fd58_2.h (EN ha (.tmp rfl rfl) rfl)) ?_
      refine D_at rfl (.on 42 rfl rfl rfl) (.t (.t (.t (.t (.t (.t (.t (.t (.t (.t (.t .h))))))))))) rfl (fun ha hp => V_load (v := v3_2.v) ag22.h (EN ha (.tmp rfl rfl) rfl) hp.2 rfl rfl) ?_
      obtain ⟨r32, hx33, hF⟩ := bind_some hF
      refine D_act1 rfl rfl (.on 42 rfl rfl rfl) (.rd (.t (.t (.t (.t (.t (.t (.t (.t (.t .h))))))))) rfl (.rd (.t (.t (.t (.t (.t (.t (.t (.t (.t (.t .h)))))))))) rfl (.rd (.t (.t (.t (.t (.t (.t (.t (.t (.t (.t (.t (.t .h)))))))))))) rfl .nil))) .nil (fun ha => X_callS cf47.h (.cons (EN ha (.tmp rfl rfl) rfl) (.cons (EN ha (.tmp rfl rfl) rfl) .nil)) (i_answers_ok a_q v2_0 v2_1 a_c.All v3_0 _ hx33)) (fun p34 => ?_)
      obtain ⟨r35, hx36, hF⟩ := bind_some hF
      refine D_act1 rfl rfl (.on 42 rfl rfl rfl) (.cons .h (.rd (.t (.t (.t (.t (.t (.t (.t (.t (.t (.t (.t (.t (.t (.t .h)))))))))))))) rfl .nil)) .nil (fun ha => XC_bor frz_own (fun _ => .nil) (X_callS cf58.h (.cons (EN ha (.tmp rfl rfl) rfl) (.cons (EN ha (.tmp rfl rfl) rfl) .nil)) (i_hasTuple_ok r32 p34.1 a_c.Tuple v3_2 _ hx36))) (fun _ => ?_)
      refine D_val rfl .no (fun ha => V_pick (b := true) (u := (.bool r35)) (v := (.bool false)) (EN ha (.tmp rfl rfl) rfl) (EN ha (.tmp rfl rfl) rfl) (EN ha (.bool _) rfl)) ?_
      refine Dm (.bool r35) rfl rfl rfl rfl ?_
      rcases Bool.eq_false_or_eq_true r35 with hg38 | hg38
      · rw [hg38]
        try rw [hg38] at hF; dsimp only [cond_true, cond_false] at hF
        refine D_at rfl (.on 51 rfl rfl rfl) (.t (.t (.t (.t (.t (.t (.t (.t (.t .h))))))))) rfl (fun ha hp => V_loadBox ag38.h ty38.h.sz rfl (EN ha (.tmp rfl rfl) rfl) hp.2 rfl) ?_
        refine D_val rfl (.on 51 rfl rfl rfl) (fun ha => V_fieldAddr (off := 1) fd58_1.h (EN ha (.tmp rfl rfl) rfl)) ?_
        refine D_at rfl (.on 51 rfl rfl rfl) (.t (.t (.t (.t (.t (.t (.t (.t (.t (.t (.t (.t .h)))))))))))) rfl (fun ha hp => V_load (v := v3_1.v) ag40.h (EN ha (.tmp rfl rfl) rfl) hp.2 rfl rfl) ?_
        refine D_val rfl (.on 51 rfl rfl rfl) (fun ha => V_fieldAddr (off := 2) fd58_2.h (EN ha (.tmp rfl rfl) rfl)) ?_
        refine D_at rfl (.on 51 rfl rfl rfl) (.t (.t (.t (.t (.t (.t (.t (.t (.t (.t (.t (.t .h)))))))))))) rfl (fun ha hp => V_load (v := v3_2.v) ag22.h (EN ha (.tmp rfl rfl) rfl) hp.2 rfl rfl) ?_
        obtain ⟨r39, hx40, hF⟩ := bind_some hF
        refine D_act1 rfl rfl (.on 51 rfl rfl rfl) (.rd (.t (.t (.t (.t (.t (.t (.t (.t (.t (.t .h)))))))))) rfl (.rd (.t (.t (.t (.t (.t (.t (.t (.t (.t (.t (.t .h))))))))))) rfl (.rd (.t (.t (.t (.t (.t (.t (.t (.t (.t (.t (.t (.t (.t (.t .h)))))))))))))) rfl .nil))) .nil (fun ha => X_callS cf47.h (.cons (EN ha (.tmp rfl rfl) rfl) (.cons (EN ha (.tmp rfl rfl) rfl) .nil)) (i_answers_ok a_q v2_0 v2_1 a_c.Some v3_1 _ hx40)) (fun p41 => ?_)
        obtain ⟨r42, hx43, hF⟩ := bind_some hF
        refine D_act1 rfl rfl (.on 51 rfl rfl rfl) (.cons .h (.rd (.t (.t (.t (.t (.t (.t (.t (.t (.t (.t (.t (.t (.t (.t (.t .h))))))))))))))) rfl .nil)) .nil (fun ha => XC_bor frz_own (fun _ => .nil) (X_callS cf58.h (.cons (EN ha (.tmp rfl rfl) rfl) (.cons (EN ha (.tmp rfl rfl) rfl) .nil)) (i_hasTuple_ok r39 p41.1 a_c.Tuple v3_2 _ hx43))) (fun _ => ?_)
        refine D_val rfl (.on 51 rfl rfl rfl) (fun ha => V_not (b := r42) (EN ha (.tmp rfl rfl) rfl)) ?_
        refine D_val rfl .no (fun ha => V_pick (b := true) (u := (.bool (!r42))) (v := (.bool false)) (EN ha (.tmp rfl rfl) rfl) (EN ha (.tmp rfl rfl) rfl) (EN ha (.bool _) rfl)) ?_
        refine Da (.bool (!r42)) rfl rfl rfl rfl ?_
        refine D_nil ?_
        obtain rfl := Option.some.inj hF
        exact ⟨_, _, rfl, (EqL.cons rfl (EqL.nil)).eq, (.sel .nil)⟩
      rw [hg38]
      try rw [hg38] at hF; dsimp only [cond_true, cond_false] at hF
      iterate 8 refine D_off 51 rfl rfl rfl rfl ?_
      refine D_val rfl .no (fun ha => V_pick (b := false) (u := undef) (v := (.bool false)) (EN ha (.tmp rfl rfl) rfl) (EN ha (.tmp rfl rfl) rfl) (EN ha (.bool _) rfl)) ?_
      refine Da (.bool false) rfl rfl rfl rfl ?_
      refine D_nil ?_
      obtain rfl := Option.some.inj hF
      exact ⟨_, _, rfl, (EqL.cons rfl (EqL.nil)).eq, (.sel .nil)⟩
    rw [hg31]
    try rw [hg31] at hF; dsimp only [cond_true, cond_false] at hF
    iterate 7 refine D_off 42 rfl rfl rfl rfl ?_
    refine D_val rfl .no (fun ha => V_pick (b := false) (u := undef) (v := (.bool false)) (EN ha (.tmp rfl rfl) rfl) (EN ha (.tmp rfl rfl) rfl) (EN ha (.bool _) rfl)) ?_
    refine Dm (.bool false) rfl rfl rfl rfl ?_
    iterate 8 refine D_off 51 rfl rfl rfl rfl ?_
    refine D_val rfl .no (fun ha => V_pick (b := false) (u := undef) (v := (.bool false)) (EN ha (.tmp rfl rfl) rfl) (EN ha (.tmp rfl rfl) rfl) (EN ha (.bool _) rfl)) ?_
    refine Da (.bool false) rfl rfl rfl rfl ?_
    refine D_nil ?_
    obtain rfl := Option.some.inj hF
    exact ⟨_, _, rfl, (EqL.cons rfl (EqL.nil)).eq, (.sel .nil)⟩
  rintro _ _ ⟨c45, g46, rfl, rfl, hE⟩
  replace hF := hO21
  clear hO21
  try dsimp only at hF
  refine K_ent hE ?_
  refine CW_ret ?_
  obtain rfl := Option.some.inj hF
  exact End_ret () (.tmp rfl rfl .nil) rfl (.sel .nil)

/-! laws.eqIntS -/
def l_eqIntS_L1 (a_b : List Int) : List Int → Nat → Option (Bool)
  | [], k4 => some true
  | x6 :: rest5, k4 => (ix a_b (k4 : Int)).bind fun x15 =>
    if ((x6 : Int) != x15) then (
      some false)
    else (
      l_eqIntS_L1 a_b rest5 (k4 + 1))
def l_eqIntS (a_a : List Int) (a_b : List Int) : Option (Bool) :=
  if (((a_a.length : Int) : Int) != (a_b.length : Int)) then (
    some false)
  else (
    l_eqIntS_L1 a_b a_a 0)
theorem l_eqIntS_ok (a_a : List Int) (v0_0 : Sv) (a_b : List Int) (v1_0 : Sv) (R : Bool) (hF : l_eqIntS a_a a_b = some R) :
    Fw.Spec Tryz.prog 16 [v0_0.v, v1_0.v] [crd (RdS 3 rdInt) v0_0.v a_a, crd (RdS 3 rdInt) v1_0.v a_b] (fun _ : Unit => (.bool R)) (fun _ => []) := by
  refine Spec_enter (n := 26) Tryz.func16 rfl rfl (rs := [.tmp 4]) rfl rfl rfl ?_
  intro H0 F0
  unfold l_eqIntS at hF
  iterate 11 refine au ?_
  refine Cc (fun hb23 => ?_) (fun hb23 => ?_)
  · rw [if_pos hb23] at hF
    iterate 4 refine au ?_
    cases hF
    exact Er ()
  rw [if_neg (nt hb23)] at hF
  iterate 5 refine au ?_
  refine CW_block (CW_loop (m := a_a.length) (fun m2 f' cs' => ∃ (g : Fr) (k4 : Nat) (rest5 : List Int), m2 = rest5.length ∧ f' = updL g [(0, v0_0.v), (1, v1_0.v), (5, (.int .i64 (k4 : Int)))] ∧ List.drop k4 a_a = rest5 ∧ Ent cs' [crd (RdS 3 rdInt) v0_0.v a_a, crd (RdS 3 rdInt) v1_0.v a_b] ∧ l_eqIntS_L1 a_b rest5 k4 = some R) ⟨_, 0, _, rfl, eqA, rfl, entA, hF⟩ ?_)
  clear hF
  rintro m2 _ _ ⟨g3, k4, rest5, rfl, rfl, hd7, hE, hF⟩
  refine K_ent hE ?_
  clear hE
  refine K_pure (c := crd (RdS 3 rdInt) v0_0.v a_a) .h crd_bound (fun hbd12 => ?_)
  rcases rest5 with _ | ⟨x6, rest5⟩
  · have hk8 := List.drop_eq_nil_iff.1 hd7
    rw [l_eqIntS_L1] at hF
    iterate 7 refine au ?_
    refine CdF ?_
    iterate 8 refine au ?_
    cases hF
    exact Er ()
  obtain ⟨hk8, hx9, hd10⟩ := drop_cons hd7
  rw [l_eqIntS_L1] at hF
  iterate 7 refine au ?_
  refine CdT ?_
  iterate 2 refine au ?_
  refine K_draw [0, 1, 2, 3, 4, 5, 6, 7, 8] [0, 0, 3, 7, 0, 0, 48, 112, 255] [] mixed (by decide +kernel) ?_
  iterate 2 refine du ?_
  refine Di hx9 (fun k13 j14 => ?_)
  refine Dl ls3_0 ?_
  iterate 2 refine du ?_
  obtain ⟨x15, hx16, hF⟩ := bind_some hF
  obtain ⟨hp17, hx18⟩ := ix_some hx16
  refine Di hx18 (fun k19 j20 => ?_)
  refine Dl ls3_0 ?_
  iterate 2 refine du ?_
  refine Cc (fun hb22 => ?_) (fun hb22 => ?_)
  · rw [if_pos hb22] at hF
    iterate 4 refine au ?_
    cases hF
    exact Er ()
  rw [if_neg (nt hb22)] at hF
  iterate 6 refine au ?_
  rw [wk k4]
  exact ⟨_, Nat.lt_succ_self _, _, k4 + 1, rest5, rfl, eqA, hd10, entA, hF⟩

/-! laws.eqMethod -/
def l_eqMethod (a_a : Method) (a_b : Method) : Option (Bool) :=
  if ((a_a.Rel : Int) != a_b.Rel) then (
    some false)
  else (
    (l_eqIntS a_a.Inputs a_b.Inputs).bind fun r3 =>
    if (!r3) then (
      some false)
    else (
      if ((a_a.Limit : Int) != a_b.Limit) then (
        some false)
      else (
        if ((a_a.Cost : Int) != a_b.Cost) then (
          some false)
        else (
          if ((a_a.Quota : Int) != a_b.Quota) then (
            some false)
          else (
            some true)))))
theorem l_eqMethod_ok (a_a : Method) (v0_1 : Sv) (a_b : Method) (v1_1 : Sv) (R : Bool) (hF : l_eqMethod a_a a_b = some R) :
    Fw.Spec Tryz.prog 50 [(.agg [(.int .i64 a_a.Rel), v0_1.v, (.int .i64 a_a.Limit), (.int .i64 a_a.Cost), (.int .i64 a_a.Quota)].toArray), (.agg [(.int .i64 a_b.Rel), v1_1.v, (.int .i64 a_b.Limit), (.int .i64 a_b.Cost), (.int .i64 a_b.Quota)].toArray)] [crd (RdS 3 rdInt) v0_1.v a_a.Inputs, crd (RdS 3 rdInt) v1_1.v a_b.Inputs] (fun _ : Unit => (.bool R)) (fun _ => []) := by
  refine Spec_enter (n := 31) Tryz.func50 rfl rfl (rs := [.tmp 4]) rfl rfl rfl ?_
  intro H0 F0
  unfold l_eqMethod at hF
  refine au ?_
  refine AbR (fun k1 => ?_)
  refine AbR (fun k2 => ?_)
  iterate 10 refine au ?_
  refine Cc (fun hb10 => ?_) (fun hb10 => ?_)
  · rw [if_pos hb10] at hF
    iterate 4 refine au ?_
    cases hF
    exact Er ()
  rw [if_neg (nt hb10)] at hF
  iterate 7 refine au ?_
  obtain ⟨r3, hx4, hF⟩ := bind_some hF
  refine Cx0 (l_eqIntS_ok _ _ _ _ _ hx4) (fun _ => ?_)
  iterate 2 refine au ?_
  refine Cc (fun hb9 => ?_) (fun hb9 => ?_)
  · rw [if_pos hb9] at hF
    iterate 4 refine au ?_
    cases hF
    exact Er ()
  rw [if_neg (nt hb9)] at hF
  iterate 9 refine au ?_
  refine Cc (fun hb8 => ?_) (fun hb8 => ?_)
  · rw [if_pos hb8] at hF
    iterate 4 refine au ?_
    cases hF
    exact Er ()
  rw [if_neg (nt hb8)] at hF
  iterate 9 refine au ?_
  refine Cc (fun hb7 => ?_) (fun hb7 => ?_)
  · rw [if_pos hb7] at hF
    iterate 4 refine au ?_
    cases hF
    exact Er ()
  rw [if_neg (nt hb7)] at hF
  iterate 9 refine au ?_
  refine Cc (fun hb6 => ?_) (fun hb6 => ?_)
  · rw [if_pos hb6] at hF
    iterate 4 refine au ?_
    cases hF
    exact Er ()
  rw [if_neg (nt hb6)] at hF
  iterate 5 refine au ?_
  cases hF
  exact Er ()

/-! laws.eqMethodS -/
def l_eqMethodS_L1 (a_b : List Method) : List Method → Nat → Option (Bool)
  | [], k4 => some true
  | x6 :: rest5, k4 => (ix a_b (k4 : Int)).bind fun x16 =>
    (l_eqMethod x6 x16).bind fun r23 =>
    if (!r23) then (
      some false)
    else (
      l_eqMethodS_L1 a_b rest5 (k4 + 1))
def l_eqMethodS (a_a : List Method) (a_b : List Method) : Option (Bool) :=
  if (((a_a.length : Int) : Int) != (a_b.length : Int)) then (
    some false)
  else (
    l_eqMethodS_L1 a_b a_a 0)
theorem l_eqMethodS_ok (a_a : List Method) (v0_0 : Sv) (a_b : List Method) (v1_0 : Sv) (R : Bool) (hF : l_eqMethodS a_a a_b = some R) :
    Fw.Spec Tryz.prog 17 [v0_0.v, v1_0.v] [crd (RdS 77 rd77) v0_0.v a_a, crd (RdS 77 rd77) v1_0.v a_b] (fun _ : Unit => (.bool R)) (fun _ => []) := by
  refine Spec_enter (n := 27) Tryz.func17 rfl rfl (rs := [.tmp 4]) rfl rfl rfl ?_
  intro H0 F0
  unfold l_eqMethodS at hF
  iterate 11 refine au ?_
  refine Cc (fun hb28 => ?_) (fun hb28 => ?_)
  · rw [if_pos hb28] at hF
    iterate 4 refine au ?_
    cases hF
    exact Er ()
  rw [if_neg (nt hb28)] at hF
  iterate 5 refine au ?_
  refine CW_block (CW_loop (m := a_a.length) (fun m2 f' cs' => ∃ (g : Fr) (k4 : Nat) (rest5 : List Method), m2 = rest5.length ∧ f' = updL g [(0, v0_0.v), (1, v1_0.v), (5, (.int .i64 (k4 : Int)))] ∧ List.drop k4 a_a = rest5 ∧ Ent cs' [crd (RdS 77 rd77) v0_0.v a_a, crd (RdS 77 rd77) v1_0.v a_b] ∧ l_eqMethodS_L1 a_b rest5 k4 = some R) ⟨_, 0, _, rfl, eqA, rfl, entA, hF⟩ ?_)
  clear hF
  rintro m2 _ _ ⟨g3, k4, rest5, rfl, rfl, hd7, hE, hF⟩
  refine K_ent hE ?_
  clear hE
  refine K_pure (c := crd (RdS 77 rd77) v0_0.v a_a) .h crd_bound (fun hbd12 => ?_)
  rcases rest5 with _ | ⟨x6, rest5⟩
  · have hk8 := List.drop_eq_nil_iff.1 hd7
    rw [l_eqMethodS_L1] at hF
    iterate 7 refine au ?_
    refine CdF ?_
    iterate 8 refine au ?_
    cases hF
    exact Er ()
  obtain ⟨hk8, hx9, hd10⟩ := drop_cons hd7
  rw [l_eqMethodS_L1] at hF
  iterate 7 refine au ?_
  refine CdT ?_
  iterate 2 refine au ?_
  refine K_draw [0, 1, 2, 3, 4, 5, 6, 7, 8, 9] [0, 0, 3, 7, 0, 0, 48, 112, 255, 511] [8] mixed (by decide +kernel) ?_
  iterate 2 refine du ?_
  refine Di hx9 (fun k13 j14 => ?_)
  refine DlA1 (ul77_0_77 x6) la77_0_77 (fun p15 => ?_)
  iterate 2 refine du ?_
  obtain ⟨x16, hx17, hF⟩ := bind_some hF
  obtain ⟨hp18, hx19⟩ := ix_some hx17
  refine Di hx19 (fun k20 j21 => ?_)
  refine DlA1 (ul77_0_77 x16) la77_0_77 (fun p22 => ?_)
  obtain ⟨r23, hx24, hF⟩ := bind_some hF
  refine Dx0 (l_eqMethod_ok _ _ _ _ _ hx24) (fun _ => ?_)
  iterate 2 refine du ?_
  refine Cc (fun hb27 => ?_) (fun hb27 => ?_)
  · rw [if_pos hb27] at hF
    iterate 4 refine au ?_
    cases hF
    exact Er ()
  rw [if_neg (nt hb27)] at hF
  iterate 6 refine au ?_
  rw [wk k4]
  exact ⟨_, Nat.lt_succ_self _, _, k4 + 1, rest5, rfl, eqA, hd10, entA, hF⟩

/-! laws.eqAtom -/
def l_eqAtom (a_a : Atom) (a_b : Atom) : Option (Bool) :=
  if ((a_a.Rel : Int) != a_b.Rel) then (
    some false)
  else (
    (l_eqIntS a_a.Terms a_b.Terms).bind fun r3 =>
    if (!r3) then (
      some false)
    else (
      some true))
theorem l_eqAtom_ok (a_a : Atom) (v0_1 : Sv) (a_b : Atom) (v1_1 : Sv) (R : Bool) (hF : l_eqAtom a_a a_b = some R) :
    Fw.Spec Tryz.prog 86 [(.agg [(.int .i64 a_a.Rel), v0_1.v].toArray), (.agg [(.int .i64 a_b.Rel), v1_1.v].toArray)] [crd (RdS 3 rdInt) v0_1.v a_a.Terms, crd (RdS 3 rdInt) v1_1.v a_b.Terms] (fun _ : Unit => (.bool R)) (fun _ => []) := by
  refine Spec_enter (n := 16) Tryz.func86 rfl rfl (rs := [.tmp 4]) rfl rfl rfl ?_
  intro H0 F0
  unfold l_eqAtom at hF
  refine au ?_
  refine AbR (fun k1 => ?_)
  refine AbR (fun k2 => ?_)
  iterate 10 refine au ?_
  refine Cc (fun hb7 => ?_) (fun hb7 => ?_)
  · rw [if_pos hb7] at hF
    iterate 4 refine au ?_
    cases hF
    exact Er ()
  rw [if_neg (nt hb7)] at hF
  iterate 7 refine au ?_
  obtain ⟨r3, hx4, hF⟩ := bind_some hF
  refine Cx0 (l_eqIntS_ok _ _ _ _ _ hx4) (fun _ => ?_)
  iterate 2 refine au ?_
  refine Cc (fun hb6 => ?_) (fun hb6 => ?_)
  · rw [if_pos hb6] at hF
    iterate 4 refine au ?_
    cases hF
    exact Er ()
  rw [if_neg (nt hb6)] at hF
  iterate 5 refine au ?_
  cases hF
  exact Er ()

/-! laws.eqAtomS -/
def l_eqAtomS_L1 (a_b : List Atom) : List Atom → Nat → Option (Bool)
  | [], k4 => some true
  | x6 :: rest5, k4 => (ix a_b (k4 : Int)).bind fun x16 =>
    (l_eqAtom x6 x16).bind fun r23 =>
    if (!r23) then (
      some false)
    else (
      l_eqAtomS_L1 a_b rest5 (k4 + 1))
def l_eqAtomS (a_a : List Atom) (a_b : List Atom) : Option (Bool) :=
  if (((a_a.length : Int) : Int) != (a_b.length : Int)) then (
    some false)
  else (
    l_eqAtomS_L1 a_b a_a 0)
theorem l_eqAtomS_ok (a_a : List Atom) (v0_0 : Sv) (a_b : List Atom) (v1_0 : Sv) (R : Bool) (hF : l_eqAtomS a_a a_b = some R) :
    Fw.Spec Tryz.prog 51 [v0_0.v, v1_0.v] [crd (RdS 102 rd102) v0_0.v a_a, crd (RdS 102 rd102) v1_0.v a_b] (fun _ : Unit => (.bool R)) (fun _ => []) := by
  refine Spec_enter (n := 27) Tryz.func51 rfl rfl (rs := [.tmp 4]) rfl rfl rfl ?_
  intro H0 F0
  unfold l_eqAtomS at hF
  iterate 11 refine au ?_
  refine Cc (fun hb28 => ?_) (fun hb28 => ?_)
  · rw [if_pos hb28] at hF
    iterate 4 refine au ?_
    cases hF
    exact Er ()
  rw [if_neg (nt hb28)] at hF
  iterate 5 refine au ?_
  refine CW_block (CW_loop (m := a_a.length) (fun m2 f' cs' => ∃ (g : Fr) (k4 : Nat) (rest5 : List Atom), m2 = rest5.length ∧ f' = updL g [(0, v0_0.v), (1, v1_0.v), (5, (.int .i64 (k4 : Int)))] ∧ List.drop k4 a_a = rest5 ∧ Ent cs' [crd (RdS 102 rd102) v0_0.v a_a, crd (RdS 102 rd102) v1_0.v a_b] ∧ l_eqAtomS_L1 a_b rest5 k4 = some R) ⟨_, 0, _, rfl, eqA, rfl, entA, hF⟩ ?_)
  clear hF
  rintro m2 _ _ ⟨g3, k4, rest5, rfl, rfl, hd7, hE, hF⟩
  refine K_ent hE ?_
  clear hE
  refine K_pure (c := crd (RdS 102 rd102) v0_0.v a_a) .h crd_bound (fun hbd12 => ?_)
  rcases rest5 with _ | ⟨x6, rest5⟩
  · have hk8 := List.drop_eq_nil_iff.1 hd7
    rw [l_eqAtomS_L1] at hF
    iterate 7 refine au ?_
    refine CdF ?_
    iterate 8 refine au ?_
    cases hF
    exact Er ()
  obtain ⟨hk8, hx9, hd10⟩ := drop_cons hd7
  rw [l_eqAtomS_L1] at hF
  iterate 7 refine au ?_
  refine CdT ?_
  iterate 2 refine au ?_
  refine K_draw [0, 1, 2, 3, 4, 5, 6, 7, 8, 9] [0, 0, 3, 7, 0, 0, 48, 112, 255, 511] [8] mixed (by decide +kernel) ?_
  iterate 2 refine du ?_
  refine Di hx9 (fun k13 j14 => ?_)
  refine DlA1 (ul102_0_102 x6) la102_0_102 (fun p15 => ?_)
  iterate 2 refine du ?_
  obtain ⟨x16, hx17, hF⟩ := bind_some hF
  obtain ⟨hp18, hx19⟩ := ix_some hx17
  refine Di hx19 (fun k20 j21 => ?_)
  refine DlA1 (ul102_0_102 x16) la102_0_102 (fun p22 => ?_)
  obtain ⟨r23, hx24, hF⟩ := bind_some hF
  refine Dx0 (l_eqAtom_ok _ _ _ _ _ hx24) (fun _ => ?_)
  iterate 2 refine du ?_
  refine Cc (fun hb27 => ?_) (fun hb27 => ?_)
  · rw [if_pos hb27] at hF
    iterate 4 refine au ?_
    cases hF
    exact Er ()
  rw [if_neg (nt hb27)] at hF
  iterate 6 refine au ?_
  rw [wk k4]
  exact ⟨_, Nat.lt_succ_self _, _, k4 + 1, rest5, rfl, eqA, hd10, entA, hF⟩

/-! laws.eqQuery -/
def l_eqQuery (a_a : Query) (a_b : Query) : Option (Bool) :=
  (l_eqIntS a_a.Head a_b.Head).bind fun r3 =>
  if (!r3) then (
    some false)
  else (
    (l_eqAtomS a_a.Atoms a_b.Atoms).bind fun r6 =>
    if (!r6) then (
      some false)
    else (
      some true))
theorem l_eqQuery_ok (a_a : Query) (v0_0 : Sv) (v0_1 : Sv) (a_b : Query) (v1_0 : Sv) (v1_1 : Sv) (R : Bool) (hF : l_eqQuery a_a a_b = some R) :
    Fw.Spec Tryz.prog 18 [(.agg [v0_0.v, v0_1.v].toArray), (.agg [v1_0.v, v1_1.v].toArray)] [crd (RdS 3 rdInt) v0_0.v a_a.Head, crd (RdS 102 rd102) v0_1.v a_a.Atoms, crd (RdS 3 rdInt) v1_0.v a_b.Head, crd (RdS 102 rd102) v1_1.v a_b.Atoms] (fun _ : Unit => (.bool R)) (fun _ => []) := by
  refine Spec_enter (n := 17) Tryz.func18 rfl rfl (rs := [.tmp 4]) rfl rfl rfl ?_
  intro H0 F0
  unfold l_eqQuery at hF
  refine au ?_
  refine AbR (fun k1 => ?_)
  refine AbR (fun k2 => ?_)
  iterate 8 refine au ?_
  obtain ⟨r3, hx4, hF⟩ := bind_some hF
  refine Cx0 (l_eqIntS_ok _ _ _ _ _ hx4) (fun _ => ?_)
  iterate 2 refine au ?_
  refine Cc (fun hb10 => ?_) (fun hb10 => ?_)
  · rw [if_pos hb10] at hF
    iterate 4 refine au ?_
    cases hF
    exact Er ()
  rw [if_neg (nt hb10)] at hF
  iterate 7 refine au ?_
  obtain ⟨r6, hx7, hF⟩ := bind_some hF
  refine Cx0 (l_eqAtomS_ok _ _ _ _ _ hx7) (fun _ => ?_)
  iterate 2 refine au ?_
  refine Cc (fun hb9 => ?_) (fun hb9 => ?_)
  · rw [if_pos hb9] at hF
    iterate 4 refine au ?_
    cases hF
    exact Er ()
  rw [if_neg (nt hb9)] at hF
  iterate 5 refine au ?_
  cases hF
  exact Er ()

/-! laws.eqFact -/
def l_eqFact (a_a : Fact) (a_b : Fact) : Option (Bool) :=
  if ((a_a.Rel : Int) != a_b.Rel) then (
    some false)
  else (
    (l_eqIntS a_a.Values a_b.Values).bind fun r3 =>
    if (!r3) then (
      some false)
    else (
      some true))
theorem l_eqFact_ok (a_a : Fact) (v0_1 : Sv) (a_b : Fact) (v1_1 : Sv) (R : Bool) (hF : l_eqFact a_a a_b = some R) :
    Fw.Spec Tryz.prog 52 [(.agg [(.int .i64 a_a.Rel), v0_1.v].toArray), (.agg [(.int .i64 a_b.Rel), v1_1.v].toArray)] [crd (RdS 3 rdInt) v0_1.v a_a.Values, crd (RdS 3 rdInt) v1_1.v a_b.Values] (fun _ : Unit => (.bool R)) (fun _ => []) := by
  refine Spec_enter (n := 16) Tryz.func52 rfl rfl (rs := [.tmp 4]) rfl rfl rfl ?_
  intro H0 F0
  unfold l_eqFact at hF
  refine au ?_
  refine AbR (fun k1 => ?_)
  refine AbR (fun k2 => ?_)
  iterate 10 refine au ?_
  refine Cc (fun hb7 => ?_) (fun hb7 => ?_)
  · rw [if_pos hb7] at hF
    iterate 4 refine au ?_
    cases hF
    exact Er ()
  rw [if_neg (nt hb7)] at hF
  iterate 7 refine au ?_
  obtain ⟨r3, hx4, hF⟩ := bind_some hF
  refine Cx0 (l_eqIntS_ok _ _ _ _ _ hx4) (fun _ => ?_)
  iterate 2 refine au ?_
  refine Cc (fun hb6 => ?_) (fun hb6 => ?_)
  · rw [if_pos hb6] at hF
    iterate 4 refine au ?_
    cases hF
    exact Er ()
  rw [if_neg (nt hb6)] at hF
  iterate 5 refine au ?_
  cases hF
  exact Er ()

/-! laws.eqFactS -/
def l_eqFactS_L1 (a_b : List Fact) : List Fact → Nat → Option (Bool)
  | [], k4 => some true
  | x6 :: rest5, k4 => (ix a_b (k4 : Int)).bind fun x16 =>
    (l_eqFact x6 x16).bind fun r23 =>
    if (!r23) then (
      some false)
    else (
      l_eqFactS_L1 a_b rest5 (k4 + 1))
def l_eqFactS (a_a : List Fact) (a_b : List Fact) : Option (Bool) :=
  if (((a_a.length : Int) : Int) != (a_b.length : Int)) then (
    some false)
  else (
    l_eqFactS_L1 a_b a_a 0)
theorem l_eqFactS_ok (a_a : List Fact) (v0_0 : Sv) (a_b : List Fact) (v1_0 : Sv) (R : Bool) (hF : l_eqFactS a_a a_b = some R) :
    Fw.Spec Tryz.prog 19 [v0_0.v, v1_0.v] [crd (RdS 80 rd80) v0_0.v a_a, crd (RdS 80 rd80) v1_0.v a_b] (fun _ : Unit => (.bool R)) (fun _ => []) := by
  refine Spec_enter (n := 27) Tryz.func19 rfl rfl (rs := [.tmp 4]) rfl rfl rfl ?_
  intro H0 F0
  unfold l_eqFactS at hF
  iterate 11 refine au ?_
  refine Cc (fun hb28 => ?_) (fun hb28 => ?_)
  · rw [if_pos hb28] at hF
    iterate 4 refine au ?_
    cases hF
    exact Er ()
  rw [if_neg (nt hb28)] at hF
  iterate 5 refine au ?_
  refine CW_block (CW_loop (m := a_a.length) (fun m2 f' cs' => ∃ (g : Fr) (k4 : Nat) (rest5 : List Fact), m2 = rest5.length ∧ f' = updL g [(0, v0_0.v), (1, v1_0.v), (5, (.int .i64 (k4 : Int)))] ∧ List.drop k4 a_a = rest5 ∧ Ent cs' [crd (RdS 80 rd80) v0_0.v a_a, crd (RdS 80 rd80) v1_0.v a_b] ∧ l_eqFactS_L1 a_b rest5 k4 = some R) ⟨_, 0, _, rfl, eqA, rfl, entA, hF⟩ ?_)
  clear hF
  rintro m2 _ _ ⟨g3, k4, rest5, rfl, rfl, hd7, hE, hF⟩
  refine K_ent hE ?_
  clear hE
  refine K_pure (c := crd (RdS 80 rd80) v0_0.v a_a) .h crd_bound (fun hbd12 => ?_)
  rcases rest5 with _ | ⟨x6, rest5⟩
  · have hk8 := List.drop_eq_nil_iff.1 hd7
    rw [l_eqFactS_L1] at hF
    iterate 7 refine au ?_
    refine CdF ?_
    iterate 8 refine au ?_
    cases hF
    exact Er ()
  obtain ⟨hk8, hx9, hd10⟩ := drop_cons hd7
  rw [l_eqFactS_L1] at hF
  iterate 7 refine au ?_
  refine CdT ?_
  iterate 2 refine au ?_
  refine K_draw [0, 1, 2, 3, 4, 5, 6, 7, 8, 9] [0, 0, 3, 7, 0, 0, 48, 112, 255, 511] [8] mixed (by decide +kernel) ?_
  iterate 2 refine du ?_
  refine Di hx9 (fun k13 j14 => ?_)
  refine DlA1 (ul80_0_80 x6) la80_0_80 (fun p15 => ?_)
  iterate 2 refine du ?_
  obtain ⟨x16, hx17, hF⟩ := bind_some hF
  obtain ⟨hp18, hx19⟩ := ix_some hx17
  refine Di hx19 (fun k20 j21 => ?_)
  refine DlA1 (ul80_0_80 x16) la80_0_80 (fun p22 => ?_)
  obtain ⟨r23, hx24, hF⟩ := bind_some hF
  refine Dx0 (l_eqFact_ok _ _ _ _ _ hx24) (fun _ => ?_)
  iterate 2 refine du ?_
  refine Cc (fun hb27 => ?_) (fun hb27 => ?_)
  · rw [if_pos hb27] at hF
    iterate 4 refine au ?_
    cases hF
    exact Er ()
  rw [if_neg (nt hb27)] at hF
  iterate 6 refine au ?_
  rw [wk k4]
  exact ⟨_, Nat.lt_succ_self _, _, k4 + 1, rest5, rfl, eqA, hd10, entA, hF⟩

/-! laws.eqCertificate -/
def l_eqCertificate (a_a : Certificate) (a_b : Certificate) : Option (Bool) :=
  (l_eqFactS a_a.All a_b.All).bind fun r3 =>
  if (!r3) then (
    some false)
  else (
    (l_eqFactS a_a.Some a_b.Some).bind fun r6 =>
    if (!r6) then (
      some false)
    else (
      (l_eqIntS a_a.Tuple a_b.Tuple).bind fun r9 =>
      if (!r9) then (
        some false)
      else (
        some true)))
theorem l_eqCertificate_ok (a_a : Certificate) (v0_0 : Sv) (v0_1 : Sv) (v0_2 : Sv) (a_b : Certificate) (v1_0 : Sv) (v1_1 : Sv) (v1_2 : Sv) (R : Bool) (hF : l_eqCertificate a_a a_b = some R) :
    Fw.Spec Tryz.prog 30 [(.agg [v0_0.v, v0_1.v, v0_2.v].toArray), (.agg [v1_0.v, v1_1.v, v1_2.v].toArray)] [crd (RdS 80 rd80) v0_0.v a_a.All, crd (RdS 80 rd80) v0_1.v a_a.Some, crd (RdS 3 rdInt) v0_2.v a_a.Tuple, crd (RdS 80 rd80) v1_0.v a_b.All, crd (RdS 80 rd80) v1_1.v a_b.Some, crd (RdS 3 rdInt) v1_2.v a_b.Tuple] (fun _ : Unit => (.bool R)) (fun _ => []) := by
  refine Spec_enter (n := 23) Tryz.func30 rfl rfl (rs := [.tmp 4]) rfl rfl rfl ?_
  intro H0 F0
  unfold l_eqCertificate at hF
  refine au ?_
  refine AbR (fun k1 => ?_)
  refine AbR (fun k2 => ?_)
  iterate 8 refine au ?_
  obtain ⟨r3, hx4, hF⟩ := bind_some hF
  refine Cx0 (l_eqFactS_ok _ _ _ _ _ hx4) (fun _ => ?_)
  iterate 2 refine au ?_
  refine Cc (fun hb14 => ?_) (fun hb14 => ?_)
  · rw [if_pos hb14] at hF
    iterate 4 refine au ?_
    cases hF
    exact Er ()
  rw [if_neg (nt hb14)] at hF
  iterate 7 refine au ?_
  obtain ⟨r6, hx7, hF⟩ := bind_some hF
  refine Cx0 (l_eqFactS_ok _ _ _ _ _ hx7) (fun _ => ?_)
  iterate 2 refine au ?_
  refine Cc (fun hb13 => ?_) (fun hb13 => ?_)
  · rw [if_pos hb13] at hF
    iterate 4 refine au ?_
    cases hF
    exact Er ()
  rw [if_neg (nt hb13)] at hF
  iterate 7 refine au ?_
  obtain ⟨r9, hx10, hF⟩ := bind_some hF
  refine Cx0 (l_eqIntS_ok _ _ _ _ _ hx10) (fun _ => ?_)
  iterate 2 refine au ?_
  refine Cc (fun hb12 => ?_) (fun hb12 => ?_)
  · rw [if_pos hb12] at hF
    iterate 4 refine au ?_
    cases hF
    exact Er ()
  rw [if_neg (nt hb12)] at hF
  iterate 5 refine au ?_
  cases hF
  exact Er ()

/-! laws.FnExactCheckCertificate -/
def l_FnExactCheckCertificate (a_aS : List Int) (a_aL : List Method) (a_aQ : Query) (a_aC : Certificate) : Option (Bool) :=
  if (decide ((1048576 : Int) < (a_aS.length : Int))) then (
    some true)
  else (
    (l_szMethodS a_aL 1048576).bind fun r3 =>
    if (decide ((r3 : Int) < 0)) then (
      some true)
    else (
      (l_szQuery a_aQ r3).bind fun r6 =>
      if (decide ((r6 : Int) < 0)) then (
        some true)
      else (
        (l_szCertificate a_aC r6).bind fun r9 =>
        if (decide ((r9 : Int) < 0)) then (
          some true)
        else (
          (l_toIntS a_aS).bind fun r12 =>
          (l_toMethodS a_aL).bind fun r15 =>
          (l_toQuery a_aQ).bind fun r18 =>
          (l_toCertificate a_aC).bind fun r21 =>
          (s_CheckCertificate r12 r15 r18 r21).bind fun r24 =>
          (l_toIntS a_aS).bind fun r27 =>
          (l_toMethodS a_aL).bind fun r30 =>
          (l_toQuery a_aQ).bind fun r33 =>
          (l_toCertificate a_aC).bind fun r37 =>
          (i_CheckCertificate r27 r30 r33 r37).bind fun r41 =>
          if (!(r41 == r24)) then (
            some false)
          else (
            (l_toIntS a_aS).bind fun r44 =>
            (l_eqIntS r27 r44).bind fun r47 =>
            if (!r47) then (
              some false)
            else (
              (l_toMethodS a_aL).bind fun r50 =>
              (l_eqMethodS r30 r50).bind fun r53 =>
              if (!r53) then (
                some false)
              else (
                (l_toQuery a_aQ).bind fun r56 =>
                (l_eqQuery r33 r56).bind fun r59 =>
                if (!r59) then (
                  some false)
                else (
                  (l_toCertificate a_aC).bind fun r62 =>
                  (l_eqCertificate r37 r62).bind fun r65 =>
                  if (!r65) then (
                    some false)
                  else (
                    some true)))))))))
theorem l_FnExactCheckCertificate_ok (a_aS : List Int) (v0_0 : Sv) (a_aL : List Method) (v1_0 : Sv) (a_aQ : Query) (v2_0 : Sv) (v2_1 : Sv) (a_aC : Certificate) (v3_0 : Sv) (v3_1 : Sv) (v3_2 : Sv) (R : Bool) (hF : l_FnExactCheckCertificate a_aS a_aL a_aQ a_aC = some R) :
    Fw.Spec Tryz.prog 4 [v0_0.v, v1_0.v, (.agg [v2_0.v, v2_1.v].toArray), (.agg [v3_0.v, v3_1.v, v3_2.v].toArray)] [crd (RdS 3 rdInt) v0_0.v a_aS, crd (RdS 64 rd64) v1_0.v a_aL, crd (RdS 3 rdInt) v2_0.v a_aQ.Head, crd (RdS 94 rd94) v2_1.v a_aQ.Atoms, crd (RdS 68 rd68) v3_0.v a_aC.All, crd (RdS 68 rd68) v3_1.v a_aC.Some, crd (RdS 3 rdInt) v3_2.v a_aC.Tuple] (fun _ : Unit => (.bool R)) (fun _ => []) := by
  refine Spec_enter (n := 79) Tryz.func4 rfl rfl (rs := [.tmp 8]) rfl rfl rfl ?_
  intro H0 F0
  unfold l_FnExactCheckCertificate at hF
  refine K_region (C_newR rfl (N_box (g := false) (v := (.agg [v2_0.v, v2_1.v].toArray)) ty26.h.sz (.tmp rfl rfl) rfl) (fun k1 => ?_))
  refine C_newR rfl (N_box (g := false) (v := (.agg [v3_0.v, v3_1.v, v3_2.v].toArray)) ty54.h.sz (.tmp rfl rfl) rfl) (fun k2 => ?_)
  refine C_val (V_assign (v := (.bool false)) (.bool _)) ?_
  refine C_nil (K_in (K_region (Cm v0_0.v rfl rfl ?_)))
  refine C_at (.t (.t .h)) (fun hp => V_lenR (l := a_aS.length) sl22.h (.tmp rfl rfl) (crd_len hp)) ?_
  refine C_val (V_gtr (i := (a_aS.length : Int)) (j := 1048576) (.tmp rfl rfl) (.int _ _)) ?_
  refine C_nil (CW_cond (b := (decide ((1048576 : Int) < (a_aS.length : Int)))) (.tmp rfl rfl) (fun hb76 => ?_) (fun hb76 => ?_))
  · rw [if_pos hb76] at hF
    refine K_region (C_val (V_assign (v := (.bool true)) (.bool _)) ?_)
    refine C_nil (CW_ret ?_)
    obtain rfl := Option.some.inj hF
    exact End_ret () (.tmp rfl rfl .nil) rfl (.sel .nil)
  rw [if_neg (by rw [hb76]; exact Bool.false_ne_true)] at hF
  refine CW_skip (K_region (C_val (V_assign (v := (.int .i64 1048576)) (.int _ _)) ?_))
  refine C_nil (K_region (Cm v1_0.v rfl rfl ?_))
  refine Cm (.int .i64 1048576) rfl rfl ?_
  obtain ⟨r3, hx4, hF⟩ := bind_some hF
  refine C_x0 (.rd (.t (.t (.t .h))) rfl .nil) (X_callS cf6.h (.cons (.tmp rfl rfl) (.cons (.tmp rfl rfl) .nil)) (l_szMethodS_ok a_aL v1_0 1048576 _ hx4)) (fun _ => ?_)
  refine Ca (.int .i64 r3) rfl rfl ?_
  refine C_nil (K_in (K_region (Cm (.int .i64 r3) rfl rfl ?_)))
  refine C_val (V_lss (i := r3) (j := 0) (.tmp rfl rfl) (.int _ _)) ?_
  refine C_nil (CW_cond (b := (decide ((r3 : Int) < 0))) (.tmp rfl rfl) (fun hb75 => ?_) (fun hb75 => ?_))
  · rw [if_pos hb75] at hF
    refine K_region (C_val (V_assign (v := (.bool true)) (.bool _)) ?_)
    refine C_nil (CW_ret ?_)
    obtain rfl := Option.some.inj hF
    exact End_ret () (.tmp rfl rfl .nil) rfl (.sel .nil)
  rw [if_neg (by rw [hb75]; exact Bool.false_ne_true)] at hF
  refine CW_skip (K_region (C_at (.t .h) (fun hp => V_loadBox ag26.h ty26.h.sz rfl (.tmp rfl rfl) hp.2 rfl) ?_))
  refine Cm (.int .i64 r3) rfl rfl ?_
  obtain ⟨r6, hx7, hF⟩ := bind_some hF
  refine C_x0 (.rd (.t (.t (.t (.t .h)))) rfl (.rd (.t (.t (.t (.t (.t .h))))) rfl .nil)) (X_callS cf7.h (.cons (.tmp rfl rfl) (.cons (.tmp rfl rfl) .nil)) (l_szQuery_ok a_aQ v2_0 v2_1 r3 _ hx7)) (fun _ => ?_)
  refine Ca (.int .i64 r6) rfl rfl ?_
  refine C_nil (K_in (K_region (Cm (.int .i64 r6) rfl rfl ?_)))
  refine C_val (V_lss (i := r6) (j := 0) (.tmp rfl rfl) (.int _ _)) ?_
  refine C_nil (CW_cond (b := (decide ((r6 : Int) < 0))) (.tmp rfl rfl) (fun hb74 => ?_) (fun hb74 => ?_))
  · rw [if_pos hb74] at hF
    refine K_region (C_val (V_assign (v := (.bool true)) (.bool _)) ?_)
    refine C_nil (CW_ret ?_)
    obtain rfl := Option.some.inj hF
    exact End_ret () (.tmp rfl rfl .nil) rfl (.sel .nil)
  rw [if_neg (by rw [hb74]; exact Bool.false_ne_true)] at hF
  refine CW_skip (K_region (C_at .h (fun hp => V_loadBox ag54.h ty54.h.sz rfl (.tmp rfl rfl) hp.2 rfl) ?_))
  refine Cm (.int .i64 r6) rfl rfl ?_
  obtain ⟨r9, hx10, hF⟩ := bind_some hF
  refine C_x0 (.rd (.t (.t (.t (.t (.t (.t .h)))))) rfl (.rd (.t (.t (.t (.t (.t (.t (.t .h))))))) rfl (.rd (.t (.t (.t (.t (.t (.t (.t (.t .h)))))))) rfl .nil))) (X_callS cf26.h (.cons (.tmp rfl rfl) (.cons (.tmp rfl rfl) .nil)) (l_szCertificate_ok a_aC v3_0 v3_1 v3_2 r6 _ hx10)) (fun _ => ?_)
  refine Ca (.int .i64 r9) rfl rfl ?_
  refine C_nil (K_in (K_region (Cm (.int .i64 r9) rfl rfl ?_)))
  refine C_val (V_lss (i := r9) (j := 0) (.tmp rfl rfl) (.int _ _)) ?_
  refine C_nil (CW_cond (b := (decide ((r9 : Int) < 0))) (.tmp rfl rfl) (fun hb73 => ?_) (fun hb73 => ?_))
  · rw [if_pos hb73] at hF
    refine K_region (C_val (V_assign (v := (.bool true)) (.bool _)) ?_)
    refine C_nil (CW_ret ?_)
    obtain rfl := Option.some.inj hF
    exact End_ret () (.tmp rfl rfl .nil) rfl (.sel .nil)
  rw [if_neg (by rw [hb73]; exact Bool.false_ne_true)] at hF
  refine CW_skip (K_draw [0, 2, 4, 6, 1, 3, 5, 7, 8, 9] [0, 1, 0, 7, 0, 31, 0, 127, 255, 511] [1, 3, 5, 7, 8] mixed (by decide +kernel) ?_)
  refine Dm v0_0.v rfl rfl rfl rfl ?_
  refine Dm v1_0.v rfl rfl rfl rfl ?_
  refine D_at rfl .no (.t .h) rfl (fun ha hp => V_loadBox ag26.h ty26.h.sz rfl (EN ha (.tmp rfl rfl) rfl) hp.2 rfl) ?_
  refine D_at rfl .no .h rfl (fun ha hp => V_loadBox ag54.h ty54.h.sz rfl (EN ha (.tmp rfl rfl) rfl) hp.2 rfl) ?_
  obtain ⟨r12, hx13, hF⟩ := bind_some hF
  refine D_act1 rfl rfl .no (.rd (.t (.t .h)) rfl .nil) .nil (fun ha => X_callS cf10.h (.cons (EN ha (.tmp rfl rfl) rfl) .nil) (l_toIntS_ok a_aS v0_0 _ hx13)) (fun p14 => ?_)
  obtain ⟨r15, hx16, hF⟩ := bind_some hF
  refine D_act1 rfl rfl .no (.rd (.t (.t (.t (.t .h)))) rfl .nil) .nil (fun ha => X_callS cf11.h (.cons (EN ha (.tmp rfl rfl) rfl) .nil) (l_toMethodS_ok a_aL v1_0 _ hx16)) (fun p17 => ?_)
  obtain ⟨r18, hx19, hF⟩ := bind_some hF
  refine D_act2 rfl rfl .no (.rd (.t (.t (.t (.t (.t (.t .h)))))) rfl (.rd (.t (.t (.t (.t (.t (.t (.t .h))))))) rfl .nil)) .nil (fun ha => X_callS cf12.h (.cons (EN ha (.tmp rfl rfl) rfl) .nil) (l_toQuery_ok a_aQ v2_0 v2_1 _ hx19)) (fun p20 => ?_)
  obtain ⟨r21, hx22, hF⟩ := bind_some hF
  refine D_act3 rfl rfl .no (.rd (.t (.t (.t (.t (.t (.t (.t (.t (.t (.t .h)))))))))) rfl (.rd (.t (.t (.t (.t (.t (.t (.t (.t (.t (.t (.t .h))))))))))) rfl (.rd (.t (.t (.t (.t (.t (.t (.t (.t (.t (.t (.t (.t .h)))))))))))) rfl .nil))) .nil (fun ha => X_callS cf28.h (.cons (EN ha (.tmp rfl rfl) rfl) .nil) (l_toCertificate_ok a_aC v3_0 v3_1 v3_2 _ hx22)) (fun p23 => ?_)
  obtain ⟨r24, hx25, hF⟩ := bind_some hF
  refine D_act7 rfl rfl .no (.cons (.t (.t .h)) (.cons (.t .h) (.cons .h (.cons (.t .h) (.cons .h (.cons .h (.cons .h .nil))))))) .nil (fun ha => XC_borL (pre := []) (.cons frz_own (.cons frz_own (.cons frz_own (.cons frz_own (.cons frz_own (.cons frz_own (.cons frz_own .nil))))))) (fun _ => .nil) (X_callS cf27.h (.cons (EN ha (.tmp rfl rfl) rfl) (.cons (EN ha (.tmp rfl rfl) rfl) (.cons (EN ha (.tmp rfl rfl) rfl) (.cons (EN ha (.tmp rfl rfl) rfl) .nil)))) (s_CheckCertificate_ok r12 p14.1 r15 p17.1 r18 p20.1 p20.2.2.1 r21 p23.1 p23.2.2.1 p23.2.2.2.2.1 _ hx25))) (fun _ => ?_)
  refine Da (.bool r24) rfl rfl rfl rfl ?_
  refine D_nil (K_region (Cm v0_0.v rfl rfl ?_))
  obtain ⟨r27, hx28, hF⟩ := bind_some hF
  refine C_x1 (.rd (.t (.t (.t (.t (.t (.t (.t (.t (.t .h))))))))) rfl .nil) (X_callS cf10.h (.cons (.tmp rfl rfl) .nil) (l_toIntS_ok a_aS v0_0 _ hx28)) (fun p29 => ?_)
  refine Ca p29.1.v rfl rfl ?_
  refine C_nil (K_region (Cm v1_0.v rfl rfl ?_))
  obtain ⟨r30, hx31, hF⟩ := bind_some hF
  refine C_x1 (.rd (.t (.t (.t (.t (.t (.t (.t (.t (.t (.t (.t .h))))))))))) rfl .nil) (X_callS cf11.h (.cons (.tmp rfl rfl) .nil) (l_toMethodS_ok a_aL v1_0 _ hx31)) (fun p32 => ?_)
  refine Ca p32.1.v rfl rfl ?_
  refine C_nil (K_region (C_at (.t (.t (.t (.t (.t (.t (.t (.t (.t (.t .h)))))))))) (fun hp => V_loadBox ag26.h ty26.h.sz rfl (.tmp rfl rfl) hp.2 rfl) ?_))
  obtain ⟨r33, hx34, hF⟩ := bind_some hF
  refine C_x2 (.rd (.t (.t (.t (.t (.t (.t (.t (.t (.t (.t (.t (.t (.t .h))))))))))))) rfl (.rd (.t (.t (.t (.t (.t (.t (.t (.t (.t (.t (.t (.t (.t (.t .h)))))))))))))) rfl .nil)) (X_callS cf12.h (.cons (.tmp rfl rfl) .nil) (l_toQuery_ok a_aQ v2_0 v2_1 _ hx34)) (fun p35 => ?_)
  refine C_new rfl (N_allocT (g := true) ty38.h rfl rfl) (fun k36 => ?_)
  refine C_x1 (.cons .h .nil) (X_storeB (e' := (.agg [p35.1.v, p35.2.2.1.v].toArray)) (v := (.agg [p35.1.v, p35.2.2.1.v].toArray)) ty38.h.sz (.tmp rfl rfl) (.tmp rfl rfl) rfl rfl rfl rfl rfl) (fun _ => ?_)
  refine C_nil (K_region (C_at (.t (.t (.t (.t (.t (.t (.t (.t (.t (.t (.t (.t .h)))))))))))) (fun hp => V_loadBox ag54.h ty54.h.sz rfl (.tmp rfl rfl) hp.2 rfl) ?_))
  obtain ⟨r37, hx38, hF⟩ := bind_some hF
  refine C_x3 (.rd (.t (.t (.t (.t (.t (.t (.t (.t (.t (.t (.t (.t (.t (.t (.t (.t (.t (.t .h)))))))))))))))))) rfl (.rd (.t (.t (.t (.t (.t (.t (.t (.t (.t (.t (.t (.t (.t (.t (.t (.t (.t (.t (.t .h))))))))))))))))))) rfl (.rd (.t (.t (.t (.t (.t (.t (.t (.t (.t (.t (.t (.t (.t (.t (.t (.t (.t (.t (.t (.t .h)))))))))))))))))))) rfl .nil))) (X_callS cf28.h (.cons (.tmp rfl rfl) .nil) (l_toCertificate_ok a_aC v3_0 v3_1 v3_2 _ hx38)) (fun p39 => ?_)
  refine C_new rfl (N_allocT (g := true) ty58.h rfl rfl) (fun k40 => ?_)
  refine C_x1 (.cons .h .nil) (X_storeB (e' := (.agg [p39.1.v, p39.2.2.1.v, p39.2.2.2.2.1.v].toArray)) (v := (.agg [p39.1.v, p39.2.2.1.v, p39.2.2.2.2.1.v].toArray)) ty58.h.sz (.tmp rfl rfl) (.tmp rfl rfl) rfl rfl rfl rfl rfl) (fun _ => ?_)
  refine C_nil (K_region (Cm p29.1.v rfl rfl ?_))
  refine Cm p32.1.v rfl rfl ?_
  refine C_at (.t (.t (.t (.t .h)))) (fun hp => V_loadBox ag38.h ty38.h.sz rfl (.tmp rfl rfl) hp.2 rfl) ?_
  refine C_at .h (fun hp => V_loadBox ag58.h ty58.h.sz rfl (.tmp rfl rfl) hp.2 rfl) ?_
  obtain ⟨r41, hx42, hF⟩ := bind_some hF
  refine C_x7 (.cons (.t (.t (.t .h))) (.cons (.t (.t .h)) (.cons (.t .h) (.cons (.t (.t (.t .h))) (.cons (.t (.t .h)) (.cons (.t (.t .h)) (.cons (.t (.t .h)) .nil))))))) (XC_borL (pre := []) (.cons frz_own (.cons frz_own (.cons frz_own (.cons frz_own (.cons frz_own (.cons frz_own (.cons frz_own .nil))))))) (fun _ => .nil) (X_callS cf29.h (.cons (.tmp rfl rfl) (.cons (.tmp rfl rfl) (.cons (.tmp rfl rfl) (.cons (.tmp rfl rfl) .nil)))) (i_CheckCertificate_ok r27 p29.1 r30 p32.1 r33 p35.1 p35.2.2.1 r37 p39.1 p39.2.2.1 p39.2.2.2.2.1 _ hx42))) (fun _ => ?_)
  refine Ca (.bool r41) rfl rfl ?_
  refine C_nil (K_in (K_region (Cm (.bool r41) rfl rfl ?_)))
  refine Cm (.bool r24) rfl rfl ?_
  refine C_val (V_neB (a := r41) (b := r24) Tryz.underlying4 (.tmp rfl rfl) (.tmp rfl rfl)) ?_
  refine C_nil (CW_cond (b := (!(r41 == r24))) (.tmp rfl rfl) (fun hb72 => ?_) (fun hb72 => ?_))
  · rw [if_pos hb72] at hF
    refine K_region (C_val (V_assign (v := (.bool false)) (.bool _)) ?_)
    refine C_nil (CW_ret ?_)
    obtain rfl := Option.some.inj hF
    exact End_ret () (.tmp rfl rfl .nil) rfl (.sel .nil)
  rw [if_neg (by rw [hb72]; exact Bool.false_ne_true)] at hF
  refine CW_skip (K_in (K_region (Cm p29.1.v rfl rfl ?_)))
  refine Cm v0_0.v rfl rfl ?_
  obtain ⟨r44, hx45, hF⟩ := bind_some hF
  refine C_x1 (.rd (.t (.t (.t (.t (.t (.t (.t (.t (.t (.t (.t (.t (.t (.t (.t (.t (.t (.t .h)))))))))))))))))) rfl .nil) (X_callS cf10.h (.cons (.tmp rfl rfl) .nil) (l_toIntS_ok a_aS v0_0 _ hx45)) (fun p46 => ?_)
  obtain ⟨r47, hx48, hF⟩ := bind_some hF
  refine C_x2 (.cons .h (.cons (.t (.t (.t (.t (.t (.t .h)))))) .nil)) (XC_borL (pre := []) (.cons frz_own (.cons frz_own .nil)) (fun _ => .nil) (X_callS cf16.h (.cons (.tmp rfl rfl) (.cons (.tmp rfl rfl) .nil)) (l_eqIntS_ok r27 p29.1 r44 p46.1 _ hx48))) (fun _ => ?_)
  refine C_val (V_not (b := r47) (.tmp rfl rfl)) ?_
  refine C_nil (CW_cond (b := (!r47)) (.tmp rfl rfl) (fun hb71 => ?_) (fun hb71 => ?_))
  · rw [if_pos hb71] at hF
    refine K_region (C_val (V_assign (v := (.bool false)) (.bool _)) ?_)
    refine C_nil (CW_ret ?_)
    obtain rfl := Option.some.inj hF
    exact End_ret () (.tmp rfl rfl .nil) rfl (.sel .nil)
  rw [if_neg (by rw [hb71]; exact Bool.false_ne_true)] at hF
  refine CW_skip (K_in (K_region (Cm p32.1.v rfl rfl ?_)))
  refine Cm v1_0.v rfl rfl ?_
  obtain ⟨r50, hx51, hF⟩ := bind_some hF
  refine C_x1 (.rd (.t (.t (.t (.t (.t (.t (.t (.t (.t (.t (.t (.t (.t (.t (.t (.t (.t (.t (.t (.t .h)))))))))))))))))))) rfl .nil) (X_callS cf11.h (.cons (.tmp rfl rfl) .nil) (l_toMethodS_ok a_aL v1_0 _ hx51)) (fun p52 => ?_)
  obtain ⟨r53, hx54, hF⟩ := bind_some hF
  refine C_x2 (.cons .h (.cons (.t (.t (.t (.t (.t (.t (.t .h))))))) .nil)) (XC_borL (pre := []) (.cons frz_own (.cons frz_own .nil)) (fun _ => .nil) (X_callS cf17.h (.cons (.tmp rfl rfl) (.cons (.tmp rfl rfl) .nil)) (l_eqMethodS_ok r30 p32.1 r50 p52.1 _ hx54))) (fun _ => ?_)
  refine C_val (V_not (b := r53) (.tmp rfl rfl)) ?_
  refine C_nil (CW_cond (b := (!r53)) (.tmp rfl rfl) (fun hb70 => ?_) (fun hb70 => ?_))
  · rw [if_pos hb70] at hF
    refine K_region (C_val (V_assign (v := (.bool false)) (.bool _)) ?_)
    refine C_nil (CW_ret ?_)
    obtain rfl := Option.some.inj hF
    exact End_ret () (.tmp rfl rfl .nil) rfl (.sel .nil)
  rw [if_neg (by rw [hb70]; exact Bool.false_ne_true)] at hF
  refine CW_skip (K_in (K_draw [0, 1, 2, 3, 4] [0, 0, 2, 7, 15] [2, 3] mixed (by decide +kernel) ?_))
  refine D_atO rfl .no (.t (.t (.t (.t (.t (.t (.t (.t (.t (.t .h)))))))))) (fun ha hp => V_loadBox ag38.h ty38.h.sz rfl (EN ha (.tmp rfl rfl) rfl) hp.2 rfl) ?_
  refine D_at rfl .no (.t (.t (.t (.t (.t (.t (.t (.t (.t (.t (.t (.t (.t (.t (.t (.t (.t (.t (.t .h))))))))))))))))))) rfl (fun ha hp => V_loadBox ag26.h ty26.h.sz rfl (EN ha (.tmp rfl rfl) rfl) hp.2 rfl) ?_
  obtain ⟨r56, hx57, hF⟩ := bind_some hF
  refine D_act2 rfl rfl .no (.rd (.t (.t (.t (.t (.t (.t (.t (.t (.t (.t (.t (.t (.t (.t (.t (.t (.t (.t (.t (.t (.t (.t .h)))))))))))))))))))))) rfl (.rd (.t (.t (.t (.t (.t (.t (.t (.t (.t (.t (.t (.t (.t (.t (.t (.t (.t (.t (.t (.t (.t (.t (.t .h))))))))))))))))))))))) rfl .nil)) (.own (.t (.t (.t (.t (.t (.t (.t (.t (.t (.t .h)))))))))) (fun _ h => h) .nil) (fun ha => X_callS cf12.h (.cons (EN ha (.tmp rfl rfl) rfl) .nil) (l_toQuery_ok a_aQ v2_0 v2_1 _ hx57)) (fun p58 => ?_)
  obtain ⟨r59, hx60, hF⟩ := bind_some hF
  refine D_act4 rfl rfl .no (.cons (.t .h) (.cons .h (.cons (.t (.t (.t (.t (.t (.t (.t .h))))))) (.cons (.t (.t (.t (.t (.t (.t (.t .h))))))) .nil)))) (.dep rfl .nil) (fun ha => XC_borL (pre := []) (.cons frz_own (.cons frz_own (.cons frz_own (.cons frz_own .nil)))) (fun _ => .nil) (X_callS cf18.h (.cons (EN ha (.tmp rfl rfl) rfl) (.cons (EN ha (.tmp rfl rfl) rfl) .nil)) (l_eqQuery_ok r33 p35.1 p35.2.2.1 r56 p58.1 p58.2.2.1 _ hx60))) (fun _ => ?_)
  refine D_val rfl .no (fun ha => V_not (b := r59) (EN ha (.tmp rfl rfl) rfl)) ?_
  refine D_nil (CW_cond (b := (!r59)) (.tmp rfl rfl) (fun hb69 => ?_) (fun hb69 => ?_))
  · rw [if_pos hb69] at hF
    refine K_region (C_val (V_assign (v := (.bool false)) (.bool _)) ?_)
    refine C_nil (CW_ret ?_)
    obtain rfl := Option.some.inj hF
    exact End_ret () (.tmp rfl rfl .nil) rfl (.sel .nil)
  rw [if_neg (by rw [hb69]; exact Bool.false_ne_true)] at hF
  refine CW_skip (K_in (K_draw [0, 1, 2, 3, 4] [0, 0, 2, 7, 15] [2, 3] mixed (by decide +kernel) ?_))
  refine D_atO rfl .no (.t (.t (.t (.t (.t (.t (.t (.t (.t (.t (.t .h))))))))))) (fun ha hp => V_loadBox ag58.h ty58.h.sz rfl (EN ha (.tmp rfl rfl) rfl) hp.2 rfl) ?_
  refine D_at rfl .no (.t (.t (.t (.t (.t (.t (.t (.t (.t (.t (.t (.t (.t (.t (.t (.t (.t (.t (.t (.t .h)))))))))))))))))))) rfl (fun ha hp => V_loadBox ag54.h ty54.h.sz rfl (EN ha (.tmp rfl rfl) rfl) hp.2 rfl) ?_
  obtain ⟨r62, hx63, hF⟩ := bind_some hF
  refine D_act3 rfl rfl .no (.rd (.t (.t (.t (.t (.t (.t (.t (.t (.t (.t (.t (.t (.t (.t (.t (.t (.t (.t (.t (.t (.t (.t (.t (.t (.t (.t .h)))))))))))))))))))))))))) rfl (.rd (.t (.t (.t (.t (.t (.t (.t (.t (.t (.t (.t (.t (.t (.t (.t (.t (.t (.t (.t (.t (.t (.t (.t (.t (.t (.t (.t .h))))))))))))))))))))))))))) rfl (.rd (.t (.t (.t (.t (.t (.t (.t (.t (.t (.t (.t (.t (.t (.t (.t (.t (.t (.t (.t (.t (.t (.t (.t (.t (.t (.t (.t (.t .h)))))))))))))))))))))))))))) rfl .nil))) (.own (.t (.t (.t (.t (.t (.t (.t (.t (.t (.t (.t .h))))))))))) (fun _ h => h) .nil) (fun ha => X_callS cf28.h (.cons (EN ha (.tmp rfl rfl) rfl) .nil) (l_toCertificate_ok a_aC v3_0 v3_1 v3_2 _ hx63)) (fun p64 => ?_)
  obtain ⟨r65, hx66, hF⟩ := bind_some hF
  refine D_act6 rfl rfl .no (.cons (.t (.t .h)) (.cons (.t .h) (.cons .h (.cons (.t (.t (.t (.t (.t (.t (.t (.t .h)))))))) (.cons (.t (.t (.t (.t (.t (.t (.t (.t .h)))))))) (.cons (.t (.t (.t (.t (.t (.t (.t (.t .h)))))))) .nil)))))) (.dep rfl .nil) (fun ha => XC_borL (pre := []) (.cons frz_own (.cons frz_own (.cons frz_own (.cons frz_own (.cons frz_own (.cons frz_own .nil)))))) (fun _ => .nil) (X_callS cf30.h (.cons (EN ha (.tmp rfl rfl) rfl) (.cons (EN ha (.tmp rfl rfl) rfl) .nil)) (l_eqCertificate_ok r37 p39.1 p39.2.2.1 p39.2.2.2.2.1 r62 p64.1 p64.2.2.1 p64.2.2.2.2.1 _ hx66))) (fun _ => ?_)
  refine D_val rfl .no (fun ha => V_not (b := r65) (EN ha (.tmp rfl rfl) rfl)) ?_
  refine D_nil (CW_cond (b := (!r65)) (.tmp rfl rfl) (fun hb68 => ?_) (fun hb68 => ?_))
  · rw [if_pos hb68] at hF
    refine K_region (C_val (V_assign (v := (.bool false)) (.bool _)) ?_)
    refine C_nil (CW_ret ?_)
    obtain rfl := Option.some.inj hF
    exact End_ret () (.tmp rfl rfl .nil) rfl (.sel .nil)
  rw [if_neg (by rw [hb68]; exact Bool.false_ne_true)] at hF
  refine CW_skip (K_region (C_val (V_assign (v := (.bool true)) (.bool _)) ?_))
  refine C_nil (CW_ret ?_)
  obtain rfl := Option.some.inj hF
  exact End_ret () (.tmp rfl rfl .nil) rfl (.sel .nil)

end Go.Proofs.YtlfebfhfgfjceabGreat
