/-
  Functions of the program as Lean functions, and that the calls return what these say: part 4. No conditions.
-/
import Derived.Shelf.Strings.OnBuilder
import Derived.Shelf.Strconv.Itoa3
import Derived.Test.YtfkhlplpbhadhaaGreatDoorDigestOfG2
import Derived.KernelRfl
set_option maxRecDepth 100000
set_option linter.unusedVariables false
namespace Go.Proofs.YtfkhlplpbhadhaaGreatDoor
open Go Go.Fw

/-! impl.FormatAccess -/
def i_FormatAccess (a_a : Access) : Option ((List UInt8)) :=
  ((i_within a_a.Method 0 4).bind fun r4 =>
    bif (!r4) then (some true)
    else (bif (decide ((3 : Int) < (a_a.Values.length : Int))) then (some true)
      else ((i_areValues a_a.Values).bind fun r9 =>
        some (!r9)))).bind fun o2 =>
  match o2 with
  | c12 => if c12 then (
      some [])
    else (
      (i_FormatInt a_a.Method).bind fun r13 =>
      (cat [109] r13).bind fun x16 =>
      (cat x16 [40]).bind fun x20 =>
      (i_joined a_a.Values [44]).bind fun r24 =>
      (cat x20 r24).bind fun x27 =>
      (cat x27 [41]).bind fun x31 =>
      some x31)
theorem i_FormatAccess_ok (a_a : Access) (v0_1 : Sv) (R : (List UInt8)) (hF : i_FormatAccess a_a = some R) :
    Fw.Spec Tryz.prog 124 [(.agg [(.int .i64 a_a.Method), v0_1.v].toArray)] [crd (RdS 3 rdInt) v0_1.v a_a.Values] (fun _ : Unit => (sv R)) (fun _ => []) := by
  refine Spec_enter (n := 29) Tryz.func124 rfl rfl (rs := [.tmp 2]) rfl rfl rfl ?_
  intro H0 F0
  unfold i_FormatAccess at hF
  refine K_region (C_newR rfl (N_box (g := false) (v := (.agg [(.int .i64 a_a.Method), v0_1.v].toArray)) ty105.sz (.tmp rfl rfl) rfl) (fun k1 => ?_))
  refine C_val (V_assign (v := (sv [])) (.sv _)) ?_
  refine C_nil (K_in ?_)
  obtain ⟨o2, hio2, hO3⟩ := bind_some hF
  refine K_region (C_cut (fun f' cs' => ∃ (c12 : Bool) (g : Fr), c12 = o2 ∧ f' = updL g [(1, (.pointer (some ⟨k1, 0, some 0⟩))), (18, (.bool c12))] ∧ Ent cs' [cboR k1 105 (.agg [(.int .i64 a_a.Method), v0_1.v].toArray), crd (RdS 3 rdInt) v0_1.v a_a.Values]) ?_ ?_)
  · replace hF := hio2
    refine C_val (V_fieldAddr (off := 0) fd105_0 (.tmp rfl rfl)) ?_
    refine C_at .h (fun hp => V_load (v := (.int .i64 a_a.Method)) ag3 (.tmp rfl rfl) hp.2 rfl rfl) ?_
    obtain ⟨r4, hx5, hF⟩ := bind_some hF
    refine C_x0 .nil (X_callS cf76 (.cons (.tmp rfl rfl) (.cons (.int _ _) (.cons (.int _ _) .nil))) (i_within_ok a_a.Method 0 4 _ hx5)) (fun _ => ?_)
    refine C_val (V_not (b := r4) (.tmp rfl rfl)) ?_
    refine Cm (.bool (!r4)) rfl rfl ?_
    rcases Bool.eq_false_or_eq_true (!r4) with hg7 | hg7
    · rw [hg7]
      try rw [hg7] at hF; dsimp only [cond_true, cond_false] at hF
      iterate 4 refine C_off (t := 7) rfl rfl rfl ?_
      refine C_val (V_pick (b := true) (u := (.bool true)) (v := undef) (.tmp rfl rfl) (.bool _) (.tmp rfl rfl)) ?_
      refine Cm (.bool true) rfl rfl ?_
      iterate 4 refine C_off (t := 13) rfl rfl rfl ?_
      refine C_val (V_pick (b := true) (u := (.bool true)) (v := undef) (.tmp rfl rfl) (.bool _) (.tmp rfl rfl)) ?_
      refine C_nil ?_
      obtain rfl := Option.some.inj hF
      exact ⟨_, _, rfl, (EqL.cons rfl (EqL.cons rfl (EqL.nil))).eq, (.sel (.rd .h rfl (.rd (.t .h) rfl .nil)))⟩
    rw [hg7]
    try rw [hg7] at hF; dsimp only [cond_true, cond_false] at hF
    refine C_on (t := 7) rfl rfl rfl ?_
    refine C_val (V_fieldAddr (off := 1) fd105_1 (.tmp rfl rfl)) ?_
    refine C_on (t := 7) rfl rfl rfl ?_
    refine C_at .h (fun hp => V_load (v := v0_1.v) ag22 (.tmp rfl rfl) hp.2 rfl rfl) ?_
    refine C_on (t := 7) rfl rfl rfl ?_
    refine C_at (.t .h) (fun hp => V_lenR (l := a_a.Values.length) sl22 (.tmp rfl rfl) (crd_len hp)) ?_
    refine C_on (t := 7) rfl rfl rfl ?_
    refine C_val (V_gtr (i := (a_a.Values.length : Int)) (j := 3) (.tmp rfl rfl) (.int _ _)) ?_
    refine C_val (V_pick (b := false) (u := (.bool true)) (v := (.bool (decide ((3 : Int) < (a_a.Values.length : Int))))) (.tmp rfl rfl) (.bool _) (.tmp rfl rfl)) ?_
    refine Cm (.bool (decide ((3 : Int) < (a_a.Values.length : Int)))) rfl rfl ?_
    rcases Bool.eq_false_or_eq_true (decide ((3 : Int) < (a_a.Values.length : Int))) with hg8 | hg8
    · rw [hg8]
      try rw [hg8] at hF; dsimp only [cond_true, cond_false] at hF
      iterate 4 refine C_off (t := 13) rfl rfl rfl ?_
      refine C_val (V_pick (b := true) (u := (.bool true)) (v := undef) (.tmp rfl rfl) (.bool _) (.tmp rfl rfl)) ?_
      refine C_nil ?_
      obtain rfl := Option.some.inj hF
      exact ⟨_, _, rfl, (EqL.cons rfl (EqL.cons rfl (EqL.nil))).eq, (.sel (.rd .h rfl (.rd (.t .h) rfl .nil)))⟩
    rw [hg8]
    try rw [hg8] at hF; dsimp only [cond_true, cond_false] at hF
    refine C_on (t := 13) rfl rfl rfl ?_
    refine C_val (V_fieldAddr (off := 1) fd105_1 (.tmp rfl rfl)) ?_
    refine C_on (t := 13) rfl rfl rfl ?_
    refine C_at .h (fun hp => V_load (v := v0_1.v) ag22 (.tmp rfl rfl) hp.2 rfl rfl) ?_
    refine C_on (t := 13) rfl rfl rfl ?_
    obtain ⟨r9, hx10, hF⟩ := bind_some hF
    refine C_x0 (.rd (.t .h) rfl .nil) (X_callS cf90 (.cons (.tmp rfl rfl) .nil) (i_areValues_ok a_a.Values v0_1 _ hx10)) (fun _ => ?_)
    refine C_on (t := 13) rfl rfl rfl ?_
    refine C_val (V_not (b := r9) (.tmp rfl rfl)) ?_
    refine C_val (V_pick (b := false) (u := (.bool true)) (v := (.bool (!r9))) (.tmp rfl rfl) (.bool _) (.tmp rfl rfl)) ?_
    refine C_nil ?_
    obtain rfl := Option.some.inj hF
    exact ⟨_, _, rfl, (EqL.cons rfl (EqL.cons rfl (EqL.nil))).eq, (.sel (.rd .h rfl (.rd (.t .h) rfl .nil)))⟩
  rintro _ _ ⟨c12, g36, rfl, rfl, hE⟩
  replace hF := hO3
  clear hO3
  try dsimp only at hF
  refine K_ent hE ?_
  refine CW_cond (b := c12) (.tmp rfl rfl) (fun hb35 => ?_) (fun hb35 => ?_)
  · rw [if_pos hb35] at hF
    refine K_region (C_val (V_assign (v := (sv [])) (.sv _)) ?_)
    refine C_nil (CW_ret ?_)
    obtain rfl := Option.some.inj hF
    exact End_ret () (.tmp rfl rfl .nil) rfl (.sel .nil)
  rw [if_neg (by rw [hb35]; exact Bool.false_ne_true)] at hF
  refine CW_skip (K_draw [0, 1, 5, 6, 2, 3, 4, 7, 8, 9, 10] [0, 1, 3, 7, 15, 0, 32, 103, 255, 511, 1023] [2, 7] mixed (by decide +kernel) ?_)
  refine D_val rfl .no (fun ha => V_fieldAddr (off := 0) fd105_0 (EN ha (.tmp rfl rfl) rfl)) ?_
  refine D_at rfl .no .h rfl (fun ha hp => V_load (v := (.int .i64 a_a.Method)) ag3 (EN ha (.tmp rfl rfl) rfl) hp.2 rfl rfl) ?_
  refine D_val rfl .no (fun ha => V_fieldAddr (off := 1) fd105_1 (EN ha (.tmp rfl rfl) rfl)) ?_
  refine D_at rfl .no .h rfl (fun ha hp => V_load (v := v0_1.v) ag22 (EN ha (.tmp rfl rfl) rfl) hp.2 rfl rfl) ?_
  obtain ⟨r13, hx14, hF⟩ := bind_some hF
  refine D_act0 rfl rfl .no .nil .nil (fun ha => X_callS cf29 (.cons (EN ha (.tmp rfl rfl) rfl) .nil) (i_FormatInt_ok a_a.Method _ hx14)) (fun _ => ?_)
  obtain ⟨x16, hx17, hF⟩ := bind_some hF
  obtain ⟨hq19, hz18⟩ := cat_some hx17
  refine D_val rfl .no (fun ha => V_concatN (s := [109]) (t := r13) (u := x16) (EN ha (.sv _) rfl) (EN ha (.tmp rfl rfl) rfl) hx17) ?_
  obtain ⟨x20, hx21, hF⟩ := bind_some hF
  obtain ⟨hq23, hz22⟩ := cat_some hx21
  refine D_val rfl .no (fun ha => V_concatN (s := x16) (t := [40]) (u := x20) (EN ha (.tmp rfl rfl) rfl) (EN ha (.sv _) rfl) hx21) ?_
  obtain ⟨r24, hx25, hF⟩ := bind_some hF
  refine D_act0 rfl rfl .no (.rd (.t .h) rfl .nil) .nil (fun ha => X_callS cf91 (.cons (EN ha (.tmp rfl rfl) rfl) (.cons (EN ha (.sv _) rfl) .nil)) (i_joined_ok a_a.Values v0_1 [44] _ hx25)) (fun _ => ?_)
  obtain ⟨x27, hx28, hF⟩ := bind_some hF
  obtain ⟨hq30, hz29⟩ := cat_some hx28
  refine D_val rfl .no (fun ha => V_concatN (s := x20) (t := r24) (u := x27) (EN ha (.tmp rfl rfl) rfl) (EN ha (.tmp rfl rfl) rfl) hx28) ?_
  obtain ⟨x31, hx32, hF⟩ := bind_some hF
  obtain ⟨hq34, hz33⟩ := cat_some hx32
  refine D_val rfl .no (fun ha => V_concatN (s := x27) (t := [41]) (u := x31) (EN ha (.tmp rfl rfl) rfl) (EN ha (.sv _) rfl) hx32) ?_
  refine Da (sv x31) rfl rfl rfl rfl ?_
  refine D_nil (CW_ret ?_)
  obtain rfl := Option.some.inj hF
  exact End_ret () (.tmp rfl rfl .nil) rfl (.sel .nil)

/-! impl.FormatLog -/
def i_FormatLog_L1 : List Access → Nat → (List (List UInt8)) → Option ((List UInt8))
  | [], k8, c2 => (g_strings_Join c2 [32]).bind fun r17 =>
    some r17
  | x10 :: rest9, k8, c2 => (i_FormatAccess x10).bind fun r24 =>
    if (r24 == []) then (
      some [])
    else (
      (app c2 ([r24] : List (List UInt8))).bind fun z28 =>
      i_FormatLog_L1 rest9 (k8 + 1) z28)
def i_FormatLog (a_log : List Access) : Option ((List UInt8)) :=
  if (((a_log.length : Int) : Int) == 0) then (
    some [110, 111, 110, 101])
  else (
    i_FormatLog_L1 a_log 0 ([] : List (List UInt8)))
theorem i_FormatLog_ok (a_log : List Access) (v0_0 : Sv) (R : (List UInt8)) (hF : i_FormatLog a_log = some R) :
    Fw.Spec Tryz.prog 92 [v0_0.v] [crd (RdS 105 rd105) v0_0.v a_log] (fun _ : Unit => (sv R)) (fun _ => []) := by
  refine Spec_enter (n := 28) Tryz.func92 rfl rfl (rs := [.tmp 2]) rfl rfl rfl ?_
  intro H0 F0
  unfold i_FormatLog at hF
  refine K_region (C_val (V_assign (v := (sv [])) (.sv _)) ?_)
  refine C_nil (K_in (K_region (Cm v0_0.v rfl rfl ?_)))
  refine C_at .h (fun hp => V_lenR (l := a_log.length) sl45 (.tmp rfl rfl) (crd_len hp)) ?_
  refine C_val (V_eql (i := (a_log.length : Int)) (j := 0) (.tmp rfl rfl) (.int _ _)) ?_
  refine C_nil (CW_cond (b := (((a_log.length : Int) : Int) == 0)) (.tmp rfl rfl) (fun hb33 => ?_) (fun hb33 => ?_))
  · rw [if_pos hb33] at hF
    refine K_region (C_val (V_assign (v := (sv [110, 111, 110, 101])) (.sv _)) ?_)
    refine C_nil (CW_ret ?_)
    obtain rfl := Option.some.inj hF
    exact End_ret () (.tmp rfl rfl .nil) rfl (.sel .nil)
  rw [if_neg (by rw [hb33]; exact Bool.false_ne_true)] at hF
  refine CW_skip (K_region (C_new rfl (N_buildSliceT (g := true) sl68 ty9 .nil (vs := []) rfl rfl rfl (by simp)) (fun k1 => ?_)))
  refine C_conv (.cons .h .nil) (own_lit (Ro := (roE rdStr)) (E := 9) (F := []) (xs := ([] : List (List UInt8))) MkL_nil rfl rfl) apps ?_
  refine Ca (.slice (some ⟨k1, 0, none⟩) 0 1) rfl rfl ?_
  refine C_nil (K_in (K_region (Cm v0_0.v rfl rfl ?_)))
  refine C_at (.t .h) (fun hp => V_lenR (l := a_log.length) sl45 (.tmp rfl rfl) (crd_len hp)) ?_
  refine C_val (V_move (v := (.int .i64 0)) (.int _ _)) ?_
  refine C_nil (CW_block (CW_loop (m := a_log.length) (fun m6 f' cs' => ∃ (g : Fr) (k8 : Nat) (rest9 : List Access) (c2 : List (List UInt8)) (v3 : Sv) (F4 : List Nat), m6 = rest9.length ∧ f' = updL g [(3, v3.v), (11, v0_0.v), (12, (.int .i64 (a_log.length : Int))), (13, (.int .i64 (k8 : Int)))] ∧ List.drop k8 a_log = rest9 ∧ Ent cs' [cown (OwnS 9 (roE rdStr)) F4 v3.v c2, crd (RdS 105 rd105) v0_0.v a_log] ∧ i_FormatLog_L1 rest9 k8 c2 = some R) ⟨_, 0, _, _, ⟨(some ⟨k1, 0, none⟩), 0, 1⟩, (k1 :: []), rfl, (EqL.cons rfl (EqL.cons rfl (EqL.cons rfl (EqL.cons rfl (EqL.nil))))).eq, rfl, (.sel (.cons .h (.rd .h rfl .nil))), hF⟩ ?_))
  clear hF
  rintro m6 _ _ ⟨g7, k8, rest9, c2, v3, F4, rfl, rfl, hd11, hE, hF⟩
  refine K_ent hE ?_
  clear hE
  refine K_pure (c := crd (RdS 105 rd105) v0_0.v a_log) (.t .h) crd_bound (fun hbd16 => ?_)
  rcases rest9 with _ | ⟨x10, rest9⟩
  · have hk12 := List.drop_eq_nil_iff.1 hd11
    have hfe15 : (decide (((k8 : Int) : Int) < (a_log.length : Int))) = false := decide_eq_false (by omega)
    rw [i_FormatLog_L1] at hF
    refine K_region (C_val (V_lss (i := (k8 : Int)) (j := (a_log.length : Int)) (.tmp rfl rfl) (.tmp rfl rfl)) ?_)
    refine C_nil (K_in (CW_cond (b := (decide (((k8 : Int) : Int) < (a_log.length : Int)))) (.tmp rfl rfl) (fun hb => absurd (hfe15.symm.trans hb) (by decide)) (fun _ => ?_)))
    refine CW_exit ?_
    iterate 2 refine CThen_exit ?_
    refine CIn_self (K_region (Cm v3.v rfl rfl ?_))
    obtain ⟨r17, hx18, hF⟩ := bind_some hF
    refine C_x1 (.cons .h .nil) (XC_borL (pre := []) (.cons frz_own .nil) (fun _ => .nil) (X_callS cf30 (.cons (.tmp rfl rfl) (.cons (.sv _) .nil)) (g_strings_Join_ok c2 v3 [32] _ hx18))) (fun _ => ?_)
    refine Ca (sv r17) rfl rfl ?_
    refine C_nil (CW_ret ?_)
    obtain rfl := Option.some.inj hF
    exact End_ret () (.tmp rfl rfl .nil) rfl (.sel .nil)
  obtain ⟨hk12, hx13, hd14⟩ := drop_cons hd11
  have hfe15 : (decide (((k8 : Int) : Int) < (a_log.length : Int))) = true := decide_eq_true (by omega)
  rw [i_FormatLog_L1] at hF
  refine K_region (C_val (V_lss (i := (k8 : Int)) (j := (a_log.length : Int)) (.tmp rfl rfl) (.tmp rfl rfl)) ?_)
  refine C_nil (K_in (CW_cond (b := (decide (((k8 : Int) : Int) < (a_log.length : Int)))) (.tmp rfl rfl) (fun _ => ?_) (fun hb => absurd (hfe15.symm.trans hb) (by decide))))
  refine CW_skip (K_block (K_region (C_idx (a := x10) sl45 ty105.sz (.tmp rfl rfl) (.tmp rfl rfl) (.t .h) (Int.natCast_nonneg k8) hx13 (fun k20 j21 => ?_))))
  refine C_ldA1 (ul105_0_105 x10) ag105 ty105.sz rfl (.tmp rfl rfl) .h la105_0_105 (fun p22 => ?_)
  refine C_new rfl (N_allocT (g := true) ty105 rfl rfl) (fun k23 => ?_)
  refine C_x1 (.cons .h .nil) (X_storeB (e' := (.agg [(.int .i64 x10.Method), p22.v].toArray)) (v := (.agg [(.int .i64 x10.Method), p22.v].toArray)) ty105.sz (.tmp rfl rfl) (.tmp rfl rfl) rfl rfl rfl rfl rfl) (fun _ => ?_)
  refine C_nil (K_region (C_at .h (fun hp => V_loadBox ag105 ty105.sz rfl (.tmp rfl rfl) hp.2 rfl) ?_))
  obtain ⟨r24, hx25, hF⟩ := bind_some hF
  refine C_x0 (.rd (.t .h) rfl .nil) (X_callS cf124 (.cons (.tmp rfl rfl) .nil) (i_FormatAccess_ok x10 p22 _ hx25)) (fun _ => ?_)
  refine Ca (sv r24) rfl rfl ?_
  refine C_nil (K_in (K_region (Cm (sv r24) rfl rfl ?_)))
  refine C_val (V_eqT (s := r24) (t := []) (.tmp rfl rfl) (.sv _)) ?_
  refine C_nil (CW_cond (b := (r24 == [])) (.tmp rfl rfl) (fun hb32 => ?_) (fun hb32 => ?_))
  · rw [if_pos hb32] at hF
    refine K_region (C_val (V_assign (v := (sv [])) (.sv _)) ?_)
    refine C_nil (CW_ret ?_)
    obtain rfl := Option.some.inj hF
    exact End_ret () (.tmp rfl rfl .nil) rfl (.sel .nil)
  rw [if_neg (by rw [hb32]; exact Bool.false_ne_true)] at hF
  refine CW_skip (CW_region (Cm v3.v rfl rfl ?_))
  refine Cm (sv r24) rfl rfl ?_
  refine C_new rfl (N_buildSliceT (g := true) sl68 ty9 (.cons (.tmp rfl rfl) .nil) (vs := [(sv r24)]) rfl rfl rfl (by intro v hv; simp at hv; rcases hv with rfl <;> rfl)) (fun k27 => ?_)
  refine C_conv (.cons .h .nil) (own_lit (Ro := (roE rdStr)) (E := 9) (F := ([] ++ [])) (xs := ([r24] : List (List UInt8))) (MkL_cons (Mk_pure (fun _ => rfl)) MkL_nil apps) rfl rfl) apps ?_
  obtain ⟨z28, hx29, hF⟩ := bind_some hF
  refine C_x1 (.cons (.t (.t (.t (.t .h)))) (.cons .h .nil)) (X_appendO (Ro := (roE rdStr)) sl68 ni68 ty9 rfl rfl rfl (.tmp rfl rfl) (.tmp rfl rfl) hx29 src_own) (fun p30 => ?_)
  refine Ca p30.1.v rfl rfl ?_
  refine C_nil (CW_region (C_val (V_add (i := (k8 : Int)) (j := 1) (.tmp rfl rfl) (.int _ _)) ?_))
  refine Cm (.int .i64 (IntKind.i64.wrap ((k8 : Int) + 1))) rfl rfl ?_
  refine C_nil ?_
  have hw31 : IntKind.i64.wrap ((k8 : Int) + 1) = ((k8 + 1 : Nat) : Int) := by rw [wrap_in (by omega) (by omega)]; rfl
  rw [hw31]
  exact ⟨_, Nat.lt_succ_self _, _, k8 + 1, rest9, _, p30.1, p30.2, rfl, (EqL.cons rfl (EqL.cons rfl (EqL.cons rfl (EqL.cons rfl (EqL.nil))))).eq, hd14, (.sel (.cons .h (.rd (.t (.t (.t .h))) rfl .nil))), hF⟩

/-! impl.ViewDigest -/
def i_ViewDigest_L1 (r1 : (List UInt8)) : Nat → Int → Int → Option (Int)
  | 0, _, _ => none
  | m6 + 1, c4, c5 => if (decide ((c5 : Int) < (r1.length : Int))) then (
      (ix r1 c5).bind fun u14 =>
      i_ViewDigest_L1 r1 m6 (Int.tmod (IntKind.i64.wrap ((IntKind.i64.wrap (257 * c4)) + (u14.toNat : Int))) 1000003) (IntKind.i64.wrap (c5 + 1)))
    else (
      some c4)
def i_ViewDigest (a_log : List Access) : Option (Int) :=
  (i_FormatLog a_log).bind fun r1 =>
  i_ViewDigest_L1 r1 (((r1.length : Int) - 0).toNat + 2) 1 0
theorem i_ViewDigest_ok (a_log : List Access) (v0_0 : Sv) (R : Int) (hF : i_ViewDigest a_log = some R) :
    Fw.Spec Tryz.prog 45 [v0_0.v] [crd (RdS 105 rd105) v0_0.v a_log] (fun _ : Unit => (.int .i64 R)) (fun _ => []) := by
  refine Spec_enter (n := 23) Tryz.func45 rfl rfl (rs := [.tmp 2]) rfl rfl rfl ?_
  intro H0 F0
  unfold i_ViewDigest at hF
  refine K_region (C_val (V_assign (v := (.int .i64 0)) (.int _ _)) ?_)
  refine C_nil (K_region (C_val (V_assign (v := (.int .i64 1)) (.int _ _)) ?_))
  refine C_nil (K_region (Cm v0_0.v rfl rfl ?_))
  obtain ⟨r1, hx2, hF⟩ := bind_some hF
  refine C_x0 (.rd .h rfl .nil) (X_callS cf92 (.cons (.tmp rfl rfl) .nil) (i_FormatLog_ok a_log v0_0 _ hx2)) (fun _ => ?_)
  refine Ca (sv r1) rfl rfl ?_
  refine C_nil (K_in (K_region (Cm (sv r1) rfl rfl ?_)))
  refine C_val (V_lenStr (s := r1) st9 (.tmp rfl rfl)) ?_
  refine C_val (V_move (v := (.int .i64 0)) (.int _ _)) ?_
  refine C_nil (CW_block (CW_loop (m := (((r1.length : Int) - 0).toNat + 2)) (fun m6 f' cs' => ∃ (g : Fr) (c4 : Int) (c5 : Int), f' = updL g [(3, (.int .i64 c4)), (4, (sv r1)), (9, (.int .i64 (r1.length : Int))), (10, (.int .i64 c5))] ∧ Ent cs' [] ∧ i_ViewDigest_L1 r1 m6 c4 c5 = some R) ⟨_, _, _, (EqL.cons rfl (EqL.cons rfl (EqL.cons rfl (EqL.cons rfl (EqL.nil))))).eq, (.sel .nil), hF⟩ ?_))
  clear hF
  rintro m6 _ _ ⟨g7, c4, c5, rfl, hE, hF⟩
  refine K_ent hE ?_
  clear hE
  rcases m6 with _ | m6
  · rw [i_ViewDigest_L1] at hF
    exact absurd hF (by simp)
  rw [i_ViewDigest_L1] at hF
  refine K_region (C_val (V_lss (i := c5) (j := (r1.length : Int)) (.tmp rfl rfl) (.tmp rfl rfl)) ?_)
  refine C_nil (K_in (CW_cond (b := (decide ((c5 : Int) < (r1.length : Int)))) (.tmp rfl rfl) (fun hb18 => ?_) (fun hb18 => ?_)))
  · rw [if_pos hb18] at hF
    refine CW_skip (K_block (K_region (Cm (.int .i64 c5) rfl rfl ?_)))
    refine Ca (.int .i64 c5) rfl rfl ?_
    refine C_nil (CW_region (Cm (.int .i64 c4) rfl rfl ?_))
    refine C_val (V_mul (i := 257) (j := c4) (.int _ _) (.tmp rfl rfl)) ?_
    refine Cm (sv r1) rfl rfl ?_
    refine Cm (.int .i64 c5) rfl rfl ?_
    obtain ⟨u14, hx15, hF⟩ := bind_some hF
    obtain ⟨hp16, hx17⟩ := ix_some hx15
    refine C_val (V_indexT (u := u14) st9 (.tmp rfl rfl) (.tmp rfl rfl) hp16 hx17) ?_
    refine C_val (V_convFromU8 (u := u14) ik5 ik3 (.tmp rfl rfl)) ?_
    refine C_val (V_add (i := (IntKind.i64.wrap (257 * c4))) (j := (u14.toNat : Int)) (.tmp rfl rfl) (.tmp rfl rfl)) ?_
    refine C_val (V_rem (i := (IntKind.i64.wrap ((IntKind.i64.wrap (257 * c4)) + (u14.toNat : Int)))) (j := 1000003) (.tmp rfl rfl) (.int _ _) (by decide)) ?_
    refine Ca (.int .i64 (Int.tmod (IntKind.i64.wrap ((IntKind.i64.wrap (257 * c4)) + (u14.toNat : Int))) 1000003)) rfl rfl ?_
    refine C_nil (CW_region (C_val (V_add (i := c5) (j := 1) (.tmp rfl rfl) (.int _ _)) ?_))
    refine Cm (.int .i64 (IntKind.i64.wrap (c5 + 1))) rfl rfl ?_
    refine C_nil ?_
    exact ⟨m6, Nat.lt_succ_self _, _, _, _, (EqL.cons rfl (EqL.cons rfl (EqL.cons rfl (EqL.cons rfl (EqL.nil))))).eq, (.sel .nil), hF⟩
  rw [if_neg (by rw [hb18]; exact Bool.false_ne_true)] at hF
  refine CW_exit ?_
  iterate 2 refine CThen_exit ?_
  refine CIn_self (K_region (Cm (.int .i64 c4) rfl rfl ?_))
  refine Ca (.int .i64 c4) rfl rfl ?_
  refine C_nil (CW_ret ?_)
  obtain rfl := Option.some.inj hF
  exact End_ret () (.tmp rfl rfl .nil) rfl (.sel .nil)

/-! impl.FormatTuples -/
def i_FormatTuples_L1 : List (List Int) → Nat → (List (List UInt8)) → Option ((List UInt8))
  | [], k8, c2 => (g_strings_Join c2 [32]).bind fun r17 =>
    some r17
  | x10 :: rest9, k8, c2 => (i_joined x10 [44]).bind fun r23 =>
    (cat [40] r23).bind fun x26 =>
    (cat x26 [41]).bind fun x30 =>
    (app c2 ([x30] : List (List UInt8))).bind fun z35 =>
    i_FormatTuples_L1 rest9 (k8 + 1) z35
def i_FormatTuples (a_l : List (List Int)) : Option ((List UInt8)) :=
  if (((a_l.length : Int) : Int) == 0) then (
    some [110, 111, 110, 101])
  else (
    i_FormatTuples_L1 a_l 0 ([] : List (List UInt8)))
theorem i_FormatTuples_ok (a_l : List (List Int)) (v0_0 : Sv) (R : (List UInt8)) (hF : i_FormatTuples a_l = some R) :
    Fw.Spec Tryz.prog 46 [v0_0.v] [crd (RdS 22 (RdS 3 rdInt)) v0_0.v a_l] (fun _ : Unit => (sv R)) (fun _ => []) := by
  refine Spec_enter (n := 26) Tryz.func46 rfl rfl (rs := [.tmp 2]) rfl rfl rfl ?_
  intro H0 F0
  unfold i_FormatTuples at hF
  refine K_region (C_val (V_assign (v := (sv [])) (.sv _)) ?_)
  refine C_nil (K_in (K_region (Cm v0_0.v rfl rfl ?_)))
  refine C_at .h (fun hp => V_lenR (l := a_l.length) sl83 (.tmp rfl rfl) (crd_len hp)) ?_
  refine C_val (V_eql (i := (a_l.length : Int)) (j := 0) (.tmp rfl rfl) (.int _ _)) ?_
  refine C_nil (CW_cond (b := (((a_l.length : Int) : Int) == 0)) (.tmp rfl rfl) (fun hb39 => ?_) (fun hb39 => ?_))
  · rw [if_pos hb39] at hF
    refine K_region (C_val (V_assign (v := (sv [110, 111, 110, 101])) (.sv _)) ?_)
    refine C_nil (CW_ret ?_)
    obtain rfl := Option.some.inj hF
    exact End_ret () (.tmp rfl rfl .nil) rfl (.sel .nil)
  rw [if_neg (by rw [hb39]; exact Bool.false_ne_true)] at hF
  refine CW_skip (K_region (C_new rfl (N_buildSliceT (g := true) sl68 ty9 .nil (vs := []) rfl rfl rfl (by simp)) (fun k1 => ?_)))
  refine C_conv (.cons .h .nil) (own_lit (Ro := (roE rdStr)) (E := 9) (F := []) (xs := ([] : List (List UInt8))) MkL_nil rfl rfl) apps ?_
  refine Ca (.slice (some ⟨k1, 0, none⟩) 0 1) rfl rfl ?_
  refine C_nil (K_in (K_region (Cm v0_0.v rfl rfl ?_)))
  refine C_at (.t .h) (fun hp => V_lenR (l := a_l.length) sl83 (.tmp rfl rfl) (crd_len hp)) ?_
  refine C_val (V_move (v := (.int .i64 0)) (.int _ _)) ?_
  refine C_nil (CW_block (CW_loop (m := a_l.length) (fun m6 f' cs' => ∃ (g : Fr) (k8 : Nat) (rest9 : List (List Int)) (c2 : List (List UInt8)) (v3 : Sv) (F4 : List Nat), m6 = rest9.length ∧ f' = updL g [(3, v3.v), (10, v0_0.v), (11, (.int .i64 (a_l.length : Int))), (12, (.int .i64 (k8 : Int)))] ∧ List.drop k8 a_l = rest9 ∧ Ent cs' [cown (OwnS 9 (roE rdStr)) F4 v3.v c2, crd (RdS 22 (RdS 3 rdInt)) v0_0.v a_l] ∧ i_FormatTuples_L1 rest9 k8 c2 = some R) ⟨_, 0, _, _, ⟨(some ⟨k1, 0, none⟩), 0, 1⟩, (k1 :: []), rfl, (EqL.cons rfl (EqL.cons rfl (EqL.cons rfl (EqL.cons rfl (EqL.nil))))).eq, rfl, (.sel (.cons .h (.rd .h rfl .nil))), hF⟩ ?_))
  clear hF
  rintro m6 _ _ ⟨g7, k8, rest9, c2, v3, F4, rfl, rfl, hd11, hE, hF⟩
  refine K_ent hE ?_
  clear hE
  refine K_pure (c := crd (RdS 22 (RdS 3 rdInt)) v0_0.v a_l) (.t .h) crd_bound (fun hbd16 => ?_)
  rcases rest9 with _ | ⟨x10, rest9⟩
  · have hk12 := List.drop_eq_nil_iff.1 hd11
    have hfe15 : (decide (((k8 : Int) : Int) < (a_l.length : Int))) = false := decide_eq_false (by omega)
    rw [i_FormatTuples_L1] at hF
    refine K_region (C_val (V_lss (i := (k8 : Int)) (j := (a_l.length : Int)) (.tmp rfl rfl) (.tmp rfl rfl)) ?_)
    refine C_nil (K_in (CW_cond (b := (decide (((k8 : Int) : Int) < (a_l.length : Int)))) (.tmp rfl rfl) (fun hb => absurd (hfe15.symm.trans hb) (by decide)) (fun _ => ?_)))
    refine CW_exit ?_
    iterate 2 refine CThen_exit ?_
    refine CIn_self (K_region (Cm v3.v rfl rfl ?_))
    obtain ⟨r17, hx18, hF⟩ := bind_some hF
    refine C_x1 (.cons .h .nil) (XC_borL (pre := []) (.cons frz_own .nil) (fun _ => .nil) (X_callS cf30 (.cons (.tmp rfl rfl) (.cons (.sv _) .nil)) (g_strings_Join_ok c2 v3 [32] _ hx18))) (fun _ => ?_)
    refine Ca (sv r17) rfl rfl ?_
    refine C_nil (CW_ret ?_)
    obtain rfl := Option.some.inj hF
    exact End_ret () (.tmp rfl rfl .nil) rfl (.sel .nil)
  obtain ⟨hk12, hx13, hd14⟩ := drop_cons hd11
  have hfe15 : (decide (((k8 : Int) : Int) < (a_l.length : Int))) = true := decide_eq_true (by omega)
  rw [i_FormatTuples_L1] at hF
  refine K_region (C_val (V_lss (i := (k8 : Int)) (j := (a_l.length : Int)) (.tmp rfl rfl) (.tmp rfl rfl)) ?_)
  refine C_nil (K_in (CW_cond (b := (decide (((k8 : Int) : Int) < (a_l.length : Int)))) (.tmp rfl rfl) (fun _ => ?_) (fun hb => absurd (hfe15.symm.trans hb) (by decide))))
  refine CW_skip (K_block (K_region (C_idx (a := x10) sl83 ty22.sz (.tmp rfl rfl) (.tmp rfl rfl) (.t .h) (Int.natCast_nonneg k8) hx13 (fun k20 j21 => ?_))))
  refine C_ldV (R' := (RdS 3 rdInt)) ag22 (.tmp rfl rfl) .h lv22_0 (fun w22 => ?_)
  refine Ca w22.v rfl rfl ?_
  refine C_nil (CW_region (Cm v3.v rfl rfl ?_))
  refine Cm w22.v rfl rfl ?_
  obtain ⟨r23, hx24, hF⟩ := bind_some hF
  refine C_x0 (.rd .h rfl .nil) (X_callS cf91 (.cons (.tmp rfl rfl) (.cons (.sv _) .nil)) (i_joined_ok x10 w22 [44] _ hx24)) (fun _ => ?_)
  obtain ⟨x26, hx27, hF⟩ := bind_some hF
  obtain ⟨hq29, hz28⟩ := cat_some hx27
  refine C_val (V_concatN (s := [40]) (t := r23) (u := x26) (.sv _) (.tmp rfl rfl) hx27) ?_
  obtain ⟨x30, hx31, hF⟩ := bind_some hF
  obtain ⟨hq33, hz32⟩ := cat_some hx31
  refine C_val (V_concatN (s := x26) (t := [41]) (u := x30) (.tmp rfl rfl) (.sv _) hx31) ?_
  refine C_new rfl (N_buildSliceT (g := true) sl68 ty9 (.cons (.tmp rfl rfl) .nil) (vs := [(sv x30)]) rfl rfl rfl (by intro v hv; simp at hv; rcases hv with rfl <;> rfl)) (fun k34 => ?_)
  refine C_conv (.cons .h .nil) (own_lit (Ro := (roE rdStr)) (E := 9) (F := ([] ++ [])) (xs := ([x30] : List (List UInt8))) (MkL_cons (Mk_pure (fun _ => rfl)) MkL_nil apps) rfl rfl) apps ?_
  obtain ⟨z35, hx36, hF⟩ := bind_some hF
  refine C_x1 (.cons (.t (.t (.t .h))) (.cons .h .nil)) (X_appendO (Ro := (roE rdStr)) sl68 ni68 ty9 rfl rfl rfl (.tmp rfl rfl) (.tmp rfl rfl) hx36 src_own) (fun p37 => ?_)
  refine Ca p37.1.v rfl rfl ?_
  refine C_nil (CW_region (C_val (V_add (i := (k8 : Int)) (j := 1) (.tmp rfl rfl) (.int _ _)) ?_))
  refine Cm (.int .i64 (IntKind.i64.wrap ((k8 : Int) + 1))) rfl rfl ?_
  refine C_nil ?_
  have hw38 : IntKind.i64.wrap ((k8 : Int) + 1) = ((k8 + 1 : Nat) : Int) := by rw [wrap_in (by omega) (by omega)]; rfl
  rw [hw38]
  exact ⟨_, Nat.lt_succ_self _, _, k8 + 1, rest9, _, p37.1, p37.2, rfl, (EqL.cons rfl (EqL.cons rfl (EqL.cons rfl (EqL.cons rfl (EqL.nil))))).eq, hd14, (.sel (.cons .h (.rd (.t (.t .h)) rfl .nil))), hF⟩

/-! impl.digest).text -/
def i_digest_text_L1 (a_s : List UInt8) : Nat → Int → Int → Option (Int)
  | 0, _, _ => none
  | m20 + 1, c18, c19 => if (decide ((c19 : Int) < (a_s.length : Int))) then (
      (ix a_s c19).bind fun u28 =>
      (i_digest_mix c18 ([(u28.toNat : Int)] : List Int)).bind fun r33 =>
      i_digest_text_L1 a_s m20 r33 (IntKind.i64.wrap (c19 + 1)))
    else (
      some c18)
def i_digest_text (a_d : Int) (a_s : List UInt8) : Option (Int) :=
  i_digest_text_L1 a_s (((a_s.length : Int) - 0).toNat + 2) a_d 0
theorem i_digest_text_ok (kq0 : Nat) (a_d : Int) (a_s : List UInt8) (R : Int) (hF : i_digest_text a_d a_s = some R) :
    Fw.Spec Tryz.prog 43 [(.pointer (some ⟨kq0, 0, some 0⟩)), (sv a_s)] [cbox kq0 84 (.int .i64 a_d)] (fun _ : Unit => (.tuple [].toArray)) (fun _ => [cbox kq0 84 (.int .i64 R)]) := by
  refine Spec_enter (n := 18) Tryz.func43 rfl rfl (rs := []) rfl rfl rfl ?_
  intro H0 F0
  unfold i_digest_text at hF
  refine K_region (Cm (sv a_s) rfl rfl ?_)
  refine C_val (V_lenStr (s := a_s) st9 (.tmp rfl rfl)) ?_
  refine C_val (V_move (v := (.int .i64 0)) (.int _ _)) ?_
  refine C_nil (CW_block (CW_loop (m := (((a_s.length : Int) - 0).toNat + 2)) (fun m20 f' cs' => ∃ (g : Fr) (c18 : Int) (c19 : Int), f' = updL g [(0, (.pointer (some ⟨kq0, 0, some 0⟩))), (1, (sv a_s)), (6, (.int .i64 (a_s.length : Int))), (7, (.int .i64 c19))] ∧ Ent cs' [cbox kq0 84 (.int .i64 c18)] ∧ i_digest_text_L1 a_s m20 c18 c19 = some R) ⟨_, _, _, (EqL.cons rfl (EqL.cons rfl (EqL.cons rfl (EqL.cons rfl (EqL.nil))))).eq, (.sel (.cons .h .nil)), hF⟩ ?_))
  clear hF
  rintro m20 _ _ ⟨g21, c18, c19, rfl, hE, hF⟩
  refine K_ent hE ?_
  clear hE
  rcases m20 with _ | m20
  · rw [i_digest_text_L1] at hF
    exact absurd hF (by simp)
  rw [i_digest_text_L1] at hF
  refine K_region (C_val (V_lss (i := c19) (j := (a_s.length : Int)) (.tmp rfl rfl) (.tmp rfl rfl)) ?_)
  refine C_nil (K_in (CW_cond (b := (decide ((c19 : Int) < (a_s.length : Int)))) (.tmp rfl rfl) (fun hb36 => ?_) (fun hb36 => ?_)))
  · rw [if_pos hb36] at hF
    refine CW_skip (K_block (K_region (Cm (.int .i64 c19) rfl rfl ?_)))
    refine Ca (.int .i64 c19) rfl rfl ?_
    refine C_nil (CW_region (Cm (.pointer (some ⟨kq0, 0, some 0⟩)) rfl rfl ?_))
    refine Cm (sv a_s) rfl rfl ?_
    refine Cm (.int .i64 c19) rfl rfl ?_
    obtain ⟨u28, hx29, hF⟩ := bind_some hF
    obtain ⟨hp30, hx31⟩ := ix_some hx29
    refine C_val (V_indexT (u := u28) st9 (.tmp rfl rfl) (.tmp rfl rfl) hp30 hx31) ?_
    refine C_val (V_convFromU8 (u := u28) ik5 ik3 (.tmp rfl rfl)) ?_
    refine C_new rfl (N_buildSliceT (g := true) sl22 ty3 (.cons (.tmp rfl rfl) .nil) (vs := [(.int .i64 (u28.toNat : Int))]) rfl rfl rfl (by intro v hv; simp at hv; rcases hv with rfl <;> rfl)) (fun k32 => ?_)
    refine C_conv (.cons .h .nil) (own_lit (Ro := (roE rdInt)) (E := 3) (F := ([] ++ [])) (xs := ([(u28.toNat : Int)] : List Int)) (MkL_cons (Mk_pure (fun _ => rfl)) MkL_nil apps) rfl rfl) apps ?_
    refine C_frz .h frz_own ?_
    obtain ⟨r33, hx34, hF⟩ := bind_some hF
    refine C_x1 (.cons (.t .h) (.rd .h rfl .nil)) (X_callS cf42 (.cons (.tmp rfl rfl) (.cons (.tmp rfl rfl) .nil)) (i_digest_mix_ok kq0 c18 ([(u28.toNat : Int)] : List Int) (⟨(some ⟨k32, 0, none⟩), 1, 1⟩) _ hx34)) (fun p35 => ?_)
    refine C_nil (CW_region (C_val (V_add (i := c19) (j := 1) (.tmp rfl rfl) (.int _ _)) ?_))
    refine Cm (.int .i64 (IntKind.i64.wrap (c19 + 1))) rfl rfl ?_
    refine C_nil ?_
    exact ⟨m20, Nat.lt_succ_self _, _, _, _, (EqL.cons rfl (EqL.cons rfl (EqL.cons rfl (EqL.cons rfl (EqL.nil))))).eq, (.sel (.cons .h .nil)), hF⟩
  rw [if_neg (by rw [hb36]; exact Bool.false_ne_true)] at hF
  refine CW_exit ?_
  iterate 2 refine CThen_exit ?_
  refine CIn_self ?_
  obtain rfl := Option.some.inj hF
  exact End_nor () .nil rfl (.sel (.cons .h .nil))

/-! impl.isRel -/
def i_isRel (a_rel : Int) : Option (Bool) :=
  (i_within a_rel 0 2).bind fun r1 =>
  some r1
theorem i_isRel_ok (a_rel : Int) (R : Bool) (hF : i_isRel a_rel = some R) :
    Fw.Spec Tryz.prog 89 [(.int .i64 a_rel)] [] (fun _ : Unit => (.bool R)) (fun _ => []) := by
  refine Spec_enter (n := 5) Tryz.func89 rfl rfl (rs := [.tmp 2]) rfl rfl rfl ?_
  intro H0 F0
  unfold i_isRel at hF
  refine K_region (C_val (V_assign (v := (.bool false)) (.bool _)) ?_)
  refine C_nil (K_region (Cm (.int .i64 a_rel) rfl rfl ?_))
  obtain ⟨r1, hx2, hF⟩ := bind_some hF
  refine C_x0 .nil (X_callS cf76 (.cons (.tmp rfl rfl) (.cons (.int _ _) (.cons (.int _ _) .nil))) (i_within_ok a_rel 0 2 _ hx2)) (fun _ => ?_)
  refine Ca (.bool r1) rfl rfl ?_
  refine C_nil (CW_ret ?_)
  obtain rfl := Option.some.inj hF
  exact End_ret () (.tmp rfl rfl .nil) rfl (.sel .nil)

/-! impl.FormatFact -/
def i_FormatFact (a_f : Fact) : Option ((List UInt8)) :=
  ((i_isRel a_f.Rel).bind fun r4 =>
    bif (!r4) then (some true)
    else ((i_within (a_f.Values.length : Int) 1 3).bind fun r8 =>
      bif (!r8) then (some true)
      else ((i_areValues a_f.Values).bind fun r12 =>
        some (!r12)))).bind fun o2 =>
  match o2 with
  | c15 => if c15 then (
      some [])
    else (
      (i_FormatInt a_f.Rel).bind fun r16 =>
      (cat [114] r16).bind fun x19 =>
      (cat x19 [40]).bind fun x23 =>
      (i_joined a_f.Values [44]).bind fun r27 =>
      (cat x23 r27).bind fun x30 =>
      (cat x30 [41]).bind fun x34 =>
      some x34)
theorem i_FormatFact_ok (a_f : Fact) (v0_1 : Sv) (R : (List UInt8)) (hF : i_FormatFact a_f = some R) :
    Fw.Spec Tryz.prog 44 [(.agg [(.int .i64 a_f.Rel), v0_1.v].toArray)] [crd (RdS 3 rdInt) v0_1.v a_f.Values] (fun _ : Unit => (sv R)) (fun _ => []) := by
  refine Spec_enter (n := 30) Tryz.func44 rfl rfl (rs := [.tmp 2]) rfl rfl rfl ?_
  intro H0 F0
  unfold i_FormatFact at hF
  refine K_region (C_newR rfl (N_box (g := false) (v := (.agg [(.int .i64 a_f.Rel), v0_1.v].toArray)) ty80.sz (.tmp rfl rfl) rfl) (fun k1 => ?_))
  refine C_val (V_assign (v := (sv [])) (.sv _)) ?_
  refine C_nil (K_in ?_)
  obtain ⟨o2, hio2, hO3⟩ := bind_some hF
  refine K_region (C_cut (fun f' cs' => ∃ (c15 : Bool) (g : Fr), c15 = o2 ∧ f' = updL g [(1, (.pointer (some ⟨k1, 0, some 0⟩))), (19, (.bool c15))] ∧ Ent cs' [cboR k1 80 (.agg [(.int .i64 a_f.Rel), v0_1.v].toArray), crd (RdS 3 rdInt) v0_1.v a_f.Values]) ?_ ?_)
  · replace hF := hio2
    refine C_val (V_fieldAddr (off := 0) fd80_0 (.tmp rfl rfl)) ?_
    refine C_at .h (fun hp => V_load (v := (.int .i64 a_f.Rel)) ag3 (.tmp rfl rfl) hp.2 rfl rfl) ?_
    obtain ⟨r4, hx5, hF⟩ := bind_some hF
    refine C_x0 .nil (X_callS cf89 (.cons (.tmp rfl rfl) .nil) (i_isRel_ok a_f.Rel _ hx5)) (fun _ => ?_)
    refine C_val (V_not (b := r4) (.tmp rfl rfl)) ?_
    refine Cm (.bool (!r4)) rfl rfl ?_
    rcases Bool.eq_false_or_eq_true (!r4) with hg7 | hg7
    · rw [hg7]
      try rw [hg7] at hF; dsimp only [cond_true, cond_false] at hF
      iterate 5 refine C_off (t := 7) rfl rfl rfl ?_
      refine C_val (V_pick (b := true) (u := (.bool true)) (v := undef) (.tmp rfl rfl) (.bool _) (.tmp rfl rfl)) ?_
      refine Cm (.bool true) rfl rfl ?_
      iterate 4 refine C_off (t := 14) rfl rfl rfl ?_
      refine C_val (V_pick (b := true) (u := (.bool true)) (v := undef) (.tmp rfl rfl) (.bool _) (.tmp rfl rfl)) ?_
      refine C_nil ?_
      obtain rfl := Option.some.inj hF
      exact ⟨_, _, rfl, (EqL.cons rfl (EqL.cons rfl (EqL.nil))).eq, (.sel (.rd .h rfl (.rd (.t .h) rfl .nil)))⟩
    rw [hg7]
    try rw [hg7] at hF; dsimp only [cond_true, cond_false] at hF
    refine C_on (t := 7) rfl rfl rfl ?_
    refine C_val (V_fieldAddr (off := 1) fd80_1 (.tmp rfl rfl)) ?_
    refine C_on (t := 7) rfl rfl rfl ?_
    refine C_at .h (fun hp => V_load (v := v0_1.v) ag22 (.tmp rfl rfl) hp.2 rfl rfl) ?_
    refine C_on (t := 7) rfl rfl rfl ?_
    refine C_at (.t .h) (fun hp => V_lenR (l := a_f.Values.length) sl22 (.tmp rfl rfl) (crd_len hp)) ?_
    refine C_on (t := 7) rfl rfl rfl ?_
    obtain ⟨r8, hx9, hF⟩ := bind_some hF
    refine C_x0 .nil (X_callS cf76 (.cons (.tmp rfl rfl) (.cons (.int _ _) (.cons (.int _ _) .nil))) (i_within_ok (a_f.Values.length : Int) 1 3 _ hx9)) (fun _ => ?_)
    refine C_on (t := 7) rfl rfl rfl ?_
    refine C_val (V_not (b := r8) (.tmp rfl rfl)) ?_
    refine C_val (V_pick (b := false) (u := (.bool true)) (v := (.bool (!r8))) (.tmp rfl rfl) (.bool _) (.tmp rfl rfl)) ?_
    refine Cm (.bool (!r8)) rfl rfl ?_
    rcases Bool.eq_false_or_eq_true (!r8) with hg11 | hg11
    · rw [hg11]
      try rw [hg11] at hF; dsimp only [cond_true, cond_false] at hF
      iterate 4 refine C_off (t := 14) rfl rfl rfl ?_
      refine C_val (V_pick (b := true) (u := (.bool true)) (v := undef) (.tmp rfl rfl) (.bool _) (.tmp rfl rfl)) ?_
      refine C_nil ?_
      obtain rfl := Option.some.inj hF
      exact ⟨_, _, rfl, (EqL.cons rfl (EqL.cons rfl (EqL.nil))).eq, (.sel (.rd .h rfl (.rd (.t .h) rfl .nil)))⟩
    rw [hg11]
    try rw [hg11] at hF; dsimp only [cond_true, cond_false] at hF
    refine C_on (t := 14) rfl rfl rfl ?_
    refine C_val (V_fieldAddr (off := 1) fd80_1 (.tmp rfl rfl)) ?_
    refine C_on (t := 14) rfl rfl rfl ?_
    refine C_at .h (fun hp => V_load (v := v0_1.v) ag22 (.tmp rfl rfl) hp.2 rfl rfl) ?_
    refine C_on (t := 14) rfl rfl rfl ?_
    obtain ⟨r12, hx13, hF⟩ := bind_some hF
    refine C_x0 (.rd (.t .h) rfl .nil) (X_callS cf90 (.cons (.tmp rfl rfl) .nil) (i_areValues_ok a_f.Values v0_1 _ hx13)) (fun _ => ?_)
    refine C_on (t := 14) rfl rfl rfl ?_
    refine C_val (V_not (b := r12) (.tmp rfl rfl)) ?_
    refine C_val (V_pick (b := false) (u := (.bool true)) (v := (.bool (!r12))) (.tmp rfl rfl) (.bool _) (.tmp rfl rfl)) ?_
    refine C_nil ?_
    obtain rfl := Option.some.inj hF
    exact ⟨_, _, rfl, (EqL.cons rfl (EqL.cons rfl (EqL.nil))).eq, (.sel (.rd .h rfl (.rd (.t .h) rfl .nil)))⟩
  rintro _ _ ⟨c15, g39, rfl, rfl, hE⟩
  replace hF := hO3
  clear hO3
  try dsimp only at hF
  refine K_ent hE ?_
  refine CW_cond (b := c15) (.tmp rfl rfl) (fun hb38 => ?_) (fun hb38 => ?_)
  · rw [if_pos hb38] at hF
    refine K_region (C_val (V_assign (v := (sv [])) (.sv _)) ?_)
    refine C_nil (CW_ret ?_)
    obtain rfl := Option.some.inj hF
    exact End_ret () (.tmp rfl rfl .nil) rfl (.sel .nil)
  rw [if_neg (by rw [hb38]; exact Bool.false_ne_true)] at hF
  refine CW_skip (K_draw [0, 1, 5, 6, 2, 3, 4, 7, 8, 9, 10] [0, 1, 3, 7, 15, 0, 32, 103, 255, 511, 1023] [2, 7] mixed (by decide +kernel) ?_)
  refine D_val rfl .no (fun ha => V_fieldAddr (off := 0) fd80_0 (EN ha (.tmp rfl rfl) rfl)) ?_
  refine D_at rfl .no .h rfl (fun ha hp => V_load (v := (.int .i64 a_f.Rel)) ag3 (EN ha (.tmp rfl rfl) rfl) hp.2 rfl rfl) ?_
  refine D_val rfl .no (fun ha => V_fieldAddr (off := 1) fd80_1 (EN ha (.tmp rfl rfl) rfl)) ?_
  refine D_at rfl .no .h rfl (fun ha hp => V_load (v := v0_1.v) ag22 (EN ha (.tmp rfl rfl) rfl) hp.2 rfl rfl) ?_
  obtain ⟨r16, hx17, hF⟩ := bind_some hF
  refine D_act0 rfl rfl .no .nil .nil (fun ha => X_callS cf29 (.cons (EN ha (.tmp rfl rfl) rfl) .nil) (i_FormatInt_ok a_f.Rel _ hx17)) (fun _ => ?_)
  obtain ⟨x19, hx20, hF⟩ := bind_some hF
  obtain ⟨hq22, hz21⟩ := cat_some hx20
  refine D_val rfl .no (fun ha => V_concatN (s := [114]) (t := r16) (u := x19) (EN ha (.sv _) rfl) (EN ha (.tmp rfl rfl) rfl) hx20) ?_
  obtain ⟨x23, hx24, hF⟩ := bind_some hF
  obtain ⟨hq26, hz25⟩ := cat_some hx24
  refine D_val rfl .no (fun ha => V_concatN (s := x19) (t := [40]) (u := x23) (EN ha (.tmp rfl rfl) rfl) (EN ha (.sv _) rfl) hx24) ?_
  obtain ⟨r27, hx28, hF⟩ := bind_some hF
  refine D_act0 rfl rfl .no (.rd (.t .h) rfl .nil) .nil (fun ha => X_callS cf91 (.cons (EN ha (.tmp rfl rfl) rfl) (.cons (EN ha (.sv _) rfl) .nil)) (i_joined_ok a_f.Values v0_1 [44] _ hx28)) (fun _ => ?_)
  obtain ⟨x30, hx31, hF⟩ := bind_some hF
  obtain ⟨hq33, hz32⟩ := cat_some hx31
  refine D_val rfl .no (fun ha => V_concatN (s := x23) (t := r27) (u := x30) (EN ha (.tmp rfl rfl) rfl) (EN ha (.tmp rfl rfl) rfl) hx31) ?_
  obtain ⟨x34, hx35, hF⟩ := bind_some hF
  obtain ⟨hq37, hz36⟩ := cat_some hx35
  refine D_val rfl .no (fun ha => V_concatN (s := x30) (t := [41]) (u := x34) (EN ha (.tmp rfl rfl) rfl) (EN ha (.sv _) rfl) hx35) ?_
  refine Da (sv x34) rfl rfl rfl rfl ?_
  refine D_nil (CW_ret ?_)
  obtain rfl := Option.some.inj hF
  exact End_ret () (.tmp rfl rfl .nil) rfl (.sel .nil)

/-! impl.DigestOf -/
def i_DigestOf_L3 : List (List (List Int)) → Nat → Int → Option (Int)
  | [], k128, c124 => some c124
  | x130 :: rest129, k128, c124 => (i_FormatTuples x130).bind fun r140 =>
    (i_digest_text c124 r140).bind fun r143 =>
    i_DigestOf_L3 rest129 (k128 + 1) r143
def i_DigestOf_L1 (a_m : Mediator) : List Fact → Nat → Int → Option (Int)
  | [], k87, c83 => (i_ViewDigest a_m.Log).bind fun r96 =>
    (i_digest_mix c83 ([r96] : List Int)).bind fun r100 =>
    i_DigestOf_L3 a_m.Results 0 r100
  | x89 :: rest88, k87, c83 => (i_FormatFact x89).bind fun r151 =>
    (i_digest_text c83 r151).bind fun r154 =>
    i_DigestOf_L1 a_m rest88 (k87 + 1) r154
def i_DigestOf (a_m : Mediator) : Option (Int) :=
  (i_IsMediator a_m).bind fun r2 =>
  if (!r2) then (
    some 0)
  else (
    (i_digest_mix 1 ([(Int.tmod a_m.Source.Version 1000), (Int.tmod a_m.Now 10000)] : List Int)).bind fun r7 =>
    i_DigestOf_L1 a_m a_m.Source.Facts 0 r7)
theorem i_DigestOf_ok (a_m : Mediator) (v0_0 : Sv) (v0_1 : Sv) (v0_2 : Sv) (v0_3 : Sv) (v0_5 : Sv) (v0_8 : Sv) (v0_9 : Sv) (v0_11 : Sv) (R : Int) (hF : i_DigestOf a_m = some R) :
    Fw.Spec Tryz.prog 11 [(.agg [v0_0.v, v0_1.v, v0_2.v, v0_3.v, (.int .i64 a_m.Source.Version), v0_5.v, (.int .i64 a_m.Cache.Age), (.int .i64 a_m.Now), v0_8.v, v0_9.v, (.int .i64 a_m.Spent), v0_11.v].toArray)] [crd (RdS 3 rdInt) v0_0.v a_m.Schema, crd (RdS 108 rd108) v0_1.v a_m.Methods, crd (RdS 110 rd110) v0_2.v a_m.Rules, crd (RdS 80 rd80) v0_3.v a_m.Source.Facts, crd (RdS 147 rd147) v0_5.v a_m.Cache.Entries, crd (RdS 105 rd105) v0_8.v a_m.Log, crd (RdS 3 rdInt) v0_9.v a_m.Times, crd (RdS 83 (RdS 22 (RdS 3 rdInt))) v0_11.v a_m.Results] (fun _ : Unit => (.int .i64 R)) (fun _ => []) := by
  refine Spec_enter (n := 49) Tryz.func11 rfl rfl (rs := [.tmp 2]) rfl rfl rfl ?_
  intro H0 F0
  unfold i_DigestOf at hF
  refine K_region (C_newR rfl (N_box (g := false) (v := (.agg [v0_0.v, v0_1.v, v0_2.v, v0_3.v, (.int .i64 a_m.Source.Version), v0_5.v, (.int .i64 a_m.Cache.Age), (.int .i64 a_m.Now), v0_8.v, v0_9.v, (.int .i64 a_m.Spent), v0_11.v].toArray)) ty47.sz (.tmp rfl rfl) rfl) (fun k1 => ?_))
  refine C_val (V_assign (v := (.int .i64 0)) (.int _ _)) ?_
  refine C_nil (K_in (K_region (C_at .h (fun hp => V_loadBox ag47 ty47.sz rfl (.tmp rfl rfl) hp.2 rfl) ?_)))
  obtain ⟨r2, hx3, hF⟩ := bind_some hF
  refine C_x0 (.rd (.t .h) rfl (.rd (.t (.t .h)) rfl (.rd (.t (.t (.t .h))) rfl (.rd (.t (.t (.t (.t .h)))) rfl (.rd (.t (.t (.t (.t (.t .h))))) rfl (.rd (.t (.t (.t (.t (.t (.t .h)))))) rfl (.rd (.t (.t (.t (.t (.t (.t (.t .h))))))) rfl (.rd (.t (.t (.t (.t (.t (.t (.t (.t .h)))))))) rfl .nil)))))))) (X_callS cf28 (.cons (.tmp rfl rfl) .nil) (i_IsMediator_ok a_m v0_0 v0_1 v0_2 v0_3 v0_5 v0_8 v0_9 v0_11 _ hx3)) (fun _ => ?_)
  refine C_val (V_not (b := r2) (.tmp rfl rfl)) ?_
  refine C_nil (CW_cond (b := (!r2)) (.tmp rfl rfl) (fun hb158 => ?_) (fun hb158 => ?_))
  · rw [if_pos hb158] at hF
    refine K_region (C_val (V_assign (v := (.int .i64 0)) (.int _ _)) ?_)
    refine C_nil (CW_ret ?_)
    obtain rfl := Option.some.inj hF
    exact End_ret () (.tmp rfl rfl .nil) rfl (.sel .nil)
  rw [if_neg (by rw [hb158]; exact Bool.false_ne_true)] at hF
  refine CW_skip (K_region (C_new rfl (N_allocT (g := true) ty84 rfl rfl) (fun k5 => ?_)))
  refine C_x1 (.cons .h .nil) (X_storeB (e' := (.int .i64 1)) (v := (.int .i64 1)) ty84.sz (.tmp rfl rfl) (.int _ _) rfl rfl rfl rfl rfl) (fun _ => ?_)
  refine C_nil (K_region (C_val (V_fieldAddr (off := 3) fd47_3 (.tmp rfl rfl)) ?_))
  refine C_val (V_fieldAddr (off := 1) fd41_1 (.tmp rfl rfl)) ?_
  refine C_at (.t .h) (fun hp => V_load (v := (.int .i64 a_m.Source.Version)) ag3 (.tmp rfl rfl) hp.2 rfl rfl) ?_
  refine C_val (V_rem (i := a_m.Source.Version) (j := 1000) (.tmp rfl rfl) (.int _ _) (by decide)) ?_
  refine C_val (V_fieldAddr (off := 7) fd47_5 (.tmp rfl rfl)) ?_
  refine C_at (.t .h) (fun hp => V_load (v := (.int .i64 a_m.Now)) ag3 (.tmp rfl rfl) hp.2 rfl rfl) ?_
  refine C_val (V_rem (i := a_m.Now) (j := 10000) (.tmp rfl rfl) (.int _ _) (by decide)) ?_
  refine C_new rfl (N_buildSliceT (g := true) sl22 ty3 (.cons (.tmp rfl rfl) (.cons (.tmp rfl rfl) .nil)) (vs := [(.int .i64 (Int.tmod a_m.Source.Version 1000)), (.int .i64 (Int.tmod a_m.Now 10000))]) rfl rfl rfl (by intro v hv; simp at hv; rcases hv with rfl | rfl <;> rfl)) (fun k6 => ?_)
  refine C_conv (.cons .h .nil) (own_lit (Ro := (roE rdInt)) (E := 3) (F := ([] ++ ([] ++ []))) (xs := ([(Int.tmod a_m.Source.Version 1000), (Int.tmod a_m.Now 10000)] : List Int)) (MkL_cons (Mk_pure (fun _ => rfl)) (MkL_cons (Mk_pure (fun _ => rfl)) MkL_nil apps) apps) rfl rfl) apps ?_
  refine C_frz .h frz_own ?_
  obtain ⟨r7, hx8, hF⟩ := bind_some hF
  refine C_x1 (.cons (.t .h) (.rd .h rfl .nil)) (X_callS cf42 (.cons (.tmp rfl rfl) (.cons (.tmp rfl rfl) .nil)) (i_digest_mix_ok k5 1 ([(Int.tmod a_m.Source.Version 1000), (Int.tmod a_m.Now 10000)] : List Int) (⟨(some ⟨k6, 0, none⟩), 2, 1⟩) _ hx8)) (fun p9 => ?_)
  refine C_nil (K_in (K_region (C_val (V_fieldAddr (off := 3) fd47_3 (.tmp rfl rfl)) ?_)))
  refine C_val (V_fieldAddr (off := 0) fd41_0 (.tmp rfl rfl)) ?_
  refine C_at (.t (.t .h)) (fun hp => V_load (v := v0_3.v) ag39 (.tmp rfl rfl) hp.2 rfl rfl) ?_
  refine C_at (.t (.t (.t (.t (.t (.t .h)))))) (fun hp => V_lenR (l := a_m.Source.Facts.length) sl39 (.tmp rfl rfl) (crd_len hp)) ?_
  refine C_val (V_move (v := (.int .i64 0)) (.int _ _)) ?_
  refine C_nil (CW_block (CW_loop (m := a_m.Source.Facts.length) (fun m85 f' cs' => ∃ (g : Fr) (k87 : Nat) (rest88 : List Fact) (c83 : Int), m85 = rest88.length ∧ f' = updL g [(1, (.pointer (some ⟨k1, 0, some 0⟩))), (3, (.pointer (some ⟨k5, 0, some 0⟩))), (22, v0_3.v), (23, (.int .i64 (a_m.Source.Facts.length : Int))), (24, (.int .i64 (k87 : Int)))] ∧ List.drop k87 a_m.Source.Facts = rest88 ∧ Ent cs' [cboR k1 47 (.agg [v0_0.v, v0_1.v, v0_2.v, v0_3.v, (.int .i64 a_m.Source.Version), v0_5.v, (.int .i64 a_m.Cache.Age), (.int .i64 a_m.Now), v0_8.v, v0_9.v, (.int .i64 a_m.Spent), v0_11.v].toArray), crd (RdS 3 rdInt) v0_0.v a_m.Schema, crd (RdS 108 rd108) v0_1.v a_m.Methods, crd (RdS 110 rd110) v0_2.v a_m.Rules, crd (RdS 80 rd80) v0_3.v a_m.Source.Facts, crd (RdS 147 rd147) v0_5.v a_m.Cache.Entries, crd (RdS 105 rd105) v0_8.v a_m.Log, crd (RdS 3 rdInt) v0_9.v a_m.Times, crd (RdS 83 (RdS 22 (RdS 3 rdInt))) v0_11.v a_m.Results, cbox k5 84 (.int .i64 c83)] ∧ i_DigestOf_L1 a_m rest88 k87 c83 = some R) ⟨_, 0, _, _, rfl, (EqL.cons rfl (EqL.cons rfl (EqL.cons rfl (EqL.cons rfl (EqL.cons rfl (EqL.nil)))))).eq, rfl, (.sel (.rd (.t (.t .h)) rfl (.rd (.t (.t (.t .h))) rfl (.rd (.t (.t (.t (.t .h)))) rfl (.rd (.t (.t (.t (.t (.t .h))))) rfl (.rd (.t (.t (.t (.t (.t (.t .h)))))) rfl (.rd (.t (.t (.t (.t (.t (.t (.t .h))))))) rfl (.rd (.t (.t (.t (.t (.t (.t (.t (.t .h)))))))) rfl (.rd (.t (.t (.t (.t (.t (.t (.t (.t (.t .h))))))))) rfl (.rd (.t (.t (.t (.t (.t (.t (.t (.t (.t (.t .h)))))))))) rfl (.cons .h .nil))))))))))), hF⟩ ?_))
  clear hF
  rintro m85 _ _ ⟨g86, k87, rest88, c83, rfl, rfl, hd90, hE, hF⟩
  refine K_ent hE ?_
  clear hE
  refine K_pure (c := crd (RdS 80 rd80) v0_3.v a_m.Source.Facts) (.t (.t (.t (.t .h)))) crd_bound (fun hbd95 => ?_)
  rcases rest88 with _ | ⟨x89, rest88⟩
  · have hk91 := List.drop_eq_nil_iff.1 hd90
    have hfe94 : (decide (((k87 : Int) : Int) < (a_m.Source.Facts.length : Int))) = false := decide_eq_false (by omega)
    rw [i_DigestOf_L1] at hF
    refine K_region (C_val (V_lss (i := (k87 : Int)) (j := (a_m.Source.Facts.length : Int)) (.tmp rfl rfl) (.tmp rfl rfl)) ?_)
    refine C_nil (K_in (CW_cond (b := (decide (((k87 : Int) : Int) < (a_m.Source.Facts.length : Int)))) (.tmp rfl rfl) (fun hb => absurd (hfe94.symm.trans hb) (by decide)) (fun _ => ?_)))
    refine CW_exit ?_
    iterate 2 refine CThen_exit ?_
    refine CIn_self (K_region (C_val (V_fieldAddr (off := 8) fd47_6 (.tmp rfl rfl)) ?_))
    refine C_at .h (fun hp => V_load (v := v0_8.v) ag45 (.tmp rfl rfl) hp.2 rfl rfl) ?_
    obtain ⟨r96, hx97, hF⟩ := bind_some hF
    refine C_x0 (.rd (.t (.t (.t (.t (.t (.t .h)))))) rfl .nil) (X_callS cf45 (.cons (.tmp rfl rfl) .nil) (i_ViewDigest_ok a_m.Log v0_8 _ hx97)) (fun _ => ?_)
    refine C_new rfl (N_buildSliceT (g := true) sl22 ty3 (.cons (.tmp rfl rfl) .nil) (vs := [(.int .i64 r96)]) rfl rfl rfl (by intro v hv; simp at hv; rcases hv with rfl <;> rfl)) (fun k99 => ?_)
    refine C_conv (.cons .h .nil) (own_lit (Ro := (roE rdInt)) (E := 3) (F := ([] ++ [])) (xs := ([r96] : List Int)) (MkL_cons (Mk_pure (fun _ => rfl)) MkL_nil apps) rfl rfl) apps ?_
    refine C_frz .h frz_own ?_
    obtain ⟨r100, hx101, hF⟩ := bind_some hF
    refine C_x1 (.cons (.t (.t (.t (.t (.t (.t (.t (.t (.t (.t .h)))))))))) (.rd .h rfl .nil)) (X_callS cf42 (.cons (.tmp rfl rfl) (.cons (.tmp rfl rfl) .nil)) (i_digest_mix_ok k5 c83 ([r96] : List Int) (⟨(some ⟨k99, 0, none⟩), 1, 1⟩) _ hx101)) (fun p102 => ?_)
    refine C_nil (K_in (K_region (C_val (V_fieldAddr (off := 11) fd47_9 (.tmp rfl rfl)) ?_)))
    refine C_at (.t (.t .h)) (fun hp => V_load (v := v0_11.v) ag32 (.tmp rfl rfl) hp.2 rfl rfl) ?_
    refine C_at (.t (.t (.t (.t (.t (.t (.t (.t (.t (.t .h)))))))))) (fun hp => V_lenR (l := a_m.Results.length) sl32 (.tmp rfl rfl) (crd_len hp)) ?_
    refine C_val (V_move (v := (.int .i64 0)) (.int _ _)) ?_
    refine C_nil (CW_block (CW_loop (m := a_m.Results.length) (fun m126 f' cs' => ∃ (g : Fr) (k128 : Nat) (rest129 : List (List (List Int))) (c124 : Int), m126 = rest129.length ∧ f' = updL g [(3, (.pointer (some ⟨k5, 0, some 0⟩))), (38, v0_11.v), (39, (.int .i64 (a_m.Results.length : Int))), (40, (.int .i64 (k128 : Int)))] ∧ List.drop k128 a_m.Results = rest129 ∧ Ent cs' [cbox k5 84 (.int .i64 c124), crd (RdS 83 (RdS 22 (RdS 3 rdInt))) v0_11.v a_m.Results] ∧ i_DigestOf_L3 rest129 k128 c124 = some R) ⟨_, 0, _, _, rfl, (EqL.cons rfl (EqL.cons rfl (EqL.cons rfl (EqL.cons rfl (EqL.nil))))).eq, rfl, (.sel (.cons .h (.rd (.t (.t (.t (.t (.t (.t (.t (.t (.t .h))))))))) rfl .nil))), hF⟩ ?_))
    clear hF
    rintro m126 _ _ ⟨g127, k128, rest129, c124, rfl, rfl, hd131, hE, hF⟩
    refine K_ent hE ?_
    clear hE
    refine K_pure (c := crd (RdS 83 (RdS 22 (RdS 3 rdInt))) v0_11.v a_m.Results) (.t .h) crd_bound (fun hbd136 => ?_)
    rcases rest129 with _ | ⟨x130, rest129⟩
    · have hk132 := List.drop_eq_nil_iff.1 hd131
      have hfe135 : (decide (((k128 : Int) : Int) < (a_m.Results.length : Int))) = false := decide_eq_false (by omega)
      rw [i_DigestOf_L3] at hF
      refine K_region (C_val (V_lss (i := (k128 : Int)) (j := (a_m.Results.length : Int)) (.tmp rfl rfl) (.tmp rfl rfl)) ?_)
      refine C_nil (K_in (CW_cond (b := (decide (((k128 : Int) : Int) < (a_m.Results.length : Int)))) (.tmp rfl rfl) (fun hb => absurd (hfe135.symm.trans hb) (by decide)) (fun _ => ?_)))
      refine CW_exit ?_
      iterate 2 refine CThen_exit ?_
      refine CIn_self (K_region (C_at .h (fun hp => V_load (v := (.int .i64 c124)) ag84 (.tmp rfl rfl) hp.2 rfl rfl) ?_))
      refine Ca (.int .i64 c124) rfl rfl ?_
      refine C_nil (CW_ret ?_)
      obtain rfl := Option.some.inj hF
      exact End_ret () (.tmp rfl rfl .nil) rfl (.sel .nil)
    obtain ⟨hk132, hx133, hd134⟩ := drop_cons hd131
    have hfe135 : (decide (((k128 : Int) : Int) < (a_m.Results.length : Int))) = true := decide_eq_true (by omega)
    rw [i_DigestOf_L3] at hF
    refine K_region (C_val (V_lss (i := (k128 : Int)) (j := (a_m.Results.length : Int)) (.tmp rfl rfl) (.tmp rfl rfl)) ?_)
    refine C_nil (K_in (CW_cond (b := (decide (((k128 : Int) : Int) < (a_m.Results.length : Int)))) (.tmp rfl rfl) (fun _ => ?_) (fun hb => absurd (hfe135.symm.trans hb) (by decide))))
    refine CW_skip (K_block (K_region (C_idx (a := x130) sl32 ty83.sz (.tmp rfl rfl) (.tmp rfl rfl) (.t .h) (Int.natCast_nonneg k128) hx133 (fun k137 j138 => ?_))))
    refine C_ldV (R' := (RdS 22 (RdS 3 rdInt))) ag83 (.tmp rfl rfl) .h lv83_0 (fun w139 => ?_)
    refine Ca w139.v rfl rfl ?_
    refine C_nil (CW_region (Cm w139.v rfl rfl ?_))
    obtain ⟨r140, hx141, hF⟩ := bind_some hF
    refine C_x0 (.rd .h rfl .nil) (X_callS cf46 (.cons (.tmp rfl rfl) .nil) (i_FormatTuples_ok x130 w139 _ hx141)) (fun _ => ?_)
    obtain ⟨r143, hx144, hF⟩ := bind_some hF
    refine C_x1 (.cons (.t (.t .h)) .nil) (X_callS cf43 (.cons (.tmp rfl rfl) (.cons (.tmp rfl rfl) .nil)) (i_digest_text_ok k5 c124 r140 _ hx144)) (fun p145 => ?_)
    refine C_nil (CW_region (C_val (V_add (i := (k128 : Int)) (j := 1) (.tmp rfl rfl) (.int _ _)) ?_))
    refine Cm (.int .i64 (IntKind.i64.wrap ((k128 : Int) + 1))) rfl rfl ?_
    refine C_nil ?_
    have hw146 : IntKind.i64.wrap ((k128 : Int) + 1) = ((k128 + 1 : Nat) : Int) := by rw [wrap_in (by omega) (by omega)]; rfl
    rw [hw146]
    exact ⟨_, Nat.lt_succ_self _, _, k128 + 1, rest129, _, rfl, (EqL.cons rfl (EqL.cons rfl (EqL.cons rfl (EqL.cons rfl (EqL.nil))))).eq, hd134, (.sel (.cons .h (.rd (.t (.t .h)) rfl .nil))), hF⟩
  obtain ⟨hk91, hx92, hd93⟩ := drop_cons hd90
  have hfe94 : (decide (((k87 : Int) : Int) < (a_m.Source.Facts.length : Int))) = true := decide_eq_true (by omega)
  rw [i_DigestOf_L1] at hF
  refine K_region (C_val (V_lss (i := (k87 : Int)) (j := (a_m.Source.Facts.length : Int)) (.tmp rfl rfl) (.tmp rfl rfl)) ?_)
  refine C_nil (K_in (CW_cond (b := (decide (((k87 : Int) : Int) < (a_m.Source.Facts.length : Int)))) (.tmp rfl rfl) (fun _ => ?_) (fun hb => absurd (hfe94.symm.trans hb) (by decide))))
  refine CW_skip (K_block (K_region (C_idx (a := x89) sl39 ty80.sz (.tmp rfl rfl) (.tmp rfl rfl) (.t (.t (.t (.t .h)))) (Int.natCast_nonneg k87) hx92 (fun k147 j148 => ?_))))
  refine C_ldA1 (ul80_0_80 x89) ag80 ty80.sz rfl (.tmp rfl rfl) .h la80_0_80 (fun p149 => ?_)
  refine C_new rfl (N_allocT (g := true) ty80 rfl rfl) (fun k150 => ?_)
  refine C_x1 (.cons .h .nil) (X_storeB (e' := (.agg [(.int .i64 x89.Rel), p149.v].toArray)) (v := (.agg [(.int .i64 x89.Rel), p149.v].toArray)) ty80.sz (.tmp rfl rfl) (.tmp rfl rfl) rfl rfl rfl rfl rfl) (fun _ => ?_)
  refine C_nil (CW_region (C_at .h (fun hp => V_loadBox ag80 ty80.sz rfl (.tmp rfl rfl) hp.2 rfl) ?_))
  obtain ⟨r151, hx152, hF⟩ := bind_some hF
  refine C_x0 (.rd (.t .h) rfl .nil) (X_callS cf44 (.cons (.tmp rfl rfl) .nil) (i_FormatFact_ok x89 p149 _ hx152)) (fun _ => ?_)
  obtain ⟨r154, hx155, hF⟩ := bind_some hF
  refine C_x1 (.cons (.t (.t (.t (.t (.t (.t (.t (.t (.t (.t (.t (.t .h)))))))))))) .nil) (X_callS cf43 (.cons (.tmp rfl rfl) (.cons (.tmp rfl rfl) .nil)) (i_digest_text_ok k5 c83 r151 _ hx155)) (fun p156 => ?_)
  refine C_nil (CW_region (C_val (V_add (i := (k87 : Int)) (j := 1) (.tmp rfl rfl) (.int _ _)) ?_))
  refine Cm (.int .i64 (IntKind.i64.wrap ((k87 : Int) + 1))) rfl rfl ?_
  refine C_nil ?_
  have hw157 : IntKind.i64.wrap ((k87 : Int) + 1) = ((k87 + 1 : Nat) : Int) := by rw [wrap_in (by omega) (by omega)]; rfl
  rw [hw157]
  exact ⟨_, Nat.lt_succ_self _, _, k87 + 1, rest88, _, rfl, (EqL.cons rfl (EqL.cons rfl (EqL.cons rfl (EqL.cons rfl (EqL.cons rfl (EqL.nil)))))).eq, hd93, (.sel (.rd (.t (.t (.t (.t .h)))) rfl (.rd (.t (.t (.t (.t (.t .h))))) rfl (.rd (.t (.t (.t (.t (.t (.t .h)))))) rfl (.rd (.t (.t (.t (.t (.t (.t (.t .h))))))) rfl (.rd (.t (.t (.t (.t (.t (.t (.t (.t .h)))))))) rfl (.rd (.t (.t (.t (.t (.t (.t (.t (.t (.t .h))))))))) rfl (.rd (.t (.t (.t (.t (.t (.t (.t (.t (.t (.t .h)))))))))) rfl (.rd (.t (.t (.t (.t (.t (.t (.t (.t (.t (.t (.t .h))))))))))) rfl (.rd (.t (.t (.t (.t (.t (.t (.t (.t (.t (.t (.t (.t .h)))))))))))) rfl (.cons .h .nil))))))))))), hF⟩

/-! laws.eqIntS -/
def l_eqIntS_L1 (a_b : List Int) : List Int → Nat → Option (Bool)
  | [], k4 => some true
  | x6 :: rest5, k4 => (ix a_b (k4 : Int)).bind fun x15 =>
    if ((x6 : Int) != x15) then (
      some false)
    else (
      l_eqIntS_L1 a_b rest5 (k4 + 1))
def l_eqIntS (a_a : List Int) (a_b : List Int) : Option (Bool) :=
  if (((a_a.length : Int) : Int) != (a_b.length : Int)) then (
    some false)
  else (
    l_eqIntS_L1 a_b a_a 0)
theorem l_eqIntS_ok (a_a : List Int) (v0_0 : Sv) (a_b : List Int) (v1_0 : Sv) (R : Bool) (hF : l_eqIntS a_a a_b = some R) :
    Fw.Spec Tryz.prog 31 [v0_0.v, v1_0.v] [crd (RdS 3 rdInt) v0_0.v a_a, crd (RdS 3 rdInt) v1_0.v a_b] (fun _ : Unit => (.bool R)) (fun _ => []) := by
  refine Spec_enter (n := 26) Tryz.func31 rfl rfl (rs := [.tmp 4]) rfl rfl rfl ?_
  intro H0 F0
  unfold l_eqIntS at hF
  refine K_region (C_val (V_assign (v := (.bool false)) (.bool _)) ?_)
  refine C_nil (K_in (K_region (Cm v0_0.v rfl rfl ?_)))
  refine C_at .h (fun hp => V_lenR (l := a_a.length) sl22 (.tmp rfl rfl) (crd_len hp)) ?_
  refine Cm v1_0.v rfl rfl ?_
  refine C_at (.t .h) (fun hp => V_lenR (l := a_b.length) sl22 (.tmp rfl rfl) (crd_len hp)) ?_
  refine C_val (V_neq (i := (a_a.length : Int)) (j := (a_b.length : Int)) (.tmp rfl rfl) (.tmp rfl rfl)) ?_
  refine C_nil (CW_cond (b := (((a_a.length : Int) : Int) != (a_b.length : Int))) (.tmp rfl rfl) (fun hb23 => ?_) (fun hb23 => ?_))
  · rw [if_pos hb23] at hF
    refine K_region (C_val (V_assign (v := (.bool false)) (.bool _)) ?_)
    refine C_nil (CW_ret ?_)
    obtain rfl := Option.some.inj hF
    exact End_ret () (.tmp rfl rfl .nil) rfl (.sel .nil)
  rw [if_neg (by rw [hb23]; exact Bool.false_ne_true)] at hF
  refine CW_skip (K_in (K_region (C_val (V_assign (v := (.int .i64 0)) (.int _ _)) ?_)))
  refine C_nil (CW_block (CW_loop (m := a_a.length) (fun m2 f' cs' => ∃ (g : Fr) (k4 : Nat) (rest5 : List Int), m2 = rest5.length ∧ f' = updL g [(0, v0_0.v), (1, v1_0.v), (5, (.int .i64 (k4 : Int)))] ∧ List.drop k4 a_a = rest5 ∧ Ent cs' [crd (RdS 3 rdInt) v0_0.v a_a, crd (RdS 3 rdInt) v1_0.v a_b] ∧ l_eqIntS_L1 a_b rest5 k4 = some R) ⟨_, 0, _, rfl, (EqL.cons rfl (EqL.cons rfl (EqL.cons rfl (EqL.nil)))).eq, rfl, (.sel (.rd .h rfl (.rd (.t .h) rfl .nil))), hF⟩ ?_))
  clear hF
  rintro m2 _ _ ⟨g3, k4, rest5, rfl, rfl, hd7, hE, hF⟩
  refine K_ent hE ?_
  clear hE
  refine K_pure (c := crd (RdS 3 rdInt) v0_0.v a_a) .h crd_bound (fun hbd12 => ?_)
  rcases rest5 with _ | ⟨x6, rest5⟩
  · have hk8 := List.drop_eq_nil_iff.1 hd7
    have hfe11 : (decide (((k4 : Int) : Int) < (a_a.length : Int))) = false := decide_eq_false (by omega)
    rw [l_eqIntS_L1] at hF
    refine K_in (K_region (Cm (.int .i64 (k4 : Int)) rfl rfl ?_))
    refine Cm v0_0.v rfl rfl ?_
    refine C_at .h (fun hp => V_lenR (l := a_a.length) sl22 (.tmp rfl rfl) (crd_len hp)) ?_
    refine C_val (V_lss (i := (k4 : Int)) (j := (a_a.length : Int)) (.tmp rfl rfl) (.tmp rfl rfl)) ?_
    refine C_nil (CW_cond (b := (decide (((k4 : Int) : Int) < (a_a.length : Int)))) (.tmp rfl rfl) (fun hb => absurd (hfe11.symm.trans hb) (by decide)) (fun _ => ?_))
    refine CW_exit ?_
    iterate 2 refine CThen_exit ?_
    refine CIn_self (K_region (C_val (V_assign (v := (.bool true)) (.bool _)) ?_))
    refine C_nil (CW_ret ?_)
    obtain rfl := Option.some.inj hF
    exact End_ret () (.tmp rfl rfl .nil) rfl (.sel .nil)
  obtain ⟨hk8, hx9, hd10⟩ := drop_cons hd7
  have hfe11 : (decide (((k4 : Int) : Int) < (a_a.length : Int))) = true := decide_eq_true (by omega)
  rw [l_eqIntS_L1] at hF
  refine K_in (K_region (Cm (.int .i64 (k4 : Int)) rfl rfl ?_))
  refine Cm v0_0.v rfl rfl ?_
  refine C_at .h (fun hp => V_lenR (l := a_a.length) sl22 (.tmp rfl rfl) (crd_len hp)) ?_
  refine C_val (V_lss (i := (k4 : Int)) (j := (a_a.length : Int)) (.tmp rfl rfl) (.tmp rfl rfl)) ?_
  refine C_nil (CW_cond (b := (decide (((k4 : Int) : Int) < (a_a.length : Int)))) (.tmp rfl rfl) (fun _ => ?_) (fun hb => absurd (hfe11.symm.trans hb) (by decide)))
  refine CW_skip (K_block (K_draw [0, 1, 2, 3, 4, 5, 6, 7, 8] [0, 0, 3, 7, 0, 0, 48, 112, 255] [] mixed (by decide +kernel) ?_))
  refine Dm v0_0.v rfl rfl rfl rfl ?_
  refine Dm (.int .i64 (k4 : Int)) rfl rfl rfl rfl ?_
  refine D_idx (a := x6) sl22 ty3.sz rfl .no (.tmp rfl rfl) (.tmp rfl rfl) rfl rfl .h (Int.natCast_nonneg k4) hx9 (fun k13 j14 => ?_)
  refine D_ldS (w := (.int .i64 x6)) ag3 rfl .no (.tmp rfl rfl) rfl .h ls3_0 ?_
  refine Dm v1_0.v rfl rfl rfl rfl ?_
  refine Dm (.int .i64 (k4 : Int)) rfl rfl rfl rfl ?_
  obtain ⟨x15, hx16, hF⟩ := bind_some hF
  obtain ⟨hp17, hx18⟩ := ix_some hx16
  refine D_idx (a := x15) sl22 ty3.sz rfl .no (.tmp rfl rfl) (.tmp rfl rfl) rfl rfl (.t (.t .h)) hp17 hx18 (fun k19 j20 => ?_)
  refine D_ldS (w := (.int .i64 x15)) ag3 rfl .no (.tmp rfl rfl) rfl .h ls3_0 ?_
  refine D_val rfl .no (fun ha => V_neq (i := x6) (j := x15) (EN ha (.tmp rfl rfl) rfl) (EN ha (.tmp rfl rfl) rfl)) ?_
  refine D_nil (CW_cond (b := ((x6 : Int) != x15)) (.tmp rfl rfl) (fun hb22 => ?_) (fun hb22 => ?_))
  · rw [if_pos hb22] at hF
    refine K_region (C_val (V_assign (v := (.bool false)) (.bool _)) ?_)
    refine C_nil (CW_ret ?_)
    obtain rfl := Option.some.inj hF
    exact End_ret () (.tmp rfl rfl .nil) rfl (.sel .nil)
  rw [if_neg (by rw [hb22]; exact Bool.false_ne_true)] at hF
  refine CW_skip (CW_region (Cm (.int .i64 (k4 : Int)) rfl rfl ?_))
  refine C_val (V_add (i := (k4 : Int)) (j := 1) (.tmp rfl rfl) (.int _ _)) ?_
  refine Ca (.int .i64 (IntKind.i64.wrap ((k4 : Int) + 1))) rfl rfl ?_
  refine C_nil ?_
  have hw21 : IntKind.i64.wrap ((k4 : Int) + 1) = ((k4 + 1 : Nat) : Int) := by rw [wrap_in (by omega) (by omega)]; rfl
  rw [hw21]
  exact ⟨_, Nat.lt_succ_self _, _, k4 + 1, rest5, rfl, (EqL.cons rfl (EqL.cons rfl (EqL.cons rfl (EqL.nil)))).eq, hd10, (.sel (.rd (.t (.t .h)) rfl (.rd (.t (.t (.t .h))) rfl .nil))), hF⟩

/-! laws.eqMethod -/
def l_eqMethod (a_a : Method) (a_b : Method) : Option (Bool) :=
  if ((a_a.Rel : Int) != a_b.Rel) then (
    some false)
  else (
    (l_eqIntS a_a.Inputs a_b.Inputs).bind fun r3 =>
    if (!r3) then (
      some false)
    else (
      if ((a_a.Limit : Int) != a_b.Limit) then (
        some false)
      else (
        if ((a_a.Cost : Int) != a_b.Cost) then (
          some false)
        else (
          if ((a_a.Quota : Int) != a_b.Quota) then (
            some false)
          else (
            some true)))))
theorem l_eqMethod_ok (a_a : Method) (v0_1 : Sv) (a_b : Method) (v1_1 : Sv) (R : Bool) (hF : l_eqMethod a_a a_b = some R) :
    Fw.Spec Tryz.prog 81 [(.agg [(.int .i64 a_a.Rel), v0_1.v, (.int .i64 a_a.Limit), (.int .i64 a_a.Cost), (.int .i64 a_a.Quota)].toArray), (.agg [(.int .i64 a_b.Rel), v1_1.v, (.int .i64 a_b.Limit), (.int .i64 a_b.Cost), (.int .i64 a_b.Quota)].toArray)] [crd (RdS 3 rdInt) v0_1.v a_a.Inputs, crd (RdS 3 rdInt) v1_1.v a_b.Inputs] (fun _ : Unit => (.bool R)) (fun _ => []) := by
  refine Spec_enter (n := 31) Tryz.func81 rfl rfl (rs := [.tmp 4]) rfl rfl rfl ?_
  intro H0 F0
  unfold l_eqMethod at hF
  refine K_region (C_newR rfl (N_box (g := false) (v := (.agg [(.int .i64 a_a.Rel), v0_1.v, (.int .i64 a_a.Limit), (.int .i64 a_a.Cost), (.int .i64 a_a.Quota)].toArray)) ty108.sz (.tmp rfl rfl) rfl) (fun k1 => ?_))
  refine C_newR rfl (N_box (g := false) (v := (.agg [(.int .i64 a_b.Rel), v1_1.v, (.int .i64 a_b.Limit), (.int .i64 a_b.Cost), (.int .i64 a_b.Quota)].toArray)) ty108.sz (.tmp rfl rfl) rfl) (fun k2 => ?_)
  refine C_val (V_assign (v := (.bool false)) (.bool _)) ?_
  refine C_nil (K_in (K_region (C_val (V_fieldAddr (off := 0) fd108_0 (.tmp rfl rfl)) ?_)))
  refine C_at (.t .h) (fun hp => V_load (v := (.int .i64 a_a.Rel)) ag3 (.tmp rfl rfl) hp.2 rfl rfl) ?_
  refine C_val (V_fieldAddr (off := 0) fd108_0 (.tmp rfl rfl)) ?_
  refine C_at .h (fun hp => V_load (v := (.int .i64 a_b.Rel)) ag3 (.tmp rfl rfl) hp.2 rfl rfl) ?_
  refine C_val (V_neq (i := a_a.Rel) (j := a_b.Rel) (.tmp rfl rfl) (.tmp rfl rfl)) ?_
  refine C_nil (CW_cond (b := ((a_a.Rel : Int) != a_b.Rel)) (.tmp rfl rfl) (fun hb10 => ?_) (fun hb10 => ?_))
  · rw [if_pos hb10] at hF
    refine K_region (C_val (V_assign (v := (.bool false)) (.bool _)) ?_)
    refine C_nil (CW_ret ?_)
    obtain rfl := Option.some.inj hF
    exact End_ret () (.tmp rfl rfl .nil) rfl (.sel .nil)
  rw [if_neg (by rw [hb10]; exact Bool.false_ne_true)] at hF
  refine CW_skip (K_in (K_region (C_val (V_fieldAddr (off := 1) fd108_1 (.tmp rfl rfl)) ?_)))
  refine C_at (.t .h) (fun hp => V_load (v := v0_1.v) ag22 (.tmp rfl rfl) hp.2 rfl rfl) ?_
  refine C_val (V_fieldAddr (off := 1) fd108_1 (.tmp rfl rfl)) ?_
  refine C_at .h (fun hp => V_load (v := v1_1.v) ag22 (.tmp rfl rfl) hp.2 rfl rfl) ?_
  obtain ⟨r3, hx4, hF⟩ := bind_some hF
  refine C_x0 (.rd (.t (.t .h)) rfl (.rd (.t (.t (.t .h))) rfl .nil)) (X_callS cf31 (.cons (.tmp rfl rfl) (.cons (.tmp rfl rfl) .nil)) (l_eqIntS_ok a_a.Inputs v0_1 a_b.Inputs v1_1 _ hx4)) (fun _ => ?_)
  refine C_val (V_not (b := r3) (.tmp rfl rfl)) ?_
  refine C_nil (CW_cond (b := (!r3)) (.tmp rfl rfl) (fun hb9 => ?_) (fun hb9 => ?_))
  · rw [if_pos hb9] at hF
    refine K_region (C_val (V_assign (v := (.bool false)) (.bool _)) ?_)
    refine C_nil (CW_ret ?_)
    obtain rfl := Option.some.inj hF
    exact End_ret () (.tmp rfl rfl .nil) rfl (.sel .nil)
  rw [if_neg (by rw [hb9]; exact Bool.false_ne_true)] at hF
  refine CW_skip (K_in (K_region (C_val (V_fieldAddr (off := 2) fd108_2 (.tmp rfl rfl)) ?_)))
  refine C_at (.t .h) (fun hp => V_load (v := (.int .i64 a_a.Limit)) ag3 (.tmp rfl rfl) hp.2 rfl rfl) ?_
  refine C_val (V_fieldAddr (off := 2) fd108_2 (.tmp rfl rfl)) ?_
  refine C_at .h (fun hp => V_load (v := (.int .i64 a_b.Limit)) ag3 (.tmp rfl rfl) hp.2 rfl rfl) ?_
  refine C_val (V_neq (i := a_a.Limit) (j := a_b.Limit) (.tmp rfl rfl) (.tmp rfl rfl)) ?_
  refine C_nil (CW_cond (b := ((a_a.Limit : Int) != a_b.Limit)) (.tmp rfl rfl) (fun hb8 => ?_) (fun hb8 => ?_))
  · rw [if_pos hb8] at hF
    refine K_region (C_val (V_assign (v := (.bool false)) (.bool _)) ?_)
    refine C_nil (CW_ret ?_)
    obtain rfl := Option.some.inj hF
    exact End_ret () (.tmp rfl rfl .nil) rfl (.sel .nil)
  rw [if_neg (by rw [hb8]; exact Bool.false_ne_true)] at hF
  refine CW_skip (K_in (K_region (C_val (V_fieldAddr (off := 3) fd108_3 (.tmp rfl rfl)) ?_)))
  refine C_at (.t .h) (fun hp => V_load (v := (.int .i64 a_a.Cost)) ag3 (.tmp rfl rfl) hp.2 rfl rfl) ?_
  refine C_val (V_fieldAddr (off := 3) fd108_3 (.tmp rfl rfl)) ?_
  refine C_at .h (fun hp => V_load (v := (.int .i64 a_b.Cost)) ag3 (.tmp rfl rfl) hp.2 rfl rfl) ?_
  refine C_val (V_neq (i := a_a.Cost) (j := a_b.Cost) (.tmp rfl rfl) (.tmp rfl rfl)) ?_
  refine C_nil (CW_cond (b := ((a_a.Cost : Int) != a_b.Cost)) (.tmp rfl rfl) (fun hb7 => ?_) (fun hb7 => ?_))
  · rw [if_pos hb7] at hF
    refine K_region (C_val (V_assign (v := (.bool false)) (.bool _)) ?_)
    refine C_nil (CW_ret ?_)
    obtain rfl := Option.some.inj hF
    exact End_ret () (.tmp rfl rfl .nil) rfl (.sel .nil)
  rw [if_neg (by rw [hb7]; exact Bool.false_ne_true)] at hF
  refine CW_skip (K_in (K_region (C_val (V_fieldAddr (off := 4) fd108_4 (.tmp rfl rfl)) ?_)))
  refine C_at (.t .h) (fun hp => V_load (v := (.int .i64 a_a.Quota)) ag3 (.tmp rfl rfl) hp.2 rfl rfl) ?_
  refine C_val (V_fieldAddr (off := 4) fd108_4 (.tmp rfl rfl)) ?_
  refine C_at .h (fun hp => V_load (v := (.int .i64 a_b.Quota)) ag3 (.tmp rfl rfl) hp.2 rfl rfl) ?_
  refine C_val (V_neq (i := a_a.Quota) (j := a_b.Quota) (.tmp rfl rfl) (.tmp rfl rfl)) ?_
  refine C_nil (CW_cond (b := ((a_a.Quota : Int) != a_b.Quota)) (.tmp rfl rfl) (fun hb6 => ?_) (fun hb6 => ?_))
  · rw [if_pos hb6] at hF
    refine K_region (C_val (V_assign (v := (.bool false)) (.bool _)) ?_)
    refine C_nil (CW_ret ?_)
    obtain rfl := Option.some.inj hF
    exact End_ret () (.tmp rfl rfl .nil) rfl (.sel .nil)
  rw [if_neg (by rw [hb6]; exact Bool.false_ne_true)] at hF
  refine CW_skip (K_region (C_val (V_assign (v := (.bool true)) (.bool _)) ?_))
  refine C_nil (CW_ret ?_)
  obtain rfl := Option.some.inj hF
  exact End_ret () (.tmp rfl rfl .nil) rfl (.sel .nil)

/-! laws.eqMethodS -/
def l_eqMethodS_L1 (a_b : List Method) : List Method → Nat → Option (Bool)
  | [], k4 => some true
  | x6 :: rest5, k4 => (ix a_b (k4 : Int)).bind fun x16 =>
    (l_eqMethod x6 x16).bind fun r23 =>
    if (!r23) then (
      some false)
    else (
      l_eqMethodS_L1 a_b rest5 (k4 + 1))
def l_eqMethodS (a_a : List Method) (a_b : List Method) : Option (Bool) :=
  if (((a_a.length : Int) : Int) != (a_b.length : Int)) then (
    some false)
  else (
    l_eqMethodS_L1 a_b a_a 0)
theorem l_eqMethodS_ok (a_a : List Method) (v0_0 : Sv) (a_b : List Method) (v1_0 : Sv) (R : Bool) (hF : l_eqMethodS a_a a_b = some R) :
    Fw.Spec Tryz.prog 32 [v0_0.v, v1_0.v] [crd (RdS 108 rd108) v0_0.v a_a, crd (RdS 108 rd108) v1_0.v a_b] (fun _ : Unit => (.bool R)) (fun _ => []) := by
  refine Spec_enter (n := 27) Tryz.func32 rfl rfl (rs := [.tmp 4]) rfl rfl rfl ?_
  intro H0 F0
  unfold l_eqMethodS at hF
  refine K_region (C_val (V_assign (v := (.bool false)) (.bool _)) ?_)
  refine C_nil (K_in (K_region (Cm v0_0.v rfl rfl ?_)))
  refine C_at .h (fun hp => V_lenR (l := a_a.length) sl37 (.tmp rfl rfl) (crd_len hp)) ?_
  refine Cm v1_0.v rfl rfl ?_
  refine C_at (.t .h) (fun hp => V_lenR (l := a_b.length) sl37 (.tmp rfl rfl) (crd_len hp)) ?_
  refine C_val (V_neq (i := (a_a.length : Int)) (j := (a_b.length : Int)) (.tmp rfl rfl) (.tmp rfl rfl)) ?_
  refine C_nil (CW_cond (b := (((a_a.length : Int) : Int) != (a_b.length : Int))) (.tmp rfl rfl) (fun hb28 => ?_) (fun hb28 => ?_))
  · rw [if_pos hb28] at hF
    refine K_region (C_val (V_assign (v := (.bool false)) (.bool _)) ?_)
    refine C_nil (CW_ret ?_)
    obtain rfl := Option.some.inj hF
    exact End_ret () (.tmp rfl rfl .nil) rfl (.sel .nil)
  rw [if_neg (by rw [hb28]; exact Bool.false_ne_true)] at hF
  refine CW_skip (K_in (K_region (C_val (V_assign (v := (.int .i64 0)) (.int _ _)) ?_)))
  refine C_nil (CW_block (CW_loop (m := a_a.length) (fun m2 f' cs' => ∃ (g : Fr) (k4 : Nat) (rest5 : List Method), m2 = rest5.length ∧ f' = updL g [(0, v0_0.v), (1, v1_0.v), (5, (.int .i64 (k4 : Int)))] ∧ List.drop k4 a_a = rest5 ∧ Ent cs' [crd (RdS 108 rd108) v0_0.v a_a, crd (RdS 108 rd108) v1_0.v a_b] ∧ l_eqMethodS_L1 a_b rest5 k4 = some R) ⟨_, 0, _, rfl, (EqL.cons rfl (EqL.cons rfl (EqL.cons rfl (EqL.nil)))).eq, rfl, (.sel (.rd .h rfl (.rd (.t .h) rfl .nil))), hF⟩ ?_))
  clear hF
  rintro m2 _ _ ⟨g3, k4, rest5, rfl, rfl, hd7, hE, hF⟩
  refine K_ent hE ?_
  clear hE
  refine K_pure (c := crd (RdS 108 rd108) v0_0.v a_a) .h crd_bound (fun hbd12 => ?_)
  rcases rest5 with _ | ⟨x6, rest5⟩
  · have hk8 := List.drop_eq_nil_iff.1 hd7
    have hfe11 : (decide (((k4 : Int) : Int) < (a_a.length : Int))) = false := decide_eq_false (by omega)
    rw [l_eqMethodS_L1] at hF
    refine K_in (K_region (Cm (.int .i64 (k4 : Int)) rfl rfl ?_))
    refine Cm v0_0.v rfl rfl ?_
    refine C_at .h (fun hp => V_lenR (l := a_a.length) sl37 (.tmp rfl rfl) (crd_len hp)) ?_
    refine C_val (V_lss (i := (k4 : Int)) (j := (a_a.length : Int)) (.tmp rfl rfl) (.tmp rfl rfl)) ?_
    refine C_nil (CW_cond (b := (decide (((k4 : Int) : Int) < (a_a.length : Int)))) (.tmp rfl rfl) (fun hb => absurd (hfe11.symm.trans hb) (by decide)) (fun _ => ?_))
    refine CW_exit ?_
    iterate 2 refine CThen_exit ?_
    refine CIn_self (K_region (C_val (V_assign (v := (.bool true)) (.bool _)) ?_))
    refine C_nil (CW_ret ?_)
    obtain rfl := Option.some.inj hF
    exact End_ret () (.tmp rfl rfl .nil) rfl (.sel .nil)
  obtain ⟨hk8, hx9, hd10⟩ := drop_cons hd7
  have hfe11 : (decide (((k4 : Int) : Int) < (a_a.length : Int))) = true := decide_eq_true (by omega)
  rw [l_eqMethodS_L1] at hF
  refine K_in (K_region (Cm (.int .i64 (k4 : Int)) rfl rfl ?_))
  refine Cm v0_0.v rfl rfl ?_
  refine C_at .h (fun hp => V_lenR (l := a_a.length) sl37 (.tmp rfl rfl) (crd_len hp)) ?_
  refine C_val (V_lss (i := (k4 : Int)) (j := (a_a.length : Int)) (.tmp rfl rfl) (.tmp rfl rfl)) ?_
  refine C_nil (CW_cond (b := (decide (((k4 : Int) : Int) < (a_a.length : Int)))) (.tmp rfl rfl) (fun _ => ?_) (fun hb => absurd (hfe11.symm.trans hb) (by decide)))
  refine CW_skip (K_block (K_draw [0, 1, 2, 3, 4, 5, 6, 7, 8, 9] [0, 0, 3, 7, 0, 0, 48, 112, 255, 511] [8] mixed (by decide +kernel) ?_))
  refine Dm v0_0.v rfl rfl rfl rfl ?_
  refine Dm (.int .i64 (k4 : Int)) rfl rfl rfl rfl ?_
  refine D_idx (a := x6) sl37 ty108.sz rfl .no (.tmp rfl rfl) (.tmp rfl rfl) rfl rfl .h (Int.natCast_nonneg k4) hx9 (fun k13 j14 => ?_)
  refine D_ldA1 (ul108_0_108 x6) ag108 ty108.sz rfl rfl .no (.tmp rfl rfl) rfl .h la108_0_108 (fun p15 => ?_)
  refine Dm v1_0.v rfl rfl rfl rfl ?_
  refine Dm (.int .i64 (k4 : Int)) rfl rfl rfl rfl ?_
  obtain ⟨x16, hx17, hF⟩ := bind_some hF
  obtain ⟨hp18, hx19⟩ := ix_some hx17
  refine D_idx (a := x16) sl37 ty108.sz rfl .no (.tmp rfl rfl) (.tmp rfl rfl) rfl rfl (.t (.t (.t .h))) hp18 hx19 (fun k20 j21 => ?_)
  refine D_ldA1 (ul108_0_108 x16) ag108 ty108.sz rfl rfl .no (.tmp rfl rfl) rfl .h la108_0_108 (fun p22 => ?_)
  obtain ⟨r23, hx24, hF⟩ := bind_some hF
  refine D_act0 rfl rfl .no (.rd (.t (.t .h)) rfl (.rd .h rfl .nil)) .nil (fun ha => X_callS cf81 (.cons (EN ha (.tmp rfl rfl) rfl) (.cons (EN ha (.tmp rfl rfl) rfl) .nil)) (l_eqMethod_ok x6 p15 x16 p22 _ hx24)) (fun _ => ?_)
  refine D_val rfl .no (fun ha => V_not (b := r23) (EN ha (.tmp rfl rfl) rfl)) ?_
  refine D_nil (CW_cond (b := (!r23)) (.tmp rfl rfl) (fun hb27 => ?_) (fun hb27 => ?_))
  · rw [if_pos hb27] at hF
    refine K_region (C_val (V_assign (v := (.bool false)) (.bool _)) ?_)
    refine C_nil (CW_ret ?_)
    obtain rfl := Option.some.inj hF
    exact End_ret () (.tmp rfl rfl .nil) rfl (.sel .nil)
  rw [if_neg (by rw [hb27]; exact Bool.false_ne_true)] at hF
  refine CW_skip (CW_region (Cm (.int .i64 (k4 : Int)) rfl rfl ?_))
  refine C_val (V_add (i := (k4 : Int)) (j := 1) (.tmp rfl rfl) (.int _ _)) ?_
  refine Ca (.int .i64 (IntKind.i64.wrap ((k4 : Int) + 1))) rfl rfl ?_
  refine C_nil ?_
  have hw26 : IntKind.i64.wrap ((k4 : Int) + 1) = ((k4 + 1 : Nat) : Int) := by rw [wrap_in (by omega) (by omega)]; rfl
  rw [hw26]
  exact ⟨_, Nat.lt_succ_self _, _, k4 + 1, rest5, rfl, (EqL.cons rfl (EqL.cons rfl (EqL.cons rfl (EqL.nil)))).eq, hd10, (.sel (.rd (.t (.t (.t (.t .h)))) rfl (.rd (.t (.t (.t (.t (.t .h))))) rfl .nil))), hF⟩

/-! laws.eqRule -/
def l_eqRule (a_a : Rule) (a_b : Rule) : Option (Bool) :=
  if ((a_a.From : Int) != a_b.From) then (
    some false)
  else (
    if ((a_a.To : Int) != a_b.To) then (
      some false)
    else (
      (l_eqIntS a_a.Map a_b.Map).bind fun r3 =>
      if (!r3) then (
        some false)
      else (
        some true)))
theorem l_eqRule_ok (a_a : Rule) (v0_2 : Sv) (a_b : Rule) (v1_2 : Sv) (R : Bool) (hF : l_eqRule a_a a_b = some R) :
    Fw.Spec Tryz.prog 82 [(.agg [(.int .i64 a_a.From), (.int .i64 a_a.To), v0_2.v].toArray), (.agg [(.int .i64 a_b.From), (.int .i64 a_b.To), v1_2.v].toArray)] [crd (RdS 3 rdInt) v0_2.v a_a.Map, crd (RdS 3 rdInt) v1_2.v a_b.Map] (fun _ : Unit => (.bool R)) (fun _ => []) := by
  refine Spec_enter (n := 21) Tryz.func82 rfl rfl (rs := [.tmp 4]) rfl rfl rfl ?_
  intro H0 F0
  unfold l_eqRule at hF
  refine K_region (C_newR rfl (N_box (g := false) (v := (.agg [(.int .i64 a_a.From), (.int .i64 a_a.To), v0_2.v].toArray)) ty110.sz (.tmp rfl rfl) rfl) (fun k1 => ?_))
  refine C_newR rfl (N_box (g := false) (v := (.agg [(.int .i64 a_b.From), (.int .i64 a_b.To), v1_2.v].toArray)) ty110.sz (.tmp rfl rfl) rfl) (fun k2 => ?_)
  refine C_val (V_assign (v := (.bool false)) (.bool _)) ?_
  refine C_nil (K_in (K_region (C_val (V_fieldAddr (off := 0) fd110_0 (.tmp rfl rfl)) ?_)))
  refine C_at (.t .h) (fun hp => V_load (v := (.int .i64 a_a.From)) ag3 (.tmp rfl rfl) hp.2 rfl rfl) ?_
  refine C_val (V_fieldAddr (off := 0) fd110_0 (.tmp rfl rfl)) ?_
  refine C_at .h (fun hp => V_load (v := (.int .i64 a_b.From)) ag3 (.tmp rfl rfl) hp.2 rfl rfl) ?_
  refine C_val (V_neq (i := a_a.From) (j := a_b.From) (.tmp rfl rfl) (.tmp rfl rfl)) ?_
  refine C_nil (CW_cond (b := ((a_a.From : Int) != a_b.From)) (.tmp rfl rfl) (fun hb8 => ?_) (fun hb8 => ?_))
  · rw [if_pos hb8] at hF
    refine K_region (C_val (V_assign (v := (.bool false)) (.bool _)) ?_)
    refine C_nil (CW_ret ?_)
    obtain rfl := Option.some.inj hF
    exact End_ret () (.tmp rfl rfl .nil) rfl (.sel .nil)
  rw [if_neg (by rw [hb8]; exact Bool.false_ne_true)] at hF
  refine CW_skip (K_in (K_region (C_val (V_fieldAddr (off := 1) fd110_1 (.tmp rfl rfl)) ?_)))
  refine C_at (.t .h) (fun hp => V_load (v := (.int .i64 a_a.To)) ag3 (.tmp rfl rfl) hp.2 rfl rfl) ?_
  refine C_val (V_fieldAddr (off := 1) fd110_1 (.tmp rfl rfl)) ?_
  refine C_at .h (fun hp => V_load (v := (.int .i64 a_b.To)) ag3 (.tmp rfl rfl) hp.2 rfl rfl) ?_
  refine C_val (V_neq (i := a_a.To) (j := a_b.To) (.tmp rfl rfl) (.tmp rfl rfl)) ?_
  refine C_nil (CW_cond (b := ((a_a.To : Int) != a_b.To)) (.tmp rfl rfl) (fun hb7 => ?_) (fun hb7 => ?_))
  · rw [if_pos hb7] at hF
    refine K_region (C_val (V_assign (v := (.bool false)) (.bool _)) ?_)
    refine C_nil (CW_ret ?_)
    obtain rfl := Option.some.inj hF
    exact End_ret () (.tmp rfl rfl .nil) rfl (.sel .nil)
  rw [if_neg (by rw [hb7]; exact Bool.false_ne_true)] at hF
  refine CW_skip (K_in (K_region (C_val (V_fieldAddr (off := 2) fd110_2 (.tmp rfl rfl)) ?_)))
  refine C_at (.t .h) (fun hp => V_load (v := v0_2.v) ag22 (.tmp rfl rfl) hp.2 rfl rfl) ?_
  refine C_val (V_fieldAddr (off := 2) fd110_2 (.tmp rfl rfl)) ?_
  refine C_at .h (fun hp => V_load (v := v1_2.v) ag22 (.tmp rfl rfl) hp.2 rfl rfl) ?_
  obtain ⟨r3, hx4, hF⟩ := bind_some hF
  refine C_x0 (.rd (.t (.t .h)) rfl (.rd (.t (.t (.t .h))) rfl .nil)) (X_callS cf31 (.cons (.tmp rfl rfl) (.cons (.tmp rfl rfl) .nil)) (l_eqIntS_ok a_a.Map v0_2 a_b.Map v1_2 _ hx4)) (fun _ => ?_)
  refine C_val (V_not (b := r3) (.tmp rfl rfl)) ?_
  refine C_nil (CW_cond (b := (!r3)) (.tmp rfl rfl) (fun hb6 => ?_) (fun hb6 => ?_))
  · rw [if_pos hb6] at hF
    refine K_region (C_val (V_assign (v := (.bool false)) (.bool _)) ?_)
    refine C_nil (CW_ret ?_)
    obtain rfl := Option.some.inj hF
    exact End_ret () (.tmp rfl rfl .nil) rfl (.sel .nil)
  rw [if_neg (by rw [hb6]; exact Bool.false_ne_true)] at hF
  refine CW_skip (K_region (C_val (V_assign (v := (.bool true)) (.bool _)) ?_))
  refine C_nil (CW_ret ?_)
  obtain rfl := Option.some.inj hF
  exact End_ret () (.tmp rfl rfl .nil) rfl (.sel .nil)

/-! laws.eqRuleS -/
def l_eqRuleS_L1 (a_b : List Rule) : List Rule → Nat → Option (Bool)
  | [], k4 => some true
  | x6 :: rest5, k4 => (ix a_b (k4 : Int)).bind fun x16 =>
    (l_eqRule x6 x16).bind fun r23 =>
    if (!r23) then (
      some false)
    else (
      l_eqRuleS_L1 a_b rest5 (k4 + 1))
def l_eqRuleS (a_a : List Rule) (a_b : List Rule) : Option (Bool) :=
  if (((a_a.length : Int) : Int) != (a_b.length : Int)) then (
    some false)
  else (
    l_eqRuleS_L1 a_b a_a 0)
theorem l_eqRuleS_ok (a_a : List Rule) (v0_0 : Sv) (a_b : List Rule) (v1_0 : Sv) (R : Bool) (hF : l_eqRuleS a_a a_b = some R) :
    Fw.Spec Tryz.prog 33 [v0_0.v, v1_0.v] [crd (RdS 110 rd110) v0_0.v a_a, crd (RdS 110 rd110) v1_0.v a_b] (fun _ : Unit => (.bool R)) (fun _ => []) := by
  refine Spec_enter (n := 27) Tryz.func33 rfl rfl (rs := [.tmp 4]) rfl rfl rfl ?_
  intro H0 F0
  unfold l_eqRuleS at hF
  refine K_region (C_val (V_assign (v := (.bool false)) (.bool _)) ?_)
  refine C_nil (K_in (K_region (Cm v0_0.v rfl rfl ?_)))
  refine C_at .h (fun hp => V_lenR (l := a_a.length) sl38 (.tmp rfl rfl) (crd_len hp)) ?_
  refine Cm v1_0.v rfl rfl ?_
  refine C_at (.t .h) (fun hp => V_lenR (l := a_b.length) sl38 (.tmp rfl rfl) (crd_len hp)) ?_
  refine C_val (V_neq (i := (a_a.length : Int)) (j := (a_b.length : Int)) (.tmp rfl rfl) (.tmp rfl rfl)) ?_
  refine C_nil (CW_cond (b := (((a_a.length : Int) : Int) != (a_b.length : Int))) (.tmp rfl rfl) (fun hb28 => ?_) (fun hb28 => ?_))
  · rw [if_pos hb28] at hF
    refine K_region (C_val (V_assign (v := (.bool false)) (.bool _)) ?_)
    refine C_nil (CW_ret ?_)
    obtain rfl := Option.some.inj hF
    exact End_ret () (.tmp rfl rfl .nil) rfl (.sel .nil)
  rw [if_neg (by rw [hb28]; exact Bool.false_ne_true)] at hF
  refine CW_skip (K_in (K_region (C_val (V_assign (v := (.int .i64 0)) (.int _ _)) ?_)))
  refine C_nil (CW_block (CW_loop (m := a_a.length) (fun m2 f' cs' => ∃ (g : Fr) (k4 : Nat) (rest5 : List Rule), m2 = rest5.length ∧ f' = updL g [(0, v0_0.v), (1, v1_0.v), (5, (.int .i64 (k4 : Int)))] ∧ List.drop k4 a_a = rest5 ∧ Ent cs' [crd (RdS 110 rd110) v0_0.v a_a, crd (RdS 110 rd110) v1_0.v a_b] ∧ l_eqRuleS_L1 a_b rest5 k4 = some R) ⟨_, 0, _, rfl, (EqL.cons rfl (EqL.cons rfl (EqL.cons rfl (EqL.nil)))).eq, rfl, (.sel (.rd .h rfl (.rd (.t .h) rfl .nil))), hF⟩ ?_))
  clear hF
  rintro m2 _ _ ⟨g3, k4, rest5, rfl, rfl, hd7, hE, hF⟩
  refine K_ent hE ?_
  clear hE
  refine K_pure (c := crd (RdS 110 rd110) v0_0.v a_a) .h crd_bound (fun hbd12 => ?_)
  rcases rest5 with _ | ⟨x6, rest5⟩
  · have hk8 := List.drop_eq_nil_iff.1 hd7
    have hfe11 : (decide (((k4 : Int) : Int) < (a_a.length : Int))) = false := decide_eq_false (by omega)
    rw [l_eqRuleS_L1] at hF
    refine K_in (K_region (Cm (.int .i64 (k4 : Int)) rfl rfl ?_))
    refine Cm v0_0.v rfl rfl ?_
    refine C_at .h (fun hp => V_lenR (l := a_a.length) sl38 (.tmp rfl rfl) (crd_len hp)) ?_
    refine C_val (V_lss (i := (k4 : Int)) (j := (a_a.length : Int)) (.tmp rfl rfl) (.tmp rfl rfl)) ?_
    refine C_nil (CW_cond (b := (decide (((k4 : Int) : Int) < (a_a.length : Int)))) (.tmp rfl rfl) (fun hb => absurd (hfe11.symm.trans hb) (by decide)) (fun _ => ?_))
    refine CW_exit ?_
    iterate 2 refine CThen_exit ?_
    refine CIn_self (K_region (C_val (V_assign (v := (.bool true)) (.bool _)) ?_))
    refine C_nil (CW_ret ?_)
    obtain rfl := Option.some.inj hF
    exact End_ret () (.tmp rfl rfl .nil) rfl (.sel .nil)
  obtain ⟨hk8, hx9, hd10⟩ := drop_cons hd7
  have hfe11 : (decide (((k4 : Int) : Int) < (a_a.length : Int))) = true := decide_eq_true (by omega)
  rw [l_eqRuleS_L1] at hF
  refine K_in (K_region (Cm (.int .i64 (k4 : Int)) rfl rfl ?_))
  refine Cm v0_0.v rfl rfl ?_
  refine C_at .h (fun hp => V_lenR (l := a_a.length) sl38 (.tmp rfl rfl) (crd_len hp)) ?_
  refine C_val (V_lss (i := (k4 : Int)) (j := (a_a.length : Int)) (.tmp rfl rfl) (.tmp rfl rfl)) ?_
  refine C_nil (CW_cond (b := (decide (((k4 : Int) : Int) < (a_a.length : Int)))) (.tmp rfl rfl) (fun _ => ?_) (fun hb => absurd (hfe11.symm.trans hb) (by decide)))
  refine CW_skip (K_block (K_draw [0, 1, 2, 3, 4, 5, 6, 7, 8, 9] [0, 0, 3, 7, 0, 0, 48, 112, 255, 511] [8] mixed (by decide +kernel) ?_))
  refine Dm v0_0.v rfl rfl rfl rfl ?_
  refine Dm (.int .i64 (k4 : Int)) rfl rfl rfl rfl ?_
  refine D_idx (a := x6) sl38 ty110.sz rfl .no (.tmp rfl rfl) (.tmp rfl rfl) rfl rfl .h (Int.natCast_nonneg k4) hx9 (fun k13 j14 => ?_)
  refine D_ldA1 (ul110_0_110 x6) ag110 ty110.sz rfl rfl .no (.tmp rfl rfl) rfl .h la110_0_110 (fun p15 => ?_)
  refine Dm v1_0.v rfl rfl rfl rfl ?_
  refine Dm (.int .i64 (k4 : Int)) rfl rfl rfl rfl ?_
  obtain ⟨x16, hx17, hF⟩ := bind_some hF
  obtain ⟨hp18, hx19⟩ := ix_some hx17
  refine D_idx (a := x16) sl38 ty110.sz rfl .no (.tmp rfl rfl) (.tmp rfl rfl) rfl rfl (.t (.t (.t .h))) hp18 hx19 (fun k20 j21 => ?_)
  refine D_ldA1 (ul110_0_110 x16) ag110 ty110.sz rfl rfl .no (.tmp rfl rfl) rfl .h la110_0_110 (fun p22 => ?_)
  obtain ⟨r23, hx24, hF⟩ := bind_some hF
  refine D_act0 rfl rfl .no (.rd (.t (.t .h)) rfl (.rd .h rfl .nil)) .nil (fun ha => X_callS cf82 (.cons (EN ha (.tmp rfl rfl) rfl) (.cons (EN ha (.tmp rfl rfl) rfl) .nil)) (l_eqRule_ok x6 p15 x16 p22 _ hx24)) (fun _ => ?_)
  refine D_val rfl .no (fun ha => V_not (b := r23) (EN ha (.tmp rfl rfl) rfl)) ?_
  refine D_nil (CW_cond (b := (!r23)) (.tmp rfl rfl) (fun hb27 => ?_) (fun hb27 => ?_))
  · rw [if_pos hb27] at hF
    refine K_region (C_val (V_assign (v := (.bool false)) (.bool _)) ?_)
    refine C_nil (CW_ret ?_)
    obtain rfl := Option.some.inj hF
    exact End_ret () (.tmp rfl rfl .nil) rfl (.sel .nil)
  rw [if_neg (by rw [hb27]; exact Bool.false_ne_true)] at hF
  refine CW_skip (CW_region (Cm (.int .i64 (k4 : Int)) rfl rfl ?_))
  refine C_val (V_add (i := (k4 : Int)) (j := 1) (.tmp rfl rfl) (.int _ _)) ?_
  refine Ca (.int .i64 (IntKind.i64.wrap ((k4 : Int) + 1))) rfl rfl ?_
  refine C_nil ?_
  have hw26 : IntKind.i64.wrap ((k4 : Int) + 1) = ((k4 + 1 : Nat) : Int) := by rw [wrap_in (by omega) (by omega)]; rfl
  rw [hw26]
  exact ⟨_, Nat.lt_succ_self _, _, k4 + 1, rest5, rfl, (EqL.cons rfl (EqL.cons rfl (EqL.cons rfl (EqL.nil)))).eq, hd10, (.sel (.rd (.t (.t (.t (.t .h)))) rfl (.rd (.t (.t (.t (.t (.t .h))))) rfl .nil))), hF⟩

/-! laws.eqFact -/
def l_eqFact (a_a : Fact) (a_b : Fact) : Option (Bool) :=
  if ((a_a.Rel : Int) != a_b.Rel) then (
    some false)
  else (
    (l_eqIntS a_a.Values a_b.Values).bind fun r3 =>
    if (!r3) then (
      some false)
    else (
      some true))
theorem l_eqFact_ok (a_a : Fact) (v0_1 : Sv) (a_b : Fact) (v1_1 : Sv) (R : Bool) (hF : l_eqFact a_a a_b = some R) :
    Fw.Spec Tryz.prog 119 [(.agg [(.int .i64 a_a.Rel), v0_1.v].toArray), (.agg [(.int .i64 a_b.Rel), v1_1.v].toArray)] [crd (RdS 3 rdInt) v0_1.v a_a.Values, crd (RdS 3 rdInt) v1_1.v a_b.Values] (fun _ : Unit => (.bool R)) (fun _ => []) := by
  refine Spec_enter (n := 16) Tryz.func119 rfl rfl (rs := [.tmp 4]) rfl rfl rfl ?_
  intro H0 F0
  unfold l_eqFact at hF
  refine K_region (C_newR rfl (N_box (g := false) (v := (.agg [(.int .i64 a_a.Rel), v0_1.v].toArray)) ty80.sz (.tmp rfl rfl) rfl) (fun k1 => ?_))
  refine C_newR rfl (N_box (g := false) (v := (.agg [(.int .i64 a_b.Rel), v1_1.v].toArray)) ty80.sz (.tmp rfl rfl) rfl) (fun k2 => ?_)
  refine C_val (V_assign (v := (.bool false)) (.bool _)) ?_
  refine C_nil (K_in (K_region (C_val (V_fieldAddr (off := 0) fd80_0 (.tmp rfl rfl)) ?_)))
  refine C_at (.t .h) (fun hp => V_load (v := (.int .i64 a_a.Rel)) ag3 (.tmp rfl rfl) hp.2 rfl rfl) ?_
  refine C_val (V_fieldAddr (off := 0) fd80_0 (.tmp rfl rfl)) ?_
  refine C_at .h (fun hp => V_load (v := (.int .i64 a_b.Rel)) ag3 (.tmp rfl rfl) hp.2 rfl rfl) ?_
  refine C_val (V_neq (i := a_a.Rel) (j := a_b.Rel) (.tmp rfl rfl) (.tmp rfl rfl)) ?_
  refine C_nil (CW_cond (b := ((a_a.Rel : Int) != a_b.Rel)) (.tmp rfl rfl) (fun hb7 => ?_) (fun hb7 => ?_))
  · rw [if_pos hb7] at hF
    refine K_region (C_val (V_assign (v := (.bool false)) (.bool _)) ?_)
    refine C_nil (CW_ret ?_)
    obtain rfl := Option.some.inj hF
    exact End_ret () (.tmp rfl rfl .nil) rfl (.sel .nil)
  rw [if_neg (by rw [hb7]; exact Bool.false_ne_true)] at hF
  refine CW_skip (K_in (K_region (C_val (V_fieldAddr (off := 1) fd80_1 (.tmp rfl rfl)) ?_)))
  refine C_at (.t .h) (fun hp => V_load (v := v0_1.v) ag22 (.tmp rfl rfl) hp.2 rfl rfl) ?_
  refine C_val (V_fieldAddr (off := 1) fd80_1 (.tmp rfl rfl)) ?_
  refine C_at .h (fun hp => V_load (v := v1_1.v) ag22 (.tmp rfl rfl) hp.2 rfl rfl) ?_
  obtain ⟨r3, hx4, hF⟩ := bind_some hF
  refine C_x0 (.rd (.t (.t .h)) rfl (.rd (.t (.t (.t .h))) rfl .nil)) (X_callS cf31 (.cons (.tmp rfl rfl) (.cons (.tmp rfl rfl) .nil)) (l_eqIntS_ok a_a.Values v0_1 a_b.Values v1_1 _ hx4)) (fun _ => ?_)
  refine C_val (V_not (b := r3) (.tmp rfl rfl)) ?_
  refine C_nil (CW_cond (b := (!r3)) (.tmp rfl rfl) (fun hb6 => ?_) (fun hb6 => ?_))
  · rw [if_pos hb6] at hF
    refine K_region (C_val (V_assign (v := (.bool false)) (.bool _)) ?_)
    refine C_nil (CW_ret ?_)
    obtain rfl := Option.some.inj hF
    exact End_ret () (.tmp rfl rfl .nil) rfl (.sel .nil)
  rw [if_neg (by rw [hb6]; exact Bool.false_ne_true)] at hF
  refine CW_skip (K_region (C_val (V_assign (v := (.bool true)) (.bool _)) ?_))
  refine C_nil (CW_ret ?_)
  obtain rfl := Option.some.inj hF
  exact End_ret () (.tmp rfl rfl .nil) rfl (.sel .nil)

/-! laws.eqFactS -/
def l_eqFactS_L1 (a_b : List Fact) : List Fact → Nat → Option (Bool)
  | [], k4 => some true
  | x6 :: rest5, k4 => (ix a_b (k4 : Int)).bind fun x16 =>
    (l_eqFact x6 x16).bind fun r23 =>
    if (!r23) then (
      some false)
    else (
      l_eqFactS_L1 a_b rest5 (k4 + 1))
def l_eqFactS (a_a : List Fact) (a_b : List Fact) : Option (Bool) :=
  if (((a_a.length : Int) : Int) != (a_b.length : Int)) then (
    some false)
  else (
    l_eqFactS_L1 a_b a_a 0)
theorem l_eqFactS_ok (a_a : List Fact) (v0_0 : Sv) (a_b : List Fact) (v1_0 : Sv) (R : Bool) (hF : l_eqFactS a_a a_b = some R) :
    Fw.Spec Tryz.prog 83 [v0_0.v, v1_0.v] [crd (RdS 80 rd80) v0_0.v a_a, crd (RdS 80 rd80) v1_0.v a_b] (fun _ : Unit => (.bool R)) (fun _ => []) := by
  refine Spec_enter (n := 27) Tryz.func83 rfl rfl (rs := [.tmp 4]) rfl rfl rfl ?_
  intro H0 F0
  unfold l_eqFactS at hF
  refine K_region (C_val (V_assign (v := (.bool false)) (.bool _)) ?_)
  refine C_nil (K_in (K_region (Cm v0_0.v rfl rfl ?_)))
  refine C_at .h (fun hp => V_lenR (l := a_a.length) sl39 (.tmp rfl rfl) (crd_len hp)) ?_
  refine Cm v1_0.v rfl rfl ?_
  refine C_at (.t .h) (fun hp => V_lenR (l := a_b.length) sl39 (.tmp rfl rfl) (crd_len hp)) ?_
  refine C_val (V_neq (i := (a_a.length : Int)) (j := (a_b.length : Int)) (.tmp rfl rfl) (.tmp rfl rfl)) ?_
  refine C_nil (CW_cond (b := (((a_a.length : Int) : Int) != (a_b.length : Int))) (.tmp rfl rfl) (fun hb28 => ?_) (fun hb28 => ?_))
  · rw [if_pos hb28] at hF
    refine K_region (C_val (V_assign (v := (.bool false)) (.bool _)) ?_)
    refine C_nil (CW_ret ?_)
    obtain rfl := Option.some.inj hF
    exact End_ret () (.tmp rfl rfl .nil) rfl (.sel .nil)
  rw [if_neg (by rw [hb28]; exact Bool.false_ne_true)] at hF
  refine CW_skip (K_in (K_region (C_val (V_assign (v := (.int .i64 0)) (.int _ _)) ?_)))
  refine C_nil (CW_block (CW_loop (m := a_a.length) (fun m2 f' cs' => ∃ (g : Fr) (k4 : Nat) (rest5 : List Fact), m2 = rest5.length ∧ f' = updL g [(0, v0_0.v), (1, v1_0.v), (5, (.int .i64 (k4 : Int)))] ∧ List.drop k4 a_a = rest5 ∧ Ent cs' [crd (RdS 80 rd80) v0_0.v a_a, crd (RdS 80 rd80) v1_0.v a_b] ∧ l_eqFactS_L1 a_b rest5 k4 = some R) ⟨_, 0, _, rfl, (EqL.cons rfl (EqL.cons rfl (EqL.cons rfl (EqL.nil)))).eq, rfl, (.sel (.rd .h rfl (.rd (.t .h) rfl .nil))), hF⟩ ?_))
  clear hF
  rintro m2 _ _ ⟨g3, k4, rest5, rfl, rfl, hd7, hE, hF⟩
  refine K_ent hE ?_
  clear hE
  refine K_pure (c := crd (RdS 80 rd80) v0_0.v a_a) .h crd_bound (fun hbd12 => ?_)
  rcases rest5 with _ | ⟨x6, rest5⟩
  · have hk8 := List.drop_eq_nil_iff.1 hd7
    have hfe11 : (decide (((k4 : Int) : Int) < (a_a.length : Int))) = false := decide_eq_false (by omega)
    rw [l_eqFactS_L1] at hF
    refine K_in (K_region (Cm (.int .i64 (k4 : Int)) rfl rfl ?_))
    refine Cm v0_0.v rfl rfl ?_
    refine C_at .h (fun hp => V_lenR (l := a_a.length) sl39 (.tmp rfl rfl) (crd_len hp)) ?_
    refine C_val (V_lss (i := (k4 : Int)) (j := (a_a.length : Int)) (.tmp rfl rfl) (.tmp rfl rfl)) ?_
    refine C_nil (CW_cond (b := (decide (((k4 : Int) : Int) < (a_a.length : Int)))) (.tmp rfl rfl) (fun hb => absurd (hfe11.symm.trans hb) (by decide)) (fun _ => ?_))
    refine CW_exit ?_
    iterate 2 refine CThen_exit ?_
    refine CIn_self (K_region (C_val (V_assign (v := (.bool true)) (.bool _)) ?_))
    refine C_nil (CW_ret ?_)
    obtain rfl := Option.some.inj hF
    exact End_ret () (.tmp rfl rfl .nil) rfl (.sel .nil)
  obtain ⟨hk8, hx9, hd10⟩ := drop_cons hd7
  have hfe11 : (decide (((k4 : Int) : Int) < (a_a.length : Int))) = true := decide_eq_true (by omega)
  rw [l_eqFactS_L1] at hF
  refine K_in (K_region (Cm (.int .i64 (k4 : Int)) rfl rfl ?_))
  refine Cm v0_0.v rfl rfl ?_
  refine C_at .h (fun hp => V_lenR (l := a_a.length) sl39 (.tmp rfl rfl) (crd_len hp)) ?_
  refine C_val (V_lss (i := (k4 : Int)) (j := (a_a.length : Int)) (.tmp rfl rfl) (.tmp rfl rfl)) ?_
  refine C_nil (CW_cond (b := (decide (((k4 : Int) : Int) < (a_a.length : Int)))) (.tmp rfl rfl) (fun _ => ?_) (fun hb => absurd (hfe11.symm.trans hb) (by decide)))
  refine CW_skip (K_block (K_draw [0, 1, 2, 3, 4, 5, 6, 7, 8, 9] [0, 0, 3, 7, 0, 0, 48, 112, 255, 511] [8] mixed (by decide +kernel) ?_))
  refine Dm v0_0.v rfl rfl rfl rfl ?_
  refine Dm (.int .i64 (k4 : Int)) rfl rfl rfl rfl ?_
  refine D_idx (a := x6) sl39 ty80.sz rfl .no (.tmp rfl rfl) (.tmp rfl rfl) rfl rfl .h (Int.natCast_nonneg k4) hx9 (fun k13 j14 => ?_)
  refine D_ldA1 (ul80_0_80 x6) ag80 ty80.sz rfl rfl .no (.tmp rfl rfl) rfl .h la80_0_80 (fun p15 => ?_)
  refine Dm v1_0.v rfl rfl rfl rfl ?_
  refine Dm (.int .i64 (k4 : Int)) rfl rfl rfl rfl ?_
  obtain ⟨x16, hx17, hF⟩ := bind_some hF
  obtain ⟨hp18, hx19⟩ := ix_some hx17
  refine D_idx (a := x16) sl39 ty80.sz rfl .no (.tmp rfl rfl) (.tmp rfl rfl) rfl rfl (.t (.t (.t .h))) hp18 hx19 (fun k20 j21 => ?_)
  refine D_ldA1 (ul80_0_80 x16) ag80 ty80.sz rfl rfl .no (.tmp rfl rfl) rfl .h la80_0_80 (fun p22 => ?_)
  obtain ⟨r23, hx24, hF⟩ := bind_some hF
  refine D_act0 rfl rfl .no (.rd (.t (.t .h)) rfl (.rd .h rfl .nil)) .nil (fun ha => X_callS cf119 (.cons (EN ha (.tmp rfl rfl) rfl) (.cons (EN ha (.tmp rfl rfl) rfl) .nil)) (l_eqFact_ok x6 p15 x16 p22 _ hx24)) (fun _ => ?_)
  refine D_val rfl .no (fun ha => V_not (b := r23) (EN ha (.tmp rfl rfl) rfl)) ?_
  refine D_nil (CW_cond (b := (!r23)) (.tmp rfl rfl) (fun hb27 => ?_) (fun hb27 => ?_))
  · rw [if_pos hb27] at hF
    refine K_region (C_val (V_assign (v := (.bool false)) (.bool _)) ?_)
    refine C_nil (CW_ret ?_)
    obtain rfl := Option.some.inj hF
    exact End_ret () (.tmp rfl rfl .nil) rfl (.sel .nil)
  rw [if_neg (by rw [hb27]; exact Bool.false_ne_true)] at hF
  refine CW_skip (CW_region (Cm (.int .i64 (k4 : Int)) rfl rfl ?_))
  refine C_val (V_add (i := (k4 : Int)) (j := 1) (.tmp rfl rfl) (.int _ _)) ?_
  refine Ca (.int .i64 (IntKind.i64.wrap ((k4 : Int) + 1))) rfl rfl ?_
  refine C_nil ?_
  have hw26 : IntKind.i64.wrap ((k4 : Int) + 1) = ((k4 + 1 : Nat) : Int) := by rw [wrap_in (by omega) (by omega)]; rfl
  rw [hw26]
  exact ⟨_, Nat.lt_succ_self _, _, k4 + 1, rest5, rfl, (EqL.cons rfl (EqL.cons rfl (EqL.cons rfl (EqL.nil)))).eq, hd10, (.sel (.rd (.t (.t (.t (.t .h)))) rfl (.rd (.t (.t (.t (.t (.t .h))))) rfl .nil))), hF⟩

/-! laws.eqSource -/
def l_eqSource (a_a : Source) (a_b : Source) : Option (Bool) :=
  (l_eqFactS a_a.Facts a_b.Facts).bind fun r3 =>
  if (!r3) then (
    some false)
  else (
    if ((a_a.Version : Int) != a_b.Version) then (
      some false)
    else (
      some true))
theorem l_eqSource_ok (a_a : Source) (v0_0 : Sv) (a_b : Source) (v1_0 : Sv) (R : Bool) (hF : l_eqSource a_a a_b = some R) :
    Fw.Spec Tryz.prog 34 [(.agg [v0_0.v, (.int .i64 a_a.Version)].toArray), (.agg [v1_0.v, (.int .i64 a_b.Version)].toArray)] [crd (RdS 80 rd80) v0_0.v a_a.Facts, crd (RdS 80 rd80) v1_0.v a_b.Facts] (fun _ : Unit => (.bool R)) (fun _ => []) := by
  refine Spec_enter (n := 16) Tryz.func34 rfl rfl (rs := [.tmp 4]) rfl rfl rfl ?_
  intro H0 F0
  unfold l_eqSource at hF
  refine K_region (C_newR rfl (N_box (g := false) (v := (.agg [v0_0.v, (.int .i64 a_a.Version)].toArray)) ty41.sz (.tmp rfl rfl) rfl) (fun k1 => ?_))
  refine C_newR rfl (N_box (g := false) (v := (.agg [v1_0.v, (.int .i64 a_b.Version)].toArray)) ty41.sz (.tmp rfl rfl) rfl) (fun k2 => ?_)
  refine C_val (V_assign (v := (.bool false)) (.bool _)) ?_
  refine C_nil (K_in (K_region (C_val (V_fieldAddr (off := 0) fd41_0 (.tmp rfl rfl)) ?_)))
  refine C_at (.t .h) (fun hp => V_load (v := v0_0.v) ag39 (.tmp rfl rfl) hp.2 rfl rfl) ?_
  refine C_val (V_fieldAddr (off := 0) fd41_0 (.tmp rfl rfl)) ?_
  refine C_at .h (fun hp => V_load (v := v1_0.v) ag39 (.tmp rfl rfl) hp.2 rfl rfl) ?_
  obtain ⟨r3, hx4, hF⟩ := bind_some hF
  refine C_x0 (.rd (.t (.t .h)) rfl (.rd (.t (.t (.t .h))) rfl .nil)) (X_callS cf83 (.cons (.tmp rfl rfl) (.cons (.tmp rfl rfl) .nil)) (l_eqFactS_ok a_a.Facts v0_0 a_b.Facts v1_0 _ hx4)) (fun _ => ?_)
  refine C_val (V_not (b := r3) (.tmp rfl rfl)) ?_
  refine C_nil (CW_cond (b := (!r3)) (.tmp rfl rfl) (fun hb7 => ?_) (fun hb7 => ?_))
  · rw [if_pos hb7] at hF
    refine K_region (C_val (V_assign (v := (.bool false)) (.bool _)) ?_)
    refine C_nil (CW_ret ?_)
    obtain rfl := Option.some.inj hF
    exact End_ret () (.tmp rfl rfl .nil) rfl (.sel .nil)
  rw [if_neg (by rw [hb7]; exact Bool.false_ne_true)] at hF
  refine CW_skip (K_in (K_region (C_val (V_fieldAddr (off := 1) fd41_1 (.tmp rfl rfl)) ?_)))
  refine C_at (.t .h) (fun hp => V_load (v := (.int .i64 a_a.Version)) ag3 (.tmp rfl rfl) hp.2 rfl rfl) ?_
  refine C_val (V_fieldAddr (off := 1) fd41_1 (.tmp rfl rfl)) ?_
  refine C_at .h (fun hp => V_load (v := (.int .i64 a_b.Version)) ag3 (.tmp rfl rfl) hp.2 rfl rfl) ?_
  refine C_val (V_neq (i := a_a.Version) (j := a_b.Version) (.tmp rfl rfl) (.tmp rfl rfl)) ?_
  refine C_nil (CW_cond (b := ((a_a.Version : Int) != a_b.Version)) (.tmp rfl rfl) (fun hb6 => ?_) (fun hb6 => ?_))
  · rw [if_pos hb6] at hF
    refine K_region (C_val (V_assign (v := (.bool false)) (.bool _)) ?_)
    refine C_nil (CW_ret ?_)
    obtain rfl := Option.some.inj hF
    exact End_ret () (.tmp rfl rfl .nil) rfl (.sel .nil)
  rw [if_neg (by rw [hb6]; exact Bool.false_ne_true)] at hF
  refine CW_skip (K_region (C_val (V_assign (v := (.bool true)) (.bool _)) ?_))
  refine C_nil (CW_ret ?_)
  obtain rfl := Option.some.inj hF
  exact End_ret () (.tmp rfl rfl .nil) rfl (.sel .nil)

/-! laws.eqAccess -/
def l_eqAccess (a_a : Access) (a_b : Access) : Option (Bool) :=
  if ((a_a.Method : Int) != a_b.Method) then (
    some false)
  else (
    (l_eqIntS a_a.Values a_b.Values).bind fun r3 =>
    if (!r3) then (
      some false)
    else (
      some true))
theorem l_eqAccess_ok (a_a : Access) (v0_1 : Sv) (a_b : Access) (v1_1 : Sv) (R : Bool) (hF : l_eqAccess a_a a_b = some R) :
    Fw.Spec Tryz.prog 85 [(.agg [(.int .i64 a_a.Method), v0_1.v].toArray), (.agg [(.int .i64 a_b.Method), v1_1.v].toArray)] [crd (RdS 3 rdInt) v0_1.v a_a.Values, crd (RdS 3 rdInt) v1_1.v a_b.Values] (fun _ : Unit => (.bool R)) (fun _ => []) := by
  refine Spec_enter (n := 16) Tryz.func85 rfl rfl (rs := [.tmp 4]) rfl rfl rfl ?_
  intro H0 F0
  unfold l_eqAccess at hF
  refine K_region (C_newR rfl (N_box (g := false) (v := (.agg [(.int .i64 a_a.Method), v0_1.v].toArray)) ty105.sz (.tmp rfl rfl) rfl) (fun k1 => ?_))
  refine C_newR rfl (N_box (g := false) (v := (.agg [(.int .i64 a_b.Method), v1_1.v].toArray)) ty105.sz (.tmp rfl rfl) rfl) (fun k2 => ?_)
  refine C_val (V_assign (v := (.bool false)) (.bool _)) ?_
  refine C_nil (K_in (K_region (C_val (V_fieldAddr (off := 0) fd105_0 (.tmp rfl rfl)) ?_)))
  refine C_at (.t .h) (fun hp => V_load (v := (.int .i64 a_a.Method)) ag3 (.tmp rfl rfl) hp.2 rfl rfl) ?_
  refine C_val (V_fieldAddr (off := 0) fd105_0 (.tmp rfl rfl)) ?_
  refine C_at .h (fun hp => V_load (v := (.int .i64 a_b.Method)) ag3 (.tmp rfl rfl) hp.2 rfl rfl) ?_
  refine C_val (V_neq (i := a_a.Method) (j := a_b.Method) (.tmp rfl rfl) (.tmp rfl rfl)) ?_
  refine C_nil (CW_cond (b := ((a_a.Method : Int) != a_b.Method)) (.tmp rfl rfl) (fun hb7 => ?_) (fun hb7 => ?_))
  · rw [if_pos hb7] at hF
    refine K_region (C_val (V_assign (v := (.bool false)) (.bool _)) ?_)
    refine C_nil (CW_ret ?_)
    obtain rfl := Option.some.inj hF
    exact End_ret () (.tmp rfl rfl .nil) rfl (.sel .nil)
  rw [if_neg (by rw [hb7]; exact Bool.false_ne_true)] at hF
  refine CW_skip (K_in (K_region (C_val (V_fieldAddr (off := 1) fd105_1 (.tmp rfl rfl)) ?_)))
  refine C_at (.t .h) (fun hp => V_load (v := v0_1.v) ag22 (.tmp rfl rfl) hp.2 rfl rfl) ?_
  refine C_val (V_fieldAddr (off := 1) fd105_1 (.tmp rfl rfl)) ?_
  refine C_at .h (fun hp => V_load (v := v1_1.v) ag22 (.tmp rfl rfl) hp.2 rfl rfl) ?_
  obtain ⟨r3, hx4, hF⟩ := bind_some hF
  refine C_x0 (.rd (.t (.t .h)) rfl (.rd (.t (.t (.t .h))) rfl .nil)) (X_callS cf31 (.cons (.tmp rfl rfl) (.cons (.tmp rfl rfl) .nil)) (l_eqIntS_ok a_a.Values v0_1 a_b.Values v1_1 _ hx4)) (fun _ => ?_)
  refine C_val (V_not (b := r3) (.tmp rfl rfl)) ?_
  refine C_nil (CW_cond (b := (!r3)) (.tmp rfl rfl) (fun hb6 => ?_) (fun hb6 => ?_))
  · rw [if_pos hb6] at hF
    refine K_region (C_val (V_assign (v := (.bool false)) (.bool _)) ?_)
    refine C_nil (CW_ret ?_)
    obtain rfl := Option.some.inj hF
    exact End_ret () (.tmp rfl rfl .nil) rfl (.sel .nil)
  rw [if_neg (by rw [hb6]; exact Bool.false_ne_true)] at hF
  refine CW_skip (K_region (C_val (V_assign (v := (.bool true)) (.bool _)) ?_))
  refine C_nil (CW_ret ?_)
  obtain rfl := Option.some.inj hF
  exact End_ret () (.tmp rfl rfl .nil) rfl (.sel .nil)

/-! laws.eqStored -/
def l_eqStored (a_a : Stored) (a_b : Stored) : Option (Bool) :=
  (l_eqAccess a_a.Access a_b.Access).bind fun r3 =>
  if (!r3) then (
    some false)
  else (
    (l_eqFactS a_a.Facts a_b.Facts).bind fun r6 =>
    if (!r6) then (
      some false)
    else (
      if ((a_a.At : Int) != a_b.At) then (
        some false)
      else (
        some true)))
theorem l_eqStored_ok (a_a : Stored) (v0_1 : Sv) (v0_2 : Sv) (a_b : Stored) (v1_1 : Sv) (v1_2 : Sv) (R : Bool) (hF : l_eqStored a_a a_b = some R) :
    Fw.Spec Tryz.prog 120 [(.agg [(.int .i64 a_a.Access.Method), v0_1.v, v0_2.v, (.int .i64 a_a.At)].toArray), (.agg [(.int .i64 a_b.Access.Method), v1_1.v, v1_2.v, (.int .i64 a_b.At)].toArray)] [crd (RdS 3 rdInt) v0_1.v a_a.Access.Values, crd (RdS 80 rd80) v0_2.v a_a.Facts, crd (RdS 3 rdInt) v1_1.v a_b.Access.Values, crd (RdS 80 rd80) v1_2.v a_b.Facts] (fun _ : Unit => (.bool R)) (fun _ => []) := by
  refine Spec_enter (n := 22) Tryz.func120 rfl rfl (rs := [.tmp 4]) rfl rfl rfl ?_
  intro H0 F0
  unfold l_eqStored at hF
  refine K_region (C_newR rfl (N_box (g := false) (v := (.agg [(.int .i64 a_a.Access.Method), v0_1.v, v0_2.v, (.int .i64 a_a.At)].toArray)) ty147.sz (.tmp rfl rfl) rfl) (fun k1 => ?_))
  refine C_newR rfl (N_box (g := false) (v := (.agg [(.int .i64 a_b.Access.Method), v1_1.v, v1_2.v, (.int .i64 a_b.At)].toArray)) ty147.sz (.tmp rfl rfl) rfl) (fun k2 => ?_)
  refine C_val (V_assign (v := (.bool false)) (.bool _)) ?_
  refine C_nil (K_in (K_region (C_val (V_fieldAddr (off := 0) fd147_0 (.tmp rfl rfl)) ?_)))
  refine C_at (.t .h) (fun hp => V_loadA (s := 2) (l := [(.int .i64 a_a.Access.Method), v0_1.v]) ag105 ty105.sz (.tmp rfl rfl) hp.2 rfl (by decide) (Nat.le_of_ble_eq_true rfl) rfl) ?_
  refine C_val (V_fieldAddr (off := 0) fd147_0 (.tmp rfl rfl)) ?_
  refine C_at .h (fun hp => V_loadA (s := 2) (l := [(.int .i64 a_b.Access.Method), v1_1.v]) ag105 ty105.sz (.tmp rfl rfl) hp.2 rfl (by decide) (Nat.le_of_ble_eq_true rfl) rfl) ?_
  obtain ⟨r3, hx4, hF⟩ := bind_some hF
  refine C_x0 (.rd (.t (.t .h)) rfl (.rd (.t (.t (.t (.t .h)))) rfl .nil)) (X_callS cf85 (.cons (.tmp rfl rfl) (.cons (.tmp rfl rfl) .nil)) (l_eqAccess_ok a_a.Access v0_1 a_b.Access v1_1 _ hx4)) (fun _ => ?_)
  refine C_val (V_not (b := r3) (.tmp rfl rfl)) ?_
  refine C_nil (CW_cond (b := (!r3)) (.tmp rfl rfl) (fun hb11 => ?_) (fun hb11 => ?_))
  · rw [if_pos hb11] at hF
    refine K_region (C_val (V_assign (v := (.bool false)) (.bool _)) ?_)
    refine C_nil (CW_ret ?_)
    obtain rfl := Option.some.inj hF
    exact End_ret () (.tmp rfl rfl .nil) rfl (.sel .nil)
  rw [if_neg (by rw [hb11]; exact Bool.false_ne_true)] at hF
  refine CW_skip (K_in (K_region (C_val (V_fieldAddr (off := 2) fd147_1 (.tmp rfl rfl)) ?_)))
  refine C_at (.t .h) (fun hp => V_load (v := v0_2.v) ag39 (.tmp rfl rfl) hp.2 rfl rfl) ?_
  refine C_val (V_fieldAddr (off := 2) fd147_1 (.tmp rfl rfl)) ?_
  refine C_at .h (fun hp => V_load (v := v1_2.v) ag39 (.tmp rfl rfl) hp.2 rfl rfl) ?_
  obtain ⟨r6, hx7, hF⟩ := bind_some hF
  refine C_x0 (.rd (.t (.t (.t .h))) rfl (.rd (.t (.t (.t (.t (.t .h))))) rfl .nil)) (X_callS cf83 (.cons (.tmp rfl rfl) (.cons (.tmp rfl rfl) .nil)) (l_eqFactS_ok a_a.Facts v0_2 a_b.Facts v1_2 _ hx7)) (fun _ => ?_)
  refine C_val (V_not (b := r6) (.tmp rfl rfl)) ?_
  refine C_nil (CW_cond (b := (!r6)) (.tmp rfl rfl) (fun hb10 => ?_) (fun hb10 => ?_))
  · rw [if_pos hb10] at hF
    refine K_region (C_val (V_assign (v := (.bool false)) (.bool _)) ?_)
    refine C_nil (CW_ret ?_)
    obtain rfl := Option.some.inj hF
    exact End_ret () (.tmp rfl rfl .nil) rfl (.sel .nil)
  rw [if_neg (by rw [hb10]; exact Bool.false_ne_true)] at hF
  refine CW_skip (K_in (K_region (C_val (V_fieldAddr (off := 3) fd147_2 (.tmp rfl rfl)) ?_)))
  refine C_at (.t .h) (fun hp => V_load (v := (.int .i64 a_a.At)) ag3 (.tmp rfl rfl) hp.2 rfl rfl) ?_
  refine C_val (V_fieldAddr (off := 3) fd147_2 (.tmp rfl rfl)) ?_
  refine C_at .h (fun hp => V_load (v := (.int .i64 a_b.At)) ag3 (.tmp rfl rfl) hp.2 rfl rfl) ?_
  refine C_val (V_neq (i := a_a.At) (j := a_b.At) (.tmp rfl rfl) (.tmp rfl rfl)) ?_
  refine C_nil (CW_cond (b := ((a_a.At : Int) != a_b.At)) (.tmp rfl rfl) (fun hb9 => ?_) (fun hb9 => ?_))
  · rw [if_pos hb9] at hF
    refine K_region (C_val (V_assign (v := (.bool false)) (.bool _)) ?_)
    refine C_nil (CW_ret ?_)
    obtain rfl := Option.some.inj hF
    exact End_ret () (.tmp rfl rfl .nil) rfl (.sel .nil)
  rw [if_neg (by rw [hb9]; exact Bool.false_ne_true)] at hF
  refine CW_skip (K_region (C_val (V_assign (v := (.bool true)) (.bool _)) ?_))
  refine C_nil (CW_ret ?_)
  obtain rfl := Option.some.inj hF
  exact End_ret () (.tmp rfl rfl .nil) rfl (.sel .nil)

/-! laws.eqStoredS -/
def l_eqStoredS_L1 (a_b : List Stored) : List Stored → Nat → Option (Bool)
  | [], k4 => some true
  | x6 :: rest5, k4 => (ix a_b (k4 : Int)).bind fun x16 =>
    (l_eqStored x6 x16).bind fun r23 =>
    if (!r23) then (
      some false)
    else (
      l_eqStoredS_L1 a_b rest5 (k4 + 1))
def l_eqStoredS (a_a : List Stored) (a_b : List Stored) : Option (Bool) :=
  if (((a_a.length : Int) : Int) != (a_b.length : Int)) then (
    some false)
  else (
    l_eqStoredS_L1 a_b a_a 0)
theorem l_eqStoredS_ok (a_a : List Stored) (v0_0 : Sv) (a_b : List Stored) (v1_0 : Sv) (R : Bool) (hF : l_eqStoredS a_a a_b = some R) :
    Fw.Spec Tryz.prog 84 [v0_0.v, v1_0.v] [crd (RdS 147 rd147) v0_0.v a_a, crd (RdS 147 rd147) v1_0.v a_b] (fun _ : Unit => (.bool R)) (fun _ => []) := by
  refine Spec_enter (n := 27) Tryz.func84 rfl rfl (rs := [.tmp 4]) rfl rfl rfl ?_
  intro H0 F0
  unfold l_eqStoredS at hF
  refine K_region (C_val (V_assign (v := (.bool false)) (.bool _)) ?_)
  refine C_nil (K_in (K_region (Cm v0_0.v rfl rfl ?_)))
  refine C_at .h (fun hp => V_lenR (l := a_a.length) sl42 (.tmp rfl rfl) (crd_len hp)) ?_
  refine Cm v1_0.v rfl rfl ?_
  refine C_at (.t .h) (fun hp => V_lenR (l := a_b.length) sl42 (.tmp rfl rfl) (crd_len hp)) ?_
  refine C_val (V_neq (i := (a_a.length : Int)) (j := (a_b.length : Int)) (.tmp rfl rfl) (.tmp rfl rfl)) ?_
  refine C_nil (CW_cond (b := (((a_a.length : Int) : Int) != (a_b.length : Int))) (.tmp rfl rfl) (fun hb28 => ?_) (fun hb28 => ?_))
  · rw [if_pos hb28] at hF
    refine K_region (C_val (V_assign (v := (.bool false)) (.bool _)) ?_)
    refine C_nil (CW_ret ?_)
    obtain rfl := Option.some.inj hF
    exact End_ret () (.tmp rfl rfl .nil) rfl (.sel .nil)
  rw [if_neg (by rw [hb28]; exact Bool.false_ne_true)] at hF
  refine CW_skip (K_in (K_region (C_val (V_assign (v := (.int .i64 0)) (.int _ _)) ?_)))
  refine C_nil (CW_block (CW_loop (m := a_a.length) (fun m2 f' cs' => ∃ (g : Fr) (k4 : Nat) (rest5 : List Stored), m2 = rest5.length ∧ f' = updL g [(0, v0_0.v), (1, v1_0.v), (5, (.int .i64 (k4 : Int)))] ∧ List.drop k4 a_a = rest5 ∧ Ent cs' [crd (RdS 147 rd147) v0_0.v a_a, crd (RdS 147 rd147) v1_0.v a_b] ∧ l_eqStoredS_L1 a_b rest5 k4 = some R) ⟨_, 0, _, rfl, (EqL.cons rfl (EqL.cons rfl (EqL.cons rfl (EqL.nil)))).eq, rfl, (.sel (.rd .h rfl (.rd (.t .h) rfl .nil))), hF⟩ ?_))
  clear hF
  rintro m2 _ _ ⟨g3, k4, rest5, rfl, rfl, hd7, hE, hF⟩
  refine K_ent hE ?_
  clear hE
  refine K_pure (c := crd (RdS 147 rd147) v0_0.v a_a) .h crd_bound (fun hbd12 => ?_)
  rcases rest5 with _ | ⟨x6, rest5⟩
  · have hk8 := List.drop_eq_nil_iff.1 hd7
    have hfe11 : (decide (((k4 : Int) : Int) < (a_a.length : Int))) = false := decide_eq_false (by omega)
    rw [l_eqStoredS_L1] at hF
    refine K_in (K_region (Cm (.int .i64 (k4 : Int)) rfl rfl ?_))
    refine Cm v0_0.v rfl rfl ?_
    refine C_at .h (fun hp => V_lenR (l := a_a.length) sl42 (.tmp rfl rfl) (crd_len hp)) ?_
    refine C_val (V_lss (i := (k4 : Int)) (j := (a_a.length : Int)) (.tmp rfl rfl) (.tmp rfl rfl)) ?_
    refine C_nil (CW_cond (b := (decide (((k4 : Int) : Int) < (a_a.length : Int)))) (.tmp rfl rfl) (fun hb => absurd (hfe11.symm.trans hb) (by decide)) (fun _ => ?_))
    refine CW_exit ?_
    iterate 2 refine CThen_exit ?_
    refine CIn_self (K_region (C_val (V_assign (v := (.bool true)) (.bool _)) ?_))
    refine C_nil (CW_ret ?_)
    obtain rfl := Option.some.inj hF
    exact End_ret () (.tmp rfl rfl .nil) rfl (.sel .nil)
  obtain ⟨hk8, hx9, hd10⟩ := drop_cons hd7
  have hfe11 : (decide (((k4 : Int) : Int) < (a_a.length : Int))) = true := decide_eq_true (by omega)
  rw [l_eqStoredS_L1] at hF
  refine K_in (K_region (Cm (.int .i64 (k4 : Int)) rfl rfl ?_))
  refine Cm v0_0.v rfl rfl ?_
  refine C_at .h (fun hp => V_lenR (l := a_a.length) sl42 (.tmp rfl rfl) (crd_len hp)) ?_
  refine C_val (V_lss (i := (k4 : Int)) (j := (a_a.length : Int)) (.tmp rfl rfl) (.tmp rfl rfl)) ?_
  refine C_nil (CW_cond (b := (decide (((k4 : Int) : Int) < (a_a.length : Int)))) (.tmp rfl rfl) (fun _ => ?_) (fun hb => absurd (hfe11.symm.trans hb) (by decide)))
  refine CW_skip (K_block (K_draw [0, 1, 2, 3, 4, 5, 6, 7, 8, 9] [0, 0, 3, 7, 0, 0, 48, 112, 255, 511] [8] mixed (by decide +kernel) ?_))
  refine Dm v0_0.v rfl rfl rfl rfl ?_
  refine Dm (.int .i64 (k4 : Int)) rfl rfl rfl rfl ?_
  refine D_idx (a := x6) sl42 ty147.sz rfl .no (.tmp rfl rfl) (.tmp rfl rfl) rfl rfl .h (Int.natCast_nonneg k4) hx9 (fun k13 j14 => ?_)
  refine D_ldA2 (ul147_0_147 x6) ag147 ty147.sz rfl rfl .no (.tmp rfl rfl) rfl .h la147_0_147 (fun p15 => ?_)
  refine Dm v1_0.v rfl rfl rfl rfl ?_
  refine Dm (.int .i64 (k4 : Int)) rfl rfl rfl rfl ?_
  obtain ⟨x16, hx17, hF⟩ := bind_some hF
  obtain ⟨hp18, hx19⟩ := ix_some hx17
  refine D_idx (a := x16) sl42 ty147.sz rfl .no (.tmp rfl rfl) (.tmp rfl rfl) rfl rfl (.t (.t (.t (.t .h)))) hp18 hx19 (fun k20 j21 => ?_)
  refine D_ldA2 (ul147_0_147 x16) ag147 ty147.sz rfl rfl .no (.tmp rfl rfl) rfl .h la147_0_147 (fun p22 => ?_)
  obtain ⟨r23, hx24, hF⟩ := bind_some hF
  refine D_act0 rfl rfl .no (.rd (.t (.t (.t .h))) rfl (.rd (.t (.t (.t (.t .h)))) rfl (.rd .h rfl (.rd (.t .h) rfl .nil)))) .nil (fun ha => X_callS cf120 (.cons (EN ha (.tmp rfl rfl) rfl) (.cons (EN ha (.tmp rfl rfl) rfl) .nil)) (l_eqStored_ok x6 p15.1 p15.2 x16 p22.1 p22.2 _ hx24)) (fun _ => ?_)
  refine D_val rfl .no (fun ha => V_not (b := r23) (EN ha (.tmp rfl rfl) rfl)) ?_
  refine D_nil (CW_cond (b := (!r23)) (.tmp rfl rfl) (fun hb27 => ?_) (fun hb27 => ?_))
  · rw [if_pos hb27] at hF
    refine K_region (C_val (V_assign (v := (.bool false)) (.bool _)) ?_)
    refine C_nil (CW_ret ?_)
    obtain rfl := Option.some.inj hF
    exact End_ret () (.tmp rfl rfl .nil) rfl (.sel .nil)
  rw [if_neg (by rw [hb27]; exact Bool.false_ne_true)] at hF
  refine CW_skip (CW_region (Cm (.int .i64 (k4 : Int)) rfl rfl ?_))
  refine C_val (V_add (i := (k4 : Int)) (j := 1) (.tmp rfl rfl) (.int _ _)) ?_
  refine Ca (.int .i64 (IntKind.i64.wrap ((k4 : Int) + 1))) rfl rfl ?_
  refine C_nil ?_
  have hw26 : IntKind.i64.wrap ((k4 : Int) + 1) = ((k4 + 1 : Nat) : Int) := by rw [wrap_in (by omega) (by omega)]; rfl
  rw [hw26]
  exact ⟨_, Nat.lt_succ_self _, _, k4 + 1, rest5, rfl, (EqL.cons rfl (EqL.cons rfl (EqL.cons rfl (EqL.nil)))).eq, hd10, (.sel (.rd (.t (.t (.t (.t (.t (.t .h)))))) rfl (.rd (.t (.t (.t (.t (.t (.t (.t .h))))))) rfl .nil))), hF⟩

/-! laws.eqCache -/
def l_eqCache (a_a : Cache) (a_b : Cache) : Option (Bool) :=
  (l_eqStoredS a_a.Entries a_b.Entries).bind fun r3 =>
  if (!r3) then (
    some false)
  else (
    if ((a_a.Age : Int) != a_b.Age) then (
      some false)
    else (
      some true))
theorem l_eqCache_ok (a_a : Cache) (v0_0 : Sv) (a_b : Cache) (v1_0 : Sv) (R : Bool) (hF : l_eqCache a_a a_b = some R) :
    Fw.Spec Tryz.prog 35 [(.agg [v0_0.v, (.int .i64 a_a.Age)].toArray), (.agg [v1_0.v, (.int .i64 a_b.Age)].toArray)] [crd (RdS 147 rd147) v0_0.v a_a.Entries, crd (RdS 147 rd147) v1_0.v a_b.Entries] (fun _ : Unit => (.bool R)) (fun _ => []) := by
  refine Spec_enter (n := 16) Tryz.func35 rfl rfl (rs := [.tmp 4]) rfl rfl rfl ?_
  intro H0 F0
  unfold l_eqCache at hF
  refine K_region (C_newR rfl (N_box (g := false) (v := (.agg [v0_0.v, (.int .i64 a_a.Age)].toArray)) ty44.sz (.tmp rfl rfl) rfl) (fun k1 => ?_))
  refine C_newR rfl (N_box (g := false) (v := (.agg [v1_0.v, (.int .i64 a_b.Age)].toArray)) ty44.sz (.tmp rfl rfl) rfl) (fun k2 => ?_)
  refine C_val (V_assign (v := (.bool false)) (.bool _)) ?_
  refine C_nil (K_in (K_region (C_val (V_fieldAddr (off := 0) fd44_0 (.tmp rfl rfl)) ?_)))
  refine C_at (.t .h) (fun hp => V_load (v := v0_0.v) ag42 (.tmp rfl rfl) hp.2 rfl rfl) ?_
  refine C_val (V_fieldAddr (off := 0) fd44_0 (.tmp rfl rfl)) ?_
  refine C_at .h (fun hp => V_load (v := v1_0.v) ag42 (.tmp rfl rfl) hp.2 rfl rfl) ?_
  obtain ⟨r3, hx4, hF⟩ := bind_some hF
  refine C_x0 (.rd (.t (.t .h)) rfl (.rd (.t (.t (.t .h))) rfl .nil)) (X_callS cf84 (.cons (.tmp rfl rfl) (.cons (.tmp rfl rfl) .nil)) (l_eqStoredS_ok a_a.Entries v0_0 a_b.Entries v1_0 _ hx4)) (fun _ => ?_)
  refine C_val (V_not (b := r3) (.tmp rfl rfl)) ?_
  refine C_nil (CW_cond (b := (!r3)) (.tmp rfl rfl) (fun hb7 => ?_) (fun hb7 => ?_))
  · rw [if_pos hb7] at hF
    refine K_region (C_val (V_assign (v := (.bool false)) (.bool _)) ?_)
    refine C_nil (CW_ret ?_)
    obtain rfl := Option.some.inj hF
    exact End_ret () (.tmp rfl rfl .nil) rfl (.sel .nil)
  rw [if_neg (by rw [hb7]; exact Bool.false_ne_true)] at hF
  refine CW_skip (K_in (K_region (C_val (V_fieldAddr (off := 1) fd44_1 (.tmp rfl rfl)) ?_)))
  refine C_at (.t .h) (fun hp => V_load (v := (.int .i64 a_a.Age)) ag3 (.tmp rfl rfl) hp.2 rfl rfl) ?_
  refine C_val (V_fieldAddr (off := 1) fd44_1 (.tmp rfl rfl)) ?_
  refine C_at .h (fun hp => V_load (v := (.int .i64 a_b.Age)) ag3 (.tmp rfl rfl) hp.2 rfl rfl) ?_
  refine C_val (V_neq (i := a_a.Age) (j := a_b.Age) (.tmp rfl rfl) (.tmp rfl rfl)) ?_
  refine C_nil (CW_cond (b := ((a_a.Age : Int) != a_b.Age)) (.tmp rfl rfl) (fun hb6 => ?_) (fun hb6 => ?_))
  · rw [if_pos hb6] at hF
    refine K_region (C_val (V_assign (v := (.bool false)) (.bool _)) ?_)
    refine C_nil (CW_ret ?_)
    obtain rfl := Option.some.inj hF
    exact End_ret () (.tmp rfl rfl .nil) rfl (.sel .nil)
  rw [if_neg (by rw [hb6]; exact Bool.false_ne_true)] at hF
  refine CW_skip (K_region (C_val (V_assign (v := (.bool true)) (.bool _)) ?_))
  refine C_nil (CW_ret ?_)
  obtain rfl := Option.some.inj hF
  exact End_ret () (.tmp rfl rfl .nil) rfl (.sel .nil)

/-! laws.eqAccessS -/
def l_eqAccessS_L1 (a_b : List Access) : List Access → Nat → Option (Bool)
  | [], k4 => some true
  | x6 :: rest5, k4 => (ix a_b (k4 : Int)).bind fun x16 =>
    (l_eqAccess x6 x16).bind fun r23 =>
    if (!r23) then (
      some false)
    else (
      l_eqAccessS_L1 a_b rest5 (k4 + 1))
def l_eqAccessS (a_a : List Access) (a_b : List Access) : Option (Bool) :=
  if (((a_a.length : Int) : Int) != (a_b.length : Int)) then (
    some false)
  else (
    l_eqAccessS_L1 a_b a_a 0)
theorem l_eqAccessS_ok (a_a : List Access) (v0_0 : Sv) (a_b : List Access) (v1_0 : Sv) (R : Bool) (hF : l_eqAccessS a_a a_b = some R) :
    Fw.Spec Tryz.prog 36 [v0_0.v, v1_0.v] [crd (RdS 105 rd105) v0_0.v a_a, crd (RdS 105 rd105) v1_0.v a_b] (fun _ : Unit => (.bool R)) (fun _ => []) := by
  refine Spec_enter (n := 27) Tryz.func36 rfl rfl (rs := [.tmp 4]) rfl rfl rfl ?_
  intro H0 F0
  unfold l_eqAccessS at hF
  refine K_region (C_val (V_assign (v := (.bool false)) (.bool _)) ?_)
  refine C_nil (K_in (K_region (Cm v0_0.v rfl rfl ?_)))
  refine C_at .h (fun hp => V_lenR (l := a_a.length) sl45 (.tmp rfl rfl) (crd_len hp)) ?_
  refine Cm v1_0.v rfl rfl ?_
  refine C_at (.t .h) (fun hp => V_lenR (l := a_b.length) sl45 (.tmp rfl rfl) (crd_len hp)) ?_
  refine C_val (V_neq (i := (a_a.length : Int)) (j := (a_b.length : Int)) (.tmp rfl rfl) (.tmp rfl rfl)) ?_
  refine C_nil (CW_cond (b := (((a_a.length : Int) : Int) != (a_b.length : Int))) (.tmp rfl rfl) (fun hb28 => ?_) (fun hb28 => ?_))
  · rw [if_pos hb28] at hF
    refine K_region (C_val (V_assign (v := (.bool false)) (.bool _)) ?_)
    refine C_nil (CW_ret ?_)
    obtain rfl := Option.some.inj hF
    exact End_ret () (.tmp rfl rfl .nil) rfl (.sel .nil)
  rw [if_neg (by rw [hb28]; exact Bool.false_ne_true)] at hF
  refine CW_skip (K_in (K_region (C_val (V_assign (v := (.int .i64 0)) (.int _ _)) ?_)))
  refine C_nil (CW_block (CW_loop (m := a_a.length) (fun m2 f' cs' => ∃ (g : Fr) (k4 : Nat) (rest5 : List Access), m2 = rest5.length ∧ f' = updL g [(0, v0_0.v), (1, v1_0.v), (5, (.int .i64 (k4 : Int)))] ∧ List.drop k4 a_a = rest5 ∧ Ent cs' [crd (RdS 105 rd105) v0_0.v a_a, crd (RdS 105 rd105) v1_0.v a_b] ∧ l_eqAccessS_L1 a_b rest5 k4 = some R) ⟨_, 0, _, rfl, (EqL.cons rfl (EqL.cons rfl (EqL.cons rfl (EqL.nil)))).eq, rfl, (.sel (.rd .h rfl (.rd (.t .h) rfl .nil))), hF⟩ ?_))
  clear hF
  rintro m2 _ _ ⟨g3, k4, rest5, rfl, rfl, hd7, hE, hF⟩
  refine K_ent hE ?_
  clear hE
  refine K_pure (c := crd (RdS 105 rd105) v0_0.v a_a) .h crd_bound (fun hbd12 => ?_)
  rcases rest5 with _ | ⟨x6, rest5⟩
  · have hk8 := List.drop_eq_nil_iff.1 hd7
    have hfe11 : (decide (((k4 : Int) : Int) < (a_a.length : Int))) = false := decide_eq_false (by omega)
    rw [l_eqAccessS_L1] at hF
    refine K_in (K_region (Cm (.int .i64 (k4 : Int)) rfl rfl ?_))
    refine Cm v0_0.v rfl rfl ?_
    refine C_at .h (fun hp => V_lenR (l := a_a.length) sl45 (.tmp rfl rfl) (crd_len hp)) ?_
    refine C_val (V_lss (i := (k4 : Int)) (j := (a_a.length : Int)) (.tmp rfl rfl) (.tmp rfl rfl)) ?_
    refine C_nil (CW_cond (b := (decide (((k4 : Int) : Int) < (a_a.length : Int)))) (.tmp rfl rfl) (fun hb => absurd (hfe11.symm.trans hb) (by decide)) (fun _ => ?_))
    refine CW_exit ?_
    iterate 2 refine CThen_exit ?_
    refine CIn_self (K_region (C_val (V_assign (v := (.bool true)) (.bool _)) ?_))
    refine C_nil (CW_ret ?_)
    obtain rfl := Option.some.inj hF
    exact End_ret () (.tmp rfl rfl .nil) rfl (.sel .nil)
  obtain ⟨hk8, hx9, hd10⟩ := drop_cons hd7
  have hfe11 : (decide (((k4 : Int) : Int) < (a_a.length : Int))) = true := decide_eq_true (by omega)
  rw [l_eqAccessS_L1] at hF
  refine K_in (K_region (Cm (.int .i64 (k4 : Int)) rfl rfl ?_))
  refine Cm v0_0.v rfl rfl ?_
  refine C_at .h (fun hp => V_lenR (l := a_a.length) sl45 (.tmp rfl rfl) (crd_len hp)) ?_
  refine C_val (V_lss (i := (k4 : Int)) (j := (a_a.length : Int)) (.tmp rfl rfl) (.tmp rfl rfl)) ?_
  refine C_nil (CW_cond (b := (decide (((k4 : Int) : Int) < (a_a.length : Int)))) (.tmp rfl rfl) (fun _ => ?_) (fun hb => absurd (hfe11.symm.trans hb) (by decide)))
  refine CW_skip (K_block (K_draw [0, 1, 2, 3, 4, 5, 6, 7, 8, 9] [0, 0, 3, 7, 0, 0, 48, 112, 255, 511] [8] mixed (by decide +kernel) ?_))
  refine Dm v0_0.v rfl rfl rfl rfl ?_
  refine Dm (.int .i64 (k4 : Int)) rfl rfl rfl rfl ?_
  refine D_idx (a := x6) sl45 ty105.sz rfl .no (.tmp rfl rfl) (.tmp rfl rfl) rfl rfl .h (Int.natCast_nonneg k4) hx9 (fun k13 j14 => ?_)
  refine D_ldA1 (ul105_0_105 x6) ag105 ty105.sz rfl rfl .no (.tmp rfl rfl) rfl .h la105_0_105 (fun p15 => ?_)
  refine Dm v1_0.v rfl rfl rfl rfl ?_
  refine Dm (.int .i64 (k4 : Int)) rfl rfl rfl rfl ?_
  obtain ⟨x16, hx17, hF⟩ := bind_some hF
  obtain ⟨hp18, hx19⟩ := ix_some hx17
  refine D_idx (a := x16) sl45 ty105.sz rfl .no (.tmp rfl rfl) (.tmp rfl rfl) rfl rfl (.t (.t (.t .h))) hp18 hx19 (fun k20 j21 => ?_)
  refine D_ldA1 (ul105_0_105 x16) ag105 ty105.sz rfl rfl .no (.tmp rfl rfl) rfl .h la105_0_105 (fun p22 => ?_)
  obtain ⟨r23, hx24, hF⟩ := bind_some hF
  refine D_act0 rfl rfl .no (.rd (.t (.t .h)) rfl (.rd .h rfl .nil)) .nil (fun ha => X_callS cf85 (.cons (EN ha (.tmp rfl rfl) rfl) (.cons (EN ha (.tmp rfl rfl) rfl) .nil)) (l_eqAccess_ok x6 p15 x16 p22 _ hx24)) (fun _ => ?_)
  refine D_val rfl .no (fun ha => V_not (b := r23) (EN ha (.tmp rfl rfl) rfl)) ?_
  refine D_nil (CW_cond (b := (!r23)) (.tmp rfl rfl) (fun hb27 => ?_) (fun hb27 => ?_))
  · rw [if_pos hb27] at hF
    refine K_region (C_val (V_assign (v := (.bool false)) (.bool _)) ?_)
    refine C_nil (CW_ret ?_)
    obtain rfl := Option.some.inj hF
    exact End_ret () (.tmp rfl rfl .nil) rfl (.sel .nil)
  rw [if_neg (by rw [hb27]; exact Bool.false_ne_true)] at hF
  refine CW_skip (CW_region (Cm (.int .i64 (k4 : Int)) rfl rfl ?_))
  refine C_val (V_add (i := (k4 : Int)) (j := 1) (.tmp rfl rfl) (.int _ _)) ?_
  refine Ca (.int .i64 (IntKind.i64.wrap ((k4 : Int) + 1))) rfl rfl ?_
  refine C_nil ?_
  have hw26 : IntKind.i64.wrap ((k4 : Int) + 1) = ((k4 + 1 : Nat) : Int) := by rw [wrap_in (by omega) (by omega)]; rfl
  rw [hw26]
  exact ⟨_, Nat.lt_succ_self _, _, k4 + 1, rest5, rfl, (EqL.cons rfl (EqL.cons rfl (EqL.cons rfl (EqL.nil)))).eq, hd10, (.sel (.rd (.t (.t (.t (.t .h)))) rfl (.rd (.t (.t (.t (.t (.t .h))))) rfl .nil))), hF⟩

/-! laws.eqIntSS -/
def l_eqIntSS_L1 (a_b : List (List Int)) : List (List Int) → Nat → Option (Bool)
  | [], k4 => some true
  | x6 :: rest5, k4 => (ix a_b (k4 : Int)).bind fun x16 =>
    (l_eqIntS x6 x16).bind fun r23 =>
    if (!r23) then (
      some false)
    else (
      l_eqIntSS_L1 a_b rest5 (k4 + 1))
def l_eqIntSS (a_a : List (List Int)) (a_b : List (List Int)) : Option (Bool) :=
  if (((a_a.length : Int) : Int) != (a_b.length : Int)) then (
    some false)
  else (
    l_eqIntSS_L1 a_b a_a 0)
theorem l_eqIntSS_ok (a_a : List (List Int)) (v0_0 : Sv) (a_b : List (List Int)) (v1_0 : Sv) (R : Bool) (hF : l_eqIntSS a_a a_b = some R) :
    Fw.Spec Tryz.prog 86 [v0_0.v, v1_0.v] [crd (RdS 22 (RdS 3 rdInt)) v0_0.v a_a, crd (RdS 22 (RdS 3 rdInt)) v1_0.v a_b] (fun _ : Unit => (.bool R)) (fun _ => []) := by
  refine Spec_enter (n := 27) Tryz.func86 rfl rfl (rs := [.tmp 4]) rfl rfl rfl ?_
  intro H0 F0
  unfold l_eqIntSS at hF
  refine K_region (C_val (V_assign (v := (.bool false)) (.bool _)) ?_)
  refine C_nil (K_in (K_region (Cm v0_0.v rfl rfl ?_)))
  refine C_at .h (fun hp => V_lenR (l := a_a.length) sl83 (.tmp rfl rfl) (crd_len hp)) ?_
  refine Cm v1_0.v rfl rfl ?_
  refine C_at (.t .h) (fun hp => V_lenR (l := a_b.length) sl83 (.tmp rfl rfl) (crd_len hp)) ?_
  refine C_val (V_neq (i := (a_a.length : Int)) (j := (a_b.length : Int)) (.tmp rfl rfl) (.tmp rfl rfl)) ?_
  refine C_nil (CW_cond (b := (((a_a.length : Int) : Int) != (a_b.length : Int))) (.tmp rfl rfl) (fun hb28 => ?_) (fun hb28 => ?_))
  · rw [if_pos hb28] at hF
    refine K_region (C_val (V_assign (v := (.bool false)) (.bool _)) ?_)
    refine C_nil (CW_ret ?_)
    obtain rfl := Option.some.inj hF
    exact End_ret () (.tmp rfl rfl .nil) rfl (.sel .nil)
  rw [if_neg (by rw [hb28]; exact Bool.false_ne_true)] at hF
  refine CW_skip (K_in (K_region (C_val (V_assign (v := (.int .i64 0)) (.int _ _)) ?_)))
  refine C_nil (CW_block (CW_loop (m := a_a.length) (fun m2 f' cs' => ∃ (g : Fr) (k4 : Nat) (rest5 : List (List Int)), m2 = rest5.length ∧ f' = updL g [(0, v0_0.v), (1, v1_0.v), (5, (.int .i64 (k4 : Int)))] ∧ List.drop k4 a_a = rest5 ∧ Ent cs' [crd (RdS 22 (RdS 3 rdInt)) v0_0.v a_a, crd (RdS 22 (RdS 3 rdInt)) v1_0.v a_b] ∧ l_eqIntSS_L1 a_b rest5 k4 = some R) ⟨_, 0, _, rfl, (EqL.cons rfl (EqL.cons rfl (EqL.cons rfl (EqL.nil)))).eq, rfl, (.sel (.rd .h rfl (.rd (.t .h) rfl .nil))), hF⟩ ?_))
  clear hF
  rintro m2 _ _ ⟨g3, k4, rest5, rfl, rfl, hd7, hE, hF⟩
  refine K_ent hE ?_
  clear hE
  refine K_pure (c := crd (RdS 22 (RdS 3 rdInt)) v0_0.v a_a) .h crd_bound (fun hbd12 => ?_)
  rcases rest5 with _ | ⟨x6, rest5⟩
  · have hk8 := List.drop_eq_nil_iff.1 hd7
    have hfe11 : (decide (((k4 : Int) : Int) < (a_a.length : Int))) = false := decide_eq_false (by omega)
    rw [l_eqIntSS_L1] at hF
    refine K_in (K_region (Cm (.int .i64 (k4 : Int)) rfl rfl ?_))
    refine Cm v0_0.v rfl rfl ?_
    refine C_at .h (fun hp => V_lenR (l := a_a.length) sl83 (.tmp rfl rfl) (crd_len hp)) ?_
    refine C_val (V_lss (i := (k4 : Int)) (j := (a_a.length : Int)) (.tmp rfl rfl) (.tmp rfl rfl)) ?_
    refine C_nil (CW_cond (b := (decide (((k4 : Int) : Int) < (a_a.length : Int)))) (.tmp rfl rfl) (fun hb => absurd (hfe11.symm.trans hb) (by decide)) (fun _ => ?_))
    refine CW_exit ?_
    iterate 2 refine CThen_exit ?_
    refine CIn_self (K_region (C_val (V_assign (v := (.bool true)) (.bool _)) ?_))
    refine C_nil (CW_ret ?_)
    obtain rfl := Option.some.inj hF
    exact End_ret () (.tmp rfl rfl .nil) rfl (.sel .nil)
  obtain ⟨hk8, hx9, hd10⟩ := drop_cons hd7
  have hfe11 : (decide (((k4 : Int) : Int) < (a_a.length : Int))) = true := decide_eq_true (by omega)
  rw [l_eqIntSS_L1] at hF
  refine K_in (K_region (Cm (.int .i64 (k4 : Int)) rfl rfl ?_))
  refine Cm v0_0.v rfl rfl ?_
  refine C_at .h (fun hp => V_lenR (l := a_a.length) sl83 (.tmp rfl rfl) (crd_len hp)) ?_
  refine C_val (V_lss (i := (k4 : Int)) (j := (a_a.length : Int)) (.tmp rfl rfl) (.tmp rfl rfl)) ?_
  refine C_nil (CW_cond (b := (decide (((k4 : Int) : Int) < (a_a.length : Int)))) (.tmp rfl rfl) (fun _ => ?_) (fun hb => absurd (hfe11.symm.trans hb) (by decide)))
  refine CW_skip (K_block (K_draw [0, 1, 2, 3, 4, 5, 6, 7, 8, 9] [0, 0, 3, 7, 0, 0, 48, 112, 255, 511] [8] mixed (by decide +kernel) ?_))
  refine Dm v0_0.v rfl rfl rfl rfl ?_
  refine Dm (.int .i64 (k4 : Int)) rfl rfl rfl rfl ?_
  refine D_idx (a := x6) sl83 ty22.sz rfl .no (.tmp rfl rfl) (.tmp rfl rfl) rfl rfl .h (Int.natCast_nonneg k4) hx9 (fun k13 j14 => ?_)
  refine D_ldV (R' := (RdS 3 rdInt)) ag22 rfl .no (.tmp rfl rfl) rfl .h lv22_0 (fun w15 => ?_)
  refine Dm v1_0.v rfl rfl rfl rfl ?_
  refine Dm (.int .i64 (k4 : Int)) rfl rfl rfl rfl ?_
  obtain ⟨x16, hx17, hF⟩ := bind_some hF
  obtain ⟨hp18, hx19⟩ := ix_some hx17
  refine D_idx (a := x16) sl83 ty22.sz rfl .no (.tmp rfl rfl) (.tmp rfl rfl) rfl rfl (.t (.t (.t .h))) hp18 hx19 (fun k20 j21 => ?_)
  refine D_ldV (R' := (RdS 3 rdInt)) ag22 rfl .no (.tmp rfl rfl) rfl .h lv22_0 (fun w22 => ?_)
  obtain ⟨r23, hx24, hF⟩ := bind_some hF
  refine D_act0 rfl rfl .no (.rd (.t (.t .h)) rfl (.rd .h rfl .nil)) .nil (fun ha => X_callS cf31 (.cons (EN ha (.tmp rfl rfl) rfl) (.cons (EN ha (.tmp rfl rfl) rfl) .nil)) (l_eqIntS_ok x6 w15 x16 w22 _ hx24)) (fun _ => ?_)
  refine D_val rfl .no (fun ha => V_not (b := r23) (EN ha (.tmp rfl rfl) rfl)) ?_
  refine D_nil (CW_cond (b := (!r23)) (.tmp rfl rfl) (fun hb27 => ?_) (fun hb27 => ?_))
  · rw [if_pos hb27] at hF
    refine K_region (C_val (V_assign (v := (.bool false)) (.bool _)) ?_)
    refine C_nil (CW_ret ?_)
    obtain rfl := Option.some.inj hF
    exact End_ret () (.tmp rfl rfl .nil) rfl (.sel .nil)
  rw [if_neg (by rw [hb27]; exact Bool.false_ne_true)] at hF
  refine CW_skip (CW_region (Cm (.int .i64 (k4 : Int)) rfl rfl ?_))
  refine C_val (V_add (i := (k4 : Int)) (j := 1) (.tmp rfl rfl) (.int _ _)) ?_
  refine Ca (.int .i64 (IntKind.i64.wrap ((k4 : Int) + 1))) rfl rfl ?_
  refine C_nil ?_
  have hw26 : IntKind.i64.wrap ((k4 : Int) + 1) = ((k4 + 1 : Nat) : Int) := by rw [wrap_in (by omega) (by omega)]; rfl
  rw [hw26]
  exact ⟨_, Nat.lt_succ_self _, _, k4 + 1, rest5, rfl, (EqL.cons rfl (EqL.cons rfl (EqL.cons rfl (EqL.nil)))).eq, hd10, (.sel (.rd (.t (.t (.t (.t .h)))) rfl (.rd (.t (.t (.t (.t (.t .h))))) rfl .nil))), hF⟩

/-! laws.eqIntSSS -/
def l_eqIntSSS_L1 (a_b : List (List (List Int))) : List (List (List Int)) → Nat → Option (Bool)
  | [], k4 => some true
  | x6 :: rest5, k4 => (ix a_b (k4 : Int)).bind fun x16 =>
    (l_eqIntSS x6 x16).bind fun r23 =>
    if (!r23) then (
      some false)
    else (
      l_eqIntSSS_L1 a_b rest5 (k4 + 1))
def l_eqIntSSS (a_a : List (List (List Int))) (a_b : List (List (List Int))) : Option (Bool) :=
  if (((a_a.length : Int) : Int) != (a_b.length : Int)) then (
    some false)
  else (
    l_eqIntSSS_L1 a_b a_a 0)
theorem l_eqIntSSS_ok (a_a : List (List (List Int))) (v0_0 : Sv) (a_b : List (List (List Int))) (v1_0 : Sv) (R : Bool) (hF : l_eqIntSSS a_a a_b = some R) :
    Fw.Spec Tryz.prog 37 [v0_0.v, v1_0.v] [crd (RdS 83 (RdS 22 (RdS 3 rdInt))) v0_0.v a_a, crd (RdS 83 (RdS 22 (RdS 3 rdInt))) v1_0.v a_b] (fun _ : Unit => (.bool R)) (fun _ => []) := by
  refine Spec_enter (n := 27) Tryz.func37 rfl rfl (rs := [.tmp 4]) rfl rfl rfl ?_
  intro H0 F0
  unfold l_eqIntSSS at hF
  refine K_region (C_val (V_assign (v := (.bool false)) (.bool _)) ?_)
  refine C_nil (K_in (K_region (Cm v0_0.v rfl rfl ?_)))
  refine C_at .h (fun hp => V_lenR (l := a_a.length) sl32 (.tmp rfl rfl) (crd_len hp)) ?_
  refine Cm v1_0.v rfl rfl ?_
  refine C_at (.t .h) (fun hp => V_lenR (l := a_b.length) sl32 (.tmp rfl rfl) (crd_len hp)) ?_
  refine C_val (V_neq (i := (a_a.length : Int)) (j := (a_b.length : Int)) (.tmp rfl rfl) (.tmp rfl rfl)) ?_
  refine C_nil (CW_cond (b := (((a_a.length : Int) : Int) != (a_b.length : Int))) (.tmp rfl rfl) (fun hb28 => ?_) (fun hb28 => ?_))
  · rw [if_pos hb28] at hF
    refine K_region (C_val (V_assign (v := (.bool false)) (.bool _)) ?_)
    refine C_nil (CW_ret ?_)
    obtain rfl := Option.some.inj hF
    exact End_ret () (.tmp rfl rfl .nil) rfl (.sel .nil)
  rw [if_neg (by rw [hb28]; exact Bool.false_ne_true)] at hF
  refine CW_skip (K_in (K_region (C_val (V_assign (v := (.int .i64 0)) (.int _ _)) ?_)))
  refine C_nil (CW_block (CW_loop (m := a_a.length) (fun m2 f' cs' => ∃ (g : Fr) (k4 : Nat) (rest5 : List (List (List Int))), m2 = rest5.length ∧ f' = updL g [(0, v0_0.v), (1, v1_0.v), (5, (.int .i64 (k4 : Int)))] ∧ List.drop k4 a_a = rest5 ∧ Ent cs' [crd (RdS 83 (RdS 22 (RdS 3 rdInt))) v0_0.v a_a, crd (RdS 83 (RdS 22 (RdS 3 rdInt))) v1_0.v a_b] ∧ l_eqIntSSS_L1 a_b rest5 k4 = some R) ⟨_, 0, _, rfl, (EqL.cons rfl (EqL.cons rfl (EqL.cons rfl (EqL.nil)))).eq, rfl, (.sel (.rd .h rfl (.rd (.t .h) rfl .nil))), hF⟩ ?_))
  clear hF
  rintro m2 _ _ ⟨g3, k4, rest5, rfl, rfl, hd7, hE, hF⟩
  refine K_ent hE ?_
  clear hE
  refine K_pure (c := crd (RdS 83 (RdS 22 (RdS 3 rdInt))) v0_0.v a_a) .h crd_bound (fun hbd12 => ?_)
  rcases rest5 with _ | ⟨x6, rest5⟩
  · have hk8 := List.drop_eq_nil_iff.1 hd7
    have hfe11 : (decide (((k4 : Int) : Int) < (a_a.length : Int))) = false := decide_eq_false (by omega)
    rw [l_eqIntSSS_L1] at hF
    refine K_in (K_region (Cm (.int .i64 (k4 : Int)) rfl rfl ?_))
    refine Cm v0_0.v rfl rfl ?_
    refine C_at .h (fun hp => V_lenR (l := a_a.length) sl32 (.tmp rfl rfl) (crd_len hp)) ?_
    refine C_val (V_lss (i := (k4 : Int)) (j := (a_a.length : Int)) (.tmp rfl rfl) (.tmp rfl rfl)) ?_
    refine C_nil (CW_cond (b := (decide (((k4 : Int) : Int) < (a_a.length : Int)))) (.tmp rfl rfl) (fun hb => absurd (hfe11.symm.trans hb) (by decide)) (fun _ => ?_))
    refine CW_exit ?_
    iterate 2 refine CThen_exit ?_
    refine CIn_self (K_region (C_val (V_assign (v := (.bool true)) (.bool _)) ?_))
    refine C_nil (CW_ret ?_)
    obtain rfl := Option.some.inj hF
    exact End_ret () (.tmp rfl rfl .nil) rfl (.sel .nil)
  obtain ⟨hk8, hx9, hd10⟩ := drop_cons hd7
  have hfe11 : (decide (((k4 : Int) : Int) < (a_a.length : Int))) = true := decide_eq_true (by omega)
  rw [l_eqIntSSS_L1] at hF
  refine K_in (K_region (Cm (.int .i64 (k4 : Int)) rfl rfl ?_))
  refine Cm v0_0.v rfl rfl ?_
  refine C_at .h (fun hp => V_lenR (l := a_a.length) sl32 (.tmp rfl rfl) (crd_len hp)) ?_
  refine C_val (V_lss (i := (k4 : Int)) (j := (a_a.length : Int)) (.tmp rfl rfl) (.tmp rfl rfl)) ?_
  refine C_nil (CW_cond (b := (decide (((k4 : Int) : Int) < (a_a.length : Int)))) (.tmp rfl rfl) (fun _ => ?_) (fun hb => absurd (hfe11.symm.trans hb) (by decide)))
  refine CW_skip (K_block (K_draw [0, 1, 2, 3, 4, 5, 6, 7, 8, 9] [0, 0, 3, 7, 0, 0, 48, 112, 255, 511] [8] mixed (by decide +kernel) ?_))
  refine Dm v0_0.v rfl rfl rfl rfl ?_
  refine Dm (.int .i64 (k4 : Int)) rfl rfl rfl rfl ?_
  refine D_idx (a := x6) sl32 ty83.sz rfl .no (.tmp rfl rfl) (.tmp rfl rfl) rfl rfl .h (Int.natCast_nonneg k4) hx9 (fun k13 j14 => ?_)
  refine D_ldV (R' := (RdS 22 (RdS 3 rdInt))) ag83 rfl .no (.tmp rfl rfl) rfl .h lv83_0 (fun w15 => ?_)
  refine Dm v1_0.v rfl rfl rfl rfl ?_
  refine Dm (.int .i64 (k4 : Int)) rfl rfl rfl rfl ?_
  obtain ⟨x16, hx17, hF⟩ := bind_some hF
  obtain ⟨hp18, hx19⟩ := ix_some hx17
  refine D_idx (a := x16) sl32 ty83.sz rfl .no (.tmp rfl rfl) (.tmp rfl rfl) rfl rfl (.t (.t (.t .h))) hp18 hx19 (fun k20 j21 => ?_)
  refine D_ldV (R' := (RdS 22 (RdS 3 rdInt))) ag83 rfl .no (.tmp rfl rfl) rfl .h lv83_0 (fun w22 => ?_)
  obtain ⟨r23, hx24, hF⟩ := bind_some hF
  refine D_act0 rfl rfl .no (.rd (.t (.t .h)) rfl (.rd .h rfl .nil)) .nil (fun ha => X_callS cf86 (.cons (EN ha (.tmp rfl rfl) rfl) (.cons (EN ha (.tmp rfl rfl) rfl) .nil)) (l_eqIntSS_ok x6 w15 x16 w22 _ hx24)) (fun _ => ?_)
  refine D_val rfl .no (fun ha => V_not (b := r23) (EN ha (.tmp rfl rfl) rfl)) ?_
  refine D_nil (CW_cond (b := (!r23)) (.tmp rfl rfl) (fun hb27 => ?_) (fun hb27 => ?_))
  · rw [if_pos hb27] at hF
    refine K_region (C_val (V_assign (v := (.bool false)) (.bool _)) ?_)
    refine C_nil (CW_ret ?_)
    obtain rfl := Option.some.inj hF
    exact End_ret () (.tmp rfl rfl .nil) rfl (.sel .nil)
  rw [if_neg (by rw [hb27]; exact Bool.false_ne_true)] at hF
  refine CW_skip (CW_region (Cm (.int .i64 (k4 : Int)) rfl rfl ?_))
  refine C_val (V_add (i := (k4 : Int)) (j := 1) (.tmp rfl rfl) (.int _ _)) ?_
  refine Ca (.int .i64 (IntKind.i64.wrap ((k4 : Int) + 1))) rfl rfl ?_
  refine C_nil ?_
  have hw26 : IntKind.i64.wrap ((k4 : Int) + 1) = ((k4 + 1 : Nat) : Int) := by rw [wrap_in (by omega) (by omega)]; rfl
  rw [hw26]
  exact ⟨_, Nat.lt_succ_self _, _, k4 + 1, rest5, rfl, (EqL.cons rfl (EqL.cons rfl (EqL.cons rfl (EqL.nil)))).eq, hd10, (.sel (.rd (.t (.t (.t (.t .h)))) rfl (.rd (.t (.t (.t (.t (.t .h))))) rfl .nil))), hF⟩

/-! laws.eqMediator -/
def l_eqMediator (a_a : Mediator) (a_b : Mediator) : Option (Bool) :=
  (l_eqIntS a_a.Schema a_b.Schema).bind fun r3 =>
  if (!r3) then (
    some false)
  else (
    (l_eqMethodS a_a.Methods a_b.Methods).bind fun r6 =>
    if (!r6) then (
      some false)
    else (
      (l_eqRuleS a_a.Rules a_b.Rules).bind fun r9 =>
      if (!r9) then (
        some false)
      else (
        (l_eqSource a_a.Source a_b.Source).bind fun r12 =>
        if (!r12) then (
          some false)
        else (
          (l_eqCache a_a.Cache a_b.Cache).bind fun r15 =>
          if (!r15) then (
            some false)
          else (
            if ((a_a.Now : Int) != a_b.Now) then (
              some false)
            else (
              (l_eqAccessS a_a.Log a_b.Log).bind fun r18 =>
              if (!r18) then (
                some false)
              else (
                (l_eqIntS a_a.Times a_b.Times).bind fun r21 =>
                if (!r21) then (
                  some false)
                else (
                  if ((a_a.Spent : Int) != a_b.Spent) then (
                    some false)
                  else (
                    (l_eqIntSSS a_a.Results a_b.Results).bind fun r24 =>
                    if (!r24) then (
                      some false)
                    else (
                      some true))))))))))
theorem l_eqMediator_ok (a_a : Mediator) (v0_0 : Sv) (v0_1 : Sv) (v0_2 : Sv) (v0_3 : Sv) (v0_5 : Sv) (v0_8 : Sv) (v0_9 : Sv) (v0_11 : Sv) (a_b : Mediator) (v1_0 : Sv) (v1_1 : Sv) (v1_2 : Sv) (v1_3 : Sv) (v1_5 : Sv) (v1_8 : Sv) (v1_9 : Sv) (v1_11 : Sv) (R : Bool) (hF : l_eqMediator a_a a_b = some R) :
    Fw.Spec Tryz.prog 9 [(.agg [v0_0.v, v0_1.v, v0_2.v, v0_3.v, (.int .i64 a_a.Source.Version), v0_5.v, (.int .i64 a_a.Cache.Age), (.int .i64 a_a.Now), v0_8.v, v0_9.v, (.int .i64 a_a.Spent), v0_11.v].toArray), (.agg [v1_0.v, v1_1.v, v1_2.v, v1_3.v, (.int .i64 a_b.Source.Version), v1_5.v, (.int .i64 a_b.Cache.Age), (.int .i64 a_b.Now), v1_8.v, v1_9.v, (.int .i64 a_b.Spent), v1_11.v].toArray)] [crd (RdS 3 rdInt) v0_0.v a_a.Schema, crd (RdS 108 rd108) v0_1.v a_a.Methods, crd (RdS 110 rd110) v0_2.v a_a.Rules, crd (RdS 80 rd80) v0_3.v a_a.Source.Facts, crd (RdS 147 rd147) v0_5.v a_a.Cache.Entries, crd (RdS 105 rd105) v0_8.v a_a.Log, crd (RdS 3 rdInt) v0_9.v a_a.Times, crd (RdS 83 (RdS 22 (RdS 3 rdInt))) v0_11.v a_a.Results, crd (RdS 3 rdInt) v1_0.v a_b.Schema, crd (RdS 108 rd108) v1_1.v a_b.Methods, crd (RdS 110 rd110) v1_2.v a_b.Rules, crd (RdS 80 rd80) v1_3.v a_b.Source.Facts, crd (RdS 147 rd147) v1_5.v a_b.Cache.Entries, crd (RdS 105 rd105) v1_8.v a_b.Log, crd (RdS 3 rdInt) v1_9.v a_b.Times, crd (RdS 83 (RdS 22 (RdS 3 rdInt))) v1_11.v a_b.Results] (fun _ : Unit => (.bool R)) (fun _ => []) := by
  refine Spec_enter (n := 63) Tryz.func9 rfl rfl (rs := [.tmp 4]) rfl rfl rfl ?_
  intro H0 F0
  unfold l_eqMediator at hF
  refine K_region (C_newR rfl (N_box (g := false) (v := (.agg [v0_0.v, v0_1.v, v0_2.v, v0_3.v, (.int .i64 a_a.Source.Version), v0_5.v, (.int .i64 a_a.Cache.Age), (.int .i64 a_a.Now), v0_8.v, v0_9.v, (.int .i64 a_a.Spent), v0_11.v].toArray)) ty47.sz (.tmp rfl rfl) rfl) (fun k1 => ?_))
  refine C_newR rfl (N_box (g := false) (v := (.agg [v1_0.v, v1_1.v, v1_2.v, v1_3.v, (.int .i64 a_b.Source.Version), v1_5.v, (.int .i64 a_b.Cache.Age), (.int .i64 a_b.Now), v1_8.v, v1_9.v, (.int .i64 a_b.Spent), v1_11.v].toArray)) ty47.sz (.tmp rfl rfl) rfl) (fun k2 => ?_)
  refine C_val (V_assign (v := (.bool false)) (.bool _)) ?_
  refine C_nil (K_in (K_region (C_val (V_fieldAddr (off := 0) fd47_0 (.tmp rfl rfl)) ?_)))
  refine C_at (.t .h) (fun hp => V_load (v := v0_0.v) ag22 (.tmp rfl rfl) hp.2 rfl rfl) ?_
  refine C_val (V_fieldAddr (off := 0) fd47_0 (.tmp rfl rfl)) ?_
  refine C_at .h (fun hp => V_load (v := v1_0.v) ag22 (.tmp rfl rfl) hp.2 rfl rfl) ?_
  obtain ⟨r3, hx4, hF⟩ := bind_some hF
  refine C_x0 (.rd (.t (.t .h)) rfl (.rd (.t (.t (.t (.t (.t (.t (.t (.t (.t (.t .h)))))))))) rfl .nil)) (X_callS cf31 (.cons (.tmp rfl rfl) (.cons (.tmp rfl rfl) .nil)) (l_eqIntS_ok a_a.Schema v0_0 a_b.Schema v1_0 _ hx4)) (fun _ => ?_)
  refine C_val (V_not (b := r3) (.tmp rfl rfl)) ?_
  refine C_nil (CW_cond (b := (!r3)) (.tmp rfl rfl) (fun hb36 => ?_) (fun hb36 => ?_))
  · rw [if_pos hb36] at hF
    refine K_region (C_val (V_assign (v := (.bool false)) (.bool _)) ?_)
    refine C_nil (CW_ret ?_)
    obtain rfl := Option.some.inj hF
    exact End_ret () (.tmp rfl rfl .nil) rfl (.sel .nil)
  rw [if_neg (by rw [hb36]; exact Bool.false_ne_true)] at hF
  refine CW_skip (K_in (K_region (C_val (V_fieldAddr (off := 1) fd47_1 (.tmp rfl rfl)) ?_)))
  refine C_at (.t .h) (fun hp => V_load (v := v0_1.v) ag37 (.tmp rfl rfl) hp.2 rfl rfl) ?_
  refine C_val (V_fieldAddr (off := 1) fd47_1 (.tmp rfl rfl)) ?_
  refine C_at .h (fun hp => V_load (v := v1_1.v) ag37 (.tmp rfl rfl) hp.2 rfl rfl) ?_
  obtain ⟨r6, hx7, hF⟩ := bind_some hF
  refine C_x0 (.rd (.t (.t (.t .h))) rfl (.rd (.t (.t (.t (.t (.t (.t (.t (.t (.t (.t (.t .h))))))))))) rfl .nil)) (X_callS cf32 (.cons (.tmp rfl rfl) (.cons (.tmp rfl rfl) .nil)) (l_eqMethodS_ok a_a.Methods v0_1 a_b.Methods v1_1 _ hx7)) (fun _ => ?_)
  refine C_val (V_not (b := r6) (.tmp rfl rfl)) ?_
  refine C_nil (CW_cond (b := (!r6)) (.tmp rfl rfl) (fun hb35 => ?_) (fun hb35 => ?_))
  · rw [if_pos hb35] at hF
    refine K_region (C_val (V_assign (v := (.bool false)) (.bool _)) ?_)
    refine C_nil (CW_ret ?_)
    obtain rfl := Option.some.inj hF
    exact End_ret () (.tmp rfl rfl .nil) rfl (.sel .nil)
  rw [if_neg (by rw [hb35]; exact Bool.false_ne_true)] at hF
  refine CW_skip (K_in (K_region (C_val (V_fieldAddr (off := 2) fd47_2 (.tmp rfl rfl)) ?_)))
  refine C_at (.t .h) (fun hp => V_load (v := v0_2.v) ag38 (.tmp rfl rfl) hp.2 rfl rfl) ?_
  refine C_val (V_fieldAddr (off := 2) fd47_2 (.tmp rfl rfl)) ?_
  refine C_at .h (fun hp => V_load (v := v1_2.v) ag38 (.tmp rfl rfl) hp.2 rfl rfl) ?_
  obtain ⟨r9, hx10, hF⟩ := bind_some hF
  refine C_x0 (.rd (.t (.t (.t (.t .h)))) rfl (.rd (.t (.t (.t (.t (.t (.t (.t (.t (.t (.t (.t (.t .h)))))))))))) rfl .nil)) (X_callS cf33 (.cons (.tmp rfl rfl) (.cons (.tmp rfl rfl) .nil)) (l_eqRuleS_ok a_a.Rules v0_2 a_b.Rules v1_2 _ hx10)) (fun _ => ?_)
  refine C_val (V_not (b := r9) (.tmp rfl rfl)) ?_
  refine C_nil (CW_cond (b := (!r9)) (.tmp rfl rfl) (fun hb34 => ?_) (fun hb34 => ?_))
  · rw [if_pos hb34] at hF
    refine K_region (C_val (V_assign (v := (.bool false)) (.bool _)) ?_)
    refine C_nil (CW_ret ?_)
    obtain rfl := Option.some.inj hF
    exact End_ret () (.tmp rfl rfl .nil) rfl (.sel .nil)
  rw [if_neg (by rw [hb34]; exact Bool.false_ne_true)] at hF
  refine CW_skip (K_in (K_region (C_val (V_fieldAddr (off := 3) fd47_3 (.tmp rfl rfl)) ?_)))
  refine C_at (.t .h) (fun hp => V_loadA (s := 2) (l := [v0_3.v, (.int .i64 a_a.Source.Version)]) ag41 ty41.sz (.tmp rfl rfl) hp.2 rfl (by decide) (Nat.le_of_ble_eq_true rfl) rfl) ?_
  refine C_val (V_fieldAddr (off := 3) fd47_3 (.tmp rfl rfl)) ?_
  refine C_at .h (fun hp => V_loadA (s := 2) (l := [v1_3.v, (.int .i64 a_b.Source.Version)]) ag41 ty41.sz (.tmp rfl rfl) hp.2 rfl (by decide) (Nat.le_of_ble_eq_true rfl) rfl) ?_
  obtain ⟨r12, hx13, hF⟩ := bind_some hF
  refine C_x0 (.rd (.t (.t (.t (.t (.t .h))))) rfl (.rd (.t (.t (.t (.t (.t (.t (.t (.t (.t (.t (.t (.t (.t .h))))))))))))) rfl .nil)) (X_callS cf34 (.cons (.tmp rfl rfl) (.cons (.tmp rfl rfl) .nil)) (l_eqSource_ok a_a.Source v0_3 a_b.Source v1_3 _ hx13)) (fun _ => ?_)
  refine C_val (V_not (b := r12) (.tmp rfl rfl)) ?_
  refine C_nil (CW_cond (b := (!r12)) (.tmp rfl rfl) (fun hb33 => ?_) (fun hb33 => ?_))
  · rw [if_pos hb33] at hF
    refine K_region (C_val (V_assign (v := (.bool false)) (.bool _)) ?_)
    refine C_nil (CW_ret ?_)
    obtain rfl := Option.some.inj hF
    exact End_ret () (.tmp rfl rfl .nil) rfl (.sel .nil)
  rw [if_neg (by rw [hb33]; exact Bool.false_ne_true)] at hF
  refine CW_skip (K_in (K_region (C_val (V_fieldAddr (off := 5) fd47_4 (.tmp rfl rfl)) ?_)))
  refine C_at (.t .h) (fun hp => V_loadA (s := 2) (l := [v0_5.v, (.int .i64 a_a.Cache.Age)]) ag44 ty44.sz (.tmp rfl rfl) hp.2 rfl (by decide) (Nat.le_of_ble_eq_true rfl) rfl) ?_
  refine C_val (V_fieldAddr (off := 5) fd47_4 (.tmp rfl rfl)) ?_
  refine C_at .h (fun hp => V_loadA (s := 2) (l := [v1_5.v, (.int .i64 a_b.Cache.Age)]) ag44 ty44.sz (.tmp rfl rfl) hp.2 rfl (by decide) (Nat.le_of_ble_eq_true rfl) rfl) ?_
  obtain ⟨r15, hx16, hF⟩ := bind_some hF
  refine C_x0 (.rd (.t (.t (.t (.t (.t (.t .h)))))) rfl (.rd (.t (.t (.t (.t (.t (.t (.t (.t (.t (.t (.t (.t (.t (.t .h)))))))))))))) rfl .nil)) (X_callS cf35 (.cons (.tmp rfl rfl) (.cons (.tmp rfl rfl) .nil)) (l_eqCache_ok a_a.Cache v0_5 a_b.Cache v1_5 _ hx16)) (fun _ => ?_)
  refine C_val (V_not (b := r15) (.tmp rfl rfl)) ?_
  refine C_nil (CW_cond (b := (!r15)) (.tmp rfl rfl) (fun hb32 => ?_) (fun hb32 => ?_))
  · rw [if_pos hb32] at hF
    refine K_region (C_val (V_assign (v := (.bool false)) (.bool _)) ?_)
    refine C_nil (CW_ret ?_)
    obtain rfl := Option.some.inj hF
    exact End_ret () (.tmp rfl rfl .nil) rfl (.sel .nil)
  rw [if_neg (by rw [hb32]; exact Bool.false_ne_true)] at hF
  refine CW_skip (K_in (K_region (C_val (V_fieldAddr (off := 7) fd47_5 (.tmp rfl rfl)) ?_)))
  refine C_at (.t .h) (fun hp => V_load (v := (.int .i64 a_a.Now)) ag3 (.tmp rfl rfl) hp.2 rfl rfl) ?_
  refine C_val (V_fieldAddr (off := 7) fd47_5 (.tmp rfl rfl)) ?_
  refine C_at .h (fun hp => V_load (v := (.int .i64 a_b.Now)) ag3 (.tmp rfl rfl) hp.2 rfl rfl) ?_
  refine C_val (V_neq (i := a_a.Now) (j := a_b.Now) (.tmp rfl rfl) (.tmp rfl rfl)) ?_
  refine C_nil (CW_cond (b := ((a_a.Now : Int) != a_b.Now)) (.tmp rfl rfl) (fun hb31 => ?_) (fun hb31 => ?_))
  · rw [if_pos hb31] at hF
    refine K_region (C_val (V_assign (v := (.bool false)) (.bool _)) ?_)
    refine C_nil (CW_ret ?_)
    obtain rfl := Option.some.inj hF
    exact End_ret () (.tmp rfl rfl .nil) rfl (.sel .nil)
  rw [if_neg (by rw [hb31]; exact Bool.false_ne_true)] at hF
  refine CW_skip (K_in (K_region (C_val (V_fieldAddr (off := 8) fd47_6 (.tmp rfl rfl)) ?_)))
  refine C_at (.t .h) (fun hp => V_load (v := v0_8.v) ag45 (.tmp rfl rfl) hp.2 rfl rfl) ?_
  refine C_val (V_fieldAddr (off := 8) fd47_6 (.tmp rfl rfl)) ?_
  refine C_at .h (fun hp => V_load (v := v1_8.v) ag45 (.tmp rfl rfl) hp.2 rfl rfl) ?_
  obtain ⟨r18, hx19, hF⟩ := bind_some hF
  refine C_x0 (.rd (.t (.t (.t (.t (.t (.t (.t .h))))))) rfl (.rd (.t (.t (.t (.t (.t (.t (.t (.t (.t (.t (.t (.t (.t (.t (.t .h))))))))))))))) rfl .nil)) (X_callS cf36 (.cons (.tmp rfl rfl) (.cons (.tmp rfl rfl) .nil)) (l_eqAccessS_ok a_a.Log v0_8 a_b.Log v1_8 _ hx19)) (fun _ => ?_)
  refine C_val (V_not (b := r18) (.tmp rfl rfl)) ?_
  refine C_nil (CW_cond (b := (!r18)) (.tmp rfl rfl) (fun hb30 => ?_) (fun hb30 => ?_))
  · rw [if_pos hb30] at hF
    refine K_region (C_val (V_assign (v := (.bool false)) (.bool _)) ?_)
    refine C_nil (CW_ret ?_)
    obtain rfl := Option.some.inj hF
    exact End_ret () (.tmp rfl rfl .nil) rfl (.sel .nil)
  rw [if_neg (by rw [hb30]; exact Bool.false_ne_true)] at hF
  refine CW_skip (K_in (K_region (C_val (V_fieldAddr (off := 9) fd47_7 (.tmp rfl rfl)) ?_)))
  refine C_at (.t .h) (fun hp => V_load (v := v0_9.v) ag22 (.tmp rfl rfl) hp.2 rfl rfl) ?_
  refine C_val (V_fieldAddr (off := 9) fd47_7 (.tmp rfl rfl)) ?_
  refine C_at .h (fun hp => V_load (v := v1_9.v) ag22 (.tmp rfl rfl) hp.2 rfl rfl) ?_
  obtain ⟨r21, hx22, hF⟩ := bind_some hF
  refine C_x0 (.rd (.t (.t (.t (.t (.t (.t (.t (.t .h)))))))) rfl (.rd (.t (.t (.t (.t (.t (.t (.t (.t (.t (.t (.t (.t (.t (.t (.t (.t .h)))))))))))))))) rfl .nil)) (X_callS cf31 (.cons (.tmp rfl rfl) (.cons (.tmp rfl rfl) .nil)) (l_eqIntS_ok a_a.Times v0_9 a_b.Times v1_9 _ hx22)) (fun _ => ?_)
  refine C_val (V_not (b := r21) (.tmp rfl rfl)) ?_
  refine C_nil (CW_cond (b := (!r21)) (.tmp rfl rfl) (fun hb29 => ?_) (fun hb29 => ?_))
  · rw [if_pos hb29] at hF
    refine K_region (C_val (V_assign (v := (.bool false)) (.bool _)) ?_)
    refine C_nil (CW_ret ?_)
    obtain rfl := Option.some.inj hF
    exact End_ret () (.tmp rfl rfl .nil) rfl (.sel .nil)
  rw [if_neg (by rw [hb29]; exact Bool.false_ne_true)] at hF
  refine CW_skip (K_in (K_region (C_val (V_fieldAddr (off := 10) fd47_8 (.tmp rfl rfl)) ?_)))
  refine C_at (.t .h) (fun hp => V_load (v := (.int .i64 a_a.Spent)) ag3 (.tmp rfl rfl) hp.2 rfl rfl) ?_
  refine C_val (V_fieldAddr (off := 10) fd47_8 (.tmp rfl rfl)) ?_
  refine C_at .h (fun hp => V_load (v := (.int .i64 a_b.Spent)) ag3 (.tmp rfl rfl) hp.2 rfl rfl) ?_
  refine C_val (V_neq (i := a_a.Spent) (j := a_b.Spent) (.tmp rfl rfl) (.tmp rfl rfl)) ?_
  refine C_nil (CW_cond (b := ((a_a.Spent : Int) != a_b.Spent)) (.tmp rfl rfl) (fun hb28 => ?_) (fun hb28 => ?_))
  · rw [if_pos hb28] at hF
    refine K_region (C_val (V_assign (v := (.bool false)) (.bool _)) ?_)
    refine C_nil (CW_ret ?_)
    obtain rfl := Option.some.inj hF
    exact End_ret () (.tmp rfl rfl .nil) rfl (.sel .nil)
  rw [if_neg (by rw [hb28]; exact Bool.false_ne_true)] at hF
  refine CW_skip (K_in (K_region (C_val (V_fieldAddr (off := 11) fd47_9 (.tmp rfl rfl)) ?_)))
  refine C_at (.t .h) (fun hp => V_load (v := v0_11.v) ag32 (.tmp rfl rfl) hp.2 rfl rfl) ?_
  refine C_val (V_fieldAddr (off := 11) fd47_9 (.tmp rfl rfl)) ?_
  refine C_at .h (fun hp => V_load (v := v1_11.v) ag32 (.tmp rfl rfl) hp.2 rfl rfl) ?_
  obtain ⟨r24, hx25, hF⟩ := bind_some hF
  refine C_x0 (.rd (.t (.t (.t (.t (.t (.t (.t (.t (.t .h))))))))) rfl (.rd (.t (.t (.t (.t (.t (.t (.t (.t (.t (.t (.t (.t (.t (.t (.t (.t (.t .h))))))))))))))))) rfl .nil)) (X_callS cf37 (.cons (.tmp rfl rfl) (.cons (.tmp rfl rfl) .nil)) (l_eqIntSSS_ok a_a.Results v0_11 a_b.Results v1_11 _ hx25)) (fun _ => ?_)
  refine C_val (V_not (b := r24) (.tmp rfl rfl)) ?_
  refine C_nil (CW_cond (b := (!r24)) (.tmp rfl rfl) (fun hb27 => ?_) (fun hb27 => ?_))
  · rw [if_pos hb27] at hF
    refine K_region (C_val (V_assign (v := (.bool false)) (.bool _)) ?_)
    refine C_nil (CW_ret ?_)
    obtain rfl := Option.some.inj hF
    exact End_ret () (.tmp rfl rfl .nil) rfl (.sel .nil)
  rw [if_neg (by rw [hb27]; exact Bool.false_ne_true)] at hF
  refine CW_skip (K_region (C_val (V_assign (v := (.bool true)) (.bool _)) ?_))
  refine C_nil (CW_ret ?_)
  obtain rfl := Option.some.inj hF
  exact End_ret () (.tmp rfl rfl .nil) rfl (.sel .nil)

/-! laws.FnExactDigestOf -/
def l_FnExactDigestOf (fuel : Nat) (a_aM : Mediator) : Option (Bool) :=
  (l_szMediator a_aM 1048576).bind fun r2 =>
  if (decide ((r2 : Int) < 0)) then (
    some true)
  else (
    (l_toMediator a_aM).bind fun r5 =>
    (s_DigestOf fuel r5).bind fun r8 =>
    (l_toMediator a_aM).bind fun r11 =>
    (i_DigestOf r11).bind fun r15 =>
    if ((r15 : Int) != r8) then (
      some false)
    else (
      (l_toMediator a_aM).bind fun r18 =>
      (l_eqMediator r11 r18).bind fun r21 =>
      if (!r21) then (
        some false)
      else (
        some true)))
theorem l_FnExactDigestOf_ok (fuel : Nat) (a_aM : Mediator) (v0_0 : Sv) (v0_1 : Sv) (v0_2 : Sv) (v0_3 : Sv) (v0_5 : Sv) (v0_8 : Sv) (v0_9 : Sv) (v0_11 : Sv) (R : Bool) (hF : l_FnExactDigestOf fuel a_aM = some R) :
    Fw.Spec Tryz.prog 4 [(.agg [v0_0.v, v0_1.v, v0_2.v, v0_3.v, (.int .i64 a_aM.Source.Version), v0_5.v, (.int .i64 a_aM.Cache.Age), (.int .i64 a_aM.Now), v0_8.v, v0_9.v, (.int .i64 a_aM.Spent), v0_11.v].toArray)] [crd (RdS 3 rdInt) v0_0.v a_aM.Schema, crd (RdS 89 rd89) v0_1.v a_aM.Methods, crd (RdS 92 rd92) v0_2.v a_aM.Rules, crd (RdS 139 rd139) v0_3.v a_aM.Source.Facts, crd (RdS 142 rd142) v0_5.v a_aM.Cache.Entries, crd (RdS 97 rd97) v0_8.v a_aM.Log, crd (RdS 3 rdInt) v0_9.v a_aM.Times, crd (RdS 83 (RdS 22 (RdS 3 rdInt))) v0_11.v a_aM.Results] (fun _ : Unit => (.bool R)) (fun _ => []) := by
  refine Spec_enter (n := 27) Tryz.func4 rfl rfl (rs := [.tmp 2]) rfl rfl rfl ?_
  intro H0 F0
  unfold l_FnExactDigestOf at hF
  refine K_region (C_newR rfl (N_box (g := false) (v := (.agg [v0_0.v, v0_1.v, v0_2.v, v0_3.v, (.int .i64 a_aM.Source.Version), v0_5.v, (.int .i64 a_aM.Cache.Age), (.int .i64 a_aM.Now), v0_8.v, v0_9.v, (.int .i64 a_aM.Spent), v0_11.v].toArray)) ty34.sz (.tmp rfl rfl) rfl) (fun k1 => ?_))
  refine C_val (V_assign (v := (.bool false)) (.bool _)) ?_
  refine C_nil (K_region (C_val (V_assign (v := (.int .i64 1048576)) (.int _ _)) ?_))
  refine C_nil (K_region (C_at .h (fun hp => V_loadBox ag34 ty34.sz rfl (.tmp rfl rfl) hp.2 rfl) ?_))
  refine Cm (.int .i64 1048576) rfl rfl ?_
  obtain ⟨r2, hx3, hF⟩ := bind_some hF
  refine C_x0 (.rd (.t .h) rfl (.rd (.t (.t .h)) rfl (.rd (.t (.t (.t .h))) rfl (.rd (.t (.t (.t (.t .h)))) rfl (.rd (.t (.t (.t (.t (.t .h))))) rfl (.rd (.t (.t (.t (.t (.t (.t .h)))))) rfl (.rd (.t (.t (.t (.t (.t (.t (.t .h))))))) rfl (.rd (.t (.t (.t (.t (.t (.t (.t (.t .h)))))))) rfl .nil)))))))) (X_callS cf5 (.cons (.tmp rfl rfl) (.cons (.tmp rfl rfl) .nil)) (l_szMediator_ok a_aM v0_0 v0_1 v0_2 v0_3 v0_5 v0_8 v0_9 v0_11 1048576 _ hx3)) (fun _ => ?_)
  refine Ca (.int .i64 r2) rfl rfl ?_
  refine C_nil (K_in (K_region (Cm (.int .i64 r2) rfl rfl ?_)))
  refine C_val (V_lss (i := r2) (j := 0) (.tmp rfl rfl) (.int _ _)) ?_
  refine C_nil (CW_cond (b := (decide ((r2 : Int) < 0))) (.tmp rfl rfl) (fun hb26 => ?_) (fun hb26 => ?_))
  · rw [if_pos hb26] at hF
    refine K_region (C_val (V_assign (v := (.bool true)) (.bool _)) ?_)
    refine C_nil (CW_ret ?_)
    obtain rfl := Option.some.inj hF
    exact End_ret () (.tmp rfl rfl .nil) rfl (.sel .nil)
  rw [if_neg (by rw [hb26]; exact Bool.false_ne_true)] at hF
  refine CW_skip (K_region (C_at .h (fun hp => V_loadBox ag34 ty34.sz rfl (.tmp rfl rfl) hp.2 rfl) ?_))
  obtain ⟨r5, hx6, hF⟩ := bind_some hF
  refine C_x8 (.rd (.t .h) rfl (.rd (.t (.t .h)) rfl (.rd (.t (.t (.t .h))) rfl (.rd (.t (.t (.t (.t .h)))) rfl (.rd (.t (.t (.t (.t (.t .h))))) rfl (.rd (.t (.t (.t (.t (.t (.t .h)))))) rfl (.rd (.t (.t (.t (.t (.t (.t (.t .h))))))) rfl (.rd (.t (.t (.t (.t (.t (.t (.t (.t .h)))))))) rfl .nil)))))))) (X_callS cf7 (.cons (.tmp rfl rfl) .nil) (l_toMediator_ok a_aM v0_0 v0_1 v0_2 v0_3 v0_5 v0_8 v0_9 v0_11 _ hx6)) (fun p7 => ?_)
  obtain ⟨r8, hx9, hF⟩ := bind_some hF
  refine C_x8 (.cons (.t (.t (.t (.t (.t (.t (.t .h))))))) (.cons (.t (.t (.t (.t (.t (.t .h)))))) (.cons (.t (.t (.t (.t (.t .h))))) (.cons (.t (.t (.t (.t .h)))) (.cons (.t (.t (.t .h))) (.cons (.t (.t .h)) (.cons (.t .h) (.cons .h .nil)))))))) (XC_borL (pre := []) (.cons frz_own (.cons frz_own (.cons frz_own (.cons frz_own (.cons frz_own (.cons frz_own (.cons frz_own (.cons frz_own .nil)))))))) (fun _ => .nil) (X_callS cf10 (.cons (.tmp rfl rfl) .nil) (s_DigestOf_ok fuel r5 p7.1 p7.2.2.1 p7.2.2.2.2.1 p7.2.2.2.2.2.2.1 p7.2.2.2.2.2.2.2.2.1 p7.2.2.2.2.2.2.2.2.2.2.1 p7.2.2.2.2.2.2.2.2.2.2.2.2.1 p7.2.2.2.2.2.2.2.2.2.2.2.2.2.2.1 _ hx9))) (fun _ => ?_)
  refine Ca (.int .i64 r8) rfl rfl ?_
  refine C_nil (K_region (C_at (.t (.t (.t (.t (.t (.t (.t (.t .h)))))))) (fun hp => V_loadBox ag34 ty34.sz rfl (.tmp rfl rfl) hp.2 rfl) ?_))
  obtain ⟨r11, hx12, hF⟩ := bind_some hF
  refine C_x8 (.rd (.t (.t (.t (.t (.t (.t (.t (.t (.t .h))))))))) rfl (.rd (.t (.t (.t (.t (.t (.t (.t (.t (.t (.t .h)))))))))) rfl (.rd (.t (.t (.t (.t (.t (.t (.t (.t (.t (.t (.t .h))))))))))) rfl (.rd (.t (.t (.t (.t (.t (.t (.t (.t (.t (.t (.t (.t .h)))))))))))) rfl (.rd (.t (.t (.t (.t (.t (.t (.t (.t (.t (.t (.t (.t (.t .h))))))))))))) rfl (.rd (.t (.t (.t (.t (.t (.t (.t (.t (.t (.t (.t (.t (.t (.t .h)))))))))))))) rfl (.rd (.t (.t (.t (.t (.t (.t (.t (.t (.t (.t (.t (.t (.t (.t (.t .h))))))))))))))) rfl (.rd (.t (.t (.t (.t (.t (.t (.t (.t (.t (.t (.t (.t (.t (.t (.t (.t .h)))))))))))))))) rfl .nil)))))))) (X_callS cf7 (.cons (.tmp rfl rfl) .nil) (l_toMediator_ok a_aM v0_0 v0_1 v0_2 v0_3 v0_5 v0_8 v0_9 v0_11 _ hx12)) (fun p13 => ?_)
  refine C_new rfl (N_allocT (g := true) ty47 rfl rfl) (fun k14 => ?_)
  refine C_x1 (.cons .h .nil) (X_storeB (e' := (.agg [p13.1.v, p13.2.2.1.v, p13.2.2.2.2.1.v, p13.2.2.2.2.2.2.1.v, (.int .i64 r11.Source.Version), p13.2.2.2.2.2.2.2.2.1.v, (.int .i64 r11.Cache.Age), (.int .i64 r11.Now), p13.2.2.2.2.2.2.2.2.2.2.1.v, p13.2.2.2.2.2.2.2.2.2.2.2.2.1.v, (.int .i64 r11.Spent), p13.2.2.2.2.2.2.2.2.2.2.2.2.2.2.1.v].toArray)) (v := (.agg [p13.1.v, p13.2.2.1.v, p13.2.2.2.2.1.v, p13.2.2.2.2.2.2.1.v, (.int .i64 r11.Source.Version), p13.2.2.2.2.2.2.2.2.1.v, (.int .i64 r11.Cache.Age), (.int .i64 r11.Now), p13.2.2.2.2.2.2.2.2.2.2.1.v, p13.2.2.2.2.2.2.2.2.2.2.2.2.1.v, (.int .i64 r11.Spent), p13.2.2.2.2.2.2.2.2.2.2.2.2.2.2.1.v].toArray)) ty47.sz (.tmp rfl rfl) (.tmp rfl rfl) rfl rfl rfl rfl rfl) (fun _ => ?_)
  refine C_nil (K_region (C_at .h (fun hp => V_loadBox ag47 ty47.sz rfl (.tmp rfl rfl) hp.2 rfl) ?_))
  obtain ⟨r15, hx16, hF⟩ := bind_some hF
  refine C_x8 (.cons (.t (.t (.t (.t (.t (.t (.t (.t .h)))))))) (.cons (.t (.t (.t (.t (.t (.t (.t .h))))))) (.cons (.t (.t (.t (.t (.t (.t .h)))))) (.cons (.t (.t (.t (.t (.t .h))))) (.cons (.t (.t (.t (.t .h)))) (.cons (.t (.t (.t .h))) (.cons (.t (.t .h)) (.cons (.t .h) .nil)))))))) (XC_borL (pre := []) (.cons frz_own (.cons frz_own (.cons frz_own (.cons frz_own (.cons frz_own (.cons frz_own (.cons frz_own (.cons frz_own .nil)))))))) (fun _ => .nil) (X_callS cf11 (.cons (.tmp rfl rfl) .nil) (i_DigestOf_ok r11 p13.1 p13.2.2.1 p13.2.2.2.2.1 p13.2.2.2.2.2.2.1 p13.2.2.2.2.2.2.2.2.1 p13.2.2.2.2.2.2.2.2.2.2.1 p13.2.2.2.2.2.2.2.2.2.2.2.2.1 p13.2.2.2.2.2.2.2.2.2.2.2.2.2.2.1 _ hx16))) (fun _ => ?_)
  refine Ca (.int .i64 r15) rfl rfl ?_
  refine C_nil (K_in (K_region (Cm (.int .i64 r15) rfl rfl ?_)))
  refine Cm (.int .i64 r8) rfl rfl ?_
  refine C_val (V_neq (i := r15) (j := r8) (.tmp rfl rfl) (.tmp rfl rfl)) ?_
  refine C_nil (CW_cond (b := ((r15 : Int) != r8)) (.tmp rfl rfl) (fun hb25 => ?_) (fun hb25 => ?_))
  · rw [if_pos hb25] at hF
    refine K_region (C_val (V_assign (v := (.bool false)) (.bool _)) ?_)
    refine C_nil (CW_ret ?_)
    obtain rfl := Option.some.inj hF
    exact End_ret () (.tmp rfl rfl .nil) rfl (.sel .nil)
  rw [if_neg (by rw [hb25]; exact Bool.false_ne_true)] at hF
  refine CW_skip (K_in (K_draw [0, 1, 2, 3, 4] [0, 0, 2, 7, 15] [2, 3] mixed (by decide +kernel) ?_))
  refine D_atO rfl .no (.t (.t (.t (.t (.t (.t (.t (.t .h)))))))) (fun ha hp => V_loadBox ag47 ty47.sz rfl (EN ha (.tmp rfl rfl) rfl) hp.2 rfl) ?_
  refine D_at rfl .no (.t (.t (.t (.t (.t (.t (.t (.t (.t (.t (.t (.t (.t (.t (.t (.t (.t .h))))))))))))))))) rfl (fun ha hp => V_loadBox ag34 ty34.sz rfl (EN ha (.tmp rfl rfl) rfl) hp.2 rfl) ?_
  obtain ⟨r18, hx19, hF⟩ := bind_some hF
  refine D_act8 rfl rfl .no (.rd (.t (.t (.t (.t (.t (.t (.t (.t (.t (.t (.t (.t (.t (.t (.t (.t (.t (.t .h)))))))))))))))))) rfl (.rd (.t (.t (.t (.t (.t (.t (.t (.t (.t (.t (.t (.t (.t (.t (.t (.t (.t (.t (.t .h))))))))))))))))))) rfl (.rd (.t (.t (.t (.t (.t (.t (.t (.t (.t (.t (.t (.t (.t (.t (.t (.t (.t (.t (.t (.t .h)))))))))))))))))))) rfl (.rd (.t (.t (.t (.t (.t (.t (.t (.t (.t (.t (.t (.t (.t (.t (.t (.t (.t (.t (.t (.t (.t .h))))))))))))))))))))) rfl (.rd (.t (.t (.t (.t (.t (.t (.t (.t (.t (.t (.t (.t (.t (.t (.t (.t (.t (.t (.t (.t (.t (.t .h)))))))))))))))))))))) rfl (.rd (.t (.t (.t (.t (.t (.t (.t (.t (.t (.t (.t (.t (.t (.t (.t (.t (.t (.t (.t (.t (.t (.t (.t .h))))))))))))))))))))))) rfl (.rd (.t (.t (.t (.t (.t (.t (.t (.t (.t (.t (.t (.t (.t (.t (.t (.t (.t (.t (.t (.t (.t (.t (.t (.t .h)))))))))))))))))))))))) rfl (.rd (.t (.t (.t (.t (.t (.t (.t (.t (.t (.t (.t (.t (.t (.t (.t (.t (.t (.t (.t (.t (.t (.t (.t (.t (.t .h))))))))))))))))))))))))) rfl .nil)))))))) (.own (.t (.t (.t (.t (.t (.t (.t (.t .h)))))))) (fun _ h => h) .nil) (fun ha => X_callS cf7 (.cons (EN ha (.tmp rfl rfl) rfl) .nil) (l_toMediator_ok a_aM v0_0 v0_1 v0_2 v0_3 v0_5 v0_8 v0_9 v0_11 _ hx19)) (fun p20 => ?_)
  obtain ⟨r21, hx22, hF⟩ := bind_some hF
  refine D_act16 rfl rfl .no (.cons (.t (.t (.t (.t (.t (.t (.t .h))))))) (.cons (.t (.t (.t (.t (.t (.t .h)))))) (.cons (.t (.t (.t (.t (.t .h))))) (.cons (.t (.t (.t (.t .h)))) (.cons (.t (.t (.t .h))) (.cons (.t (.t .h)) (.cons (.t .h) (.cons .h (.cons .h (.cons .h (.cons .h (.cons .h (.cons .h (.cons .h (.cons .h (.cons .h .nil)))))))))))))))) (.dep rfl .nil) (fun ha => XC_borL (pre := []) (.cons frz_own (.cons frz_own (.cons frz_own (.cons frz_own (.cons frz_own (.cons frz_own (.cons frz_own (.cons frz_own (.cons frz_own (.cons frz_own (.cons frz_own (.cons frz_own (.cons frz_own (.cons frz_own (.cons frz_own (.cons frz_own .nil)))))))))))))))) (fun _ => .nil) (X_callS cf9 (.cons (EN ha (.tmp rfl rfl) rfl) (.cons (EN ha (.tmp rfl rfl) rfl) .nil)) (l_eqMediator_ok r11 p13.1 p13.2.2.1 p13.2.2.2.2.1 p13.2.2.2.2.2.2.1 p13.2.2.2.2.2.2.2.2.1 p13.2.2.2.2.2.2.2.2.2.2.1 p13.2.2.2.2.2.2.2.2.2.2.2.2.1 p13.2.2.2.2.2.2.2.2.2.2.2.2.2.2.1 r18 p20.1 p20.2.2.1 p20.2.2.2.2.1 p20.2.2.2.2.2.2.1 p20.2.2.2.2.2.2.2.2.1 p20.2.2.2.2.2.2.2.2.2.2.1 p20.2.2.2.2.2.2.2.2.2.2.2.2.1 p20.2.2.2.2.2.2.2.2.2.2.2.2.2.2.1 _ hx22))) (fun _ => ?_)
  refine D_val rfl .no (fun ha => V_not (b := r21) (EN ha (.tmp rfl rfl) rfl)) ?_
  refine D_nil (CW_cond (b := (!r21)) (.tmp rfl rfl) (fun hb24 => ?_) (fun hb24 => ?_))
  · rw [if_pos hb24] at hF
    refine K_region (C_val (V_assign (v := (.bool false)) (.bool _)) ?_)
    refine C_nil (CW_ret ?_)
    obtain rfl := Option.some.inj hF
    exact End_ret () (.tmp rfl rfl .nil) rfl (.sel .nil)
  rw [if_neg (by rw [hb24]; exact Bool.false_ne_true)] at hF
  refine CW_skip (K_region (C_val (V_assign (v := (.bool true)) (.bool _)) ?_))
  refine C_nil (CW_ret ?_)
  obtain rfl := Option.some.inj hF
  exact End_ret () (.tmp rfl rfl .nil) rfl (.sel .nil)

end Go.Proofs.YtfkhlplpbhadhaaGreatDoor
