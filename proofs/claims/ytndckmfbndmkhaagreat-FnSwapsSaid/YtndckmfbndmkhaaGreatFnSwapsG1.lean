/-
  Functions of the program as Lean functions, and that the calls return what these say: part 2. No conditions.
-/
import Derived.Shelf.Sort.Plain
import Derived.Shelf.Slices.In.SortNone
import Derived.Shelf.Slices.CompactI
import Derived.Test.YtndckmfbndmkhaaGreatFnSwapsG0
import Derived.KernelRfl
set_option maxRecDepth 100000
set_option maxHeartbeats 1000000
set_option linter.unusedVariables false
namespace Go.Proofs.YtndckmfbndmkhaaGreat
open Go Go.Fw

def s_l3Copy_L1 (z4 : List Int) : List Atom → Nat → (List Atom) → Option (Query)
 | [], k38, c32 => some ({ Head := z4, Atoms := c32 } : Query)
 | x40 :: rest39, k38, c32 => (s_l3Atom x40.Rel x40.Terms).bind fun r52 =>
   (app c32 ([r52] : List Atom)).bind fun z56 =>
   s_l3Copy_L1 z4 rest39 (k38 + 1) z56
def s_l3Copy (a_q : Query) : Option (Query) :=
 (app ([] : List Int) a_q.Head).bind fun z4 =>
 s_l3Copy_L1 z4 a_q.Atoms 0 ([] : List Atom)
theorem s_l3Copy_ok (a_q : Query) (v0_0 : Sv) (v0_1 : Sv) (R : Query) (hF : s_l3Copy a_q = some R) :
   Fw.Spec Tryz.prog 50 [(.agg [v0_0.v, v0_1.v].toArray)] [crd (RdS 3 rdInt) v0_0.v a_q.Head, crd (RdS 78 rd78) v0_1.v a_q.Atoms] (fun p : Sv × List Nat × Sv × List Nat => (.agg [p.1.v, p.2.2.1.v].toArray)) (fun p => [cown (OwnS 3 (roE rdInt)) p.2.1 p.1.v R.Head, cown (OwnS 78 ow78) p.2.2.2 p.2.2.1.v R.Atoms]) := by
 refine Se 36 Tryz.func50 [.cell 2 27] ?_
 intro H0 F0
 unfold s_l3Copy at hF
 refine au ?_
 refine AbR (fun k1 => ?_)
 refine AnW (fun k2 => ?_)
 iterate 2 refine au ?_
 refine C_new rfl (N_buildSliceT (g := true) sl24.h ty3.h .nil (vs := []) rfl rfl rfl (by simp)) (fun k3 => ?_)
 refine Cv1 (.cons .h .nil) (own_lit (Ro := (roE rdInt)) (E := 3) (F := []) (xs := ([] : List Int)) MkL_nil rfl rfl) ?_
 iterate 2 refine au ?_
 refine bnd hF fun z4 hx5 hF => C_x1 (.cons .h (.rd (.t (.t .h)) rfl .nil)) (X_appendO (Ro := (roE rdInt)) sl24.h ni24 ty3.h rfl rfl rfl (.tmp rfl rfl) (.tmp rfl rfl) hx5 src_rd) (fun p6 => ?_)
 refine C_val (V_build ty27.h rfl (vs := [p6.1.v]) (.cons (.tmp rfl rfl) .nil) (cells := [p6.1.v, (.slice none 0 0)]) rfl) ?_
 refine AnW (fun k7 => ?_)
 refine As (.agg [p6.1.v, (.slice none 0 0)].toArray) ?_
 iterate 5 refine au ?_
 refine CW_block (CW_loop (m := a_q.Atoms.length) (fun m36 f' cs' => ∃ (g : Fr) (k38 : Nat) (rest39 : List Atom) (c32 : List Atom) (v33 : Sv) (F34 : List Nat), m36 = rest39.length ∧ f' = updL g [(1, (pz k1)), (2, (pz k2)), (3, (pz k7)), (4, (.int .i64 (k38 : Int)))] ∧ List.drop k38 a_q.Atoms = rest39 ∧ Ent cs' [cboR k1 27 (.agg [v0_0.v, v0_1.v].toArray), crd (RdS 3 rdInt) v0_0.v a_q.Head, crd (RdS 78 rd78) v0_1.v a_q.Atoms, cbox k2 27 (.agg [(.slice none 0 0), (.slice none 0 0)].toArray), cbox k7 27 (.agg [p6.1.v, v33.v].toArray), cown (OwnS 3 (roE rdInt)) p6.2 p6.1.v z4, cown (OwnS 78 ow78) F34 v33.v c32] ∧ s_l3Copy_L1 z4 rest39 k38 c32 = some R) ⟨_, 0, _, _, ⟨none, 0, 0⟩, [], rfl, eqA, rfl, (.conv .nil (own_nil (Ro := ow78) (E := 78)) (.cons .nil) entA), hF⟩ ?_)
 rintro m36 _ _ ⟨g37, k38, rest39, c32, v33, F34, rfl, rfl, hd41, hE, hF⟩
 refine Kb hE a_q.Atoms (fun hbd46 => ?_)
 rcases rest39 with _ | ⟨x40, rest39⟩
 · have hk42 := dn hd41
   rw [s_l3Copy_L1] at hF
   iterate 8 refine au ?_
   refine CdF ?_
   iterate 6 refine au ?_
   refine As (.agg [p6.1.v, v33.v].toArray) ?_
   iterate 2 refine au ?_
   cases hF
   exact Er (p6.1, p6.2, v33, F34)
 obtain ⟨hk42, hx43, hd44⟩ := drop_cons hd41
 rw [s_l3Copy_L1] at hF
 iterate 8 refine au ?_
 refine CdT ?_
 iterate 2 refine au ?_
 refine CW_draw [0, 1, 2, 3, 4, 5, 6, 7, 8, 9, 10, 11, 12, 13, 14, 15, 16, 17, 18] [0, 1, 0, 4, 0, 28, 60, 124, 0, 256, 0, 1792, 3840, 7936, 16380, 32764, 65535, 131071, 262143] [14, 16, 18] mixed (by decide +kernel) ?_
 refine du ?_
 refine D_atO rfl .no (.t (.t (.t (.t .h)))) (fun ha hp => V_load (v := v33.v) ag25.h (EN ha (.tmp rfl rfl) rfl) hp.2 rfl rfl) ?_
 iterate 3 refine du ?_
 refine Di hx43 (fun k47 j48 => ?_)
 refine du ?_
 refine Dl ls78_0 ?_
 iterate 3 refine du ?_
 refine Di hx43 (fun k49 j50 => ?_)
 refine du ?_
 refine D_ldV (R' := (RdS 3 rdInt)) ag24.h rfl .no (.tmp rfl rfl) rfl .h lv78_1 (fun w51 => ?_)
 refine bnd hF fun r52 hx53 hF => D_act1 rfl rfl .no (.rd .h rfl .nil) (.own (.t (.t (.t (.t (.t (.t (.t .h))))))) (fun _ h => h) .nil) (fun ha => X_callS cf104.h (.cons (EN ha (.tmp rfl rfl) rfl) (.cons (EN ha (.tmp rfl rfl) rfl) .nil)) (s_l3Atom_ok x40.Rel x40.Terms w51 _ hx53)) (fun p54 => ?_)
 refine D_new rfl .no rfl (fun ha => N_buildSliceT (g := true) (len := 1) (parts := [(0, .tmp 31)]) sl25.h ty78.h (.cons (EN ha (.tmp rfl rfl) rfl) .nil) (vs := [(.agg [(.int .i64 r52.Rel), p54.1.v].toArray)]) rfl rfl rfl (by intro v hv; simp at hv; rcases hv with rfl <;> rfl)) (fun k55 => ?_)
 refine Dv1 (.cons .h (.cons .h .nil)) (own_lit (Ro := ow78) (E := 78) (F := (p54.2 ++ [])) (xs := ([r52] : List Atom)) (MkL_cons mk78 MkL_nil apps) rfl rfl) ?_
 refine bnd hF fun z56 hx57 hF => D_act1 rfl rfl .no (.cons (.t (.t (.t (.t (.t (.t (.t (.t (.t (.t .h)))))))))) (.cons .h .nil)) (.dep rfl (.dep rfl .nil)) (fun ha => X_appendO (Ro := ow78) sl25.h ni25 ty78.h rfl rfl rfl (EN ha (.tmp rfl rfl) rfl) (EN ha (.tmp rfl rfl) rfl) hx57 src_own) (fun p58 => ?_)
 refine du ?_
 refine D_act1 rfl rfl .no (.cons (.t (.t (.t (.t (.t (.t (.t (.t .h)))))))) .nil) (.dep rfl (.dep rfl .nil)) (fun ha => X_storeB (e' := (.agg [p6.1.v, p58.1.v].toArray)) ty25.h.sz (EN ha (.tmp rfl rfl) rfl) (EN ha (.tmp rfl rfl) rfl) rfl rfl rfl rfl rfl) (fun _ => ?_)
 refine du ?_
 iterate 5 refine au ?_
 rw [wk k38]
 exact ⟨_, Nat.lt_succ_self _, _, k38 + 1, rest39, _, p58.1, p58.2, rfl, eqA, hd44, entA, hF⟩
def s_SwapValue_L3 (a_a : Int) (a_b : Int) (c156 : Int) : Nat → (List Atom) → Int → Option ((List Atom))
 | 0, _, _ => none
 | m241 + 1, c238, c240 => (ix c238 c156).bind fun x249 =>
   if (decide ((c240 : Int) < (x249.Terms.length : Int))) then (
     (ix c238 c156).bind fun x264 =>
     (ix x264.Terms c240).bind fun x283 =>
     (s_l30Swap x283 a_a a_b).bind fun r287 =>
     (chk (decide (0 ≤ c240) && decide (c240 < (x264.Terms.length : Int)))).bind fun u293 =>
     (some (x264.Terms.set (c240).toNat r287)).bind fun z295 =>
     (some (c238.set (c156).toNat ({ Rel := x264.Rel, Terms := z295 } : Atom))).bind fun z298 =>
     s_SwapValue_L3 a_a a_b c156 m241 z298 (IntKind.i64.wrap (c240 + 1)))
   else (
     some c238)
def s_SwapValue_L1 (a_a : Int) (a_b : Int) (r3 : Query) (fuel : Nat) : Nat → (List Atom) → Int → Option (Query)
 | 0, _, _ => none
 | m157 + 1, c154, c156 => (bif (decide ((c156 : Int) < (c154.length : Int))) then ((s_l1In a_a 0 9).bind fun r168 =>
       bif r168 then ((s_l1In a_b 0 9).bind fun r172 =>
         some r172)
       else (some false))
     else (some false)).bind fun o165 =>
   match o165 with
   | c175 => if c175 then (
       (s_SwapValue_L3 a_a a_b c156 fuel c154 0).bind fun o176 =>
       match o176 with
       | c302 => s_SwapValue_L1 a_a a_b r3 fuel m157 c302 (IntKind.i64.wrap (c156 + 1)))
     else (
       some ({ Head := r3.Head, Atoms := c154 } : Query))
def s_SwapValue (fuel : Nat) (a_q : Query) (a_a : Int) (a_b : Int) : Option (Query) :=
 (s_l3Copy a_q).bind fun r3 =>
 s_SwapValue_L1 a_a a_b r3 fuel (((r3.Atoms.length : Int) - 0).toNat + 2) r3.Atoms 0
theorem s_SwapValue_ok (fuel : Nat) (a_q : Query) (v0_0 : Sv) (v0_1 : Sv) (a_a : Int) (a_b : Int) (R : Query) (hF : s_SwapValue fuel a_q a_a a_b = some R) :
   Fw.Spec Tryz.prog 13 [(.agg [v0_0.v, v0_1.v].toArray), (.int .i64 a_a), (.int .i64 a_b)] [crd (RdS 3 rdInt) v0_0.v a_q.Head, crd (RdS 78 rd78) v0_1.v a_q.Atoms] (fun p : Sv × List Nat × Sv × List Nat => (.agg [p.1.v, p.2.2.1.v].toArray)) (fun p => [cown (OwnS 3 (roE rdInt)) p.2.1 p.1.v R.Head, cown (OwnS 78 ow78) p.2.2.2 p.2.2.1.v R.Atoms]) := by
 refine Spec_enter (n := 59) Tryz.func13 rfl rfl (rs := [.cell 6 27]) rfl rfl rfl ?_
 intro H0 F0
 unfold s_SwapValue at hF
 refine K_region (C_newR rfl (N_box (g := false) (v := (.agg [v0_0.v, v0_1.v].toArray)) ty27.h.sz (.tmp rfl rfl) rfl) (fun k1 => ?_))
 refine C_new rfl (N_allocT (g := true) ty27.h rfl rfl) (fun k2 => ?_)
 refine C_nil (K_region (C_at (.t .h) (fun hp => V_loadBox ag27.h ty27.h.sz rfl (.tmp rfl rfl) hp.2 rfl) ?_))
 obtain ⟨r3, hx4, hF⟩ := bind_some hF
 refine C_x2 (.rd (.t (.t .h)) rfl (.rd (.t (.t (.t .h))) rfl .nil)) (X_callS cf50.h (.cons (.tmp rfl rfl) .nil) (s_l3Copy_ok a_q v0_0 v0_1 _ hx4)) (fun p5 => ?_)
 refine C_new rfl (N_allocT (g := true) ty27.h rfl rfl) (fun k6 => ?_)
 refine C_x1 (.cons .h .nil) (X_storeB (e' := (.agg [p5.1.v, p5.2.2.1.v].toArray)) (v := (.agg [p5.1.v, p5.2.2.1.v].toArray)) ty27.h.sz (.tmp rfl rfl) (.tmp rfl rfl) rfl rfl rfl rfl rfl) (fun _ => ?_)
 refine C_nil (K_in (K_region (C_val (V_assign (v := (.int .i64 0)) (.int _ _)) ?_)))
 refine C_nil (CW_block (CW_loop (m := (((r3.Atoms.length : Int) - 0).toNat + 2)) (fun m157 f' cs' => ∃ (g : Fr) (c154 : List Atom) (c156 : Int) (F155 : List Nat), f' = updL g [(1, (.int .i64 a_a)), (2, (.int .i64 a_b)), (6, (.pointer (some ⟨k2, 0, some 0⟩))), (7, (.pointer (some ⟨k6, 0, some 0⟩))), (8, (.int .i64 c156))] ∧ Ent cs' [cbox k2 27 (.agg [(.slice none 0 0), (.slice none 0 0)].toArray), cbox k6 27 (.agg [p5.1.v, p5.2.2.1.v].toArray), cown (OwnS 3 (roE rdInt)) p5.2.1 p5.1.v r3.Head, cown (OwnS 78 ow78) F155 p5.2.2.1.v c154] ∧ s_SwapValue_L1 a_a a_b r3 fuel m157 c154 c156 = some R) ⟨_, _, _, p5.2.2.2, (EqL.cons rfl (EqL.cons rfl (EqL.cons rfl (EqL.cons rfl (EqL.cons rfl (EqL.nil)))))).eq, (.sel (.cons (.t (.t (.t .h))) (.cons .h (.cons .h (.cons .h .nil))))), hF⟩ ?_))
 clear hF
 rintro m157 _ _ ⟨g158, c154, c156, F155, rfl, hE, hF⟩
 refine K_ent hE ?_
 clear hE
 rcases m157 with _ | m157
 · rw [s_SwapValue_L1] at hF
   exact absurd hF (by simp)
 rw [s_SwapValue_L1] at hF
 refine K_in ?_
 obtain ⟨o165, hio165, hO166⟩ := bind_some hF
 refine K_region (C_cut (fun f' cs' => ∃ (c175 : Bool) (g : Fr), c175 = o165 ∧ f' = updL g [(1, (.int .i64 a_a)), (2, (.int .i64 a_b)), (6, (.pointer (some ⟨k2, 0, some 0⟩))), (7, (.pointer (some ⟨k6, 0, some 0⟩))), (8, (.int .i64 c156)), (24, (.bool c175))] ∧ Ent cs' [cbox k2 27 (.agg [(.slice none 0 0), (.slice none 0 0)].toArray), cbox k6 27 (.agg [p5.1.v, p5.2.2.1.v].toArray), cown (OwnS 3 (roE rdInt)) p5.2.1 p5.1.v r3.Head, cown (OwnS 78 ow78) F155 p5.2.2.1.v c154]) ?_ ?_)
 · replace hF := hio165
   refine Cm (.int .i64 c156) rfl rfl ?_
   refine C_val (V_fieldAddr (off := 1) fd27_1.h (.tmp rfl rfl)) ?_
   refine C_at (.t .h) (fun hp => V_load (v := p5.2.2.1.v) ag25.h (.tmp rfl rfl) hp.2 rfl rfl) ?_
   refine C_at (.t (.t (.t .h))) (fun hp => V_lenR (l := c154.length) sl25.h (.tmp rfl rfl) (cown_len hp)) ?_
   refine C_val (V_lss (i := c156) (j := (c154.length : Int)) (.tmp rfl rfl) (.tmp rfl rfl)) ?_
   refine Cm (.bool (decide ((c156 : Int) < (c154.length : Int)))) rfl rfl ?_
   rcases Bool.eq_false_or_eq_true (decide ((c156 : Int) < (c154.length : Int))) with hg167 | hg167
   · rw [hg167]
     try rw [hg167] at hF; dsimp only [cond_true, cond_false] at hF
     refine C_on (t := 17) rfl rfl rfl ?_
     refine Cm (.int .i64 a_a) rfl rfl ?_
     refine C_on (t := 17) rfl rfl rfl ?_
     obtain ⟨r168, hx169, hF⟩ := bind_some hF
     refine C_x0 .nil (X_callS cf51.h (.cons (.tmp rfl rfl) (.cons (.int _ _) (.cons (.int _ _) .nil))) (s_l1In_ok a_a 0 9 _ hx169)) (fun _ => ?_)
     refine C_val (V_pick (b := true) (u := (.bool r168)) (v := (.bool false)) (.tmp rfl rfl) (.tmp rfl rfl) (.bool _)) ?_
     refine Cm (.bool r168) rfl rfl ?_
     rcases Bool.eq_false_or_eq_true r168 with hg171 | hg171
     · rw [hg171]
       try rw [hg171] at hF; dsimp only [cond_true, cond_false] at hF
       refine C_on (t := 21) rfl rfl rfl ?_
       refine Cm (.int .i64 a_b) rfl rfl ?_
       refine C_on (t := 21) rfl rfl rfl ?_
       obtain ⟨r172, hx173, hF⟩ := bind_some hF
       refine C_x0 .nil (X_callS cf51.h (.cons (.tmp rfl rfl) (.cons (.int _ _) (.cons (.int _ _) .nil))) (s_l1In_ok a_b 0 9 _ hx173)) (fun _ => ?_)
       refine C_val (V_pick (b := true) (u := (.bool r172)) (v := (.bool false)) (.tmp rfl rfl) (.tmp rfl rfl) (.bool _)) ?_
       refine C_nil ?_
       obtain rfl := Option.some.inj hF
       exact ⟨_, _, rfl, (EqL.cons rfl (EqL.cons rfl (EqL.cons rfl (EqL.cons rfl (EqL.cons rfl (EqL.cons rfl (EqL.nil))))))).eq, (.sel (.cons .h (.cons .h (.cons .h (.cons .h .nil)))))⟩
     rw [hg171]
     try rw [hg171] at hF; dsimp only [cond_true, cond_false] at hF
     iterate 2 refine C_off (t := 21) rfl rfl rfl ?_
     refine C_val (V_pick (b := false) (u := undef) (v := (.bool false)) (.tmp rfl rfl) (.tmp rfl rfl) (.bool _)) ?_
     refine C_nil ?_
     obtain rfl := Option.some.inj hF
     exact ⟨_, _, rfl, (EqL.cons rfl (EqL.cons rfl (EqL.cons rfl (EqL.cons rfl (EqL.cons rfl (EqL.cons rfl (EqL.nil))))))).eq, (.sel (.cons .h (.cons .h (.cons .h (.cons .h .nil)))))⟩
   rw [hg167]
   try rw [hg167] at hF; dsimp only [cond_true, cond_false] at hF
   iterate 2 refine C_off (t := 17) rfl rfl rfl ?_
   refine C_val (V_pick (b := false) (u := undef) (v := (.bool false)) (.tmp rfl rfl) (.tmp rfl rfl) (.bool _)) ?_
   refine Cm (.bool false) rfl rfl ?_
   iterate 2 refine C_off (t := 21) rfl rfl rfl ?_
   refine C_val (V_pick (b := false) (u := undef) (v := (.bool false)) (.tmp rfl rfl) (.tmp rfl rfl) (.bool _)) ?_
   refine C_nil ?_
   obtain rfl := Option.some.inj hF
   exact ⟨_, _, rfl, (EqL.cons rfl (EqL.cons rfl (EqL.cons rfl (EqL.cons rfl (EqL.cons rfl (EqL.cons rfl (EqL.nil))))))).eq, (.sel (.cons .h (.cons .h (.cons .h (.cons .h .nil)))))⟩
 rintro _ _ ⟨c175, g305, rfl, rfl, hE⟩
 replace hF := hO166
 clear hO166
 try dsimp only at hF
 refine K_ent hE ?_
 refine CW_cond (b := c175) (.tmp rfl rfl) (fun hb304 => ?_) (fun hb304 => ?_)
 · rw [if_pos hb304] at hF
   refine CW_skip ?_
   obtain ⟨o176, hio176, hO177⟩ := bind_some hF
   refine K_cut (fun f' cs' => ∃ (c302 : List Atom) (F301 : List Nat) (g : Fr), c302 = o176 ∧ f' = updL g [(1, (.int .i64 a_a)), (2, (.int .i64 a_b)), (6, (.pointer (some ⟨k2, 0, some 0⟩))), (7, (.pointer (some ⟨k6, 0, some 0⟩))), (8, (.int .i64 c156))] ∧ Ent cs' [cbox k2 27 (.agg [(.slice none 0 0), (.slice none 0 0)].toArray), cbox k6 27 (.agg [p5.1.v, p5.2.2.1.v].toArray), cown (OwnS 3 (roE rdInt)) p5.2.1 p5.1.v r3.Head, cown (OwnS 78 ow78) F301 p5.2.2.1.v c302]) ?_ ?_
   · replace hF := hio176
     refine CW_block (K_region (C_val (V_assign (v := (.int .i64 0)) (.int _ _)) ?_))
     refine C_nil (CW_block (CW_loop (m := fuel) (fun m241 f' cs' => ∃ (g : Fr) (c238 : List Atom) (c240 : Int) (F239 : List Nat), f' = updL g [(1, (.int .i64 a_a)), (2, (.int .i64 a_b)), (6, (.pointer (some ⟨k2, 0, some 0⟩))), (7, (.pointer (some ⟨k6, 0, some 0⟩))), (8, (.int .i64 c156)), (9, (.int .i64 c240))] ∧ Ent cs' [cbox k2 27 (.agg [(.slice none 0 0), (.slice none 0 0)].toArray), cbox k6 27 (.agg [p5.1.v, p5.2.2.1.v].toArray), cown (OwnS 3 (roE rdInt)) p5.2.1 p5.1.v r3.Head, cown (OwnS 78 ow78) F239 p5.2.2.1.v c238] ∧ s_SwapValue_L3 a_a a_b c156 m241 c238 c240 = some o176) ⟨_, _, _, F155, (EqL.cons rfl (EqL.cons rfl (EqL.cons rfl (EqL.cons rfl (EqL.cons rfl (EqL.cons rfl (EqL.nil))))))).eq, (.sel (.cons .h (.cons .h (.cons .h (.cons .h .nil))))), hF⟩ ?_))
     clear hF
     rintro m241 _ _ ⟨g242, c238, c240, F239, rfl, hE, hF⟩
     refine K_ent hE ?_
     clear hE
     rcases m241 with _ | m241
     · rw [s_SwapValue_L3] at hF
       exact absurd hF (by simp)
     rw [s_SwapValue_L3] at hF
     refine K_in (K_region (Cm (.int .i64 c240) rfl rfl ?_))
     refine C_val (V_fieldAddr (off := 1) fd27_1.h (.tmp rfl rfl)) ?_
     refine C_at (.t .h) (fun hp => V_load (v := p5.2.2.1.v) ag25.h (.tmp rfl rfl) hp.2 rfl rfl) ?_
     refine Cm (.int .i64 c156) rfl rfl ?_
     obtain ⟨x249, hx250, hF⟩ := bind_some hF
     have hi253 := ix_chk hx250
     obtain ⟨hp251, hx252⟩ := ix_some hx250
     refine C_focus1 (s := 2) un78 hx252 (.t (.t (.t .h))) (fun p254 es255 F256 G257 G258 he259 hl260 => ?_)
     refine C_idxO sl25.h ty78.h.sz (.tmp rfl rfl) (.tmp rfl rfl) .h (idx_len hl260 hi253) (fun k261 hk262 => ?_)
     refine C_val (V_fieldAddr (off := 1) fd78_1.h (.tmp rfl rfl)) ?_
     refine C_ldO (w := p254.1.v) ag24.h (.tmp rfl rfl) .h hk262 he259 (lo_rawO rfl) ?_
     refine C_at (.t (.t .h)) (fun hp => V_lenR (l := x249.Terms.length) sl24.h (.tmp rfl rfl) (cown_len hp)) ?_
     refine C_val (V_lss (i := c240) (j := (x249.Terms.length : Int)) (.tmp rfl rfl) (.tmp rfl rfl)) ?_
     refine C_conv (.cons .h (.cons .h (.cons .h (.cons .h .nil)))) (Cv_unfocus0 (mk78 (a := x249)) he259 hl260 hx252) apps ?_
     refine C_nil (CW_cond (b := (decide ((c240 : Int) < (x249.Terms.length : Int)))) (.tmp rfl rfl) (fun hb300 => ?_) (fun hb300 => ?_))
     · rw [if_pos hb300] at hF
       refine CW_skip (K_block (CW_draw [0, 1, 2, 3, 4, 5, 6, 7, 8, 9, 10, 11, 12, 13, 14, 15, 16, 17, 18, 19, 20] [0, 1, 0, 7, 15, 31, 0, 0, 128, 0, 896, 1920, 3968, 0, 16256, 32640, 0, 0, 262016, 524287, 1048575] [18, 20] mixed (by decide +kernel) ?_))
       refine D_val rfl .no (fun ha => V_fieldAddr (off := 1) fd27_1.h (EN ha (.tmp rfl rfl) rfl)) ?_
       refine D_atO rfl .no (.t (.t .h)) (fun ha hp => V_load (v := p5.2.2.1.v) ag25.h (EN ha (.tmp rfl rfl) rfl) hp.2 rfl rfl) ?_
       refine Dm (.int .i64 c156) rfl rfl rfl rfl ?_
       obtain ⟨x264, hx265, hF⟩ := bind_some hF
       have hi268 := ix_chk hx265
       obtain ⟨hp266, hx267⟩ := ix_some hx265
       refine D_focus1 (s := 2) un78 hx267 .h (fun p269 es270 F271 G272 G273 he274 hl275 => ?_)
       refine D_idxO sl25.h ty78.h.sz rfl .no (.tmp rfl rfl) (.tmp rfl rfl) rfl rfl .h (idx_len hl275 hi268) (fun k276 hk277 => ?_)
       refine D_val rfl .no (fun ha => V_fieldAddr (off := 1) fd78_1.h (EN ha (.tmp rfl rfl) rfl)) ?_
       refine D_ldO (w := p269.1.v) ag24.h rfl .no (.tmp rfl rfl) rfl .h hk277 he274 (lo_rawO rfl) ?_
       refine Dm (.int .i64 c240) rfl rfl rfl rfl ?_
       refine D_val rfl .no (fun ha => V_fieldAddr (off := 1) fd27_1.h (EN ha (.tmp rfl rfl) rfl)) ?_
       refine D_atO rfl .no (.t (.t (.t (.t (.t .h))))) (fun ha hp => V_load (v := p5.2.2.1.v) ag25.h (EN ha (.tmp rfl rfl) rfl) hp.2 rfl rfl) ?_
       refine Dm (.int .i64 c156) rfl rfl rfl rfl ?_
       refine D_idxO sl25.h ty78.h.sz rfl .no (.tmp rfl rfl) (.tmp rfl rfl) rfl rfl .h (idx_len hl275 hi268) (fun k278 hk279 => ?_)
       refine D_val rfl .no (fun ha => V_fieldAddr (off := 1) fd78_1.h (EN ha (.tmp rfl rfl) rfl)) ?_
       refine D_ldO (w := p269.1.v) ag24.h rfl .no (.tmp rfl rfl) rfl .h hk279 he274 (lo_rawO rfl) ?_
       refine Dm (.int .i64 c240) rfl rfl rfl rfl ?_
       obtain ⟨x283, hx284, hF⟩ := bind_some hF
       have hi282 := ix_chk hx284
       obtain ⟨hp285, hx286⟩ := ix_some hx284
       refine D_idxO sl24.h ty3.h.sz rfl .no (.tmp rfl rfl) (.tmp rfl rfl) rfl rfl (.t (.t .h)) hi282 (fun k280 hk281 => ?_)
       refine D_ldO (w := (.int .i64 x283)) ag3.h rfl .no (.tmp rfl rfl) rfl (.t (.t .h)) hk281 hx286 lo3_0 ?_
       refine Dm (.int .i64 a_a) rfl rfl rfl rfl ?_
       refine Dm (.int .i64 a_b) rfl rfl rfl rfl ?_
       obtain ⟨r287, hx288, hF⟩ := bind_some hF
       refine D_act0 rfl rfl .no .nil (.dep rfl (.dep rfl (.dep rfl (.dep rfl (.dep rfl (.own .h (fun _ h => h) (.own .h (fun _ h => h) (.own (.t (.t (.t (.t (.t .h))))) (fun _ h => h) .nil)))))))) (fun ha => X_callS cf47.h (.cons (EN ha (.tmp rfl rfl) rfl) (.cons (EN ha (.tmp rfl rfl) rfl) (.cons (EN ha (.tmp rfl rfl) rfl) .nil))) (s_l30Swap_ok x283 a_a a_b _ hx288)) (fun _ => ?_)
       obtain ⟨u293, hx294, hF⟩ := bind_some hF
       have hi292 := chk_some hx294
       refine D_idxO sl24.h ty3.h.sz rfl .no (.tmp rfl rfl) (.tmp rfl rfl) rfl rfl (.t (.t .h)) hi292 (fun k290 hk291 => ?_)
       obtain ⟨z295, hx296, hF⟩ := bind_some hF
       replace hx296 := Option.some.inj hx296
       refine D_act1 rfl rfl .no (.cons (.t (.t .h)) .nil) (.dep rfl (.dep rfl (.dep rfl (.dep rfl (.dep rfl (.dep rfl (.dep rfl (.dep rfl (.dep rfl .nil))))))))) (fun ha => X_storeO (Ro := (roE rdInt)) (a := r287) (i := c240) ty3.h.sz rfl (EN ha (.tmp rfl rfl) rfl) (EN ha (.tmp rfl rfl) rfl) hk291 hi292 (Mk_pure (fun _ => rfl)) (fun _ _ _ _ h => by obtain ⟨-, h⟩ := h; cases h; rfl)) (fun F297 => ?_)
       rw [hx296]
       obtain ⟨z298, hx299, hF⟩ := bind_some hF
       replace hx299 := Option.some.inj hx299
       refine D_conv (.cons (.t .h) (.cons (.t .h) (.cons .h (.cons .h .nil)))) (Cv_unfocus (mk78 (a := ({ Rel := x264.Rel, Terms := z295 } : Atom))) he274 hl275) apps ?_
       rw [hx299]
       refine D_nil (CW_region (Cm (.int .i64 c240) rfl rfl ?_))
       refine C_val (V_add (i := c240) (j := 1) (.tmp rfl rfl) (.int _ _)) ?_
       refine Ca (.int .i64 (IntKind.i64.wrap (c240 + 1))) rfl rfl ?_
       refine C_nil ?_
       exact ⟨m241, Nat.lt_succ_self _, _, _, _, (F271 ++ (G272 ++ (F297 ++ G273))), (EqL.cons rfl (EqL.cons rfl (EqL.cons rfl (EqL.cons rfl (EqL.cons rfl (EqL.cons rfl (EqL.nil))))))).eq, (.sel (.cons (.t .h) (.cons (.t .h) (.cons (.t .h) (.cons .h .nil))))), hF⟩
     rw [if_neg (by rw [hb300]; exact Bool.false_ne_true)] at hF
     refine CW_exit ?_
     iterate 2 refine CThen_exit ?_
     refine CIn_self ?_
     obtain rfl := Option.some.inj hF
     exact ⟨_, (F256 ++ (G257 ++ (p254.2 ++ G258))), _, rfl, (EqL.cons rfl (EqL.cons rfl (EqL.cons rfl (EqL.cons rfl (EqL.cons rfl (EqL.nil)))))).eq, (.sel (.cons (.t .h) (.cons (.t .h) (.cons (.t .h) (.cons .h .nil)))))⟩
   rintro _ _ ⟨c302, F301, g303, rfl, rfl, hE⟩
   replace hF := hO177
   clear hO177
   try dsimp only at hF
   refine K_ent hE ?_
   refine CW_region (Cm (.int .i64 c156) rfl rfl ?_)
   refine C_val (V_add (i := c156) (j := 1) (.tmp rfl rfl) (.int _ _)) ?_
   refine Ca (.int .i64 (IntKind.i64.wrap (c156 + 1))) rfl rfl ?_
   refine C_nil ?_
   exact ⟨m157, Nat.lt_succ_self _, _, _, _, F301, (EqL.cons rfl (EqL.cons rfl (EqL.cons rfl (EqL.cons rfl (EqL.cons rfl (EqL.nil)))))).eq, (.sel (.cons .h (.cons .h (.cons .h (.cons .h .nil))))), hF⟩
 rw [if_neg (by rw [hb304]; exact Bool.false_ne_true)] at hF
 refine CW_exit ?_
 iterate 2 refine CThen_exit ?_
 refine CIn_self (K_region (C_at (.t .h) (fun hp => V_loadBox ag27.h ty27.h.sz rfl (.tmp rfl rfl) hp.2 rfl) ?_))
 refine C_x1 (.cons .h .nil) (X_storeB (e' := (.agg [p5.1.v, p5.2.2.1.v].toArray)) (v := (.agg [p5.1.v, p5.2.2.1.v].toArray)) ty27.h.sz (.tmp rfl rfl) (.tmp rfl rfl) rfl rfl rfl rfl rfl) (fun _ => ?_)
 refine C_nil (CW_ret ?_)
 obtain rfl := Option.some.inj hF
 exact End_ret (p5.1, p5.2.1, p5.2.2.1, F155) (.cellA rfl rfl .h rfl ag27.h ty27.h.sz rfl rfl .nil) rfl (.sel (.cons (.t (.t .h)) (.cons (.t (.t .h)) .nil)))
def s_l2Ints_L1 (a_b : List Int) : List Int → Nat → Option (Bool)
 | [], k4 => some true
 | x6 :: rest5, k4 => (ix a_b (k4 : Int)).bind fun x15 =>
   if ((x6 : Int) != x15) then (
     some false)
   else (
     s_l2Ints_L1 a_b rest5 (k4 + 1))
def s_l2Ints (a_a : List Int) (a_b : List Int) : Option (Bool) :=
 if (((a_a.length : Int) : Int) != (a_b.length : Int)) then (
   some false)
 else (
   s_l2Ints_L1 a_b a_a 0)
theorem s_l2Ints_ok (a_a : List Int) (v0_0 : Sv) (a_b : List Int) (v1_0 : Sv) (R : Bool) (hF : s_l2Ints a_a a_b = some R) :
   Fw.Spec Tryz.prog 49 [v0_0.v, v1_0.v] [crd (RdS 3 rdInt) v0_0.v a_a, crd (RdS 3 rdInt) v1_0.v a_b] (fun _ : Unit => (.bool R)) (fun _ => []) := by
 refine Se 26 Tryz.func49 [.tmp 4] ?_
 intro H0 F0
 unfold s_l2Ints at hF
 iterate 11 refine au ?_
 refine Ci hF (fun hb23 hF => ?_) (fun hb23 hF => ?_)
 · iterate 4 refine au ?_
   cases hF
   exact Er ()
 iterate 5 refine au ?_
 refine CW_block (CW_loop (m := a_a.length) (fun m2 f' cs' => ∃ (g : Fr) (k4 : Nat) (rest5 : List Int), m2 = rest5.length ∧ f' = updL g [(0, v0_0.v), (1, v1_0.v), (5, (.int .i64 (k4 : Int)))] ∧ List.drop k4 a_a = rest5 ∧ Ent cs' [crd (RdS 3 rdInt) v0_0.v a_a, crd (RdS 3 rdInt) v1_0.v a_b] ∧ s_l2Ints_L1 a_b rest5 k4 = some R) ⟨_, 0, _, rfl, eqA, rfl, entA, hF⟩ ?_)
 rintro m2 _ _ ⟨g3, k4, rest5, rfl, rfl, hd7, hE, hF⟩
 refine Kb hE a_a (fun hbd12 => ?_)
 rcases rest5 with _ | ⟨x6, rest5⟩
 · have hk8 := dn hd7
   rw [s_l2Ints_L1] at hF
   iterate 7 refine au ?_
   refine CdF ?_
   iterate 8 refine au ?_
   cases hF
   exact Er ()
 obtain ⟨hk8, hx9, hd10⟩ := drop_cons hd7
 rw [s_l2Ints_L1] at hF
 iterate 7 refine au ?_
 refine CdT ?_
 iterate 2 refine au ?_
 refine K_draw [0, 1, 2, 3, 4, 5, 6, 7, 8] [0, 0, 3, 7, 0, 0, 48, 112, 255] [] mixed (by decide +kernel) ?_
 iterate 2 refine du ?_
 refine Di hx9 (fun k13 j14 => ?_)
 refine Dl ls3_0 ?_
 iterate 2 refine du ?_
 refine bnd hF fun x15 hx16 hF => ?_
 obtain ⟨hp17, hx18⟩ := ix_some hx16
 refine Di hx18 (fun k19 j20 => ?_)
 refine Dl ls3_0 ?_
 iterate 2 refine du ?_
 refine Ci hF (fun hb22 hF => ?_) (fun hb22 hF => ?_)
 · iterate 4 refine au ?_
   cases hF
   exact Er ()
 iterate 6 refine au ?_
 rw [wk k4]
 exact ⟨_, Nat.lt_succ_self _, _, k4 + 1, rest5, rfl, eqA, hd10, entA, hF⟩
def s_SameQueries_L1 (a_b : Query) : List Atom → Nat → Option (Bool)
 | [], k13 => some true
 | x15 :: rest14, k13 => ((ix a_b.Atoms (k13 : Int)).bind fun x26 =>
     bif ((x15.Rel : Int) != x26.Rel) then (some true)
     else ((ix a_b.Atoms (k13 : Int)).bind fun x36 =>
       (s_l2Ints x15.Terms x36.Terms).bind fun r43 =>
       some (!r43))).bind fun o22 =>
   match o22 with
   | c46 => if c46 then (
       some false)
     else (
       s_SameQueries_L1 a_b rest14 (k13 + 1))
def s_SameQueries (a_a : Query) (a_b : Query) : Option (Bool) :=
 ((s_l2Ints a_a.Head a_b.Head).bind fun r5 =>
   bif (!r5) then (some true)
   else (some (((a_a.Atoms.length : Int) : Int) != (a_b.Atoms.length : Int)))).bind fun o3 =>
 match o3 with
 | c9 => if c9 then (
     some false)
   else (
     s_SameQueries_L1 a_b a_a.Atoms 0)
theorem s_SameQueries_ok (a_a : Query) (v0_0 : Sv) (v0_1 : Sv) (a_b : Query) (v1_0 : Sv) (v1_1 : Sv) (R : Bool) (hF : s_SameQueries a_a a_b = some R) :
   Fw.Spec Tryz.prog 12 [(.agg [v0_0.v, v0_1.v].toArray), (.agg [v1_0.v, v1_1.v].toArray)] [crd (RdS 3 rdInt) v0_0.v a_a.Head, crd (RdS 78 rd78) v0_1.v a_a.Atoms, crd (RdS 3 rdInt) v1_0.v a_b.Head, crd (RdS 78 rd78) v1_1.v a_b.Atoms] (fun _ : Unit => (.bool R)) (fun _ => []) := by
 refine Se 57 Tryz.func12 [.tmp 4] ?_
 intro H0 F0
 unfold s_SameQueries at hF
 refine au ?_
 refine AbR (fun k1 => ?_)
 refine AbR (fun k2 => ?_)
 iterate 3 refine au ?_
 obtain ⟨o3, hio3, hO4⟩ := bind_some hF
 refine au ?_
 refine C_cut (fun f' cs' => ∃ (c9 : Bool) (g : Fr), c9 = o3 ∧ f' = updL g [(2, (pz k1)), (3, (pz k2)), (20, (.bool c9))] ∧ Ent cs' [cboR k1 27 (.agg [v0_0.v, v0_1.v].toArray), crd (RdS 3 rdInt) v0_0.v a_a.Head, crd (RdS 78 rd78) v0_1.v a_a.Atoms, cboR k2 27 (.agg [v1_0.v, v1_1.v].toArray), crd (RdS 3 rdInt) v1_0.v a_b.Head, crd (RdS 78 rd78) v1_1.v a_b.Atoms]) ?_ ?_
 · replace hF := hio3
   iterate 4 refine au ?_
   refine bnd hF fun r5 hx6 hF => Cx0 (s_l2Ints_ok _ _ _ _ _ hx6) (fun _ => ?_)
   iterate 2 refine au ?_
   rcases Bool.eq_false_or_eq_true (!r5) with hg8 | hg8
   · rw [hg8]
     try rw [hg8] at hF; dsimp only [cond_true, cond_false] at hF
     iterate 9 refine au ?_
     cases hF
     exact ⟨_, _, rfl, eqA, entA⟩
   rw [hg8]
   try rw [hg8] at hF; dsimp only [cond_true, cond_false] at hF
   iterate 16 refine au ?_
   cases hF
   exact ⟨_, _, rfl, eqA, entA⟩
 rintro _ _ ⟨c9, g51, rfl, rfl, hE⟩
 replace hF := hO4
 try dsimp only at hF
 refine K_ent hE ?_
 refine Ci hF (fun hb50 hF => ?_) (fun hb50 hF => ?_)
 · iterate 4 refine au ?_
   cases hF
   exact Er ()
 iterate 5 refine au ?_
 refine CW_block (CW_loop (m := a_a.Atoms.length) (fun m11 f' cs' => ∃ (g : Fr) (k13 : Nat) (rest14 : List Atom), m11 = rest14.length ∧ f' = updL g [(2, (pz k1)), (3, (pz k2)), (5, (.int .i64 (k13 : Int)))] ∧ List.drop k13 a_a.Atoms = rest14 ∧ Ent cs' [cboR k1 27 (.agg [v0_0.v, v0_1.v].toArray), crd (RdS 3 rdInt) v0_0.v a_a.Head, crd (RdS 78 rd78) v0_1.v a_a.Atoms, cboR k2 27 (.agg [v1_0.v, v1_1.v].toArray), crd (RdS 3 rdInt) v1_0.v a_b.Head, crd (RdS 78 rd78) v1_1.v a_b.Atoms] ∧ s_SameQueries_L1 a_b rest14 k13 = some R) ⟨_, 0, _, rfl, eqA, rfl, entA, hF⟩ ?_)
 rintro m11 _ _ ⟨g12, k13, rest14, rfl, rfl, hd16, hE, hF⟩
 refine Kb hE a_a.Atoms (fun hbd21 => ?_)
 rcases rest14 with _ | ⟨x15, rest14⟩
 · have hk17 := dn hd16
   rw [s_SameQueries_L1] at hF
   iterate 8 refine au ?_
   refine CdF ?_
   iterate 8 refine au ?_
   cases hF
   exact Er ()
 obtain ⟨hk17, hx18, hd19⟩ := drop_cons hd16
 rw [s_SameQueries_L1] at hF
 iterate 8 refine au ?_
 refine CdT ?_
 iterate 2 refine au ?_
 obtain ⟨o22, hio22, hO23⟩ := bind_some hF
 refine K_draw [0, 1, 2, 3, 4, 5, 6, 7, 8, 9, 10, 11, 12, 13, 14, 15, 16, 17, 18, 19, 20, 21, 22, 23, 24, 25, 26, 27, 28] [0, 1, 0, 7, 15, 31, 0, 64, 0, 448, 960, 1984, 4095, 8191, 16383, 32767, 16383, 131071, 262143, 524287, 16383, 1064959, 16383, 7356415, 15745023, 32522239, 67108863, 134217727, 268435455] [26] mixed (by decide +kernel) ?_
 refine D_cut (fun f' cs' => ∃ (c46 : Bool) (g : Fr), c46 = o22 ∧ f' = updL g [(2, (pz k1)), (3, (pz k2)), (5, (.int .i64 (k13 : Int))), (56, (.bool c46))] ∧ Ent cs' [cboR k1 27 (.agg [v0_0.v, v0_1.v].toArray), crd (RdS 3 rdInt) v0_0.v a_a.Head, crd (RdS 78 rd78) v0_1.v a_a.Atoms, cboR k2 27 (.agg [v1_0.v, v1_1.v].toArray), crd (RdS 3 rdInt) v1_0.v a_b.Head, crd (RdS 78 rd78) v1_1.v a_b.Atoms]) ?_ ?_
 · replace hF := hio22
   iterate 3 refine du ?_
   refine Di hx18 (fun k24 j25 => ?_)
   refine du ?_
   refine Dl ls78_0 ?_
   iterate 3 refine du ?_
   refine bnd hF fun x26 hx27 hF => ?_
   obtain ⟨hp28, hx29⟩ := ix_some hx27
   refine Di hx29 (fun k30 j31 => ?_)
   refine du ?_
   refine Dl ls78_0 ?_
   iterate 2 refine du ?_
   rcases Bool.eq_false_or_eq_true ((x15.Rel : Int) != x26.Rel) with hg32 | hg32
   · rw [hg32]
     try rw [hg32] at hF; dsimp only [cond_true, cond_false] at hF
     iterate 16 refine du ?_
     cases hF
     exact ⟨_, _, rfl, eqA, entA⟩
   rw [hg32]
   try rw [hg32] at hF; dsimp only [cond_true, cond_false] at hF
   iterate 3 refine du ?_
   refine Di hx18 (fun k33 j34 => ?_)
   refine du ?_
   refine D_ldV (R' := (RdS 3 rdInt)) ag24.h rfl (.on 41 rfl rfl rfl) (.tmp rfl rfl) rfl .h lv78_1 (fun w35 => ?_)
   iterate 3 refine du ?_
   refine bnd hF fun x36 hx37 hF => ?_
   obtain ⟨hp38, hx39⟩ := ix_some hx37
   refine Di hx39 (fun k40 j41 => ?_)
   refine du ?_
   refine D_ldV (R' := (RdS 3 rdInt)) ag24.h rfl (.on 41 rfl rfl rfl) (.tmp rfl rfl) rfl .h lv78_1 (fun w42 => ?_)
   refine bnd hF fun r43 hx44 hF => Dx0 (s_l2Ints_ok _ _ _ _ _ hx44) (fun _ => ?_)
   iterate 3 refine du ?_
   cases hF
   exact ⟨_, _, rfl, eqA, entA⟩
 rintro _ _ ⟨c46, g49, rfl, rfl, hE⟩
 replace hF := hO23
 try dsimp only at hF
 refine K_ent hE ?_
 refine Ci hF (fun hb48 hF => ?_) (fun hb48 hF => ?_)
 · iterate 4 refine au ?_
   cases hF
   exact Er ()
 iterate 6 refine au ?_
 rw [wk k13]
 exact ⟨_, Nat.lt_succ_self _, _, k13 + 1, rest14, rfl, eqA, hd19, entA, hF⟩
def s_IsTerm (a_t : Int) : Option (Bool) :=
 ((s_l1In a_t 0 9).bind fun r3 =>
   bif r3 then (some true)
   else ((s_IsVar a_t).bind fun r7 =>
     some r7)).bind fun o1 =>
 match o1 with
 | c10 => some c10
theorem s_IsTerm_ok (a_t : Int) (R : Bool) (hF : s_IsTerm a_t = some R) :
   Fw.Spec Tryz.prog 105 [(.int .i64 a_t)] [] (fun _ : Unit => (.bool R)) (fun _ => []) := by
 refine Se 9 Tryz.func105 [.tmp 2] ?_
 intro H0 F0
 unfold s_IsTerm at hF
 iterate 3 refine au ?_
 obtain ⟨o1, hio1, hO2⟩ := bind_some hF
 refine au ?_
 refine C_cut (fun f' cs' => ∃ (c10 : Bool) (g : Fr), c10 = o1 ∧ f' = updL g [(2, (.bool c10))] ∧ Ent cs' []) ?_ ?_
 · replace hF := hio1
   refine au ?_
   refine bnd hF fun r3 hx4 hF => Cx0 (s_l1In_ok _ _ _ _ hx4) (fun _ => ?_)
   refine au ?_
   rcases Bool.eq_false_or_eq_true r3 with hg6 | hg6
   · rw [hg6]
     try rw [hg6] at hF; dsimp only [cond_true, cond_false] at hF
     iterate 5 refine au ?_
     cases hF
     exact ⟨_, _, rfl, eqA, entA⟩
   rw [hg6]
   try rw [hg6] at hF; dsimp only [cond_true, cond_false] at hF
   iterate 3 refine au ?_
   refine bnd hF fun r7 hx8 hF => Cx0 (s_IsVar_ok _ _ hx8) (fun _ => ?_)
   iterate 3 refine au ?_
   cases hF
   exact ⟨_, _, rfl, eqA, entA⟩
 rintro _ _ ⟨c10, g11, rfl, rfl, hE⟩
 replace hF := hO2
 try dsimp only at hF
 refine K_ent hE ?_
 refine au ?_
 cases hF
 exact Er ()
def s_IsAtom_L1 : List Int → Nat → Option (Bool)
 | [], k22 => some true
 | x24 :: rest23, k22 => (s_IsTerm x24).bind fun r33 =>
   if (!r33) then (
     some false)
   else (
     s_IsAtom_L1 rest23 (k22 + 1))
def s_IsAtom (a_s : List Int) (a_a : Atom) : Option (Bool) :=
 ((s_IsSchema a_s).bind fun r4 =>
   bif (!r4) then (some true)
   else ((s_l1In a_a.Rel 0 (IntKind.i64.wrap ((a_s.length : Int) - 1))).bind fun r8 =>
     bif (!r8) then (some true)
     else ((ix a_s a_a.Rel).bind fun x12 =>
       some (((a_a.Terms.length : Int) : Int) != x12)))).bind fun o2 =>
 match o2 with
 | c18 => if c18 then (
     some false)
   else (
     s_IsAtom_L1 a_a.Terms 0)
theorem s_IsAtom_ok (a_s : List Int) (v0_0 : Sv) (a_a : Atom) (v1_1 : Sv) (R : Bool) (hF : s_IsAtom a_s a_a = some R) :
   Fw.Spec Tryz.prog 52 [v0_0.v, (.agg [(.int .i64 a_a.Rel), v1_1.v].toArray)] [crd (RdS 3 rdInt) v0_0.v a_s, crd (RdS 3 rdInt) v1_1.v a_a.Terms] (fun _ : Unit => (.bool R)) (fun _ => []) := by
 refine Se 43 Tryz.func52 [.tmp 4] ?_
 intro H0 F0
 unfold s_IsAtom at hF
 refine au ?_
 refine AbR (fun k1 => ?_)
 iterate 3 refine au ?_
 obtain ⟨o2, hio2, hO3⟩ := bind_some hF
 refine K_draw [0, 1, 2, 3, 4, 5, 6, 7, 8, 9, 10, 11, 12, 13, 14, 15, 16, 17, 18, 19, 20, 21, 22] [0, 1, 3, 7, 15, 31, 15, 79, 207, 511, 1023, 2047, 4095, 8191, 16383, 32767, 8191, 8191, 139263, 466943, 991231, 2097151, 4194303] [1, 9] mixed (by decide +kernel) ?_
 refine D_cut (fun f' cs' => ∃ (c18 : Bool) (g : Fr), c18 = o2 ∧ f' = updL g [(3, (pz k1)), (28, (.bool c18))] ∧ Ent cs' [cboR k1 78 (.agg [(.int .i64 a_a.Rel), v1_1.v].toArray), crd (RdS 3 rdInt) v1_1.v a_a.Terms]) ?_ ?_
 · replace hF := hio2
   refine du ?_
   refine bnd hF fun r4 hx5 hF => Dx0 (s_IsSchema_ok _ _ _ hx5) (fun _ => ?_)
   iterate 2 refine du ?_
   rcases Bool.eq_false_or_eq_true (!r4) with hg7 | hg7
   · rw [hg7]
     try rw [hg7] at hF; dsimp only [cond_true, cond_false] at hF
     iterate 20 refine du ?_
     cases hF
     exact ⟨_, _, rfl, eqA, entA⟩
   rw [hg7]
   try rw [hg7] at hF; dsimp only [cond_true, cond_false] at hF
   iterate 5 refine du ?_
   refine bnd hF fun r8 hx9 hF => Dx0 (s_l1In_ok _ _ _ _ hx9) (fun _ => ?_)
   iterate 3 refine du ?_
   rcases Bool.eq_false_or_eq_true (!r8) with hg11 | hg11
   · rw [hg11]
     try rw [hg11] at hF; dsimp only [cond_true, cond_false] at hF
     iterate 11 refine du ?_
     cases hF
     exact ⟨_, _, rfl, eqA, entA⟩
   rw [hg11]
   try rw [hg11] at hF; dsimp only [cond_true, cond_false] at hF
   iterate 6 refine du ?_
   refine bnd hF fun x12 hx13 hF => ?_
   obtain ⟨hp14, hx15⟩ := ix_some hx13
   refine Di hx15 (fun k16 j17 => ?_)
   refine Dl ls3_0 ?_
   iterate 3 refine du ?_
   cases hF
   exact ⟨_, _, rfl, eqA, entA⟩
 rintro _ _ ⟨c18, g39, rfl, rfl, hE⟩
 replace hF := hO3
 try dsimp only at hF
 refine K_ent hE ?_
 refine Ci hF (fun hb38 hF => ?_) (fun hb38 hF => ?_)
 · iterate 4 refine au ?_
   cases hF
   exact Er ()
 iterate 5 refine au ?_
 refine CW_block (CW_loop (m := a_a.Terms.length) (fun m20 f' cs' => ∃ (g : Fr) (k22 : Nat) (rest23 : List Int), m20 = rest23.length ∧ f' = updL g [(3, (pz k1)), (5, (.int .i64 (k22 : Int)))] ∧ List.drop k22 a_a.Terms = rest23 ∧ Ent cs' [cboR k1 78 (.agg [(.int .i64 a_a.Rel), v1_1.v].toArray), crd (RdS 3 rdInt) v1_1.v a_a.Terms] ∧ s_IsAtom_L1 rest23 k22 = some R) ⟨_, 0, _, rfl, eqA, rfl, entA, hF⟩ ?_)
 rintro m20 _ _ ⟨g21, k22, rest23, rfl, rfl, hd25, hE, hF⟩
 refine Kb hE a_a.Terms (fun hbd30 => ?_)
 rcases rest23 with _ | ⟨x24, rest23⟩
 · have hk26 := dn hd25
   rw [s_IsAtom_L1] at hF
   iterate 8 refine au ?_
   refine CdF ?_
   iterate 8 refine au ?_
   cases hF
   exact Er ()
 obtain ⟨hk26, hx27, hd28⟩ := drop_cons hd25
 rw [s_IsAtom_L1] at hF
 iterate 8 refine au ?_
 refine CdT ?_
 iterate 6 refine au ?_
 refine Ai hx27 (fun k31 j32 => ?_)
 refine Al ls3_0 ?_
 refine bnd hF fun r33 hx34 hF => Cx0 (s_IsTerm_ok _ _ hx34) (fun _ => ?_)
 iterate 2 refine au ?_
 refine Ci hF (fun hb37 hF => ?_) (fun hb37 hF => ?_)
 · iterate 4 refine au ?_
   cases hF
   exact Er ()
 iterate 6 refine au ?_
 rw [wk k22]
 exact ⟨_, Nat.lt_succ_self _, _, k22 + 1, rest23, rfl, eqA, hd28, entA, hF⟩
def s_IsQuery_L2 (a_s : List Int) (a_q : Query) (r14 : (List Int)) : List Int → Nat → Option (Bool)
 | [], k20 => ((s_IsSchema a_s).bind fun r31 =>
     bif r31 then ((s_l1In (a_q.Atoms.length : Int) 1 4).bind fun r35 =>
       bif r35 then (some (decide (((a_q.Head.length : Int) : Int) ≤ 3)))
       else (some false))
     else (some false)).bind fun o29 =>
   match o29 with
   | c39 => some c39
 | x22 :: rest21, k20 => (s_l2Has r14 x22).bind fun r43 =>
   if (!r43) then (
     some false)
   else (
     s_IsQuery_L2 a_s a_q r14 rest21 (k20 + 1))
def s_IsQuery_L1 (a_s : List Int) (a_q : Query) : List Atom → Nat → Option (Bool)
 | [], k5 => (s_VarsOf a_q).bind fun r14 =>
   s_IsQuery_L2 a_s a_q r14 a_q.Head 0
 | x7 :: rest6, k5 => (s_IsAtom a_s x7).bind fun r51 =>
   if (!r51) then (
     some false)
   else (
     s_IsQuery_L1 a_s a_q rest6 (k5 + 1))
def s_IsQuery (a_s : List Int) (a_q : Query) : Option (Bool) :=
 s_IsQuery_L1 a_s a_q a_q.Atoms 0
theorem s_IsQuery_ok (a_s : List Int) (v0_0 : Sv) (a_q : Query) (v1_0 : Sv) (v1_1 : Sv) (R : Bool) (hF : s_IsQuery a_s a_q = some R) :
   Fw.Spec Tryz.prog 14 [v0_0.v, (.agg [v1_0.v, v1_1.v].toArray)] [crd (RdS 3 rdInt) v0_0.v a_s, crd (RdS 3 rdInt) v1_0.v a_q.Head, crd (RdS 78 rd78) v1_1.v a_q.Atoms] (fun _ : Unit => (.bool R)) (fun _ => []) := by
 refine Se 54 Tryz.func14 [.tmp 4] ?_
 intro H0 F0
 unfold s_IsQuery at hF
 refine au ?_
 refine AbR (fun k1 => ?_)
 iterate 6 refine au ?_
 refine CW_block (CW_loop (m := a_q.Atoms.length) (fun m3 f' cs' => ∃ (g : Fr) (k5 : Nat) (rest6 : List Atom), m3 = rest6.length ∧ f' = updL g [(0, v0_0.v), (3, (pz k1)), (5, (.int .i64 (k5 : Int)))] ∧ List.drop k5 a_q.Atoms = rest6 ∧ Ent cs' [crd (RdS 3 rdInt) v0_0.v a_s, cboR k1 27 (.agg [v1_0.v, v1_1.v].toArray), crd (RdS 3 rdInt) v1_0.v a_q.Head, crd (RdS 78 rd78) v1_1.v a_q.Atoms] ∧ s_IsQuery_L1 a_s a_q rest6 k5 = some R) ⟨_, 0, _, rfl, eqA, rfl, entA, hF⟩ ?_)
 rintro m3 _ _ ⟨g4, k5, rest6, rfl, rfl, hd8, hE, hF⟩
 refine Kb hE a_q.Atoms (fun hbd13 => ?_)
 rcases rest6 with _ | ⟨x7, rest6⟩
 · have hk9 := dn hd8
   rw [s_IsQuery_L1] at hF
   iterate 8 refine au ?_
   refine CdF ?_
   iterate 6 refine au ?_
   refine bnd hF fun r14 hx15 hF => Cx1 (s_VarsOf_ok _ _ _ _ hx15) (fun p16 => ?_)
   iterate 6 refine au ?_
   refine CW_block (CW_loop (m := a_q.Head.length) (fun m18 f' cs' => ∃ (g : Fr) (k20 : Nat) (rest21 : List Int), m18 = rest21.length ∧ f' = updL g [(0, v0_0.v), (3, (pz k1)), (6, p16.1.v), (7, (.int .i64 (k20 : Int)))] ∧ List.drop k20 a_q.Head = rest21 ∧ Ent cs' [crd (RdS 3 rdInt) v0_0.v a_s, cboR k1 27 (.agg [v1_0.v, v1_1.v].toArray), crd (RdS 3 rdInt) v1_0.v a_q.Head, crd (RdS 78 rd78) v1_1.v a_q.Atoms, cown (OwnS 3 (roE rdInt)) p16.2 p16.1.v r14] ∧ s_IsQuery_L2 a_s a_q r14 rest21 k20 = some R) ⟨_, 0, _, rfl, eqA, rfl, entA, hF⟩ ?_)
   rintro m18 _ _ ⟨g19, k20, rest21, rfl, rfl, hd23, hE, hF⟩
   refine Kb hE a_q.Head (fun hbd28 => ?_)
   rcases rest21 with _ | ⟨x22, rest21⟩
   · have hk24 := dn hd23
     rw [s_IsQuery_L2] at hF
     iterate 8 refine au ?_
     refine CdF ?_
     iterate 4 refine au ?_
     obtain ⟨o29, hio29, hO30⟩ := bind_some hF
     refine au ?_
     refine C_cut (fun f' cs' => ∃ (c39 : Bool) (g : Fr), c39 = o29 ∧ f' = updL g [(4, (.bool c39))] ∧ Ent cs' []) ?_ ?_
     · replace hF := hio29
       refine au ?_
       refine bnd hF fun r31 hx32 hF => Cx0 (s_IsSchema_ok _ _ _ hx32) (fun _ => ?_)
       refine au ?_
       rcases Bool.eq_false_or_eq_true r31 with hg34 | hg34
       · rw [hg34]
         try rw [hg34] at hF; dsimp only [cond_true, cond_false] at hF
         iterate 7 refine au ?_
         refine bnd hF fun r35 hx36 hF => Cx0 (s_l1In_ok _ _ _ _ hx36) (fun _ => ?_)
         iterate 2 refine au ?_
         rcases Bool.eq_false_or_eq_true r35 with hg38 | hg38
         · rw [hg38]
           try rw [hg38] at hF; dsimp only [cond_true, cond_false] at hF
           iterate 11 refine au ?_
           cases hF
           exact ⟨_, _, rfl, eqA, entA⟩
         rw [hg38]
         try rw [hg38] at hF; dsimp only [cond_true, cond_false] at hF
         iterate 7 refine au ?_
         cases hF
         exact ⟨_, _, rfl, eqA, entA⟩
       rw [hg34]
       try rw [hg34] at hF; dsimp only [cond_true, cond_false] at hF
       iterate 13 refine au ?_
       cases hF
       exact ⟨_, _, rfl, eqA, entA⟩
     rintro _ _ ⟨c39, g40, rfl, rfl, hE⟩
     replace hF := hO30
     try dsimp only at hF
     refine K_ent hE ?_
     refine au ?_
     cases hF
     exact Er ()
   obtain ⟨hk24, hx25, hd26⟩ := drop_cons hd23
   rw [s_IsQuery_L2] at hF
   iterate 8 refine au ?_
   refine CdT ?_
   iterate 7 refine au ?_
   refine Ai hx25 (fun k41 j42 => ?_)
   refine Al ls3_0 ?_
   refine bnd hF fun r43 hx44 hF => C_x1 (.cons (.t (.t (.t (.t (.t .h))))) .nil) (XC_bor frz_own (fun _ => .nil) (X_callS cf54.h (.cons (.tmp rfl rfl) (.cons (.tmp rfl rfl) .nil)) (s_l2Has_ok r14 p16.1 x22 _ hx44))) (fun _ => ?_)
   iterate 2 refine au ?_
   refine Ci hF (fun hb47 hF => ?_) (fun hb47 hF => ?_)
   · iterate 4 refine au ?_
     cases hF
     exact Er ()
   iterate 6 refine au ?_
   rw [wk k20]
   exact ⟨_, Nat.lt_succ_self _, _, k20 + 1, rest21, rfl, eqA, hd26, entA, hF⟩
 obtain ⟨hk9, hx10, hd11⟩ := drop_cons hd8
 rw [s_IsQuery_L1] at hF
 iterate 8 refine au ?_
 refine CdT ?_
 iterate 7 refine au ?_
 refine Ai hx10 (fun k48 j49 => ?_)
 refine AlA1 (ul78_0_78 x7) la78_0_78 (fun p50 => ?_)
 refine bnd hF fun r51 hx52 hF => Cx0 (s_IsAtom_ok _ _ _ _ _ hx52) (fun _ => ?_)
 iterate 2 refine au ?_
 refine Ci hF (fun hb55 hF => ?_) (fun hb55 hF => ?_)
 · iterate 4 refine au ?_
   cases hF
   exact Er ()
 iterate 6 refine au ?_
 rw [wk k5]
 exact ⟨_, Nat.lt_succ_self _, _, k5 + 1, rest6, rfl, eqA, hd11, entA, hF⟩
def s_IsFact_L1 : List Int → Nat → Option (Bool)
 | [], k22 => some true
 | x24 :: rest23, k22 => (s_l1In x24 0 9).bind fun r33 =>
   if (!r33) then (
     some false)
   else (
     s_IsFact_L1 rest23 (k22 + 1))
def s_IsFact (a_s : List Int) (a_f : Fact) : Option (Bool) :=
 ((s_IsSchema a_s).bind fun r4 =>
   bif (!r4) then (some true)
   else ((s_l1In a_f.Rel 0 (IntKind.i64.wrap ((a_s.length : Int) - 1))).bind fun r8 =>
     bif (!r8) then (some true)
     else ((ix a_s a_f.Rel).bind fun x12 =>
       some (((a_f.Values.length : Int) : Int) != x12)))).bind fun o2 =>
 match o2 with
 | c18 => if c18 then (
     some false)
   else (
     s_IsFact_L1 a_f.Values 0)
theorem s_IsFact_ok (a_s : List Int) (v0_0 : Sv) (a_f : Fact) (v1_1 : Sv) (R : Bool) (hF : s_IsFact a_s a_f = some R) :
   Fw.Spec Tryz.prog 56 [v0_0.v, (.agg [(.int .i64 a_f.Rel), v1_1.v].toArray)] [crd (RdS 3 rdInt) v0_0.v a_s, crd (RdS 3 rdInt) v1_1.v a_f.Values] (fun _ : Unit => (.bool R)) (fun _ => []) := by
 refine Se 43 Tryz.func56 [.tmp 4] ?_
 intro H0 F0
 unfold s_IsFact at hF
 refine au ?_
 refine AbR (fun k1 => ?_)
 iterate 3 refine au ?_
 obtain ⟨o2, hio2, hO3⟩ := bind_some hF
 refine K_draw [0, 1, 2, 3, 4, 5, 6, 7, 8, 9, 10, 11, 12, 13, 14, 15, 16, 17, 18, 19, 20, 21, 22] [0, 1, 3, 7, 15, 31, 15, 79, 207, 511, 1023, 2047, 4095, 8191, 16383, 32767, 8191, 8191, 139263, 466943, 991231, 2097151, 4194303] [1, 9] mixed (by decide +kernel) ?_
 refine D_cut (fun f' cs' => ∃ (c18 : Bool) (g : Fr), c18 = o2 ∧ f' = updL g [(3, (pz k1)), (28, (.bool c18))] ∧ Ent cs' [cboR k1 58 (.agg [(.int .i64 a_f.Rel), v1_1.v].toArray), crd (RdS 3 rdInt) v1_1.v a_f.Values]) ?_ ?_
 · replace hF := hio2
   refine du ?_
   refine bnd hF fun r4 hx5 hF => Dx0 (s_IsSchema_ok _ _ _ hx5) (fun _ => ?_)
   iterate 2 refine du ?_
   rcases Bool.eq_false_or_eq_true (!r4) with hg7 | hg7
   · rw [hg7]
     try rw [hg7] at hF; dsimp only [cond_true, cond_false] at hF
     iterate 20 refine du ?_
     cases hF
     exact ⟨_, _, rfl, eqA, entA⟩
   rw [hg7]
   try rw [hg7] at hF; dsimp only [cond_true, cond_false] at hF
   iterate 5 refine du ?_
   refine bnd hF fun r8 hx9 hF => Dx0 (s_l1In_ok _ _ _ _ hx9) (fun _ => ?_)
   iterate 3 refine du ?_
   rcases Bool.eq_false_or_eq_true (!r8) with hg11 | hg11
   · rw [hg11]
     try rw [hg11] at hF; dsimp only [cond_true, cond_false] at hF
     iterate 11 refine du ?_
     cases hF
     exact ⟨_, _, rfl, eqA, entA⟩
   rw [hg11]
   try rw [hg11] at hF; dsimp only [cond_true, cond_false] at hF
   iterate 6 refine du ?_
   refine bnd hF fun x12 hx13 hF => ?_
   obtain ⟨hp14, hx15⟩ := ix_some hx13
   refine Di hx15 (fun k16 j17 => ?_)
   refine Dl ls3_0 ?_
   iterate 3 refine du ?_
   cases hF
   exact ⟨_, _, rfl, eqA, entA⟩
 rintro _ _ ⟨c18, g39, rfl, rfl, hE⟩
 replace hF := hO3
 try dsimp only at hF
 refine K_ent hE ?_
 refine Ci hF (fun hb38 hF => ?_) (fun hb38 hF => ?_)
 · iterate 4 refine au ?_
   cases hF
   exact Er ()
 iterate 5 refine au ?_
 refine CW_block (CW_loop (m := a_f.Values.length) (fun m20 f' cs' => ∃ (g : Fr) (k22 : Nat) (rest23 : List Int), m20 = rest23.length ∧ f' = updL g [(3, (pz k1)), (5, (.int .i64 (k22 : Int)))] ∧ List.drop k22 a_f.Values = rest23 ∧ Ent cs' [cboR k1 58 (.agg [(.int .i64 a_f.Rel), v1_1.v].toArray), crd (RdS 3 rdInt) v1_1.v a_f.Values] ∧ s_IsFact_L1 rest23 k22 = some R) ⟨_, 0, _, rfl, eqA, rfl, entA, hF⟩ ?_)
 rintro m20 _ _ ⟨g21, k22, rest23, rfl, rfl, hd25, hE, hF⟩
 refine Kb hE a_f.Values (fun hbd30 => ?_)
 rcases rest23 with _ | ⟨x24, rest23⟩
 · have hk26 := dn hd25
   rw [s_IsFact_L1] at hF
   iterate 8 refine au ?_
   refine CdF ?_
   iterate 8 refine au ?_
   cases hF
   exact Er ()
 obtain ⟨hk26, hx27, hd28⟩ := drop_cons hd25
 rw [s_IsFact_L1] at hF
 iterate 8 refine au ?_
 refine CdT ?_
 iterate 6 refine au ?_
 refine Ai hx27 (fun k31 j32 => ?_)
 refine Al ls3_0 ?_
 refine bnd hF fun r33 hx34 hF => Cx0 (s_l1In_ok _ _ _ _ hx34) (fun _ => ?_)
 iterate 2 refine au ?_
 refine Ci hF (fun hb37 hF => ?_) (fun hb37 hF => ?_)
 · iterate 4 refine au ?_
   cases hF
   exact Er ()
 iterate 6 refine au ?_
 rw [wk k22]
 exact ⟨_, Nat.lt_succ_self _, _, k22 + 1, rest23, rfl, eqA, hd28, entA, hF⟩
def s_AreFacts_L1 (a_s : List Int) (a_l : List Fact) : List Fact → Nat → Option (Bool)
 | [], k4 => ((s_IsSchema a_s).bind fun r15 =>
     bif r15 then (some (decide (((a_l.length : Int) : Int) ≤ 24)))
     else (some false)).bind fun o13 =>
   match o13 with
   | c19 => some c19
 | x6 :: rest5, k4 => ((s_IsFact a_s x6).bind fun r26 =>
     bif (!r26) then (some true)
     else (bif (decide ((0 : Int) < (k4 : Int))) then ((ix a_l (IntKind.i64.wrap ((k4 : Int) - 1))).bind fun x31 =>
         (s_CompareFacts x31 x6).bind fun r41 =>
         some (decide ((0 : Int) ≤ r41)))
       else (some false))).bind fun o21 =>
   match o21 with
   | c44 => if c44 then (
       some false)
     else (
       s_AreFacts_L1 a_s a_l rest5 (k4 + 1))
def s_AreFacts (a_s : List Int) (a_l : List Fact) : Option (Bool) :=
 s_AreFacts_L1 a_s a_l a_l 0
theorem s_AreFacts_ok (a_s : List Int) (v0_0 : Sv) (a_l : List Fact) (v1_0 : Sv) (R : Bool) (hF : s_AreFacts a_s a_l = some R) :
   Fw.Spec Tryz.prog 15 [v0_0.v, v1_0.v] [crd (RdS 3 rdInt) v0_0.v a_s, crd (RdS 58 rd58) v1_0.v a_l] (fun _ : Unit => (.bool R)) (fun _ => []) := by
 refine Se 43 Tryz.func15 [.tmp 4] ?_
 intro H0 F0
 unfold s_AreFacts at hF
 iterate 7 refine au ?_
 refine CW_block (CW_loop (m := a_l.length) (fun m2 f' cs' => ∃ (g : Fr) (k4 : Nat) (rest5 : List Fact), m2 = rest5.length ∧ f' = updL g [(0, v0_0.v), (1, v1_0.v), (5, (.int .i64 (k4 : Int)))] ∧ List.drop k4 a_l = rest5 ∧ Ent cs' [crd (RdS 3 rdInt) v0_0.v a_s, crd (RdS 58 rd58) v1_0.v a_l] ∧ s_AreFacts_L1 a_s a_l rest5 k4 = some R) ⟨_, 0, _, rfl, eqA, rfl, entA, hF⟩ ?_)
 rintro m2 _ _ ⟨g3, k4, rest5, rfl, rfl, hd7, hE, hF⟩
 refine Kb hE a_l (fun hbd12 => ?_)
 rcases rest5 with _ | ⟨x6, rest5⟩
 · have hk8 := dn hd7
   rw [s_AreFacts_L1] at hF
   iterate 7 refine au ?_
   refine CdF ?_
   iterate 4 refine au ?_
   obtain ⟨o13, hio13, hO14⟩ := bind_some hF
   refine au ?_
   refine C_cut (fun f' cs' => ∃ (c19 : Bool) (g : Fr), c19 = o13 ∧ f' = updL g [(4, (.bool c19))] ∧ Ent cs' []) ?_ ?_
   · replace hF := hio13
     refine au ?_
     refine bnd hF fun r15 hx16 hF => Cx0 (s_IsSchema_ok _ _ _ hx16) (fun _ => ?_)
     refine au ?_
     rcases Bool.eq_false_or_eq_true r15 with hg18 | hg18
     · rw [hg18]
       try rw [hg18] at hF; dsimp only [cond_true, cond_false] at hF
       iterate 9 refine au ?_
       cases hF
       exact ⟨_, _, rfl, eqA, entA⟩
     rw [hg18]
     try rw [hg18] at hF; dsimp only [cond_true, cond_false] at hF
     iterate 6 refine au ?_
     cases hF
     exact ⟨_, _, rfl, eqA, entA⟩
   rintro _ _ ⟨c19, g20, rfl, rfl, hE⟩
   replace hF := hO14
   try dsimp only at hF
   refine K_ent hE ?_
   refine au ?_
   cases hF
   exact Er ()
 obtain ⟨hk8, hx9, hd10⟩ := drop_cons hd7
 rw [s_AreFacts_L1] at hF
 iterate 7 refine au ?_
 refine CdT ?_
 iterate 2 refine au ?_
 obtain ⟨o21, hio21, hO22⟩ := bind_some hF
 refine K_draw [0, 1, 2, 3, 4, 5, 6, 7, 8, 9, 10, 11, 12, 13, 14, 15, 16, 17, 18, 19, 20, 21, 22, 23] [0, 0, 0, 6, 14, 31, 63, 127, 255, 511, 1023, 2047, 2047, 6143, 16383, 32767, 2047, 2047, 198655, 460799, 1048575, 2097151, 4194303, 8388607] [5, 20] mixed (by decide +kernel) ?_
 refine D_cut (fun f' cs' => ∃ (c44 : Bool) (g : Fr), c44 = o21 ∧ f' = updL g [(0, v0_0.v), (1, v1_0.v), (5, (.int .i64 (k4 : Int))), (35, (.bool c44))] ∧ Ent cs' [crd (RdS 3 rdInt) v0_0.v a_s, crd (RdS 58 rd58) v1_0.v a_l]) ?_ ?_
 · replace hF := hio21
   iterate 3 refine du ?_
   refine Di hx9 (fun k23 j24 => ?_)
   refine DlA1 (ul58_0_58 x6) la58_0_58 (fun p25 => ?_)
   refine bnd hF fun r26 hx27 hF => Dx0 (s_IsFact_ok _ _ _ _ _ hx27) (fun _ => ?_)
   iterate 2 refine du ?_
   rcases Bool.eq_false_or_eq_true (!r26) with hg29 | hg29
   · rw [hg29]
     try rw [hg29] at hF; dsimp only [cond_true, cond_false] at hF
     iterate 17 refine du ?_
     cases hF
     exact ⟨_, _, rfl, eqA, entA⟩
   rw [hg29]
   try rw [hg29] at hF; dsimp only [cond_true, cond_false] at hF
   iterate 3 refine du ?_
   rcases Bool.eq_false_or_eq_true (decide ((0 : Int) < (k4 : Int))) with hg30 | hg30
   · rw [hg30]
     try rw [hg30] at hF; dsimp only [cond_true, cond_false] at hF
     iterate 3 refine du ?_
     refine bnd hF fun x31 hx32 hF => ?_
     obtain ⟨hp33, hx34⟩ := ix_some hx32
     refine Di hx34 (fun k35 j36 => ?_)
     refine DlA1 (ul58_0_58 x31) la58_0_58 (fun p37 => ?_)
     iterate 2 refine du ?_
     refine Di hx9 (fun k38 j39 => ?_)
     refine DlA1 (ul58_0_58 x6) la58_0_58 (fun p40 => ?_)
     refine bnd hF fun r41 hx42 hF => Dx0 (s_CompareFacts_ok _ _ _ _ _ hx42) (fun _ => ?_)
     iterate 4 refine du ?_
     cases hF
     exact ⟨_, _, rfl, eqA, entA⟩
   rw [hg30]
   try rw [hg30] at hF; dsimp only [cond_true, cond_false] at hF
   iterate 14 refine du ?_
   cases hF
   exact ⟨_, _, rfl, eqA, entA⟩
 rintro _ _ ⟨c44, g47, rfl, rfl, hE⟩
 replace hF := hO22
 try dsimp only at hF
 refine K_ent hE ?_
 refine Ci hF (fun hb46 hF => ?_) (fun hb46 hF => ?_)
 · iterate 4 refine au ?_
   cases hF
   exact Er ()
 iterate 6 refine au ?_
 rw [wk k4]
 exact ⟨_, Nat.lt_succ_self _, _, k4 + 1, rest5, rfl, eqA, hd10, entA, hF⟩
def s_l4Copy (a_b : Binding) : Option (Binding) :=
 (app ([] : List Int) a_b.Vars).bind fun z5 =>
 (app ([] : List Int) a_b.Values).bind fun z8 =>
 some ({ Vars := z5, Values := z8 } : Binding)
theorem s_l4Copy_ok (a_b : Binding) (v0_0 : Sv) (v0_1 : Sv) (R : Binding) (hF : s_l4Copy a_b = some R) :
   Fw.Spec Tryz.prog 182 [(.agg [v0_0.v, v0_1.v].toArray)] [crd (RdS 3 rdInt) v0_0.v a_b.Vars, crd (RdS 3 rdInt) v0_1.v a_b.Values] (fun p : Sv × List Nat × Sv × List Nat => (.agg [p.1.v, p.2.2.1.v].toArray)) (fun p => [cown (OwnS 3 (roE rdInt)) p.2.1 p.1.v R.Vars, cown (OwnS 3 (roE rdInt)) p.2.2.2 p.2.2.1.v R.Values]) := by
 refine Se 12 Tryz.func182 [.cell 2 127] ?_
 intro H0 F0
 unfold s_l4Copy at hF
 refine au ?_
 refine AbR (fun k1 => ?_)
 refine AnW (fun k2 => ?_)
 refine au ?_
 refine K_draw [0, 1, 2, 4, 5, 6, 3, 7, 8, 9] [0, 0, 2, 7, 0, 0, 32, 127, 255, 511] [3, 7, 9] mixed (by decide +kernel) ?_
 refine D_new rfl .no rfl (fun ha => N_buildSliceT (g := true) (len := 0) (parts := []) sl24.h ty3.h .nil (vs := []) rfl rfl rfl (by simp)) (fun k3 => ?_)
 refine Dv1 (.cons .h .nil) (own_lit (Ro := (roE rdInt)) (E := 3) (F := []) (xs := ([] : List Int)) MkL_nil rfl rfl) ?_
 iterate 2 refine du ?_
 refine D_new rfl .no rfl (fun ha => N_buildSliceT (g := true) (len := 0) (parts := []) sl24.h ty3.h .nil (vs := []) rfl rfl rfl (by simp)) (fun k4 => ?_)
 refine Dv1 (.cons .h .nil) (own_lit (Ro := (roE rdInt)) (E := 3) (F := []) (xs := ([] : List Int)) MkL_nil rfl rfl) ?_
 iterate 2 refine du ?_
 refine bnd hF fun z5 hx6 hF => D_act1 rfl rfl .no (.cons (.t .h) (.rd (.t (.t (.t .h))) rfl .nil)) (.own .h (by simp [cown]) (.dep rfl .nil)) (fun ha => X_appendO (Ro := (roE rdInt)) sl24.h ni24 ty3.h rfl rfl rfl (EN ha (.tmp rfl rfl) rfl) (EN ha (.tmp rfl rfl) rfl) hx6 src_rd) (fun p7 => ?_)
 refine bnd hF fun z8 hx9 hF => D_act1 rfl rfl .no (.cons (.t .h) (.rd (.t (.t (.t (.t .h)))) rfl .nil)) (.dep rfl (.dep rfl .nil)) (fun ha => X_appendO (Ro := (roE rdInt)) sl24.h ni24 ty3.h rfl rfl rfl (EN ha (.tmp rfl rfl) rfl) (EN ha (.tmp rfl rfl) rfl) hx9 src_rd) (fun p10 => ?_)
 refine D_val rfl .no (fun ha => V_build ty127.h rfl (vs := [p7.1.v, p10.1.v]) (.cons (EN ha (.tmp rfl rfl) rfl) (.cons (EN ha (.tmp rfl rfl) rfl) .nil)) (cells := [p7.1.v, p10.1.v]) rfl) ?_
 refine D_act1 rfl rfl .no (.cons (.t (.t .h)) .nil) (.dep rfl (.dep rfl .nil)) (fun ha => X_storeB (e' := (.agg [p7.1.v, p10.1.v].toArray)) (v := (.agg [p7.1.v, p10.1.v].toArray)) ty127.h.sz (EN ha (.tmp rfl rfl) rfl) (EN ha (.tmp rfl rfl) rfl) rfl rfl rfl rfl rfl) (fun _ => ?_)
 refine du ?_
 refine au ?_
 cases hF
 exact Er (p7.1, p7.2, p10.1, p10.2)
def s_ValueOf_L1 (a_b : Binding) (a_term : Int) : Nat → Int → Option (Int)
 | 0, _ => none
 | m6 + 1, c5 => if ((decide ((c5 : Int) < (a_b.Vars.length : Int))) && (decide ((c5 : Int) < (a_b.Values.length : Int)))) then (
     (ix a_b.Vars c5).bind fun x16 =>
     if ((x16 : Int) == a_term) then (
       (ix a_b.Values c5).bind fun x22 =>
       some x22)
     else (
       s_ValueOf_L1 a_b a_term m6 (IntKind.i64.wrap (c5 + 1))))
   else (
     some (-1))
def s_ValueOf (a_b : Binding) (a_term : Int) : Option (Int) :=
 (s_IsVar a_term).bind fun r2 =>
 if (!r2) then (
   some a_term)
 else (
   s_ValueOf_L1 a_b a_term (((a_b.Vars.length : Int) - 0).toNat + 2) 0)
theorem s_ValueOf_ok (a_b : Binding) (v0_0 : Sv) (v0_1 : Sv) (a_term : Int) (R : Int) (hF : s_ValueOf a_b a_term = some R) :
   Fw.Spec Tryz.prog 107 [(.agg [v0_0.v, v0_1.v].toArray), (.int .i64 a_term)] [crd (RdS 3 rdInt) v0_0.v a_b.Vars, crd (RdS 3 rdInt) v0_1.v a_b.Values] (fun _ : Unit => (.int .i64 R)) (fun _ => []) := by
 refine Se 36 Tryz.func107 [.tmp 4] ?_
 intro H0 F0
 unfold s_ValueOf at hF
 refine au ?_
 refine AbR (fun k1 => ?_)
 iterate 5 refine au ?_
 refine bnd hF fun r2 hx3 hF => Cx0 (s_IsVar_ok _ _ hx3) (fun _ => ?_)
 iterate 2 refine au ?_
 refine Ci hF (fun hb30 hF => ?_) (fun hb30 hF => ?_)
 · iterate 5 refine au ?_
   cases hF
   exact Er ()
 iterate 5 refine au ?_
 refine CW_block (CW_loop (m := (((a_b.Vars.length : Int) - 0).toNat + 2)) (fun m6 f' cs' => ∃ (g : Fr) (c5 : Int), f' = updL g [(1, (.int .i64 a_term)), (2, (pz k1)), (5, (.int .i64 c5))] ∧ Ent cs' [cboR k1 127 (.agg [v0_0.v, v0_1.v].toArray), crd (RdS 3 rdInt) v0_0.v a_b.Vars, crd (RdS 3 rdInt) v0_1.v a_b.Values] ∧ s_ValueOf_L1 a_b a_term m6 c5 = some R) ⟨_, _, eqA, entA, hF⟩ ?_)
 rintro m6 _ _ ⟨g7, c5, rfl, hE, hF⟩
 refine K_ent hE ?_
 rcases m6 with _ | m6
 · rw [s_ValueOf_L1] at hF
   exact absurd hF (by simp)
 rw [s_ValueOf_L1] at hF
 iterate 2 refine au ?_
 refine C_cut (fun f' cs' => ∃ (g : Fr), f' = updL g [(1, (.int .i64 a_term)), (2, (pz k1)), (5, (.int .i64 c5)), (21, (.bool ((decide ((c5 : Int) < (a_b.Vars.length : Int))) && (decide ((c5 : Int) < (a_b.Values.length : Int))))))] ∧ Ent cs' [cboR k1 127 (.agg [v0_0.v, v0_1.v].toArray), crd (RdS 3 rdInt) v0_0.v a_b.Vars, crd (RdS 3 rdInt) v0_1.v a_b.Values]) ?_ ?_
 · iterate 6 refine au ?_
   rcases Bool.eq_false_or_eq_true (decide ((c5 : Int) < (a_b.Vars.length : Int))) with hg14 | hg14
   · rw [hg14]
     try rw [hg14] at hF; dsimp only [cond_true, cond_false] at hF
     iterate 12 refine au ?_
     exact ⟨_, eqA, entA⟩
   rw [hg14]
   try rw [hg14] at hF; dsimp only [cond_true, cond_false] at hF
   iterate 7 refine au ?_
   exact ⟨_, eqA, entA⟩
 rintro _ _ ⟨g15, rfl, hE⟩
 refine K_ent hE ?_
 refine Ci hF (fun hb29 hF => ?_) (fun hb29 hF => ?_)
 · iterate 6 refine au ?_
   refine bnd hF fun x16 hx17 hF => ?_
   obtain ⟨hp18, hx19⟩ := ix_some hx17
   refine Ai hx19 (fun k20 j21 => ?_)
   refine Al ls3_0 ?_
   iterate 3 refine au ?_
   refine Ci hF (fun hb28 hF => ?_) (fun hb28 hF => ?_)
   · iterate 4 refine au ?_
     refine bnd hF fun x22 hx23 hF => ?_
     obtain ⟨hp24, hx25⟩ := ix_some hx23
     refine Ai hx25 (fun k26 j27 => ?_)
     refine Al ls3_0 ?_
     iterate 3 refine au ?_
     cases hF
     exact Er ()
   iterate 6 refine au ?_
   exact ⟨m6, Nat.lt_succ_self _, _, _, eqA, entA, hF⟩
 iterate 8 refine au ?_
 cases hF
 exact Er ()
def s_l4Bound_L1 (a_b : Binding) (a_v : Int) : Nat → Int → Option (Bool)
 | 0, _ => none
 | m3 + 1, c2 => if ((decide ((c2 : Int) < (a_b.Vars.length : Int))) && (decide ((c2 : Int) < (a_b.Values.length : Int)))) then (
     (ix a_b.Vars c2).bind fun x13 =>
     if ((x13 : Int) == a_v) then (
       some true)
     else (
       s_l4Bound_L1 a_b a_v m3 (IntKind.i64.wrap (c2 + 1))))
   else (
     some false)
def s_l4Bound (a_b : Binding) (a_v : Int) : Option (Bool) :=
 s_l4Bound_L1 a_b a_v (((a_b.Vars.length : Int) - 0).toNat + 2) 0
theorem s_l4Bound_ok (a_b : Binding) (v0_0 : Sv) (v0_1 : Sv) (a_v : Int) (R : Bool) (hF : s_l4Bound a_b a_v = some R) :
   Fw.Spec Tryz.prog 183 [(.agg [v0_0.v, v0_1.v].toArray), (.int .i64 a_v)] [crd (RdS 3 rdInt) v0_0.v a_b.Vars, crd (RdS 3 rdInt) v0_1.v a_b.Values] (fun _ : Unit => (.bool R)) (fun _ => []) := by
 refine Se 27 Tryz.func183 [.tmp 4] ?_
 intro H0 F0
 unfold s_l4Bound at hF
 refine au ?_
 refine AbR (fun k1 => ?_)
 iterate 6 refine au ?_
 refine CW_block (CW_loop (m := (((a_b.Vars.length : Int) - 0).toNat + 2)) (fun m3 f' cs' => ∃ (g : Fr) (c2 : Int), f' = updL g [(1, (.int .i64 a_v)), (2, (pz k1)), (5, (.int .i64 c2))] ∧ Ent cs' [cboR k1 127 (.agg [v0_0.v, v0_1.v].toArray), crd (RdS 3 rdInt) v0_0.v a_b.Vars, crd (RdS 3 rdInt) v0_1.v a_b.Values] ∧ s_l4Bound_L1 a_b a_v m3 c2 = some R) ⟨_, _, eqA, entA, hF⟩ ?_)
 rintro m3 _ _ ⟨g4, c2, rfl, hE, hF⟩
 refine K_ent hE ?_
 rcases m3 with _ | m3
 · rw [s_l4Bound_L1] at hF
   exact absurd hF (by simp)
 rw [s_l4Bound_L1] at hF
 iterate 2 refine au ?_
 refine C_cut (fun f' cs' => ∃ (g : Fr), f' = updL g [(1, (.int .i64 a_v)), (2, (pz k1)), (5, (.int .i64 c2)), (17, (.bool ((decide ((c2 : Int) < (a_b.Vars.length : Int))) && (decide ((c2 : Int) < (a_b.Values.length : Int))))))] ∧ Ent cs' [cboR k1 127 (.agg [v0_0.v, v0_1.v].toArray), crd (RdS 3 rdInt) v0_0.v a_b.Vars, crd (RdS 3 rdInt) v0_1.v a_b.Values]) ?_ ?_
 · iterate 6 refine au ?_
   rcases Bool.eq_false_or_eq_true (decide ((c2 : Int) < (a_b.Vars.length : Int))) with hg11 | hg11
   · rw [hg11]
     try rw [hg11] at hF; dsimp only [cond_true, cond_false] at hF
     iterate 12 refine au ?_
     exact ⟨_, eqA, entA⟩
   rw [hg11]
   try rw [hg11] at hF; dsimp only [cond_true, cond_false] at hF
   iterate 7 refine au ?_
   exact ⟨_, eqA, entA⟩
 rintro _ _ ⟨g12, rfl, hE⟩
 refine K_ent hE ?_
 refine Ci hF (fun hb20 hF => ?_) (fun hb20 hF => ?_)
 · iterate 6 refine au ?_
   refine bnd hF fun x13 hx14 hF => ?_
   obtain ⟨hp15, hx16⟩ := ix_some hx14
   refine Ai hx16 (fun k17 j18 => ?_)
   refine Al ls3_0 ?_
   iterate 3 refine au ?_
   refine Ci hF (fun hb19 hF => ?_) (fun hb19 hF => ?_)
   · iterate 4 refine au ?_
     cases hF
     exact Er ()
   iterate 6 refine au ?_
   exact ⟨m3, Nat.lt_succ_self _, _, _, eqA, entA, hF⟩
 iterate 8 refine au ?_
 cases hF
 exact Er ()
def s_l4Bind (a_b : Binding) (a_v : Int) (a_x : Int) : Option (Binding) :=
 (app ([] : List Int) a_b.Vars).bind fun z7 =>
 (app z7 ([a_v] : List Int)).bind fun z10 =>
 (app ([] : List Int) a_b.Values).bind fun z13 =>
 (app z13 ([a_x] : List Int)).bind fun z16 =>
 some ({ Vars := z10, Values := z16 } : Binding)
theorem s_l4Bind_ok (a_b : Binding) (v0_0 : Sv) (v0_1 : Sv) (a_v : Int) (a_x : Int) (R : Binding) (hF : s_l4Bind a_b a_v a_x = some R) :
   Fw.Spec Tryz.prog 184 [(.agg [v0_0.v, v0_1.v].toArray), (.int .i64 a_v), (.int .i64 a_x)] [crd (RdS 3 rdInt) v0_0.v a_b.Vars, crd (RdS 3 rdInt) v0_1.v a_b.Values] (fun p : Sv × List Nat × Sv × List Nat => (.agg [p.1.v, p.2.2.1.v].toArray)) (fun p => [cown (OwnS 3 (roE rdInt)) p.2.1 p.1.v R.Vars, cown (OwnS 3 (roE rdInt)) p.2.2.2 p.2.2.1.v R.Values]) := by
 refine Se 22 Tryz.func184 [.cell 6 127] ?_
 intro H0 F0
 unfold s_l4Bind at hF
 refine au ?_
 refine AbR (fun k1 => ?_)
 refine AnW (fun k2 => ?_)
 refine au ?_
 refine K_draw [0, 1, 2, 4, 5, 7, 8, 9, 11, 12, 3, 6, 10, 13, 14, 15] [0, 0, 2, 7, 0, 16, 63, 0, 0, 256, 1023, 0, 2048, 8191, 16383, 32767] [3, 6, 10, 13, 15] mixed (by decide +kernel) ?_
 refine D_new rfl .no rfl (fun ha => N_buildSliceT (g := true) (len := 0) (parts := []) sl24.h ty3.h .nil (vs := []) rfl rfl rfl (by simp)) (fun k3 => ?_)
 refine Dv1 (.cons .h .nil) (own_lit (Ro := (roE rdInt)) (E := 3) (F := []) (xs := ([] : List Int)) MkL_nil rfl rfl) ?_
 iterate 3 refine du ?_
 refine D_new rfl .no rfl (fun ha => N_buildSliceT (g := true) (len := 1) (parts := [(0, .tmp 11)]) sl24.h ty3.h (.cons (EN ha (.tmp rfl rfl) rfl) .nil) (vs := [(.int .i64 a_v)]) rfl rfl rfl (by intro v hv; simp at hv; rcases hv with rfl <;> rfl)) (fun k4 => ?_)
 refine Dv1 (.cons .h .nil) (own_lit (Ro := (roE rdInt)) (E := 3) (F := ([] ++ [])) (xs := ([a_v] : List Int)) (MkL_cons (Mk_pure (fun _ => rfl)) MkL_nil apps) rfl rfl) ?_
 refine D_new rfl .no rfl (fun ha => N_buildSliceT (g := true) (len := 0) (parts := []) sl24.h ty3.h .nil (vs := []) rfl rfl rfl (by simp)) (fun k5 => ?_)
 refine Dv1 (.cons .h .nil) (own_lit (Ro := (roE rdInt)) (E := 3) (F := []) (xs := ([] : List Int)) MkL_nil rfl rfl) ?_
 iterate 3 refine du ?_
 refine D_new rfl .no rfl (fun ha => N_buildSliceT (g := true) (len := 1) (parts := [(0, .tmp 18)]) sl24.h ty3.h (.cons (EN ha (.tmp rfl rfl) rfl) .nil) (vs := [(.int .i64 a_x)]) rfl rfl rfl (by intro v hv; simp at hv; rcases hv with rfl <;> rfl)) (fun k6 => ?_)
 refine Dv1 (.cons .h .nil) (own_lit (Ro := (roE rdInt)) (E := 3) (F := ([] ++ [])) (xs := ([a_x] : List Int)) (MkL_cons (Mk_pure (fun _ => rfl)) MkL_nil apps) rfl rfl) ?_
 refine bnd hF fun z7 hx8 hF => D_act1 rfl rfl .no (.cons (.t (.t (.t .h))) (.rd (.t (.t (.t (.t (.t .h))))) rfl .nil)) (.own .h (by simp [cown]) (.own (.t .h) (by simp [cown]) (.own (.t (.t .h)) (by simp [cown]) (.dep rfl .nil)))) (fun ha => X_appendO (Ro := (roE rdInt)) sl24.h ni24 ty3.h rfl rfl rfl (EN ha (.tmp rfl rfl) rfl) (EN ha (.tmp rfl rfl) rfl) hx8 src_rd) (fun p9 => ?_)
 refine bnd hF fun z10 hx11 hF => D_act1 rfl rfl .no (.cons .h (.cons (.t (.t .h)) .nil)) (.own .h (by simp [cown]) (.own (.t .h) (by simp [cown]) (.dep rfl (.dep rfl .nil)))) (fun ha => X_appendO (Ro := (roE rdInt)) sl24.h ni24 ty3.h rfl rfl rfl (EN ha (.tmp rfl rfl) rfl) (EN ha (.tmp rfl rfl) rfl) hx11 src_own) (fun p12 => ?_)
 refine bnd hF fun z13 hx14 hF => D_act1 rfl rfl .no (.cons (.t (.t .h)) (.rd (.t (.t (.t (.t (.t .h))))) rfl .nil)) (.own (.t .h) (by simp [cown]) (.dep rfl (.dep rfl (.dep rfl .nil)))) (fun ha => X_appendO (Ro := (roE rdInt)) sl24.h ni24 ty3.h rfl rfl rfl (EN ha (.tmp rfl rfl) rfl) (EN ha (.tmp rfl rfl) rfl) hx14 src_rd) (fun p15 => ?_)
 refine bnd hF fun z16 hx17 hF => D_act1 rfl rfl .no (.cons .h (.cons (.t .h) .nil)) (.dep rfl (.dep rfl (.dep rfl (.dep rfl .nil)))) (fun ha => X_appendO (Ro := (roE rdInt)) sl24.h ni24 ty3.h rfl rfl rfl (EN ha (.tmp rfl rfl) rfl) (EN ha (.tmp rfl rfl) rfl) hx17 src_own) (fun p18 => ?_)
 refine D_val rfl .no (fun ha => V_build ty127.h rfl (vs := [p12.1.v, p18.1.v]) (.cons (EN ha (.tmp rfl rfl) rfl) (.cons (EN ha (.tmp rfl rfl) rfl) .nil)) (cells := [p12.1.v, p18.1.v]) rfl) ?_
 refine D_act1 rfl rfl .no (.cons (.t (.t .h)) .nil) (.dep rfl (.dep rfl (.dep rfl (.dep rfl .nil)))) (fun ha => X_storeB (e' := (.agg [p12.1.v, p18.1.v].toArray)) (v := (.agg [p12.1.v, p18.1.v].toArray)) ty127.h.sz (EN ha (.tmp rfl rfl) rfl) (EN ha (.tmp rfl rfl) rfl) rfl rfl rfl rfl rfl) (fun _ => ?_)
 refine du ?_
 refine au ?_
 cases hF
 exact Er (p12.1, p12.2, p18.1, p18.2)
def s_MatchAtom_L1 (a_f : Fact) : List Int → Nat → (List Int) → (List Int) → Option (Binding × Bool)
 | [], k80, c71, c74 => some (({ Vars := c71, Values := c74 } : Binding), true)
 | x82 :: rest81, k80, c71, c74 => (((s_ValueOf ({ Vars := c71, Values := c74 } : Binding) x82).bind fun r93 =>
     ((s_IsVar x82).bind fun r100 =>
       bif r100 then ((s_l4Bound ({ Vars := c71, Values := c74 } : Binding) x82).bind fun r106 =>
         some (!r106))
       else (some false)).bind fun o96 =>
     match o96 with
     | c109 => if c109 then (
         (ix a_f.Values (k80 : Int)).bind fun x112 =>
         (s_l4Bind ({ Vars := c71, Values := c74 } : Binding) x82 x112).bind fun r118 =>
         some (.inr (r118.Vars, r118.Values)))
       else (
         (ix a_f.Values (k80 : Int)).bind fun x121 =>
         if ((r93 : Int) != x121) then (
           some (.inl (({ Vars := [], Values := [] } : Binding), false)))
         else (
           some (.inr (c71, c74))))) : Option (Sum (Binding × Bool) ((List Int) × (List Int)))).bind fun o89 =>
   match o89 with
   | .inl r => some r
   | .inr (c130, c133) => s_MatchAtom_L1 a_f rest81 (k80 + 1) c130 c133
def s_MatchAtom (a_b : Binding) (a_a : Atom) (a_f : Fact) : Option (Binding × Bool) :=
 (s_l4Copy a_b).bind fun r5 =>
 if (((a_a.Rel : Int) != a_f.Rel) || ((((a_a.Terms.length : Int) : Int) != (a_f.Values.length : Int)) || (((a_b.Vars.length : Int) : Int) != (a_b.Values.length : Int)))) then (
   some (({ Vars := [], Values := [] } : Binding), false))
 else (
   s_MatchAtom_L1 a_f a_a.Terms 0 r5.Vars r5.Values)
theorem s_MatchAtom_ok (a_b : Binding) (v0_0 : Sv) (v0_1 : Sv) (a_a : Atom) (v1_1 : Sv) (a_f : Fact) (v2_1 : Sv) (R : Binding × Bool) (hF : s_MatchAtom a_b a_a a_f = some R) :
   Fw.Spec Tryz.prog 154 [(.agg [v0_0.v, v0_1.v].toArray), (.agg [(.int .i64 a_a.Rel), v1_1.v].toArray), (.agg [(.int .i64 a_f.Rel), v2_1.v].toArray)] [crd (RdS 3 rdInt) v0_0.v a_b.Vars, crd (RdS 3 rdInt) v0_1.v a_b.Values, crd (RdS 3 rdInt) v1_1.v a_a.Terms, crd (RdS 3 rdInt) v2_1.v a_f.Values] (fun p : Sv × List Nat × Sv × List Nat => (.tuple [(.agg [p.1.v, p.2.2.1.v].toArray), (.bool R.2)].toArray)) (fun p => [cown (OwnS 3 (roE rdInt)) p.2.1 p.1.v R.1.Vars, cown (OwnS 3 (roE rdInt)) p.2.2.2 p.2.2.1.v R.1.Values]) := by
 refine Se 88 Tryz.func154 [.cell 6 127, .tmp 7] ?_
 intro H0 F0
 unfold s_MatchAtom at hF
 refine au ?_
 refine AbR (fun k1 => ?_)
 refine AbR (fun k2 => ?_)
 refine AbR (fun k3 => ?_)
 refine AnW (fun k4 => ?_)
 iterate 4 refine au ?_
 refine bnd hF fun r5 hx6 hF => Cx2 (s_l4Copy_ok _ _ _ _ hx6) (fun p7 => ?_)
 refine AnW (fun k8 => ?_)
 refine As (.agg [p7.1.v, p7.2.2.1.v].toArray) ?_
 iterate 3 refine au ?_
 refine C_cut (fun f' cs' => ∃ (g : Fr), f' = updL g [(4, (pz k2)), (5, (pz k3)), (6, (pz k4)), (8, (pz k8)), (35, (.bool (((a_a.Rel : Int) != a_f.Rel) || ((((a_a.Terms.length : Int) : Int) != (a_f.Values.length : Int)) || (((a_b.Vars.length : Int) : Int) != (a_b.Values.length : Int))))))] ∧ Ent cs' [cboR k2 78 (.agg [(.int .i64 a_a.Rel), v1_1.v].toArray), crd (RdS 3 rdInt) v1_1.v a_a.Terms, cboR k3 58 (.agg [(.int .i64 a_f.Rel), v2_1.v].toArray), crd (RdS 3 rdInt) v2_1.v a_f.Values, cbox k4 127 (.agg [(.slice none 0 0), (.slice none 0 0)].toArray), cbox k8 127 (.agg [p7.1.v, p7.2.2.1.v].toArray), cown (OwnS 3 (roE rdInt)) p7.2.1 p7.1.v r5.Vars, cown (OwnS 3 (roE rdInt)) p7.2.2.2 p7.2.2.1.v r5.Values]) ?_ ?_
 · iterate 6 refine au ?_
   rcases Bool.eq_false_or_eq_true ((a_a.Rel : Int) != a_f.Rel) with hg9 | hg9
   · rw [hg9]
     try rw [hg9] at hF; dsimp only [cond_true, cond_false] at hF
     iterate 18 refine au ?_
     exact ⟨_, eqA, entA⟩
   rw [hg9]
   try rw [hg9] at hF; dsimp only [cond_true, cond_false] at hF
   iterate 16 refine au ?_
   rcases Bool.eq_false_or_eq_true (((a_a.Terms.length : Int) : Int) != (a_f.Values.length : Int)) with hg10 | hg10
   · rw [hg10]
     try rw [hg10] at hF; dsimp only [cond_true, cond_false] at hF
     iterate 9 refine au ?_
     exact ⟨_, eqA, entA⟩
   rw [hg10]
   try rw [hg10] at hF; dsimp only [cond_true, cond_false] at hF
   iterate 16 refine au ?_
   exact ⟨_, eqA, entA⟩
 rintro _ _ ⟨g11, rfl, hE⟩
 refine K_ent hE ?_
 refine Ci hF (fun hb138 hF => ?_) (fun hb138 hF => ?_)
 · refine au ?_
   refine C_val (V_build ty127.h rfl (vs := []) .nil (cells := [(.slice none 0 0), (.slice none 0 0)]) rfl) ?_
   refine As (.agg [(.slice none 0 0), (.slice none 0 0)].toArray) ?_
   iterate 3 refine au ?_
   cases hF
   exact End_ret (⟨none, 0, 0⟩, [], ⟨none, 0, 0⟩, []) (.cellA rfl rfl .h rfl ag127.h ty127.h.sz rfl rfl (.tmp rfl rfl .nil)) rfl (.conv .nil (own_nil (Ro := (roE rdInt)) (E := 3)) (.cons .nil) (.conv .nil (own_nil (Ro := (roE rdInt)) (E := 3)) (.cons .nil) (.sel (.cons (.t .h) (.cons .h .nil)))))
 iterate 5 refine au ?_
 refine CW_block (CW_loop (m := a_a.Terms.length) (fun m78 f' cs' => ∃ (g : Fr) (k80 : Nat) (rest81 : List Int) (c71 : List Int) (c74 : List Int) (v72 : Sv) (F73 : List Nat) (v75 : Sv) (F76 : List Nat), m78 = rest81.length ∧ f' = updL g [(4, (pz k2)), (5, (pz k3)), (6, (pz k4)), (8, (pz k8)), (9, (.int .i64 (k80 : Int)))] ∧ List.drop k80 a_a.Terms = rest81 ∧ Ent cs' [cboR k2 78 (.agg [(.int .i64 a_a.Rel), v1_1.v].toArray), crd (RdS 3 rdInt) v1_1.v a_a.Terms, cboR k3 58 (.agg [(.int .i64 a_f.Rel), v2_1.v].toArray), crd (RdS 3 rdInt) v2_1.v a_f.Values, cbox k4 127 (.agg [(.slice none 0 0), (.slice none 0 0)].toArray), cbox k8 127 (.agg [v72.v, v75.v].toArray), cown (OwnS 3 (roE rdInt)) F73 v72.v c71, cown (OwnS 3 (roE rdInt)) F76 v75.v c74] ∧ s_MatchAtom_L1 a_f rest81 k80 c71 c74 = some R) ⟨_, 0, _, _, _, p7.1, p7.2.1, p7.2.2.1, p7.2.2.2, rfl, eqA, rfl, entA, hF⟩ ?_)
 rintro m78 _ _ ⟨g79, k80, rest81, c71, c74, v72, F73, v75, F76, rfl, rfl, hd83, hE, hF⟩
 refine Kb hE a_a.Terms (fun hbd88 => ?_)
 rcases rest81 with _ | ⟨x82, rest81⟩
 · have hk84 := dn hd83
   rw [s_MatchAtom_L1] at hF
   iterate 8 refine au ?_
   refine CdF ?_
   iterate 6 refine au ?_
   refine As (.agg [v72.v, v75.v].toArray) ?_
   iterate 3 refine au ?_
   cases hF
   exact End_ret (v72, F73, v75, F76) (.cellA rfl rfl .h rfl ag127.h ty127.h.sz rfl rfl (.tmp rfl rfl .nil)) rfl (.sel (.cons (.t (.t (.t (.t (.t (.t .h)))))) (.cons (.t (.t (.t (.t (.t (.t .h)))))) .nil)))
 obtain ⟨hk84, hx85, hd86⟩ := drop_cons hd83
 rw [s_MatchAtom_L1] at hF
 iterate 8 refine au ?_
 refine CdT ?_
 refine au ?_
 obtain ⟨o89, hio89, hO90⟩ := bind_some hF
 refine K_cut (fun f' cs' => ∃ (c130 : List Int) (c133 : List Int) (v131 : Sv) (F132 : List Nat) (v134 : Sv) (F135 : List Nat) (g : Fr), o89 = .inr (c130, c133) ∧ f' = updL g [(4, (pz k2)), (5, (pz k3)), (6, (pz k4)), (8, (pz k8)), (9, (.int .i64 (k80 : Int)))] ∧ Ent cs' [cboR k2 78 (.agg [(.int .i64 a_a.Rel), v1_1.v].toArray), crd (RdS 3 rdInt) v1_1.v a_a.Terms, cboR k3 58 (.agg [(.int .i64 a_f.Rel), v2_1.v].toArray), crd (RdS 3 rdInt) v2_1.v a_f.Values, cbox k4 127 (.agg [(.slice none 0 0), (.slice none 0 0)].toArray), cbox k8 127 (.agg [v131.v, v134.v].toArray), cown (OwnS 3 (roE rdInt)) F132 v131.v c130, cown (OwnS 3 (roE rdInt)) F135 v134.v c133]) ?_ ?_
 · replace hF := hio89
   refine CW_block (K_draw [0, 1, 2, 3, 4, 5, 6, 7] [0, 0, 2, 0, 14, 30, 63, 127] [6] mixed (by decide +kernel) ?_)
   refine D_atO rfl .no (.t (.t (.t (.t (.t .h))))) (fun ha hp => V_loadBox ag127.h ty127.h.sz rfl (EN ha (.tmp rfl rfl) rfl) hp.2 rfl) ?_
   iterate 3 refine du ?_
   refine Di hx85 (fun k91 j92 => ?_)
   refine Dl ls3_0 ?_
   refine bnd hF fun r93 hx94 hF => D_act2 rfl rfl .no (.cons (.t (.t (.t (.t (.t (.t (.t (.t .h)))))))) (.cons (.t (.t (.t (.t (.t (.t (.t .h))))))) .nil)) (.dep rfl .nil) (fun ha => XC_borL (pre := []) (.cons frz_own (.cons frz_own .nil)) (fun _ => .nil) (X_callS cf107.h (.cons (EN ha (.tmp rfl rfl) rfl) (.cons (EN ha (.tmp rfl rfl) rfl) .nil)) (s_ValueOf_ok ({ Vars := c71, Values := c74 } : Binding) v72 v75 x82 _ hx94))) (fun _ => ?_)
   iterate 2 refine du ?_
   obtain ⟨o96, hio96, hO97⟩ := bind_some hF
   refine K_draw [0, 1, 2, 3, 4, 5, 6, 7, 8, 9, 10, 11, 12, 13, 14, 15] [0, 1, 0, 7, 15, 31, 63, 127, 127, 383, 127, 1919, 3967, 8191, 16383, 32767] [5, 13] mixed (by decide +kernel) ?_
   refine D_cut (fun f' cs' => ∃ (c109 : Bool) (g : Fr), c109 = o96 ∧ f' = updL g [(4, (pz k2)), (5, (pz k3)), (6, (pz k4)), (8, (pz k8)), (9, (.int .i64 (k80 : Int))), (10, (.int .i64 r93)), (66, (.bool c109))] ∧ Ent cs' [cboR k2 78 (.agg [(.int .i64 a_a.Rel), v1_1.v].toArray), crd (RdS 3 rdInt) v1_1.v a_a.Terms, cboR k3 58 (.agg [(.int .i64 a_f.Rel), v2_1.v].toArray), crd (RdS 3 rdInt) v2_1.v a_f.Values, cbox k4 127 (.agg [(.slice none 0 0), (.slice none 0 0)].toArray), cbox k8 127 (.agg [v72.v, v75.v].toArray), cown (OwnS 3 (roE rdInt)) F73 v72.v c71, cown (OwnS 3 (roE rdInt)) F76 v75.v c74]) ?_ ?_
   · replace hF := hio96
     iterate 3 refine du ?_
     refine Di hx85 (fun k98 j99 => ?_)
     refine Dl ls3_0 ?_
     refine bnd hF fun r100 hx101 hF => Dx0 (s_IsVar_ok _ _ hx101) (fun _ => ?_)
     refine du ?_
     rcases Bool.eq_false_or_eq_true r100 with hg103 | hg103
     · rw [hg103]
       try rw [hg103] at hF; dsimp only [cond_true, cond_false] at hF
       refine D_atO rfl (.on 57 rfl rfl rfl) (.t (.t (.t (.t (.t (.t (.t (.t (.t .h))))))))) (fun ha hp => V_loadBox ag127.h ty127.h.sz rfl (EN ha (.tmp rfl rfl) rfl) hp.2 rfl) ?_
       iterate 3 refine du ?_
       refine Di hx85 (fun k104 j105 => ?_)
       refine Dl ls3_0 ?_
       refine bnd hF fun r106 hx107 hF => D_act2 rfl rfl (.on 57 rfl rfl rfl) (.cons (.t (.t .h)) (.cons (.t (.t .h)) .nil)) (.dep rfl .nil) (fun ha => XC_borL (pre := []) (.cons frz_own (.cons frz_own .nil)) (fun _ => .nil) (X_callS cf183.h (.cons (EN ha (.tmp rfl rfl) rfl) (.cons (EN ha (.tmp rfl rfl) rfl) .nil)) (s_l4Bound_ok ({ Vars := c71, Values := c74 } : Binding) v72 v75 x82 _ hx107))) (fun _ => ?_)
       iterate 3 refine du ?_
       cases hF
       exact ⟨_, _, rfl, eqA, entA⟩
     rw [hg103]
     try rw [hg103] at hF; dsimp only [cond_true, cond_false] at hF
     iterate 10 refine du ?_
     cases hF
     exact ⟨_, _, rfl, eqA, entA⟩
   rintro _ _ ⟨c109, g129, rfl, rfl, hE⟩
   replace hF := hO97
   try dsimp only at hF
   refine K_ent hE ?_
   refine Ci hF (fun hb128 hF => ?_) (fun hb128 hF => ?_)
   · refine CW_draw [0, 1, 2, 3, 4, 5, 6, 7, 8, 9, 10, 11, 12] [0, 0, 2, 0, 14, 30, 0, 64, 0, 448, 960, 2047, 4095] [11, 12] mixed (by decide +kernel) ?_
     refine D_atO rfl .no (.t (.t (.t (.t (.t .h))))) (fun ha hp => V_loadBox ag127.h ty127.h.sz rfl (EN ha (.tmp rfl rfl) rfl) hp.2 rfl) ?_
     iterate 3 refine du ?_
     refine Di hx85 (fun k110 j111 => ?_)
     refine Dl ls3_0 ?_
     iterate 3 refine du ?_
     refine bnd hF fun x112 hx113 hF => ?_
     obtain ⟨hp114, hx115⟩ := ix_some hx113
     refine Di hx115 (fun k116 j117 => ?_)
     refine Dl ls3_0 ?_
     refine bnd hF fun r118 hx119 hF => D_act4 rfl rfl .no (.cons (.t (.t (.t (.t (.t (.t (.t (.t (.t .h))))))))) (.cons (.t (.t (.t (.t (.t (.t (.t (.t .h)))))))) .nil)) (.dep rfl .nil) (fun ha => XC_borL (pre := []) (.cons frz_own (.cons frz_own .nil)) (fun _ => (.cons (.cons .nil))) (X_callS cf184.h (.cons (EN ha (.tmp rfl rfl) rfl) (.cons (EN ha (.tmp rfl rfl) rfl) (.cons (EN ha (.tmp rfl rfl) rfl) .nil))) (s_l4Bind_ok ({ Vars := c71, Values := c74 } : Binding) v72 v75 x82 x112 _ hx119))) (fun p120 => ?_)
     refine D_act1 rfl rfl .no (.cons (.t (.t (.t (.t (.t (.t (.t (.t (.t (.t (.t .h))))))))))) .nil) (.dep rfl .nil) (fun ha => X_storeB (e' := (.agg [p120.1.v, p120.2.2.1.v].toArray)) (v := (.agg [p120.1.v, p120.2.2.1.v].toArray)) ty127.h.sz (EN ha (.tmp rfl rfl) rfl) (EN ha (.tmp rfl rfl) rfl) rfl rfl rfl rfl rfl) (fun _ => ?_)
     refine du ?_
     cases hF
     exact ⟨_, _, p120.1, p120.2.1, p120.2.2.1, p120.2.2.2, _, rfl, eqA, entA⟩
   iterate 5 refine au ?_
   refine bnd hF fun x121 hx122 hF => ?_
   obtain ⟨hp123, hx124⟩ := ix_some hx122
   refine Ai hx124 (fun k125 j126 => ?_)
   refine Al ls3_0 ?_
   iterate 2 refine au ?_
   refine Ci hF (fun hb127 hF => ?_) (fun hb127 hF => ?_)
   · refine au ?_
     refine C_val (V_build ty127.h rfl (vs := []) .nil (cells := [(.slice none 0 0), (.slice none 0 0)]) rfl) ?_
     refine As (.agg [(.slice none 0 0), (.slice none 0 0)].toArray) ?_
     iterate 3 refine au ?_
     cases hF
     replace hF := hO90
     try dsimp only at hF
     cases hF
     exact End_ret (⟨none, 0, 0⟩, [], ⟨none, 0, 0⟩, []) (.cellA rfl rfl .h rfl ag127.h ty127.h.sz rfl rfl (.tmp rfl rfl .nil)) rfl (.conv .nil (own_nil (Ro := (roE rdInt)) (E := 3)) (.cons .nil) (.conv .nil (own_nil (Ro := (roE rdInt)) (E := 3)) (.cons .nil) (.sel (.cons (.t .h) (.cons .h .nil)))))
   refine au ?_
   cases hF
   exact ⟨_, _, v72, F73, v75, F76, _, rfl, eqA, entA⟩
 rintro _ _ ⟨c130, c133, v131, F132, v134, F135, g137, rfl, rfl, hE⟩
 replace hF := hO90
 try dsimp only at hF
 refine K_ent hE ?_
 iterate 5 refine au ?_
 rw [wk k80]
 exact ⟨_, Nat.lt_succ_self _, _, k80 + 1, rest81, _, _, v131, F132, v134, F135, rfl, eqA, hd86, entA, hF⟩
def s_l4Extend_L2 (a_a : Atom) (x11 : Binding) : List Fact → Nat → (List Binding) → Option ((List Binding))
 | [], k26, c20 => some c20
 | x28 :: rest27, k26, c20 => ((s_MatchAtom x11 a_a x28).bind fun r44 =>
     if r44.2 then (
       (app c20 ([r44.1] : List Binding)).bind fun z48 =>
       some z48)
     else (
       some c20)).bind fun o35 =>
   match o35 with
   | c52 => s_l4Extend_L2 a_a x11 rest27 (k26 + 1) c52
def s_l4Extend_L1 (a_a : Atom) (a_facts : List Fact) : List Binding → Nat → (List Binding) → Option ((List Binding))
 | [], k9, c3 => some c3
 | x11 :: rest10, k9, c3 => (s_l4Extend_L2 a_a x11 a_facts 0 c3).bind fun o18 =>
   match o18 with
   | c57 => s_l4Extend_L1 a_a a_facts rest10 (k9 + 1) c57
def s_l4Extend (a_l : List Binding) (a_a : Atom) (a_facts : List Fact) : Option ((List Binding)) :=
 s_l4Extend_L1 a_a a_facts a_l 0 ([] : List Binding)
theorem s_l4Extend_ok (a_l : List Binding) (v0_0 : Sv) (a_a : Atom) (v1_1 : Sv) (a_facts : List Fact) (v2_0 : Sv) (R : (List Binding)) (hF : s_l4Extend a_l a_a a_facts = some R) :
   Fw.Spec Tryz.prog 109 [v0_0.v, (.agg [(.int .i64 a_a.Rel), v1_1.v].toArray), v2_0.v] [crd (RdS 127 rd127) v0_0.v a_l, crd (RdS 3 rdInt) v1_1.v a_a.Terms, crd (RdS 58 rd58) v2_0.v a_facts] (fun p : Sv × List Nat => p.1.v) (fun p => [cown (OwnS 127 ow127) p.2 p.1.v R]) := by
 refine Se 44 Tryz.func109 [.tmp 6] ?_
 intro H0 F0
 unfold s_l4Extend at hF
 refine au ?_
 refine AbR (fun k1 => ?_)
 iterate 3 refine au ?_
 refine C_new rfl (N_buildSliceT (g := true) sl89.h ty127.h .nil (vs := []) rfl rfl rfl (by simp)) (fun k2 => ?_)
 refine Cv1 (.cons .h .nil) (own_lit (Ro := ow127) (E := 127) (F := []) (xs := ([] : List Binding)) MkL_nil rfl rfl) ?_
 iterate 6 refine au ?_
 refine CW_block (CW_loop (m := a_l.length) (fun m7 f' cs' => ∃ (g : Fr) (k9 : Nat) (rest10 : List Binding) (c3 : List Binding) (v4 : Sv) (F5 : List Nat), m7 = rest10.length ∧ f' = updL g [(0, v0_0.v), (2, v2_0.v), (4, (pz k1)), (7, v4.v), (8, (.int .i64 (k9 : Int)))] ∧ List.drop k9 a_l = rest10 ∧ Ent cs' [crd (RdS 127 rd127) v0_0.v a_l, crd (RdS 58 rd58) v2_0.v a_facts, cboR k1 78 (.agg [(.int .i64 a_a.Rel), v1_1.v].toArray), crd (RdS 3 rdInt) v1_1.v a_a.Terms, cown (OwnS 127 ow127) F5 v4.v c3] ∧ s_l4Extend_L1 a_a a_facts rest10 k9 c3 = some R) ⟨_, 0, _, _, ⟨(some ⟨k2, 0, none⟩), 0, 1⟩, (k2 :: []), rfl, eqA, rfl, entA, hF⟩ ?_)
 rintro m7 _ _ ⟨g8, k9, rest10, c3, v4, F5, rfl, rfl, hd12, hE, hF⟩
 refine Kb hE a_l (fun hbd17 => ?_)
 rcases rest10 with _ | ⟨x11, rest10⟩
 · have hk13 := dn hd12
   rw [s_l4Extend_L1] at hF
   iterate 7 refine au ?_
   refine CdF ?_
   iterate 9 refine au ?_
   cases hF
   exact Er (v4, F5)
 obtain ⟨hk13, hx14, hd15⟩ := drop_cons hd12
 rw [s_l4Extend_L1] at hF
 iterate 7 refine au ?_
 refine CdT ?_
 refine au ?_
 obtain ⟨o18, hio18, hO19⟩ := bind_some hF
 refine K_cut (fun f' cs' => ∃ (c57 : List Binding) (v58 : Sv) (F59 : List Nat) (g : Fr), c57 = o18 ∧ f' = updL g [(0, v0_0.v), (2, v2_0.v), (4, (pz k1)), (7, v58.v), (8, (.int .i64 (k9 : Int)))] ∧ Ent cs' [crd (RdS 127 rd127) v0_0.v a_l, crd (RdS 58 rd58) v2_0.v a_facts, cboR k1 78 (.agg [(.int .i64 a_a.Rel), v1_1.v].toArray), crd (RdS 3 rdInt) v1_1.v a_a.Terms, cown (OwnS 127 ow127) F59 v58.v c57]) ?_ ?_
 · replace hF := hio18
   refine CW_block (K_region (C_val (V_assign (v := (.int .i64 0)) (.int _ _)) ?_))
   refine au ?_
   refine CW_block (CW_loop (m := a_facts.length) (fun m24 f' cs' => ∃ (g : Fr) (k26 : Nat) (rest27 : List Fact) (c20 : List Binding) (v21 : Sv) (F22 : List Nat), m24 = rest27.length ∧ f' = updL g [(0, v0_0.v), (2, v2_0.v), (4, (pz k1)), (7, v21.v), (8, (.int .i64 (k9 : Int))), (9, (.int .i64 (k26 : Int)))] ∧ List.drop k26 a_facts = rest27 ∧ Ent cs' [crd (RdS 127 rd127) v0_0.v a_l, crd (RdS 58 rd58) v2_0.v a_facts, cboR k1 78 (.agg [(.int .i64 a_a.Rel), v1_1.v].toArray), crd (RdS 3 rdInt) v1_1.v a_a.Terms, cown (OwnS 127 ow127) F22 v21.v c20] ∧ s_l4Extend_L2 a_a x11 rest27 k26 c20 = some o18) ⟨_, 0, _, _, v4, F5, rfl, eqA, rfl, entA, hF⟩ ?_)
   rintro m24 _ _ ⟨g25, k26, rest27, c20, v21, F22, rfl, rfl, hd29, hE, hF⟩
   refine Kb hE a_facts (fun hbd34 => ?_)
   rcases rest27 with _ | ⟨x28, rest27⟩
   · have hk30 := dn hd29
     rw [s_l4Extend_L2] at hF
     iterate 7 refine au ?_
     refine CdF ?_
     iterate 4 refine au ?_
     cases hF
     exact ⟨_, v21, F22, _, rfl, eqA, entA⟩
   obtain ⟨hk30, hx31, hd32⟩ := drop_cons hd29
   rw [s_l4Extend_L2] at hF
   iterate 7 refine au ?_
   refine CdT ?_
   refine au ?_
   obtain ⟨o35, hio35, hO36⟩ := bind_some hF
   refine K_cut (fun f' cs' => ∃ (c52 : List Binding) (v53 : Sv) (F54 : List Nat) (g : Fr), c52 = o35 ∧ f' = updL g [(0, v0_0.v), (2, v2_0.v), (4, (pz k1)), (7, v53.v), (8, (.int .i64 (k9 : Int))), (9, (.int .i64 (k26 : Int)))] ∧ Ent cs' [crd (RdS 127 rd127) v0_0.v a_l, crd (RdS 58 rd58) v2_0.v a_facts, cboR k1 78 (.agg [(.int .i64 a_a.Rel), v1_1.v].toArray), crd (RdS 3 rdInt) v1_1.v a_a.Terms, cown (OwnS 127 ow127) F54 v53.v c52]) ?_ ?_
   · replace hF := hio35
     refine CW_block (K_draw [0, 1, 2, 3, 4, 5, 6, 7, 8, 13, 9, 10, 11, 12, 14, 15] [0, 0, 3, 7, 0, 0, 0, 96, 224, 511, 1023, 2047, 2047, 0, 12287, 32767] [9, 14] mixed (by decide +kernel) ?_)
     iterate 2 refine du ?_
     refine Di hx14 (fun k37 j38 => ?_)
     refine DlA2 (ul127_0_127 x11) la127_0_127 (fun p39 => ?_)
     iterate 3 refine du ?_
     refine Di hx31 (fun k40 j41 => ?_)
     refine DlA1 (ul58_0_58 x28) la58_0_58 (fun p42 => ?_)
     refine D_new rfl .no rfl (fun ha => N_allocT (g := true) ty127.h rfl rfl) (fun k43 => ?_)
     refine bnd hF fun r44 hx45 hF => D_act2 rfl rfl .no (.rd (.t (.t (.t .h))) rfl (.rd (.t (.t (.t (.t .h)))) rfl (.rd (.t (.t (.t (.t (.t (.t (.t (.t (.t .h))))))))) rfl (.rd (.t .h) rfl .nil)))) (.own .h (fun _ h => h) .nil) (fun ha => X_callS cf154.h (.cons (EN ha (.tmp rfl rfl) rfl) (.cons (EN ha (.tmp rfl rfl) rfl) (.cons (EN ha (.tmp rfl rfl) rfl) .nil))) (s_MatchAtom_ok x11 p39.1 p39.2 a_a v1_1 x28 p42 _ hx45)) (fun p46 => ?_)
     refine du ?_
     refine D_val rfl .no (fun ha => V_extract (l := [(.agg [p46.1.v, p46.2.2.1.v].toArray), (.bool r44.2)]) (v := (.agg [p46.1.v, p46.2.2.1.v].toArray)) (EN ha (.tmp rfl rfl) rfl) rfl) ?_
     refine D_val rfl .no (fun ha => V_extract (l := [(.agg [p46.1.v, p46.2.2.1.v].toArray), (.bool r44.2)]) (v := (.bool r44.2)) (EN ha (.tmp rfl rfl) rfl) rfl) ?_
     refine D_act1 rfl rfl .no (.cons (.t (.t .h)) .nil) (.dep rfl .nil) (fun ha => X_storeB (e' := (.agg [p46.1.v, p46.2.2.1.v].toArray)) (v := (.agg [p46.1.v, p46.2.2.1.v].toArray)) ty127.h.sz (EN ha (.tmp rfl rfl) rfl) (EN ha (.tmp rfl rfl) rfl) rfl rfl rfl rfl rfl) (fun _ => ?_)
     iterate 2 refine du ?_
     iterate 3 refine au ?_
     refine Ci hF (fun hb51 hF => ?_) (fun hb51 hF => ?_)
     · iterate 3 refine au ?_
       refine C_new rfl (N_buildSliceT (g := true) sl89.h ty127.h (.cons (.tmp rfl rfl) .nil) (vs := [(.agg [p46.1.v, p46.2.2.1.v].toArray)]) rfl rfl rfl (by intro v hv; simp at hv; rcases hv with rfl <;> rfl)) (fun k47 => ?_)
       refine Cv1 (.cons .h (.cons (.t .h) (.cons (.t .h) .nil))) (own_lit (Ro := ow127) (E := 127) (F := ((p46.2.1 ++ p46.2.2.2) ++ [])) (xs := ([r44.1] : List Binding)) (MkL_cons mk127 MkL_nil apps) rfl rfl) ?_
       refine bnd hF fun z48 hx49 hF => C_x1 (.cons (.t (.t (.t (.t (.t (.t (.t (.t (.t (.t (.t .h))))))))))) (.cons .h .nil)) (X_appendO (Ro := ow127) sl89.h ni89 ty127.h rfl rfl rfl (.tmp rfl rfl) (.tmp rfl rfl) hx49 src_own) (fun p50 => ?_)
       iterate 2 refine au ?_
       cases hF
       exact ⟨_, p50.1, p50.2, _, rfl, eqA, entA⟩
     refine au ?_
     cases hF
     exact ⟨_, v21, F22, _, rfl, eqA, entA⟩
   rintro _ _ ⟨c52, v53, F54, g56, rfl, rfl, hE⟩
   replace hF := hO36
   try dsimp only at hF
   refine K_ent hE ?_
   iterate 5 refine au ?_
   rw [wk k26]
   exact ⟨_, Nat.lt_succ_self _, _, k26 + 1, rest27, _, v53, F54, rfl, eqA, hd32, entA, hF⟩
 rintro _ _ ⟨c57, v58, F59, g61, rfl, rfl, hE⟩
 replace hF := hO19
 try dsimp only at hF
 refine K_ent hE ?_
 iterate 5 refine au ?_
 rw [wk k9]
 exact ⟨_, Nat.lt_succ_self _, _, k9 + 1, rest10, _, v58, F59, rfl, eqA, hd15, entA, hF⟩
def s_BindingsOf_L1 (a_facts : List Fact) : List Atom → Nat → (List Binding) → Option ((List Binding))
 | [], k9, c3 => some c3
 | x11 :: rest10, k9, c3 => (s_l4Extend c3 x11 a_facts).bind fun r21 =>
   s_BindingsOf_L1 a_facts rest10 (k9 + 1) r21
def s_BindingsOf (a_q : Query) (a_facts : List Fact) : Option ((List Binding)) :=
 s_BindingsOf_L1 a_facts a_q.Atoms 0 ([({ Vars := [], Values := [] } : Binding)] : List Binding)
theorem s_BindingsOf_ok (a_q : Query) (v0_0 : Sv) (v0_1 : Sv) (a_facts : List Fact) (v1_0 : Sv) (R : (List Binding)) (hF : s_BindingsOf a_q a_facts = some R) :
   Fw.Spec Tryz.prog 58 [(.agg [v0_0.v, v0_1.v].toArray), v1_0.v] [crd (RdS 3 rdInt) v0_0.v a_q.Head, crd (RdS 78 rd78) v0_1.v a_q.Atoms, crd (RdS 58 rd58) v1_0.v a_facts] (fun p : Sv × List Nat => p.1.v) (fun p => [cown (OwnS 127 ow127) p.2 p.1.v R]) := by
 refine Se 25 Tryz.func58 [.tmp 4] ?_
 intro H0 F0
 unfold s_BindingsOf at hF
 refine au ?_
 refine AbR (fun k1 => ?_)
 iterate 3 refine au ?_
 refine C_val (V_build ty127.h rfl (vs := []) .nil (cells := [(.slice none 0 0), (.slice none 0 0)]) rfl) ?_
 refine C_new rfl (N_buildSliceT (g := true) sl89.h ty127.h (.cons (.tmp rfl rfl) .nil) (vs := [(.agg [(.slice none 0 0), (.slice none 0 0)].toArray)]) rfl rfl rfl (by intro v hv; simp at hv; rcases hv with rfl <;> rfl)) (fun k2 => ?_)
 iterate 2 refine C_conv .nil (own_nil (Ro := (roE rdInt)) (E := 3)) apps ?_
 refine Cv1 (.cons (.t (.t .h)) (.cons (.t .h) (.cons .h .nil))) (own_lit (Ro := ow127) (E := 127) (F := (([] ++ []) ++ [])) (xs := ([({ Vars := [], Values := [] } : Binding)] : List Binding)) (MkL_cons (mk127 (v0 := ⟨none, 0, 0⟩) (v1 := ⟨none, 0, 0⟩) (a := ({ Vars := [], Values := [] } : Binding))) MkL_nil apps) rfl rfl) ?_
 iterate 6 refine au ?_
 refine CW_block (CW_loop (m := a_q.Atoms.length) (fun m7 f' cs' => ∃ (g : Fr) (k9 : Nat) (rest10 : List Atom) (c3 : List Binding) (v4 : Sv) (F5 : List Nat), m7 = rest10.length ∧ f' = updL g [(1, v1_0.v), (2, (pz k1)), (5, v4.v), (6, (.int .i64 (k9 : Int)))] ∧ List.drop k9 a_q.Atoms = rest10 ∧ Ent cs' [crd (RdS 58 rd58) v1_0.v a_facts, cboR k1 27 (.agg [v0_0.v, v0_1.v].toArray), crd (RdS 3 rdInt) v0_0.v a_q.Head, crd (RdS 78 rd78) v0_1.v a_q.Atoms, cown (OwnS 127 ow127) F5 v4.v c3] ∧ s_BindingsOf_L1 a_facts rest10 k9 c3 = some R) ⟨_, 0, _, _, ⟨(some ⟨k2, 0, none⟩), 1, 1⟩, (k2 :: (([] ++ []) ++ [])), rfl, eqA, rfl, entA, hF⟩ ?_)
 rintro m7 _ _ ⟨g8, k9, rest10, c3, v4, F5, rfl, rfl, hd12, hE, hF⟩
 refine Kb hE a_q.Atoms (fun hbd17 => ?_)
 rcases rest10 with _ | ⟨x11, rest10⟩
 · have hk13 := dn hd12
   rw [s_BindingsOf_L1] at hF
   iterate 8 refine au ?_
   refine CdF ?_
   iterate 9 refine au ?_
   cases hF
   exact Er (v4, F5)
 obtain ⟨hk13, hx14, hd15⟩ := drop_cons hd12
 rw [s_BindingsOf_L1] at hF
 iterate 8 refine au ?_
 refine CdT ?_
 iterate 7 refine au ?_
 refine Ai hx14 (fun k18 j19 => ?_)
 refine AlA1 (ul78_0_78 x11) la78_0_78 (fun p20 => ?_)
 refine au ?_
 refine bnd hF fun r21 hx22 hF => C_x2 (.cons (.t (.t (.t (.t (.t (.t .h)))))) (.rd .h rfl (.rd (.t (.t .h)) rfl .nil))) (XC_bor frz_own (fun _ => (.cons .nil)) (X_callS cf109.h (.cons (.tmp rfl rfl) (.cons (.tmp rfl rfl) (.cons (.tmp rfl rfl) .nil))) (s_l4Extend_ok c3 v4 x11 p20 a_facts v1_0 _ hx22))) (fun p23 => ?_)
 iterate 7 refine au ?_
 rw [wk k9]
 exact ⟨_, Nat.lt_succ_self _, _, k9 + 1, rest10, _, p23.1, p23.2, rfl, eqA, hd15, entA, hF⟩
def s_l4Less_L1 (a_a : List Int) (a_b : List Int) : Nat → Int → Option (Bool)
 | 0, _ => none
 | m2 + 1, c1 => if ((decide ((c1 : Int) < (a_a.length : Int))) && (decide ((c1 : Int) < (a_b.length : Int)))) then (
     (ix a_a c1).bind fun x12 =>
     (ix a_b c1).bind fun x18 =>
     if ((x12 : Int) != x18) then (
       (ix a_a c1).bind fun x24 =>
       (ix a_b c1).bind fun x30 =>
       some (decide ((x24 : Int) < x30)))
     else (
       s_l4Less_L1 a_a a_b m2 (IntKind.i64.wrap (c1 + 1))))
   else (
     some (decide (((a_a.length : Int) : Int) < (a_b.length : Int))))
def s_l4Less (a_a : List Int) (a_b : List Int) : Option (Bool) :=
 s_l4Less_L1 a_a a_b (((a_a.length : Int) - 0).toNat + 2) 0
theorem s_l4Less_ok (a_a : List Int) (v0_0 : Sv) (a_b : List Int) (v1_0 : Sv) (R : Bool) (hF : s_l4Less a_a a_b = some R) :
   Fw.Spec Tryz.prog 153 [v0_0.v, v1_0.v] [crd (RdS 3 rdInt) v0_0.v a_a, crd (RdS 3 rdInt) v1_0.v a_b] (fun _ : Unit => (.bool R)) (fun _ => []) := by
 refine Se 41 Tryz.func153 [.tmp 4] ?_
 intro H0 F0
 unfold s_l4Less at hF
 iterate 7 refine au ?_
 refine CW_block (CW_loop (m := (((a_a.length : Int) - 0).toNat + 2)) (fun m2 f' cs' => ∃ (g : Fr) (c1 : Int), f' = updL g [(0, v0_0.v), (1, v1_0.v), (5, (.int .i64 c1))] ∧ Ent cs' [crd (RdS 3 rdInt) v0_0.v a_a, crd (RdS 3 rdInt) v1_0.v a_b] ∧ s_l4Less_L1 a_a a_b m2 c1 = some R) ⟨_, _, eqA, entA, hF⟩ ?_)
 rintro m2 _ _ ⟨g3, c1, rfl, hE, hF⟩
 refine K_ent hE ?_
 rcases m2 with _ | m2
 · rw [s_l4Less_L1] at hF
   exact absurd hF (by simp)
 rw [s_l4Less_L1] at hF
 iterate 2 refine au ?_
 refine C_cut (fun f' cs' => ∃ (g : Fr), f' = updL g [(0, v0_0.v), (1, v1_0.v), (5, (.int .i64 c1)), (15, (.bool ((decide ((c1 : Int) < (a_a.length : Int))) && (decide ((c1 : Int) < (a_b.length : Int))))))] ∧ Ent cs' [crd (RdS 3 rdInt) v0_0.v a_a, crd (RdS 3 rdInt) v1_0.v a_b]) ?_ ?_
 · iterate 5 refine au ?_
   rcases Bool.eq_false_or_eq_true (decide ((c1 : Int) < (a_a.length : Int))) with hg10 | hg10
   · rw [hg10]
     try rw [hg10] at hF; dsimp only [cond_true, cond_false] at hF
     iterate 10 refine au ?_
     exact ⟨_, eqA, entA⟩
   rw [hg10]
   try rw [hg10] at hF; dsimp only [cond_true, cond_false] at hF
   iterate 6 refine au ?_
   exact ⟨_, eqA, entA⟩
 rintro _ _ ⟨g11, rfl, hE⟩
 refine K_ent hE ?_
 refine Ci hF (fun hb37 hF => ?_) (fun hb37 hF => ?_)
 · iterate 2 refine au ?_
   refine K_draw [0, 1, 2, 3, 4, 5, 6, 7, 8] [0, 0, 3, 7, 0, 0, 48, 112, 255] [] mixed (by decide +kernel) ?_
   iterate 2 refine du ?_
   refine bnd hF fun x12 hx13 hF => ?_
   obtain ⟨hp14, hx15⟩ := ix_some hx13
   refine Di hx15 (fun k16 j17 => ?_)
   refine Dl ls3_0 ?_
   iterate 2 refine du ?_
   refine bnd hF fun x18 hx19 hF => ?_
   obtain ⟨hp20, hx21⟩ := ix_some hx19
   refine Di hx21 (fun k22 j23 => ?_)
   refine Dl ls3_0 ?_
   iterate 2 refine du ?_
   refine Ci hF (fun hb36 hF => ?_) (fun hb36 hF => ?_)
   · refine K_draw [0, 1, 2, 3, 4, 5, 6, 7, 8, 9] [0, 0, 3, 7, 0, 0, 48, 112, 255, 511] [] mixed (by decide +kernel) ?_
     iterate 2 refine du ?_
     refine bnd hF fun x24 hx25 hF => ?_
     obtain ⟨hp26, hx27⟩ := ix_some hx25
     refine Di hx27 (fun k28 j29 => ?_)
     refine Dl ls3_0 ?_
     iterate 2 refine du ?_
     refine bnd hF fun x30 hx31 hF => ?_
     obtain ⟨hp32, hx33⟩ := ix_some hx31
     refine Di hx33 (fun k34 j35 => ?_)
     refine Dl ls3_0 ?_
     iterate 3 refine du ?_
     refine au ?_
     cases hF
     exact Er ()
   iterate 6 refine au ?_
   exact ⟨m2, Nat.lt_succ_self _, _, _, eqA, entA, hF⟩
 iterate 13 refine au ?_
 cases hF
 exact Er ()
def s_AddTuple_L2 (a_t : List Int) : List (List Int) → Nat → (List (List Int)) → Bool → Option ((List (List Int)))
 | [], k22, c15, c18 => if (!c18) then (
     (app ([] : List Int) a_t).bind fun z32 =>
     (app c15 ([z32] : List (List Int))).bind fun z36 =>
     some z36)
   else (
     some c15)
 | x24 :: rest23, k22, c15, c18 => ((bif (!c18) then ((s_l4Less a_t x24).bind fun r48 =>
         some r48)
       else (some false)).bind fun o42 =>
     match o42 with
     | c51 => if c51 then (
         (app ([] : List Int) a_t).bind fun z53 =>
         (app c15 ([z53] : List (List Int))).bind fun z57 =>
         (app ([] : List Int) x24).bind fun z64 =>
         (app z57 ([z64] : List (List Int))).bind fun z68 =>
         some (z68, true))
       else (
         (app ([] : List Int) x24).bind fun z75 =>
         (app c15 ([z75] : List (List Int))).bind fun z79 =>
         some (z79, c18))).bind fun o40 =>
   match o40 with
   | (c84, c87) => s_AddTuple_L2 a_t rest23 (k22 + 1) c84 c87
def s_AddTuple_L1 (a_l : List (List Int)) (a_t : List Int) : List (List Int) → Nat → Bool → Option ((List (List Int)))
 | [], k6, c2 => s_AddTuple_L2 a_t a_l 0 ([] : List (List Int)) c2
 | x8 :: rest7, k6, c2 => (bif c2 then (some true)
     else ((s_l2Ints x8 a_t).bind fun r96 =>
       some r96)).bind fun o90 =>
   match o90 with
   | c99 => s_AddTuple_L1 a_l a_t rest7 (k6 + 1) c99
def s_AddTuple (a_l : List (List Int)) (a_t : List Int) : Option ((List (List Int))) :=
 s_AddTuple_L1 a_l a_t a_l 0 false
theorem s_AddTuple_ok (a_l : List (List Int)) (v0_0 : Sv) (a_t : List Int) (v1_0 : Sv) (R : (List (List Int))) (hF : s_AddTuple a_l a_t = some R) :
   Fw.Spec Tryz.prog 108 [v0_0.v, v1_0.v] [crd (RdS 24 (RdS 3 rdInt)) v0_0.v a_l, crd (RdS 3 rdInt) v1_0.v a_t] (fun p : Sv × List Nat => p.1.v) (fun p => [cown (OwnS 24 (OwnS 3 (roE rdInt))) p.2 p.1.v R]) := by
 refine Se 65 Tryz.func108 [.tmp 4] ?_
 intro H0 F0
 unfold s_AddTuple at hF
 iterate 4 refine au ?_
 refine C_new rfl (N_buildSliceT (g := true) sl38.h ty24.h .nil (vs := []) rfl rfl rfl (by simp)) (fun k1 => ?_)
 refine Cv1 (.cons .h .nil) (own_lit (Ro := (OwnS 3 (roE rdInt))) (E := 24) (F := []) (xs := ([] : List (List Int))) MkL_nil rfl rfl) ?_
 iterate 9 refine au ?_
 refine CW_block (CW_loop (m := a_l.length) (fun m4 f' cs' => ∃ (g : Fr) (k6 : Nat) (rest7 : List (List Int)) (c2 : Bool), m4 = rest7.length ∧ f' = updL g [(0, v0_0.v), (1, v1_0.v), (5, (.slice (some ⟨k1, 0, none⟩) 0 1)), (6, (.bool c2)), (7, (.int .i64 (k6 : Int)))] ∧ List.drop k6 a_l = rest7 ∧ Ent cs' [crd (RdS 24 (RdS 3 rdInt)) v0_0.v a_l, crd (RdS 3 rdInt) v1_0.v a_t, cown (OwnS 24 (OwnS 3 (roE rdInt))) (k1 :: []) (.slice (some ⟨k1, 0, none⟩) 0 1) ([] : List (List Int))] ∧ s_AddTuple_L1 a_l a_t rest7 k6 c2 = some R) ⟨_, 0, _, _, rfl, eqA, rfl, entA, hF⟩ ?_)
 rintro m4 _ _ ⟨g5, k6, rest7, c2, rfl, rfl, hd9, hE, hF⟩
 refine Kb hE a_l (fun hbd14 => ?_)
 rcases rest7 with _ | ⟨x8, rest7⟩
 · have hk10 := dn hd9
   rw [s_AddTuple_L1] at hF
   iterate 7 refine au ?_
   refine CdF ?_
   iterate 8 refine au ?_
   refine CW_block (CW_loop (m := a_l.length) (fun m20 f' cs' => ∃ (g : Fr) (k22 : Nat) (rest23 : List (List Int)) (c15 : List (List Int)) (c18 : Bool) (v16 : Sv) (F17 : List Nat), m20 = rest23.length ∧ f' = updL g [(0, v0_0.v), (1, v1_0.v), (5, v16.v), (6, (.bool c18)), (8, (.int .i64 (k22 : Int)))] ∧ List.drop k22 a_l = rest23 ∧ Ent cs' [crd (RdS 24 (RdS 3 rdInt)) v0_0.v a_l, crd (RdS 3 rdInt) v1_0.v a_t, cown (OwnS 24 (OwnS 3 (roE rdInt))) F17 v16.v c15] ∧ s_AddTuple_L2 a_t rest23 k22 c15 c18 = some R) ⟨_, 0, _, _, _, ⟨(some ⟨k1, 0, none⟩), 0, 1⟩, (k1 :: []), rfl, eqA, rfl, entA, hF⟩ ?_)
   rintro m20 _ _ ⟨g21, k22, rest23, c15, c18, v16, F17, rfl, rfl, hd25, hE, hF⟩
   refine Kb hE a_l (fun hbd30 => ?_)
   rcases rest23 with _ | ⟨x24, rest23⟩
   · have hk26 := dn hd25
     rw [s_AddTuple_L2] at hF
     iterate 7 refine au ?_
     refine CdF ?_
     iterate 9 refine au ?_
     refine Ci hF (fun hb39 hF => ?_) (fun hb39 hF => ?_)
     · iterate 2 refine au ?_
       refine C_new rfl (N_buildSliceT (g := true) sl24.h ty3.h .nil (vs := []) rfl rfl rfl (by simp)) (fun k31 => ?_)
       refine Cv1 (.cons .h .nil) (own_lit (Ro := (roE rdInt)) (E := 3) (F := []) (xs := ([] : List Int)) MkL_nil rfl rfl) ?_
       refine au ?_
       refine bnd hF fun z32 hx33 hF => C_x1 (.cons .h (.rd (.t .h) rfl .nil)) (X_appendO (Ro := (roE rdInt)) sl24.h ni24 ty3.h rfl rfl rfl (.tmp rfl rfl) (.tmp rfl rfl) hx33 src_rd) (fun p34 => ?_)
       refine C_new rfl (N_buildSliceT (g := true) sl38.h ty24.h (.cons (.tmp rfl rfl) .nil) (vs := [p34.1.v]) rfl rfl rfl (by intro v hv; simp at hv; rcases hv with rfl <;> rfl)) (fun k35 => ?_)
       refine Cv1 (.cons .h (.cons .h .nil)) (own_lit (Ro := (OwnS 3 (roE rdInt))) (E := 24) (F := (p34.2 ++ [])) (xs := ([z32] : List (List Int))) (MkL_cons Mk_own MkL_nil apps) rfl rfl) ?_
       refine bnd hF fun z36 hx37 hF => C_x1 (.cons (.t (.t (.t .h))) (.cons .h .nil)) (X_appendO (Ro := (OwnS 3 (roE rdInt))) sl38.h ni38 ty24.h rfl rfl rfl (.tmp rfl rfl) (.tmp rfl rfl) hx37 src_own) (fun p38 => ?_)
       iterate 7 refine au ?_
       cases hF
       exact Er (p38.1, p38.2)
     iterate 6 refine au ?_
     cases hF
     exact Er (v16, F17)
   obtain ⟨hk26, hx27, hd28⟩ := drop_cons hd25
   rw [s_AddTuple_L2] at hF
   iterate 7 refine au ?_
   refine CdT ?_
   refine au ?_
   obtain ⟨o40, hio40, hO41⟩ := bind_some hF
   refine K_cut (fun f' cs' => ∃ (c84 : List (List Int)) (c87 : Bool) (v85 : Sv) (F86 : List Nat) (g : Fr), o40 = (c84, c87) ∧ f' = updL g [(0, v0_0.v), (1, v1_0.v), (5, v85.v), (6, (.bool c87)), (8, (.int .i64 (k22 : Int)))] ∧ Ent cs' [crd (RdS 24 (RdS 3 rdInt)) v0_0.v a_l, crd (RdS 3 rdInt) v1_0.v a_t, cown (OwnS 24 (OwnS 3 (roE rdInt))) F86 v85.v c84]) ?_ ?_
   · replace hF := hio40
     refine CW_block (K_in ?_)
     obtain ⟨o42, hio42, hO43⟩ := bind_some hF
     refine au ?_
     refine C_cut (fun f' cs' => ∃ (c51 : Bool) (g : Fr), c51 = o42 ∧ f' = updL g [(0, v0_0.v), (1, v1_0.v), (5, v16.v), (6, (.bool c18)), (8, (.int .i64 (k22 : Int))), (40, (.bool c51))] ∧ Ent cs' [crd (RdS 24 (RdS 3 rdInt)) v0_0.v a_l, crd (RdS 3 rdInt) v1_0.v a_t, cown (OwnS 24 (OwnS 3 (roE rdInt))) F17 v16.v c15]) ?_ ?_
     · replace hF := hio42
       iterate 3 refine au ?_
       rcases Bool.eq_false_or_eq_true (!c18) with hg44 | hg44
       · rw [hg44]
         try rw [hg44] at hF; dsimp only [cond_true, cond_false] at hF
         iterate 7 refine au ?_
         refine Ai hx27 (fun k45 j46 => ?_)
         refine au ?_
         refine C_ldV (R' := (RdS 3 rdInt)) ag24.h (.tmp rfl rfl) .h lv24_0 (fun w47 => ?_)
         refine au ?_
         refine bnd hF fun r48 hx49 hF => Cx0 (s_l4Less_ok _ _ _ _ _ hx49) (fun _ => ?_)
         iterate 2 refine au ?_
         cases hF
         exact ⟨_, _, rfl, eqA, entA⟩
       rw [hg44]
       try rw [hg44] at hF; dsimp only [cond_true, cond_false] at hF
       iterate 8 refine au ?_
       cases hF
       exact ⟨_, _, rfl, eqA, entA⟩
     rintro _ _ ⟨c51, g83, rfl, rfl, hE⟩
     replace hF := hO43
     try dsimp only at hF
     refine K_ent hE ?_
     refine Ci hF (fun hb82 hF => ?_) (fun hb82 hF => ?_)
     · iterate 2 refine au ?_
       refine C_new rfl (N_buildSliceT (g := true) sl24.h ty3.h .nil (vs := []) rfl rfl rfl (by simp)) (fun k52 => ?_)
       refine Cv1 (.cons .h .nil) (own_lit (Ro := (roE rdInt)) (E := 3) (F := []) (xs := ([] : List Int)) MkL_nil rfl rfl) ?_
       refine au ?_
       refine bnd hF fun z53 hx54 hF => C_x1 (.cons .h (.rd (.t .h) rfl .nil)) (X_appendO (Ro := (roE rdInt)) sl24.h ni24 ty3.h rfl rfl rfl (.tmp rfl rfl) (.tmp rfl rfl) hx54 src_rd) (fun p55 => ?_)
       refine C_new rfl (N_buildSliceT (g := true) sl38.h ty24.h (.cons (.tmp rfl rfl) .nil) (vs := [p55.1.v]) rfl rfl rfl (by intro v hv; simp at hv; rcases hv with rfl <;> rfl)) (fun k56 => ?_)
       refine Cv1 (.cons .h (.cons .h .nil)) (own_lit (Ro := (OwnS 3 (roE rdInt))) (E := 24) (F := (p55.2 ++ [])) (xs := ([z53] : List (List Int))) (MkL_cons Mk_own MkL_nil apps) rfl rfl) ?_
       refine bnd hF fun z57 hx58 hF => C_x1 (.cons (.t (.t (.t .h))) (.cons .h .nil)) (X_appendO (Ro := (OwnS 3 (roE rdInt))) sl38.h ni38 ty24.h rfl rfl rfl (.tmp rfl rfl) (.tmp rfl rfl) hx58 src_own) (fun p59 => ?_)
       iterate 7 refine au ?_
       refine C_new rfl (N_buildSliceT (g := true) sl24.h ty3.h .nil (vs := []) rfl rfl rfl (by simp)) (fun k60 => ?_)
       refine Cv1 (.cons .h .nil) (own_lit (Ro := (roE rdInt)) (E := 3) (F := []) (xs := ([] : List Int)) MkL_nil rfl rfl) ?_
       iterate 2 refine au ?_
       refine Ai hx27 (fun k61 j62 => ?_)
       refine C_ldV (R' := (RdS 3 rdInt)) ag24.h (.tmp rfl rfl) .h lv24_0 (fun w63 => ?_)
       refine bnd hF fun z64 hx65 hF => C_x1 (.cons (.t (.t .h)) (.rd .h rfl .nil)) (X_appendO (Ro := (roE rdInt)) sl24.h ni24 ty3.h rfl rfl rfl (.tmp rfl rfl) (.tmp rfl rfl) hx65 src_rd) (fun p66 => ?_)
       refine C_new rfl (N_buildSliceT (g := true) sl38.h ty24.h (.cons (.tmp rfl rfl) .nil) (vs := [p66.1.v]) rfl rfl rfl (by intro v hv; simp at hv; rcases hv with rfl <;> rfl)) (fun k67 => ?_)
       refine Cv1 (.cons .h (.cons .h .nil)) (own_lit (Ro := (OwnS 3 (roE rdInt))) (E := 24) (F := (p66.2 ++ [])) (xs := ([z64] : List (List Int))) (MkL_cons Mk_own MkL_nil apps) rfl rfl) ?_
       refine bnd hF fun z68 hx69 hF => C_x1 (.cons (.t (.t (.t .h))) (.cons .h .nil)) (X_appendO (Ro := (OwnS 3 (roE rdInt))) sl38.h ni38 ty24.h rfl rfl rfl (.tmp rfl rfl) (.tmp rfl rfl) hx69 src_own) (fun p70 => ?_)
       iterate 2 refine au ?_
       cases hF
       exact ⟨_, _, p70.1, p70.2, _, rfl, eqA, entA⟩
     iterate 3 refine au ?_
     refine C_new rfl (N_buildSliceT (g := true) sl24.h ty3.h .nil (vs := []) rfl rfl rfl (by simp)) (fun k71 => ?_)
     refine Cv1 (.cons .h .nil) (own_lit (Ro := (roE rdInt)) (E := 3) (F := []) (xs := ([] : List Int)) MkL_nil rfl rfl) ?_
     iterate 2 refine au ?_
     refine Ai hx27 (fun k72 j73 => ?_)
     refine C_ldV (R' := (RdS 3 rdInt)) ag24.h (.tmp rfl rfl) .h lv24_0 (fun w74 => ?_)
     refine bnd hF fun z75 hx76 hF => C_x1 (.cons (.t (.t .h)) (.rd .h rfl .nil)) (X_appendO (Ro := (roE rdInt)) sl24.h ni24 ty3.h rfl rfl rfl (.tmp rfl rfl) (.tmp rfl rfl) hx76 src_rd) (fun p77 => ?_)
     refine C_new rfl (N_buildSliceT (g := true) sl38.h ty24.h (.cons (.tmp rfl rfl) .nil) (vs := [p77.1.v]) rfl rfl rfl (by intro v hv; simp at hv; rcases hv with rfl <;> rfl)) (fun k78 => ?_)
     refine Cv1 (.cons .h (.cons .h .nil)) (own_lit (Ro := (OwnS 3 (roE rdInt))) (E := 24) (F := (p77.2 ++ [])) (xs := ([z75] : List (List Int))) (MkL_cons Mk_own MkL_nil apps) rfl rfl) ?_
     refine bnd hF fun z79 hx80 hF => C_x1 (.cons (.t (.t (.t (.t (.t .h))))) (.cons .h .nil)) (X_appendO (Ro := (OwnS 3 (roE rdInt))) sl38.h ni38 ty24.h rfl rfl rfl (.tmp rfl rfl) (.tmp rfl rfl) hx80 src_own) (fun p81 => ?_)
     iterate 2 refine au ?_
     cases hF
     exact ⟨_, _, p81.1, p81.2, _, rfl, eqA, entA⟩
   rintro _ _ ⟨c84, c87, v85, F86, g89, rfl, rfl, hE⟩
   replace hF := hO41
   try dsimp only at hF
   refine K_ent hE ?_
   iterate 5 refine au ?_
   rw [wk k22]
   exact ⟨_, Nat.lt_succ_self _, _, k22 + 1, rest23, _, _, v85, F86, rfl, eqA, hd28, entA, hF⟩
 obtain ⟨hk10, hx11, hd12⟩ := drop_cons hd9
 rw [s_AddTuple_L1] at hF
 iterate 7 refine au ?_
 refine CdT ?_
 iterate 2 refine au ?_
 obtain ⟨o90, hio90, hO91⟩ := bind_some hF
 refine au ?_
 refine C_cut (fun f' cs' => ∃ (c99 : Bool) (g : Fr), c99 = o90 ∧ f' = updL g [(0, v0_0.v), (1, v1_0.v), (5, (.slice (some ⟨k1, 0, none⟩) 0 1)), (6, (.bool c99)), (7, (.int .i64 (k6 : Int)))] ∧ Ent cs' [crd (RdS 24 (RdS 3 rdInt)) v0_0.v a_l, crd (RdS 3 rdInt) v1_0.v a_t, cown (OwnS 24 (OwnS 3 (roE rdInt))) (k1 :: []) (.slice (some ⟨k1, 0, none⟩) 0 1) ([] : List (List Int))]) ?_ ?_
 · replace hF := hio90
   iterate 2 refine au ?_
   rcases Bool.eq_false_or_eq_true c2 with hg92 | hg92
   · rw [hg92]
     try rw [hg92] at hF; dsimp only [cond_true, cond_false] at hF
     iterate 9 refine au ?_
     cases hF
     exact ⟨_, _, rfl, eqA, entA⟩
   rw [hg92]
   try rw [hg92] at hF; dsimp only [cond_true, cond_false] at hF
   iterate 5 refine au ?_
   refine Ai hx11 (fun k93 j94 => ?_)
   refine au ?_
   refine C_ldV (R' := (RdS 3 rdInt)) ag24.h (.tmp rfl rfl) .h lv24_0 (fun w95 => ?_)
   iterate 3 refine au ?_
   refine bnd hF fun r96 hx97 hF => Cx0 (s_l2Ints_ok _ _ _ _ _ hx97) (fun _ => ?_)
   iterate 3 refine au ?_
   cases hF
   exact ⟨_, _, rfl, eqA, entA⟩
 rintro _ _ ⟨c99, g101, rfl, rfl, hE⟩
 replace hF := hO91
 try dsimp only at hF
 refine K_ent hE ?_
 iterate 5 refine au ?_
 rw [wk k6]
 exact ⟨_, Nat.lt_succ_self _, _, k6 + 1, rest7, _, rfl, eqA, hd12, entA, hF⟩
def s_l4Tuples_L2 (c3 : List (List Int)) (x11 : Binding) : List Int → Nat → (List Int) → Option ((List (List Int)))
 | [], k27, c21 => (s_AddTuple c3 c21).bind fun r36 =>
   some r36
 | x29 :: rest28, k27, c21 => (s_ValueOf x11 x29).bind fun r44 =>
   (app c21 ([r44] : List Int)).bind fun z48 =>
   s_l4Tuples_L2 c3 x11 rest28 (k27 + 1) z48
def s_l4Tuples_L1 (a_q : Query) : List Binding → Nat → (List (List Int)) → Option ((List (List Int)))
 | [], k9, c3 => some c3
 | x11 :: rest10, k9, c3 => (s_l4Tuples_L2 c3 x11 a_q.Head 0 ([] : List Int)).bind fun o18 =>
   match o18 with
   | c52 => s_l4Tuples_L1 a_q rest10 (k9 + 1) c52
def s_l4Tuples (a_q : Query) (a_l : List Binding) : Option ((List (List Int))) :=
 s_l4Tuples_L1 a_q a_l 0 ([] : List (List Int))
theorem s_l4Tuples_ok (a_q : Query) (v0_0 : Sv) (v0_1 : Sv) (a_l : List Binding) (v1_0 : Sv) (R : (List (List Int))) (hF : s_l4Tuples a_q a_l = some R) :
   Fw.Spec Tryz.prog 57 [(.agg [v0_0.v, v0_1.v].toArray), v1_0.v] [crd (RdS 3 rdInt) v0_0.v a_q.Head, crd (RdS 78 rd78) v0_1.v a_q.Atoms, crd (RdS 127 rd127) v1_0.v a_l] (fun p : Sv × List Nat => p.1.v) (fun p => [cown (OwnS 24 (OwnS 3 (roE rdInt))) p.2 p.1.v R]) := by
 refine Se 41 Tryz.func57 [.tmp 4] ?_
 intro H0 F0
 unfold s_l4Tuples at hF
 refine au ?_
 refine AbR (fun k1 => ?_)
 iterate 3 refine au ?_
 refine C_new rfl (N_buildSliceT (g := true) sl38.h ty24.h .nil (vs := []) rfl rfl rfl (by simp)) (fun k2 => ?_)
 refine Cv1 (.cons .h .nil) (own_lit (Ro := (OwnS 3 (roE rdInt))) (E := 24) (F := []) (xs := ([] : List (List Int))) MkL_nil rfl rfl) ?_
 iterate 6 refine au ?_
 refine CW_block (CW_loop (m := a_l.length) (fun m7 f' cs' => ∃ (g : Fr) (k9 : Nat) (rest10 : List Binding) (c3 : List (List Int)) (v4 : Sv) (F5 : List Nat), m7 = rest10.length ∧ f' = updL g [(1, v1_0.v), (2, (pz k1)), (5, v4.v), (6, (.int .i64 (k9 : Int)))] ∧ List.drop k9 a_l = rest10 ∧ Ent cs' [crd (RdS 127 rd127) v1_0.v a_l, cboR k1 27 (.agg [v0_0.v, v0_1.v].toArray), crd (RdS 3 rdInt) v0_0.v a_q.Head, crd (RdS 78 rd78) v0_1.v a_q.Atoms, cown (OwnS 24 (OwnS 3 (roE rdInt))) F5 v4.v c3] ∧ s_l4Tuples_L1 a_q rest10 k9 c3 = some R) ⟨_, 0, _, _, ⟨(some ⟨k2, 0, none⟩), 0, 1⟩, (k2 :: []), rfl, eqA, rfl, entA, hF⟩ ?_)
 rintro m7 _ _ ⟨g8, k9, rest10, c3, v4, F5, rfl, rfl, hd12, hE, hF⟩
 refine Kb hE a_l (fun hbd17 => ?_)
 rcases rest10 with _ | ⟨x11, rest10⟩
 · have hk13 := dn hd12
   rw [s_l4Tuples_L1] at hF
   iterate 7 refine au ?_
   refine CdF ?_
   iterate 9 refine au ?_
   cases hF
   exact Er (v4, F5)
 obtain ⟨hk13, hx14, hd15⟩ := drop_cons hd12
 rw [s_l4Tuples_L1] at hF
 iterate 7 refine au ?_
 refine CdT ?_
 refine au ?_
 obtain ⟨o18, hio18, hO19⟩ := bind_some hF
 refine K_cut (fun f' cs' => ∃ (c52 : List (List Int)) (v53 : Sv) (F54 : List Nat) (g : Fr), c52 = o18 ∧ f' = updL g [(1, v1_0.v), (2, (pz k1)), (5, v53.v), (6, (.int .i64 (k9 : Int)))] ∧ Ent cs' [crd (RdS 127 rd127) v1_0.v a_l, cboR k1 27 (.agg [v0_0.v, v0_1.v].toArray), crd (RdS 3 rdInt) v0_0.v a_q.Head, crd (RdS 78 rd78) v0_1.v a_q.Atoms, cown (OwnS 24 (OwnS 3 (roE rdInt))) F54 v53.v c52]) ?_ ?_
 · replace hF := hio18
   refine CW_block (K_region (C_new rfl (N_buildSliceT (g := true) sl24.h ty3.h .nil (vs := []) rfl rfl rfl (by simp)) (fun k20 => ?_)))
   refine Cv1 (.cons .h .nil) (own_lit (Ro := (roE rdInt)) (E := 3) (F := []) (xs := ([] : List Int)) MkL_nil rfl rfl) ?_
   iterate 6 refine au ?_
   refine CW_block (CW_loop (m := a_q.Head.length) (fun m25 f' cs' => ∃ (g : Fr) (k27 : Nat) (rest28 : List Int) (c21 : List Int) (v22 : Sv) (F23 : List Nat), m25 = rest28.length ∧ f' = updL g [(1, v1_0.v), (2, (pz k1)), (5, v4.v), (6, (.int .i64 (k9 : Int))), (7, v22.v), (8, (.int .i64 (k27 : Int)))] ∧ List.drop k27 a_q.Head = rest28 ∧ Ent cs' [crd (RdS 127 rd127) v1_0.v a_l, cboR k1 27 (.agg [v0_0.v, v0_1.v].toArray), crd (RdS 3 rdInt) v0_0.v a_q.Head, crd (RdS 78 rd78) v0_1.v a_q.Atoms, cown (OwnS 24 (OwnS 3 (roE rdInt))) F5 v4.v c3, cown (OwnS 3 (roE rdInt)) F23 v22.v c21] ∧ s_l4Tuples_L2 c3 x11 rest28 k27 c21 = some o18) ⟨_, 0, _, _, ⟨(some ⟨k20, 0, none⟩), 0, 1⟩, (k20 :: []), rfl, eqA, rfl, entA, hF⟩ ?_)
   rintro m25 _ _ ⟨g26, k27, rest28, c21, v22, F23, rfl, rfl, hd30, hE, hF⟩
   refine Kb hE a_q.Head (fun hbd35 => ?_)
   rcases rest28 with _ | ⟨x29, rest28⟩
   · have hk31 := dn hd30
     rw [s_l4Tuples_L2] at hF
     iterate 8 refine au ?_
     refine CdF ?_
     iterate 7 refine au ?_
     refine bnd hF fun r36 hx37 hF => C_x3 (.cons (.t (.t (.t (.t (.t .h))))) (.cons (.t (.t (.t (.t .h)))) .nil)) (XC_borL (pre := []) (.cons frz_own (.cons frz_own .nil)) (fun _ => (.cons .nil)) (X_callS cf108.h (.cons (.tmp rfl rfl) (.cons (.tmp rfl rfl) .nil)) (s_AddTuple_ok c3 v4 c21 v22 _ hx37))) (fun p38 => ?_)
     iterate 2 refine au ?_
     cases hF
     exact ⟨_, p38.1, p38.2, _, rfl, eqA, entA⟩
   obtain ⟨hk31, hx32, hd33⟩ := drop_cons hd30
   rw [s_l4Tuples_L2] at hF
   iterate 8 refine au ?_
   refine CdT ?_
   iterate 2 refine au ?_
   refine CW_draw [0, 1, 2, 3, 4, 5, 6, 7, 8, 9, 10, 11, 12, 13] [0, 0, 0, 6, 14, 0, 32, 0, 224, 480, 1022, 2046, 4095, 8191] [10, 12] mixed (by decide +kernel) ?_
   iterate 3 refine du ?_
   refine Di hx14 (fun k39 j40 => ?_)
   refine DlA2 (ul127_0_127 x11) la127_0_127 (fun p41 => ?_)
   iterate 3 refine du ?_
   refine Di hx32 (fun k42 j43 => ?_)
   refine Dl ls3_0 ?_
   refine bnd hF fun r44 hx45 hF => Dx0 (s_ValueOf_ok _ _ _ _ _ hx45) (fun _ => ?_)
   refine D_new rfl .no rfl (fun ha => N_buildSliceT (g := true) (len := 1) (parts := [(0, .tmp 34)]) sl24.h ty3.h (.cons (EN ha (.tmp rfl rfl) rfl) .nil) (vs := [(.int .i64 r44)]) rfl rfl rfl (by intro v hv; simp at hv; rcases hv with rfl <;> rfl)) (fun k47 => ?_)
   refine Dv1 (.cons .h .nil) (own_lit (Ro := (roE rdInt)) (E := 3) (F := ([] ++ [])) (xs := ([r44] : List Int)) (MkL_cons (Mk_pure (fun _ => rfl)) MkL_nil apps) rfl rfl) ?_
   refine bnd hF fun z48 hx49 hF => D_act1 rfl rfl .no (.cons (.t (.t (.t (.t (.t (.t (.t (.t (.t (.t .h)))))))))) (.cons .h .nil)) (.dep rfl .nil) (fun ha => X_appendO (Ro := (roE rdInt)) sl24.h ni24 ty3.h rfl rfl rfl (EN ha (.tmp rfl rfl) rfl) (EN ha (.tmp rfl rfl) rfl) hx49 src_own) (fun p50 => ?_)
   iterate 2 refine du ?_
   iterate 5 refine au ?_
   rw [wk k27]
   exact ⟨_, Nat.lt_succ_self _, _, k27 + 1, rest28, _, p50.1, p50.2, rfl, eqA, hd33, entA, hF⟩
 rintro _ _ ⟨c52, v53, F54, g56, rfl, rfl, hE⟩
 replace hF := hO19
 try dsimp only at hF
 refine K_ent hE ?_
 iterate 5 refine au ?_
 rw [wk k9]
 exact ⟨_, Nat.lt_succ_self _, _, k9 + 1, rest10, _, v53, F54, rfl, eqA, hd15, entA, hF⟩
def s_AnswersOf (a_s : List Int) (a_q : Query) (a_facts : List Fact) : Option ((List (List Int))) :=
 ((s_IsQuery a_s a_q).bind fun r4 =>
   bif (!r4) then (some true)
   else ((s_AreFacts a_s a_facts).bind fun r8 =>
     some (!r8))).bind fun o2 =>
 match o2 with
 | c11 => if c11 then (
     some ([] : List (List Int)))
   else (
     (s_BindingsOf a_q a_facts).bind fun r13 =>
     (s_l4Tuples a_q r13).bind fun r16 =>
     some r16)
theorem s_AnswersOf_ok (a_s : List Int) (v0_0 : Sv) (a_q : Query) (v1_0 : Sv) (v1_1 : Sv) (a_facts : List Fact) (v2_0 : Sv) (R : (List (List Int))) (hF : s_AnswersOf a_s a_q a_facts = some R) :
   Fw.Spec Tryz.prog 16 [v0_0.v, (.agg [v1_0.v, v1_1.v].toArray), v2_0.v] [crd (RdS 3 rdInt) v0_0.v a_s, crd (RdS 3 rdInt) v1_0.v a_q.Head, crd (RdS 78 rd78) v1_1.v a_q.Atoms, crd (RdS 58 rd58) v2_0.v a_facts] (fun p : Sv × List Nat => p.1.v) (fun p => [cown (OwnS 24 (OwnS 3 (roE rdInt))) p.2 p.1.v R]) := by
 refine Se 23 Tryz.func16 [.tmp 6] ?_
 intro H0 F0
 unfold s_AnswersOf at hF
 refine au ?_
 refine AbR (fun k1 => ?_)
 iterate 3 refine au ?_
 obtain ⟨o2, hio2, hO3⟩ := bind_some hF
 refine au ?_
 refine C_cut (fun f' cs' => ∃ (c11 : Bool) (g : Fr), c11 = o2 ∧ f' = updL g [(2, v2_0.v), (4, (pz k1)), (16, (.bool c11))] ∧ Ent cs' [crd (RdS 58 rd58) v2_0.v a_facts, cboR k1 27 (.agg [v1_0.v, v1_1.v].toArray), crd (RdS 3 rdInt) v1_0.v a_q.Head, crd (RdS 78 rd78) v1_1.v a_q.Atoms]) ?_ ?_
 · replace hF := hio2
   iterate 2 refine au ?_
   refine bnd hF fun r4 hx5 hF => Cx0 (s_IsQuery_ok _ _ _ _ _ _ hx5) (fun _ => ?_)
   iterate 2 refine au ?_
   rcases Bool.eq_false_or_eq_true (!r4) with hg7 | hg7
   · rw [hg7]
     try rw [hg7] at hF; dsimp only [cond_true, cond_false] at hF
     iterate 6 refine au ?_
     cases hF
     exact ⟨_, _, rfl, eqA, entA⟩
   rw [hg7]
   try rw [hg7] at hF; dsimp only [cond_true, cond_false] at hF
   iterate 5 refine au ?_
   refine bnd hF fun r8 hx9 hF => Cx0 (s_AreFacts_ok _ _ _ _ _ hx9) (fun _ => ?_)
   iterate 4 refine au ?_
   cases hF
   exact ⟨_, _, rfl, eqA, entA⟩
 rintro _ _ ⟨c11, g20, rfl, rfl, hE⟩
 replace hF := hO3
 try dsimp only at hF
 refine K_ent hE ?_
 refine Ci hF (fun hb19 hF => ?_) (fun hb19 hF => ?_)
 · refine au ?_
   refine C_new rfl (N_buildSliceT (g := true) sl38.h ty24.h .nil (vs := []) rfl rfl rfl (by simp)) (fun k12 => ?_)
   refine Cv1 (.cons .h .nil) (own_lit (Ro := (OwnS 3 (roE rdInt))) (E := 24) (F := []) (xs := ([] : List (List Int))) MkL_nil rfl rfl) ?_
   iterate 3 refine au ?_
   cases hF
   exact Er (⟨(some ⟨k12, 0, none⟩), 0, 1⟩, (k12 :: []))
 refine au ?_
 refine K_draw [0, 1, 2, 3, 4, 5] [0, 0, 0, 6, 15, 31] [3, 4] mixed (by decide +kernel) ?_
 iterate 3 refine du ?_
 refine bnd hF fun r13 hx14 hF => Dx1 (s_BindingsOf_ok _ _ _ _ _ _ hx14) (fun p15 => ?_)
 refine bnd hF fun r16 hx17 hF => D_act2 rfl rfl .no (.cons .h (.rd (.t (.t .h)) rfl (.rd (.t (.t (.t .h))) rfl .nil))) .nil (fun ha => XC_bor frz_own (fun _ => (.cons .nil)) (XC_pre (.rd (.t .h) rfl (.rd (.t (.t .h)) rfl (.rd .h rfl .nil))) (X_callS cf57.h (.cons (EN ha (.tmp rfl rfl) rfl) (.cons (EN ha (.tmp rfl rfl) rfl) .nil)) (s_l4Tuples_ok a_q v1_0 v1_1 r13 p15.1 _ hx17)))) (fun p18 => ?_)
 iterate 2 refine du ?_
 refine au ?_
 cases hF
 exact Er (p18.1, p18.2)
def i_IsSchema_1 (a_n : Int) : Option (Bool) :=
 (i_within a_n 1 3).bind fun r1 =>
 some (!r1)
theorem i_IsSchema_1_ok (a_n : Int) (R : Bool) (hF : i_IsSchema_1 a_n = some R) :
   Fw.Spec Tryz.prog 156 [(.int .i64 a_n)] [] (fun _ : Unit => (.bool R)) (fun _ => []) := by
 refine Se 6 Tryz.func156 [.tmp 2] ?_
 intro H0 F0
 unfold i_IsSchema_1 at hF
 iterate 5 refine au ?_
 refine bnd hF fun r1 hx2 hF => Cx0 (i_within_ok _ _ _ _ hx2) (fun _ => ?_)
 iterate 4 refine au ?_
 cases hF
 exact Er ()
def g_slices_IndexFunc_int_int_iIsSchema1_L1 : List Int → Nat → Option (Int)
 | [], k4 => some (-1)
 | x6 :: rest5, k4 => (i_IsSchema_1 x6).bind fun r15 =>
   if r15 then (
     some (k4 : Int))
   else (
     g_slices_IndexFunc_int_int_iIsSchema1_L1 rest5 (k4 + 1))
def g_slices_IndexFunc_int_int_iIsSchema1 (a_s : List Int) : Option (Int) :=
 g_slices_IndexFunc_int_int_iIsSchema1_L1 a_s 0
theorem g_slices_IndexFunc_int_int_iIsSchema1_ok (a_s : List Int) (v0_0 : Sv) (R : Int) (hF : g_slices_IndexFunc_int_int_iIsSchema1 a_s = some R) :
   Fw.Spec Tryz.prog 185 [v0_0.v, (.func (.func 156) [].toArray [].toArray)] [crd (RdS 3 rdInt) v0_0.v a_s] (fun _ : Unit => (.int .i64 R)) (fun _ => []) := by
 refine Se 19 Tryz.func185 [.tmp 4] ?_
 intro H0 F0
 unfold g_slices_IndexFunc_int_int_iIsSchema1 at hF
 iterate 9 refine au ?_
 refine CW_block (CW_loop (m := a_s.length) (fun m2 f' cs' => ∃ (g : Fr) (k4 : Nat) (rest5 : List Int), m2 = rest5.length ∧ f' = updL g [(0, v0_0.v), (1, (.func (.func 156) [].toArray [].toArray)), (7, (.int .i64 (a_s.length : Int))), (8, (.int .i64 (k4 : Int)))] ∧ List.drop k4 a_s = rest5 ∧ Ent cs' [crd (RdS 3 rdInt) v0_0.v a_s] ∧ g_slices_IndexFunc_int_int_iIsSchema1_L1 rest5 k4 = some R) ⟨_, 0, _, rfl, eqA, rfl, entA, hF⟩ ?_)
 rintro m2 _ _ ⟨g3, k4, rest5, rfl, rfl, hd7, hE, hF⟩
 refine Kb hE a_s (fun hbd12 => ?_)
 rcases rest5 with _ | ⟨x6, rest5⟩
 · have hk8 := dn hd7
   rw [g_slices_IndexFunc_int_int_iIsSchema1_L1] at hF
   iterate 4 refine au ?_
   refine CdF ?_
   iterate 8 refine au ?_
   cases hF
   exact Er ()
 obtain ⟨hk8, hx9, hd10⟩ := drop_cons hd7
 rw [g_slices_IndexFunc_int_int_iIsSchema1_L1] at hF
 iterate 4 refine au ?_
 refine CdT ?_
 iterate 10 refine au ?_
 refine Ai hx9 (fun k13 j14 => ?_)
 refine Al ls3_0 ?_
 refine bnd hF fun r15 hx16 hF => C_x0 .nil (X_callCS cf156.h (.tmp rfl rfl) (.cons (.tmp rfl rfl) .nil) (i_IsSchema_1_ok x6 _ hx16)) (fun _ => ?_)
 refine au ?_
 refine Ci hF (fun hb19 hF => ?_) (fun hb19 hF => ?_)
 · iterate 5 refine au ?_
   cases hF
   exact Er ()
 iterate 5 refine au ?_
 rw [wk k4]
 exact ⟨_, Nat.lt_succ_self _, _, k4 + 1, rest5, rfl, eqA, hd10, entA, hF⟩
def g_slices_ContainsFunc_int_int_iIsSchema1 (a_s : List Int) : Option (Bool) :=
 (g_slices_IndexFunc_int_int_iIsSchema1 a_s).bind fun r1 =>
 some (decide ((0 : Int) ≤ r1))
theorem g_slices_ContainsFunc_int_int_iIsSchema1_ok (a_s : List Int) (v0_0 : Sv) (R : Bool) (hF : g_slices_ContainsFunc_int_int_iIsSchema1 a_s = some R) :
   Fw.Spec Tryz.prog 155 [v0_0.v, (.func (.func 156) [].toArray [].toArray)] [crd (RdS 3 rdInt) v0_0.v a_s] (fun _ : Unit => (.bool R)) (fun _ => []) := by
 refine Se 9 Tryz.func155 [.tmp 4] ?_
 intro H0 F0
 unfold g_slices_ContainsFunc_int_int_iIsSchema1 at hF
 iterate 6 refine au ?_
 refine bnd hF fun r1 hx2 hF => Cx0 (g_slices_IndexFunc_int_int_iIsSchema1_ok _ _ _ hx2) (fun _ => ?_)
 iterate 4 refine au ?_
 cases hF
 exact Er ()
def i_IsSchema (a_s : List Int) : Option (Bool) :=
 ((i_within (a_s.length : Int) 1 3).bind fun r3 =>
   bif r3 then ((g_slices_ContainsFunc_int_int_iIsSchema1 a_s).bind fun r7 =>
     some (!r7))
   else (some false)).bind fun o1 =>
 match o1 with
 | c10 => some c10
theorem i_IsSchema_ok (a_s : List Int) (v0_0 : Sv) (R : Bool) (hF : i_IsSchema a_s = some R) :
   Fw.Spec Tryz.prog 110 [v0_0.v] [crd (RdS 3 rdInt) v0_0.v a_s] (fun _ : Unit => (.bool R)) (fun _ => []) := by
 refine Se 11 Tryz.func110 [.tmp 2] ?_
 intro H0 F0
 unfold i_IsSchema at hF
 iterate 3 refine au ?_
 obtain ⟨o1, hio1, hO2⟩ := bind_some hF
 refine au ?_
 refine C_cut (fun f' cs' => ∃ (c10 : Bool) (g : Fr), c10 = o1 ∧ f' = updL g [(2, (.bool c10))] ∧ Ent cs' []) ?_ ?_
 · replace hF := hio1
   iterate 2 refine au ?_
   refine bnd hF fun r3 hx4 hF => Cx0 (i_within_ok _ _ _ _ hx4) (fun _ => ?_)
   refine au ?_
   rcases Bool.eq_false_or_eq_true r3 with hg6 | hg6
   · rw [hg6]
     try rw [hg6] at hF; dsimp only [cond_true, cond_false] at hF
     iterate 3 refine au ?_
     refine bnd hF fun r7 hx8 hF => Cx0 (g_slices_ContainsFunc_int_int_iIsSchema1_ok _ _ _ hx8) (fun _ => ?_)
     iterate 5 refine au ?_
     cases hF
     exact ⟨_, _, rfl, eqA, entA⟩
   rw [hg6]
   try rw [hg6] at hF; dsimp only [cond_true, cond_false] at hF
   iterate 6 refine au ?_
   cases hF
   exact ⟨_, _, rfl, eqA, entA⟩
 rintro _ _ ⟨c10, g11, rfl, rfl, hE⟩
 replace hF := hO2
 try dsimp only at hF
 refine K_ent hE ?_
 refine au ?_
 cases hF
 exact Er ()
def i_hasRel (a_s : List Int) (a_rel : Int) : Option (Bool) :=
 ((i_IsSchema a_s).bind fun r3 =>
   bif r3 then ((i_within a_rel 0 (IntKind.i64.wrap ((a_s.length : Int) - 1))).bind fun r7 =>
     some r7)
   else (some false)).bind fun o1 =>
 match o1 with
 | c10 => some c10
theorem i_hasRel_ok (a_s : List Int) (v0_0 : Sv) (a_rel : Int) (R : Bool) (hF : i_hasRel a_s a_rel = some R) :
   Fw.Spec Tryz.prog 158 [v0_0.v, (.int .i64 a_rel)] [crd (RdS 3 rdInt) v0_0.v a_s] (fun _ : Unit => (.bool R)) (fun _ => []) := by
 refine Se 14 Tryz.func158 [.tmp 4] ?_
 intro H0 F0
 unfold i_hasRel at hF
 iterate 3 refine au ?_
 obtain ⟨o1, hio1, hO2⟩ := bind_some hF
 refine au ?_
 refine C_cut (fun f' cs' => ∃ (c10 : Bool) (g : Fr), c10 = o1 ∧ f' = updL g [(4, (.bool c10))] ∧ Ent cs' []) ?_ ?_
 · replace hF := hio1
   refine au ?_
   refine bnd hF fun r3 hx4 hF => Cx0 (i_IsSchema_ok _ _ _ hx4) (fun _ => ?_)
   refine au ?_
   rcases Bool.eq_false_or_eq_true r3 with hg6 | hg6
   · rw [hg6]
     try rw [hg6] at hF; dsimp only [cond_true, cond_false] at hF
     iterate 9 refine au ?_
     refine bnd hF fun r7 hx8 hF => Cx0 (i_within_ok _ _ _ _ hx8) (fun _ => ?_)
     iterate 3 refine au ?_
     cases hF
     exact ⟨_, _, rfl, eqA, entA⟩
   rw [hg6]
   try rw [hg6] at hF; dsimp only [cond_true, cond_false] at hF
   iterate 8 refine au ?_
   cases hF
   exact ⟨_, _, rfl, eqA, entA⟩
 rintro _ _ ⟨c10, g11, rfl, rfl, hE⟩
 replace hF := hO2
 try dsimp only at hF
 refine K_ent hE ?_
 refine au ?_
 cases hF
 exact Er ()
def i_IsVar (a_t : Int) : Option (Bool) :=
 (i_within a_t 10 17).bind fun r1 =>
 some r1
theorem i_IsVar_ok (a_t : Int) (R : Bool) (hF : i_IsVar a_t = some R) :
   Fw.Spec Tryz.prog 189 [(.int .i64 a_t)] [] (fun _ : Unit => (.bool R)) (fun _ => []) := by
 refine Se 5 Tryz.func189 [.tmp 2] ?_
 intro H0 F0
 unfold i_IsVar at hF
 iterate 5 refine au ?_
 refine bnd hF fun r1 hx2 hF => Cx0 (i_within_ok _ _ _ _ hx2) (fun _ => ?_)
 iterate 3 refine au ?_
 cases hF
 exact Er ()
def i_IsTerm (a_t : Int) : Option (Bool) :=
 ((i_isValue a_t).bind fun r3 =>
   bif r3 then (some true)
   else ((i_IsVar a_t).bind fun r7 =>
     some r7)).bind fun o1 =>
 match o1 with
 | c10 => some c10
theorem i_IsTerm_ok (a_t : Int) (R : Bool) (hF : i_IsTerm a_t = some R) :
   Fw.Spec Tryz.prog 187 [(.int .i64 a_t)] [] (fun _ : Unit => (.bool R)) (fun _ => []) := by
 refine Se 9 Tryz.func187 [.tmp 2] ?_
 intro H0 F0
 unfold i_IsTerm at hF
 iterate 3 refine au ?_
 obtain ⟨o1, hio1, hO2⟩ := bind_some hF
 refine au ?_
 refine C_cut (fun f' cs' => ∃ (c10 : Bool) (g : Fr), c10 = o1 ∧ f' = updL g [(2, (.bool c10))] ∧ Ent cs' []) ?_ ?_
 · replace hF := hio1
   refine au ?_
   refine bnd hF fun r3 hx4 hF => Cx0 (i_isValue_ok _ _ hx4) (fun _ => ?_)
   refine au ?_
   rcases Bool.eq_false_or_eq_true r3 with hg6 | hg6
   · rw [hg6]
     try rw [hg6] at hF; dsimp only [cond_true, cond_false] at hF
     iterate 5 refine au ?_
     cases hF
     exact ⟨_, _, rfl, eqA, entA⟩
   rw [hg6]
   try rw [hg6] at hF; dsimp only [cond_true, cond_false] at hF
   iterate 3 refine au ?_
   refine bnd hF fun r7 hx8 hF => Cx0 (i_IsVar_ok _ _ hx8) (fun _ => ?_)
   iterate 3 refine au ?_
   cases hF
   exact ⟨_, _, rfl, eqA, entA⟩
 rintro _ _ ⟨c10, g11, rfl, rfl, hE⟩
 replace hF := hO2
 try dsimp only at hF
 refine K_ent hE ?_
 refine au ?_
 cases hF
 exact Er ()
def i_areTerms_1 (a_t : Int) : Option (Bool) :=
 (i_IsTerm a_t).bind fun r1 =>
 some (!r1)
theorem i_areTerms_1_ok (a_t : Int) (R : Bool) (hF : i_areTerms_1 a_t = some R) :
   Fw.Spec Tryz.prog 186 [(.int .i64 a_t)] [] (fun _ : Unit => (.bool R)) (fun _ => []) := by
 refine Se 6 Tryz.func186 [.tmp 2] ?_
 intro H0 F0
 unfold i_areTerms_1 at hF
 iterate 5 refine au ?_
 refine bnd hF fun r1 hx2 hF => Cx0 (i_IsTerm_ok _ _ hx2) (fun _ => ?_)
 iterate 4 refine au ?_
 cases hF
 exact Er ()
def g_slices_IndexFunc_int_int_iareTerms1_L1 : List Int → Nat → Option (Int)
 | [], k4 => some (-1)
 | x6 :: rest5, k4 => (i_areTerms_1 x6).bind fun r15 =>
   if r15 then (
     some (k4 : Int))
   else (
     g_slices_IndexFunc_int_int_iareTerms1_L1 rest5 (k4 + 1))
def g_slices_IndexFunc_int_int_iareTerms1 (a_s : List Int) : Option (Int) :=
 g_slices_IndexFunc_int_int_iareTerms1_L1 a_s 0
theorem g_slices_IndexFunc_int_int_iareTerms1_ok (a_s : List Int) (v0_0 : Sv) (R : Int) (hF : g_slices_IndexFunc_int_int_iareTerms1 a_s = some R) :
   Fw.Spec Tryz.prog 185 [v0_0.v, (.func (.func 186) [].toArray [].toArray)] [crd (RdS 3 rdInt) v0_0.v a_s] (fun _ : Unit => (.int .i64 R)) (fun _ => []) := by
 refine Se 19 Tryz.func185 [.tmp 4] ?_
 intro H0 F0
 unfold g_slices_IndexFunc_int_int_iareTerms1 at hF
 iterate 9 refine au ?_
 refine CW_block (CW_loop (m := a_s.length) (fun m2 f' cs' => ∃ (g : Fr) (k4 : Nat) (rest5 : List Int), m2 = rest5.length ∧ f' = updL g [(0, v0_0.v), (1, (.func (.func 186) [].toArray [].toArray)), (7, (.int .i64 (a_s.length : Int))), (8, (.int .i64 (k4 : Int)))] ∧ List.drop k4 a_s = rest5 ∧ Ent cs' [crd (RdS 3 rdInt) v0_0.v a_s] ∧ g_slices_IndexFunc_int_int_iareTerms1_L1 rest5 k4 = some R) ⟨_, 0, _, rfl, eqA, rfl, entA, hF⟩ ?_)
 rintro m2 _ _ ⟨g3, k4, rest5, rfl, rfl, hd7, hE, hF⟩
 refine Kb hE a_s (fun hbd12 => ?_)
 rcases rest5 with _ | ⟨x6, rest5⟩
 · have hk8 := dn hd7
   rw [g_slices_IndexFunc_int_int_iareTerms1_L1] at hF
   iterate 4 refine au ?_
   refine CdF ?_
   iterate 8 refine au ?_
   cases hF
   exact Er ()
 obtain ⟨hk8, hx9, hd10⟩ := drop_cons hd7
 rw [g_slices_IndexFunc_int_int_iareTerms1_L1] at hF
 iterate 4 refine au ?_
 refine CdT ?_
 iterate 10 refine au ?_
 refine Ai hx9 (fun k13 j14 => ?_)
 refine Al ls3_0 ?_
 refine bnd hF fun r15 hx16 hF => C_x0 .nil (X_callCS cf186.h (.tmp rfl rfl) (.cons (.tmp rfl rfl) .nil) (i_areTerms_1_ok x6 _ hx16)) (fun _ => ?_)
 refine au ?_
 refine Ci hF (fun hb19 hF => ?_) (fun hb19 hF => ?_)
 · iterate 5 refine au ?_
   cases hF
   exact Er ()
 iterate 5 refine au ?_
 rw [wk k4]
 exact ⟨_, Nat.lt_succ_self _, _, k4 + 1, rest5, rfl, eqA, hd10, entA, hF⟩
def g_slices_ContainsFunc_int_int_iareTerms1 (a_s : List Int) : Option (Bool) :=
 (g_slices_IndexFunc_int_int_iareTerms1 a_s).bind fun r1 =>
 some (decide ((0 : Int) ≤ r1))
theorem g_slices_ContainsFunc_int_int_iareTerms1_ok (a_s : List Int) (v0_0 : Sv) (R : Bool) (hF : g_slices_ContainsFunc_int_int_iareTerms1 a_s = some R) :
   Fw.Spec Tryz.prog 155 [v0_0.v, (.func (.func 186) [].toArray [].toArray)] [crd (RdS 3 rdInt) v0_0.v a_s] (fun _ : Unit => (.bool R)) (fun _ => []) := by
 refine Se 9 Tryz.func155 [.tmp 4] ?_
 intro H0 F0
 unfold g_slices_ContainsFunc_int_int_iareTerms1 at hF
 iterate 6 refine au ?_
 refine bnd hF fun r1 hx2 hF => Cx0 (g_slices_IndexFunc_int_int_iareTerms1_ok _ _ _ hx2) (fun _ => ?_)
 iterate 4 refine au ?_
 cases hF
 exact Er ()
def i_areTerms (a_l : List Int) : Option (Bool) :=
 (g_slices_ContainsFunc_int_int_iareTerms1 a_l).bind fun r1 =>
 some (!r1)
theorem i_areTerms_ok (a_l : List Int) (v0_0 : Sv) (R : Bool) (hF : i_areTerms a_l = some R) :
   Fw.Spec Tryz.prog 159 [v0_0.v] [crd (RdS 3 rdInt) v0_0.v a_l] (fun _ : Unit => (.bool R)) (fun _ => []) := by
 refine Se 6 Tryz.func159 [.tmp 2] ?_
 intro H0 F0
 unfold i_areTerms at hF
 iterate 5 refine au ?_
 refine bnd hF fun r1 hx2 hF => Cx0 (g_slices_ContainsFunc_int_int_iareTerms1_ok _ _ _ hx2) (fun _ => ?_)
 iterate 4 refine au ?_
 cases hF
 exact Er ()
def i_IsAtom (a_s : List Int) (a_a : Atom) : Option (Bool) :=
 ((i_hasRel a_s a_a.Rel).bind fun r4 =>
   bif r4 then ((ix a_s a_a.Rel).bind fun x8 =>
     bif (((a_a.Terms.length : Int) : Int) == x8) then ((i_areTerms a_a.Terms).bind fun r15 =>
       some r15)
     else (some false))
   else (some false)).bind fun o2 =>
 match o2 with
 | c18 => some c18
theorem i_IsAtom_ok (a_s : List Int) (v0_0 : Sv) (a_a : Atom) (v1_1 : Sv) (R : Bool) (hF : i_IsAtom a_s a_a = some R) :
   Fw.Spec Tryz.prog 113 [v0_0.v, (.agg [(.int .i64 a_a.Rel), v1_1.v].toArray)] [crd (RdS 3 rdInt) v0_0.v a_s, crd (RdS 3 rdInt) v1_1.v a_a.Terms] (fun _ : Unit => (.bool R)) (fun _ => []) := by
 refine Se 25 Tryz.func113 [.tmp 4] ?_
 intro H0 F0
 unfold i_IsAtom at hF
 refine au ?_
 refine AbR (fun k1 => ?_)
 iterate 2 refine au ?_
 obtain ⟨o2, hio2, hO3⟩ := bind_some hF
 refine K_draw [0, 1, 2, 3, 4, 5, 6, 7, 8, 9, 10, 11, 12, 13, 14, 15, 16, 17, 18, 19, 20] [0, 0, 2, 7, 15, 31, 63, 127, 31, 31, 543, 1823, 3871, 8191, 16383, 32767, 65535, 131071, 262143, 524287, 1048575] [3, 18] mixed (by decide +kernel) ?_
 refine D_cut (fun f' cs' => ∃ (c18 : Bool) (g : Fr), c18 = o2 ∧ f' = updL g [(4, (.bool c18))] ∧ Ent cs' []) ?_ ?_
 · replace hF := hio2
   iterate 3 refine du ?_
   refine bnd hF fun r4 hx5 hF => Dx0 (i_hasRel_ok _ _ _ _ hx5) (fun _ => ?_)
   refine du ?_
   rcases Bool.eq_false_or_eq_true r4 with hg7 | hg7
   · rw [hg7]
     try rw [hg7] at hF; dsimp only [cond_true, cond_false] at hF
     iterate 6 refine du ?_
     refine bnd hF fun x8 hx9 hF => ?_
     obtain ⟨hp10, hx11⟩ := ix_some hx9
     refine Di hx11 (fun k12 j13 => ?_)
     refine Dl ls3_0 ?_
     iterate 3 refine du ?_
     rcases Bool.eq_false_or_eq_true (((a_a.Terms.length : Int) : Int) == x8) with hg14 | hg14
     · rw [hg14]
       try rw [hg14] at hF; dsimp only [cond_true, cond_false] at hF
       iterate 2 refine du ?_
       refine bnd hF fun r15 hx16 hF => Dx0 (i_areTerms_ok _ _ _ hx16) (fun _ => ?_)
       iterate 3 refine du ?_
       cases hF
       exact ⟨_, _, rfl, eqA, entA⟩
     rw [hg14]
     try rw [hg14] at hF; dsimp only [cond_true, cond_false] at hF
     iterate 6 refine du ?_
     cases hF
     exact ⟨_, _, rfl, eqA, entA⟩
   rw [hg7]
   try rw [hg7] at hF; dsimp only [cond_true, cond_false] at hF
   iterate 17 refine du ?_
   cases hF
   exact ⟨_, _, rfl, eqA, entA⟩
 rintro _ _ ⟨c18, g19, rfl, rfl, hE⟩
 replace hF := hO3
 try dsimp only at hF
 refine K_ent hE ?_
 refine au ?_
 cases hF
 exact Er ()
def i_IsQuery_1 (a_a : Atom) (a_e1 : List Int) : Option (Bool) :=
 (i_IsAtom a_e1 a_a).bind fun r2 =>
 some (!r2)
theorem i_IsQuery_1_ok (a_a : Atom) (v0_1 : Sv) (kc1 : Nat) (a_e1 : List Int) (vc1_0 : Sv) (R : Bool) (hF : i_IsQuery_1 a_a a_e1 = some R) :
   Fw.Spec Tryz.prog 112 [(.agg [(.int .i64 a_a.Rel), v0_1.v].toArray), (pz kc1)] [crd (RdS 3 rdInt) v0_1.v a_a.Terms, cboR kc1 24 vc1_0.v, crd (RdS 3 rdInt) vc1_0.v a_e1] (fun _ : Unit => (.bool R)) (fun _ => []) := by
 refine Se 8 Tryz.func112 [.tmp 3] ?_
 intro H0 F0
 unfold i_IsQuery_1 at hF
 refine au ?_
 refine AbR (fun k1 => ?_)
 iterate 5 refine au ?_
 refine bnd hF fun r2 hx3 hF => Cx0 (i_IsAtom_ok _ _ _ _ _ hx3) (fun _ => ?_)
 iterate 4 refine au ?_
 cases hF
 exact Er ()
def g_slices_IndexFunc_impl_Atom_impl_Atom_iIsQuery1_L1 (a_e1 : List Int) : List Atom → Nat → Option (Int)
 | [], k4 => some (-1)
 | x6 :: rest5, k4 => (i_IsQuery_1 x6 a_e1).bind fun r16 =>
   if r16 then (
     some (k4 : Int))
   else (
     g_slices_IndexFunc_impl_Atom_impl_Atom_iIsQuery1_L1 a_e1 rest5 (k4 + 1))
def g_slices_IndexFunc_impl_Atom_impl_Atom_iIsQuery1 (a_s : List Atom) (a_e1 : List Int) : Option (Int) :=
 g_slices_IndexFunc_impl_Atom_impl_Atom_iIsQuery1_L1 a_e1 a_s 0
theorem g_slices_IndexFunc_impl_Atom_impl_Atom_iIsQuery1_ok (a_s : List Atom) (v0_0 : Sv) (kc1 : Nat) (a_e1 : List Int) (vc1_0 : Sv) (R : Int) (hF : g_slices_IndexFunc_impl_Atom_impl_Atom_iIsQuery1 a_s a_e1 = some R) :
   Fw.Spec Tryz.prog 157 [v0_0.v, (.func (.func 112) [].toArray [(pz kc1)].toArray)] [crd (RdS 78 rd78) v0_0.v a_s, cboR kc1 24 vc1_0.v, crd (RdS 3 rdInt) vc1_0.v a_e1] (fun _ : Unit => (.int .i64 R)) (fun _ => []) := by
 refine Se 19 Tryz.func157 [.tmp 4] ?_
 intro H0 F0
 unfold g_slices_IndexFunc_impl_Atom_impl_Atom_iIsQuery1 at hF
 iterate 9 refine au ?_
 refine CW_block (CW_loop (m := a_s.length) (fun m2 f' cs' => ∃ (g : Fr) (k4 : Nat) (rest5 : List Atom), m2 = rest5.length ∧ f' = updL g [(0, v0_0.v), (1, (.func (.func 112) [].toArray [(pz kc1)].toArray)), (7, (.int .i64 (a_s.length : Int))), (8, (.int .i64 (k4 : Int)))] ∧ List.drop k4 a_s = rest5 ∧ Ent cs' [crd (RdS 78 rd78) v0_0.v a_s, cboR kc1 24 vc1_0.v, crd (RdS 3 rdInt) vc1_0.v a_e1] ∧ g_slices_IndexFunc_impl_Atom_impl_Atom_iIsQuery1_L1 a_e1 rest5 k4 = some R) ⟨_, 0, _, rfl, eqA, rfl, entA, hF⟩ ?_)
 rintro m2 _ _ ⟨g3, k4, rest5, rfl, rfl, hd7, hE, hF⟩
 refine Kb hE a_s (fun hbd12 => ?_)
 rcases rest5 with _ | ⟨x6, rest5⟩
 · have hk8 := dn hd7
   rw [g_slices_IndexFunc_impl_Atom_impl_Atom_iIsQuery1_L1] at hF
   iterate 4 refine au ?_
   refine CdF ?_
   iterate 8 refine au ?_
   cases hF
   exact Er ()
 obtain ⟨hk8, hx9, hd10⟩ := drop_cons hd7
 rw [g_slices_IndexFunc_impl_Atom_impl_Atom_iIsQuery1_L1] at hF
 iterate 4 refine au ?_
 refine CdT ?_
 iterate 10 refine au ?_
 refine Ai hx9 (fun k13 j14 => ?_)
 refine AlA1 (ul78_0_78 x6) la78_0_78 (fun p15 => ?_)
 refine bnd hF fun r16 hx17 hF => C_x0 (.rd .h rfl (.rd (.t (.t (.t .h))) rfl (.rd (.t (.t (.t (.t .h)))) rfl .nil))) (X_callCS cf112.h (.tmp rfl rfl) (.cons (.tmp rfl rfl) .nil) (i_IsQuery_1_ok x6 p15 kc1 a_e1 vc1_0 _ hx17)) (fun _ => ?_)
 refine au ?_
 refine Ci hF (fun hb20 hF => ?_) (fun hb20 hF => ?_)
 · iterate 5 refine au ?_
   cases hF
   exact Er ()
 iterate 5 refine au ?_
 rw [wk k4]
 exact ⟨_, Nat.lt_succ_self _, _, k4 + 1, rest5, rfl, eqA, hd10, entA, hF⟩
def g_slices_ContainsFunc_impl_Atom_impl_Atom_iIsQuery1 (a_s : List Atom) (a_e1 : List Int) : Option (Bool) :=
 (g_slices_IndexFunc_impl_Atom_impl_Atom_iIsQuery1 a_s a_e1).bind fun r1 =>
 some (decide ((0 : Int) ≤ r1))
theorem g_slices_ContainsFunc_impl_Atom_impl_Atom_iIsQuery1_ok (a_s : List Atom) (v0_0 : Sv) (kc1 : Nat) (a_e1 : List Int) (vc1_0 : Sv) (R : Bool) (hF : g_slices_ContainsFunc_impl_Atom_impl_Atom_iIsQuery1 a_s a_e1 = some R) :
   Fw.Spec Tryz.prog 111 [v0_0.v, (.func (.func 112) [].toArray [(pz kc1)].toArray)] [crd (RdS 78 rd78) v0_0.v a_s, cboR kc1 24 vc1_0.v, crd (RdS 3 rdInt) vc1_0.v a_e1] (fun _ : Unit => (.bool R)) (fun _ => []) := by
 refine Se 9 Tryz.func111 [.tmp 4] ?_
 intro H0 F0
 unfold g_slices_ContainsFunc_impl_Atom_impl_Atom_iIsQuery1 at hF
 iterate 6 refine au ?_
 refine bnd hF fun r1 hx2 hF => Cx0 (g_slices_IndexFunc_impl_Atom_impl_Atom_iIsQuery1_ok _ _ _ _ _ _ hx2) (fun _ => ?_)
 iterate 4 refine au ?_
 cases hF
 exact Er ()
def g_slices_Sort_int_int (a_x : List Int) : Option (List Int) :=
 some (a_x.mergeSort fun x y => decide (x ≤ y))
theorem g_slices_Sort_int_int_ok (a_x : List Int) (v0_0 : Sv) (F0_0 : List Nat) (R : List Int) (hF : g_slices_Sort_int_int a_x = some R) :
   Fw.Spec Tryz.prog 143 [v0_0.v] [cown (OwnS 3 (roE rdInt)) F0_0 v0_0.v a_x] (fun _ : List Nat => (.tuple [].toArray)) (fun p => [cown (OwnS 3 (roE rdInt)) p v0_0.v R]) := by
 cases hF
 exact Spec_sort ty3.h (Go.Proofs.Any.slices_Sort_int_none lays189) (Go.Proofs.Any.slices_Sort_int lays189)
def g_slices_Compact_int_int (a_x : List Int) : Option (List Int) :=
 some (Lib.compact a_x)
theorem g_slices_Compact_int_int_ok (a_x : List Int) (v0_0 : Sv) (F0_0 : List Nat) (R : List Int) (hF : g_slices_Compact_int_int a_x = some R) :
   Fw.Spec Tryz.prog 144 [v0_0.v] [cown (OwnS 3 (roE rdInt)) F0_0 v0_0.v a_x] (fun p : Sv × List Nat => p.1.v) (fun p => [cown (OwnS 3 (roE rdInt)) p.2 p.1.v R]) := by
 cases hF
 exact Spec_compact ty3.h compact_le rfl (Go.Proofs.Any.slices_Compact_int_empty lays2020) (Go.Proofs.Any.slices_Compact_int lays2020)
def i_termsOf_iIsVar_L2 : List Int → Nat → (List Int) → Option ((List Int))
 | [], k35, c29 => some c29
 | x37 :: rest36, k35, c29 => ((i_IsVar x37).bind fun r48 =>
     if r48 then (
       (app c29 ([x37] : List Int)).bind fun z52 =>
       some z52)
     else (
       some c29)).bind fun o44 =>
   match o44 with
   | c56 => i_termsOf_iIsVar_L2 rest36 (k35 + 1) c56
def i_termsOf_iIsVar_L1 : List Atom → Nat → (List Int) → Option ((List Int))
 | [], k8, c2 => (g_slices_Sort_int_int c2).bind fun r17 =>
   (g_slices_Compact_int_int r17).bind fun r20 =>
   some r20
 | x10 :: rest9, k8, c2 => (i_termsOf_iIsVar_L2 x10.Terms 0 c2).bind fun o23 =>
   match o23 with
   | c61 => i_termsOf_iIsVar_L1 rest9 (k8 + 1) c61
def i_termsOf_iIsVar (a_atoms : List Atom) : Option ((List Int)) :=
 i_termsOf_iIsVar_L1 a_atoms 0 ([] : List Int)
theorem i_termsOf_iIsVar_ok (a_atoms : List Atom) (v0_0 : Sv) (R : (List Int)) (hF : i_termsOf_iIsVar a_atoms = some R) :
   Fw.Spec Tryz.prog 188 [v0_0.v, (.func (.func 189) [].toArray [].toArray)] [crd (RdS 78 rd78) v0_0.v a_atoms] (fun p : Sv × List Nat => p.1.v) (fun p => [cown (OwnS 3 (roE rdInt)) p.2 p.1.v R]) := by
 refine Se 37 Tryz.func188 [.tmp 4] ?_
 intro H0 F0
 unfold i_termsOf_iIsVar at hF
 iterate 4 refine au ?_
 refine C_new rfl (N_buildSliceT (g := true) sl24.h ty3.h .nil (vs := []) rfl rfl rfl (by simp)) (fun k1 => ?_)
 refine Cv1 (.cons .h .nil) (own_lit (Ro := (roE rdInt)) (E := 3) (F := []) (xs := ([] : List Int)) MkL_nil rfl rfl) ?_
 iterate 8 refine au ?_
 refine CW_block (CW_loop (m := a_atoms.length) (fun m6 f' cs' => ∃ (g : Fr) (k8 : Nat) (rest9 : List Atom) (c2 : List Int) (v3 : Sv) (F4 : List Nat), m6 = rest9.length ∧ f' = updL g [(1, (.func (.func 189) [].toArray [].toArray)), (5, v3.v), (11, v0_0.v), (12, (.int .i64 (a_atoms.length : Int))), (13, (.int .i64 (k8 : Int)))] ∧ List.drop k8 a_atoms = rest9 ∧ Ent cs' [cown (OwnS 3 (roE rdInt)) F4 v3.v c2, crd (RdS 78 rd78) v0_0.v a_atoms] ∧ i_termsOf_iIsVar_L1 rest9 k8 c2 = some R) ⟨_, 0, _, _, ⟨(some ⟨k1, 0, none⟩), 0, 1⟩, (k1 :: []), rfl, eqA, rfl, entA, hF⟩ ?_)
 rintro m6 _ _ ⟨g7, k8, rest9, c2, v3, F4, rfl, rfl, hd11, hE, hF⟩
 refine Kb hE a_atoms (fun hbd16 => ?_)
 rcases rest9 with _ | ⟨x10, rest9⟩
 · have hk12 := dn hd11
   rw [i_termsOf_iIsVar_L1] at hF
   iterate 4 refine au ?_
   refine CdF ?_
   iterate 6 refine au ?_
   refine bnd hF fun r17 hx18 hF => Cx1 (g_slices_Sort_int_int_ok _ _ _ _ hx18) (fun p19 => ?_)
   iterate 3 refine au ?_
   refine bnd hF fun r20 hx21 hF => Cx1 (g_slices_Compact_int_int_ok _ _ _ _ hx21) (fun p22 => ?_)
   iterate 3 refine au ?_
   cases hF
   exact Er (p22.1, p22.2)
 obtain ⟨hk12, hx13, hd14⟩ := drop_cons hd11
 rw [i_termsOf_iIsVar_L1] at hF
 iterate 4 refine au ?_
 refine CdT ?_
 refine au ?_
 obtain ⟨o23, hio23, hO24⟩ := bind_some hF
 refine K_cut (fun f' cs' => ∃ (c61 : List Int) (v62 : Sv) (F63 : List Nat) (g : Fr), c61 = o23 ∧ f' = updL g [(1, (.func (.func 189) [].toArray [].toArray)), (5, v62.v), (11, v0_0.v), (12, (.int .i64 (a_atoms.length : Int))), (13, (.int .i64 (k8 : Int)))] ∧ Ent cs' [cown (OwnS 3 (roE rdInt)) F63 v62.v c61, crd (RdS 78 rd78) v0_0.v a_atoms]) ?_ ?_
 · replace hF := hio23
   refine CW_block (K_region (C_idx (a := x10) sl25.h ty78.h.sz (.tmp rfl rfl) (.tmp rfl rfl) (.t .h) (Int.natCast_nonneg k8) hx13 (fun k25 j26 => ?_)))
   refine AlA1 (ul78_0_78 x10) la78_0_78 (fun p27 => ?_)
   refine AnW (fun k28 => ?_)
   refine As (.agg [(.int .i64 x10.Rel), p27.v].toArray) ?_
   iterate 7 refine au ?_
   refine CW_block (CW_loop (m := x10.Terms.length) (fun m33 f' cs' => ∃ (g : Fr) (k35 : Nat) (rest36 : List Int) (c29 : List Int) (v30 : Sv) (F31 : List Nat), m33 = rest36.length ∧ f' = updL g [(1, (.func (.func 189) [].toArray [].toArray)), (5, v30.v), (11, v0_0.v), (12, (.int .i64 (a_atoms.length : Int))), (13, (.int .i64 (k8 : Int))), (18, p27.v), (19, (.int .i64 (x10.Terms.length : Int))), (20, (.int .i64 (k35 : Int)))] ∧ List.drop k35 x10.Terms = rest36 ∧ Ent cs' [cown (OwnS 3 (roE rdInt)) F31 v30.v c29, crd (RdS 78 rd78) v0_0.v a_atoms, crd (RdS 3 rdInt) p27.v x10.Terms] ∧ i_termsOf_iIsVar_L2 rest36 k35 c29 = some o23) ⟨_, 0, _, _, v3, F4, rfl, eqA, rfl, entA, hF⟩ ?_)
   rintro m33 _ _ ⟨g34, k35, rest36, c29, v30, F31, rfl, rfl, hd38, hE, hF⟩
   refine Kb hE x10.Terms (fun hbd43 => ?_)
   rcases rest36 with _ | ⟨x37, rest36⟩
   · have hk39 := dn hd38
     rw [i_termsOf_iIsVar_L2] at hF
     iterate 4 refine au ?_
     refine CdF ?_
     iterate 4 refine au ?_
     cases hF
     exact ⟨_, v30, F31, _, rfl, eqA, entA⟩
   obtain ⟨hk39, hx40, hd41⟩ := drop_cons hd38
   rw [i_termsOf_iIsVar_L2] at hF
   iterate 4 refine au ?_
   refine CdT ?_
   refine au ?_
   obtain ⟨o44, hio44, hO45⟩ := bind_some hF
   refine K_cut (fun f' cs' => ∃ (c56 : List Int) (v57 : Sv) (F58 : List Nat) (g : Fr), c56 = o44 ∧ f' = updL g [(1, (.func (.func 189) [].toArray [].toArray)), (5, v57.v), (11, v0_0.v), (12, (.int .i64 (a_atoms.length : Int))), (13, (.int .i64 (k8 : Int))), (18, p27.v), (19, (.int .i64 (x10.Terms.length : Int))), (20, (.int .i64 (k35 : Int)))] ∧ Ent cs' [cown (OwnS 3 (roE rdInt)) F58 v57.v c56, crd (RdS 78 rd78) v0_0.v a_atoms, crd (RdS 3 rdInt) p27.v x10.Terms]) ?_ ?_
   · replace hF := hio44
     refine CW_block (K_region (C_idx (a := x37) sl24.h ty3.h.sz (.tmp rfl rfl) (.tmp rfl rfl) (.t (.t .h)) (Int.natCast_nonneg k35) hx40 (fun k46 j47 => ?_)))
     refine Al ls3_0 ?_
     iterate 5 refine au ?_
     refine bnd hF fun r48 hx49 hF => C_x0 .nil (X_callCS cf189.h (.tmp rfl rfl) (.cons (.tmp rfl rfl) .nil) (i_IsVar_ok x37 _ hx49)) (fun _ => ?_)
     refine au ?_
     refine Ci hF (fun hb55 hF => ?_) (fun hb55 hF => ?_)
     · iterate 3 refine au ?_
       refine C_new rfl (N_buildSliceT (g := true) sl24.h ty3.h (.cons (.tmp rfl rfl) .nil) (vs := [(.int .i64 x37)]) rfl rfl rfl (by intro v hv; simp at hv; rcases hv with rfl <;> rfl)) (fun k51 => ?_)
       refine Cv1 (.cons .h .nil) (own_lit (Ro := (roE rdInt)) (E := 3) (F := ([] ++ [])) (xs := ([x37] : List Int)) (MkL_cons (Mk_pure (fun _ => rfl)) MkL_nil apps) rfl rfl) ?_
       refine bnd hF fun z52 hx53 hF => C_x1 (.cons (.t (.t .h)) (.cons .h .nil)) (X_appendO (Ro := (roE rdInt)) sl24.h ni24 ty3.h rfl rfl rfl (.tmp rfl rfl) (.tmp rfl rfl) hx53 src_own) (fun p54 => ?_)
       iterate 2 refine au ?_
       cases hF
       exact ⟨_, p54.1, p54.2, _, rfl, eqA, entA⟩
     refine au ?_
     cases hF
     exact ⟨_, v30, F31, _, rfl, eqA, entA⟩
   rintro _ _ ⟨c56, v57, F58, g60, rfl, rfl, hE⟩
   replace hF := hO45
   try dsimp only at hF
   refine K_ent hE ?_
   iterate 4 refine au ?_
   rw [wk k35]
   exact ⟨_, Nat.lt_succ_self _, _, k35 + 1, rest36, _, v57, F58, rfl, eqA, hd41, entA, hF⟩
 rintro _ _ ⟨c61, v62, F63, g65, rfl, rfl, hE⟩
 replace hF := hO24
 try dsimp only at hF
 refine K_ent hE ?_
 iterate 4 refine au ?_
 rw [wk k8]
 exact ⟨_, Nat.lt_succ_self _, _, k8 + 1, rest9, _, v62, F63, rfl, eqA, hd14, entA, hF⟩
def i_VarsOf (a_q : Query) : Option ((List Int)) :=
 (i_termsOf_iIsVar a_q.Atoms).bind fun r2 =>
 some r2
theorem i_VarsOf_ok (a_q : Query) (v0_0 : Sv) (v0_1 : Sv) (R : (List Int)) (hF : i_VarsOf a_q = some R) :
   Fw.Spec Tryz.prog 160 [(.agg [v0_0.v, v0_1.v].toArray)] [crd (RdS 3 rdInt) v0_0.v a_q.Head, crd (RdS 78 rd78) v0_1.v a_q.Atoms] (fun p : Sv × List Nat => p.1.v) (fun p => [cown (OwnS 3 (roE rdInt)) p.2 p.1.v R]) := by
 refine Se 6 Tryz.func160 [.tmp 2] ?_
 intro H0 F0
 unfold i_VarsOf at hF
 refine au ?_
 refine AbR (fun k1 => ?_)
 iterate 5 refine au ?_
 refine bnd hF fun r2 hx3 hF => Cx1 (i_termsOf_iIsVar_ok _ _ _ hx3) (fun p4 => ?_)
 iterate 3 refine au ?_
 cases hF
 exact Er (p4.1, p4.2)
def g_slices_Index_int_int_L1 (a_v : Int) : List Int → Nat → Option (Int)
 | [], k4 => some (-1)
 | x6 :: rest5, k4 => if ((a_v : Int) == x6) then (
     some (k4 : Int))
   else (
     g_slices_Index_int_int_L1 a_v rest5 (k4 + 1))
def g_slices_Index_int_int (a_s : List Int) (a_v : Int) : Option (Int) :=
 g_slices_Index_int_int_L1 a_v a_s 0
theorem g_slices_Index_int_int_ok (a_s : List Int) (v0_0 : Sv) (a_v : Int) (R : Int) (hF : g_slices_Index_int_int a_s a_v = some R) :
   Fw.Spec Tryz.prog 190 [v0_0.v, (.int .i64 a_v)] [crd (RdS 3 rdInt) v0_0.v a_s] (fun _ : Unit => (.int .i64 R)) (fun _ => []) := by
 refine Se 19 Tryz.func190 [.tmp 4] ?_
 intro H0 F0
 unfold g_slices_Index_int_int at hF
 iterate 9 refine au ?_
 refine CW_block (CW_loop (m := a_s.length) (fun m2 f' cs' => ∃ (g : Fr) (k4 : Nat) (rest5 : List Int), m2 = rest5.length ∧ f' = updL g [(0, v0_0.v), (1, (.int .i64 a_v)), (7, (.int .i64 (a_s.length : Int))), (8, (.int .i64 (k4 : Int)))] ∧ List.drop k4 a_s = rest5 ∧ Ent cs' [crd (RdS 3 rdInt) v0_0.v a_s] ∧ g_slices_Index_int_int_L1 a_v rest5 k4 = some R) ⟨_, 0, _, rfl, eqA, rfl, entA, hF⟩ ?_)
 rintro m2 _ _ ⟨g3, k4, rest5, rfl, rfl, hd7, hE, hF⟩
 refine Kb hE a_s (fun hbd12 => ?_)
 rcases rest5 with _ | ⟨x6, rest5⟩
 · have hk8 := dn hd7
   rw [g_slices_Index_int_int_L1] at hF
   iterate 4 refine au ?_
   refine CdF ?_
   iterate 8 refine au ?_
   cases hF
   exact Er ()
 obtain ⟨hk8, hx9, hd10⟩ := drop_cons hd7
 rw [g_slices_Index_int_int_L1] at hF
 iterate 4 refine au ?_
 refine CdT ?_
 iterate 10 refine au ?_
 refine Ai hx9 (fun k13 j14 => ?_)
 refine Al ls3_0 ?_
 iterate 2 refine au ?_
 refine Ci hF (fun hb16 hF => ?_) (fun hb16 hF => ?_)
 · iterate 5 refine au ?_
   cases hF
   exact Er ()
 iterate 5 refine au ?_
 rw [wk k4]
 exact ⟨_, Nat.lt_succ_self _, _, k4 + 1, rest5, rfl, eqA, hd10, entA, hF⟩
def g_slices_Contains_int_int (a_s : List Int) (a_v : Int) : Option (Bool) :=
 (g_slices_Index_int_int a_s a_v).bind fun r1 =>
 some (decide ((0 : Int) ≤ r1))
theorem g_slices_Contains_int_int_ok (a_s : List Int) (v0_0 : Sv) (a_v : Int) (R : Bool) (hF : g_slices_Contains_int_int a_s a_v = some R) :
   Fw.Spec Tryz.prog 162 [v0_0.v, (.int .i64 a_v)] [crd (RdS 3 rdInt) v0_0.v a_s] (fun _ : Unit => (.bool R)) (fun _ => []) := by
 refine Se 9 Tryz.func162 [.tmp 4] ?_
 intro H0 F0
 unfold g_slices_Contains_int_int at hF
 iterate 6 refine au ?_
 refine bnd hF fun r1 hx2 hF => Cx0 (g_slices_Index_int_int_ok _ _ _ _ hx2) (fun _ => ?_)
 iterate 4 refine au ?_
 cases hF
 exact Er ()
def i_hasHead_1 (a_t : Int) (a_e1 : List Int) : Option (Bool) :=
 (g_slices_Contains_int_int a_e1 a_t).bind fun r1 =>
 some (!r1)
theorem i_hasHead_1_ok (a_t : Int) (kc1 : Nat) (a_e1 : List Int) (vc1_0 : Sv) (R : Bool) (hF : i_hasHead_1 a_t a_e1 = some R) :
   Fw.Spec Tryz.prog 161 [(.int .i64 a_t), (pz kc1)] [cboR kc1 24 vc1_0.v, crd (RdS 3 rdInt) vc1_0.v a_e1] (fun _ : Unit => (.bool R)) (fun _ => []) := by
 refine Se 8 Tryz.func161 [.tmp 3] ?_
 intro H0 F0
 unfold i_hasHead_1 at hF
 iterate 6 refine au ?_
 refine bnd hF fun r1 hx2 hF => Cx0 (g_slices_Contains_int_int_ok _ _ _ _ hx2) (fun _ => ?_)
 iterate 4 refine au ?_
 cases hF
 exact Er ()
def g_slices_IndexFunc_int_int_ihasHead1_L1 (a_e1 : List Int) : List Int → Nat → Option (Int)
 | [], k4 => some (-1)
 | x6 :: rest5, k4 => (i_hasHead_1 x6 a_e1).bind fun r15 =>
   if r15 then (
     some (k4 : Int))
   else (
     g_slices_IndexFunc_int_int_ihasHead1_L1 a_e1 rest5 (k4 + 1))
def g_slices_IndexFunc_int_int_ihasHead1 (a_s : List Int) (a_e1 : List Int) : Option (Int) :=
 g_slices_IndexFunc_int_int_ihasHead1_L1 a_e1 a_s 0
theorem g_slices_IndexFunc_int_int_ihasHead1_ok (a_s : List Int) (v0_0 : Sv) (kc1 : Nat) (a_e1 : List Int) (vc1_0 : Sv) (R : Int) (hF : g_slices_IndexFunc_int_int_ihasHead1 a_s a_e1 = some R) :
   Fw.Spec Tryz.prog 185 [v0_0.v, (.func (.func 161) [].toArray [(pz kc1)].toArray)] [crd (RdS 3 rdInt) v0_0.v a_s, cboR kc1 24 vc1_0.v, crd (RdS 3 rdInt) vc1_0.v a_e1] (fun _ : Unit => (.int .i64 R)) (fun _ => []) := by
 refine Se 19 Tryz.func185 [.tmp 4] ?_
 intro H0 F0
 unfold g_slices_IndexFunc_int_int_ihasHead1 at hF
 iterate 9 refine au ?_
 refine CW_block (CW_loop (m := a_s.length) (fun m2 f' cs' => ∃ (g : Fr) (k4 : Nat) (rest5 : List Int), m2 = rest5.length ∧ f' = updL g [(0, v0_0.v), (1, (.func (.func 161) [].toArray [(pz kc1)].toArray)), (7, (.int .i64 (a_s.length : Int))), (8, (.int .i64 (k4 : Int)))] ∧ List.drop k4 a_s = rest5 ∧ Ent cs' [crd (RdS 3 rdInt) v0_0.v a_s, cboR kc1 24 vc1_0.v, crd (RdS 3 rdInt) vc1_0.v a_e1] ∧ g_slices_IndexFunc_int_int_ihasHead1_L1 a_e1 rest5 k4 = some R) ⟨_, 0, _, rfl, eqA, rfl, entA, hF⟩ ?_)
 rintro m2 _ _ ⟨g3, k4, rest5, rfl, rfl, hd7, hE, hF⟩
 refine Kb hE a_s (fun hbd12 => ?_)
 rcases rest5 with _ | ⟨x6, rest5⟩
 · have hk8 := dn hd7
   rw [g_slices_IndexFunc_int_int_ihasHead1_L1] at hF
   iterate 4 refine au ?_
   refine CdF ?_
   iterate 8 refine au ?_
   cases hF
   exact Er ()
 obtain ⟨hk8, hx9, hd10⟩ := drop_cons hd7
 rw [g_slices_IndexFunc_int_int_ihasHead1_L1] at hF
 iterate 4 refine au ?_
 refine CdT ?_
 iterate 10 refine au ?_
 refine Ai hx9 (fun k13 j14 => ?_)
 refine Al ls3_0 ?_
 refine bnd hF fun r15 hx16 hF => C_x0 (.rd (.t (.t .h)) rfl (.rd (.t (.t (.t .h))) rfl .nil)) (X_callCS cf161.h (.tmp rfl rfl) (.cons (.tmp rfl rfl) .nil) (i_hasHead_1_ok x6 kc1 a_e1 vc1_0 _ hx16)) (fun _ => ?_)
 refine au ?_
 refine Ci hF (fun hb19 hF => ?_) (fun hb19 hF => ?_)
 · iterate 5 refine au ?_
   cases hF
   exact Er ()
 iterate 5 refine au ?_
 rw [wk k4]
 exact ⟨_, Nat.lt_succ_self _, _, k4 + 1, rest5, rfl, eqA, hd10, entA, hF⟩
def g_slices_ContainsFunc_int_int_ihasHead1 (a_s : List Int) (a_e1 : List Int) : Option (Bool) :=
 (g_slices_IndexFunc_int_int_ihasHead1 a_s a_e1).bind fun r1 =>
 some (decide ((0 : Int) ≤ r1))
theorem g_slices_ContainsFunc_int_int_ihasHead1_ok (a_s : List Int) (v0_0 : Sv) (kc1 : Nat) (a_e1 : List Int) (vc1_0 : Sv) (R : Bool) (hF : g_slices_ContainsFunc_int_int_ihasHead1 a_s a_e1 = some R) :
   Fw.Spec Tryz.prog 155 [v0_0.v, (.func (.func 161) [].toArray [(pz kc1)].toArray)] [crd (RdS 3 rdInt) v0_0.v a_s, cboR kc1 24 vc1_0.v, crd (RdS 3 rdInt) vc1_0.v a_e1] (fun _ : Unit => (.bool R)) (fun _ => []) := by
 refine Se 9 Tryz.func155 [.tmp 4] ?_
 intro H0 F0
 unfold g_slices_ContainsFunc_int_int_ihasHead1 at hF
 iterate 6 refine au ?_
 refine bnd hF fun r1 hx2 hF => Cx0 (g_slices_IndexFunc_int_int_ihasHead1_ok _ _ _ _ _ _ hx2) (fun _ => ?_)
 iterate 4 refine au ?_
 cases hF
 exact Er ()
def i_hasHead (a_q : Query) : Option (Bool) :=
 (i_VarsOf a_q).bind fun r2 =>
 (bif (decide (((a_q.Head.length : Int) : Int) ≤ 3)) then ((g_slices_ContainsFunc_int_int_ihasHead1 a_q.Head r2).bind fun r11 =>
     some (!r11))
   else (some false)).bind fun o8 =>
 match o8 with
 | c14 => some c14
theorem i_hasHead_ok (a_q : Query) (v0_0 : Sv) (v0_1 : Sv) (R : Bool) (hF : i_hasHead a_q = some R) :
   Fw.Spec Tryz.prog 114 [(.agg [v0_0.v, v0_1.v].toArray)] [crd (RdS 3 rdInt) v0_0.v a_q.Head, crd (RdS 78 rd78) v0_1.v a_q.Atoms] (fun _ : Unit => (.bool R)) (fun _ => []) := by
 refine Se 17 Tryz.func114 [.tmp 2] ?_
 intro H0 F0
 unfold i_hasHead at hF
 refine au ?_
 refine AbR (fun k1 => ?_)
 iterate 4 refine au ?_
 refine bnd hF fun r2 hx3 hF => Cx1 (i_VarsOf_ok _ _ _ _ hx3) (fun p4 => ?_)
 refine AnW (fun k5 => ?_)
 refine As p4.1.v ?_
 refine au ?_
 refine K_frz .h frz_blk ?_
 refine K_frz (.t .h) frz_own ?_
 obtain ⟨o8, hio8, hO9⟩ := bind_some hF
 refine au ?_
 refine C_cut (fun f' cs' => ∃ (c14 : Bool) (g : Fr), c14 = o8 ∧ f' = updL g [(2, (.bool c14))] ∧ Ent cs' []) ?_ ?_
 · replace hF := hio8
   iterate 5 refine au ?_
   rcases Bool.eq_false_or_eq_true (decide (((a_q.Head.length : Int) : Int) ≤ 3)) with hg10 | hg10
   · rw [hg10]
     try rw [hg10] at hF; dsimp only [cond_true, cond_false] at hF
     iterate 5 refine au ?_
     refine C_val (V_makeFunc (fn := .func 161) (vs := []) (us := [(pz k5)]) .nil (.cons (.tmp rfl rfl) .nil)) ?_
     refine au ?_
     refine bnd hF fun r11 hx12 hF => Cx0 (g_slices_ContainsFunc_int_int_ihasHead1_ok _ _ _ _ _ _ hx12) (fun _ => ?_)
     iterate 5 refine au ?_
     cases hF
     exact ⟨_, _, rfl, eqA, entA⟩
   rw [hg10]
   try rw [hg10] at hF; dsimp only [cond_true, cond_false] at hF
   iterate 8 refine au ?_
   cases hF
   exact ⟨_, _, rfl, eqA, entA⟩
 rintro _ _ ⟨c14, g15, rfl, rfl, hE⟩
 replace hF := hO9
 try dsimp only at hF
 refine K_ent hE ?_
 refine au ?_
 cases hF
 exact Er ()
def i_IsQuery (a_s : List Int) (a_q : Query) : Option (Bool) :=
 ((i_IsSchema a_s).bind fun r5 =>
   bif r5 then ((i_within (a_q.Atoms.length : Int) 1 4).bind fun r9 =>
     bif r9 then ((g_slices_ContainsFunc_impl_Atom_impl_Atom_iIsQuery1 a_q.Atoms a_s).bind fun r13 =>
       bif (!r13) then ((i_hasHead a_q).bind fun r17 =>
         some r17)
       else (some false))
     else (some false))
   else (some false)).bind fun o3 =>
 match o3 with
 | c20 => some c20
theorem i_IsQuery_ok (a_s : List Int) (v0_0 : Sv) (a_q : Query) (v1_0 : Sv) (v1_1 : Sv) (R : Bool) (hF : i_IsQuery a_s a_q = some R) :
   Fw.Spec Tryz.prog 59 [v0_0.v, (.agg [v1_0.v, v1_1.v].toArray)] [crd (RdS 3 rdInt) v0_0.v a_s, crd (RdS 3 rdInt) v1_0.v a_q.Head, crd (RdS 78 rd78) v1_1.v a_q.Atoms] (fun _ : Unit => (.bool R)) (fun _ => []) := by
 refine Se 24 Tryz.func59 [.tmp 4] ?_
 intro H0 F0
 unfold i_IsQuery at hF
 refine au ?_
 refine AbR (fun k1 => ?_)
 refine AbR (fun k2 => ?_)
 iterate 2 refine au ?_
 obtain ⟨o3, hio3, hO4⟩ := bind_some hF
 refine au ?_
 refine C_cut (fun f' cs' => ∃ (c20 : Bool) (g : Fr), c20 = o3 ∧ f' = updL g [(4, (.bool c20))] ∧ Ent cs' []) ?_ ?_
 · replace hF := hio3
   refine au ?_
   refine bnd hF fun r5 hx6 hF => Cx0 (i_IsSchema_ok _ _ _ hx6) (fun _ => ?_)
   refine au ?_
   rcases Bool.eq_false_or_eq_true r5 with hg8 | hg8
   · rw [hg8]
     try rw [hg8] at hF; dsimp only [cond_true, cond_false] at hF
     iterate 7 refine au ?_
     refine bnd hF fun r9 hx10 hF => Cx0 (i_within_ok _ _ _ _ hx10) (fun _ => ?_)
     iterate 2 refine au ?_
     rcases Bool.eq_false_or_eq_true r9 with hg12 | hg12
     · rw [hg12]
       try rw [hg12] at hF; dsimp only [cond_true, cond_false] at hF
       iterate 5 refine au ?_
       refine C_val (V_makeFunc (fn := .func 112) (vs := []) (us := [(pz k1)]) .nil (.cons (.tmp rfl rfl) .nil)) ?_
       refine au ?_
       refine bnd hF fun r13 hx14 hF => Cx0 (g_slices_ContainsFunc_impl_Atom_impl_Atom_iIsQuery1_ok _ _ _ _ _ _ hx14) (fun _ => ?_)
       iterate 4 refine au ?_
       rcases Bool.eq_false_or_eq_true (!r13) with hg16 | hg16
       · rw [hg16]
         try rw [hg16] at hF; dsimp only [cond_true, cond_false] at hF
         iterate 3 refine au ?_
         refine bnd hF fun r17 hx18 hF => Cx0 (i_hasHead_ok _ _ _ _ hx18) (fun _ => ?_)
         iterate 3 refine au ?_
         cases hF
         exact ⟨_, _, rfl, eqA, entA⟩
       rw [hg16]
       try rw [hg16] at hF; dsimp only [cond_true, cond_false] at hF
       iterate 5 refine au ?_
       cases hF
       exact ⟨_, _, rfl, eqA, entA⟩
     rw [hg12]
     try rw [hg12] at hF; dsimp only [cond_true, cond_false] at hF
     iterate 12 refine au ?_
     cases hF
     exact ⟨_, _, rfl, eqA, entA⟩
   rw [hg8]
   try rw [hg8] at hF; dsimp only [cond_true, cond_false] at hF
   iterate 18 refine au ?_
   cases hF
   exact ⟨_, _, rfl, eqA, entA⟩
 rintro _ _ ⟨c20, g21, rfl, rfl, hE⟩
 replace hF := hO4
 try dsimp only at hF
 refine K_ent hE ?_
 refine au ?_
 cases hF
 exact Er ()
def i_areValues_1 (a_n : Int) : Option (Bool) :=
 (i_isValue a_n).bind fun r1 =>
 some (!r1)
theorem i_areValues_1_ok (a_n : Int) (R : Bool) (hF : i_areValues_1 a_n = some R) :
   Fw.Spec Tryz.prog 170 [(.int .i64 a_n)] [] (fun _ : Unit => (.bool R)) (fun _ => []) := by
 refine Se 6 Tryz.func170 [.tmp 2] ?_
 intro H0 F0
 unfold i_areValues_1 at hF
 iterate 5 refine au ?_
 refine bnd hF fun r1 hx2 hF => Cx0 (i_isValue_ok _ _ hx2) (fun _ => ?_)
 iterate 4 refine au ?_
 cases hF
 exact Er ()
def g_slices_IndexFunc_int_int_iareValues1_L1 : List Int → Nat → Option (Int)
 | [], k4 => some (-1)
 | x6 :: rest5, k4 => (i_areValues_1 x6).bind fun r15 =>
   if r15 then (
     some (k4 : Int))
   else (
     g_slices_IndexFunc_int_int_iareValues1_L1 rest5 (k4 + 1))
def g_slices_IndexFunc_int_int_iareValues1 (a_s : List Int) : Option (Int) :=
 g_slices_IndexFunc_int_int_iareValues1_L1 a_s 0
theorem g_slices_IndexFunc_int_int_iareValues1_ok (a_s : List Int) (v0_0 : Sv) (R : Int) (hF : g_slices_IndexFunc_int_int_iareValues1 a_s = some R) :
   Fw.Spec Tryz.prog 185 [v0_0.v, (.func (.func 170) [].toArray [].toArray)] [crd (RdS 3 rdInt) v0_0.v a_s] (fun _ : Unit => (.int .i64 R)) (fun _ => []) := by
 refine Se 19 Tryz.func185 [.tmp 4] ?_
 intro H0 F0
 unfold g_slices_IndexFunc_int_int_iareValues1 at hF
 iterate 9 refine au ?_
 refine CW_block (CW_loop (m := a_s.length) (fun m2 f' cs' => ∃ (g : Fr) (k4 : Nat) (rest5 : List Int), m2 = rest5.length ∧ f' = updL g [(0, v0_0.v), (1, (.func (.func 170) [].toArray [].toArray)), (7, (.int .i64 (a_s.length : Int))), (8, (.int .i64 (k4 : Int)))] ∧ List.drop k4 a_s = rest5 ∧ Ent cs' [crd (RdS 3 rdInt) v0_0.v a_s] ∧ g_slices_IndexFunc_int_int_iareValues1_L1 rest5 k4 = some R) ⟨_, 0, _, rfl, eqA, rfl, entA, hF⟩ ?_)
 rintro m2 _ _ ⟨g3, k4, rest5, rfl, rfl, hd7, hE, hF⟩
 refine Kb hE a_s (fun hbd12 => ?_)
 rcases rest5 with _ | ⟨x6, rest5⟩
 · have hk8 := dn hd7
   rw [g_slices_IndexFunc_int_int_iareValues1_L1] at hF
   iterate 4 refine au ?_
   refine CdF ?_
   iterate 8 refine au ?_
   cases hF
   exact Er ()
 obtain ⟨hk8, hx9, hd10⟩ := drop_cons hd7
 rw [g_slices_IndexFunc_int_int_iareValues1_L1] at hF
 iterate 4 refine au ?_
 refine CdT ?_
 iterate 10 refine au ?_
 refine Ai hx9 (fun k13 j14 => ?_)
 refine Al ls3_0 ?_
 refine bnd hF fun r15 hx16 hF => C_x0 .nil (X_callCS cf170.h (.tmp rfl rfl) (.cons (.tmp rfl rfl) .nil) (i_areValues_1_ok x6 _ hx16)) (fun _ => ?_)
 refine au ?_
 refine Ci hF (fun hb19 hF => ?_) (fun hb19 hF => ?_)
 · iterate 5 refine au ?_
   cases hF
   exact Er ()
 iterate 5 refine au ?_
 rw [wk k4]
 exact ⟨_, Nat.lt_succ_self _, _, k4 + 1, rest5, rfl, eqA, hd10, entA, hF⟩
def g_slices_ContainsFunc_int_int_iareValues1 (a_s : List Int) : Option (Bool) :=
 (g_slices_IndexFunc_int_int_iareValues1 a_s).bind fun r1 =>
 some (decide ((0 : Int) ≤ r1))
theorem g_slices_ContainsFunc_int_int_iareValues1_ok (a_s : List Int) (v0_0 : Sv) (R : Bool) (hF : g_slices_ContainsFunc_int_int_iareValues1 a_s = some R) :
   Fw.Spec Tryz.prog 155 [v0_0.v, (.func (.func 170) [].toArray [].toArray)] [crd (RdS 3 rdInt) v0_0.v a_s] (fun _ : Unit => (.bool R)) (fun _ => []) := by
 refine Se 9 Tryz.func155 [.tmp 4] ?_
 intro H0 F0
 unfold g_slices_ContainsFunc_int_int_iareValues1 at hF
 iterate 6 refine au ?_
 refine bnd hF fun r1 hx2 hF => Cx0 (g_slices_IndexFunc_int_int_iareValues1_ok _ _ _ hx2) (fun _ => ?_)
 iterate 4 refine au ?_
 cases hF
 exact Er ()
def i_areValues (a_l : List Int) : Option (Bool) :=
 (g_slices_ContainsFunc_int_int_iareValues1 a_l).bind fun r1 =>
 some (!r1)
theorem i_areValues_ok (a_l : List Int) (v0_0 : Sv) (R : Bool) (hF : i_areValues a_l = some R) :
   Fw.Spec Tryz.prog 124 [v0_0.v] [crd (RdS 3 rdInt) v0_0.v a_l] (fun _ : Unit => (.bool R)) (fun _ => []) := by
 refine Se 6 Tryz.func124 [.tmp 2] ?_
 intro H0 F0
 unfold i_areValues at hF
 iterate 5 refine au ?_
 refine bnd hF fun r1 hx2 hF => Cx0 (g_slices_ContainsFunc_int_int_iareValues1_ok _ _ _ hx2) (fun _ => ?_)
 iterate 4 refine au ?_
 cases hF
 exact Er ()
def i_IsFact (a_s : List Int) (a_f : Fact) : Option (Bool) :=
 ((i_hasRel a_s a_f.Rel).bind fun r4 =>
   bif r4 then ((ix a_s a_f.Rel).bind fun x8 =>
     bif (((a_f.Values.length : Int) : Int) == x8) then ((i_areValues a_f.Values).bind fun r15 =>
       some r15)
     else (some false))
   else (some false)).bind fun o2 =>
 match o2 with
 | c18 => some c18
theorem i_IsFact_ok (a_s : List Int) (v0_0 : Sv) (a_f : Fact) (v1_1 : Sv) (R : Bool) (hF : i_IsFact a_s a_f = some R) :
   Fw.Spec Tryz.prog 115 [v0_0.v, (.agg [(.int .i64 a_f.Rel), v1_1.v].toArray)] [crd (RdS 3 rdInt) v0_0.v a_s, crd (RdS 3 rdInt) v1_1.v a_f.Values] (fun _ : Unit => (.bool R)) (fun _ => []) := by
 refine Se 25 Tryz.func115 [.tmp 4] ?_
 intro H0 F0
 unfold i_IsFact at hF
 refine au ?_
 refine AbR (fun k1 => ?_)
 iterate 2 refine au ?_
 obtain ⟨o2, hio2, hO3⟩ := bind_some hF
 refine K_draw [0, 1, 2, 3, 4, 5, 6, 7, 8, 9, 10, 11, 12, 13, 14, 15, 16, 17, 18, 19, 20] [0, 0, 2, 7, 15, 31, 63, 127, 31, 31, 543, 1823, 3871, 8191, 16383, 32767, 65535, 131071, 262143, 524287, 1048575] [3, 18] mixed (by decide +kernel) ?_
 refine D_cut (fun f' cs' => ∃ (c18 : Bool) (g : Fr), c18 = o2 ∧ f' = updL g [(4, (.bool c18))] ∧ Ent cs' []) ?_ ?_
 · replace hF := hio2
   iterate 3 refine du ?_
   refine bnd hF fun r4 hx5 hF => Dx0 (i_hasRel_ok _ _ _ _ hx5) (fun _ => ?_)
   refine du ?_
   rcases Bool.eq_false_or_eq_true r4 with hg7 | hg7
   · rw [hg7]
     try rw [hg7] at hF; dsimp only [cond_true, cond_false] at hF
     iterate 6 refine du ?_
     refine bnd hF fun x8 hx9 hF => ?_
     obtain ⟨hp10, hx11⟩ := ix_some hx9
     refine Di hx11 (fun k12 j13 => ?_)
     refine Dl ls3_0 ?_
     iterate 3 refine du ?_
     rcases Bool.eq_false_or_eq_true (((a_f.Values.length : Int) : Int) == x8) with hg14 | hg14
     · rw [hg14]
       try rw [hg14] at hF; dsimp only [cond_true, cond_false] at hF
       iterate 2 refine du ?_
       refine bnd hF fun r15 hx16 hF => Dx0 (i_areValues_ok _ _ _ hx16) (fun _ => ?_)
       iterate 3 refine du ?_
       cases hF
       exact ⟨_, _, rfl, eqA, entA⟩
     rw [hg14]
     try rw [hg14] at hF; dsimp only [cond_true, cond_false] at hF
     iterate 6 refine du ?_
     cases hF
     exact ⟨_, _, rfl, eqA, entA⟩
   rw [hg7]
   try rw [hg7] at hF; dsimp only [cond_true, cond_false] at hF
   iterate 17 refine du ?_
   cases hF
   exact ⟨_, _, rfl, eqA, entA⟩
 rintro _ _ ⟨c18, g19, rfl, rfl, hE⟩
 replace hF := hO3
 try dsimp only at hF
 refine K_ent hE ?_
 refine au ?_
 cases hF
 exact Er ()
def i_AreFacts_L1 (a_s : List Int) (a_l : List Fact) : List Fact → Nat → Option (Bool)
 | [], k4 => ((i_IsSchema a_s).bind fun r15 =>
     bif r15 then (some (decide (((a_l.length : Int) : Int) ≤ 24)))
     else (some false)).bind fun o13 =>
   match o13 with
   | c19 => some c19
 | x6 :: rest5, k4 => ((i_IsFact a_s x6).bind fun r27 =>
     bif (!r27) then (some true)
     else (bif (decide ((0 : Int) < (k4 : Int))) then ((ix a_l (IntKind.i64.wrap ((k4 : Int) - 1))).bind fun x32 =>
         (i_CompareFacts x32 x6).bind fun r39 =>
         some (decide ((0 : Int) ≤ r39)))
       else (some false))).bind fun o25 =>
   match o25 with
   | c42 => if c42 then (
       some false)
     else (
       i_AreFacts_L1 a_s a_l rest5 (k4 + 1))
def i_AreFacts (a_s : List Int) (a_l : List Fact) : Option (Bool) :=
 i_AreFacts_L1 a_s a_l a_l 0
theorem i_AreFacts_ok (a_s : List Int) (v0_0 : Sv) (a_l : List Fact) (v1_0 : Sv) (R : Bool) (hF : i_AreFacts a_s a_l = some R) :
   Fw.Spec Tryz.prog 60 [v0_0.v, v1_0.v] [crd (RdS 3 rdInt) v0_0.v a_s, crd (RdS 58 rd58) v1_0.v a_l] (fun _ : Unit => (.bool R)) (fun _ => []) := by
 refine Se 40 Tryz.func60 [.tmp 4] ?_
 intro H0 F0
 unfold i_AreFacts at hF
 iterate 9 refine au ?_
 refine CW_block (CW_loop (m := a_l.length) (fun m2 f' cs' => ∃ (g : Fr) (k4 : Nat) (rest5 : List Fact), m2 = rest5.length ∧ f' = updL g [(0, v0_0.v), (1, v1_0.v), (7, v1_0.v), (8, (.int .i64 (a_l.length : Int))), (9, (.int .i64 (k4 : Int)))] ∧ List.drop k4 a_l = rest5 ∧ Ent cs' [crd (RdS 3 rdInt) v0_0.v a_s, crd (RdS 58 rd58) v1_0.v a_l] ∧ i_AreFacts_L1 a_s a_l rest5 k4 = some R) ⟨_, 0, _, rfl, eqA, rfl, entA, hF⟩ ?_)
 rintro m2 _ _ ⟨g3, k4, rest5, rfl, rfl, hd7, hE, hF⟩
 refine Kb hE a_l (fun hbd12 => ?_)
 rcases rest5 with _ | ⟨x6, rest5⟩
 · have hk8 := dn hd7
   rw [i_AreFacts_L1] at hF
   iterate 4 refine au ?_
   refine CdF ?_
   iterate 4 refine au ?_
   obtain ⟨o13, hio13, hO14⟩ := bind_some hF
   refine au ?_
   refine C_cut (fun f' cs' => ∃ (c19 : Bool) (g : Fr), c19 = o13 ∧ f' = updL g [(4, (.bool c19))] ∧ Ent cs' []) ?_ ?_
   · replace hF := hio13
     refine au ?_
     refine bnd hF fun r15 hx16 hF => Cx0 (i_IsSchema_ok _ _ _ hx16) (fun _ => ?_)
     refine au ?_
     rcases Bool.eq_false_or_eq_true r15 with hg18 | hg18
     · rw [hg18]
       try rw [hg18] at hF; dsimp only [cond_true, cond_false] at hF
       iterate 9 refine au ?_
       cases hF
       exact ⟨_, _, rfl, eqA, entA⟩
     rw [hg18]
     try rw [hg18] at hF; dsimp only [cond_true, cond_false] at hF
     iterate 6 refine au ?_
     cases hF
     exact ⟨_, _, rfl, eqA, entA⟩
   rintro _ _ ⟨c19, g20, rfl, rfl, hE⟩
   replace hF := hO14
   try dsimp only at hF
   refine K_ent hE ?_
   refine au ?_
   cases hF
   exact Er ()
 obtain ⟨hk8, hx9, hd10⟩ := drop_cons hd7
 rw [i_AreFacts_L1] at hF
 iterate 4 refine au ?_
 refine CdT ?_
 iterate 4 refine au ?_
 refine Ai hx9 (fun k21 j22 => ?_)
 refine AlA1 (ul58_0_58 x6) la58_0_58 (fun p23 => ?_)
 refine AnW (fun k24 => ?_)
 refine au ?_
 refine As (.agg [(.int .i64 x6.Rel), p23.v].toArray) ?_
 refine au ?_
 obtain ⟨o25, hio25, hO26⟩ := bind_some hF
 refine K_draw [0, 1, 2, 3, 4, 5, 6, 7, 8, 9, 10, 11, 12, 13, 14, 15, 16, 17] [0, 0, 3, 7, 15, 31, 63, 127, 255, 255, 767, 2047, 4095, 255, 16383, 32767, 65535, 131071] [2, 14] mixed (by decide +kernel) ?_
 refine D_cut (fun f' cs' => ∃ (c42 : Bool) (g : Fr), c42 = o25 ∧ f' = updL g [(0, v0_0.v), (1, v1_0.v), (7, v1_0.v), (8, (.int .i64 (a_l.length : Int))), (9, (.int .i64 (k4 : Int))), (31, (.bool c42))] ∧ Ent cs' [crd (RdS 3 rdInt) v0_0.v a_s, crd (RdS 58 rd58) v1_0.v a_l]) ?_ ?_
 · replace hF := hio25
   refine du ?_
   refine D_atO rfl .no .h (fun ha hp => V_loadBox ag58.h ty58.h.sz rfl (EN ha (.tmp rfl rfl) rfl) hp.2 rfl) ?_
   refine bnd hF fun r27 hx28 hF => Dx0 (i_IsFact_ok _ _ _ _ _ hx28) (fun _ => ?_)
   iterate 2 refine du ?_
   rcases Bool.eq_false_or_eq_true (!r27) with hg30 | hg30
   · rw [hg30]
     try rw [hg30] at hF; dsimp only [cond_true, cond_false] at hF
     iterate 14 refine du ?_
     cases hF
     exact ⟨_, _, rfl, eqA, entA⟩
   rw [hg30]
   try rw [hg30] at hF; dsimp only [cond_true, cond_false] at hF
   iterate 3 refine du ?_
   rcases Bool.eq_false_or_eq_true (decide ((0 : Int) < (k4 : Int))) with hg31 | hg31
   · rw [hg31]
     try rw [hg31] at hF; dsimp only [cond_true, cond_false] at hF
     iterate 3 refine du ?_
     refine bnd hF fun x32 hx33 hF => ?_
     obtain ⟨hp34, hx35⟩ := ix_some hx33
     refine Di hx35 (fun k36 j37 => ?_)
     refine DlA1 (ul58_0_58 x32) la58_0_58 (fun p38 => ?_)
     refine D_atO rfl (.on 21 rfl rfl rfl) (.t (.t .h)) (fun ha hp => V_loadBox ag58.h ty58.h.sz rfl (EN ha (.tmp rfl rfl) rfl) hp.2 rfl) ?_
     refine bnd hF fun r39 hx40 hF => Dx0 (i_CompareFacts_ok _ _ _ _ _ hx40) (fun _ => ?_)
     iterate 4 refine du ?_
     cases hF
     exact ⟨_, _, rfl, eqA, entA⟩
   rw [hg31]
   try rw [hg31] at hF; dsimp only [cond_true, cond_false] at hF
   iterate 11 refine du ?_
   cases hF
   exact ⟨_, _, rfl, eqA, entA⟩
 rintro _ _ ⟨c42, g45, rfl, rfl, hE⟩
 replace hF := hO26
 try dsimp only at hF
 refine K_ent hE ?_
 refine Ci hF (fun hb44 hF => ?_) (fun hb44 hF => ?_)
 · iterate 4 refine au ?_
   cases hF
   exact Er ()
 iterate 5 refine au ?_
 rw [wk k4]
 exact ⟨_, Nat.lt_succ_self _, _, k4 + 1, rest5, rfl, eqA, hd10, entA, hF⟩
def i_copyBinding (a_b : Binding) : Option (Binding) :=
 (g_slices_Clone_int_int a_b.Vars).bind fun r3 =>
 (g_slices_Clone_int_int a_b.Values).bind fun r6 =>
 some ({ Vars := r3, Values := r6 } : Binding)
theorem i_copyBinding_ok (a_b : Binding) (v0_0 : Sv) (v0_1 : Sv) (R : Binding) (hF : i_copyBinding a_b = some R) :
   Fw.Spec Tryz.prog 218 [(.agg [v0_0.v, v0_1.v].toArray)] [crd (RdS 3 rdInt) v0_0.v a_b.Vars, crd (RdS 3 rdInt) v0_1.v a_b.Values] (fun p : Sv × List Nat × Sv × List Nat => (.agg [p.1.v, p.2.2.1.v].toArray)) (fun p => [cown (OwnS 3 (roE rdInt)) p.2.1 p.1.v R.Vars, cown (OwnS 3 (roE rdInt)) p.2.2.2 p.2.2.1.v R.Values]) := by
 refine Se 10 Tryz.func218 [.cell 2 127] ?_
 intro H0 F0
 unfold i_copyBinding at hF
 refine au ?_
 refine AbR (fun k1 => ?_)
 refine AnW (fun k2 => ?_)
 refine au ?_
 refine K_draw [0, 1, 3, 4, 2, 5, 6, 7] [0, 1, 3, 0, 8, 31, 63, 127] [2, 5, 7] mixed (by decide +kernel) ?_
 iterate 4 refine du ?_
 refine bnd hF fun r3 hx4 hF => Dx1 (g_slices_Clone_int_int_ok _ _ _ hx4) (fun p5 => ?_)
 refine bnd hF fun r6 hx7 hF => Dx1 (g_slices_Clone_int_int_ok _ _ _ hx7) (fun p8 => ?_)
 refine D_val rfl .no (fun ha => V_build ty127.h rfl (vs := [p5.1.v, p8.1.v]) (.cons (EN ha (.tmp rfl rfl) rfl) (.cons (EN ha (.tmp rfl rfl) rfl) .nil)) (cells := [p5.1.v, p8.1.v]) rfl) ?_
 refine D_act1 rfl rfl .no (.cons (.t (.t .h)) .nil) .nil (fun ha => X_storeB (e' := (.agg [p5.1.v, p8.1.v].toArray)) (v := (.agg [p5.1.v, p8.1.v].toArray)) ty127.h.sz (EN ha (.tmp rfl rfl) rfl) (EN ha (.tmp rfl rfl) rfl) rfl rfl rfl rfl rfl) (fun _ => ?_)
 refine du ?_
 refine au ?_
 cases hF
 exact Er (p5.1, p5.2, p8.1, p8.2)
def i_Binding_entry (a_b : Binding) (a_t : Int) : Option (Int) :=
 (chk (decide (0 ≤ (if (a_b.Values.length : Int) < (a_b.Vars.length : Int) then (a_b.Values.length : Int) else (a_b.Vars.length : Int))) && decide ((if (a_b.Values.length : Int) < (a_b.Vars.length : Int) then (a_b.Values.length : Int) else (a_b.Vars.length : Int)) ≤ (a_b.Vars.length : Int)))).bind fun u3 =>
 (g_slices_Index_int_int (a_b.Vars.take ((if (a_b.Values.length : Int) < (a_b.Vars.length : Int) then (a_b.Values.length : Int) else (a_b.Vars.length : Int))).toNat) a_t).bind fun r6 =>
 some r6
theorem i_Binding_entry_ok (a_b : Binding) (v0_0 : Sv) (v0_1 : Sv) (a_t : Int) (R : Int) (hF : i_Binding_entry a_b a_t = some R) :
   Fw.Spec Tryz.prog 217 [(.agg [v0_0.v, v0_1.v].toArray), (.int .i64 a_t)] [crd (RdS 3 rdInt) v0_0.v a_b.Vars, crd (RdS 3 rdInt) v0_1.v a_b.Values] (fun _ : Unit => (.int .i64 R)) (fun _ => []) := by
 refine Se 17 Tryz.func217 [.tmp 4] ?_
 intro H0 F0
 unfold i_Binding_entry at hF
 refine au ?_
 refine AbR (fun k1 => ?_)
 iterate 11 refine au ?_
 refine C_val (V_min (i := (a_b.Vars.length : Int)) (j := (a_b.Values.length : Int)) (.tmp rfl rfl) (.tmp rfl rfl)) ?_
 refine bnd hF fun u3 hx5 hF => ?_
 have hc2 := chk_some hx5
 simp only [Bool.and_eq_true, decide_eq_true_eq] at hc2
 refine C_sliceHiR sl24.h ty3.h.sz (.tmp rfl rfl) (.tmp rfl rfl) (.t .h) hc2.1 hc2.2 (fun w4 => ?_)
 refine au ?_
 refine bnd hF fun r6 hx7 hF => Cx0 (g_slices_Index_int_int_ok _ _ _ _ hx7) (fun _ => ?_)
 iterate 3 refine au ?_
 cases hF
 exact Er ()
def i_ValueOf (a_b : Binding) (a_term : Int) : Option (Int) :=
 (i_IsVar a_term).bind fun r2 =>
 if (!r2) then (
   some a_term)
 else (
   (i_Binding_entry a_b a_term).bind fun r5 =>
   if (decide ((r5 : Int) < 0)) then (
     some (-1))
   else (
     (ix a_b.Values r5).bind fun x8 =>
     some x8))
theorem i_ValueOf_ok (a_b : Binding) (v0_0 : Sv) (v0_1 : Sv) (a_term : Int) (R : Int) (hF : i_ValueOf a_b a_term = some R) :
   Fw.Spec Tryz.prog 195 [(.agg [v0_0.v, v0_1.v].toArray), (.int .i64 a_term)] [crd (RdS 3 rdInt) v0_0.v a_b.Vars, crd (RdS 3 rdInt) v0_1.v a_b.Values] (fun _ : Unit => (.int .i64 R)) (fun _ => []) := by
 refine Se 20 Tryz.func195 [.tmp 4] ?_
 intro H0 F0
 unfold i_ValueOf at hF
 refine au ?_
 refine AbR (fun k1 => ?_)
 iterate 5 refine au ?_
 refine bnd hF fun r2 hx3 hF => Cx0 (i_IsVar_ok _ _ hx3) (fun _ => ?_)
 iterate 2 refine au ?_
 refine Ci hF (fun hb15 hF => ?_) (fun hb15 hF => ?_)
 · iterate 5 refine au ?_
   cases hF
   exact Er ()
 iterate 4 refine au ?_
 refine bnd hF fun r5 hx6 hF => Cx0 (i_Binding_entry_ok _ _ _ _ _ hx6) (fun _ => ?_)
 iterate 7 refine au ?_
 refine Ci hF (fun hb14 hF => ?_) (fun hb14 hF => ?_)
 · iterate 4 refine au ?_
   cases hF
   exact Er ()
 iterate 5 refine au ?_
 refine bnd hF fun x8 hx9 hF => ?_
 obtain ⟨hp10, hx11⟩ := ix_some hx9
 refine Ai hx11 (fun k12 j13 => ?_)
 refine Al ls3_0 ?_
 iterate 3 refine au ?_
 cases hF
 exact Er ()
def i_MatchAtom_L1 (a_f : Fact) : List Int → Nat → (List Int) → (List Int) → Option (Binding × Bool)
 | [], k89, c80, c83 => some (({ Vars := c80, Values := c83 } : Binding), true)
 | x91 :: rest90, k89, c80, c83 => ((((i_IsVar x91).bind fun r104 =>
       bif r104 then ((i_Binding_entry ({ Vars := c80, Values := c83 } : Binding) x91).bind fun r108 =>
         some (decide ((r108 : Int) < 0)))
       else (some false)).bind fun o102 =>
     match o102 with
     | c111 => if c111 then (
         (ix a_f.Values (k89 : Int)).bind fun x113 =>
         (app c80 ([x91] : List Int)).bind fun z120 =>
         (app c83 ([x113] : List Int)).bind fun z123 =>
         (ix a_f.Values (k89 : Int)).bind fun x126 =>
         (i_ValueOf ({ Vars := z120, Values := z123 } : Binding) x91).bind fun r132 =>
         if ((r132 : Int) != x126) then (
           some (.inl (({ Vars := [], Values := [] } : Binding), false)))
         else (
           some (.inr (z120, z123))))
       else (
         (ix a_f.Values (k89 : Int)).bind fun x136 =>
         (i_ValueOf ({ Vars := c80, Values := c83 } : Binding) x91).bind fun r142 =>
         if ((r142 : Int) != x136) then (
           some (.inl (({ Vars := [], Values := [] } : Binding), false)))
         else (
           some (.inr (c80, c83))))) : Option (Sum (Binding × Bool) ((List Int) × (List Int)))).bind fun o98 =>
   match o98 with
   | .inl r => some r
   | .inr (c148, c151) => i_MatchAtom_L1 a_f rest90 (k89 + 1) c148 c151
def i_MatchAtom (a_b : Binding) (a_a : Atom) (a_f : Fact) : Option (Binding × Bool) :=
 if (((a_a.Rel : Int) != a_f.Rel) || ((((a_a.Terms.length : Int) : Int) != (a_f.Values.length : Int)) || (((a_b.Vars.length : Int) : Int) != (a_b.Values.length : Int)))) then (
   some (({ Vars := [], Values := [] } : Binding), false))
 else (
   (i_copyBinding a_b).bind fun r8 =>
   i_MatchAtom_L1 a_f a_a.Terms 0 r8.Vars r8.Values)
theorem i_MatchAtom_ok (a_b : Binding) (v0_0 : Sv) (v0_1 : Sv) (a_a : Atom) (v1_1 : Sv) (a_f : Fact) (v2_1 : Sv) (R : Binding × Bool) (hF : i_MatchAtom a_b a_a a_f = some R) :
   Fw.Spec Tryz.prog 196 [(.agg [v0_0.v, v0_1.v].toArray), (.agg [(.int .i64 a_a.Rel), v1_1.v].toArray), (.agg [(.int .i64 a_f.Rel), v2_1.v].toArray)] [crd (RdS 3 rdInt) v0_0.v a_b.Vars, crd (RdS 3 rdInt) v0_1.v a_b.Values, crd (RdS 3 rdInt) v1_1.v a_a.Terms, crd (RdS 3 rdInt) v2_1.v a_f.Values] (fun p : Sv × List Nat × Sv × List Nat => (.tuple [(.agg [p.1.v, p.2.2.1.v].toArray), (.bool R.2)].toArray)) (fun p => [cown (OwnS 3 (roE rdInt)) p.2.1 p.1.v R.1.Vars, cown (OwnS 3 (roE rdInt)) p.2.2.2 p.2.2.1.v R.1.Values]) := by
 refine Se 81 Tryz.func196 [.cell 6 127, .tmp 7] ?_
 intro H0 F0
 unfold i_MatchAtom at hF
 refine au ?_
 refine AbR (fun k1 => ?_)
 refine AbR (fun k2 => ?_)
 refine AbR (fun k3 => ?_)
 refine AnW (fun k4 => ?_)
 iterate 4 refine au ?_
 refine C_cut (fun f' cs' => ∃ (g : Fr), f' = updL g [(3, (pz k1)), (4, (pz k2)), (5, (pz k3)), (6, (pz k4)), (33, (.bool (((a_a.Rel : Int) != a_f.Rel) || ((((a_a.Terms.length : Int) : Int) != (a_f.Values.length : Int)) || (((a_b.Vars.length : Int) : Int) != (a_b.Values.length : Int))))))] ∧ Ent cs' [cboR k1 127 (.agg [v0_0.v, v0_1.v].toArray), crd (RdS 3 rdInt) v0_0.v a_b.Vars, crd (RdS 3 rdInt) v0_1.v a_b.Values, cboR k2 78 (.agg [(.int .i64 a_a.Rel), v1_1.v].toArray), crd (RdS 3 rdInt) v1_1.v a_a.Terms, cboR k3 58 (.agg [(.int .i64 a_f.Rel), v2_1.v].toArray), crd (RdS 3 rdInt) v2_1.v a_f.Values, cbox k4 127 (.agg [(.slice none 0 0), (.slice none 0 0)].toArray)]) ?_ ?_
 · iterate 6 refine au ?_
   rcases Bool.eq_false_or_eq_true ((a_a.Rel : Int) != a_f.Rel) with hg5 | hg5
   · rw [hg5]
     try rw [hg5] at hF; dsimp only [cond_true, cond_false] at hF
     iterate 18 refine au ?_
     exact ⟨_, eqA, entA⟩
   rw [hg5]
   try rw [hg5] at hF; dsimp only [cond_true, cond_false] at hF
   iterate 16 refine au ?_
   rcases Bool.eq_false_or_eq_true (((a_a.Terms.length : Int) : Int) != (a_f.Values.length : Int)) with hg6 | hg6
   · rw [hg6]
     try rw [hg6] at hF; dsimp only [cond_true, cond_false] at hF
     iterate 9 refine au ?_
     exact ⟨_, eqA, entA⟩
   rw [hg6]
   try rw [hg6] at hF; dsimp only [cond_true, cond_false] at hF
   iterate 16 refine au ?_
   exact ⟨_, eqA, entA⟩
 rintro _ _ ⟨g7, rfl, hE⟩
 refine K_ent hE ?_
 refine Ci hF (fun hb156 hF => ?_) (fun hb156 hF => ?_)
 · refine au ?_
   refine C_val (V_build ty127.h rfl (vs := []) .nil (cells := [(.slice none 0 0), (.slice none 0 0)]) rfl) ?_
   refine As (.agg [(.slice none 0 0), (.slice none 0 0)].toArray) ?_
   iterate 3 refine au ?_
   cases hF
   exact End_ret (⟨none, 0, 0⟩, [], ⟨none, 0, 0⟩, []) (.cellA rfl rfl .h rfl ag127.h ty127.h.sz rfl rfl (.tmp rfl rfl .nil)) rfl (.conv .nil (own_nil (Ro := (roE rdInt)) (E := 3)) (.cons .nil) (.conv .nil (own_nil (Ro := (roE rdInt)) (E := 3)) (.cons .nil) (.sel (.cons (.t .h) (.cons .h .nil)))))
 iterate 3 refine au ?_
 refine bnd hF fun r8 hx9 hF => Cx2 (i_copyBinding_ok _ _ _ _ hx9) (fun p10 => ?_)
 refine AnW (fun k11 => ?_)
 refine As (.agg [p10.1.v, p10.2.2.1.v].toArray) ?_
 iterate 8 refine au ?_
 refine CW_block (CW_loop (m := a_a.Terms.length) (fun m87 f' cs' => ∃ (g : Fr) (k89 : Nat) (rest90 : List Int) (c80 : List Int) (c83 : List Int) (v81 : Sv) (F82 : List Nat) (v84 : Sv) (F85 : List Nat), m87 = rest90.length ∧ f' = updL g [(5, (pz k3)), (6, (pz k4)), (8, (pz k11)), (38, v1_1.v), (39, (.int .i64 (a_a.Terms.length : Int))), (40, (.int .i64 (k89 : Int)))] ∧ List.drop k89 a_a.Terms = rest90 ∧ Ent cs' [cboR k3 58 (.agg [(.int .i64 a_f.Rel), v2_1.v].toArray), crd (RdS 3 rdInt) v2_1.v a_f.Values, cbox k4 127 (.agg [(.slice none 0 0), (.slice none 0 0)].toArray), cbox k11 127 (.agg [v81.v, v84.v].toArray), cown (OwnS 3 (roE rdInt)) F82 v81.v c80, cown (OwnS 3 (roE rdInt)) F85 v84.v c83, crd (RdS 3 rdInt) v1_1.v a_a.Terms] ∧ i_MatchAtom_L1 a_f rest90 k89 c80 c83 = some R) ⟨_, 0, _, _, _, p10.1, p10.2.1, p10.2.2.1, p10.2.2.2, rfl, eqA, rfl, entA, hF⟩ ?_)
 rintro m87 _ _ ⟨g88, k89, rest90, c80, c83, v81, F82, v84, F85, rfl, rfl, hd92, hE, hF⟩
 refine Kb hE a_a.Terms (fun hbd97 => ?_)
 rcases rest90 with _ | ⟨x91, rest90⟩
 · have hk93 := dn hd92
   rw [i_MatchAtom_L1] at hF
   iterate 4 refine au ?_
   refine CdF ?_
   iterate 6 refine au ?_
   refine As (.agg [v81.v, v84.v].toArray) ?_
   iterate 3 refine au ?_
   cases hF
   exact End_ret (v81, F82, v84, F85) (.cellA rfl rfl .h rfl ag127.h ty127.h.sz rfl rfl (.tmp rfl rfl .nil)) rfl (.sel (.cons (.t (.t (.t (.t .h)))) (.cons (.t (.t (.t (.t .h)))) .nil)))
 obtain ⟨hk93, hx94, hd95⟩ := drop_cons hd92
 rw [i_MatchAtom_L1] at hF
 iterate 4 refine au ?_
 refine CdT ?_
 refine au ?_
 obtain ⟨o98, hio98, hO99⟩ := bind_some hF
 refine K_cut (fun f' cs' => ∃ (c148 : List Int) (c151 : List Int) (v149 : Sv) (F150 : List Nat) (v152 : Sv) (F153 : List Nat) (g : Fr), o98 = .inr (c148, c151) ∧ f' = updL g [(5, (pz k3)), (6, (pz k4)), (8, (pz k11)), (38, v1_1.v), (39, (.int .i64 (a_a.Terms.length : Int))), (40, (.int .i64 (k89 : Int)))] ∧ Ent cs' [cboR k3 58 (.agg [(.int .i64 a_f.Rel), v2_1.v].toArray), crd (RdS 3 rdInt) v2_1.v a_f.Values, cbox k4 127 (.agg [(.slice none 0 0), (.slice none 0 0)].toArray), cbox k11 127 (.agg [v149.v, v152.v].toArray), cown (OwnS 3 (roE rdInt)) F150 v149.v c148, cown (OwnS 3 (roE rdInt)) F153 v152.v c151, crd (RdS 3 rdInt) v1_1.v a_a.Terms]) ?_ ?_
 · replace hF := hio98
   refine CW_block (K_region (Cm (.int .i64 (k89 : Int)) rfl rfl ?_))
   refine Ai hx94 (fun k100 j101 => ?_)
   refine Al ls3_0 ?_
   iterate 4 refine au ?_
   obtain ⟨o102, hio102, hO103⟩ := bind_some hF
   refine au ?_
   refine C_cut (fun f' cs' => ∃ (c111 : Bool) (g : Fr), c111 = o102 ∧ f' = updL g [(5, (pz k3)), (6, (pz k4)), (8, (pz k11)), (9, (.int .i64 (k89 : Int))), (10, (.int .i64 x91)), (38, v1_1.v), (39, (.int .i64 (a_a.Terms.length : Int))), (40, (.int .i64 (k89 : Int))), (52, (.bool c111))] ∧ Ent cs' [cboR k3 58 (.agg [(.int .i64 a_f.Rel), v2_1.v].toArray), crd (RdS 3 rdInt) v2_1.v a_f.Values, cbox k4 127 (.agg [(.slice none 0 0), (.slice none 0 0)].toArray), cbox k11 127 (.agg [v81.v, v84.v].toArray), cown (OwnS 3 (roE rdInt)) F82 v81.v c80, cown (OwnS 3 (roE rdInt)) F85 v84.v c83, crd (RdS 3 rdInt) v1_1.v a_a.Terms]) ?_ ?_
   · replace hF := hio102
     refine au ?_
     refine bnd hF fun r104 hx105 hF => Cx0 (i_IsVar_ok _ _ hx105) (fun _ => ?_)
     refine au ?_
     rcases Bool.eq_false_or_eq_true r104 with hg107 | hg107
     · rw [hg107]
       try rw [hg107] at hF; dsimp only [cond_true, cond_false] at hF
       iterate 5 refine au ?_
       refine bnd hF fun r108 hx109 hF => C_x2 (.cons (.t (.t (.t (.t (.t (.t .h)))))) (.cons (.t (.t (.t (.t (.t .h))))) .nil)) (XC_borL (pre := []) (.cons frz_own (.cons frz_own .nil)) (fun _ => .nil) (X_callS cf217.h (.cons (.tmp rfl rfl) (.cons (.tmp rfl rfl) .nil)) (i_Binding_entry_ok ({ Vars := c80, Values := c83 } : Binding) v81 v84 x91 _ hx109))) (fun _ => ?_)
       iterate 4 refine au ?_
       cases hF
       exact ⟨_, _, rfl, eqA, entA⟩
     rw [hg107]
     try rw [hg107] at hF; dsimp only [cond_true, cond_false] at hF
     iterate 6 refine au ?_
     cases hF
     exact ⟨_, _, rfl, eqA, entA⟩
   rintro _ _ ⟨c111, g147, rfl, rfl, hE⟩
   replace hF := hO103
   try dsimp only at hF
   refine K_ent hE ?_
   refine Ci hF (fun hb146 hF => ?_) (fun hb146 hF => ?_)
   · refine CW_draw [0, 1, 2, 3, 5, 6, 7, 8, 9, 10, 11, 12, 4, 14, 13, 15, 16, 17] [0, 1, 0, 4, 15, 0, 32, 0, 128, 0, 896, 1920, 3968, 8191, 127, 32767, 65535, 131071] [4, 13, 15, 17] mixed (by decide +kernel) ?_
     refine du ?_
     refine D_atO rfl .no (.t (.t (.t .h))) (fun ha hp => V_load (v := v81.v) ag24.h (EN ha (.tmp rfl rfl) rfl) hp.2 rfl rfl) ?_
     refine du ?_
     refine D_new rfl .no rfl (fun ha => N_buildSliceT (g := true) (len := 1) (parts := [(0, .tmp 55)]) sl24.h ty3.h (.cons (EN ha (.tmp rfl rfl) rfl) .nil) (vs := [(.int .i64 x91)]) rfl rfl rfl (by intro v hv; simp at hv; rcases hv with rfl <;> rfl)) (fun k112 => ?_)
     refine Dv1 (.cons .h .nil) (own_lit (Ro := (roE rdInt)) (E := 3) (F := ([] ++ [])) (xs := ([x91] : List Int)) (MkL_cons (Mk_pure (fun _ => rfl)) MkL_nil apps) rfl rfl) ?_
     refine du ?_
     refine D_atO rfl .no (.t (.t (.t (.t .h)))) (fun ha hp => V_load (v := v84.v) ag24.h (EN ha (.tmp rfl rfl) rfl) hp.2 rfl rfl) ?_
     iterate 3 refine du ?_
     refine bnd hF fun x113 hx114 hF => ?_
     obtain ⟨hp115, hx116⟩ := ix_some hx114
     refine Di hx116 (fun k117 j118 => ?_)
     refine Dl ls3_0 ?_
     refine D_new rfl .no rfl (fun ha => N_buildSliceT (g := true) (len := 1) (parts := [(0, .tmp 64)]) sl24.h ty3.h (.cons (EN ha (.tmp rfl rfl) rfl) .nil) (vs := [(.int .i64 x113)]) rfl rfl rfl (by intro v hv; simp at hv; rcases hv with rfl <;> rfl)) (fun k119 => ?_)
     refine Dv1 (.cons .h .nil) (own_lit (Ro := (roE rdInt)) (E := 3) (F := ([] ++ [])) (xs := ([x113] : List Int)) (MkL_cons (Mk_pure (fun _ => rfl)) MkL_nil apps) rfl rfl) ?_
     refine bnd hF fun z120 hx121 hF => D_act1 rfl rfl .no (.cons (.t (.t (.t (.t (.t (.t (.t .h))))))) (.cons (.t (.t .h)) .nil)) (.own .h (by simp [cown]) (.own (.t (.t (.t (.t (.t .h))))) (fun _ h => h) (.dep rfl (.dep rfl .nil)))) (fun ha => X_appendO (Ro := (roE rdInt)) sl24.h ni24 ty3.h rfl rfl rfl (EN ha (.tmp rfl rfl) rfl) (EN ha (.tmp rfl rfl) rfl) hx121 src_own) (fun p122 => ?_)
     refine du ?_
     refine bnd hF fun z123 hx124 hF => D_act1 rfl rfl .no (.cons (.t (.t (.t (.t (.t (.t (.t .h))))))) (.cons (.t .h) .nil)) (.dep rfl (.dep rfl (.dep rfl (.dep rfl .nil)))) (fun ha => X_appendO (Ro := (roE rdInt)) sl24.h ni24 ty3.h rfl rfl rfl (EN ha (.tmp rfl rfl) rfl) (EN ha (.tmp rfl rfl) rfl) hx124 src_own) (fun p125 => ?_)
     refine D_act1 rfl rfl .no (.cons (.t (.t (.t (.t (.t (.t .h)))))) .nil) (.dep rfl (.dep rfl (.dep rfl (.dep rfl .nil)))) (fun ha => X_storeB (e' := (.agg [p122.1.v, v84.v].toArray)) ty24.h.sz (EN ha (.tmp rfl rfl) rfl) (EN ha (.tmp rfl rfl) rfl) rfl rfl rfl rfl rfl) (fun _ => ?_)
     refine du ?_
     refine D_act1 rfl rfl .no (.cons .h .nil) (.dep rfl (.dep rfl (.dep rfl (.dep rfl .nil)))) (fun ha => X_storeB (e' := (.agg [p122.1.v, p125.1.v].toArray)) ty24.h.sz (EN ha (.tmp rfl rfl) rfl) (EN ha (.tmp rfl rfl) rfl) rfl rfl rfl rfl rfl) (fun _ => ?_)
     refine du ?_
     refine K_draw [0, 1, 3, 4, 5, 6, 7, 2, 8] [0, 0, 3, 0, 8, 0, 56, 120, 255] [2] mixed (by decide +kernel) ?_
     refine D_atO rfl .no .h (fun ha hp => V_loadBox ag127.h ty127.h.sz rfl (EN ha (.tmp rfl rfl) rfl) hp.2 rfl) ?_
     iterate 4 refine du ?_
     refine bnd hF fun x126 hx127 hF => ?_
     obtain ⟨hp128, hx129⟩ := ix_some hx127
     refine Di hx129 (fun k130 j131 => ?_)
     refine Dl ls3_0 ?_
     refine bnd hF fun r132 hx133 hF => D_act2 rfl rfl .no (.cons (.t (.t .h)) (.cons (.t (.t .h)) .nil)) (.dep rfl .nil) (fun ha => XC_borL (pre := []) (.cons frz_own (.cons frz_own .nil)) (fun _ => .nil) (X_callS cf195.h (.cons (EN ha (.tmp rfl rfl) rfl) (.cons (EN ha (.tmp rfl rfl) rfl) .nil)) (i_ValueOf_ok ({ Vars := z120, Values := z123 } : Binding) p122.1 p125.1 x91 _ hx133))) (fun _ => ?_)
     iterate 2 refine du ?_
     refine Ci hF (fun hb135 hF => ?_) (fun hb135 hF => ?_)
     · refine au ?_
       refine C_val (V_build ty127.h rfl (vs := []) .nil (cells := [(.slice none 0 0), (.slice none 0 0)]) rfl) ?_
       refine As (.agg [(.slice none 0 0), (.slice none 0 0)].toArray) ?_
       iterate 3 refine au ?_
       cases hF
       replace hF := hO99
       try dsimp only at hF
       cases hF
       exact End_ret (⟨none, 0, 0⟩, [], ⟨none, 0, 0⟩, []) (.cellA rfl rfl .h rfl ag127.h ty127.h.sz rfl rfl (.tmp rfl rfl .nil)) rfl (.conv .nil (own_nil (Ro := (roE rdInt)) (E := 3)) (.cons .nil) (.conv .nil (own_nil (Ro := (roE rdInt)) (E := 3)) (.cons .nil) (.sel (.cons (.t .h) (.cons .h .nil)))))
     refine au ?_
     cases hF
     exact ⟨_, _, p122.1, p122.2, p125.1, p125.2, _, rfl, eqA, entA⟩
   refine au ?_
   refine K_draw [0, 1, 3, 4, 5, 6, 7, 2, 8] [0, 0, 3, 0, 8, 0, 56, 120, 255] [2] mixed (by decide +kernel) ?_
   refine D_atO rfl .no (.t (.t (.t .h))) (fun ha hp => V_loadBox ag127.h ty127.h.sz rfl (EN ha (.tmp rfl rfl) rfl) hp.2 rfl) ?_
   iterate 4 refine du ?_
   refine bnd hF fun x136 hx137 hF => ?_
   obtain ⟨hp138, hx139⟩ := ix_some hx137
   refine Di hx139 (fun k140 j141 => ?_)
   refine Dl ls3_0 ?_
   refine bnd hF fun r142 hx143 hF => D_act2 rfl rfl .no (.cons (.t (.t (.t (.t (.t (.t .h)))))) (.cons (.t (.t (.t (.t (.t .h))))) .nil)) (.dep rfl .nil) (fun ha => XC_borL (pre := []) (.cons frz_own (.cons frz_own .nil)) (fun _ => .nil) (X_callS cf195.h (.cons (EN ha (.tmp rfl rfl) rfl) (.cons (EN ha (.tmp rfl rfl) rfl) .nil)) (i_ValueOf_ok ({ Vars := c80, Values := c83 } : Binding) v81 v84 x91 _ hx143))) (fun _ => ?_)
   iterate 2 refine du ?_
   refine Ci hF (fun hb145 hF => ?_) (fun hb145 hF => ?_)
   · refine au ?_
     refine C_val (V_build ty127.h rfl (vs := []) .nil (cells := [(.slice none 0 0), (.slice none 0 0)]) rfl) ?_
     refine As (.agg [(.slice none 0 0), (.slice none 0 0)].toArray) ?_
     iterate 3 refine au ?_
     cases hF
     replace hF := hO99
     try dsimp only at hF
     cases hF
     exact End_ret (⟨none, 0, 0⟩, [], ⟨none, 0, 0⟩, []) (.cellA rfl rfl .h rfl ag127.h ty127.h.sz rfl rfl (.tmp rfl rfl .nil)) rfl (.conv .nil (own_nil (Ro := (roE rdInt)) (E := 3)) (.cons .nil) (.conv .nil (own_nil (Ro := (roE rdInt)) (E := 3)) (.cons .nil) (.sel (.cons (.t .h) (.cons .h .nil)))))
   refine au ?_
   cases hF
   exact ⟨_, _, v81, F82, v84, F85, _, rfl, eqA, entA⟩
 rintro _ _ ⟨c148, c151, v149, F150, v152, F153, g155, rfl, rfl, hE⟩
 replace hF := hO99
 try dsimp only at hF
 refine K_ent hE ?_
 iterate 4 refine au ?_
 rw [wk k89]
 exact ⟨_, Nat.lt_succ_self _, _, k89 + 1, rest90, _, _, v149, F150, v152, F153, rfl, eqA, hd95, entA, hF⟩
def i_matchAll_L2 (a_a : Atom) (x11 : Binding) : List Fact → Nat → (List Binding) → Option ((List Binding))
 | [], k30, c24 => some c24
 | x32 :: rest31, k30, c24 => ((i_MatchAtom x11 a_a x32).bind fun r45 =>
     if r45.2 then (
       (app c24 ([r45.1] : List Binding)).bind fun z50 =>
       some z50)
     else (
       some c24)).bind fun o39 =>
   match o39 with
   | c54 => i_matchAll_L2 a_a x11 rest31 (k30 + 1) c54
def i_matchAll_L1 (a_a : Atom) (a_facts : List Fact) : List Binding → Nat → (List Binding) → Option ((List Binding))
 | [], k9, c3 => some c3
 | x11 :: rest10, k9, c3 => (i_matchAll_L2 a_a x11 a_facts 0 c3).bind fun o18 =>
   match o18 with
   | c59 => i_matchAll_L1 a_a a_facts rest10 (k9 + 1) c59
def i_matchAll (a_bindings : List Binding) (a_a : Atom) (a_facts : List Fact) : Option ((List Binding)) :=
 i_matchAll_L1 a_a a_facts a_bindings 0 ([] : List Binding)
theorem i_matchAll_ok (a_bindings : List Binding) (v0_0 : Sv) (a_a : Atom) (v1_1 : Sv) (a_facts : List Fact) (v2_0 : Sv) (R : (List Binding)) (hF : i_matchAll a_bindings a_a a_facts = some R) :
   Fw.Spec Tryz.prog 165 [v0_0.v, (.agg [(.int .i64 a_a.Rel), v1_1.v].toArray), v2_0.v] [crd (RdS 127 rd127) v0_0.v a_bindings, crd (RdS 3 rdInt) v1_1.v a_a.Terms, crd (RdS 58 rd58) v2_0.v a_facts] (fun p : Sv × List Nat => p.1.v) (fun p => [cown (OwnS 127 ow127) p.2 p.1.v R]) := by
 refine Se 42 Tryz.func165 [.tmp 6] ?_
 intro H0 F0
 unfold i_matchAll at hF
 refine au ?_
 refine AbR (fun k1 => ?_)
 iterate 3 refine au ?_
 refine C_new rfl (N_buildSliceT (g := true) sl89.h ty127.h .nil (vs := []) rfl rfl rfl (by simp)) (fun k2 => ?_)
 refine Cv1 (.cons .h .nil) (own_lit (Ro := ow127) (E := 127) (F := []) (xs := ([] : List Binding)) MkL_nil rfl rfl) ?_
 iterate 8 refine au ?_
 refine CW_block (CW_loop (m := a_bindings.length) (fun m7 f' cs' => ∃ (g : Fr) (k9 : Nat) (rest10 : List Binding) (c3 : List Binding) (v4 : Sv) (F5 : List Nat), m7 = rest10.length ∧ f' = updL g [(2, v2_0.v), (4, (pz k1)), (7, v4.v), (15, v0_0.v), (16, (.int .i64 (a_bindings.length : Int))), (17, (.int .i64 (k9 : Int)))] ∧ List.drop k9 a_bindings = rest10 ∧ Ent cs' [crd (RdS 58 rd58) v2_0.v a_facts, cboR k1 78 (.agg [(.int .i64 a_a.Rel), v1_1.v].toArray), crd (RdS 3 rdInt) v1_1.v a_a.Terms, cown (OwnS 127 ow127) F5 v4.v c3, crd (RdS 127 rd127) v0_0.v a_bindings] ∧ i_matchAll_L1 a_a a_facts rest10 k9 c3 = some R) ⟨_, 0, _, _, ⟨(some ⟨k2, 0, none⟩), 0, 1⟩, (k2 :: []), rfl, eqA, rfl, entA, hF⟩ ?_)
 rintro m7 _ _ ⟨g8, k9, rest10, c3, v4, F5, rfl, rfl, hd12, hE, hF⟩
 refine Kb hE a_bindings (fun hbd17 => ?_)
 rcases rest10 with _ | ⟨x11, rest10⟩
 · have hk13 := dn hd12
   rw [i_matchAll_L1] at hF
   iterate 4 refine au ?_
   refine CdF ?_
   iterate 9 refine au ?_
   cases hF
   exact Er (v4, F5)
 obtain ⟨hk13, hx14, hd15⟩ := drop_cons hd12
 rw [i_matchAll_L1] at hF
 iterate 4 refine au ?_
 refine CdT ?_
 refine au ?_
 obtain ⟨o18, hio18, hO19⟩ := bind_some hF
 refine K_cut (fun f' cs' => ∃ (c59 : List Binding) (v60 : Sv) (F61 : List Nat) (g : Fr), c59 = o18 ∧ f' = updL g [(2, v2_0.v), (4, (pz k1)), (7, v60.v), (15, v0_0.v), (16, (.int .i64 (a_bindings.length : Int))), (17, (.int .i64 (k9 : Int)))] ∧ Ent cs' [crd (RdS 58 rd58) v2_0.v a_facts, cboR k1 78 (.agg [(.int .i64 a_a.Rel), v1_1.v].toArray), crd (RdS 3 rdInt) v1_1.v a_a.Terms, cown (OwnS 127 ow127) F61 v60.v c59, crd (RdS 127 rd127) v0_0.v a_bindings]) ?_ ?_
 · replace hF := hio18
   refine CW_block (K_region (C_idx (a := x11) sl89.h ty127.h.sz (.tmp rfl rfl) (.tmp rfl rfl) (.t (.t (.t (.t .h)))) (Int.natCast_nonneg k9) hx14 (fun k20 j21 => ?_)))
   refine AlA2 (ul127_0_127 x11) la127_0_127 (fun p22 => ?_)
   refine AnW (fun k23 => ?_)
   refine As (.agg [p22.1.v, p22.2.v].toArray) ?_
   iterate 6 refine au ?_
   refine CW_block (CW_loop (m := a_facts.length) (fun m28 f' cs' => ∃ (g : Fr) (k30 : Nat) (rest31 : List Fact) (c24 : List Binding) (v25 : Sv) (F26 : List Nat), m28 = rest31.length ∧ f' = updL g [(2, v2_0.v), (4, (pz k1)), (7, v25.v), (9, (pz k23)), (15, v0_0.v), (16, (.int .i64 (a_bindings.length : Int))), (17, (.int .i64 (k9 : Int))), (21, v2_0.v), (22, (.int .i64 (a_facts.length : Int))), (23, (.int .i64 (k30 : Int)))] ∧ List.drop k30 a_facts = rest31 ∧ Ent cs' [crd (RdS 58 rd58) v2_0.v a_facts, cboR k1 78 (.agg [(.int .i64 a_a.Rel), v1_1.v].toArray), crd (RdS 3 rdInt) v1_1.v a_a.Terms, cown (OwnS 127 ow127) F26 v25.v c24, cbox k23 127 (.agg [p22.1.v, p22.2.v].toArray), crd (RdS 3 rdInt) p22.1.v x11.Vars, crd (RdS 3 rdInt) p22.2.v x11.Values, crd (RdS 127 rd127) v0_0.v a_bindings] ∧ i_matchAll_L2 a_a x11 rest31 k30 c24 = some o18) ⟨_, 0, _, _, v4, F5, rfl, eqA, rfl, entA, hF⟩ ?_)
   rintro m28 _ _ ⟨g29, k30, rest31, c24, v25, F26, rfl, rfl, hd33, hE, hF⟩
   refine Kb hE a_facts (fun hbd38 => ?_)
   rcases rest31 with _ | ⟨x32, rest31⟩
   · have hk34 := dn hd33
     rw [i_matchAll_L2] at hF
     iterate 4 refine au ?_
     refine CdF ?_
     iterate 4 refine au ?_
     cases hF
     exact ⟨_, v25, F26, _, rfl, eqA, entA⟩
   obtain ⟨hk34, hx35, hd36⟩ := drop_cons hd33
   rw [i_matchAll_L2] at hF
   iterate 4 refine au ?_
   refine CdT ?_
   refine au ?_
   obtain ⟨o39, hio39, hO40⟩ := bind_some hF
   refine K_cut (fun f' cs' => ∃ (c54 : List Binding) (v55 : Sv) (F56 : List Nat) (g : Fr), c54 = o39 ∧ f' = updL g [(2, v2_0.v), (4, (pz k1)), (7, v55.v), (9, (pz k23)), (15, v0_0.v), (16, (.int .i64 (a_bindings.length : Int))), (17, (.int .i64 (k9 : Int))), (21, v2_0.v), (22, (.int .i64 (a_facts.length : Int))), (23, (.int .i64 (k30 : Int)))] ∧ Ent cs' [crd (RdS 58 rd58) v2_0.v a_facts, cboR k1 78 (.agg [(.int .i64 a_a.Rel), v1_1.v].toArray), crd (RdS 3 rdInt) v1_1.v a_a.Terms, cown (OwnS 127 ow127) F56 v55.v c54, cbox k23 127 (.agg [p22.1.v, p22.2.v].toArray), crd (RdS 3 rdInt) p22.1.v x11.Vars, crd (RdS 3 rdInt) p22.2.v x11.Values, crd (RdS 127 rd127) v0_0.v a_bindings]) ?_ ?_
   · replace hF := hio39
     refine CW_block (K_region (C_idx (a := x32) sl28.h ty58.h.sz (.tmp rfl rfl) (.tmp rfl rfl) .h (Int.natCast_nonneg k30) hx35 (fun k41 j42 => ?_)))
     refine AlA1 (ul58_0_58 x32) la58_0_58 (fun p43 => ?_)
     refine AnW (fun k44 => ?_)
     refine As (.agg [(.int .i64 x32.Rel), p43.v].toArray) ?_
     iterate 5 refine au ?_
     refine bnd hF fun r45 hx46 hF => Cx2 (i_MatchAtom_ok _ _ _ _ _ _ _ _ hx46) (fun p47 => ?_)
     refine au ?_
     refine C_val (V_extract (l := [(.agg [p47.1.v, p47.2.2.1.v].toArray), (.bool r45.2)]) (v := (.agg [p47.1.v, p47.2.2.1.v].toArray)) (.tmp rfl rfl) rfl) ?_
     refine C_val (V_extract (l := [(.agg [p47.1.v, p47.2.2.1.v].toArray), (.bool r45.2)]) (v := (.bool r45.2)) (.tmp rfl rfl) rfl) ?_
     refine AnW (fun k48 => ?_)
     refine As (.agg [p47.1.v, p47.2.2.1.v].toArray) ?_
     iterate 5 refine au ?_
     refine Ci hF (fun hb53 hF => ?_) (fun hb53 hF => ?_)
     · iterate 3 refine au ?_
       refine C_new rfl (N_buildSliceT (g := true) sl89.h ty127.h (.cons (.tmp rfl rfl) .nil) (vs := [(.agg [p47.1.v, p47.2.2.1.v].toArray)]) rfl rfl rfl (by intro v hv; simp at hv; rcases hv with rfl <;> rfl)) (fun k49 => ?_)
       refine Cv1 (.cons .h (.cons (.t .h) (.cons (.t .h) .nil))) (own_lit (Ro := ow127) (E := 127) (F := ((p47.2.1 ++ p47.2.2.2) ++ [])) (xs := ([r45.1] : List Binding)) (MkL_cons mk127 MkL_nil apps) rfl rfl) ?_
       refine bnd hF fun z50 hx51 hF => C_x1 (.cons (.t (.t (.t (.t (.t (.t (.t (.t .h)))))))) (.cons .h .nil)) (X_appendO (Ro := ow127) sl89.h ni89 ty127.h rfl rfl rfl (.tmp rfl rfl) (.tmp rfl rfl) hx51 src_own) (fun p52 => ?_)
       iterate 2 refine au ?_
       cases hF
       exact ⟨_, p52.1, p52.2, _, rfl, eqA, entA⟩
     refine au ?_
     cases hF
     exact ⟨_, v25, F26, _, rfl, eqA, entA⟩
   rintro _ _ ⟨c54, v55, F56, g58, rfl, rfl, hE⟩
   replace hF := hO40
   try dsimp only at hF
   refine K_ent hE ?_
   iterate 4 refine au ?_
   rw [wk k30]
   exact ⟨_, Nat.lt_succ_self _, _, k30 + 1, rest31, _, v55, F56, rfl, eqA, hd36, entA, hF⟩
 rintro _ _ ⟨c59, v60, F61, g63, rfl, rfl, hE⟩
 replace hF := hO19
 try dsimp only at hF
 refine K_ent hE ?_
 iterate 4 refine au ?_
 rw [wk k9]
 exact ⟨_, Nat.lt_succ_self _, _, k9 + 1, rest10, _, v60, F61, rfl, eqA, hd15, entA, hF⟩
def i_BindingsOf_L1 (a_facts : List Fact) : List Atom → Nat → (List Binding) → Option ((List Binding))
 | [], k9, c3 => some c3
 | x11 :: rest10, k9, c3 => (i_matchAll c3 x11 a_facts).bind fun r22 =>
   i_BindingsOf_L1 a_facts rest10 (k9 + 1) r22
def i_BindingsOf (a_q : Query) (a_facts : List Fact) : Option ((List Binding)) :=
 i_BindingsOf_L1 a_facts a_q.Atoms 0 ([({ Vars := [], Values := [] } : Binding)] : List Binding)
theorem i_BindingsOf_ok (a_q : Query) (v0_0 : Sv) (v0_1 : Sv) (a_facts : List Fact) (v1_0 : Sv) (R : (List Binding)) (hF : i_BindingsOf a_q a_facts = some R) :
   Fw.Spec Tryz.prog 117 [(.agg [v0_0.v, v0_1.v].toArray), v1_0.v] [crd (RdS 3 rdInt) v0_0.v a_q.Head, crd (RdS 78 rd78) v0_1.v a_q.Atoms, crd (RdS 58 rd58) v1_0.v a_facts] (fun p : Sv × List Nat => p.1.v) (fun p => [cown (OwnS 127 ow127) p.2 p.1.v R]) := by
 refine Se 23 Tryz.func117 [.tmp 4] ?_
 intro H0 F0
 unfold i_BindingsOf at hF
 refine au ?_
 refine AbR (fun k1 => ?_)
 iterate 3 refine au ?_
 refine C_val (V_build ty127.h rfl (vs := []) .nil (cells := [(.slice none 0 0), (.slice none 0 0)]) rfl) ?_
 refine C_new rfl (N_buildSliceT (g := true) sl89.h ty127.h (.cons (.tmp rfl rfl) .nil) (vs := [(.agg [(.slice none 0 0), (.slice none 0 0)].toArray)]) rfl rfl rfl (by intro v hv; simp at hv; rcases hv with rfl <;> rfl)) (fun k2 => ?_)
 iterate 2 refine C_conv .nil (own_nil (Ro := (roE rdInt)) (E := 3)) apps ?_
 refine Cv1 (.cons (.t (.t .h)) (.cons (.t .h) (.cons .h .nil))) (own_lit (Ro := ow127) (E := 127) (F := (([] ++ []) ++ [])) (xs := ([({ Vars := [], Values := [] } : Binding)] : List Binding)) (MkL_cons (mk127 (v0 := ⟨none, 0, 0⟩) (v1 := ⟨none, 0, 0⟩) (a := ({ Vars := [], Values := [] } : Binding))) MkL_nil apps) rfl rfl) ?_
 iterate 9 refine au ?_
 refine CW_block (CW_loop (m := a_q.Atoms.length) (fun m7 f' cs' => ∃ (g : Fr) (k9 : Nat) (rest10 : List Atom) (c3 : List Binding) (v4 : Sv) (F5 : List Nat), m7 = rest10.length ∧ f' = updL g [(1, v1_0.v), (5, v4.v), (11, v0_1.v), (12, (.int .i64 (a_q.Atoms.length : Int))), (13, (.int .i64 (k9 : Int)))] ∧ List.drop k9 a_q.Atoms = rest10 ∧ Ent cs' [crd (RdS 58 rd58) v1_0.v a_facts, cown (OwnS 127 ow127) F5 v4.v c3, crd (RdS 78 rd78) v0_1.v a_q.Atoms] ∧ i_BindingsOf_L1 a_facts rest10 k9 c3 = some R) ⟨_, 0, _, _, ⟨(some ⟨k2, 0, none⟩), 1, 1⟩, (k2 :: (([] ++ []) ++ [])), rfl, eqA, rfl, entA, hF⟩ ?_)
 rintro m7 _ _ ⟨g8, k9, rest10, c3, v4, F5, rfl, rfl, hd12, hE, hF⟩
 refine Kb hE a_q.Atoms (fun hbd17 => ?_)
 rcases rest10 with _ | ⟨x11, rest10⟩
 · have hk13 := dn hd12
   rw [i_BindingsOf_L1] at hF
   iterate 4 refine au ?_
   refine CdF ?_
   iterate 9 refine au ?_
   cases hF
   exact Er (v4, F5)
 obtain ⟨hk13, hx14, hd15⟩ := drop_cons hd12
 rw [i_BindingsOf_L1] at hF
 iterate 4 refine au ?_
 refine CdT ?_
 iterate 3 refine au ?_
 refine Ai hx14 (fun k18 j19 => ?_)
 refine AlA1 (ul78_0_78 x11) la78_0_78 (fun p20 => ?_)
 refine AnW (fun k21 => ?_)
 refine As (.agg [(.int .i64 x11.Rel), p20.v].toArray) ?_
 iterate 5 refine au ?_
 refine bnd hF fun r22 hx23 hF => C_x2 (.cons (.t (.t (.t (.t .h)))) (.rd (.t .h) rfl (.rd (.t (.t (.t .h))) rfl .nil))) (XC_bor frz_own (fun _ => (.cons .nil)) (X_callS cf165.h (.cons (.tmp rfl rfl) (.cons (.tmp rfl rfl) (.cons (.tmp rfl rfl) .nil))) (i_matchAll_ok c3 v4 x11 p20 a_facts v1_0 _ hx23))) (fun p24 => ?_)
 iterate 6 refine au ?_
 rw [wk k9]
 exact ⟨_, Nat.lt_succ_self _, _, k9 + 1, rest10, _, p24.1, p24.2, rfl, eqA, hd15, entA, hF⟩
def i_TupleOf_L1 (a_b : Binding) : List Int → Nat → (List Int) → Option ((List Int))
 | [], k10, c4 => some c4
 | x12 :: rest11, k10, c4 => (i_ValueOf a_b x12).bind fun r21 =>
   (app c4 ([r21] : List Int)).bind fun z25 =>
   i_TupleOf_L1 a_b rest11 (k10 + 1) z25
def i_TupleOf (a_q : Query) (a_b : Binding) : Option ((List Int)) :=
 i_TupleOf_L1 a_b a_q.Head 0 ([] : List Int)
theorem i_TupleOf_ok (a_q : Query) (v0_0 : Sv) (v0_1 : Sv) (a_b : Binding) (v1_0 : Sv) (v1_1 : Sv) (R : (List Int)) (hF : i_TupleOf a_q a_b = some R) :
   Fw.Spec Tryz.prog 164 [(.agg [v0_0.v, v0_1.v].toArray), (.agg [v1_0.v, v1_1.v].toArray)] [crd (RdS 3 rdInt) v0_0.v a_q.Head, crd (RdS 78 rd78) v0_1.v a_q.Atoms, crd (RdS 3 rdInt) v1_0.v a_b.Vars, crd (RdS 3 rdInt) v1_1.v a_b.Values] (fun p : Sv × List Nat => p.1.v) (fun p => [cown (OwnS 3 (roE rdInt)) p.2 p.1.v R]) := by
 refine Se 24 Tryz.func164 [.tmp 4] ?_
 intro H0 F0
 unfold i_TupleOf at hF
 refine au ?_
 refine AbR (fun k1 => ?_)
 refine AbR (fun k2 => ?_)
 iterate 3 refine au ?_
 refine C_new rfl (N_buildSliceT (g := true) sl24.h ty3.h .nil (vs := []) rfl rfl rfl (by simp)) (fun k3 => ?_)
 refine Cv1 (.cons .h .nil) (own_lit (Ro := (roE rdInt)) (E := 3) (F := []) (xs := ([] : List Int)) MkL_nil rfl rfl) ?_
 iterate 9 refine au ?_
 refine CW_block (CW_loop (m := a_q.Head.length) (fun m8 f' cs' => ∃ (g : Fr) (k10 : Nat) (rest11 : List Int) (c4 : List Int) (v5 : Sv) (F6 : List Nat), m8 = rest11.length ∧ f' = updL g [(3, (pz k2)), (5, v5.v), (10, v0_0.v), (11, (.int .i64 (a_q.Head.length : Int))), (12, (.int .i64 (k10 : Int)))] ∧ List.drop k10 a_q.Head = rest11 ∧ Ent cs' [cboR k2 127 (.agg [v1_0.v, v1_1.v].toArray), crd (RdS 3 rdInt) v1_0.v a_b.Vars, crd (RdS 3 rdInt) v1_1.v a_b.Values, cown (OwnS 3 (roE rdInt)) F6 v5.v c4, crd (RdS 3 rdInt) v0_0.v a_q.Head] ∧ i_TupleOf_L1 a_b rest11 k10 c4 = some R) ⟨_, 0, _, _, ⟨(some ⟨k3, 0, none⟩), 0, 1⟩, (k3 :: []), rfl, eqA, rfl, entA, hF⟩ ?_)
 rintro m8 _ _ ⟨g9, k10, rest11, c4, v5, F6, rfl, rfl, hd13, hE, hF⟩
 refine Kb hE a_q.Head (fun hbd18 => ?_)
 rcases rest11 with _ | ⟨x12, rest11⟩
 · have hk14 := dn hd13
   rw [i_TupleOf_L1] at hF
   iterate 4 refine au ?_
   refine CdF ?_
   iterate 9 refine au ?_
   cases hF
   exact Er (v5, F6)
 obtain ⟨hk14, hx15, hd16⟩ := drop_cons hd13
 rw [i_TupleOf_L1] at hF
 iterate 4 refine au ?_
 refine CdT ?_
 iterate 3 refine au ?_
 refine Ai hx15 (fun k19 j20 => ?_)
 refine Al ls3_0 ?_
 iterate 6 refine au ?_
 refine bnd hF fun r21 hx22 hF => Cx0 (i_ValueOf_ok _ _ _ _ _ hx22) (fun _ => ?_)
 refine C_new rfl (N_buildSliceT (g := true) sl24.h ty3.h (.cons (.tmp rfl rfl) .nil) (vs := [(.int .i64 r21)]) rfl rfl rfl (by intro v hv; simp at hv; rcases hv with rfl <;> rfl)) (fun k24 => ?_)
 refine Cv1 (.cons .h .nil) (own_lit (Ro := (roE rdInt)) (E := 3) (F := ([] ++ [])) (xs := ([r21] : List Int)) (MkL_cons (Mk_pure (fun _ => rfl)) MkL_nil apps) rfl rfl) ?_
 refine bnd hF fun z25 hx26 hF => C_x1 (.cons (.t (.t (.t (.t (.t .h))))) (.cons .h .nil)) (X_appendO (Ro := (roE rdInt)) sl24.h ni24 ty3.h rfl rfl rfl (.tmp rfl rfl) (.tmp rfl rfl) hx26 src_own) (fun p27 => ?_)
 iterate 6 refine au ?_
 rw [wk k10]
 exact ⟨_, Nat.lt_succ_self _, _, k10 + 1, rest11, _, p27.1, p27.2, rfl, eqA, hd16, entA, hF⟩
def g_slices_Equal_int_int_L1 (a_s2 : List Int) : List Int → Nat → Option (Bool)
 | [], k4 => some true
 | x6 :: rest5, k4 => (ix a_s2 (k4 : Int)).bind fun x15 =>
   if ((x6 : Int) != x15) then (
     some false)
   else (
     g_slices_Equal_int_int_L1 a_s2 rest5 (k4 + 1))
def g_slices_Equal_int_int (a_s1 : List Int) (a_s2 : List Int) : Option (Bool) :=
 if (((a_s1.length : Int) : Int) != (a_s2.length : Int)) then (
   some false)
 else (
   g_slices_Equal_int_int_L1 a_s2 a_s1 0)
theorem g_slices_Equal_int_int_ok (a_s1 : List Int) (v0_0 : Sv) (a_s2 : List Int) (v1_0 : Sv) (R : Bool) (hF : g_slices_Equal_int_int a_s1 a_s2 = some R) :
   Fw.Spec Tryz.prog 86 [v0_0.v, v1_0.v] [crd (RdS 3 rdInt) v0_0.v a_s1, crd (RdS 3 rdInt) v1_0.v a_s2] (fun _ : Unit => (.bool R)) (fun _ => []) := by
 refine Se 26 Tryz.func86 [.tmp 4] ?_
 intro H0 F0
 unfold g_slices_Equal_int_int at hF
 iterate 11 refine au ?_
 refine Ci hF (fun hb23 hF => ?_) (fun hb23 hF => ?_)
 · iterate 4 refine au ?_
   cases hF
   exact Er ()
 iterate 7 refine au ?_
 refine CW_block (CW_loop (m := a_s1.length) (fun m2 f' cs' => ∃ (g : Fr) (k4 : Nat) (rest5 : List Int), m2 = rest5.length ∧ f' = updL g [(0, v0_0.v), (1, v1_0.v), (12, (.int .i64 (a_s1.length : Int))), (13, (.int .i64 (k4 : Int)))] ∧ List.drop k4 a_s1 = rest5 ∧ Ent cs' [crd (RdS 3 rdInt) v0_0.v a_s1, crd (RdS 3 rdInt) v1_0.v a_s2] ∧ g_slices_Equal_int_int_L1 a_s2 rest5 k4 = some R) ⟨_, 0, _, rfl, eqA, rfl, entA, hF⟩ ?_)
 rintro m2 _ _ ⟨g3, k4, rest5, rfl, rfl, hd7, hE, hF⟩
 refine Kb hE a_s1 (fun hbd12 => ?_)
 rcases rest5 with _ | ⟨x6, rest5⟩
 · have hk8 := dn hd7
   rw [g_slices_Equal_int_int_L1] at hF
   iterate 4 refine au ?_
   refine CdF ?_
   iterate 8 refine au ?_
   cases hF
   exact Er ()
 obtain ⟨hk8, hx9, hd10⟩ := drop_cons hd7
 rw [g_slices_Equal_int_int_L1] at hF
 iterate 4 refine au ?_
 refine CdT ?_
 iterate 6 refine au ?_
 refine K_draw [0, 1, 2, 3, 4, 5, 6, 7, 8] [0, 0, 3, 7, 0, 0, 48, 112, 255] [] mixed (by decide +kernel) ?_
 iterate 2 refine du ?_
 refine Di hx9 (fun k13 j14 => ?_)
 refine Dl ls3_0 ?_
 iterate 2 refine du ?_
 refine bnd hF fun x15 hx16 hF => ?_
 obtain ⟨hp17, hx18⟩ := ix_some hx16
 refine Di hx18 (fun k19 j20 => ?_)
 refine Dl ls3_0 ?_
 iterate 2 refine du ?_
 refine Ci hF (fun hb22 hF => ?_) (fun hb22 hF => ?_)
 · iterate 4 refine au ?_
   cases hF
   exact Er ()
 iterate 5 refine au ?_
 rw [wk k4]
 exact ⟨_, Nat.lt_succ_self _, _, k4 + 1, rest5, rfl, eqA, hd10, entA, hF⟩
def i_hasTuple_1 (a_x : List Int) (a_e1 : List Int) : Option (Bool) :=
 (g_slices_Equal_int_int a_x a_e1).bind fun r1 =>
 some r1
theorem i_hasTuple_1_ok (a_x : List Int) (v0_0 : Sv) (kc1 : Nat) (a_e1 : List Int) (vc1_0 : Sv) (R : Bool) (hF : i_hasTuple_1 a_x a_e1 = some R) :
   Fw.Spec Tryz.prog 214 [v0_0.v, (pz kc1)] [crd (RdS 3 rdInt) v0_0.v a_x, cboR kc1 24 vc1_0.v, crd (RdS 3 rdInt) vc1_0.v a_e1] (fun _ : Unit => (.bool R)) (fun _ => []) := by
 refine Se 7 Tryz.func214 [.tmp 3] ?_
 intro H0 F0
 unfold i_hasTuple_1 at hF
 iterate 6 refine au ?_
 refine bnd hF fun r1 hx2 hF => Cx0 (g_slices_Equal_int_int_ok _ _ _ _ _ hx2) (fun _ => ?_)
 iterate 3 refine au ?_
 cases hF
 exact Er ()
def g_slices_IndexFunc_int_int_ihasTuple1_L1 (a_e1 : List Int) : List (List Int) → Nat → Option (Int)
 | [], k4 => some (-1)
 | x6 :: rest5, k4 => (i_hasTuple_1 x6 a_e1).bind fun r16 =>
   if r16 then (
     some (k4 : Int))
   else (
     g_slices_IndexFunc_int_int_ihasTuple1_L1 a_e1 rest5 (k4 + 1))
def g_slices_IndexFunc_int_int_ihasTuple1 (a_s : List (List Int)) (a_e1 : List Int) : Option (Int) :=
 g_slices_IndexFunc_int_int_ihasTuple1_L1 a_e1 a_s 0
theorem g_slices_IndexFunc_int_int_ihasTuple1_ok (a_s : List (List Int)) (v0_0 : Sv) (kc1 : Nat) (a_e1 : List Int) (vc1_0 : Sv) (R : Int) (hF : g_slices_IndexFunc_int_int_ihasTuple1 a_s a_e1 = some R) :
   Fw.Spec Tryz.prog 192 [v0_0.v, (.func (.func 214) [].toArray [(pz kc1)].toArray)] [crd (RdS 24 (RdS 3 rdInt)) v0_0.v a_s, cboR kc1 24 vc1_0.v, crd (RdS 3 rdInt) vc1_0.v a_e1] (fun _ : Unit => (.int .i64 R)) (fun _ => []) := by
 refine Se 19 Tryz.func192 [.tmp 4] ?_
 intro H0 F0
 unfold g_slices_IndexFunc_int_int_ihasTuple1 at hF
 iterate 9 refine au ?_
 refine CW_block (CW_loop (m := a_s.length) (fun m2 f' cs' => ∃ (g : Fr) (k4 : Nat) (rest5 : List (List Int)), m2 = rest5.length ∧ f' = updL g [(0, v0_0.v), (1, (.func (.func 214) [].toArray [(pz kc1)].toArray)), (7, (.int .i64 (a_s.length : Int))), (8, (.int .i64 (k4 : Int)))] ∧ List.drop k4 a_s = rest5 ∧ Ent cs' [crd (RdS 24 (RdS 3 rdInt)) v0_0.v a_s, cboR kc1 24 vc1_0.v, crd (RdS 3 rdInt) vc1_0.v a_e1] ∧ g_slices_IndexFunc_int_int_ihasTuple1_L1 a_e1 rest5 k4 = some R) ⟨_, 0, _, rfl, eqA, rfl, entA, hF⟩ ?_)
 rintro m2 _ _ ⟨g3, k4, rest5, rfl, rfl, hd7, hE, hF⟩
 refine Kb hE a_s (fun hbd12 => ?_)
 rcases rest5 with _ | ⟨x6, rest5⟩
 · have hk8 := dn hd7
   rw [g_slices_IndexFunc_int_int_ihasTuple1_L1] at hF
   iterate 4 refine au ?_
   refine CdF ?_
   iterate 8 refine au ?_
   cases hF
   exact Er ()
 obtain ⟨hk8, hx9, hd10⟩ := drop_cons hd7
 rw [g_slices_IndexFunc_int_int_ihasTuple1_L1] at hF
 iterate 4 refine au ?_
 refine CdT ?_
 iterate 10 refine au ?_
 refine Ai hx9 (fun k13 j14 => ?_)
 refine C_ldV (R' := (RdS 3 rdInt)) ag24.h (.tmp rfl rfl) .h lv24_0 (fun w15 => ?_)
 refine bnd hF fun r16 hx17 hF => C_x0 (.rd .h rfl (.rd (.t (.t (.t .h))) rfl (.rd (.t (.t (.t (.t .h)))) rfl .nil))) (X_callCS cf214.h (.tmp rfl rfl) (.cons (.tmp rfl rfl) .nil) (i_hasTuple_1_ok x6 w15 kc1 a_e1 vc1_0 _ hx17)) (fun _ => ?_)
 refine au ?_
 refine Ci hF (fun hb20 hF => ?_) (fun hb20 hF => ?_)
 · iterate 5 refine au ?_
   cases hF
   exact Er ()
 iterate 5 refine au ?_
 rw [wk k4]
 exact ⟨_, Nat.lt_succ_self _, _, k4 + 1, rest5, rfl, eqA, hd10, entA, hF⟩
def g_slices_ContainsFunc_int_int_ihasTuple1 (a_s : List (List Int)) (a_e1 : List Int) : Option (Bool) :=
 (g_slices_IndexFunc_int_int_ihasTuple1 a_s a_e1).bind fun r1 =>
 some (decide ((0 : Int) ≤ r1))
theorem g_slices_ContainsFunc_int_int_ihasTuple1_ok (a_s : List (List Int)) (v0_0 : Sv) (kc1 : Nat) (a_e1 : List Int) (vc1_0 : Sv) (R : Bool) (hF : g_slices_ContainsFunc_int_int_ihasTuple1 a_s a_e1 = some R) :
   Fw.Spec Tryz.prog 213 [v0_0.v, (.func (.func 214) [].toArray [(pz kc1)].toArray)] [crd (RdS 24 (RdS 3 rdInt)) v0_0.v a_s, cboR kc1 24 vc1_0.v, crd (RdS 3 rdInt) vc1_0.v a_e1] (fun _ : Unit => (.bool R)) (fun _ => []) := by
 refine Se 9 Tryz.func213 [.tmp 4] ?_
 intro H0 F0
 unfold g_slices_ContainsFunc_int_int_ihasTuple1 at hF
 iterate 6 refine au ?_
 refine bnd hF fun r1 hx2 hF => Cx0 (g_slices_IndexFunc_int_int_ihasTuple1_ok _ _ _ _ _ _ hx2) (fun _ => ?_)
 iterate 4 refine au ?_
 cases hF
 exact Er ()
def i_hasTuple (a_l : List (List Int)) (a_t : List Int) : Option (Bool) :=
 (g_slices_ContainsFunc_int_int_ihasTuple1 a_l a_t).bind fun r2 =>
 some r2
theorem i_hasTuple_ok (a_l : List (List Int)) (v0_0 : Sv) (a_t : List Int) (v1_0 : Sv) (R : Bool) (hF : i_hasTuple a_l a_t = some R) :
   Fw.Spec Tryz.prog 191 [v0_0.v, v1_0.v] [crd (RdS 24 (RdS 3 rdInt)) v0_0.v a_l, crd (RdS 3 rdInt) v1_0.v a_t] (fun _ : Unit => (.bool R)) (fun _ => []) := by
 refine Se 8 Tryz.func191 [.tmp 4] ?_
 intro H0 F0
 unfold i_hasTuple at hF
 refine au ?_
 refine AbR (fun k1 => ?_)
 iterate 4 refine au ?_
 refine C_val (V_makeFunc (fn := .func 214) (vs := []) (us := [(pz k1)]) .nil (.cons (.tmp rfl rfl) .nil)) ?_
 refine bnd hF fun r2 hx3 hF => Cx0 (g_slices_ContainsFunc_int_int_ihasTuple1_ok _ _ _ _ _ _ hx3) (fun _ => ?_)
 iterate 3 refine au ?_
 cases hF
 exact Er ()
def i_addedTuple_1 (a_x : List Int) (a_e1 : List Int) : Option (Bool) :=
 (g_slices_Compare_int_int a_x a_e1).bind fun r1 =>
 some (decide ((0 : Int) < r1))
theorem i_addedTuple_1_ok (a_x : List Int) (v0_0 : Sv) (kc1 : Nat) (a_e1 : List Int) (vc1_0 : Sv) (R : Bool) (hF : i_addedTuple_1 a_x a_e1 = some R) :
   Fw.Spec Tryz.prog 193 [v0_0.v, (pz kc1)] [crd (RdS 3 rdInt) v0_0.v a_x, cboR kc1 24 vc1_0.v, crd (RdS 3 rdInt) vc1_0.v a_e1] (fun _ : Unit => (.bool R)) (fun _ => []) := by
 refine Se 8 Tryz.func193 [.tmp 3] ?_
 intro H0 F0
 unfold i_addedTuple_1 at hF
 iterate 6 refine au ?_
 refine bnd hF fun r1 hx2 hF => Cx0 (g_slices_Compare_int_int_ok _ _ _ _ _ hx2) (fun _ => ?_)
 iterate 4 refine au ?_
 cases hF
 exact Er ()
def g_slices_IndexFunc_int_int_iaddedTuple1_L1 (a_e1 : List Int) : List (List Int) → Nat → Option (Int)
 | [], k4 => some (-1)
 | x6 :: rest5, k4 => (i_addedTuple_1 x6 a_e1).bind fun r16 =>
   if r16 then (
     some (k4 : Int))
   else (
     g_slices_IndexFunc_int_int_iaddedTuple1_L1 a_e1 rest5 (k4 + 1))
def g_slices_IndexFunc_int_int_iaddedTuple1 (a_s : List (List Int)) (a_e1 : List Int) : Option (Int) :=
 g_slices_IndexFunc_int_int_iaddedTuple1_L1 a_e1 a_s 0
theorem g_slices_IndexFunc_int_int_iaddedTuple1_ok (a_s : List (List Int)) (v0_0 : Sv) (kc1 : Nat) (a_e1 : List Int) (vc1_0 : Sv) (R : Int) (hF : g_slices_IndexFunc_int_int_iaddedTuple1 a_s a_e1 = some R) :
   Fw.Spec Tryz.prog 192 [v0_0.v, (.func (.func 193) [].toArray [(pz kc1)].toArray)] [crd (RdS 24 (RdS 3 rdInt)) v0_0.v a_s, cboR kc1 24 vc1_0.v, crd (RdS 3 rdInt) vc1_0.v a_e1] (fun _ : Unit => (.int .i64 R)) (fun _ => []) := by
 refine Se 19 Tryz.func192 [.tmp 4] ?_
 intro H0 F0
 unfold g_slices_IndexFunc_int_int_iaddedTuple1 at hF
 iterate 9 refine au ?_
 refine CW_block (CW_loop (m := a_s.length) (fun m2 f' cs' => ∃ (g : Fr) (k4 : Nat) (rest5 : List (List Int)), m2 = rest5.length ∧ f' = updL g [(0, v0_0.v), (1, (.func (.func 193) [].toArray [(pz kc1)].toArray)), (7, (.int .i64 (a_s.length : Int))), (8, (.int .i64 (k4 : Int)))] ∧ List.drop k4 a_s = rest5 ∧ Ent cs' [crd (RdS 24 (RdS 3 rdInt)) v0_0.v a_s, cboR kc1 24 vc1_0.v, crd (RdS 3 rdInt) vc1_0.v a_e1] ∧ g_slices_IndexFunc_int_int_iaddedTuple1_L1 a_e1 rest5 k4 = some R) ⟨_, 0, _, rfl, eqA, rfl, entA, hF⟩ ?_)
 rintro m2 _ _ ⟨g3, k4, rest5, rfl, rfl, hd7, hE, hF⟩
 refine Kb hE a_s (fun hbd12 => ?_)
 rcases rest5 with _ | ⟨x6, rest5⟩
 · have hk8 := dn hd7
   rw [g_slices_IndexFunc_int_int_iaddedTuple1_L1] at hF
   iterate 4 refine au ?_
   refine CdF ?_
   iterate 8 refine au ?_
   cases hF
   exact Er ()
 obtain ⟨hk8, hx9, hd10⟩ := drop_cons hd7
 rw [g_slices_IndexFunc_int_int_iaddedTuple1_L1] at hF
 iterate 4 refine au ?_
 refine CdT ?_
 iterate 10 refine au ?_
 refine Ai hx9 (fun k13 j14 => ?_)
 refine C_ldV (R' := (RdS 3 rdInt)) ag24.h (.tmp rfl rfl) .h lv24_0 (fun w15 => ?_)
 refine bnd hF fun r16 hx17 hF => C_x0 (.rd .h rfl (.rd (.t (.t (.t .h))) rfl (.rd (.t (.t (.t (.t .h)))) rfl .nil))) (X_callCS cf193.h (.tmp rfl rfl) (.cons (.tmp rfl rfl) .nil) (i_addedTuple_1_ok x6 w15 kc1 a_e1 vc1_0 _ hx17)) (fun _ => ?_)
 refine au ?_
 refine Ci hF (fun hb20 hF => ?_) (fun hb20 hF => ?_)
 · iterate 5 refine au ?_
   cases hF
   exact Er ()
 iterate 5 refine au ?_
 rw [wk k4]
 exact ⟨_, Nat.lt_succ_self _, _, k4 + 1, rest5, rfl, eqA, hd10, entA, hF⟩
def g_slices_Insert_int_int (a_s : List (List Int)) (a_i : Int) (a_v : List (List Int)) : Option (List (List Int)) :=
 match a_v with
 | [a] => if 0 ≤ a_i ∧ a_i.toNat ≤ a_s.length ∧ a_s.length + 1 < 4294967296 then some (a_s.take a_i.toNat ++ a :: a_s.drop a_i.toNat) else none
 | _ => none
set_option maxHeartbeats 4000000 in
theorem g_slices_Insert_int_int_raw (es : List Value) (e : Value) (v u : Sv) (F F2 : List Nat) (i : Nat) (hi : i ≤ es.length) (hb : es.length + 1 < 4294967296) : Fw.Spec Tryz.prog 194 [v.v, .int .i64 (i : Int), u.v] [cown (OwnS 24 (roE (rvs 1))) F v.v es, cown (OwnS 24 (roE (rvs 1))) F2 u.v [e]] (fun q : Sv × List Nat => q.1.v) (fun q => [cown (OwnS 24 (roE (rvs 1))) q.2 q.1.v (es.take i ++ e :: es.drop i)]) := by
 refine Spec_enter (n := 95) Tryz.func194 rfl rfl (rs := [.tmp 6]) rfl rfl rfl ?_
 intro H0 F0
 refine K_region ?_
 refine C_val (V_assign (v := (.slice none 0 0)) EV.nilSlice) ?_
 refine C_nil ?_
 refine K_region ?_
 refine C_val (V_move (v := v.v) (.tmp rfl rfl)) ?_
 refine C_val (V_move (v := (.int .i64 (i : Int))) (.tmp rfl rfl)) ?_
 refine C_x1 (.cons .h .nil) (X_sliceLoE sl38.h ty24.h.sz (.tmp rfl rfl) (.tmp rfl rfl) hi) (fun w0 => ?_)
 refine C_nil ?_
 refine K_region ?_
 refine C_val (V_move (v := u.v) (.tmp rfl rfl)) ?_
 refine C_at (.t .h) (fun hp => V_lenR (l := 1) sl38.h (.tmp rfl rfl) (cown_len hp)) ?_
 refine C_val (V_assign (v := (.int .i64 ((1 : Nat) : Int))) (.tmp rfl rfl)) ?_
 refine C_nil ?_
 refine K_in ?_
 refine K_region ?_
 refine C_val (V_move (v := (.int .i64 ((1 : Nat) : Int))) (.tmp rfl rfl)) ?_
 refine C_val (V_eql (i := ((1 : Nat) : Int)) (j := 0) (.tmp rfl rfl) (.int _ _)) ?_
 refine C_nil ?_
 refine CW_cond (b := (((1 : Nat) : Int) == 0)) (.tmp rfl rfl) (fun hb0 => absurd hb0 (by decide)) (fun _ => ?_)
 refine CW_skip ?_
 refine K_region ?_
 refine C_val (V_move (v := v.v) (.tmp rfl rfl)) ?_
 refine C_at .h (fun hp => V_lenR (l := es.length) sl38.h (.tmp rfl rfl) (cown_len hp)) ?_
 refine C_val (V_assign (v := (.int .i64 (es.length : Int))) (.tmp rfl rfl)) ?_
 refine C_nil ?_
 refine K_in ?_
 refine K_region ?_
 refine C_val (V_move (v := (.int .i64 (i : Int))) (.tmp rfl rfl)) ?_
 refine C_val (V_move (v := (.int .i64 (es.length : Int))) (.tmp rfl rfl)) ?_
 refine C_val (V_eql (i := (i : Int)) (j := (es.length : Int)) (.tmp rfl rfl) (.tmp rfl rfl)) ?_
 refine C_nil ?_
 refine CW_cond (b := ((i : Int) == (es.length : Int))) (.tmp rfl rfl) (fun hb1 => ?_) (fun hb1 => ?_)
 · have hie : i = es.length := by simp only [beq_iff_eq] at hb1; omega
   refine K_region ?_
   refine C_val (V_move (v := v.v) (.tmp rfl rfl)) ?_
   refine C_val (V_move (v := u.v) (.tmp rfl rfl)) ?_
   refine C_x1 (.cons .h (.cons .h .nil)) (X_appendO (Ro := (roE (rvs 1))) sl38.h ni38 ty24.h rfl rfl rfl (.tmp rfl rfl) (.tmp rfl rfl) (app_ok (xs := es) (ys := [e]) (by simpa using hb)) src_own) (fun p => ?_)
   refine C_val (V_assign (v := p.1.v) (.tmp rfl rfl)) ?_
   refine C_nil ?_
   refine CW_ret ?_
   rw [hie, List.take_length, List.drop_length]
   exact End_ret p (.tmp rfl rfl .nil) rfl (.sel (.cons .h .nil))
 refine CW_skip ?_
 have hlt : i < es.length := by simp at hb1; omega
 refine K_pure .h (own_form (by intro h; rw [h] at hlt; simp at hlt)) (fun hv => ?_)
 obtain ⟨k0, m0, rfl, hm0⟩ := hv
 refine K_pure (.t .h) (own_form (by simp)) (fun hu => ?_)
 obtain ⟨k1, m1, rfl, hm1⟩ := hu
 refine K_cap (t := 0) (k := k0) (l := es.length) (m := m0) rfl rfl hm0 (by omega) .h rfl (fun c hc => ?_)
 have w1 : IntKind.i64.wrap ((es.length : Int) + ((1 : Nat) : Int)) = ((es.length + 1 : Nat) : Int) := by rw [wrap_in (by omega) (by omega)]; rfl
 have w2 : IntKind.i64.wrap ((i : Int) + ((1 : Nat) : Int)) = ((i + 1 : Nat) : Int) := by rw [wrap_in (by omega) (by omega)]; rfl
 have w3 : IntKind.i64.wrap (((es.length + 1 : Nat) : Int) - (i : Int)) = ((es.length + 1 - i : Nat) : Int) := by rw [wrap_in (by omega) (by omega)]; omega
 have hel : (es.take i ++ e :: es.drop i).length = es.length + 1 := ins_len hi
 refine K_in ?_
 refine K_region ?_
 refine C_val (V_move (v := (.int .i64 (es.length : Int))) (.tmp rfl rfl)) ?_
 refine C_val (V_move (v := (.int .i64 ((1 : Nat) : Int))) (.tmp rfl rfl)) ?_
 refine C_val (V_add (i := (es.length : Int)) (j := ((1 : Nat) : Int)) (.tmp rfl rfl) (.tmp rfl rfl)) ?_
 rw [w1]
 refine C_val (V_move (v := (.slice (some ⟨k0, 0, none⟩) es.length (c + 3))) (.tmp rfl rfl)) ?_
 refine C_at .h (fun hp => V_capO sl38.h hp rfl (.tmp rfl rfl)) ?_
 refine C_val (V_gtr (i := ((es.length + 1 : Nat) : Int)) (j := (c : Int)) (.tmp rfl rfl) (.tmp rfl rfl)) ?_
 refine C_nil ?_
 refine CW_cond (b := (decide ((c : Int) < ((es.length + 1 : Nat) : Int)))) (.tmp rfl rfl) (fun hb2 => ?_) (fun hb2 => ?_)
 · have hcl : c < es.length + 1 := by simp only [decide_eq_true_eq] at hb2; omega
   refine K_region ?_
   refine C_val (V_move (v := (.slice (some ⟨k0, 0, none⟩) es.length (c + 3))) (.tmp rfl rfl)) ?_
   refine C_val (V_move (v := (.int .i64 (i : Int))) (.tmp rfl rfl)) ?_
   refine C_at .h (fun hp => V_sliceCapO (j := i) sl38.h ty24.h.sz hp rfl (.tmp rfl rfl) (.tmp rfl rfl) (by omega)) ?_
   refine C_val (V_move (v := (.int .i64 (es.length : Int))) (.tmp rfl rfl)) ?_
   refine C_val (V_move (v := (.int .i64 ((1 : Nat) : Int))) (.tmp rfl rfl)) ?_
   refine C_val (V_add (i := (es.length : Int)) (j := ((1 : Nat) : Int)) (.tmp rfl rfl) (.tmp rfl rfl)) ?_
   rw [w1]
   refine C_val (V_move (v := (.int .i64 (i : Int))) (.tmp rfl rfl)) ?_
   refine C_val (V_sub (i := ((es.length + 1 : Nat) : Int)) (j := (i : Int)) (.tmp rfl rfl) (.tmp rfl rfl)) ?_
   rw [w3]
   refine C_x2 (.cons .h .nil) (X_appendMake (c := c) (q := es.length + 1 - i) sl38.h ik3 ty24.h rfl rfl rfl rfl rfl rfl (.tmp rfl rfl) (.tmp rfl rfl) (by omega) (by omega) (by omega) (by omega)) (fun k2 => ?_)
   rw [show i + (es.length + 1 - i) = es.length + 1 from by omega]
   refine C_val (V_assign (v := (.slice (some ⟨k2, 0, none⟩) (es.length + 1) 2)) (.tmp rfl rfl)) ?_
   refine C_nil ?_
   refine K_region ?_
   refine C_val (V_move (v := (.slice (some ⟨k2, 0, none⟩) (es.length + 1) 2)) (.tmp rfl rfl)) ?_
   refine C_val (V_move (v := (.int .i64 (i : Int))) (.tmp rfl rfl)) ?_
   refine C_at .h (fun hp => V_sliceLoO (j := i) sl38.h ty24.h.sz hp rfl (.tmp rfl rfl) (.tmp rfl rfl) (by omega)) ?_
   refine C_val (V_move (v := (.slice (some ⟨k1, 0, none⟩) 1 m1)) (.tmp rfl rfl)) ?_
   refine C_x2 (.cons .h (.cons (.t .h) .nil)) (X_copy2 (m1 := 0) (m2 := m1) (ia := i) (ja := 0) (ld := es.length + 1 - i) (ls := 1) (es2 := [e]) (es' := es.take i ++ e :: List.replicate (es.length - i) (.slice none 0 0)) sl38.h ty24.h.sz rfl rfl rfl (by exact .tmp rfl rfl) (by exact .tmp rfl rfl) (by omega) (by omega) (by rw [List.length_singleton]; omega) (by simp; omega) (ins_l1 (e := e) (z := (.slice none 0 0)) hlt) (by simp; omega)) (fun _ => ?_)
   refine C_nil ?_
   refine K_draw [0, 1, 2, 3, 4, 5, 6, 7, 8] [0, 0, 0, 6, 15, 0, 0, 96, 255] [8] mixed (by decide +kernel) ?_
   refine D_val rfl .no (fun ha => V_move (v := (.slice (some ⟨k2, 0, none⟩) (es.length + 1) 2)) (EN ha (.tmp rfl rfl) rfl)) ?_
   refine D_val rfl .no (fun ha => V_move (v := (.int .i64 (i : Int))) (EN ha (.tmp rfl rfl) rfl)) ?_
   refine D_val rfl .no (fun ha => V_move (v := (.int .i64 ((1 : Nat) : Int))) (EN ha (.tmp rfl rfl) rfl)) ?_
   refine D_val rfl .no (fun ha => V_add (i := (i : Int)) (j := ((1 : Nat) : Int)) (EN ha (.tmp rfl rfl) rfl) (EN ha (.tmp rfl rfl) rfl)) ?_
   rw [w2]
   refine D_atO rfl .no .h (fun ha hp => V_sliceLoO (j := i + 1) sl38.h ty24.h.sz hp rfl (EN ha (.tmp rfl rfl) rfl) (EN ha (.tmp rfl rfl) rfl) (by omega)) ?_
   refine D_val rfl .no (fun ha => V_move (v := (.slice (some ⟨k0, 0, none⟩) es.length (c + 3))) (EN ha (.tmp rfl rfl) rfl)) ?_
   refine D_val rfl .no (fun ha => V_move (v := (.int .i64 (i : Int))) (EN ha (.tmp rfl rfl) rfl)) ?_
   refine D_atO rfl .no (.t (.t .h)) (fun ha hp => V_sliceLoO (j := i) sl38.h ty24.h.sz hp rfl (EN ha (.tmp rfl rfl) rfl) (EN ha (.tmp rfl rfl) rfl) (by omega)) ?_
   refine D_act2 rfl rfl .no (.cons .h (.cons (.t .h) .nil)) (.dep rfl (.dep rfl .nil)) (fun ha => X_copy2 sl38.h ty24.h.sz rfl rfl rfl (EN ha (.tmp rfl rfl) rfl) (EN ha (.tmp rfl rfl) rfl) (by omega) (by omega) (by omega) (by simp; omega) (ins_l2 (e := e) (z := (.slice none 0 0)) hlt) (by omega)) (fun _ => ?_)
   refine D_nil ?_
   refine K_region ?_
   refine C_val (V_move (v := (.slice (some ⟨k2, 0, none⟩) (es.length + 1) 2)) (.tmp rfl rfl)) ?_
   refine C_val (V_assign (v := (.slice (some ⟨k2, 0, none⟩) (es.length + 1) 2)) (.tmp rfl rfl)) ?_
   refine C_nil ?_
   refine CW_ret ?_
   rw [hel]
   exact End_ret (⟨some ⟨k2, 0, none⟩, es.length + 1, 2⟩, [k2]) (.tmp rfl rfl .nil) rfl (.sel (.cons .h .nil))
 refine CW_skip ?_
 have hcl : es.length + 1 ≤ c := by simp only [decide_eq_false_iff_not] at hb2; omega
 refine K_region ?_
 refine C_val (V_move (v := (.slice (some ⟨k0, 0, none⟩) es.length (c + 3))) (.tmp rfl rfl)) ?_
 refine C_val (V_move (v := (.int .i64 (es.length : Int))) (.tmp rfl rfl)) ?_
 refine C_val (V_move (v := (.int .i64 ((1 : Nat) : Int))) (.tmp rfl rfl)) ?_
 refine C_val (V_add (i := (es.length : Int)) (j := ((1 : Nat) : Int)) (.tmp rfl rfl) (.tmp rfl rfl)) ?_
 rw [w1]
 refine C_at .h (fun hp => V_sliceCapO (j := es.length + 1) sl38.h ty24.h.sz hp rfl (.tmp rfl rfl) (.tmp rfl rfl) hcl) ?_
 refine C_val (V_assign (v := (.slice (some ⟨k0, 0, none⟩) (es.length + 1) (c + 3))) (.tmp rfl rfl)) ?_
 refine C_nil ?_
 refine K_in ?_
 refine K_region ?_
 refine C_val (V_move (v := (.slice (some ⟨k1, 0, none⟩) 1 m1)) (.tmp rfl rfl)) ?_
 refine C_val (V_move (v := (.slice (some ⟨k0, 0, none⟩) (es.length + 1) (c + 3))) (.tmp rfl rfl)) ?_
 refine C_val (V_move (v := (.int .i64 (i : Int))) (.tmp rfl rfl)) ?_
 refine C_val (V_move (v := (.int .i64 ((1 : Nat) : Int))) (.tmp rfl rfl)) ?_
 refine C_val (V_add (i := (i : Int)) (j := ((1 : Nat) : Int)) (.tmp rfl rfl) (.tmp rfl rfl)) ?_
 rw [w2]
 refine C_at .h (fun hp => V_sliceLoO (j := i + 1) sl38.h ty24.h.sz hp rfl (.tmp rfl rfl) (.tmp rfl rfl) (by omega)) ?_
 refine C_x2 (.cons (.t .h) (.cons .h .nil)) (X_overlaps sl38.h ty24.h.sz rfl hov215 rfl rfl (.tmp rfl rfl) (.tmp rfl rfl) (by omega) (by omega)) (fun _ => ?_)
 refine C_val (V_not (b := false) (.tmp rfl rfl)) ?_
 refine C_nil ?_
 refine CW_cond (b := (!false)) (.tmp rfl rfl) (fun _ => ?_) (fun h => absurd h (by decide))
 refine K_draw [0, 1, 2, 3, 4, 5, 6, 7, 8] [0, 0, 0, 6, 15, 0, 0, 96, 255] [8] mixed (by decide +kernel) ?_
 refine D_val rfl .no (fun ha => V_move (v := (.slice (some ⟨k0, 0, none⟩) (es.length + 1) (c + 3))) (EN ha (.tmp rfl rfl) rfl)) ?_
 refine D_val rfl .no (fun ha => V_move (v := (.int .i64 (i : Int))) (EN ha (.tmp rfl rfl) rfl)) ?_
 refine D_val rfl .no (fun ha => V_move (v := (.int .i64 ((1 : Nat) : Int))) (EN ha (.tmp rfl rfl) rfl)) ?_
 refine D_val rfl .no (fun ha => V_add (i := (i : Int)) (j := ((1 : Nat) : Int)) (EN ha (.tmp rfl rfl) rfl) (EN ha (.tmp rfl rfl) rfl)) ?_
 rw [w2]
 refine D_atO rfl .no (.t .h) (fun ha hp => V_sliceLoO (j := i + 1) sl38.h ty24.h.sz hp rfl (EN ha (.tmp rfl rfl) rfl) (EN ha (.tmp rfl rfl) rfl) (by omega)) ?_
 refine D_val rfl .no (fun ha => V_move (v := (.slice (some ⟨k0, 0, none⟩) (es.length + 1) (c + 3))) (EN ha (.tmp rfl rfl) rfl)) ?_
 refine D_val rfl .no (fun ha => V_move (v := (.int .i64 (i : Int))) (EN ha (.tmp rfl rfl) rfl)) ?_
 refine D_atO rfl .no (.t .h) (fun ha hp => V_sliceLoO (j := i) sl38.h ty24.h.sz hp rfl (EN ha (.tmp rfl rfl) rfl) (EN ha (.tmp rfl rfl) rfl) (by omega)) ?_
 refine D_act1 rfl rfl .no (.cons (.t .h) .nil) (.dep rfl (.dep rfl .nil)) (fun ha => X_copyS sl38.h ty24.h.sz rfl rfl (EN ha (.tmp rfl rfl) rfl) (EN ha (.tmp rfl rfl) rfl) (by omega) (by omega) (by omega) (by omega) (ins_l3 hlt) (by simp; omega)) (fun _ => ?_)
 refine D_nil ?_
 refine K_region ?_
 refine C_val (V_move (v := (.slice (some ⟨k0, 0, none⟩) (es.length + 1) (c + 3))) (.tmp rfl rfl)) ?_
 refine C_val (V_move (v := (.int .i64 (i : Int))) (.tmp rfl rfl)) ?_
 refine C_at .h (fun hp => V_sliceLoO (j := i) sl38.h ty24.h.sz hp rfl (.tmp rfl rfl) (.tmp rfl rfl) (by omega)) ?_
 refine C_val (V_move (v := (.slice (some ⟨k1, 0, none⟩) 1 m1)) (.tmp rfl rfl)) ?_
 refine C_x2 (.cons .h (.cons .h .nil)) (X_copy2 (m1 := 0) (m2 := m1) (ia := i) (ja := 0) (ld := es.length + 1 - i) (ls := 1) (es2 := [e]) (es' := es.take i ++ e :: es.drop i) sl38.h ty24.h.sz rfl rfl rfl (by exact .tmp rfl rfl) (by exact .tmp rfl rfl) (by omega) (by omega) (by rw [List.length_singleton]; omega) (by simp; omega) (ins_l4 (e := e) hlt) (by omega)) (fun _ => ?_)
 refine C_nil ?_
 refine K_region ?_
 refine C_val (V_move (v := (.slice (some ⟨k0, 0, none⟩) (es.length + 1) (c + 3))) (.tmp rfl rfl)) ?_
 refine C_val (V_assign (v := (.slice (some ⟨k0, 0, none⟩) (es.length + 1) (c + 3))) (.tmp rfl rfl)) ?_
 refine C_nil ?_
 refine K_uncap (t := 6) (k := k0) (l := es.length + 1) (c := c) rfl rfl ?_
 refine CW_ret ?_
 rw [hel]
 exact End_ret (⟨some ⟨k0, 0, none⟩, es.length + 1, 2⟩, F) (.tmp rfl rfl .nil) rfl (.sel (.cons .h .nil))
theorem g_slices_Insert_int_int_ok (a_s : List (List Int)) (v0_0 : Sv) (F0_0 : List Nat) (a_i : Int) (a_v : List (List Int)) (v2_0 : Sv) (F2_0 : List Nat) (R : List (List Int)) (hF : g_slices_Insert_int_int a_s a_i a_v = some R) :
   Fw.Spec Tryz.prog 194 [v0_0.v, .int .i64 a_i, v2_0.v] [cown (OwnS 24 (OwnS 3 (roE rdInt))) F0_0 v0_0.v a_s, cown (OwnS 24 (OwnS 3 (roE rdInt))) F2_0 v2_0.v a_v] (fun p : Sv × List Nat => p.1.v) (fun p => [cown (OwnS 24 (OwnS 3 (roE rdInt))) p.2 p.1.v R]) := by
 unfold g_slices_Insert_int_int at hF
 rcases a_v with _ | ⟨a, _ | ⟨_, _⟩⟩
 · simp at hF
 · dsimp only at hF
   split at hF
   · rename_i h
     obtain ⟨h0, h1, h2⟩ := h
     obtain ⟨i, rfl⟩ : ∃ i : Nat, a_i = (i : Int) := ⟨a_i.toNat, by omega⟩
     cases hF
     rw [Int.toNat_natCast] at h1 ⊢
     exact Spec_insD (s := 1) fun es e Fa Fb hl => g_slices_Insert_int_int_raw es e v0_0 v2_0 Fa Fb i (by omega) (by omega)
   · simp at hF
 · simp at hF
def i_addedTuple (a_l : List (List Int)) (a_t : List Int) : Option ((List (List Int))) :=
 (i_hasTuple a_l a_t).bind fun r2 =>
 if r2 then (
   some a_l)
 else (
   (g_slices_IndexFunc_int_int_iaddedTuple1 a_l a_t).bind fun r5 =>
   if (decide ((r5 : Int) < 0)) then (
     (g_slices_Clone_int_int a_t).bind fun r8 =>
     (g_slices_Insert_int_int a_l (a_l.length : Int) ([r8] : List (List Int))).bind fun r12 =>
     some r12)
   else (
     (g_slices_Clone_int_int a_t).bind fun r15 =>
     (g_slices_Insert_int_int a_l r5 ([r15] : List (List Int))).bind fun r19 =>
     some r19))
theorem i_addedTuple_ok (a_l : List (List Int)) (v0_0 : Sv) (F0_0 : List Nat) (a_t : List Int) (v1_0 : Sv) (R : (List (List Int))) (hF : i_addedTuple a_l a_t = some R) :
   Fw.Spec Tryz.prog 163 [v0_0.v, v1_0.v] [cown (OwnS 24 (OwnS 3 (roE rdInt))) F0_0 v0_0.v a_l, crd (RdS 3 rdInt) v1_0.v a_t] (fun p : Sv × List Nat => p.1.v) (fun p => [cown (OwnS 24 (OwnS 3 (roE rdInt))) p.2 p.1.v R]) := by
 refine Se 23 Tryz.func163 [.tmp 4] ?_
 intro H0 F0
 unfold i_addedTuple at hF
 refine au ?_
 refine AbR (fun k1 => ?_)
 iterate 6 refine au ?_
 refine bnd hF fun r2 hx3 hF => C_x1 (.cons (.t .h) (.rd (.t .h) rfl .nil)) (XC_bor frz_own (fun _ => .nil) (X_callS cf191.h (.cons (.tmp rfl rfl) (.cons (.tmp rfl rfl) .nil)) (i_hasTuple_ok a_l v0_0 a_t v1_0 _ hx3))) (fun _ => ?_)
 refine au ?_
 refine Ci hF (fun hb23 hF => ?_) (fun hb23 hF => ?_)
 · iterate 5 refine au ?_
   cases hF
   exact Er (v0_0, F0_0)
 iterate 3 refine au ?_
 refine C_val (V_makeFunc (fn := .func 193) (vs := []) (us := [(pz k1)]) .nil (.cons (.tmp rfl rfl) .nil)) ?_
 refine bnd hF fun r5 hx6 hF => C_x1 (.cons .h (.rd .h rfl (.rd (.t .h) rfl .nil))) (XC_bor frz_own (fun _ => .nil) (X_callS cf192.h (.cons (.tmp rfl rfl) (.cons (.tmp rfl rfl) .nil)) (g_slices_IndexFunc_int_int_iaddedTuple1_ok a_l v0_0 k1 a_t v1_0 _ hx6))) (fun _ => ?_)
 iterate 7 refine au ?_
 refine Ci hF (fun hb22 hF => ?_) (fun hb22 hF => ?_)
 · iterate 9 refine au ?_
   refine bnd hF fun r8 hx9 hF => Cx1 (g_slices_Clone_int_int_ok _ _ _ hx9) (fun p10 => ?_)
   refine C_new rfl (N_buildSliceT (g := true) sl38.h ty24.h (.cons (.tmp rfl rfl) .nil) (vs := [p10.1.v]) rfl rfl rfl (by intro v hv; simp at hv; rcases hv with rfl <;> rfl)) (fun k11 => ?_)
   refine Cv1 (.cons .h (.cons .h .nil)) (own_lit (Ro := (OwnS 3 (roE rdInt))) (E := 24) (F := (p10.2 ++ [])) (xs := ([r8] : List (List Int))) (MkL_cons Mk_own MkL_nil apps) rfl rfl) ?_
   refine bnd hF fun r12 hx13 hF => Cx1 (g_slices_Insert_int_int_ok _ _ _ _ _ (⟨(some ⟨k11, 0, none⟩), 1, 1⟩) _ _ hx13) (fun p14 => ?_)
   iterate 3 refine au ?_
   cases hF
   exact Er (p14.1, p14.2)
 iterate 5 refine au ?_
 refine bnd hF fun r15 hx16 hF => Cx1 (g_slices_Clone_int_int_ok _ _ _ hx16) (fun p17 => ?_)
 refine C_new rfl (N_buildSliceT (g := true) sl38.h ty24.h (.cons (.tmp rfl rfl) .nil) (vs := [p17.1.v]) rfl rfl rfl (by intro v hv; simp at hv; rcases hv with rfl <;> rfl)) (fun k18 => ?_)
 refine Cv1 (.cons .h (.cons .h .nil)) (own_lit (Ro := (OwnS 3 (roE rdInt))) (E := 24) (F := (p17.2 ++ [])) (xs := ([r15] : List (List Int))) (MkL_cons Mk_own MkL_nil apps) rfl rfl) ?_
 refine bnd hF fun r19 hx20 hF => Cx1 (g_slices_Insert_int_int_ok _ _ _ _ _ (⟨(some ⟨k18, 0, none⟩), 1, 1⟩) _ _ hx20) (fun p21 => ?_)
 iterate 3 refine au ?_
 cases hF
 exact Er (p21.1, p21.2)
def i_tuplesOf_L1 (a_q : Query) : List Binding → Nat → (List (List Int)) → Option ((List (List Int)))
 | [], k9, c3 => some c3
 | x11 :: rest10, k9, c3 => (i_TupleOf a_q x11).bind fun r22 =>
   (i_addedTuple c3 r22).bind fun r25 =>
   i_tuplesOf_L1 a_q rest10 (k9 + 1) r25
def i_tuplesOf (a_q : Query) (a_bindings : List Binding) : Option ((List (List Int))) :=
 i_tuplesOf_L1 a_q a_bindings 0 ([] : List (List Int))
theorem i_tuplesOf_ok (a_q : Query) (v0_0 : Sv) (v0_1 : Sv) (a_bindings : List Binding) (v1_0 : Sv) (R : (List (List Int))) (hF : i_tuplesOf a_q a_bindings = some R) :
   Fw.Spec Tryz.prog 116 [(.agg [v0_0.v, v0_1.v].toArray), v1_0.v] [crd (RdS 3 rdInt) v0_0.v a_q.Head, crd (RdS 78 rd78) v0_1.v a_q.Atoms, crd (RdS 127 rd127) v1_0.v a_bindings] (fun p : Sv × List Nat => p.1.v) (fun p => [cown (OwnS 24 (OwnS 3 (roE rdInt))) p.2 p.1.v R]) := by
 refine Se 22 Tryz.func116 [.tmp 4] ?_
 intro H0 F0
 unfold i_tuplesOf at hF
 refine au ?_
 refine AbR (fun k1 => ?_)
 iterate 3 refine au ?_
 refine C_new rfl (N_buildSliceT (g := true) sl38.h ty24.h .nil (vs := []) rfl rfl rfl (by simp)) (fun k2 => ?_)
 refine Cv1 (.cons .h .nil) (own_lit (Ro := (OwnS 3 (roE rdInt))) (E := 24) (F := []) (xs := ([] : List (List Int))) MkL_nil rfl rfl) ?_
 iterate 8 refine au ?_
 refine CW_block (CW_loop (m := a_bindings.length) (fun m7 f' cs' => ∃ (g : Fr) (k9 : Nat) (rest10 : List Binding) (c3 : List (List Int)) (v4 : Sv) (F5 : List Nat), m7 = rest10.length ∧ f' = updL g [(2, (pz k1)), (5, v4.v), (9, v1_0.v), (10, (.int .i64 (a_bindings.length : Int))), (11, (.int .i64 (k9 : Int)))] ∧ List.drop k9 a_bindings = rest10 ∧ Ent cs' [cboR k1 27 (.agg [v0_0.v, v0_1.v].toArray), crd (RdS 3 rdInt) v0_0.v a_q.Head, crd (RdS 78 rd78) v0_1.v a_q.Atoms, cown (OwnS 24 (OwnS 3 (roE rdInt))) F5 v4.v c3, crd (RdS 127 rd127) v1_0.v a_bindings] ∧ i_tuplesOf_L1 a_q rest10 k9 c3 = some R) ⟨_, 0, _, _, ⟨(some ⟨k2, 0, none⟩), 0, 1⟩, (k2 :: []), rfl, eqA, rfl, entA, hF⟩ ?_)
 rintro m7 _ _ ⟨g8, k9, rest10, c3, v4, F5, rfl, rfl, hd12, hE, hF⟩
 refine Kb hE a_bindings (fun hbd17 => ?_)
 rcases rest10 with _ | ⟨x11, rest10⟩
 · have hk13 := dn hd12
   rw [i_tuplesOf_L1] at hF
   iterate 4 refine au ?_
   refine CdF ?_
   iterate 9 refine au ?_
   cases hF
   exact Er (v4, F5)
 obtain ⟨hk13, hx14, hd15⟩ := drop_cons hd12
 rw [i_tuplesOf_L1] at hF
 iterate 4 refine au ?_
 refine CdT ?_
 iterate 3 refine au ?_
 refine Ai hx14 (fun k18 j19 => ?_)
 refine AlA2 (ul127_0_127 x11) la127_0_127 (fun p20 => ?_)
 refine AnW (fun k21 => ?_)
 refine As (.agg [p20.1.v, p20.2.v].toArray) ?_
 iterate 5 refine au ?_
 refine bnd hF fun r22 hx23 hF => Cx1 (i_TupleOf_ok _ _ _ _ _ _ _ hx23) (fun p24 => ?_)
 refine C_frz .h frz_own ?_
 refine bnd hF fun r25 hx26 hF => Cx1 (i_addedTuple_ok _ _ _ _ _ _ hx26) (fun p27 => ?_)
 iterate 6 refine au ?_
 rw [wk k9]
 exact ⟨_, Nat.lt_succ_self _, _, k9 + 1, rest10, _, p27.1, p27.2, rfl, eqA, hd15, entA, hF⟩
def i_answers (a_q : Query) (a_facts : List Fact) : Option ((List (List Int))) :=
 (i_BindingsOf a_q a_facts).bind fun r2 =>
 (i_tuplesOf a_q r2).bind fun r5 =>
 some r5
theorem i_answers_ok (a_q : Query) (v0_0 : Sv) (v0_1 : Sv) (a_facts : List Fact) (v1_0 : Sv) (R : (List (List Int))) (hF : i_answers a_q a_facts = some R) :
   Fw.Spec Tryz.prog 61 [(.agg [v0_0.v, v0_1.v].toArray), v1_0.v] [crd (RdS 3 rdInt) v0_0.v a_q.Head, crd (RdS 78 rd78) v0_1.v a_q.Atoms, crd (RdS 58 rd58) v1_0.v a_facts] (fun p : Sv × List Nat => p.1.v) (fun p => [cown (OwnS 24 (OwnS 3 (roE rdInt))) p.2 p.1.v R]) := by
 refine Se 10 Tryz.func61 [.tmp 4] ?_
 intro H0 F0
 unfold i_answers at hF
 refine au ?_
 refine AbR (fun k1 => ?_)
 iterate 2 refine au ?_
 refine K_draw [0, 1, 2, 3, 4, 5] [0, 0, 0, 6, 15, 31] [3, 4] mixed (by decide +kernel) ?_
 iterate 3 refine du ?_
 refine bnd hF fun r2 hx3 hF => Dx1 (i_BindingsOf_ok _ _ _ _ _ _ hx3) (fun p4 => ?_)
 refine bnd hF fun r5 hx6 hF => D_act2 rfl rfl .no (.cons .h (.rd (.t .h) rfl (.rd (.t (.t .h)) rfl .nil))) .nil (fun ha => XC_bor frz_own (fun _ => (.cons .nil)) (XC_pre (.rd (.t .h) rfl (.rd (.t (.t .h)) rfl (.rd .h rfl .nil))) (X_callS cf116.h (.cons (EN ha (.tmp rfl rfl) rfl) (.cons (EN ha (.tmp rfl rfl) rfl) .nil)) (i_tuplesOf_ok a_q v0_0 v0_1 r2 p4.1 _ hx6)))) (fun p7 => ?_)
 iterate 2 refine du ?_
 refine au ?_
 cases hF
 exact Er (p7.1, p7.2)
def i_AnswersOf (a_s : List Int) (a_q : Query) (a_facts : List Fact) : Option ((List (List Int))) :=
 ((i_IsQuery a_s a_q).bind fun r4 =>
   bif (!r4) then (some true)
   else ((i_AreFacts a_s a_facts).bind fun r8 =>
     some (!r8))).bind fun o2 =>
 match o2 with
 | c11 => if c11 then (
     some [])
   else (
     (i_answers a_q a_facts).bind fun r12 =>
     some r12)
theorem i_AnswersOf_ok (a_s : List Int) (v0_0 : Sv) (a_q : Query) (v1_0 : Sv) (v1_1 : Sv) (a_facts : List Fact) (v2_0 : Sv) (R : (List (List Int))) (hF : i_AnswersOf a_s a_q a_facts = some R) :
   Fw.Spec Tryz.prog 17 [v0_0.v, (.agg [v1_0.v, v1_1.v].toArray), v2_0.v] [crd (RdS 3 rdInt) v0_0.v a_s, crd (RdS 3 rdInt) v1_0.v a_q.Head, crd (RdS 78 rd78) v1_1.v a_q.Atoms, crd (RdS 58 rd58) v2_0.v a_facts] (fun p : Sv × List Nat => p.1.v) (fun p => [cown (OwnS 24 (OwnS 3 (roE rdInt))) p.2 p.1.v R]) := by
 refine Se 20 Tryz.func17 [.tmp 6] ?_
 intro H0 F0
 unfold i_AnswersOf at hF
 refine au ?_
 refine AbR (fun k1 => ?_)
 iterate 3 refine au ?_
 obtain ⟨o2, hio2, hO3⟩ := bind_some hF
 refine au ?_
 refine C_cut (fun f' cs' => ∃ (c11 : Bool) (g : Fr), c11 = o2 ∧ f' = updL g [(2, v2_0.v), (4, (pz k1)), (16, (.bool c11))] ∧ Ent cs' [crd (RdS 58 rd58) v2_0.v a_facts, cboR k1 27 (.agg [v1_0.v, v1_1.v].toArray), crd (RdS 3 rdInt) v1_0.v a_q.Head, crd (RdS 78 rd78) v1_1.v a_q.Atoms]) ?_ ?_
 · replace hF := hio2
   iterate 2 refine au ?_
   refine bnd hF fun r4 hx5 hF => Cx0 (i_IsQuery_ok _ _ _ _ _ _ hx5) (fun _ => ?_)
   iterate 2 refine au ?_
   rcases Bool.eq_false_or_eq_true (!r4) with hg7 | hg7
   · rw [hg7]
     try rw [hg7] at hF; dsimp only [cond_true, cond_false] at hF
     iterate 6 refine au ?_
     cases hF
     exact ⟨_, _, rfl, eqA, entA⟩
   rw [hg7]
   try rw [hg7] at hF; dsimp only [cond_true, cond_false] at hF
   iterate 5 refine au ?_
   refine bnd hF fun r8 hx9 hF => Cx0 (i_AreFacts_ok _ _ _ _ _ hx9) (fun _ => ?_)
   iterate 4 refine au ?_
   cases hF
   exact ⟨_, _, rfl, eqA, entA⟩
 rintro _ _ ⟨c11, g16, rfl, rfl, hE⟩
 replace hF := hO3
 try dsimp only at hF
 refine K_ent hE ?_
 refine Ci hF (fun hb15 hF => ?_) (fun hb15 hF => ?_)
 · iterate 4 refine au ?_
   cases hF
   exact End_ret (⟨none, 0, 0⟩, []) (.tmp rfl rfl .nil) rfl (.conv .nil (own_nil (Ro := (OwnS 3 (roE rdInt))) (E := 24)) (.cons .nil) (.sel (.cons .h .nil)))
 iterate 4 refine au ?_
 refine bnd hF fun r12 hx13 hF => Cx1 (i_answers_ok _ _ _ _ _ _ hx13) (fun p14 => ?_)
 iterate 3 refine au ?_
 cases hF
 exact Er (p14.1, p14.2)
end Go.Proofs.YtndckmfbndmkhaaGreat
