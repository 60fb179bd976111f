/-
  Functions of the program as Lean functions, and that the calls return what these say: part 3. No conditions.
-/
import Derived.Shelf.Sort.Plain
import Derived.Shelf.Slices.In.SortNone
import Derived.Shelf.Slices.CompactI
import Derived.Test.YtndckmfbndmkhaaGreatFnReachesG1
import Derived.KernelRfl
set_option maxRecDepth 100000
set_option maxHeartbeats 1000000
set_option linter.unusedVariables false
namespace Go.Proofs.YtndckmfbndmkhaaGreat
open Go Go.Fw

def i_IsReached_L1 (a_l : List Method) (a_facts : List Fact) (a_r : Reached) : Nat → (List Fact) → (List Int) → (List Access) → Int → Int → Option (Bool)
 | 0, _, _, _, _, _ => none
 | m42 + 1, c31, c34, c37, c40, c41 => if (decide ((c41 : Int) < 40)) then (
     (i_EqualReached ({ Facts := c31, Values := c34, Log := c37, Rounds := c40 } : Reached) a_r).bind fun r50 =>
     if r50 then (
       some true)
     else (
       (i_Reached_told ({ Facts := c31, Values := c34, Log := c37, Rounds := c40 } : Reached) a_l a_facts).bind fun r53 =>
       if (!r53.1) then (
         some false)
       else (
         i_IsReached_L1 a_l a_facts a_r m42 r53.2.Facts r53.2.Values r53.2.Log r53.2.Rounds (IntKind.i64.wrap (c41 + 1)))))
   else (
     (i_EqualReached ({ Facts := c31, Values := c34, Log := c37, Rounds := c40 } : Reached) a_r).bind fun r58 =>
     some r58)
def i_IsReached (a_s : List Int) (a_l : List Method) (a_facts : List Fact) (a_seeds : List Int) (a_r : Reached) : Option (Bool) :=
 ((i_AreMethods a_s a_l).bind fun r4 =>
   bif (!r4) then (some true)
   else ((i_AreFacts a_s a_facts).bind fun r8 =>
     some (!r8))).bind fun o2 =>
 match o2 with
 | c11 => if c11 then (
     some false)
   else (
     (i_StartReach a_seeds).bind fun r12 =>
     i_IsReached_L1 a_l a_facts a_r (((40 : Int) - 0).toNat + 2) r12.Facts r12.Values r12.Log r12.Rounds 0)
theorem i_IsReached_ok (a_s : List Int) (v0_0 : Sv) (a_l : List Method) (v1_0 : Sv) (a_facts : List Fact) (v2_0 : Sv) (a_seeds : List Int) (v3_0 : Sv) (a_r : Reached) (v4_0 : Sv) (v4_1 : Sv) (v4_2 : Sv) (R : Bool) (hF : i_IsReached a_s a_l a_facts a_seeds a_r = some R) :
   Fw.Spec Tryz.prog 27 [v0_0.v, v1_0.v, v2_0.v, v3_0.v, (.agg [v4_0.v, v4_1.v, v4_2.v, (.int .i64 a_r.Rounds)].toArray)] [crd (RdS 3 rdInt) v0_0.v a_s, crd (RdS 97 rd97) v1_0.v a_l, crd (RdS 58 rd58) v2_0.v a_facts, crd (RdS 3 rdInt) v3_0.v a_seeds, crd (RdS 58 rd58) v4_0.v a_r.Facts, crd (RdS 3 rdInt) v4_1.v a_r.Values, crd (RdS 54 rd54) v4_2.v a_r.Log] (fun _ : Unit => (.bool R)) (fun _ => []) := by
 refine Se 37 Tryz.func27 [.tmp 10] ?_
 intro H0 F0
 unfold i_IsReached at hF
 refine au ?_
 refine AbR (fun k1 => ?_)
 iterate 3 refine au ?_
 obtain ⟨o2, hio2, hO3⟩ := bind_some hF
 refine au ?_
 refine C_cut (fun f' cs' => ∃ (c11 : Bool) (g : Fr), c11 = o2 ∧ f' = updL g [(1, v1_0.v), (2, v2_0.v), (3, v3_0.v), (9, (pz k1)), (21, (.bool c11))] ∧ Ent cs' [crd (RdS 97 rd97) v1_0.v a_l, crd (RdS 58 rd58) v2_0.v a_facts, crd (RdS 3 rdInt) v3_0.v a_seeds, cboR k1 46 (.agg [v4_0.v, v4_1.v, v4_2.v, (.int .i64 a_r.Rounds)].toArray), crd (RdS 58 rd58) v4_0.v a_r.Facts, crd (RdS 3 rdInt) v4_1.v a_r.Values, crd (RdS 54 rd54) v4_2.v a_r.Log]) ?_ ?_
 · replace hF := hio2
   iterate 2 refine au ?_
   refine bnd hF fun r4 hx5 hF => Cx0 (i_AreMethods_ok _ _ _ _ _ hx5) (fun _ => ?_)
   iterate 2 refine au ?_
   rcases Bool.eq_false_or_eq_true (!r4) with hg7 | hg7
   · rw [hg7]
     try rw [hg7] at hF; dsimp only [cond_true, cond_false] at hF
     iterate 6 refine au ?_
     cases hF
     exact ⟨_, _, rfl, eqA, entA⟩
   rw [hg7]
   try rw [hg7] at hF; dsimp only [cond_true, cond_false] at hF
   iterate 5 refine au ?_
   refine bnd hF fun r8 hx9 hF => Cx0 (i_AreFacts_ok _ _ _ _ _ hx9) (fun _ => ?_)
   iterate 4 refine au ?_
   cases hF
   exact ⟨_, _, rfl, eqA, entA⟩
 rintro _ _ ⟨c11, g63, rfl, rfl, hE⟩
 replace hF := hO3
 try dsimp only at hF
 refine K_ent hE ?_
 refine Ci hF (fun hb62 hF => ?_) (fun hb62 hF => ?_)
 · iterate 4 refine au ?_
   cases hF
   exact Er ()
 iterate 3 refine au ?_
 refine bnd hF fun r12 hx13 hF => Cx3 (i_StartReach_ok _ _ _ hx13) (fun p14 => ?_)
 refine AnW (fun k15 => ?_)
 refine As (.agg [p14.1.v, p14.2.2.1.v, p14.2.2.2.2.1.v, (.int .i64 r12.Rounds)].toArray) ?_
 iterate 5 refine au ?_
 refine CW_block (CW_loop (m := (((40 : Int) - 0).toNat + 2)) (fun m42 f' cs' => ∃ (g : Fr) (c31 : List Fact) (c34 : List Int) (c37 : List Access) (c40 : Int) (c41 : Int) (v32 : Sv) (F33 : List Nat) (v35 : Sv) (F36 : List Nat) (v38 : Sv) (F39 : List Nat), f' = updL g [(1, v1_0.v), (2, v2_0.v), (9, (pz k1)), (11, (pz k15)), (24, (.int .i64 c41))] ∧ Ent cs' [crd (RdS 97 rd97) v1_0.v a_l, crd (RdS 58 rd58) v2_0.v a_facts, cboR k1 46 (.agg [v4_0.v, v4_1.v, v4_2.v, (.int .i64 a_r.Rounds)].toArray), crd (RdS 58 rd58) v4_0.v a_r.Facts, crd (RdS 3 rdInt) v4_1.v a_r.Values, crd (RdS 54 rd54) v4_2.v a_r.Log, cbox k15 46 (.agg [v32.v, v35.v, v38.v, (.int .i64 c40)].toArray), cown (OwnS 58 ow58) F33 v32.v c31, cown (OwnS 3 (roE rdInt)) F36 v35.v c34, cown (OwnS 54 ow54) F39 v38.v c37] ∧ i_IsReached_L1 a_l a_facts a_r m42 c31 c34 c37 c40 c41 = some R) ⟨_, _, _, _, _, _, p14.1, p14.2.1, p14.2.2.1, p14.2.2.2.1, p14.2.2.2.2.1, p14.2.2.2.2.2, eqA, entA, hF⟩ ?_)
 rintro m42 _ _ ⟨g43, c31, c34, c37, c40, c41, v32, F33, v35, F36, v38, F39, rfl, hE, hF⟩
 refine K_ent hE ?_
 rcases m42 with _ | m42
 · rw [i_IsReached_L1] at hF
   exact absurd hF (by simp)
 rw [i_IsReached_L1] at hF
 iterate 4 refine au ?_
 refine Ci hF (fun hb61 hF => ?_) (fun hb61 hF => ?_)
 · iterate 6 refine au ?_
   refine bnd hF fun r50 hx51 hF => C_x3 (.cons (.t (.t (.t (.t (.t (.t (.t (.t (.t .h))))))))) (.cons (.t (.t (.t (.t (.t (.t (.t (.t .h)))))))) (.cons (.t (.t (.t (.t (.t (.t (.t .h))))))) (.rd (.t (.t (.t .h))) rfl (.rd (.t (.t (.t (.t .h)))) rfl (.rd (.t (.t (.t (.t (.t .h))))) rfl .nil)))))) (XC_borL (pre := _) (.cons frz_own (.cons frz_own (.cons frz_own .nil))) (fun _ => .nil) (X_callS cf36.h (.cons (.tmp rfl rfl) (.cons (.tmp rfl rfl) .nil)) (i_EqualReached_ok ({ Facts := c31, Values := c34, Log := c37, Rounds := c40 } : Reached) v32 v35 v38 a_r v4_0 v4_1 v4_2 _ hx51))) (fun _ => ?_)
   refine au ?_
   refine Ci hF (fun hb57 hF => ?_) (fun hb57 hF => ?_)
   · iterate 4 refine au ?_
     cases hF
     exact Er ()
   iterate 4 refine au ?_
   refine bnd hF fun r53 hx54 hF => Cx4 (i_Reached_told_ok _ _ _ _ _ _ _ _ _ _ _ _ _ hx54) (fun p55 => ?_)
   iterate 2 refine au ?_
   refine Ci hF (fun hb56 hF => ?_) (fun hb56 hF => ?_)
   · iterate 4 refine au ?_
     cases hF
     exact Er ()
   iterate 5 refine au ?_
   exact ⟨m42, Nat.lt_succ_self _, _, _, _, _, _, _, p55.1, p55.2.1, p55.2.2.1, p55.2.2.2.1, p55.2.2.2.2.1, p55.2.2.2.2.2, eqA, entA, hF⟩
 iterate 7 refine au ?_
 refine bnd hF fun r58 hx59 hF => C_x3 (.cons (.t (.t (.t (.t (.t (.t (.t (.t (.t .h))))))))) (.cons (.t (.t (.t (.t (.t (.t (.t (.t .h)))))))) (.cons (.t (.t (.t (.t (.t (.t (.t .h))))))) (.rd (.t (.t (.t .h))) rfl (.rd (.t (.t (.t (.t .h)))) rfl (.rd (.t (.t (.t (.t (.t .h))))) rfl .nil)))))) (XC_borL (pre := _) (.cons frz_own (.cons frz_own (.cons frz_own .nil))) (fun _ => .nil) (X_callS cf36.h (.cons (.tmp rfl rfl) (.cons (.tmp rfl rfl) .nil)) (i_EqualReached_ok ({ Facts := c31, Values := c34, Log := c37, Rounds := c40 } : Reached) v32 v35 v38 a_r v4_0 v4_1 v4_2 _ hx59))) (fun _ => ?_)
 iterate 3 refine au ?_
 cases hF
 exact Er ()
def s_DrawStepReach_L1 (r2 : l1Cur) (r5 : (List Int) × (List Method) × (List Fact) × (List Int) × l1Cur) (r12 : Int × l1Cur) : Nat → (List Fact) → (List Int) → (List Access) → Int → Int → Option ((List Int) × (List Method) × (List Fact) × Reached)
 | 0, _, _, _, _, _ => none
 | m100 + 1, c90, c93, c96, c98, c99 => if (decide ((0 : Int) < c99)) then (
     (s_StepReach r5.1 r5.2.1 r5.2.2.1 ({ Facts := c90, Values := c93, Log := c96, Rounds := c98 } : Reached)).bind fun r108 =>
     s_DrawStepReach_L1 r2 r5 r12 m100 r108.1.Facts r108.1.Values r108.1.Log r108.1.Rounds (IntKind.i64.wrap (c99 - 1)))
   else (
     (s_l1Below ({ b := r2.b, i := r12.2.i, h := r12.2.h } : l1Cur) 14).bind fun r112 =>
     if ((r112.1 : Int) == 0) then (
       (s_l1Below ({ b := r2.b, i := r112.2.i, h := r112.2.h } : l1Cur) 11).bind fun r115 =>
       (app c93 ([r115.1] : List Int)).bind fun z119 =>
       some (r5.1, r5.2.1, r5.2.2.1, ({ Facts := c90, Values := z119, Log := c96, Rounds := c98 } : Reached)))
     else (
       if ((r112.1 : Int) == 1) then (
         (s_l1PickInt ({ b := r2.b, i := r112.2.i, h := r112.2.h } : l1Cur) ([(-1), 100, 101] : List Int)).bind fun r123 =>
         some (r5.1, r5.2.1, r5.2.2.1, ({ Facts := c90, Values := c93, Log := c96, Rounds := r123.1 } : Reached)))
       else (
         some (r5.1, r5.2.1, r5.2.2.1, ({ Facts := c90, Values := c93, Log := c96, Rounds := c98 } : Reached)))))
def s_DrawStepReach (fuel : Nat) (a_code : List UInt8) : Option ((List Int) × (List Method) × (List Fact) × Reached) :=
 (s_l1New a_code).bind fun r2 =>
 (s_l8Draw fuel r2).bind fun r5 =>
 (s_StartReach r5.2.2.2.1).bind fun r8 =>
 (s_l1Below ({ b := r2.b, i := r5.2.2.2.2.i, h := r5.2.2.2.2.h } : l1Cur) 3).bind fun r12 =>
 s_DrawStepReach_L1 r2 r5 r12 ((r12.1 - 0).toNat + 2) r8.Facts r8.Values r8.Log r8.Rounds r12.1
theorem s_DrawStepReach_ok (fuel : Nat) (a_code : List UInt8) (v0_0 : Sv) (R : (List Int) × (List Method) × (List Fact) × Reached) (hF : s_DrawStepReach fuel a_code = some R) :
   Fw.Spec Tryz.prog 31 [v0_0.v] [crd (RdS 5 rdU8) v0_0.v a_code] (fun p : Sv × Sv × Sv × Sv × List Nat × Sv × List Nat × Sv => (.tuple [p.1.v, p.2.1.v, p.2.2.1.v, (.agg [p.2.2.2.1.v, p.2.2.2.2.2.1.v, p.2.2.2.2.2.2.2.v, (.int .i64 R.2.2.2.Rounds)].toArray)].toArray)) (fun p => [crd (RdS 3 rdInt) p.1.v R.1, crd (RdS 97 rd97) p.2.1.v R.2.1, crd (RdS 58 rd58) p.2.2.1.v R.2.2.1, cown (OwnS 58 ow58) p.2.2.2.2.1 p.2.2.2.1.v R.2.2.2.Facts, cown (OwnS 3 (roE rdInt)) p.2.2.2.2.2.2.1 p.2.2.2.2.2.1.v R.2.2.2.Values, crd (RdS 54 rd54) p.2.2.2.2.2.2.2.v R.2.2.2.Log]) := by
 refine Spec_enter (n := 62) Tryz.func31 rfl rfl (rs := [.tmp 2, .tmp 3, .tmp 4, .cell 5 46]) rfl rfl rfl ?_
 intro H0 F0
 unfold s_DrawStepReach at hF
 refine K_region ?_
 iterate 3 refine C_val (V_assign (v := (.slice none 0 0)) EV.nilSlice) ?_
 refine C_new rfl (N_allocT (g := true) ty46.h rfl rfl) (fun k1 => ?_)
 refine C_nil (K_region (Cm v0_0.v rfl rfl ?_))
 obtain ⟨r2, hx3, hF⟩ := bind_some hF
 refine C_x2 (.rd (.t .h) rfl .nil) (X_callS cf41.h (.cons (.tmp rfl rfl) .nil) (s_l1New_ok a_code v0_0 _ hx3)) (fun p4 => ?_)
 refine Ca (.pointer (some ⟨p4.1, 0, some 0⟩)) rfl rfl ?_
 refine C_nil (K_region (Cm (.pointer (some ⟨p4.1, 0, some 0⟩)) rfl rfl ?_))
 obtain ⟨r5, hx6, hF⟩ := bind_some hF
 refine C_x5 (.cons .h (.rd .h rfl .nil)) (X_callS cf63.h (.cons (.tmp rfl rfl) .nil) (s_l8Draw_ok fuel p4.1 r2 p4.2 _ hx6)) (fun p7 => ?_)
 refine Cm (.tuple [p7.1.v, p7.2.2.1.v, p7.2.2.2.2.1.v, p7.2.2.2.2.2.2.1.v].toArray) rfl rfl ?_
 refine C_val (V_extract (l := [p7.1.v, p7.2.2.1.v, p7.2.2.2.2.1.v, p7.2.2.2.2.2.2.1.v]) (v := p7.1.v) (.tmp rfl rfl) rfl) ?_
 refine C_val (V_extract (l := [p7.1.v, p7.2.2.1.v, p7.2.2.2.2.1.v, p7.2.2.2.2.2.2.1.v]) (v := p7.2.2.1.v) (.tmp rfl rfl) rfl) ?_
 refine C_val (V_extract (l := [p7.1.v, p7.2.2.1.v, p7.2.2.2.2.1.v, p7.2.2.2.2.2.2.1.v]) (v := p7.2.2.2.2.1.v) (.tmp rfl rfl) rfl) ?_
 refine C_val (V_extract (l := [p7.1.v, p7.2.2.1.v, p7.2.2.2.2.1.v, p7.2.2.2.2.2.2.1.v]) (v := p7.2.2.2.2.2.2.1.v) (.tmp rfl rfl) rfl) ?_
 refine Ca p7.1.v rfl rfl ?_
 refine Ca p7.2.2.1.v rfl rfl ?_
 refine Ca p7.2.2.2.2.1.v rfl rfl ?_
 refine Ca p7.2.2.2.2.2.2.1.v rfl rfl ?_
 refine C_nil (K_region (Cm p7.2.2.2.2.2.2.1.v rfl rfl ?_))
 obtain ⟨r8, hx9, hF⟩ := bind_some hF
 refine C_x4 (.cons (.t (.t (.t .h))) .nil) (XC_bor frz_own (fun _ => (.cons (.cons (.cons .nil)))) (X_callS cf39.h (.cons (.tmp rfl rfl) .nil) (s_StartReach_ok r5.2.2.2.1 p7.2.2.2.2.2.2.1 _ hx9))) (fun p10 => ?_)
 refine C_new rfl (N_allocT (g := true) ty46.h rfl rfl) (fun k11 => ?_)
 refine C_x1 (.cons .h .nil) (X_storeB (e' := (.agg [p10.1.v, p10.2.2.1.v, p10.2.2.2.2.1.v, (.int .i64 r8.Rounds)].toArray)) (v := (.agg [p10.1.v, p10.2.2.1.v, p10.2.2.2.2.1.v, (.int .i64 r8.Rounds)].toArray)) ty46.h.sz (.tmp rfl rfl) (.tmp rfl rfl) rfl rfl rfl rfl rfl) (fun _ => ?_)
 refine C_nil (K_in (K_region (Cm (.pointer (some ⟨p4.1, 0, some 0⟩)) rfl rfl ?_)))
 obtain ⟨r12, hx13, hF⟩ := bind_some hF
 refine C_x1 (.cons (.t (.t (.t (.t (.t (.t (.t (.t .h)))))))) (.rd (.t (.t (.t (.t (.t (.t (.t (.t .h)))))))) rfl .nil)) (X_callS cf75.h (.cons (.tmp rfl rfl) (.cons (.int _ _) .nil)) (s_l1Below_ok p4.1 ({ b := r2.b, i := r5.2.2.2.2.i, h := r5.2.2.2.2.h } : l1Cur) p4.2 3 _ hx13)) (fun p14 => ?_)
 refine Ca (.int .i64 r12.1) rfl rfl ?_
 refine C_nil (CW_block (K_frz (.t (.t (.t (.t (.t (.t .h)))))) frz_own ?_))
 refine K_frz (.t (.t (.t (.t (.t (.t (.t .h))))))) frz_own ?_
 refine K_frz (.t (.t (.t (.t (.t (.t (.t (.t .h)))))))) frz_own ?_
 refine CW_loop (m := ((r12.1 - 0).toNat + 2)) (fun m100 f' cs' => ∃ (g : Fr) (c90 : List Fact) (c93 : List Int) (c96 : List Access) (c98 : Int) (c99 : Int) (v91 : Sv) (F92 : List Nat) (v94 : Sv) (F95 : List Nat) (v97 : Sv), f' = updL g [(5, (.pointer (some ⟨k1, 0, some 0⟩))), (6, (.pointer (some ⟨p4.1, 0, some 0⟩))), (7, p7.1.v), (8, p7.2.2.1.v), (9, p7.2.2.2.2.1.v), (11, (.pointer (some ⟨k11, 0, some 0⟩))), (12, (.int .i64 c99))] ∧ Ent cs' [cbox k1 46 (.agg [(.slice none 0 0), (.slice none 0 0), (.slice none 0 0), (.int .i64 0)].toArray), cbox p4.1 116 (.agg [p4.2.v, (.int .i64 r12.2.i), (.int .i64 r12.2.h)].toArray), crd (RdS 5 rdU8) p4.2.v r2.b, crd (RdS 3 rdInt) p7.1.v r5.1, crd (RdS 97 rd97) p7.2.2.1.v r5.2.1, crd (RdS 58 rd58) p7.2.2.2.2.1.v r5.2.2.1, cbox k11 46 (.agg [v91.v, v94.v, v97.v, (.int .i64 c98)].toArray), cown (OwnS 58 ow58) F92 v91.v c90, cown (OwnS 3 (roE rdInt)) F95 v94.v c93, crd (RdS 54 rd54) v97.v c96] ∧ s_DrawStepReach_L1 r2 r5 r12 m100 c90 c93 c96 c98 c99 = some R) ⟨_, _, _, _, _, _, p10.1, p10.2.1, p10.2.2.1, p10.2.2.2.1, p10.2.2.2.2.1, (EqL.cons rfl (EqL.cons rfl (EqL.cons rfl (EqL.cons rfl (EqL.cons rfl (EqL.cons rfl (EqL.cons rfl (EqL.nil)))))))).eq, (.frz (.t (.t (.t (.t (.t (.t (.t (.t .h)))))))) frz_own (.sel (.cons (.t (.t (.t (.t (.t (.t (.t (.t (.t (.t .h)))))))))) (.cons (.t (.t (.t (.t .h)))) (.rd (.t (.t (.t (.t (.t (.t (.t (.t .h)))))))) rfl (.rd (.t (.t (.t .h))) rfl (.rd (.t (.t .h)) rfl (.rd (.t .h) rfl (.cons (.t (.t (.t (.t .h)))) (.cons (.t (.t (.t (.t (.t .h))))) (.cons (.t (.t (.t (.t (.t .h))))) (.rd .h rfl .nil)))))))))))), hF⟩ ?_
 clear hF
 rintro m100 _ _ ⟨g101, c90, c93, c96, c98, c99, v91, F92, v94, F95, v97, rfl, hE, hF⟩
 refine K_ent hE ?_
 clear hE
 rcases m100 with _ | m100
 · rw [s_DrawStepReach_L1] at hF
   exact absurd hF (by simp)
 rw [s_DrawStepReach_L1] at hF
 refine K_in (K_region (Cm (.int .i64 c99) rfl rfl ?_))
 refine C_val (V_gtr (i := c99) (j := 0) (.tmp rfl rfl) (.int _ _)) ?_
 refine C_nil (CW_cond (b := (decide ((0 : Int) < c99))) (.tmp rfl rfl) (fun hb128 => ?_) (fun hb128 => ?_))
 · rw [if_pos hb128] at hF
   refine CW_skip (K_block (K_frz (.t (.t (.t (.t (.t (.t (.t .h))))))) frz_own ?_))
   refine K_frz (.t (.t (.t (.t (.t (.t (.t (.t .h)))))))) frz_own ?_
   refine K_region (Cm p7.1.v rfl rfl ?_)
   refine Cm p7.2.2.1.v rfl rfl ?_
   refine Cm p7.2.2.2.2.1.v rfl rfl ?_
   refine C_at (.t (.t (.t (.t (.t (.t (.t (.t .h)))))))) (fun hp => V_loadBox ag46.h ty46.h.sz rfl (.tmp rfl rfl) hp.2 rfl) ?_
   obtain ⟨r108, hx109, hF⟩ := bind_some hF
   refine C_x3 (.rd (.t (.t (.t (.t (.t .h))))) rfl (.rd (.t (.t (.t (.t (.t (.t .h)))))) rfl (.rd (.t (.t (.t (.t (.t (.t (.t .h))))))) rfl (.rd (.t .h) rfl (.rd .h rfl (.rd (.t (.t (.t (.t (.t (.t (.t (.t (.t .h))))))))) rfl .nil)))))) (X_callS cf33.h (.cons (.tmp rfl rfl) (.cons (.tmp rfl rfl) (.cons (.tmp rfl rfl) (.cons (.tmp rfl rfl) .nil)))) (s_StepReach_ok r5.1 p7.1 r5.2.1 p7.2.2.1 r5.2.2.1 p7.2.2.2.2.1 ({ Facts := c90, Values := c93, Log := c96, Rounds := c98 } : Reached) v91 v94 v97 _ hx109)) (fun p110 => ?_)
   refine Cm (.tuple [(.agg [p110.1.v, p110.2.2.1.v, p110.2.2.2.2.v, (.int .i64 r108.1.Rounds)].toArray), (.bool r108.2)].toArray) rfl rfl ?_
   refine C_val (V_extract (l := [(.agg [p110.1.v, p110.2.2.1.v, p110.2.2.2.2.v, (.int .i64 r108.1.Rounds)].toArray), (.bool r108.2)]) (v := (.agg [p110.1.v, p110.2.2.1.v, p110.2.2.2.2.v, (.int .i64 r108.1.Rounds)].toArray)) (.tmp rfl rfl) rfl) ?_
   refine C_val (V_extract (l := [(.agg [p110.1.v, p110.2.2.1.v, p110.2.2.2.2.v, (.int .i64 r108.1.Rounds)].toArray), (.bool r108.2)]) (v := (.bool r108.2)) (.tmp rfl rfl) rfl) ?_
   refine C_new rfl (N_allocT (g := true) ty46.h rfl rfl) (fun k111 => ?_)
   refine C_x1 (.cons .h .nil) (X_storeB (e' := (.agg [p110.1.v, p110.2.2.1.v, p110.2.2.2.2.v, (.int .i64 r108.1.Rounds)].toArray)) (v := (.agg [p110.1.v, p110.2.2.1.v, p110.2.2.2.2.v, (.int .i64 r108.1.Rounds)].toArray)) ty46.h.sz (.tmp rfl rfl) (.tmp rfl rfl) rfl rfl rfl rfl rfl) (fun _ => ?_)
   refine Ca (.bool r108.2) rfl rfl ?_
   refine C_nil (CW_region (C_at .h (fun hp => V_loadBox ag46.h ty46.h.sz rfl (.tmp rfl rfl) hp.2 rfl) ?_))
   refine C_x1 (.cons (.t (.t (.t (.t (.t (.t (.t (.t (.t (.t (.t (.t .h)))))))))))) .nil) (X_storeB (e' := (.agg [p110.1.v, p110.2.2.1.v, p110.2.2.2.2.v, (.int .i64 r108.1.Rounds)].toArray)) (v := (.agg [p110.1.v, p110.2.2.1.v, p110.2.2.2.2.v, (.int .i64 r108.1.Rounds)].toArray)) ty46.h.sz (.tmp rfl rfl) (.tmp rfl rfl) rfl rfl rfl rfl rfl) (fun _ => ?_)
   refine C_nil (CW_region (Cm (.int .i64 c99) rfl rfl ?_))
   refine C_val (V_sub (i := c99) (j := 1) (.tmp rfl rfl) (.int _ _)) ?_
   refine Ca (.int .i64 (IntKind.i64.wrap (c99 - 1))) rfl rfl ?_
   refine C_nil ?_
   exact ⟨m100, Nat.lt_succ_self _, _, _, _, _, _, _, p110.1, p110.2.1, p110.2.2.1, p110.2.2.2.1, p110.2.2.2.2, (EqL.cons rfl (EqL.cons rfl (EqL.cons rfl (EqL.cons rfl (EqL.cons rfl (EqL.cons rfl (EqL.cons rfl (EqL.nil)))))))).eq, (.sel (.cons (.t (.t (.t (.t (.t (.t (.t .h))))))) (.cons (.t (.t (.t (.t (.t (.t (.t .h))))))) (.rd (.t (.t (.t (.t (.t (.t (.t .h))))))) rfl (.rd (.t (.t (.t (.t (.t (.t (.t (.t .h)))))))) rfl (.rd (.t (.t (.t (.t (.t (.t (.t (.t (.t .h))))))))) rfl (.rd (.t (.t (.t (.t (.t (.t (.t (.t (.t (.t .h)))))))))) rfl (.cons .h (.cons (.t .h) (.cons (.t .h) (.rd (.t .h) rfl .nil))))))))))), hF⟩
 rw [if_neg (by rw [hb128]; exact Bool.false_ne_true)] at hF
 refine CW_exit ?_
 iterate 2 refine CThen_exit ?_
 refine CIn_self (K_in (K_region (Cm (.pointer (some ⟨p4.1, 0, some 0⟩)) rfl rfl ?_)))
 obtain ⟨r112, hx113, hF⟩ := bind_some hF
 refine C_x1 (.cons (.t .h) (.rd (.t .h) rfl .nil)) (X_callS cf75.h (.cons (.tmp rfl rfl) (.cons (.int _ _) .nil)) (s_l1Below_ok p4.1 ({ b := r2.b, i := r12.2.i, h := r12.2.h } : l1Cur) p4.2 14 _ hx113)) (fun p114 => ?_)
 refine C_nil (CW_block (K_region (C_val (V_eql (i := r112.1) (j := 0) (.tmp rfl rfl) (.int _ _)) ?_)))
 refine Ca (.bool ((r112.1 : Int) == 0)) rfl rfl ?_
 refine C_nil (CW_cond (b := ((r112.1 : Int) == 0)) (.tmp rfl rfl) (fun hb127 => ?_) (fun hb127 => ?_))
 · rw [if_pos hb127] at hF
   refine CW_draw [0, 1, 2, 3, 4, 5, 6, 7] [0, 1, 0, 4, 12, 31, 63, 127] [3, 5, 7] mixed (by decide +kernel) ?_
   refine D_val rfl .no (fun ha => V_fieldAddr (off := 1) fd46_1.h (EN ha (.tmp rfl rfl) rfl)) ?_
   refine D_atO rfl .no (.t (.t (.t (.t (.t (.t .h)))))) (fun ha hp => V_load (v := v94.v) ag24.h (EN ha (.tmp rfl rfl) rfl) hp.2 rfl rfl) ?_
   refine Dm (.pointer (some ⟨p4.1, 0, some 0⟩)) rfl rfl rfl rfl ?_
   obtain ⟨r115, hx116, hF⟩ := bind_some hF
   refine D_act1 rfl rfl .no (.cons .h (.rd (.t .h) rfl .nil)) (.own (.t (.t (.t (.t (.t .h))))) (fun _ h => h) .nil) (fun ha => X_callS cf75.h (.cons (EN ha (.tmp rfl rfl) rfl) (.cons (EN ha (.int _ _) rfl) .nil)) (s_l1Below_ok p4.1 ({ b := r2.b, i := r112.2.i, h := r112.2.h } : l1Cur) p4.2 11 _ hx116)) (fun p117 => ?_)
   refine D_new rfl .no rfl (fun ha => N_buildSliceT (g := true) (len := 1) (parts := [(0, .tmp 48)]) sl24.h ty3.h (.cons (EN ha (.tmp rfl rfl) rfl) .nil) (vs := [(.int .i64 r115.1)]) rfl rfl rfl (by intro v hv; simp at hv; rcases hv with rfl <;> rfl)) (fun k118 => ?_)
   refine D_conv (.cons .h .nil) (own_lit (Ro := (roE rdInt)) (E := 3) (F := ([] ++ [])) (xs := ([r115.1] : List Int)) (MkL_cons (Mk_pure (fun _ => rfl)) MkL_nil apps) rfl rfl) apps ?_
   obtain ⟨z119, hx120, hF⟩ := bind_some hF
   refine D_act1 rfl rfl .no (.cons (.t (.t (.t (.t (.t (.t (.t (.t (.t .h))))))))) (.cons .h .nil)) (.dep rfl (.dep rfl .nil)) (fun ha => X_appendO (Ro := (roE rdInt)) sl24.h ni24 ty3.h rfl rfl rfl (EN ha (.tmp rfl rfl) rfl) (EN ha (.tmp rfl rfl) rfl) hx120 src_own) (fun p121 => ?_)
   refine D_val rfl .no (fun ha => V_fieldAddr (off := 1) fd46_1.h (EN ha (.tmp rfl rfl) rfl)) ?_
   refine D_act1 rfl rfl .no (.cons (.t (.t (.t (.t (.t (.t (.t .h))))))) .nil) (.dep rfl (.dep rfl .nil)) (fun ha => X_storeB (e' := (.agg [v91.v, p121.1.v, v97.v, (.int .i64 c98)].toArray)) ty24.h.sz (EN ha (.tmp rfl rfl) rfl) (EN ha (.tmp rfl rfl) rfl) rfl rfl rfl rfl rfl) (fun _ => ?_)
   refine D_nil (K_draw [0, 1, 2, 3, 4, 5, 6, 7] [0, 0, 0, 0, 1, 19, 55, 127] [7] mixed (by decide +kernel) ?_)
   refine Dm p7.1.v rfl rfl rfl rfl ?_
   refine Dm p7.2.2.1.v rfl rfl rfl rfl ?_
   refine Dm p7.2.2.2.2.1.v rfl rfl rfl rfl ?_
   refine D_atO rfl .no .h (fun ha hp => V_loadBox ag46.h ty46.h.sz rfl (EN ha (.tmp rfl rfl) rfl) hp.2 rfl) ?_
   refine Da p7.1.v rfl rfl rfl rfl ?_
   refine Da p7.2.2.1.v rfl rfl rfl rfl ?_
   refine Da p7.2.2.2.2.1.v rfl rfl rfl rfl ?_
   refine D_act1 rfl rfl .no (.cons (.t (.t (.t .h))) .nil) (.dep rfl .nil) (fun ha => X_storeB (e' := (.agg [v91.v, p121.1.v, v97.v, (.int .i64 c98)].toArray)) (v := (.agg [v91.v, p121.1.v, v97.v, (.int .i64 c98)].toArray)) ty46.h.sz (EN ha (.tmp rfl rfl) rfl) (EN ha (.tmp rfl rfl) rfl) rfl rfl rfl rfl rfl) (fun _ => ?_)
   refine D_nil (CW_ret ?_)
   obtain rfl := Option.some.inj hF
   exact End_ret (p7.1, p7.2.2.1, p7.2.2.2.2.1, v91, F92, p121.1, p121.2, v97) (.tmp rfl rfl (.tmp rfl rfl (.tmp rfl rfl (.cellA rfl rfl .h rfl ag46.h ty46.h.sz rfl rfl .nil)))) rfl (.sel (.rd (.t (.t (.t (.t (.t .h))))) rfl (.rd (.t (.t (.t (.t (.t (.t .h)))))) rfl (.rd (.t (.t (.t (.t (.t (.t (.t .h))))))) rfl (.cons (.t (.t (.t (.t (.t (.t (.t (.t .h)))))))) (.cons (.t (.t .h)) (.rd (.t (.t (.t (.t (.t (.t (.t .h))))))) rfl .nil)))))))
 rw [if_neg (by rw [hb127]; exact Bool.false_ne_true)] at hF
 refine K_region (C_val (V_eql (i := r112.1) (j := 1) (.tmp rfl rfl) (.int _ _)) ?_)
 refine Ca (.bool ((r112.1 : Int) == 1)) rfl rfl ?_
 refine C_nil (CW_cond (b := ((r112.1 : Int) == 1)) (.tmp rfl rfl) (fun hb126 => ?_) (fun hb126 => ?_))
 · rw [if_pos hb126] at hF
   refine CW_region (Cm (.pointer (some ⟨p4.1, 0, some 0⟩)) rfl rfl ?_)
   refine C_new rfl (N_buildSliceT (g := true) sl24.h ty3.h (.cons (.int _ _) (.cons (.int _ _) (.cons (.int _ _) .nil))) (vs := [(.int .i64 (-1)), (.int .i64 100), (.int .i64 101)]) rfl rfl rfl (by intro v hv; simp at hv; rcases hv with rfl | rfl | rfl <;> rfl)) (fun k122 => ?_)
   refine C_conv (.cons .h .nil) (own_lit (Ro := (roE rdInt)) (E := 3) (F := ([] ++ ([] ++ ([] ++ [])))) (xs := ([(-1), 100, 101] : List Int)) (MkL_cons (Mk_pure (fun _ => rfl)) (MkL_cons (Mk_pure (fun _ => rfl)) (MkL_cons (Mk_pure (fun _ => rfl)) MkL_nil apps) apps) apps) rfl rfl) apps ?_
   obtain ⟨r123, hx124, hF⟩ := bind_some hF
   refine C_x2 (.cons .h (.cons .h (.rd (.t .h) rfl .nil))) (XC_bor frz_own (fun _ => (.cons .nil)) (XC_pre (.cons (.t .h) (.rd (.t .h) rfl (.rd .h rfl .nil))) (X_callS cf76.h (.cons (.tmp rfl rfl) (.cons (.tmp rfl rfl) .nil)) (s_l1PickInt_ok p4.1 ({ b := r2.b, i := r112.2.i, h := r112.2.h } : l1Cur) p4.2 ([(-1), 100, 101] : List Int) (⟨(some ⟨k122, 0, none⟩), 3, 1⟩) _ hx124)))) (fun p125 => ?_)
   refine C_val (V_fieldAddr (off := 3) fd46_3.h (.tmp rfl rfl)) ?_
   refine C_x1 (.cons (.t (.t (.t (.t (.t (.t (.t .h))))))) .nil) (X_storeB (e' := (.agg [v91.v, v94.v, v97.v, (.int .i64 r123.1)].toArray)) (v := (.int .i64 r123.1)) ty3.h.sz (.tmp rfl rfl) (.tmp rfl rfl) rfl rfl rfl rfl rfl) (fun _ => ?_)
   refine C_nil (K_draw [0, 1, 2, 3, 4, 5, 6, 7] [0, 0, 0, 0, 1, 19, 55, 127] [7] mixed (by decide +kernel) ?_)
   refine Dm p7.1.v rfl rfl rfl rfl ?_
   refine Dm p7.2.2.1.v rfl rfl rfl rfl ?_
   refine Dm p7.2.2.2.2.1.v rfl rfl rfl rfl ?_
   refine D_atO rfl .no .h (fun ha hp => V_loadBox ag46.h ty46.h.sz rfl (EN ha (.tmp rfl rfl) rfl) hp.2 rfl) ?_
   refine Da p7.1.v rfl rfl rfl rfl ?_
   refine Da p7.2.2.1.v rfl rfl rfl rfl ?_
   refine Da p7.2.2.2.2.1.v rfl rfl rfl rfl ?_
   refine D_act1 rfl rfl .no (.cons (.t (.t (.t .h))) .nil) (.dep rfl .nil) (fun ha => X_storeB (e' := (.agg [v91.v, v94.v, v97.v, (.int .i64 r123.1)].toArray)) (v := (.agg [v91.v, v94.v, v97.v, (.int .i64 r123.1)].toArray)) ty46.h.sz (EN ha (.tmp rfl rfl) rfl) (EN ha (.tmp rfl rfl) rfl) rfl rfl rfl rfl rfl) (fun _ => ?_)
   refine D_nil (CW_ret ?_)
   obtain rfl := Option.some.inj hF
   exact End_ret (p7.1, p7.2.2.1, p7.2.2.2.2.1, v91, F92, v94, F95, v97) (.tmp rfl rfl (.tmp rfl rfl (.tmp rfl rfl (.cellA rfl rfl .h rfl ag46.h ty46.h.sz rfl rfl .nil)))) rfl (.sel (.rd (.t (.t (.t (.t (.t .h))))) rfl (.rd (.t (.t (.t (.t (.t (.t .h)))))) rfl (.rd (.t (.t (.t (.t (.t (.t (.t .h))))))) rfl (.cons (.t (.t (.t (.t (.t (.t (.t (.t .h)))))))) (.cons (.t (.t (.t (.t (.t (.t (.t (.t .h)))))))) (.rd (.t (.t (.t (.t (.t (.t (.t (.t .h)))))))) rfl .nil)))))))
 rw [if_neg (by rw [hb126]; exact Bool.false_ne_true)] at hF
 refine CW_skip (K_draw [0, 1, 2, 3, 4, 5, 6, 7] [0, 0, 0, 0, 1, 19, 55, 127] [7] mixed (by decide +kernel) ?_)
 refine Dm p7.1.v rfl rfl rfl rfl ?_
 refine Dm p7.2.2.1.v rfl rfl rfl rfl ?_
 refine Dm p7.2.2.2.2.1.v rfl rfl rfl rfl ?_
 refine D_atO rfl .no (.t (.t (.t (.t (.t (.t .h)))))) (fun ha hp => V_loadBox ag46.h ty46.h.sz rfl (EN ha (.tmp rfl rfl) rfl) hp.2 rfl) ?_
 refine Da p7.1.v rfl rfl rfl rfl ?_
 refine Da p7.2.2.1.v rfl rfl rfl rfl ?_
 refine Da p7.2.2.2.2.1.v rfl rfl rfl rfl ?_
 refine D_act1 rfl rfl .no (.cons (.t .h) .nil) (.dep rfl .nil) (fun ha => X_storeB (e' := (.agg [v91.v, v94.v, v97.v, (.int .i64 c98)].toArray)) (v := (.agg [v91.v, v94.v, v97.v, (.int .i64 c98)].toArray)) ty46.h.sz (EN ha (.tmp rfl rfl) rfl) (EN ha (.tmp rfl rfl) rfl) rfl rfl rfl rfl rfl) (fun _ => ?_)
 refine D_nil (CW_ret ?_)
 obtain rfl := Option.some.inj hF
 exact End_ret (p7.1, p7.2.2.1, p7.2.2.2.2.1, v91, F92, v94, F95, v97) (.tmp rfl rfl (.tmp rfl rfl (.tmp rfl rfl (.cellA rfl rfl .h rfl ag46.h ty46.h.sz rfl rfl .nil)))) rfl (.sel (.rd (.t (.t (.t .h))) rfl (.rd (.t (.t (.t (.t .h)))) rfl (.rd (.t (.t (.t (.t (.t .h))))) rfl (.cons (.t (.t (.t (.t (.t (.t (.t .h))))))) (.cons (.t (.t (.t (.t (.t (.t (.t .h))))))) (.rd (.t (.t (.t (.t (.t (.t (.t .h))))))) rfl .nil)))))))
def i_copyAccess (a_a : Access) : Option (Access) :=
 (g_slices_Clone_int_int a_a.Values).bind fun r3 =>
 some ({ Method := a_a.Method, Values := r3 } : Access)
theorem i_copyAccess_ok (a_a : Access) (v0_1 : Sv) (R : Access) (hF : i_copyAccess a_a = some R) :
   Fw.Spec Tryz.prog 173 [(.agg [(.int .i64 a_a.Method), v0_1.v].toArray)] [crd (RdS 3 rdInt) v0_1.v a_a.Values] (fun p : Sv × List Nat => (.agg [(.int .i64 R.Method), p.1.v].toArray)) (fun p => [cown (OwnS 3 (roE rdInt)) p.2 p.1.v R.Values]) := by
 refine Se 9 Tryz.func173 [.cell 2 54] ?_
 intro H0 F0
 unfold i_copyAccess at hF
 refine au ?_
 refine AbR (fun k1 => ?_)
 refine AnW (fun k2 => ?_)
 refine au ?_
 refine K_draw [0, 1, 2, 3, 4, 5, 6] [0, 1, 0, 4, 12, 31, 63] [4, 6] mixed (by decide +kernel) ?_
 iterate 4 refine du ?_
 refine bnd hF fun r3 hx4 hF => Dx1 (g_slices_Clone_int_int_ok _ _ _ hx4) (fun p5 => ?_)
 refine D_val rfl .no (fun ha => V_build ty54.h rfl (vs := [(.int .i64 a_a.Method), p5.1.v]) (.cons (EN ha (.tmp rfl rfl) rfl) (.cons (EN ha (.tmp rfl rfl) rfl) .nil)) (cells := [(.int .i64 a_a.Method), p5.1.v]) rfl) ?_
 refine D_act1 rfl rfl .no (.cons (.t .h) .nil) .nil (fun ha => X_storeB (e' := (.agg [(.int .i64 a_a.Method), p5.1.v].toArray)) (v := (.agg [(.int .i64 a_a.Method), p5.1.v].toArray)) ty54.h.sz (EN ha (.tmp rfl rfl) rfl) (EN ha (.tmp rfl rfl) rfl) rfl rfl rfl rfl rfl) (fun _ => ?_)
 refine du ?_
 refine au ?_
 cases hF
 exact Er (p5.1, p5.2)
def i_copyAccesses_L1 : List Access → Nat → (List Access) → Option ((List Access))
 | [], k8, c2 => some c2
 | x10 :: rest9, k8, c2 => (i_copyAccess x10).bind fun r21 =>
   (app c2 ([r21] : List Access)).bind fun z25 =>
   i_copyAccesses_L1 rest9 (k8 + 1) z25
def i_copyAccesses (a_l : List Access) : Option ((List Access)) :=
 i_copyAccesses_L1 a_l 0 ([] : List Access)
theorem i_copyAccesses_ok (a_l : List Access) (v0_0 : Sv) (R : (List Access)) (hF : i_copyAccesses a_l = some R) :
   Fw.Spec Tryz.prog 135 [v0_0.v] [crd (RdS 54 rd54) v0_0.v a_l] (fun p : Sv × List Nat => p.1.v) (fun p => [cown (OwnS 54 ow54) p.2 p.1.v R]) := by
 refine Se 20 Tryz.func135 [.tmp 2] ?_
 intro H0 F0
 unfold i_copyAccesses at hF
 iterate 4 refine au ?_
 refine C_new rfl (N_buildSliceT (g := true) sl44.h ty54.h .nil (vs := []) rfl rfl rfl (by simp)) (fun k1 => ?_)
 refine Cv1 (.cons .h .nil) (own_lit (Ro := ow54) (E := 54) (F := []) (xs := ([] : List Access)) MkL_nil rfl rfl) ?_
 iterate 8 refine au ?_
 refine CW_block (CW_loop (m := a_l.length) (fun m6 f' cs' => ∃ (g : Fr) (k8 : Nat) (rest9 : List Access) (c2 : List Access) (v3 : Sv) (F4 : List Nat), m6 = rest9.length ∧ f' = updL g [(3, v3.v), (7, v0_0.v), (8, (.int .i64 (a_l.length : Int))), (9, (.int .i64 (k8 : Int)))] ∧ List.drop k8 a_l = rest9 ∧ Ent cs' [cown (OwnS 54 ow54) F4 v3.v c2, crd (RdS 54 rd54) v0_0.v a_l] ∧ i_copyAccesses_L1 rest9 k8 c2 = some R) ⟨_, 0, _, _, ⟨(some ⟨k1, 0, none⟩), 0, 1⟩, (k1 :: []), rfl, eqA, rfl, entA, hF⟩ ?_)
 rintro m6 _ _ ⟨g7, k8, rest9, c2, v3, F4, rfl, rfl, hd11, hE, hF⟩
 refine Kb hE a_l (fun hbd16 => ?_)
 rcases rest9 with _ | ⟨x10, rest9⟩
 · have hk12 := dn hd11
   rw [i_copyAccesses_L1] at hF
   iterate 4 refine au ?_
   refine CdF ?_
   iterate 9 refine au ?_
   cases hF
   exact Er (v3, F4)
 obtain ⟨hk12, hx13, hd14⟩ := drop_cons hd11
 rw [i_copyAccesses_L1] at hF
 iterate 4 refine au ?_
 refine CdT ?_
 iterate 3 refine au ?_
 refine Ai hx13 (fun k17 j18 => ?_)
 refine AlA1 (ul54_0_54 x10) la54_0_54 (fun p19 => ?_)
 refine AnW (fun k20 => ?_)
 refine As (.agg [(.int .i64 x10.Method), p19.v].toArray) ?_
 iterate 4 refine au ?_
 refine bnd hF fun r21 hx22 hF => Cx1 (i_copyAccess_ok _ _ _ hx22) (fun p23 => ?_)
 refine C_new rfl (N_buildSliceT (g := true) sl44.h ty54.h (.cons (.tmp rfl rfl) .nil) (vs := [(.agg [(.int .i64 r21.Method), p23.1.v].toArray)]) rfl rfl rfl (by intro v hv; simp at hv; rcases hv with rfl <;> rfl)) (fun k24 => ?_)
 refine Cv1 (.cons .h (.cons .h .nil)) (own_lit (Ro := ow54) (E := 54) (F := (p23.2 ++ [])) (xs := ([r21] : List Access)) (MkL_cons mk54 MkL_nil apps) rfl rfl) ?_
 refine bnd hF fun z25 hx26 hF => C_x1 (.cons (.t (.t (.t (.t .h)))) (.cons .h .nil)) (X_appendO (Ro := ow54) sl44.h ni44 ty54.h rfl rfl rfl (.tmp rfl rfl) (.tmp rfl rfl) hx26 src_own) (fun p27 => ?_)
 iterate 6 refine au ?_
 rw [wk k8]
 exact ⟨_, Nat.lt_succ_self _, _, k8 + 1, rest9, _, p27.1, p27.2, rfl, eqA, hd14, entA, hF⟩
def i_copyReached (a_r : Reached) : Option (Reached) :=
 (i_copyFacts a_r.Facts).bind fun r3 =>
 (g_slices_Clone_int_int a_r.Values).bind fun r6 =>
 (i_copyAccesses a_r.Log).bind fun r9 =>
 some ({ Facts := r3, Values := r6, Log := r9, Rounds := a_r.Rounds } : Reached)
theorem i_copyReached_ok (a_r : Reached) (v0_0 : Sv) (v0_1 : Sv) (v0_2 : Sv) (R : Reached) (hF : i_copyReached a_r = some R) :
   Fw.Spec Tryz.prog 77 [(.agg [v0_0.v, v0_1.v, v0_2.v, (.int .i64 a_r.Rounds)].toArray)] [crd (RdS 58 rd58) v0_0.v a_r.Facts, crd (RdS 3 rdInt) v0_1.v a_r.Values, crd (RdS 54 rd54) v0_2.v a_r.Log] (fun p : Sv × List Nat × Sv × List Nat × Sv × List Nat => (.agg [p.1.v, p.2.2.1.v, p.2.2.2.2.1.v, (.int .i64 R.Rounds)].toArray)) (fun p => [cown (OwnS 58 ow58) p.2.1 p.1.v R.Facts, cown (OwnS 3 (roE rdInt)) p.2.2.2.1 p.2.2.1.v R.Values, cown (OwnS 54 ow54) p.2.2.2.2.2 p.2.2.2.2.1.v R.Log]) := by
 refine Se 15 Tryz.func77 [.cell 2 46] ?_
 intro H0 F0
 unfold i_copyReached at hF
 refine au ?_
 refine AbR (fun k1 => ?_)
 refine AnW (fun k2 => ?_)
 refine au ?_
 refine K_draw [0, 1, 3, 4, 6, 7, 9, 10, 2, 5, 8, 11, 12] [0, 1, 3, 0, 8, 31, 0, 64, 255, 0, 512, 2047, 4095] [2, 5, 8, 12] mixed (by decide +kernel) ?_
 iterate 8 refine du ?_
 refine bnd hF fun r3 hx4 hF => Dx1 (i_copyFacts_ok _ _ _ hx4) (fun p5 => ?_)
 refine bnd hF fun r6 hx7 hF => Dx1 (g_slices_Clone_int_int_ok _ _ _ hx7) (fun p8 => ?_)
 refine bnd hF fun r9 hx10 hF => Dx1 (i_copyAccesses_ok _ _ _ hx10) (fun p11 => ?_)
 refine D_val rfl .no (fun ha => V_build ty46.h rfl (vs := [p5.1.v, p8.1.v, p11.1.v, (.int .i64 a_r.Rounds)]) (.cons (EN ha (.tmp rfl rfl) rfl) (.cons (EN ha (.tmp rfl rfl) rfl) (.cons (EN ha (.tmp rfl rfl) rfl) (.cons (EN ha (.tmp rfl rfl) rfl) .nil)))) (cells := [p5.1.v, p8.1.v, p11.1.v, (.int .i64 a_r.Rounds)]) rfl) ?_
 refine D_act1 rfl rfl .no (.cons (.t (.t (.t .h))) .nil) .nil (fun ha => X_storeB (e' := (.agg [p5.1.v, p8.1.v, p11.1.v, (.int .i64 a_r.Rounds)].toArray)) (v := (.agg [p5.1.v, p8.1.v, p11.1.v, (.int .i64 a_r.Rounds)].toArray)) ty46.h.sz (EN ha (.tmp rfl rfl) rfl) (EN ha (.tmp rfl rfl) rfl) rfl rfl rfl rfl rfl) (fun _ => ?_)
 refine du ?_
 refine au ?_
 cases hF
 exact Er (p5.1, p5.2, p8.1, p8.2, p11.1, p11.2)
def i_StepReach (a_s : List Int) (a_l : List Method) (a_facts : List Fact) (a_r : Reached) : Option (Reached × Bool) :=
 (i_copyReached a_r).bind fun r3 =>
 ((i_AreMethods a_s a_l).bind fun r9 =>
   bif (!r9) then (some true)
   else ((i_AreFacts a_s a_facts).bind fun r13 =>
     bif (!r13) then (some true)
     else ((i_AreFacts a_s a_r.Facts).bind fun r17 =>
       bif (!r17) then (some true)
       else ((i_areReached a_r.Values).bind fun r21 =>
         bif (!r21) then (some true)
         else ((i_within a_r.Rounds 0 100).bind fun r25 =>
           some (!r25)))))).bind fun o7 =>
 match o7 with
 | c28 => if c28 then (
     some (r3, false))
   else (
     (i_Reached_told r3 a_l a_facts).bind fun r29 =>
     some (r29.2, r29.1))
theorem i_StepReach_ok (a_s : List Int) (v0_0 : Sv) (a_l : List Method) (v1_0 : Sv) (a_facts : List Fact) (v2_0 : Sv) (a_r : Reached) (v3_0 : Sv) (v3_1 : Sv) (v3_2 : Sv) (R : Reached × Bool) (hF : i_StepReach a_s a_l a_facts a_r = some R) :
   Fw.Spec Tryz.prog 32 [v0_0.v, v1_0.v, v2_0.v, (.agg [v3_0.v, v3_1.v, v3_2.v, (.int .i64 a_r.Rounds)].toArray)] [crd (RdS 3 rdInt) v0_0.v a_s, crd (RdS 97 rd97) v1_0.v a_l, crd (RdS 58 rd58) v2_0.v a_facts, crd (RdS 58 rd58) v3_0.v a_r.Facts, crd (RdS 3 rdInt) v3_1.v a_r.Values, crd (RdS 54 rd54) v3_2.v a_r.Log] (fun p : Sv × List Nat × Sv × List Nat × Sv × List Nat => (.tuple [(.agg [p.1.v, p.2.2.1.v, p.2.2.2.2.1.v, (.int .i64 R.1.Rounds)].toArray), (.bool R.2)].toArray)) (fun p => [cown (OwnS 58 ow58) p.2.1 p.1.v R.1.Facts, cown (OwnS 3 (roE rdInt)) p.2.2.2.1 p.2.2.1.v R.1.Values, cown (OwnS 54 ow54) p.2.2.2.2.2 p.2.2.2.2.1.v R.1.Log]) := by
 refine Se 49 Tryz.func32 [.cell 8 46, .tmp 9] ?_
 intro H0 F0
 unfold i_StepReach at hF
 refine au ?_
 refine AbR (fun k1 => ?_)
 refine AnW (fun k2 => ?_)
 iterate 4 refine au ?_
 refine bnd hF fun r3 hx4 hF => Cx3 (i_copyReached_ok _ _ _ _ _ hx4) (fun p5 => ?_)
 refine AnW (fun k6 => ?_)
 refine As (.agg [p5.1.v, p5.2.2.1.v, p5.2.2.2.2.1.v, (.int .i64 r3.Rounds)].toArray) ?_
 iterate 2 refine au ?_
 obtain ⟨o7, hio7, hO8⟩ := bind_some hF
 refine au ?_
 refine C_cut (fun f' cs' => ∃ (c28 : Bool) (g : Fr), c28 = o7 ∧ f' = updL g [(1, v1_0.v), (2, v2_0.v), (8, (pz k2)), (10, (pz k6)), (42, (.bool c28))] ∧ Ent cs' [crd (RdS 97 rd97) v1_0.v a_l, crd (RdS 58 rd58) v2_0.v a_facts, cbox k2 46 (.agg [(.slice none 0 0), (.slice none 0 0), (.slice none 0 0), (.int .i64 0)].toArray), cbox k6 46 (.agg [p5.1.v, p5.2.2.1.v, p5.2.2.2.2.1.v, (.int .i64 r3.Rounds)].toArray), cown (OwnS 58 ow58) p5.2.1 p5.1.v r3.Facts, cown (OwnS 3 (roE rdInt)) p5.2.2.2.1 p5.2.2.1.v r3.Values, cown (OwnS 54 ow54) p5.2.2.2.2.2 p5.2.2.2.2.1.v r3.Log]) ?_ ?_
 · replace hF := hio7
   iterate 2 refine au ?_
   refine bnd hF fun r9 hx10 hF => Cx0 (i_AreMethods_ok _ _ _ _ _ hx10) (fun _ => ?_)
   iterate 2 refine au ?_
   rcases Bool.eq_false_or_eq_true (!r9) with hg12 | hg12
   · rw [hg12]
     try rw [hg12] at hF; dsimp only [cond_true, cond_false] at hF
     iterate 25 refine au ?_
     cases hF
     exact ⟨_, _, rfl, eqA, entA⟩
   rw [hg12]
   try rw [hg12] at hF; dsimp only [cond_true, cond_false] at hF
   iterate 5 refine au ?_
   refine bnd hF fun r13 hx14 hF => Cx0 (i_AreFacts_ok _ _ _ _ _ hx14) (fun _ => ?_)
   iterate 4 refine au ?_
   rcases Bool.eq_false_or_eq_true (!r13) with hg16 | hg16
   · rw [hg16]
     try rw [hg16] at hF; dsimp only [cond_true, cond_false] at hF
     iterate 19 refine au ?_
     cases hF
     exact ⟨_, _, rfl, eqA, entA⟩
   rw [hg16]
   try rw [hg16] at hF; dsimp only [cond_true, cond_false] at hF
   iterate 7 refine au ?_
   refine bnd hF fun r17 hx18 hF => Cx0 (i_AreFacts_ok _ _ _ _ _ hx18) (fun _ => ?_)
   iterate 4 refine au ?_
   rcases Bool.eq_false_or_eq_true (!r17) with hg20 | hg20
   · rw [hg20]
     try rw [hg20] at hF; dsimp only [cond_true, cond_false] at hF
     iterate 12 refine au ?_
     cases hF
     exact ⟨_, _, rfl, eqA, entA⟩
   rw [hg20]
   try rw [hg20] at hF; dsimp only [cond_true, cond_false] at hF
   iterate 5 refine au ?_
   refine bnd hF fun r21 hx22 hF => Cx0 (i_areReached_ok _ _ _ hx22) (fun _ => ?_)
   iterate 4 refine au ?_
   rcases Bool.eq_false_or_eq_true (!r21) with hg24 | hg24
   · rw [hg24]
     try rw [hg24] at hF; dsimp only [cond_true, cond_false] at hF
     iterate 6 refine au ?_
     cases hF
     exact ⟨_, _, rfl, eqA, entA⟩
   rw [hg24]
   try rw [hg24] at hF; dsimp only [cond_true, cond_false] at hF
   iterate 5 refine au ?_
   refine bnd hF fun r25 hx26 hF => Cx0 (i_within_ok _ _ _ _ hx26) (fun _ => ?_)
   iterate 4 refine au ?_
   cases hF
   exact ⟨_, _, rfl, eqA, entA⟩
 rintro _ _ ⟨c28, g33, rfl, rfl, hE⟩
 replace hF := hO8
 try dsimp only at hF
 refine K_ent hE ?_
 refine Ci hF (fun hb32 hF => ?_) (fun hb32 hF => ?_)
 · iterate 2 refine au ?_
   refine As (.agg [p5.1.v, p5.2.2.1.v, p5.2.2.2.2.1.v, (.int .i64 r3.Rounds)].toArray) ?_
   iterate 3 refine au ?_
   cases hF
   exact End_ret (p5.1, p5.2.1, p5.2.2.1, p5.2.2.2.1, p5.2.2.2.2.1, p5.2.2.2.2.2) (.cellA rfl rfl .h rfl ag46.h ty46.h.sz rfl rfl (.tmp rfl rfl .nil)) rfl (.sel (.cons (.t (.t (.t (.t .h)))) (.cons (.t (.t (.t (.t .h)))) (.cons (.t (.t (.t (.t .h)))) .nil))))
 iterate 4 refine au ?_
 refine bnd hF fun r29 hx30 hF => Cx4 (i_Reached_told_ok _ _ _ _ _ _ _ _ _ _ _ _ _ hx30) (fun p31 => ?_)
 iterate 5 refine au ?_
 refine As (.agg [p31.1.v, p31.2.2.1.v, p31.2.2.2.2.1.v, (.int .i64 r29.2.Rounds)].toArray) ?_
 iterate 3 refine au ?_
 cases hF
 exact End_ret (p31.1, p31.2.1, p31.2.2.1, p31.2.2.2.1, p31.2.2.2.2.1, p31.2.2.2.2.2) (.cellA rfl rfl .h rfl ag46.h ty46.h.sz rfl rfl (.tmp rfl rfl .nil)) rfl (.sel (.cons (.t (.t .h)) (.cons (.t (.t .h)) (.cons (.t (.t .h)) .nil))))
def s_DrawEqualReached (fuel : Nat) (a_code : List UInt8) : Option (Reached × Reached) :=
 (s_l1New a_code).bind fun r3 =>
 (s_l8Draw fuel r3).bind fun r6 =>
 (s_ReachAll r6.1 r6.2.1 r6.2.2.1 r6.2.2.2.1).bind fun r9 =>
 (s_l1Once ({ b := r3.b, i := r6.2.2.2.2.i, h := r6.2.2.2.2.h } : l1Cur) 2).bind fun r13 =>
 if r13.1 then (
   (s_l8Copy r9).bind fun r16 =>
   some (r9, r16))
 else (
   (s_l8Seeds ({ b := r3.b, i := r13.2.i, h := r13.2.h } : l1Cur)).bind fun r19 =>
   (s_ReachAll r6.1 r6.2.1 r6.2.2.1 r19.1).bind fun r22 =>
   some (r9, r22))
theorem s_DrawEqualReached_ok (fuel : Nat) (a_code : List UInt8) (v0_0 : Sv) (R : Reached × Reached) (hF : s_DrawEqualReached fuel a_code = some R) :
   Fw.Spec Tryz.prog 34 [v0_0.v] [crd (RdS 5 rdU8) v0_0.v a_code] (fun p : Sv × Sv × Sv × Sv × Sv × Sv => (.tuple [(.agg [p.1.v, p.2.1.v, p.2.2.1.v, (.int .i64 R.1.Rounds)].toArray), (.agg [p.2.2.2.1.v, p.2.2.2.2.1.v, p.2.2.2.2.2.v, (.int .i64 R.2.Rounds)].toArray)].toArray)) (fun p => [crd (RdS 58 rd58) p.1.v R.1.Facts, crd (RdS 3 rdInt) p.2.1.v R.1.Values, crd (RdS 54 rd54) p.2.2.1.v R.1.Log, crd (RdS 58 rd58) p.2.2.2.1.v R.2.Facts, crd (RdS 3 rdInt) p.2.2.2.2.1.v R.2.Values, crd (RdS 54 rd54) p.2.2.2.2.2.v R.2.Log]) := by
 refine Se 36 Tryz.func34 [.cell 2 46, .cell 3 46] ?_
 intro H0 F0
 unfold s_DrawEqualReached at hF
 refine au ?_
 refine AnW (fun k1 => ?_)
 refine AnW (fun k2 => ?_)
 iterate 3 refine au ?_
 refine bnd hF fun r3 hx4 hF => Cx2 (s_l1New_ok _ _ _ hx4) (fun p5 => ?_)
 iterate 4 refine au ?_
 refine bnd hF fun r6 hx7 hF => Cx5 (s_l8Draw_ok _ _ _ _ _ hx7) (fun p8 => ?_)
 refine au ?_
 refine C_val (V_extract (l := [p8.1.v, p8.2.2.1.v, p8.2.2.2.2.1.v, p8.2.2.2.2.2.2.1.v]) (v := p8.1.v) (.tmp rfl rfl) rfl) ?_
 refine C_val (V_extract (l := [p8.1.v, p8.2.2.1.v, p8.2.2.2.2.1.v, p8.2.2.2.2.2.2.1.v]) (v := p8.2.2.1.v) (.tmp rfl rfl) rfl) ?_
 refine C_val (V_extract (l := [p8.1.v, p8.2.2.1.v, p8.2.2.2.2.1.v, p8.2.2.2.2.2.2.1.v]) (v := p8.2.2.2.2.1.v) (.tmp rfl rfl) rfl) ?_
 refine C_val (V_extract (l := [p8.1.v, p8.2.2.1.v, p8.2.2.2.2.1.v, p8.2.2.2.2.2.2.1.v]) (v := p8.2.2.2.2.2.2.1.v) (.tmp rfl rfl) rfl) ?_
 iterate 5 refine au ?_
 refine K_frz .h frz_own ?_
 refine K_frz (.t .h) frz_own ?_
 refine K_frz (.t (.t .h)) frz_own ?_
 refine K_frz (.t (.t (.t .h))) frz_own ?_
 iterate 5 refine au ?_
 refine bnd hF fun r9 hx10 hF => Cx3 (s_ReachAll_ok _ _ _ _ _ _ _ _ _ hx10) (fun p11 => ?_)
 refine AnW (fun k12 => ?_)
 refine As (.agg [p11.1.v, p11.2.1.v, p11.2.2.v, (.int .i64 r9.Rounds)].toArray) ?_
 iterate 4 refine au ?_
 refine bnd hF fun r13 hx14 hF => Cx1 (s_l1Once_ok _ _ _ _ _ hx14) (fun p15 => ?_)
 refine au ?_
 refine Ci hF (fun hb25 hF => ?_) (fun hb25 hF => ?_)
 · refine K_draw [0, 1, 2, 3, 4] [0, 0, 2, 7, 15] [2, 3, 4] mixed (by decide +kernel) ?_
   iterate 2 refine D_atO rfl .no (.t .h) (fun ha hp => V_loadBox ag46.h ty46.h.sz rfl (EN ha (.tmp rfl rfl) rfl) hp.2 rfl) ?_
   refine bnd hF fun r16 hx17 hF => D_act3 rfl rfl .no (.rd (.t (.t .h)) rfl (.rd (.t (.t (.t .h))) rfl (.rd (.t (.t (.t (.t .h)))) rfl .nil))) (.dep rfl (.own (.t .h) (fun _ h => h) .nil)) (fun ha => X_callS cf80.h (.cons (EN ha (.tmp rfl rfl) rfl) .nil) (s_l8Copy_ok r9 p11.1 p11.2.1 p11.2.2 _ hx17)) (fun p18 => ?_)
   refine D_act1 rfl rfl .no (.cons (.t (.t (.t (.t (.t (.t (.t (.t (.t (.t (.t (.t (.t (.t .h)))))))))))))) .nil) (.dep rfl (.dep rfl .nil)) (fun ha => X_storeB (e' := (.agg [p11.1.v, p11.2.1.v, p11.2.2.v, (.int .i64 r9.Rounds)].toArray)) (v := (.agg [p11.1.v, p11.2.1.v, p11.2.2.v, (.int .i64 r9.Rounds)].toArray)) ty46.h.sz (EN ha (.tmp rfl rfl) rfl) (EN ha (.tmp rfl rfl) rfl) rfl rfl rfl rfl rfl) (fun _ => ?_)
   refine D_act1 rfl rfl .no (.cons (.t (.t (.t (.t (.t (.t (.t (.t (.t (.t (.t (.t (.t (.t .h)))))))))))))) .nil) (.dep rfl (.dep rfl .nil)) (fun ha => X_storeB (e' := (.agg [p18.1.v, p18.2.2.1.v, p18.2.2.2.2.1.v, (.int .i64 r16.Rounds)].toArray)) (v := (.agg [p18.1.v, p18.2.2.1.v, p18.2.2.2.2.1.v, (.int .i64 r16.Rounds)].toArray)) ty46.h.sz (EN ha (.tmp rfl rfl) rfl) (EN ha (.tmp rfl rfl) rfl) rfl rfl rfl rfl rfl) (fun _ => ?_)
   refine du ?_
   refine au ?_
   cases hF
   exact End_ret (p11.1, p11.2.1, p11.2.2, p18.1, p18.2.2.1, p18.2.2.2.2.1) (.cellA rfl rfl (.t .h) rfl ag46.h ty46.h.sz rfl rfl (.cellA rfl rfl .h rfl ag46.h ty46.h.sz rfl rfl .nil)) rfl (.frz (.t (.t .h)) frz_own (.frz (.t (.t (.t .h))) frz_own (.frz (.t (.t (.t (.t .h)))) frz_own (.sel (.rd (.t (.t (.t (.t (.t (.t (.t .h))))))) rfl (.rd (.t (.t (.t (.t (.t (.t (.t (.t .h)))))))) rfl (.rd (.t (.t (.t (.t (.t (.t (.t (.t (.t .h))))))))) rfl (.rd (.t (.t .h)) rfl (.rd (.t .h) rfl (.rd .h rfl .nil))))))))))
 refine au ?_
 refine K_draw [0, 1, 2, 3, 4, 5, 6, 7, 8] [0, 0, 0, 0, 0, 16, 62, 127, 255] [5, 6, 7, 8] mixed (by decide +kernel) ?_
 refine D_atO rfl .no (.t .h) (fun ha hp => V_loadBox ag46.h ty46.h.sz rfl (EN ha (.tmp rfl rfl) rfl) hp.2 rfl) ?_
 iterate 4 refine du ?_
 refine bnd hF fun r19 hx20 hF => D_act2 rfl rfl .no (.cons .h (.rd (.t (.t (.t (.t (.t (.t (.t (.t .h)))))))) rfl .nil)) (.own .h (fun _ h => h) .nil) (fun ha => XC_ent (post' := fun p21 : Sv × List Nat => [crd (RdS 3 rdInt) p21.1.v r19.1, cbox p5.1 116 (.agg [p5.2.v, (.int .i64 r19.2.i), (.int .i64 r19.2.h)].toArray)]) (fun p21 => (.frz .h frz_own entA)) (X_callS cf83.h (.cons (EN ha (.tmp rfl rfl) rfl) .nil) (s_l8Seeds_ok p5.1 ({ b := r3.b, i := r13.2.i, h := r13.2.h } : l1Cur) p5.2 _ hx20))) (fun p21 => ?_)
 refine bnd hF fun r22 hx23 hF => D_act3 rfl rfl .no (.rd (.t (.t (.t (.t (.t (.t (.t (.t (.t .h))))))))) rfl (.rd (.t (.t (.t (.t (.t (.t (.t (.t .h)))))))) rfl (.rd (.t (.t (.t (.t (.t (.t (.t .h))))))) rfl (.rd .h rfl .nil)))) (.own (.t (.t .h)) (fun _ h => h) .nil) (fun ha => X_callS cf21.h (.cons (EN ha (.tmp rfl rfl) rfl) (.cons (EN ha (.tmp rfl rfl) rfl) (.cons (EN ha (.tmp rfl rfl) rfl) (.cons (EN ha (.tmp rfl rfl) rfl) .nil)))) (s_ReachAll_ok r6.1 p8.1 r6.2.1 p8.2.2.1 r6.2.2.1 p8.2.2.2.2.1 r19.1 p21.1 _ hx23)) (fun p24 => ?_)
 refine D_act1 rfl rfl .no (.cons (.t (.t (.t (.t (.t (.t (.t (.t (.t (.t (.t (.t (.t (.t (.t .h))))))))))))))) .nil) (.dep rfl .nil) (fun ha => X_storeB (e' := (.agg [p11.1.v, p11.2.1.v, p11.2.2.v, (.int .i64 r9.Rounds)].toArray)) (v := (.agg [p11.1.v, p11.2.1.v, p11.2.2.v, (.int .i64 r9.Rounds)].toArray)) ty46.h.sz (EN ha (.tmp rfl rfl) rfl) (EN ha (.tmp rfl rfl) rfl) rfl rfl rfl rfl rfl) (fun _ => ?_)
 refine D_act1 rfl rfl .no (.cons (.t (.t (.t (.t (.t (.t (.t (.t (.t (.t (.t (.t (.t (.t (.t .h))))))))))))))) .nil) (.dep rfl .nil) (fun ha => X_storeB (e' := (.agg [p24.1.v, p24.2.1.v, p24.2.2.v, (.int .i64 r22.Rounds)].toArray)) (v := (.agg [p24.1.v, p24.2.1.v, p24.2.2.v, (.int .i64 r22.Rounds)].toArray)) ty46.h.sz (EN ha (.tmp rfl rfl) rfl) (EN ha (.tmp rfl rfl) rfl) rfl rfl rfl rfl rfl) (fun _ => ?_)
 refine du ?_
 refine au ?_
 cases hF
 exact End_ret (p11.1, p11.2.1, p11.2.2, p24.1, p24.2.1, p24.2.2) (.cellA rfl rfl (.t .h) rfl ag46.h ty46.h.sz rfl rfl (.cellA rfl rfl .h rfl ag46.h ty46.h.sz rfl rfl .nil)) rfl (.sel (.rd (.t (.t (.t (.t (.t (.t (.t (.t .h)))))))) rfl (.rd (.t (.t (.t (.t (.t (.t (.t (.t (.t .h))))))))) rfl (.rd (.t (.t (.t (.t (.t (.t (.t (.t (.t (.t .h)))))))))) rfl (.rd (.t (.t .h)) rfl (.rd (.t (.t (.t .h))) rfl (.rd (.t (.t (.t (.t .h)))) rfl .nil)))))))
def s_DrawIsReached_L1 (r2 : l1Cur) (r5 : (List Int) × (List Method) × (List Fact) × (List Int) × l1Cur) (r12 : Int × l1Cur) : Nat → (List Fact) → (List Int) → (List Access) → Int → Int → Option ((List Int) × (List Method) × (List Fact) × (List Int) × Reached)
 | 0, _, _, _, _, _ => none
 | m100 + 1, c90, c93, c96, c98, c99 => if (decide ((0 : Int) < c99)) then (
     (s_StepReach r5.1 r5.2.1 r5.2.2.1 ({ Facts := c90, Values := c93, Log := c96, Rounds := c98 } : Reached)).bind fun r108 =>
     s_DrawIsReached_L1 r2 r5 r12 m100 r108.1.Facts r108.1.Values r108.1.Log r108.1.Rounds (IntKind.i64.wrap (c99 - 1)))
   else (
     (s_l1Below ({ b := r2.b, i := r12.2.i, h := r12.2.h } : l1Cur) 5).bind fun r112 =>
     if ((r112.1 : Int) == 0) then (
       some (r5.1, r5.2.1, r5.2.2.1, r5.2.2.2.1, ({ Facts := c90, Values := c93, Log := c96, Rounds := (IntKind.i64.wrap (c98 + 1)) } : Reached)))
     else (
       if ((r112.1 : Int) == 1) then (
         (s_l2Copy r5.2.2.1).bind fun r115 =>
         some (r5.1, r5.2.1, r5.2.2.1, r5.2.2.2.1, ({ Facts := r115, Values := c93, Log := c96, Rounds := c98 } : Reached)))
       else (
         some (r5.1, r5.2.1, r5.2.2.1, r5.2.2.2.1, ({ Facts := c90, Values := c93, Log := c96, Rounds := c98 } : Reached)))))
def s_DrawIsReached (fuel : Nat) (a_code : List UInt8) : Option ((List Int) × (List Method) × (List Fact) × (List Int) × Reached) :=
 (s_l1New a_code).bind fun r2 =>
 (s_l8Draw fuel r2).bind fun r5 =>
 (s_StartReach r5.2.2.2.1).bind fun r8 =>
 (s_l1Below ({ b := r2.b, i := r5.2.2.2.2.i, h := r5.2.2.2.2.h } : l1Cur) 4).bind fun r12 =>
 s_DrawIsReached_L1 r2 r5 r12 ((r12.1 - 0).toNat + 2) r8.Facts r8.Values r8.Log r8.Rounds r12.1
theorem s_DrawIsReached_ok (fuel : Nat) (a_code : List UInt8) (v0_0 : Sv) (R : (List Int) × (List Method) × (List Fact) × (List Int) × Reached) (hF : s_DrawIsReached fuel a_code = some R) :
   Fw.Spec Tryz.prog 35 [v0_0.v] [crd (RdS 5 rdU8) v0_0.v a_code] (fun p : Sv × Sv × Sv × Sv × List Nat × Sv × List Nat × Sv × List Nat × Sv => (.tuple [p.1.v, p.2.1.v, p.2.2.1.v, p.2.2.2.1.v, (.agg [p.2.2.2.2.2.1.v, p.2.2.2.2.2.2.2.1.v, p.2.2.2.2.2.2.2.2.2.v, (.int .i64 R.2.2.2.2.Rounds)].toArray)].toArray)) (fun p => [crd (RdS 3 rdInt) p.1.v R.1, crd (RdS 97 rd97) p.2.1.v R.2.1, crd (RdS 58 rd58) p.2.2.1.v R.2.2.1, cown (OwnS 3 (roE rdInt)) p.2.2.2.2.1 p.2.2.2.1.v R.2.2.2.1, cown (OwnS 58 ow58) p.2.2.2.2.2.2.1 p.2.2.2.2.2.1.v R.2.2.2.2.Facts, cown (OwnS 3 (roE rdInt)) p.2.2.2.2.2.2.2.2.1 p.2.2.2.2.2.2.2.1.v R.2.2.2.2.Values, crd (RdS 54 rd54) p.2.2.2.2.2.2.2.2.2.v R.2.2.2.2.Log]) := by
 refine Spec_enter (n := 60) Tryz.func35 rfl rfl (rs := [.tmp 2, .tmp 3, .tmp 4, .tmp 5, .cell 6 46]) rfl rfl rfl ?_
 intro H0 F0
 unfold s_DrawIsReached at hF
 refine K_region ?_
 iterate 4 refine C_val (V_assign (v := (.slice none 0 0)) EV.nilSlice) ?_
 refine C_new rfl (N_allocT (g := true) ty46.h rfl rfl) (fun k1 => ?_)
 refine C_nil (K_region (Cm v0_0.v rfl rfl ?_))
 obtain ⟨r2, hx3, hF⟩ := bind_some hF
 refine C_x2 (.rd (.t .h) rfl .nil) (X_callS cf41.h (.cons (.tmp rfl rfl) .nil) (s_l1New_ok a_code v0_0 _ hx3)) (fun p4 => ?_)
 refine Ca (.pointer (some ⟨p4.1, 0, some 0⟩)) rfl rfl ?_
 refine C_nil (K_region (Cm (.pointer (some ⟨p4.1, 0, some 0⟩)) rfl rfl ?_))
 obtain ⟨r5, hx6, hF⟩ := bind_some hF
 refine C_x5 (.cons .h (.rd .h rfl .nil)) (X_callS cf63.h (.cons (.tmp rfl rfl) .nil) (s_l8Draw_ok fuel p4.1 r2 p4.2 _ hx6)) (fun p7 => ?_)
 refine Cm (.tuple [p7.1.v, p7.2.2.1.v, p7.2.2.2.2.1.v, p7.2.2.2.2.2.2.1.v].toArray) rfl rfl ?_
 refine C_val (V_extract (l := [p7.1.v, p7.2.2.1.v, p7.2.2.2.2.1.v, p7.2.2.2.2.2.2.1.v]) (v := p7.1.v) (.tmp rfl rfl) rfl) ?_
 refine C_val (V_extract (l := [p7.1.v, p7.2.2.1.v, p7.2.2.2.2.1.v, p7.2.2.2.2.2.2.1.v]) (v := p7.2.2.1.v) (.tmp rfl rfl) rfl) ?_
 refine C_val (V_extract (l := [p7.1.v, p7.2.2.1.v, p7.2.2.2.2.1.v, p7.2.2.2.2.2.2.1.v]) (v := p7.2.2.2.2.1.v) (.tmp rfl rfl) rfl) ?_
 refine C_val (V_extract (l := [p7.1.v, p7.2.2.1.v, p7.2.2.2.2.1.v, p7.2.2.2.2.2.2.1.v]) (v := p7.2.2.2.2.2.2.1.v) (.tmp rfl rfl) rfl) ?_
 refine Ca p7.1.v rfl rfl ?_
 refine Ca p7.2.2.1.v rfl rfl ?_
 refine Ca p7.2.2.2.2.1.v rfl rfl ?_
 refine Ca p7.2.2.2.2.2.2.1.v rfl rfl ?_
 refine C_nil (K_region (Cm p7.2.2.2.2.2.2.1.v rfl rfl ?_))
 obtain ⟨r8, hx9, hF⟩ := bind_some hF
 refine C_x4 (.cons (.t (.t (.t .h))) .nil) (XC_bor frz_own (fun _ => (.cons (.cons (.cons .nil)))) (X_callS cf39.h (.cons (.tmp rfl rfl) .nil) (s_StartReach_ok r5.2.2.2.1 p7.2.2.2.2.2.2.1 _ hx9))) (fun p10 => ?_)
 refine C_new rfl (N_allocT (g := true) ty46.h rfl rfl) (fun k11 => ?_)
 refine C_x1 (.cons .h .nil) (X_storeB (e' := (.agg [p10.1.v, p10.2.2.1.v, p10.2.2.2.2.1.v, (.int .i64 r8.Rounds)].toArray)) (v := (.agg [p10.1.v, p10.2.2.1.v, p10.2.2.2.2.1.v, (.int .i64 r8.Rounds)].toArray)) ty46.h.sz (.tmp rfl rfl) (.tmp rfl rfl) rfl rfl rfl rfl rfl) (fun _ => ?_)
 refine C_nil (K_in (K_region (Cm (.pointer (some ⟨p4.1, 0, some 0⟩)) rfl rfl ?_)))
 obtain ⟨r12, hx13, hF⟩ := bind_some hF
 refine C_x1 (.cons (.t (.t (.t (.t (.t (.t (.t (.t .h)))))))) (.rd (.t (.t (.t (.t (.t (.t (.t (.t .h)))))))) rfl .nil)) (X_callS cf75.h (.cons (.tmp rfl rfl) (.cons (.int _ _) .nil)) (s_l1Below_ok p4.1 ({ b := r2.b, i := r5.2.2.2.2.i, h := r5.2.2.2.2.h } : l1Cur) p4.2 4 _ hx13)) (fun p14 => ?_)
 refine Ca (.int .i64 r12.1) rfl rfl ?_
 refine C_nil (CW_block (K_frz (.t (.t (.t (.t (.t (.t .h)))))) frz_own ?_))
 refine K_frz (.t (.t (.t (.t (.t (.t (.t .h))))))) frz_own ?_
 refine K_frz (.t (.t (.t (.t (.t (.t (.t (.t .h)))))))) frz_own ?_
 refine CW_loop (m := ((r12.1 - 0).toNat + 2)) (fun m100 f' cs' => ∃ (g : Fr) (c90 : List Fact) (c93 : List Int) (c96 : List Access) (c98 : Int) (c99 : Int) (v91 : Sv) (F92 : List Nat) (v94 : Sv) (F95 : List Nat) (v97 : Sv), f' = updL g [(6, (.pointer (some ⟨k1, 0, some 0⟩))), (7, (.pointer (some ⟨p4.1, 0, some 0⟩))), (8, p7.1.v), (9, p7.2.2.1.v), (10, p7.2.2.2.2.1.v), (11, p7.2.2.2.2.2.2.1.v), (12, (.pointer (some ⟨k11, 0, some 0⟩))), (13, (.int .i64 c99))] ∧ Ent cs' [cbox k1 46 (.agg [(.slice none 0 0), (.slice none 0 0), (.slice none 0 0), (.int .i64 0)].toArray), cbox p4.1 116 (.agg [p4.2.v, (.int .i64 r12.2.i), (.int .i64 r12.2.h)].toArray), crd (RdS 5 rdU8) p4.2.v r2.b, crd (RdS 3 rdInt) p7.1.v r5.1, crd (RdS 97 rd97) p7.2.2.1.v r5.2.1, crd (RdS 58 rd58) p7.2.2.2.2.1.v r5.2.2.1, cown (OwnS 3 (roE rdInt)) p7.2.2.2.2.2.2.2 p7.2.2.2.2.2.2.1.v r5.2.2.2.1, cbox k11 46 (.agg [v91.v, v94.v, v97.v, (.int .i64 c98)].toArray), cown (OwnS 58 ow58) F92 v91.v c90, cown (OwnS 3 (roE rdInt)) F95 v94.v c93, crd (RdS 54 rd54) v97.v c96] ∧ s_DrawIsReached_L1 r2 r5 r12 m100 c90 c93 c96 c98 c99 = some R) ⟨_, _, _, _, _, _, p10.1, p10.2.1, p10.2.2.1, p10.2.2.2.1, p10.2.2.2.2.1, (EqL.cons rfl (EqL.cons rfl (EqL.cons rfl (EqL.cons rfl (EqL.cons rfl (EqL.cons rfl (EqL.cons rfl (EqL.cons rfl (EqL.nil))))))))).eq, (.frz (.t (.t (.t (.t (.t (.t (.t (.t .h)))))))) frz_own (.sel (.cons (.t (.t (.t (.t (.t (.t (.t (.t (.t (.t .h)))))))))) (.cons (.t (.t (.t (.t .h)))) (.rd (.t (.t (.t (.t (.t (.t (.t (.t .h)))))))) rfl (.rd (.t (.t (.t .h))) rfl (.rd (.t (.t .h)) rfl (.rd (.t .h) rfl (.cons (.t (.t (.t (.t (.t .h))))) (.cons (.t (.t (.t (.t .h)))) (.cons (.t (.t (.t (.t .h)))) (.cons (.t (.t (.t (.t .h)))) (.rd .h rfl .nil))))))))))))), hF⟩ ?_
 clear hF
 rintro m100 _ _ ⟨g101, c90, c93, c96, c98, c99, v91, F92, v94, F95, v97, rfl, hE, hF⟩
 refine K_ent hE ?_
 clear hE
 rcases m100 with _ | m100
 · rw [s_DrawIsReached_L1] at hF
   exact absurd hF (by simp)
 rw [s_DrawIsReached_L1] at hF
 refine K_in (K_region (Cm (.int .i64 c99) rfl rfl ?_))
 refine C_val (V_gtr (i := c99) (j := 0) (.tmp rfl rfl) (.int _ _)) ?_
 refine C_nil (CW_cond (b := (decide ((0 : Int) < c99))) (.tmp rfl rfl) (fun hb120 => ?_) (fun hb120 => ?_))
 · rw [if_pos hb120] at hF
   refine CW_skip (K_block (K_frz (.t (.t (.t (.t (.t (.t (.t (.t .h)))))))) frz_own ?_))
   refine K_frz (.t (.t (.t (.t (.t (.t (.t (.t (.t .h))))))))) frz_own ?_
   refine K_region (Cm p7.1.v rfl rfl ?_)
   refine Cm p7.2.2.1.v rfl rfl ?_
   refine Cm p7.2.2.2.2.1.v rfl rfl ?_
   refine C_at (.t (.t (.t (.t (.t (.t (.t (.t (.t .h))))))))) (fun hp => V_loadBox ag46.h ty46.h.sz rfl (.tmp rfl rfl) hp.2 rfl) ?_
   obtain ⟨r108, hx109, hF⟩ := bind_some hF
   refine C_x3 (.rd (.t (.t (.t (.t (.t .h))))) rfl (.rd (.t (.t (.t (.t (.t (.t .h)))))) rfl (.rd (.t (.t (.t (.t (.t (.t (.t .h))))))) rfl (.rd (.t .h) rfl (.rd .h rfl (.rd (.t (.t (.t (.t (.t (.t (.t (.t (.t (.t .h)))))))))) rfl .nil)))))) (X_callS cf33.h (.cons (.tmp rfl rfl) (.cons (.tmp rfl rfl) (.cons (.tmp rfl rfl) (.cons (.tmp rfl rfl) .nil)))) (s_StepReach_ok r5.1 p7.1 r5.2.1 p7.2.2.1 r5.2.2.1 p7.2.2.2.2.1 ({ Facts := c90, Values := c93, Log := c96, Rounds := c98 } : Reached) v91 v94 v97 _ hx109)) (fun p110 => ?_)
   refine Cm (.tuple [(.agg [p110.1.v, p110.2.2.1.v, p110.2.2.2.2.v, (.int .i64 r108.1.Rounds)].toArray), (.bool r108.2)].toArray) rfl rfl ?_
   refine C_val (V_extract (l := [(.agg [p110.1.v, p110.2.2.1.v, p110.2.2.2.2.v, (.int .i64 r108.1.Rounds)].toArray), (.bool r108.2)]) (v := (.agg [p110.1.v, p110.2.2.1.v, p110.2.2.2.2.v, (.int .i64 r108.1.Rounds)].toArray)) (.tmp rfl rfl) rfl) ?_
   refine C_val (V_extract (l := [(.agg [p110.1.v, p110.2.2.1.v, p110.2.2.2.2.v, (.int .i64 r108.1.Rounds)].toArray), (.bool r108.2)]) (v := (.bool r108.2)) (.tmp rfl rfl) rfl) ?_
   refine C_new rfl (N_allocT (g := true) ty46.h rfl rfl) (fun k111 => ?_)
   refine C_x1 (.cons .h .nil) (X_storeB (e' := (.agg [p110.1.v, p110.2.2.1.v, p110.2.2.2.2.v, (.int .i64 r108.1.Rounds)].toArray)) (v := (.agg [p110.1.v, p110.2.2.1.v, p110.2.2.2.2.v, (.int .i64 r108.1.Rounds)].toArray)) ty46.h.sz (.tmp rfl rfl) (.tmp rfl rfl) rfl rfl rfl rfl rfl) (fun _ => ?_)
   refine Ca (.bool r108.2) rfl rfl ?_
   refine C_nil (CW_region (C_at .h (fun hp => V_loadBox ag46.h ty46.h.sz rfl (.tmp rfl rfl) hp.2 rfl) ?_))
   refine C_x1 (.cons (.t (.t (.t (.t (.t (.t (.t (.t (.t (.t (.t (.t (.t .h))))))))))))) .nil) (X_storeB (e' := (.agg [p110.1.v, p110.2.2.1.v, p110.2.2.2.2.v, (.int .i64 r108.1.Rounds)].toArray)) (v := (.agg [p110.1.v, p110.2.2.1.v, p110.2.2.2.2.v, (.int .i64 r108.1.Rounds)].toArray)) ty46.h.sz (.tmp rfl rfl) (.tmp rfl rfl) rfl rfl rfl rfl rfl) (fun _ => ?_)
   refine C_nil (CW_region (Cm (.int .i64 c99) rfl rfl ?_))
   refine C_val (V_sub (i := c99) (j := 1) (.tmp rfl rfl) (.int _ _)) ?_
   refine Ca (.int .i64 (IntKind.i64.wrap (c99 - 1))) rfl rfl ?_
   refine C_nil ?_
   exact ⟨m100, Nat.lt_succ_self _, _, _, _, _, _, _, p110.1, p110.2.1, p110.2.2.1, p110.2.2.2.1, p110.2.2.2.2, (EqL.cons rfl (EqL.cons rfl (EqL.cons rfl (EqL.cons rfl (EqL.cons rfl (EqL.cons rfl (EqL.cons rfl (EqL.cons rfl (EqL.nil))))))))).eq, (.sel (.cons (.t (.t (.t (.t (.t (.t (.t .h))))))) (.cons (.t (.t (.t (.t (.t (.t (.t .h))))))) (.rd (.t (.t (.t (.t (.t (.t (.t .h))))))) rfl (.rd (.t (.t (.t (.t (.t (.t (.t (.t .h)))))))) rfl (.rd (.t (.t (.t (.t (.t (.t (.t (.t (.t .h))))))))) rfl (.rd (.t (.t (.t (.t (.t (.t (.t (.t (.t (.t .h)))))))))) rfl (.cons (.t (.t (.t (.t (.t (.t (.t (.t (.t (.t (.t .h))))))))))) (.cons .h (.cons (.t .h) (.cons (.t .h) (.rd (.t .h) rfl .nil)))))))))))), hF⟩
 rw [if_neg (by rw [hb120]; exact Bool.false_ne_true)] at hF
 refine CW_exit ?_
 iterate 2 refine CThen_exit ?_
 refine CIn_self (K_in (K_region (Cm (.pointer (some ⟨p4.1, 0, some 0⟩)) rfl rfl ?_)))
 obtain ⟨r112, hx113, hF⟩ := bind_some hF
 refine C_x1 (.cons (.t .h) (.rd (.t .h) rfl .nil)) (X_callS cf75.h (.cons (.tmp rfl rfl) (.cons (.int _ _) .nil)) (s_l1Below_ok p4.1 ({ b := r2.b, i := r12.2.i, h := r12.2.h } : l1Cur) p4.2 5 _ hx113)) (fun p114 => ?_)
 refine C_nil (CW_block (K_region (C_val (V_eql (i := r112.1) (j := 0) (.tmp rfl rfl) (.int _ _)) ?_)))
 refine Ca (.bool ((r112.1 : Int) == 0)) rfl rfl ?_
 refine C_nil (CW_cond (b := ((r112.1 : Int) == 0)) (.tmp rfl rfl) (fun hb119 => ?_) (fun hb119 => ?_))
 · rw [if_pos hb119] at hF
   refine CW_region (C_val (V_fieldAddr (off := 3) fd46_3.h (.tmp rfl rfl)) ?_)
   refine C_at (.t (.t (.t (.t (.t (.t (.t .h))))))) (fun hp => V_load (v := (.int .i64 c98)) ag3.h (.tmp rfl rfl) hp.2 rfl rfl) ?_
   refine C_val (V_add (i := c98) (j := 1) (.tmp rfl rfl) (.int _ _)) ?_
   refine C_val (V_fieldAddr (off := 3) fd46_3.h (.tmp rfl rfl)) ?_
   refine C_x1 (.cons (.t (.t (.t (.t (.t (.t (.t .h))))))) .nil) (X_storeB (e' := (.agg [v91.v, v94.v, v97.v, (.int .i64 (IntKind.i64.wrap (c98 + 1)))].toArray)) (v := (.int .i64 (IntKind.i64.wrap (c98 + 1)))) ty3.h.sz (.tmp rfl rfl) (.tmp rfl rfl) rfl rfl rfl rfl rfl) (fun _ => ?_)
   refine C_nil (K_draw [0, 1, 2, 3, 4, 5, 6, 7, 8, 9] [0, 0, 0, 0, 0, 1, 35, 103, 239, 511] [9] mixed (by decide +kernel) ?_)
   refine Dm p7.1.v rfl rfl rfl rfl ?_
   refine Dm p7.2.2.1.v rfl rfl rfl rfl ?_
   refine Dm p7.2.2.2.2.1.v rfl rfl rfl rfl ?_
   refine Dm p7.2.2.2.2.2.2.1.v rfl rfl rfl rfl ?_
   refine D_atO rfl .no .h (fun ha hp => V_loadBox ag46.h ty46.h.sz rfl (EN ha (.tmp rfl rfl) rfl) hp.2 rfl) ?_
   refine Da p7.1.v rfl rfl rfl rfl ?_
   refine Da p7.2.2.1.v rfl rfl rfl rfl ?_
   refine Da p7.2.2.2.2.1.v rfl rfl rfl rfl ?_
   refine Da p7.2.2.2.2.2.2.1.v rfl rfl rfl rfl ?_
   refine D_act1 rfl rfl .no (.cons (.t (.t .h)) .nil) (.dep rfl .nil) (fun ha => X_storeB (e' := (.agg [v91.v, v94.v, v97.v, (.int .i64 (IntKind.i64.wrap (c98 + 1)))].toArray)) (v := (.agg [v91.v, v94.v, v97.v, (.int .i64 (IntKind.i64.wrap (c98 + 1)))].toArray)) ty46.h.sz (EN ha (.tmp rfl rfl) rfl) (EN ha (.tmp rfl rfl) rfl) rfl rfl rfl rfl rfl) (fun _ => ?_)
   refine D_nil (CW_ret ?_)
   obtain rfl := Option.some.inj hF
   exact End_ret (p7.1, p7.2.2.1, p7.2.2.2.2.1, p7.2.2.2.2.2.2.1, p7.2.2.2.2.2.2.2, v91, F92, v94, F95, v97) (.tmp rfl rfl (.tmp rfl rfl (.tmp rfl rfl (.tmp rfl rfl (.cellA rfl rfl .h rfl ag46.h ty46.h.sz rfl rfl .nil))))) rfl (.sel (.rd (.t (.t (.t (.t .h)))) rfl (.rd (.t (.t (.t (.t (.t .h))))) rfl (.rd (.t (.t (.t (.t (.t (.t .h)))))) rfl (.cons (.t (.t (.t (.t (.t (.t (.t .h))))))) (.cons (.t (.t (.t (.t (.t (.t (.t .h))))))) (.cons (.t (.t (.t (.t (.t (.t (.t .h))))))) (.rd (.t (.t (.t (.t (.t (.t (.t .h))))))) rfl .nil))))))))
 rw [if_neg (by rw [hb119]; exact Bool.false_ne_true)] at hF
 refine K_region (C_val (V_eql (i := r112.1) (j := 1) (.tmp rfl rfl) (.int _ _)) ?_)
 refine Ca (.bool ((r112.1 : Int) == 1)) rfl rfl ?_
 refine C_nil (CW_cond (b := ((r112.1 : Int) == 1)) (.tmp rfl rfl) (fun hb118 => ?_) (fun hb118 => ?_))
 · rw [if_pos hb118] at hF
   refine CW_region (Cm p7.2.2.2.2.1.v rfl rfl ?_)
   obtain ⟨r115, hx116, hF⟩ := bind_some hF
   refine C_x1 (.rd (.t (.t (.t (.t (.t .h))))) rfl .nil) (X_callS cf84.h (.cons (.tmp rfl rfl) .nil) (s_l2Copy_ok r5.2.2.1 p7.2.2.2.2.1 _ hx116)) (fun p117 => ?_)
   refine C_val (V_fieldAddr (off := 0) fd46_0.h (.tmp rfl rfl)) ?_
   refine C_x1 (.cons (.t (.t (.t (.t (.t (.t (.t (.t .h)))))))) .nil) (X_storeB (e' := (.agg [p117.1.v, v94.v, v97.v, (.int .i64 c98)].toArray)) ty28.h.sz (.tmp rfl rfl) (.tmp rfl rfl) rfl rfl rfl rfl rfl) (fun _ => ?_)
   refine C_nil (K_draw [0, 1, 2, 3, 4, 5, 6, 7, 8, 9] [0, 0, 0, 0, 0, 1, 35, 103, 239, 511] [9] mixed (by decide +kernel) ?_)
   refine Dm p7.1.v rfl rfl rfl rfl ?_
   refine Dm p7.2.2.1.v rfl rfl rfl rfl ?_
   refine Dm p7.2.2.2.2.1.v rfl rfl rfl rfl ?_
   refine Dm p7.2.2.2.2.2.2.1.v rfl rfl rfl rfl ?_
   refine D_atO rfl .no .h (fun ha hp => V_loadBox ag46.h ty46.h.sz rfl (EN ha (.tmp rfl rfl) rfl) hp.2 rfl) ?_
   refine Da p7.1.v rfl rfl rfl rfl ?_
   refine Da p7.2.2.1.v rfl rfl rfl rfl ?_
   refine Da p7.2.2.2.2.1.v rfl rfl rfl rfl ?_
   refine Da p7.2.2.2.2.2.2.1.v rfl rfl rfl rfl ?_
   refine D_act1 rfl rfl .no (.cons (.t (.t (.t .h))) .nil) (.dep rfl .nil) (fun ha => X_storeB (e' := (.agg [p117.1.v, v94.v, v97.v, (.int .i64 c98)].toArray)) (v := (.agg [p117.1.v, v94.v, v97.v, (.int .i64 c98)].toArray)) ty46.h.sz (EN ha (.tmp rfl rfl) rfl) (EN ha (.tmp rfl rfl) rfl) rfl rfl rfl rfl rfl) (fun _ => ?_)
   refine D_nil (CW_ret ?_)
   obtain rfl := Option.some.inj hF
   exact End_ret (p7.1, p7.2.2.1, p7.2.2.2.2.1, p7.2.2.2.2.2.2.1, p7.2.2.2.2.2.2.2, p117.1, p117.2, v94, F95, v97) (.tmp rfl rfl (.tmp rfl rfl (.tmp rfl rfl (.tmp rfl rfl (.cellA rfl rfl .h rfl ag46.h ty46.h.sz rfl rfl .nil))))) rfl (.sel (.rd (.t (.t (.t (.t (.t .h))))) rfl (.rd (.t (.t (.t (.t (.t (.t .h)))))) rfl (.rd (.t (.t (.t (.t (.t (.t (.t .h))))))) rfl (.cons (.t (.t (.t (.t (.t (.t (.t (.t .h)))))))) (.cons (.t (.t .h)) (.cons (.t (.t (.t (.t (.t (.t (.t (.t .h)))))))) (.rd (.t (.t (.t (.t (.t (.t (.t (.t .h)))))))) rfl .nil))))))))
 rw [if_neg (by rw [hb118]; exact Bool.false_ne_true)] at hF
 refine CW_skip (K_draw [0, 1, 2, 3, 4, 5, 6, 7, 8, 9] [0, 0, 0, 0, 0, 1, 35, 103, 239, 511] [9] mixed (by decide +kernel) ?_)
 refine Dm p7.1.v rfl rfl rfl rfl ?_
 refine Dm p7.2.2.1.v rfl rfl rfl rfl ?_
 refine Dm p7.2.2.2.2.1.v rfl rfl rfl rfl ?_
 refine Dm p7.2.2.2.2.2.2.1.v rfl rfl rfl rfl ?_
 refine D_atO rfl .no (.t (.t (.t (.t (.t (.t (.t .h))))))) (fun ha hp => V_loadBox ag46.h ty46.h.sz rfl (EN ha (.tmp rfl rfl) rfl) hp.2 rfl) ?_
 refine Da p7.1.v rfl rfl rfl rfl ?_
 refine Da p7.2.2.1.v rfl rfl rfl rfl ?_
 refine Da p7.2.2.2.2.1.v rfl rfl rfl rfl ?_
 refine Da p7.2.2.2.2.2.2.1.v rfl rfl rfl rfl ?_
 refine D_act1 rfl rfl .no (.cons (.t .h) .nil) (.dep rfl .nil) (fun ha => X_storeB (e' := (.agg [v91.v, v94.v, v97.v, (.int .i64 c98)].toArray)) (v := (.agg [v91.v, v94.v, v97.v, (.int .i64 c98)].toArray)) ty46.h.sz (EN ha (.tmp rfl rfl) rfl) (EN ha (.tmp rfl rfl) rfl) rfl rfl rfl rfl rfl) (fun _ => ?_)
 refine D_nil (CW_ret ?_)
 obtain rfl := Option.some.inj hF
 exact End_ret (p7.1, p7.2.2.1, p7.2.2.2.2.1, p7.2.2.2.2.2.2.1, p7.2.2.2.2.2.2.2, v91, F92, v94, F95, v97) (.tmp rfl rfl (.tmp rfl rfl (.tmp rfl rfl (.tmp rfl rfl (.cellA rfl rfl .h rfl ag46.h ty46.h.sz rfl rfl .nil))))) rfl (.sel (.rd (.t (.t (.t .h))) rfl (.rd (.t (.t (.t (.t .h)))) rfl (.rd (.t (.t (.t (.t (.t .h))))) rfl (.cons (.t (.t (.t (.t (.t (.t .h)))))) (.cons (.t (.t (.t (.t (.t (.t (.t .h))))))) (.cons (.t (.t (.t (.t (.t (.t (.t .h))))))) (.rd (.t (.t (.t (.t (.t (.t (.t .h))))))) rfl .nil))))))))
def s_IsReached_L1 (a_s : List Int) (a_l : List Method) (a_facts : List Fact) (a_r : Reached) : Nat → (List Fact) → (List Int) → (List Access) → Int → Int → Option (Bool)
 | 0, _, _, _, _, _ => none
 | m80 + 1, c70, c73, c76, c78, c79 => if (decide ((c79 : Int) < 41)) then (
     (s_EqualReached ({ Facts := c70, Values := c73, Log := c76, Rounds := c78 } : Reached) a_r).bind fun r88 =>
     if r88 then (
       ((s_AreMethods a_s a_l).bind fun r93 =>
         bif r93 then ((s_AreFacts a_s a_facts).bind fun r97 =>
           some r97)
         else (some false)).bind fun o91 =>
       match o91 with
       | c100 => some c100)
     else (
       (s_StepReach a_s a_l a_facts ({ Facts := c70, Values := c73, Log := c76, Rounds := c78 } : Reached)).bind fun r102 =>
       if (!r102.2) then (
         some false)
       else (
         s_IsReached_L1 a_s a_l a_facts a_r m80 r102.1.Facts r102.1.Values r102.1.Log r102.1.Rounds (IntKind.i64.wrap (c79 + 1)))))
   else (
     some false)
def s_IsReached (a_s : List Int) (a_l : List Method) (a_facts : List Fact) (a_seeds : List Int) (a_r : Reached) : Option (Bool) :=
 (s_StartReach a_seeds).bind fun r2 =>
 s_IsReached_L1 a_s a_l a_facts a_r (((41 : Int) - 0).toNat + 2) r2.Facts r2.Values r2.Log r2.Rounds 0
theorem s_IsReached_ok (a_s : List Int) (v0_0 : Sv) (a_l : List Method) (v1_0 : Sv) (a_facts : List Fact) (v2_0 : Sv) (a_seeds : List Int) (v3_0 : Sv) (a_r : Reached) (v4_0 : Sv) (v4_1 : Sv) (v4_2 : Sv) (R : Bool) (hF : s_IsReached a_s a_l a_facts a_seeds a_r = some R) :
   Fw.Spec Tryz.prog 37 [v0_0.v, v1_0.v, v2_0.v, v3_0.v, (.agg [v4_0.v, v4_1.v, v4_2.v, (.int .i64 a_r.Rounds)].toArray)] [crd (RdS 3 rdInt) v0_0.v a_s, crd (RdS 97 rd97) v1_0.v a_l, crd (RdS 58 rd58) v2_0.v a_facts, crd (RdS 3 rdInt) v3_0.v a_seeds, crd (RdS 58 rd58) v4_0.v a_r.Facts, crd (RdS 3 rdInt) v4_1.v a_r.Values, crd (RdS 54 rd54) v4_2.v a_r.Log] (fun _ : Unit => (.bool R)) (fun _ => []) := by
 refine Se 43 Tryz.func37 [.tmp 10] ?_
 intro H0 F0
 unfold s_IsReached at hF
 refine au ?_
 refine AbR (fun k1 => ?_)
 iterate 4 refine au ?_
 refine bnd hF fun r2 hx3 hF => Cx3 (s_StartReach_ok _ _ _ hx3) (fun p4 => ?_)
 refine AnW (fun k5 => ?_)
 refine As (.agg [p4.1.v, p4.2.2.1.v, p4.2.2.2.2.1.v, (.int .i64 r2.Rounds)].toArray) ?_
 iterate 5 refine au ?_
 refine CW_block (CW_loop (m := (((41 : Int) - 0).toNat + 2)) (fun m80 f' cs' => ∃ (g : Fr) (c70 : List Fact) (c73 : List Int) (c76 : List Access) (c78 : Int) (c79 : Int) (v71 : Sv) (F72 : List Nat) (v74 : Sv) (F75 : List Nat) (v77 : Sv), f' = updL g [(0, v0_0.v), (1, v1_0.v), (2, v2_0.v), (9, (pz k1)), (11, (pz k5)), (12, (.int .i64 c79))] ∧ Ent cs' [crd (RdS 3 rdInt) v0_0.v a_s, crd (RdS 97 rd97) v1_0.v a_l, crd (RdS 58 rd58) v2_0.v a_facts, cboR k1 46 (.agg [v4_0.v, v4_1.v, v4_2.v, (.int .i64 a_r.Rounds)].toArray), crd (RdS 58 rd58) v4_0.v a_r.Facts, crd (RdS 3 rdInt) v4_1.v a_r.Values, crd (RdS 54 rd54) v4_2.v a_r.Log, cbox k5 46 (.agg [v71.v, v74.v, v77.v, (.int .i64 c78)].toArray), cown (OwnS 58 ow58) F72 v71.v c70, cown (OwnS 3 (roE rdInt)) F75 v74.v c73, crd (RdS 54 rd54) v77.v c76] ∧ s_IsReached_L1 a_s a_l a_facts a_r m80 c70 c73 c76 c78 c79 = some R) ⟨_, _, _, _, _, _, p4.1, p4.2.1, p4.2.2.1, p4.2.2.2.1, p4.2.2.2.2.1, eqA, (.frz (.t (.t (.t .h))) frz_own entA), hF⟩ ?_)
 rintro m80 _ _ ⟨g81, c70, c73, c76, c78, c79, v71, F72, v74, F75, v77, rfl, hE, hF⟩
 refine K_ent hE ?_
 rcases m80 with _ | m80
 · rw [s_IsReached_L1] at hF
   exact absurd hF (by simp)
 rw [s_IsReached_L1] at hF
 iterate 5 refine au ?_
 refine Ci hF (fun hb108 hF => ?_) (fun hb108 hF => ?_)
 · iterate 6 refine au ?_
   refine bnd hF fun r88 hx89 hF => C_x2 (.cons (.t (.t (.t (.t (.t (.t (.t (.t (.t .h))))))))) (.cons (.t (.t (.t (.t (.t (.t (.t (.t .h)))))))) (.rd (.t (.t (.t (.t (.t (.t (.t (.t .h)))))))) rfl (.rd (.t (.t (.t (.t .h)))) rfl (.rd (.t (.t (.t (.t (.t .h))))) rfl (.rd (.t (.t (.t (.t (.t (.t .h)))))) rfl .nil)))))) (XC_borL (pre := _) (.cons frz_own (.cons frz_own .nil)) (fun _ => .nil) (X_callS cf22.h (.cons (.tmp rfl rfl) (.cons (.tmp rfl rfl) .nil)) (s_EqualReached_ok ({ Facts := c70, Values := c73, Log := c76, Rounds := c78 } : Reached) v71 v74 v77 a_r v4_0 v4_1 v4_2 _ hx89))) (fun _ => ?_)
   refine au ?_
   refine Ci hF (fun hb107 hF => ?_) (fun hb107 hF => ?_)
   · obtain ⟨o91, hio91, hO92⟩ := bind_some hF
     refine au ?_
     refine C_cut (fun f' cs' => ∃ (c100 : Bool) (g : Fr), c100 = o91 ∧ f' = updL g [(10, (.bool c100))] ∧ Ent cs' []) ?_ ?_
     · replace hF := hio91
       iterate 2 refine au ?_
       refine bnd hF fun r93 hx94 hF => Cx0 (s_AreMethods_ok _ _ _ _ _ hx94) (fun _ => ?_)
       refine au ?_
       rcases Bool.eq_false_or_eq_true r93 with hg96 | hg96
       · rw [hg96]
         try rw [hg96] at hF; dsimp only [cond_true, cond_false] at hF
         iterate 5 refine au ?_
         refine bnd hF fun r97 hx98 hF => Cx0 (s_AreFacts_ok _ _ _ _ _ hx98) (fun _ => ?_)
         iterate 3 refine au ?_
         cases hF
         exact ⟨_, _, rfl, eqA, entA⟩
       rw [hg96]
       try rw [hg96] at hF; dsimp only [cond_true, cond_false] at hF
       iterate 6 refine au ?_
       cases hF
       exact ⟨_, _, rfl, eqA, entA⟩
     rintro _ _ ⟨c100, g101, rfl, rfl, hE⟩
     replace hF := hO92
     try dsimp only at hF
     refine K_ent hE ?_
     refine au ?_
     cases hF
     exact Er ()
   refine au ?_
   iterate 2 refine K_frz (.t .h) frz_own ?_
   iterate 5 refine au ?_
   refine bnd hF fun r102 hx103 hF => Cx3 (s_StepReach_ok _ _ _ _ _ _ _ _ _ _ _ hx103) (fun p104 => ?_)
   refine au ?_
   refine C_val (V_extract (l := [(.agg [p104.1.v, p104.2.2.1.v, p104.2.2.2.2.v, (.int .i64 r102.1.Rounds)].toArray), (.bool r102.2)]) (v := (.agg [p104.1.v, p104.2.2.1.v, p104.2.2.2.2.v, (.int .i64 r102.1.Rounds)].toArray)) (.tmp rfl rfl) rfl) ?_
   refine C_val (V_extract (l := [(.agg [p104.1.v, p104.2.2.1.v, p104.2.2.2.2.v, (.int .i64 r102.1.Rounds)].toArray), (.bool r102.2)]) (v := (.bool r102.2)) (.tmp rfl rfl) rfl) ?_
   refine AnW (fun k105 => ?_)
   refine As (.agg [p104.1.v, p104.2.2.1.v, p104.2.2.2.2.v, (.int .i64 r102.1.Rounds)].toArray) ?_
   iterate 7 refine au ?_
   refine Ci hF (fun hb106 hF => ?_) (fun hb106 hF => ?_)
   · iterate 4 refine au ?_
     cases hF
     exact Er ()
   iterate 3 refine au ?_
   refine As (.agg [p104.1.v, p104.2.2.1.v, p104.2.2.2.2.v, (.int .i64 r102.1.Rounds)].toArray) ?_
   iterate 6 refine au ?_
   exact ⟨m80, Nat.lt_succ_self _, _, _, _, _, _, _, p104.1, p104.2.1, p104.2.2.1, p104.2.2.2.1, p104.2.2.2.2, eqA, entA, hF⟩
 iterate 8 refine au ?_
 cases hF
 exact Er ()
def i_WhyReached_L1 (a_l : List Method) (a_facts : List Fact) (a_f : Fact) : List Access → Nat → Option (Access × Bool)
 | [], k42 => some (({ Method := 0, Values := [] } : Access), false)
 | x44 :: rest43, k42 => (i_matches a_l a_facts x44).bind fun r55 =>
   (i_HasFact r55 a_f).bind fun r58 =>
   if r58 then (
     some (x44, true))
   else (
     i_WhyReached_L1 a_l a_facts a_f rest43 (k42 + 1))
def i_WhyReached (a_s : List Int) (a_l : List Method) (a_facts : List Fact) (a_seeds : List Int) (a_f : Fact) : Option (Access × Bool) :=
 ((i_AreMethods a_s a_l).bind fun r5 =>
   bif (!r5) then (some true)
   else ((i_AreFacts a_s a_facts).bind fun r9 =>
     some (!r9))).bind fun o3 =>
 match o3 with
 | c12 => if c12 then (
     some (({ Method := 0, Values := [] } : Access), false))
   else (
     (i_reach a_l a_facts a_seeds).bind fun r13 =>
     i_WhyReached_L1 a_l a_facts a_f r13.Log 0)
theorem i_WhyReached_ok (a_s : List Int) (v0_0 : Sv) (a_l : List Method) (v1_0 : Sv) (a_facts : List Fact) (v2_0 : Sv) (a_seeds : List Int) (v3_0 : Sv) (a_f : Fact) (v4_1 : Sv) (R : Access × Bool) (hF : i_WhyReached a_s a_l a_facts a_seeds a_f = some R) :
   Fw.Spec Tryz.prog 28 [v0_0.v, v1_0.v, v2_0.v, v3_0.v, (.agg [(.int .i64 a_f.Rel), v4_1.v].toArray)] [crd (RdS 3 rdInt) v0_0.v a_s, crd (RdS 97 rd97) v1_0.v a_l, crd (RdS 58 rd58) v2_0.v a_facts, crd (RdS 3 rdInt) v3_0.v a_seeds, crd (RdS 3 rdInt) v4_1.v a_f.Values] (fun p : Sv => (.tuple [(.agg [(.int .i64 R.1.Method), p.v].toArray), (.bool R.2)].toArray)) (fun p => [crd (RdS 3 rdInt) p.v R.1.Values]) := by
 refine Se 44 Tryz.func28 [.cell 10 54, .tmp 11] ?_
 intro H0 F0
 unfold i_WhyReached at hF
 refine au ?_
 refine AbR (fun k1 => ?_)
 refine AnW (fun k2 => ?_)
 iterate 3 refine au ?_
 obtain ⟨o3, hio3, hO4⟩ := bind_some hF
 refine au ?_
 refine C_cut (fun f' cs' => ∃ (c12 : Bool) (g : Fr), c12 = o3 ∧ f' = updL g [(1, v1_0.v), (2, v2_0.v), (3, v3_0.v), (9, (pz k1)), (10, (pz k2)), (23, (.bool c12))] ∧ Ent cs' [crd (RdS 97 rd97) v1_0.v a_l, crd (RdS 58 rd58) v2_0.v a_facts, crd (RdS 3 rdInt) v3_0.v a_seeds, cboR k1 58 (.agg [(.int .i64 a_f.Rel), v4_1.v].toArray), crd (RdS 3 rdInt) v4_1.v a_f.Values, cbox k2 54 (.agg [(.int .i64 0), (.slice none 0 0)].toArray)]) ?_ ?_
 · replace hF := hio3
   iterate 2 refine au ?_
   refine bnd hF fun r5 hx6 hF => Cx0 (i_AreMethods_ok _ _ _ _ _ hx6) (fun _ => ?_)
   iterate 2 refine au ?_
   rcases Bool.eq_false_or_eq_true (!r5) with hg8 | hg8
   · rw [hg8]
     try rw [hg8] at hF; dsimp only [cond_true, cond_false] at hF
     iterate 6 refine au ?_
     cases hF
     exact ⟨_, _, rfl, eqA, entA⟩
   rw [hg8]
   try rw [hg8] at hF; dsimp only [cond_true, cond_false] at hF
   iterate 5 refine au ?_
   refine bnd hF fun r9 hx10 hF => Cx0 (i_AreFacts_ok _ _ _ _ _ hx10) (fun _ => ?_)
   iterate 4 refine au ?_
   cases hF
   exact ⟨_, _, rfl, eqA, entA⟩
 rintro _ _ ⟨c12, g64, rfl, rfl, hE⟩
 replace hF := hO4
 try dsimp only at hF
 refine K_ent hE ?_
 refine Ci hF (fun hb63 hF => ?_) (fun hb63 hF => ?_)
 · refine au ?_
   refine C_val (V_build ty54.h rfl (vs := []) .nil (cells := [(.int .i64 0), (.slice none 0 0)]) rfl) ?_
   refine As (.agg [(.int .i64 0), (.slice none 0 0)].toArray) ?_
   iterate 3 refine au ?_
   cases hF
   exact End_ret (⟨none, 0, 0⟩) (.cellA rfl rfl .h rfl ag54.h ty54.h.sz rfl rfl (.tmp rfl rfl .nil)) rfl (.conv .nil (rd_nil (R := rdInt) (E := 3)) (.cons .nil) (.sel (.rd .h rfl .nil)))
 iterate 6 refine au ?_
 refine bnd hF fun r13 hx14 hF => Cx3 (i_reach_ok _ _ _ _ _ _ _ hx14) (fun p15 => ?_)
 refine C_val (V_field (v := p15.2.2.2.2.1.v) fdt46_2 ag44.h (.tmp rfl rfl) rfl) ?_
 iterate 3 refine au ?_
 refine CW_block (K_frz (.t (.t .h)) frz_own ?_)
 refine CW_loop (m := r13.Log.length) (fun m40 f' cs' => ∃ (g : Fr) (k42 : Nat) (rest43 : List Access), m40 = rest43.length ∧ f' = updL g [(1, v1_0.v), (2, v2_0.v), (9, (pz k1)), (10, (pz k2)), (29, p15.2.2.2.2.1.v), (30, (.int .i64 (r13.Log.length : Int))), (31, (.int .i64 (k42 : Int)))] ∧ List.drop k42 r13.Log = rest43 ∧ Ent cs' [crd (RdS 97 rd97) v1_0.v a_l, crd (RdS 58 rd58) v2_0.v a_facts, cboR k1 58 (.agg [(.int .i64 a_f.Rel), v4_1.v].toArray), crd (RdS 3 rdInt) v4_1.v a_f.Values, cbox k2 54 (.agg [(.int .i64 0), (.slice none 0 0)].toArray), crd (RdS 54 rd54) p15.2.2.2.2.1.v r13.Log] ∧ i_WhyReached_L1 a_l a_facts a_f rest43 k42 = some R) ⟨_, 0, _, rfl, eqA, rfl, entA, hF⟩ ?_
 rintro m40 _ _ ⟨g41, k42, rest43, rfl, rfl, hd45, hE, hF⟩
 refine Kb hE r13.Log (fun hbd50 => ?_)
 rcases rest43 with _ | ⟨x44, rest43⟩
 · have hk46 := dn hd45
   rw [i_WhyReached_L1] at hF
   iterate 4 refine au ?_
   refine CdF ?_
   iterate 5 refine au ?_
   refine C_val (V_build ty54.h rfl (vs := []) .nil (cells := [(.int .i64 0), (.slice none 0 0)]) rfl) ?_
   refine As (.agg [(.int .i64 0), (.slice none 0 0)].toArray) ?_
   iterate 3 refine au ?_
   cases hF
   exact End_ret (⟨none, 0, 0⟩) (.cellA rfl rfl .h rfl ag54.h ty54.h.sz rfl rfl (.tmp rfl rfl .nil)) rfl (.conv .nil (rd_nil (R := rdInt) (E := 3)) (.cons .nil) (.sel (.rd .h rfl .nil)))
 obtain ⟨hk46, hx47, hd48⟩ := drop_cons hd45
 rw [i_WhyReached_L1] at hF
 iterate 4 refine au ?_
 refine CdT ?_
 iterate 3 refine au ?_
 refine Ai hx47 (fun k51 j52 => ?_)
 refine AlA1 (ul54_0_54 x44) la54_0_54 (fun p53 => ?_)
 refine AnW (fun k54 => ?_)
 refine As (.agg [(.int .i64 x44.Method), p53.v].toArray) ?_
 refine au ?_
 refine K_draw [0, 1, 2, 4, 3, 5] [0, 0, 0, 7, 0, 31] [3, 5] mixed (by decide +kernel) ?_
 iterate 2 refine du ?_
 refine D_atO rfl .no .h (fun ha hp => V_loadBox ag54.h ty54.h.sz rfl (EN ha (.tmp rfl rfl) rfl) hp.2 rfl) ?_
 refine du ?_
 refine bnd hF fun r55 hx56 hF => Dx1 (i_matches_ok _ _ _ _ _ _ _ hx56) (fun p57 => ?_)
 refine bnd hF fun r58 hx59 hF => D_act1 rfl rfl .no (.cons .h (.rd (.t (.t (.t (.t (.t (.t .h)))))) rfl .nil)) (.dep rfl .nil) (fun ha => XC_bor frz_own (fun _ => .nil) (X_callS cf71.h (.cons (EN ha (.tmp rfl rfl) rfl) (.cons (EN ha (.tmp rfl rfl) rfl) .nil)) (i_HasFact_ok r55 p57.1 a_f v4_1 _ hx59))) (fun _ => ?_)
 refine du ?_
 refine Ci hF (fun hb62 hF => ?_) (fun hb62 hF => ?_)
 · iterate 2 refine au ?_
   refine As (.agg [(.int .i64 x44.Method), p53.v].toArray) ?_
   iterate 3 refine au ?_
   cases hF
   exact End_ret p53 (.cellA rfl rfl .h rfl ag54.h ty54.h.sz rfl rfl (.tmp rfl rfl .nil)) rfl (.sel (.rd (.t (.t (.t .h))) rfl .nil))
 iterate 5 refine au ?_
 rw [wk k42]
 exact ⟨_, Nat.lt_succ_self _, _, k42 + 1, rest43, rfl, eqA, hd48, entA, hF⟩
def s_IsAccess_L1 : List Int → Nat → Option (Bool)
 | [], k23 => some true
 | x25 :: rest24, k23 => (s_l1In x25 0 9).bind fun r34 =>
   if (!r34) then (
     some false)
   else (
     s_IsAccess_L1 rest24 (k23 + 1))
def s_IsAccess (a_s : List Int) (a_l : List Method) (a_a : Access) : Option (Bool) :=
 ((s_AreMethods a_s a_l).bind fun r4 =>
   bif (!r4) then (some true)
   else ((s_l1In a_a.Method 0 (IntKind.i64.wrap ((a_l.length : Int) - 1))).bind fun r8 =>
     bif (!r8) then (some true)
     else ((ix a_l a_a.Method).bind fun x12 =>
       some (((a_a.Values.length : Int) : Int) != (x12.Inputs.length : Int))))).bind fun o2 =>
 match o2 with
 | c19 => if c19 then (
     some false)
   else (
     s_IsAccess_L1 a_a.Values 0)
theorem s_IsAccess_ok (a_s : List Int) (v0_0 : Sv) (a_l : List Method) (v1_0 : Sv) (a_a : Access) (v2_1 : Sv) (R : Bool) (hF : s_IsAccess a_s a_l a_a = some R) :
   Fw.Spec Tryz.prog 73 [v0_0.v, v1_0.v, (.agg [(.int .i64 a_a.Method), v2_1.v].toArray)] [crd (RdS 3 rdInt) v0_0.v a_s, crd (RdS 97 rd97) v1_0.v a_l, crd (RdS 3 rdInt) v2_1.v a_a.Values] (fun _ : Unit => (.bool R)) (fun _ => []) := by
 refine Se 48 Tryz.func73 [.tmp 6] ?_
 intro H0 F0
 unfold s_IsAccess at hF
 refine au ?_
 refine AbR (fun k1 => ?_)
 iterate 3 refine au ?_
 obtain ⟨o2, hio2, hO3⟩ := bind_some hF
 refine K_draw [0, 1, 2, 3, 4, 5, 6, 7, 8, 9, 10, 11, 12, 13, 14, 15, 16, 17, 18, 19, 20, 21, 22, 23, 24, 25] [0, 0, 3, 7, 15, 31, 63, 31, 159, 415, 1023, 2047, 4095, 8191, 16383, 32767, 65535, 16383, 16383, 278527, 933887, 1982463, 4079615, 8273919, 16777215, 33554431] [2, 10] mixed (by decide +kernel) ?_
 refine D_cut (fun f' cs' => ∃ (c19 : Bool) (g : Fr), c19 = o2 ∧ f' = updL g [(5, (pz k1)), (33, (.bool c19))] ∧ Ent cs' [cboR k1 54 (.agg [(.int .i64 a_a.Method), v2_1.v].toArray), crd (RdS 3 rdInt) v2_1.v a_a.Values]) ?_ ?_
 · replace hF := hio2
   iterate 2 refine du ?_
   refine bnd hF fun r4 hx5 hF => Dx0 (s_AreMethods_ok _ _ _ _ _ hx5) (fun _ => ?_)
   iterate 2 refine du ?_
   rcases Bool.eq_false_or_eq_true (!r4) with hg7 | hg7
   · rw [hg7]
     try rw [hg7] at hF; dsimp only [cond_true, cond_false] at hF
     iterate 22 refine du ?_
     cases hF
     exact ⟨_, _, rfl, eqA, entA⟩
   rw [hg7]
   try rw [hg7] at hF; dsimp only [cond_true, cond_false] at hF
   iterate 5 refine du ?_
   refine bnd hF fun r8 hx9 hF => Dx0 (s_l1In_ok _ _ _ _ hx9) (fun _ => ?_)
   iterate 3 refine du ?_
   rcases Bool.eq_false_or_eq_true (!r8) with hg11 | hg11
   · rw [hg11]
     try rw [hg11] at hF; dsimp only [cond_true, cond_false] at hF
     iterate 13 refine du ?_
     cases hF
     exact ⟨_, _, rfl, eqA, entA⟩
   rw [hg11]
   try rw [hg11] at hF; dsimp only [cond_true, cond_false] at hF
   iterate 6 refine du ?_
   refine bnd hF fun x12 hx13 hF => ?_
   obtain ⟨hp14, hx15⟩ := ix_some hx13
   refine Di hx15 (fun k16 j17 => ?_)
   refine du ?_
   refine D_ldV (R' := (RdS 3 rdInt)) ag24.h rfl (.on 21 rfl rfl rfl) (.tmp rfl rfl) rfl .h lv97_1 (fun w18 => ?_)
   iterate 4 refine du ?_
   cases hF
   exact ⟨_, _, rfl, eqA, entA⟩
 rintro _ _ ⟨c19, g40, rfl, rfl, hE⟩
 replace hF := hO3
 try dsimp only at hF
 refine K_ent hE ?_
 refine Ci hF (fun hb39 hF => ?_) (fun hb39 hF => ?_)
 · iterate 4 refine au ?_
   cases hF
   exact Er ()
 iterate 5 refine au ?_
 refine CW_block (CW_loop (m := a_a.Values.length) (fun m21 f' cs' => ∃ (g : Fr) (k23 : Nat) (rest24 : List Int), m21 = rest24.length ∧ f' = updL g [(5, (pz k1)), (7, (.int .i64 (k23 : Int)))] ∧ List.drop k23 a_a.Values = rest24 ∧ Ent cs' [cboR k1 54 (.agg [(.int .i64 a_a.Method), v2_1.v].toArray), crd (RdS 3 rdInt) v2_1.v a_a.Values] ∧ s_IsAccess_L1 rest24 k23 = some R) ⟨_, 0, _, rfl, eqA, rfl, entA, hF⟩ ?_)
 rintro m21 _ _ ⟨g22, k23, rest24, rfl, rfl, hd26, hE, hF⟩
 refine Kb hE a_a.Values (fun hbd31 => ?_)
 rcases rest24 with _ | ⟨x25, rest24⟩
 · have hk27 := dn hd26
   rw [s_IsAccess_L1] at hF
   iterate 8 refine au ?_
   refine CdF ?_
   iterate 8 refine au ?_
   cases hF
   exact Er ()
 obtain ⟨hk27, hx28, hd29⟩ := drop_cons hd26
 rw [s_IsAccess_L1] at hF
 iterate 8 refine au ?_
 refine CdT ?_
 iterate 6 refine au ?_
 refine Ai hx28 (fun k32 j33 => ?_)
 refine Al ls3_0 ?_
 refine bnd hF fun r34 hx35 hF => Cx0 (s_l1In_ok _ _ _ _ hx35) (fun _ => ?_)
 iterate 2 refine au ?_
 refine Ci hF (fun hb38 hF => ?_) (fun hb38 hF => ?_)
 · iterate 4 refine au ?_
   cases hF
   exact Er ()
 iterate 6 refine au ?_
 rw [wk k23]
 exact ⟨_, Nat.lt_succ_self _, _, k23 + 1, rest24, rfl, eqA, hd29, entA, hF⟩
def s_MatchesOf (a_s : List Int) (a_l : List Method) (a_facts : List Fact) (a_a : Access) : Option ((List Fact)) :=
 ((s_IsAccess a_s a_l a_a).bind fun r4 =>
   bif (!r4) then (some true)
   else ((s_AreFacts a_s a_facts).bind fun r8 =>
     some (!r8))).bind fun o2 =>
 match o2 with
 | c11 => if c11 then (
     some ([] : List Fact))
   else (
     (ix a_l a_a.Method).bind fun x13 =>
     (s_l5Matches x13 a_a.Values a_facts).bind fun r20 =>
     some r20)
theorem s_MatchesOf_ok (a_s : List Int) (v0_0 : Sv) (a_l : List Method) (v1_0 : Sv) (a_facts : List Fact) (v2_0 : Sv) (a_a : Access) (v3_1 : Sv) (R : (List Fact)) (hF : s_MatchesOf a_s a_l a_facts a_a = some R) :
   Fw.Spec Tryz.prog 30 [v0_0.v, v1_0.v, v2_0.v, (.agg [(.int .i64 a_a.Method), v3_1.v].toArray)] [crd (RdS 3 rdInt) v0_0.v a_s, crd (RdS 97 rd97) v1_0.v a_l, crd (RdS 58 rd58) v2_0.v a_facts, crd (RdS 3 rdInt) v3_1.v a_a.Values] (fun p : Sv × List Nat => p.1.v) (fun p => [cown (OwnS 58 ow58) p.2 p.1.v R]) := by
 refine Se 30 Tryz.func30 [.tmp 8] ?_
 intro H0 F0
 unfold s_MatchesOf at hF
 refine au ?_
 refine AbR (fun k1 => ?_)
 iterate 3 refine au ?_
 obtain ⟨o2, hio2, hO3⟩ := bind_some hF
 refine au ?_
 refine C_cut (fun f' cs' => ∃ (c11 : Bool) (g : Fr), c11 = o2 ∧ f' = updL g [(1, v1_0.v), (2, v2_0.v), (7, (pz k1)), (19, (.bool c11))] ∧ Ent cs' [crd (RdS 97 rd97) v1_0.v a_l, crd (RdS 58 rd58) v2_0.v a_facts, cboR k1 54 (.agg [(.int .i64 a_a.Method), v3_1.v].toArray), crd (RdS 3 rdInt) v3_1.v a_a.Values]) ?_ ?_
 · replace hF := hio2
   iterate 3 refine au ?_
   refine bnd hF fun r4 hx5 hF => Cx0 (s_IsAccess_ok _ _ _ _ _ _ _ hx5) (fun _ => ?_)
   iterate 2 refine au ?_
   rcases Bool.eq_false_or_eq_true (!r4) with hg7 | hg7
   · rw [hg7]
     try rw [hg7] at hF; dsimp only [cond_true, cond_false] at hF
     iterate 6 refine au ?_
     cases hF
     exact ⟨_, _, rfl, eqA, entA⟩
   rw [hg7]
   try rw [hg7] at hF; dsimp only [cond_true, cond_false] at hF
   iterate 5 refine au ?_
   refine bnd hF fun r8 hx9 hF => Cx0 (s_AreFacts_ok _ _ _ _ _ hx9) (fun _ => ?_)
   iterate 4 refine au ?_
   cases hF
   exact ⟨_, _, rfl, eqA, entA⟩
 rintro _ _ ⟨c11, g24, rfl, rfl, hE⟩
 replace hF := hO3
 try dsimp only at hF
 refine K_ent hE ?_
 refine Ci hF (fun hb23 hF => ?_) (fun hb23 hF => ?_)
 · refine au ?_
   refine C_new rfl (N_buildSliceT (g := true) sl28.h ty58.h .nil (vs := []) rfl rfl rfl (by simp)) (fun k12 => ?_)
   refine Cv1 (.cons .h .nil) (own_lit (Ro := ow58) (E := 58) (F := []) (xs := ([] : List Fact)) MkL_nil rfl rfl) ?_
   iterate 3 refine au ?_
   cases hF
   exact Er (⟨(some ⟨k12, 0, none⟩), 0, 1⟩, (k12 :: []))
 refine au ?_
 refine K_draw [0, 1, 2, 3, 4, 5, 6, 7, 8, 9] [0, 0, 2, 7, 15, 0, 32, 0, 255, 511] [8] mixed (by decide +kernel) ?_
 iterate 3 refine du ?_
 refine bnd hF fun x13 hx14 hF => ?_
 obtain ⟨hp15, hx16⟩ := ix_some hx14
 refine Di hx16 (fun k17 j18 => ?_)
 refine DlA1 (ul97_0_97 x13) la97_0_97 (fun p19 => ?_)
 iterate 3 refine du ?_
 refine bnd hF fun r20 hx21 hF => Dx1 (s_l5Matches_ok _ _ _ _ _ _ _ hx21) (fun p22 => ?_)
 iterate 2 refine du ?_
 refine au ?_
 cases hF
 exact Er (p22.1, p22.2)
def l_FnReaches_L1 (a_code : List UInt8) (fuel : Nat) (r4 : (List Int) × (List Method) × (List Fact) × (List Int)) (r11 : Reached) : List Fact → Nat → Option (Bool)
 | [], k59 => (bif (decide ((0 : Int) < (r4.2.2.1.length : Int))) then ((chk (decide (0 ≤ (1 : Int)) && decide ((1 : Int) ≤ (r4.2.2.1.length : Int)))).bind fun u72 =>
       (i_ReachAll r4.1 r4.2.1 (r4.2.2.1.drop (1 : Int).toNat) r4.2.2.2).bind fun r75 =>
       (l_inside r75.Facts r11.Facts).bind fun r78 =>
       some (!r78))
     else (some false)).bind fun o68 =>
   match o68 with
   | c81 => if c81 then (
       some false)
     else (
       (s_DrawStepReach fuel a_code).bind fun r82 =>
       (i_StepReach r82.1 r82.2.1 r82.2.2.1 r82.2.2.2).bind fun r86 =>
       (s_StepReach r82.1 r82.2.1 r82.2.2.1 r82.2.2.2).bind fun r90 =>
       (s_DrawEqualReached fuel a_code).bind fun r94 =>
       (s_DrawIsReached fuel a_code).bind fun r99 =>
       (bif (r86.2 == r90.2) then ((s_EqualReached r86.1 r90.1).bind fun r106 =>
           bif r106 then ((i_EqualReached r94.1 r94.2).bind fun r110 =>
             (s_EqualReached r94.1 r94.2).bind fun r113 =>
             bif (r110 == r113) then ((i_IsReached r99.1 r99.2.1 r99.2.2.1 r99.2.2.2.1 r99.2.2.2.2).bind fun r117 =>
               (s_IsReached r99.1 r99.2.1 r99.2.2.1 r99.2.2.2.1 r99.2.2.2.2).bind fun r120 =>
               bif (r117 == r120) then ((i_StartReach r4.2.2.2).bind fun r124 =>
                 (s_StartReach r4.2.2.2).bind fun r127 =>
                 (s_EqualReached r124 r127).bind fun r130 =>
                 some r130)
               else (some false))
             else (some false))
           else (some false))
         else (some false)).bind fun o103 =>
       match o103 with
       | c133 => some c133)
 | x61 :: rest60, k59 => (i_WhyReached r4.1 r4.2.1 r4.2.2.1 r4.2.2.2 x61).bind fun r140 =>
   (bif (!r140.2) then (some true)
     else ((s_MatchesOf r4.1 r4.2.1 r4.2.2.1 r140.1).bind fun r150 =>
       (s_HasFact r150 x61).bind fun r153 =>
       some (!r153))).bind fun o144 =>
   match o144 with
   | c156 => if c156 then (
       some false)
     else (
       l_FnReaches_L1 a_code fuel r4 r11 rest60 (k59 + 1))
def l_FnReaches (fuel : Nat) (a_code : List UInt8) : Option (Bool) :=
 (l_big a_code).bind fun r1 =>
 if r1 then (
   some true)
 else (
   (s_DrawReachAll fuel a_code).bind fun r4 =>
   (i_ReachAll r4.1 r4.2.1 r4.2.2.1 r4.2.2.2).bind fun r7 =>
   (s_ReachAll r4.1 r4.2.1 r4.2.2.1 r4.2.2.2).bind fun r11 =>
   ((s_EqualReached r7 r11).bind fun r17 =>
     bif (!r17) then (some true)
     else ((l_inside r11.Facts r4.2.2.1).bind fun r21 =>
       bif (!r21) then (some true)
       else ((l_single r11.Log).bind fun r25 =>
         some (!r25)))).bind fun o15 =>
   match o15 with
   | c28 => if c28 then (
       some false)
     else (
       ((s_AreMethods r4.1 r4.2.1).bind fun r31 =>
         bif r31 then ((s_AreFacts r4.1 r4.2.2.1).bind fun r35 =>
           some r35)
         else (some false)).bind fun o29 =>
       match o29 with
       | c38 => if c38 then (
           ((i_OpenAccesses r4.1 r4.2.1 r11).bind fun r41 =>
             bif (decide ((0 : Int) < (r41.length : Int))) then (some true)
             else ((i_IsReached r4.1 r4.2.1 r4.2.2.1 r4.2.2.2 r11).bind fun r45 =>
               bif (!r45) then (some true)
               else ((i_ReachAll r4.1 r4.2.1 r11.Facts r4.2.2.2).bind fun r49 =>
                 (s_EqualReached r49 r11).bind fun r52 =>
                 some (!r52)))).bind fun o39 =>
           match o39 with
           | c55 => if c55 then (
               some false)
             else (
               l_FnReaches_L1 a_code fuel r4 r11 r11.Facts 0))
         else (
           (s_DrawStepReach fuel a_code).bind fun r162 =>
           (i_StepReach r162.1 r162.2.1 r162.2.2.1 r162.2.2.2).bind fun r166 =>
           (s_StepReach r162.1 r162.2.1 r162.2.2.1 r162.2.2.2).bind fun r170 =>
           (s_DrawEqualReached fuel a_code).bind fun r174 =>
           (s_DrawIsReached fuel a_code).bind fun r179 =>
           (bif (r166.2 == r170.2) then ((s_EqualReached r166.1 r170.1).bind fun r186 =>
               bif r186 then ((i_EqualReached r174.1 r174.2).bind fun r190 =>
                 (s_EqualReached r174.1 r174.2).bind fun r193 =>
                 bif (r190 == r193) then ((i_IsReached r179.1 r179.2.1 r179.2.2.1 r179.2.2.2.1 r179.2.2.2.2).bind fun r197 =>
                   (s_IsReached r179.1 r179.2.1 r179.2.2.1 r179.2.2.2.1 r179.2.2.2.2).bind fun r200 =>
                   bif (r197 == r200) then ((i_StartReach r4.2.2.2).bind fun r204 =>
                     (s_StartReach r4.2.2.2).bind fun r207 =>
                     (s_EqualReached r204 r207).bind fun r210 =>
                     some r210)
                   else (some false))
                 else (some false))
               else (some false))
             else (some false)).bind fun o183 =>
           match o183 with
           | c213 => some c213)))
theorem l_FnReaches_ok (fuel : Nat) (a_code : List UInt8) (v0_0 : Sv) (R : Bool) (hF : l_FnReaches fuel a_code = some R) :
   Fw.Spec Tryz.prog 4 [v0_0.v] [crd (RdS 5 rdU8) v0_0.v a_code] (fun _ : Unit => (.bool R)) (fun _ => []) := by
 refine Spec_enter (n := 224) Tryz.func4 rfl rfl (rs := [.tmp 2]) rfl rfl rfl ?_
 intro H0 F0
 unfold l_FnReaches at hF
 refine K_region (C_val (V_assign (v := (.bool false)) (.bool _)) ?_)
 refine C_nil (K_in (K_region (Cm v0_0.v rfl rfl ?_)))
 obtain ⟨r1, hx2, hF⟩ := bind_some hF
 refine C_x0 (.rd .h rfl .nil) (X_callS cf5.h (.cons (.tmp rfl rfl) .nil) (l_big_ok a_code v0_0 _ hx2)) (fun _ => ?_)
 refine C_nil (CW_cond (b := r1) (.tmp rfl rfl) (fun hb219 => ?_) (fun hb219 => ?_))
 · rw [if_pos hb219] at hF
   refine K_region (C_val (V_assign (v := (.bool true)) (.bool _)) ?_)
   refine C_nil (CW_ret ?_)
   obtain rfl := Option.some.inj hF
   exact End_ret () (.tmp rfl rfl .nil) rfl (.sel .nil)
 rw [if_neg (by rw [hb219]; exact Bool.false_ne_true)] at hF
 refine CW_skip (K_region (Cm v0_0.v rfl rfl ?_))
 obtain ⟨r4, hx5, hF⟩ := bind_some hF
 refine C_x4 (.rd .h rfl .nil) (X_callS cf19.h (.cons (.tmp rfl rfl) .nil) (s_DrawReachAll_ok fuel a_code v0_0 _ hx5)) (fun p6 => ?_)
 refine Cm (.tuple [p6.1.v, p6.2.2.1.v, p6.2.2.2.2.1.v, p6.2.2.2.2.2.2.1.v].toArray) rfl rfl ?_
 refine C_val (V_extract (l := [p6.1.v, p6.2.2.1.v, p6.2.2.2.2.1.v, p6.2.2.2.2.2.2.1.v]) (v := p6.1.v) (.tmp rfl rfl) rfl) ?_
 refine C_val (V_extract (l := [p6.1.v, p6.2.2.1.v, p6.2.2.2.2.1.v, p6.2.2.2.2.2.2.1.v]) (v := p6.2.2.1.v) (.tmp rfl rfl) rfl) ?_
 refine C_val (V_extract (l := [p6.1.v, p6.2.2.1.v, p6.2.2.2.2.1.v, p6.2.2.2.2.2.2.1.v]) (v := p6.2.2.2.2.1.v) (.tmp rfl rfl) rfl) ?_
 refine C_val (V_extract (l := [p6.1.v, p6.2.2.1.v, p6.2.2.2.2.1.v, p6.2.2.2.2.2.2.1.v]) (v := p6.2.2.2.2.2.2.1.v) (.tmp rfl rfl) rfl) ?_
 refine Ca p6.1.v rfl rfl ?_
 refine Ca p6.2.2.1.v rfl rfl ?_
 refine Ca p6.2.2.2.2.1.v rfl rfl ?_
 refine Ca p6.2.2.2.2.2.2.1.v rfl rfl ?_
 refine C_nil (K_region (Cm p6.1.v rfl rfl ?_))
 refine Cm p6.2.2.1.v rfl rfl ?_
 refine Cm p6.2.2.2.2.1.v rfl rfl ?_
 refine Cm p6.2.2.2.2.2.2.1.v rfl rfl ?_
 obtain ⟨r7, hx8, hF⟩ := bind_some hF
 refine C_x7 (.cons (.t (.t (.t .h))) (.cons (.t (.t .h)) (.cons (.t .h) (.cons .h .nil)))) (XC_borL (pre := []) (.cons frz_own (.cons frz_own (.cons frz_own (.cons frz_own .nil)))) (fun _ => (.cons (.cons (.cons .nil)))) (X_callS cf20.h (.cons (.tmp rfl rfl) (.cons (.tmp rfl rfl) (.cons (.tmp rfl rfl) (.cons (.tmp rfl rfl) .nil)))) (i_ReachAll_ok r4.1 p6.1 r4.2.1 p6.2.2.1 r4.2.2.1 p6.2.2.2.2.1 r4.2.2.2 p6.2.2.2.2.2.2.1 _ hx8))) (fun p9 => ?_)
 refine C_new rfl (N_allocT (g := true) ty46.h rfl rfl) (fun k10 => ?_)
 refine C_x1 (.cons .h .nil) (X_storeB (e' := (.agg [p9.1.v, p9.2.2.1.v, p9.2.2.2.2.1.v, (.int .i64 r7.Rounds)].toArray)) (v := (.agg [p9.1.v, p9.2.2.1.v, p9.2.2.2.2.1.v, (.int .i64 r7.Rounds)].toArray)) ty46.h.sz (.tmp rfl rfl) (.tmp rfl rfl) rfl rfl rfl rfl rfl) (fun _ => ?_)
 refine C_nil ?_
 iterate 4 refine K_frz (.t (.t (.t (.t .h)))) frz_own ?_
 refine K_region (Cm p6.1.v rfl rfl ?_)
 refine Cm p6.2.2.1.v rfl rfl ?_
 refine Cm p6.2.2.2.2.1.v rfl rfl ?_
 refine Cm p6.2.2.2.2.2.2.1.v rfl rfl ?_
 obtain ⟨r11, hx12, hF⟩ := bind_some hF
 refine C_x3 (.rd (.t (.t (.t .h))) rfl (.rd (.t (.t .h)) rfl (.rd (.t .h) rfl (.rd .h rfl .nil)))) (X_callS cf21.h (.cons (.tmp rfl rfl) (.cons (.tmp rfl rfl) (.cons (.tmp rfl rfl) (.cons (.tmp rfl rfl) .nil)))) (s_ReachAll_ok r4.1 p6.1 r4.2.1 p6.2.2.1 r4.2.2.1 p6.2.2.2.2.1 r4.2.2.2 p6.2.2.2.2.2.2.1 _ hx12)) (fun p13 => ?_)
 refine C_new rfl (N_allocT (g := true) ty46.h rfl rfl) (fun k14 => ?_)
 refine C_x1 (.cons .h .nil) (X_storeB (e' := (.agg [p13.1.v, p13.2.1.v, p13.2.2.v, (.int .i64 r11.Rounds)].toArray)) (v := (.agg [p13.1.v, p13.2.1.v, p13.2.2.v, (.int .i64 r11.Rounds)].toArray)) ty46.h.sz (.tmp rfl rfl) (.tmp rfl rfl) rfl rfl rfl rfl rfl) (fun _ => ?_)
 refine C_nil (K_in ?_)
 obtain ⟨o15, hio15, hO16⟩ := bind_some hF
 refine K_region (C_cut (fun f' cs' => ∃ (c28 : Bool) (g : Fr), c28 = o15 ∧ f' = updL g [(0, v0_0.v), (3, p6.1.v), (4, p6.2.2.1.v), (5, p6.2.2.2.2.1.v), (6, p6.2.2.2.2.2.2.1.v), (8, (.pointer (some ⟨k14, 0, some 0⟩))), (62, (.bool c28))] ∧ Ent cs' [crd (RdS 5 rdU8) v0_0.v a_code, crd (RdS 3 rdInt) p6.1.v r4.1, crd (RdS 97 rd97) p6.2.2.1.v r4.2.1, crd (RdS 58 rd58) p6.2.2.2.2.1.v r4.2.2.1, crd (RdS 3 rdInt) p6.2.2.2.2.2.2.1.v r4.2.2.2, cbox k14 46 (.agg [p13.1.v, p13.2.1.v, p13.2.2.v, (.int .i64 r11.Rounds)].toArray), crd (RdS 58 rd58) p13.1.v r11.Facts, crd (RdS 3 rdInt) p13.2.1.v r11.Values, crd (RdS 54 rd54) p13.2.2.v r11.Log]) ?_ ?_)
 · replace hF := hio15
   refine C_at (.t (.t (.t (.t (.t (.t (.t (.t .h)))))))) (fun hp => V_loadBox ag46.h ty46.h.sz rfl (.tmp rfl rfl) hp.2 rfl) ?_
   refine C_at .h (fun hp => V_loadBox ag46.h ty46.h.sz rfl (.tmp rfl rfl) hp.2 rfl) ?_
   obtain ⟨r17, hx18, hF⟩ := bind_some hF
   refine C_x3 (.cons (.t (.t (.t (.t (.t (.t (.t (.t (.t (.t (.t .h))))))))))) (.cons (.t (.t (.t (.t (.t (.t (.t (.t (.t (.t .h)))))))))) (.cons (.t (.t (.t (.t (.t (.t (.t (.t (.t .h))))))))) (.rd (.t .h) rfl (.rd (.t (.t .h)) rfl (.rd (.t (.t (.t .h))) rfl .nil)))))) (XC_borL (pre := _) (.cons frz_own (.cons frz_own (.cons frz_own .nil))) (fun _ => .nil) (X_callS cf22.h (.cons (.tmp rfl rfl) (.cons (.tmp rfl rfl) .nil)) (s_EqualReached_ok r7 p9.1 p9.2.2.1 p9.2.2.2.2.1 r11 p13.1 p13.2.1 p13.2.2 _ hx18))) (fun _ => ?_)
   refine C_val (V_not (b := r17) (.tmp rfl rfl)) ?_
   refine Cm (.bool (!r17)) rfl rfl ?_
   rcases Bool.eq_false_or_eq_true (!r17) with hg20 | hg20
   · rw [hg20]
     try rw [hg20] at hF; dsimp only [cond_true, cond_false] at hF
     iterate 5 refine C_off (t := 50) rfl rfl rfl ?_
     refine C_val (V_pick (b := true) (u := (.bool true)) (v := undef) (.tmp rfl rfl) (.bool _) (.tmp rfl rfl)) ?_
     refine Cm (.bool true) rfl rfl ?_
     iterate 4 refine C_off (t := 57) rfl rfl rfl ?_
     refine C_val (V_pick (b := true) (u := (.bool true)) (v := undef) (.tmp rfl rfl) (.bool _) (.tmp rfl rfl)) ?_
     refine C_nil ?_
     obtain rfl := Option.some.inj hF
     exact ⟨_, _, rfl, (EqL.cons rfl (EqL.cons rfl (EqL.cons rfl (EqL.cons rfl (EqL.cons rfl (EqL.cons rfl (EqL.cons rfl (EqL.nil)))))))).eq, (.sel (.rd (.t (.t (.t (.t (.t (.t (.t (.t (.t (.t (.t (.t .h)))))))))))) rfl (.rd (.t (.t (.t (.t (.t (.t (.t (.t (.t (.t .h)))))))))) rfl (.rd (.t (.t (.t (.t (.t (.t (.t (.t (.t .h))))))))) rfl (.rd (.t (.t (.t (.t (.t (.t (.t (.t .h)))))))) rfl (.rd (.t (.t (.t (.t (.t (.t (.t .h))))))) rfl (.cons (.t (.t (.t .h))) (.rd (.t (.t (.t .h))) rfl (.rd (.t (.t (.t (.t .h)))) rfl (.rd (.t (.t (.t (.t (.t .h))))) rfl .nil))))))))))⟩
   rw [hg20]
   try rw [hg20] at hF; dsimp only [cond_true, cond_false] at hF
   refine C_on (t := 50) rfl rfl rfl ?_
   refine C_val (V_fieldAddr (off := 0) fd46_0.h (.tmp rfl rfl)) ?_
   refine C_on (t := 50) rfl rfl rfl ?_
   refine C_at (.t (.t (.t .h))) (fun hp => V_load (v := p13.1.v) ag28.h (.tmp rfl rfl) hp.2 rfl rfl) ?_
   refine C_on (t := 50) rfl rfl rfl ?_
   refine Cm p6.2.2.2.2.1.v rfl rfl ?_
   refine C_on (t := 50) rfl rfl rfl ?_
   obtain ⟨r21, hx22, hF⟩ := bind_some hF
   refine C_x0 (.rd (.t (.t (.t (.t .h)))) rfl (.rd (.t (.t (.t (.t (.t (.t (.t (.t .h)))))))) rfl .nil)) (X_callS cf23.h (.cons (.tmp rfl rfl) (.cons (.tmp rfl rfl) .nil)) (l_inside_ok r11.Facts p13.1 r4.2.2.1 p6.2.2.2.2.1 _ hx22)) (fun _ => ?_)
   refine C_on (t := 50) rfl rfl rfl ?_
   refine C_val (V_not (b := r21) (.tmp rfl rfl)) ?_
   refine C_val (V_pick (b := false) (u := (.bool true)) (v := (.bool (!r21))) (.tmp rfl rfl) (.bool _) (.tmp rfl rfl)) ?_
   refine Cm (.bool (!r21)) rfl rfl ?_
   rcases Bool.eq_false_or_eq_true (!r21) with hg24 | hg24
   · rw [hg24]
     try rw [hg24] at hF; dsimp only [cond_true, cond_false] at hF
     iterate 4 refine C_off (t := 57) rfl rfl rfl ?_
     refine C_val (V_pick (b := true) (u := (.bool true)) (v := undef) (.tmp rfl rfl) (.bool _) (.tmp rfl rfl)) ?_
     refine C_nil ?_
     obtain rfl := Option.some.inj hF
     exact ⟨_, _, rfl, (EqL.cons rfl (EqL.cons rfl (EqL.cons rfl (EqL.cons rfl (EqL.cons rfl (EqL.cons rfl (EqL.cons rfl (EqL.nil)))))))).eq, (.sel (.rd (.t (.t (.t (.t (.t (.t (.t (.t (.t (.t (.t (.t .h)))))))))))) rfl (.rd (.t (.t (.t (.t (.t (.t (.t (.t (.t (.t .h)))))))))) rfl (.rd (.t (.t (.t (.t (.t (.t (.t (.t (.t .h))))))))) rfl (.rd (.t (.t (.t (.t (.t (.t (.t (.t .h)))))))) rfl (.rd (.t (.t (.t (.t (.t (.t (.t .h))))))) rfl (.cons (.t (.t (.t .h))) (.rd (.t (.t (.t .h))) rfl (.rd (.t (.t (.t (.t .h)))) rfl (.rd (.t (.t (.t (.t (.t .h))))) rfl .nil))))))))))⟩
   rw [hg24]
   try rw [hg24] at hF; dsimp only [cond_true, cond_false] at hF
   refine C_on (t := 57) rfl rfl rfl ?_
   refine C_val (V_fieldAddr (off := 2) fd46_2.h (.tmp rfl rfl)) ?_
   refine C_on (t := 57) rfl rfl rfl ?_
   refine C_at (.t (.t (.t .h))) (fun hp => V_load (v := p13.2.2.v) ag44.h (.tmp rfl rfl) hp.2 rfl rfl) ?_
   refine C_on (t := 57) rfl rfl rfl ?_
   obtain ⟨r25, hx26, hF⟩ := bind_some hF
   refine C_x0 (.rd (.t (.t (.t (.t (.t (.t .h)))))) rfl .nil) (X_callS cf24.h (.cons (.tmp rfl rfl) .nil) (l_single_ok r11.Log p13.2.2 _ hx26)) (fun _ => ?_)
   refine C_on (t := 57) rfl rfl rfl ?_
   refine C_val (V_not (b := r25) (.tmp rfl rfl)) ?_
   refine C_val (V_pick (b := false) (u := (.bool true)) (v := (.bool (!r25))) (.tmp rfl rfl) (.bool _) (.tmp rfl rfl)) ?_
   refine C_nil ?_
   obtain rfl := Option.some.inj hF
   exact ⟨_, _, rfl, (EqL.cons rfl (EqL.cons rfl (EqL.cons rfl (EqL.cons rfl (EqL.cons rfl (EqL.cons rfl (EqL.cons rfl (EqL.nil)))))))).eq, (.sel (.rd (.t (.t (.t (.t (.t (.t (.t (.t (.t (.t (.t (.t .h)))))))))))) rfl (.rd (.t (.t (.t (.t (.t (.t (.t (.t (.t (.t .h)))))))))) rfl (.rd (.t (.t (.t (.t (.t (.t (.t (.t (.t .h))))))))) rfl (.rd (.t (.t (.t (.t (.t (.t (.t (.t .h)))))))) rfl (.rd (.t (.t (.t (.t (.t (.t (.t .h))))))) rfl (.cons (.t (.t (.t .h))) (.rd (.t (.t (.t .h))) rfl (.rd (.t (.t (.t (.t .h)))) rfl (.rd (.t (.t (.t (.t (.t .h))))) rfl .nil))))))))))⟩
 rintro _ _ ⟨c28, g218, rfl, rfl, hE⟩
 replace hF := hO16
 clear hO16
 try dsimp only at hF
 refine K_ent hE ?_
 refine CW_cond (b := c28) (.tmp rfl rfl) (fun hb217 => ?_) (fun hb217 => ?_)
 · rw [if_pos hb217] at hF
   refine K_region (C_val (V_assign (v := (.bool false)) (.bool _)) ?_)
   refine C_nil (CW_ret ?_)
   obtain rfl := Option.some.inj hF
   exact End_ret () (.tmp rfl rfl .nil) rfl (.sel .nil)
 rw [if_neg (by rw [hb217]; exact Bool.false_ne_true)] at hF
 refine CW_skip (K_in ?_)
 obtain ⟨o29, hio29, hO30⟩ := bind_some hF
 refine K_region (C_cut (fun f' cs' => ∃ (c38 : Bool) (g : Fr), c38 = o29 ∧ f' = updL g [(0, v0_0.v), (3, p6.1.v), (4, p6.2.2.1.v), (5, p6.2.2.2.2.1.v), (6, p6.2.2.2.2.2.2.1.v), (8, (.pointer (some ⟨k14, 0, some 0⟩))), (70, (.bool c38))] ∧ Ent cs' [crd (RdS 5 rdU8) v0_0.v a_code, crd (RdS 3 rdInt) p6.1.v r4.1, crd (RdS 97 rd97) p6.2.2.1.v r4.2.1, crd (RdS 58 rd58) p6.2.2.2.2.1.v r4.2.2.1, crd (RdS 3 rdInt) p6.2.2.2.2.2.2.1.v r4.2.2.2, cbox k14 46 (.agg [p13.1.v, p13.2.1.v, p13.2.2.v, (.int .i64 r11.Rounds)].toArray), crd (RdS 58 rd58) p13.1.v r11.Facts, crd (RdS 3 rdInt) p13.2.1.v r11.Values, crd (RdS 54 rd54) p13.2.2.v r11.Log]) ?_ ?_)
 · replace hF := hio29
   refine Cm p6.1.v rfl rfl ?_
   refine Cm p6.2.2.1.v rfl rfl ?_
   obtain ⟨r31, hx32, hF⟩ := bind_some hF
   refine C_x0 (.rd (.t .h) rfl (.rd (.t (.t .h)) rfl .nil)) (X_callS cf25.h (.cons (.tmp rfl rfl) (.cons (.tmp rfl rfl) .nil)) (s_AreMethods_ok r4.1 p6.1 r4.2.1 p6.2.2.1 _ hx32)) (fun _ => ?_)
   refine Cm (.bool r31) rfl rfl ?_
   rcases Bool.eq_false_or_eq_true r31 with hg34 | hg34
   · rw [hg34]
     try rw [hg34] at hF; dsimp only [cond_true, cond_false] at hF
     refine C_on (t := 66) rfl rfl rfl ?_
     refine Cm p6.1.v rfl rfl ?_
     refine C_on (t := 66) rfl rfl rfl ?_
     refine Cm p6.2.2.2.2.1.v rfl rfl ?_
     refine C_on (t := 66) rfl rfl rfl ?_
     obtain ⟨r35, hx36, hF⟩ := bind_some hF
     refine C_x0 (.rd (.t .h) rfl (.rd (.t (.t (.t .h))) rfl .nil)) (X_callS cf15.h (.cons (.tmp rfl rfl) (.cons (.tmp rfl rfl) .nil)) (s_AreFacts_ok r4.1 p6.1 r4.2.2.1 p6.2.2.2.2.1 _ hx36)) (fun _ => ?_)
     refine C_val (V_pick (b := true) (u := (.bool r35)) (v := (.bool false)) (.tmp rfl rfl) (.tmp rfl rfl) (.bool _)) ?_
     refine C_nil ?_
     obtain rfl := Option.some.inj hF
     exact ⟨_, _, rfl, (EqL.cons rfl (EqL.cons rfl (EqL.cons rfl (EqL.cons rfl (EqL.cons rfl (EqL.cons rfl (EqL.cons rfl (EqL.nil)))))))).eq, (.sel (.rd .h rfl (.rd (.t .h) rfl (.rd (.t (.t .h)) rfl (.rd (.t (.t (.t .h))) rfl (.rd (.t (.t (.t (.t .h)))) rfl (.cons (.t (.t (.t (.t (.t .h))))) (.rd (.t (.t (.t (.t (.t .h))))) rfl (.rd (.t (.t (.t (.t (.t (.t .h)))))) rfl (.rd (.t (.t (.t (.t (.t (.t (.t .h))))))) rfl .nil))))))))))⟩
   rw [hg34]
   try rw [hg34] at hF; dsimp only [cond_true, cond_false] at hF
   iterate 3 refine C_off (t := 66) rfl rfl rfl ?_
   refine C_val (V_pick (b := false) (u := undef) (v := (.bool false)) (.tmp rfl rfl) (.tmp rfl rfl) (.bool _)) ?_
   refine C_nil ?_
   obtain rfl := Option.some.inj hF
   exact ⟨_, _, rfl, (EqL.cons rfl (EqL.cons rfl (EqL.cons rfl (EqL.cons rfl (EqL.cons rfl (EqL.cons rfl (EqL.cons rfl (EqL.nil)))))))).eq, (.sel (.rd .h rfl (.rd (.t .h) rfl (.rd (.t (.t .h)) rfl (.rd (.t (.t (.t .h))) rfl (.rd (.t (.t (.t (.t .h)))) rfl (.cons (.t (.t (.t (.t (.t .h))))) (.rd (.t (.t (.t (.t (.t .h))))) rfl (.rd (.t (.t (.t (.t (.t (.t .h)))))) rfl (.rd (.t (.t (.t (.t (.t (.t (.t .h))))))) rfl .nil))))))))))⟩
 rintro _ _ ⟨c38, g216, rfl, rfl, hE⟩
 replace hF := hO30
 clear hO30
 try dsimp only at hF
 refine K_ent hE ?_
 refine CW_cond (b := c38) (.tmp rfl rfl) (fun hb215 => ?_) (fun hb215 => ?_)
 · rw [if_pos hb215] at hF
   refine K_in ?_
   obtain ⟨o39, hio39, hO40⟩ := bind_some hF
   refine K_draw [0, 1, 2, 3, 4, 5, 6, 7, 8, 9, 10, 11, 12, 13, 14, 15, 16, 17, 18, 19, 20, 22, 21, 23, 24, 25] [0, 0, 0, 7, 15, 31, 63, 127, 127, 127, 127, 127, 4095, 8191, 16383, 32767, 65535, 65535, 65535, 327679, 65535, 2097151, 65535, 8388607, 16777215, 33554431] [3, 12, 21, 23] mixed (by decide +kernel) ?_
   refine D_cut (fun f' cs' => ∃ (c55 : Bool) (g : Fr), c55 = o39 ∧ f' = updL g [(0, v0_0.v), (3, p6.1.v), (4, p6.2.2.1.v), (5, p6.2.2.2.2.1.v), (6, p6.2.2.2.2.2.2.1.v), (8, (.pointer (some ⟨k14, 0, some 0⟩))), (96, (.bool c55))] ∧ Ent cs' [crd (RdS 5 rdU8) v0_0.v a_code, crd (RdS 3 rdInt) p6.1.v r4.1, crd (RdS 97 rd97) p6.2.2.1.v r4.2.1, crd (RdS 58 rd58) p6.2.2.2.2.1.v r4.2.2.1, crd (RdS 3 rdInt) p6.2.2.2.2.2.2.1.v r4.2.2.2, cbox k14 46 (.agg [p13.1.v, p13.2.1.v, p13.2.2.v, (.int .i64 r11.Rounds)].toArray), crd (RdS 58 rd58) p13.1.v r11.Facts, crd (RdS 3 rdInt) p13.2.1.v r11.Values, crd (RdS 54 rd54) p13.2.2.v r11.Log]) ?_ ?_
   · replace hF := hio39
     refine Dm p6.1.v rfl rfl rfl rfl ?_
     refine Dm p6.2.2.1.v rfl rfl rfl rfl ?_
     refine D_atO rfl .no (.t (.t (.t (.t (.t .h))))) (fun ha hp => V_loadBox ag46.h ty46.h.sz rfl (EN ha (.tmp rfl rfl) rfl) hp.2 rfl) ?_
     obtain ⟨r41, hx42, hF⟩ := bind_some hF
     refine D_act1 rfl rfl .no (.rd (.t .h) rfl (.rd (.t (.t .h)) rfl (.rd (.t (.t (.t (.t (.t (.t .h)))))) rfl (.rd (.t (.t (.t (.t (.t (.t (.t .h))))))) rfl (.rd (.t (.t (.t (.t (.t (.t (.t (.t .h)))))))) rfl .nil))))) (.dep rfl .nil) (fun ha => X_callS cf26.h (.cons (EN ha (.tmp rfl rfl) rfl) (.cons (EN ha (.tmp rfl rfl) rfl) (.cons (EN ha (.tmp rfl rfl) rfl) .nil))) (i_OpenAccesses_ok r4.1 p6.1 r4.2.1 p6.2.2.1 r11 p13.1 p13.2.1 p13.2.2 _ hx42)) (fun p43 => ?_)
     refine D_atO rfl .no .h (fun ha hp => V_lenR (l := r41.length) sl44.h (EN ha (.tmp rfl rfl) rfl) (cown_len hp)) ?_
     refine D_val rfl .no (fun ha => V_gtr (i := (r41.length : Int)) (j := 0) (EN ha (.tmp rfl rfl) rfl) (EN ha (.int _ _) rfl)) ?_
     refine Dm (.bool (decide ((0 : Int) < (r41.length : Int)))) rfl rfl rfl rfl ?_
     rcases Bool.eq_false_or_eq_true (decide ((0 : Int) < (r41.length : Int))) with hg44 | hg44
     · rw [hg44]
       try rw [hg44] at hF; dsimp only [cond_true, cond_false] at hF
       iterate 7 refine D_off 77 rfl rfl rfl rfl ?_
       refine D_val rfl .no (fun ha => V_pick (b := true) (u := (.bool true)) (v := undef) (EN ha (.tmp rfl rfl) rfl) (EN ha (.bool _) rfl) (EN ha (.tmp rfl rfl) rfl)) ?_
       refine Dm (.bool true) rfl rfl rfl rfl ?_
       iterate 9 refine D_off 86 rfl rfl rfl rfl ?_
       refine D_val rfl .no (fun ha => V_pick (b := true) (u := (.bool true)) (v := undef) (EN ha (.tmp rfl rfl) rfl) (EN ha (.bool _) rfl) (EN ha (.tmp rfl rfl) rfl)) ?_
       refine D_nil ?_
       obtain rfl := Option.some.inj hF
       exact ⟨_, _, rfl, (EqL.cons rfl (EqL.cons rfl (EqL.cons rfl (EqL.cons rfl (EqL.cons rfl (EqL.cons rfl (EqL.cons rfl (EqL.nil)))))))).eq, (.sel (.rd (.t .h) rfl (.rd (.t (.t .h)) rfl (.rd (.t (.t (.t .h))) rfl (.rd (.t (.t (.t (.t .h)))) rfl (.rd (.t (.t (.t (.t (.t .h))))) rfl (.cons (.t (.t (.t (.t (.t (.t .h)))))) (.rd (.t (.t (.t (.t (.t (.t .h)))))) rfl (.rd (.t (.t (.t (.t (.t (.t (.t .h))))))) rfl (.rd (.t (.t (.t (.t (.t (.t (.t (.t .h)))))))) rfl .nil))))))))))⟩
     rw [hg44]
     try rw [hg44] at hF; dsimp only [cond_true, cond_false] at hF
     refine D_val rfl (.on 77 rfl rfl rfl) (fun ha => V_move (v := p6.1.v) (EN ha (.tmp rfl rfl) rfl)) ?_
     refine D_val rfl (.on 77 rfl rfl rfl) (fun ha => V_move (v := p6.2.2.1.v) (EN ha (.tmp rfl rfl) rfl)) ?_
     refine D_val rfl (.on 77 rfl rfl rfl) (fun ha => V_move (v := p6.2.2.2.2.1.v) (EN ha (.tmp rfl rfl) rfl)) ?_
     refine D_val rfl (.on 77 rfl rfl rfl) (fun ha => V_move (v := p6.2.2.2.2.2.2.1.v) (EN ha (.tmp rfl rfl) rfl)) ?_
     refine D_atO rfl (.on 77 rfl rfl rfl) (.t (.t (.t (.t (.t (.t .h)))))) (fun ha hp => V_loadBox ag46.h ty46.h.sz rfl (EN ha (.tmp rfl rfl) rfl) hp.2 rfl) ?_
     obtain ⟨r45, hx46, hF⟩ := bind_some hF
     refine D_act0 rfl rfl (.on 77 rfl rfl rfl) (.rd (.t (.t .h)) rfl (.rd (.t (.t (.t .h))) rfl (.rd (.t (.t (.t (.t .h)))) rfl (.rd (.t (.t (.t (.t (.t .h))))) rfl (.rd (.t (.t (.t (.t (.t (.t (.t .h))))))) rfl (.rd (.t (.t (.t (.t (.t (.t (.t (.t .h)))))))) rfl (.rd (.t (.t (.t (.t (.t (.t (.t (.t (.t .h))))))))) rfl .nil))))))) (.dep rfl (.dep rfl (.dep rfl .nil))) (fun ha => X_callS cf27.h (.cons (EN ha (.tmp rfl rfl) rfl) (.cons (EN ha (.tmp rfl rfl) rfl) (.cons (EN ha (.tmp rfl rfl) rfl) (.cons (EN ha (.tmp rfl rfl) rfl) (.cons (EN ha (.tmp rfl rfl) rfl) .nil))))) (i_IsReached_ok r4.1 p6.1 r4.2.1 p6.2.2.1 r4.2.2.1 p6.2.2.2.2.1 r4.2.2.2 p6.2.2.2.2.2.2.1 r11 p13.1 p13.2.1 p13.2.2 _ hx46)) (fun _ => ?_)
     refine D_val rfl (.on 77 rfl rfl rfl) (fun ha => V_not (b := r45) (EN ha (.tmp rfl rfl) rfl)) ?_
     refine D_val rfl .no (fun ha => V_pick (b := false) (u := (.bool true)) (v := (.bool (!r45))) (EN ha (.tmp rfl rfl) rfl) (EN ha (.bool _) rfl) (EN ha (.tmp rfl rfl) rfl)) ?_
     refine Dm (.bool (!r45)) rfl rfl rfl rfl ?_
     rcases Bool.eq_false_or_eq_true (!r45) with hg48 | hg48
     · rw [hg48]
       try rw [hg48] at hF; dsimp only [cond_true, cond_false] at hF
       iterate 9 refine D_off 86 rfl rfl rfl rfl ?_
       refine D_val rfl .no (fun ha => V_pick (b := true) (u := (.bool true)) (v := undef) (EN ha (.tmp rfl rfl) rfl) (EN ha (.bool _) rfl) (EN ha (.tmp rfl rfl) rfl)) ?_
       refine D_nil ?_
       obtain rfl := Option.some.inj hF
       exact ⟨_, _, rfl, (EqL.cons rfl (EqL.cons rfl (EqL.cons rfl (EqL.cons rfl (EqL.cons rfl (EqL.cons rfl (EqL.cons rfl (EqL.nil)))))))).eq, (.sel (.rd (.t .h) rfl (.rd (.t (.t .h)) rfl (.rd (.t (.t (.t .h))) rfl (.rd (.t (.t (.t (.t .h)))) rfl (.rd (.t (.t (.t (.t (.t .h))))) rfl (.cons (.t (.t (.t (.t (.t (.t .h)))))) (.rd (.t (.t (.t (.t (.t (.t .h)))))) rfl (.rd (.t (.t (.t (.t (.t (.t (.t .h))))))) rfl (.rd (.t (.t (.t (.t (.t (.t (.t (.t .h)))))))) rfl .nil))))))))))⟩
     rw [hg48]
     try rw [hg48] at hF; dsimp only [cond_true, cond_false] at hF
     refine D_val rfl (.on 86 rfl rfl rfl) (fun ha => V_move (v := p6.1.v) (EN ha (.tmp rfl rfl) rfl)) ?_
     refine D_val rfl (.on 86 rfl rfl rfl) (fun ha => V_move (v := p6.2.2.1.v) (EN ha (.tmp rfl rfl) rfl)) ?_
     refine D_val rfl (.on 86 rfl rfl rfl) (fun ha => V_fieldAddr (off := 0) fd46_0.h (EN ha (.tmp rfl rfl) rfl)) ?_
     refine D_atO rfl (.on 86 rfl rfl rfl) (.t (.t (.t (.t (.t (.t .h)))))) (fun ha hp => V_load (v := p13.1.v) ag28.h (EN ha (.tmp rfl rfl) rfl) hp.2 rfl rfl) ?_
     refine D_val rfl (.on 86 rfl rfl rfl) (fun ha => V_move (v := p6.2.2.2.2.2.2.1.v) (EN ha (.tmp rfl rfl) rfl)) ?_
     refine D_atO rfl (.on 86 rfl rfl rfl) (.t (.t (.t (.t (.t (.t .h)))))) (fun ha hp => V_loadBox ag46.h ty46.h.sz rfl (EN ha (.tmp rfl rfl) rfl) hp.2 rfl) ?_
     obtain ⟨r49, hx50, hF⟩ := bind_some hF
     refine D_act3 rfl rfl (.on 86 rfl rfl rfl) (.rd (.t (.t .h)) rfl (.rd (.t (.t (.t .h))) rfl (.rd (.t (.t (.t (.t (.t (.t (.t .h))))))) rfl (.rd (.t (.t (.t (.t (.t .h))))) rfl .nil)))) (.own (.t (.t (.t (.t (.t (.t .h)))))) (fun _ h => h) (.dep rfl (.dep rfl (.dep rfl (.dep rfl .nil))))) (fun ha => X_callS cf20.h (.cons (EN ha (.tmp rfl rfl) rfl) (.cons (EN ha (.tmp rfl rfl) rfl) (.cons (EN ha (.tmp rfl rfl) rfl) (.cons (EN ha (.tmp rfl rfl) rfl) .nil)))) (i_ReachAll_ok r4.1 p6.1 r4.2.1 p6.2.2.1 r11.Facts p13.1 r4.2.2.2 p6.2.2.2.2.2.2.1 _ hx50)) (fun p51 => ?_)
     obtain ⟨r52, hx53, hF⟩ := bind_some hF
     refine D_act3 rfl rfl (.on 86 rfl rfl rfl) (.cons (.t (.t .h)) (.cons (.t .h) (.cons .h (.rd (.t (.t (.t (.t (.t (.t (.t .h))))))) rfl (.rd (.t (.t (.t (.t (.t (.t (.t (.t .h)))))))) rfl (.rd (.t (.t (.t (.t (.t (.t (.t (.t (.t .h))))))))) rfl .nil)))))) (.dep rfl (.dep rfl (.dep rfl (.dep rfl (.dep rfl .nil))))) (fun ha => XC_borL (pre := _) (.cons frz_own (.cons frz_own (.cons frz_own .nil))) (fun _ => .nil) (X_callS cf22.h (.cons (EN ha (.tmp rfl rfl) rfl) (.cons (EN ha (.tmp rfl rfl) rfl) .nil)) (s_EqualReached_ok r49 p51.1 p51.2.2.1 p51.2.2.2.2.1 r11 p13.1 p13.2.1 p13.2.2 _ hx53))) (fun _ => ?_)
     refine D_val rfl (.on 86 rfl rfl rfl) (fun ha => V_not (b := r52) (EN ha (.tmp rfl rfl) rfl)) ?_
     refine D_val rfl .no (fun ha => V_pick (b := false) (u := (.bool true)) (v := (.bool (!r52))) (EN ha (.tmp rfl rfl) rfl) (EN ha (.bool _) rfl) (EN ha (.tmp rfl rfl) rfl)) ?_
     refine D_nil ?_
     obtain rfl := Option.some.inj hF
     exact ⟨_, _, rfl, (EqL.cons rfl (EqL.cons rfl (EqL.cons rfl (EqL.cons rfl (EqL.cons rfl (EqL.cons rfl (EqL.cons rfl (EqL.nil)))))))).eq, (.sel (.rd (.t (.t (.t (.t .h)))) rfl (.rd (.t (.t (.t (.t (.t .h))))) rfl (.rd (.t (.t (.t (.t (.t (.t .h)))))) rfl (.rd (.t (.t (.t (.t (.t (.t (.t .h))))))) rfl (.rd (.t (.t (.t (.t (.t (.t (.t (.t .h)))))))) rfl (.cons (.t (.t (.t (.t (.t (.t (.t (.t (.t .h))))))))) (.rd (.t (.t (.t (.t (.t (.t (.t (.t (.t .h))))))))) rfl (.rd (.t (.t (.t (.t (.t (.t (.t (.t (.t (.t .h)))))))))) rfl (.rd (.t (.t (.t (.t (.t (.t (.t (.t (.t (.t (.t .h))))))))))) rfl .nil))))))))))⟩
   rintro _ _ ⟨c55, g161, rfl, rfl, hE⟩
   replace hF := hO40
   clear hO40
   try dsimp only at hF
   refine K_ent hE ?_
   refine CW_cond (b := c55) (.tmp rfl rfl) (fun hb160 => ?_) (fun hb160 => ?_)
   · rw [if_pos hb160] at hF
     refine K_region (C_val (V_assign (v := (.bool false)) (.bool _)) ?_)
     refine C_nil (CW_ret ?_)
     obtain rfl := Option.some.inj hF
     exact End_ret () (.tmp rfl rfl .nil) rfl (.sel .nil)
   rw [if_neg (by rw [hb160]; exact Bool.false_ne_true)] at hF
   refine CW_skip (K_in (K_region (C_val (V_assign (v := (.int .i64 0)) (.int _ _)) ?_)))
   refine C_nil (CW_block (CW_loop (m := r11.Facts.length) (fun m57 f' cs' => ∃ (g : Fr) (k59 : Nat) (rest60 : List Fact), m57 = rest60.length ∧ f' = updL g [(0, v0_0.v), (3, p6.1.v), (4, p6.2.2.1.v), (5, p6.2.2.2.2.1.v), (6, p6.2.2.2.2.2.2.1.v), (8, (.pointer (some ⟨k14, 0, some 0⟩))), (9, (.int .i64 (k59 : Int)))] ∧ List.drop k59 r11.Facts = rest60 ∧ Ent cs' [crd (RdS 5 rdU8) v0_0.v a_code, crd (RdS 3 rdInt) p6.1.v r4.1, crd (RdS 97 rd97) p6.2.2.1.v r4.2.1, crd (RdS 58 rd58) p6.2.2.2.2.1.v r4.2.2.1, crd (RdS 3 rdInt) p6.2.2.2.2.2.2.1.v r4.2.2.2, cbox k14 46 (.agg [p13.1.v, p13.2.1.v, p13.2.2.v, (.int .i64 r11.Rounds)].toArray), crd (RdS 58 rd58) p13.1.v r11.Facts, crd (RdS 3 rdInt) p13.2.1.v r11.Values, crd (RdS 54 rd54) p13.2.2.v r11.Log] ∧ l_FnReaches_L1 a_code fuel r4 r11 rest60 k59 = some R) ⟨_, 0, _, rfl, (EqL.cons rfl (EqL.cons rfl (EqL.cons rfl (EqL.cons rfl (EqL.cons rfl (EqL.cons rfl (EqL.cons rfl (EqL.nil)))))))).eq, rfl, (.sel (.rd .h rfl (.rd (.t .h) rfl (.rd (.t (.t .h)) rfl (.rd (.t (.t (.t .h))) rfl (.rd (.t (.t (.t (.t .h)))) rfl (.cons (.t (.t (.t (.t (.t .h))))) (.rd (.t (.t (.t (.t (.t .h))))) rfl (.rd (.t (.t (.t (.t (.t (.t .h)))))) rfl (.rd (.t (.t (.t (.t (.t (.t (.t .h))))))) rfl .nil)))))))))), hF⟩ ?_))
   clear hF
   rintro m57 _ _ ⟨g58, k59, rest60, rfl, rfl, hd62, hE, hF⟩
   refine K_ent hE ?_
   clear hE
   refine K_pure (c := crd (RdS 58 rd58) p13.1.v r11.Facts) (.t (.t (.t (.t (.t (.t .h)))))) crd_bound (fun hbd67 => ?_)
   rcases rest60 with _ | ⟨x61, rest60⟩
   · have hk63 := List.drop_eq_nil_iff.1 hd62
     have hfe66 : (decide (((k59 : Int) : Int) < (r11.Facts.length : Int))) = false := decide_eq_false (by omega)
     rw [l_FnReaches_L1] at hF
     refine K_in (K_region (Cm (.int .i64 (k59 : Int)) rfl rfl ?_))
     refine C_val (V_fieldAddr (off := 0) fd46_0.h (.tmp rfl rfl)) ?_
     refine C_at (.t (.t (.t (.t (.t .h))))) (fun hp => V_load (v := p13.1.v) ag28.h (.tmp rfl rfl) hp.2 rfl rfl) ?_
     refine C_at (.t (.t (.t (.t (.t (.t .h)))))) (fun hp => V_lenR (l := r11.Facts.length) sl28.h (.tmp rfl rfl) (crd_len hp)) ?_
     refine C_val (V_lss (i := (k59 : Int)) (j := (r11.Facts.length : Int)) (.tmp rfl rfl) (.tmp rfl rfl)) ?_
     refine C_nil (CW_cond (b := (decide (((k59 : Int) : Int) < (r11.Facts.length : Int)))) (.tmp rfl rfl) (fun hb => absurd (hfe66.symm.trans hb) (by decide)) (fun _ => ?_))
     refine CW_exit ?_
     iterate 2 refine CThen_exit ?_
     refine CIn_self ?_
     obtain ⟨o68, hio68, hO69⟩ := bind_some hF
     refine K_draw [0, 1, 2, 3, 4, 5, 6, 7, 8, 11, 12, 9, 10, 13, 14, 15] [0, 1, 3, 7, 15, 15, 15, 79, 15, 511, 1023, 15, 2063, 8191, 16383, 32767] [9, 13] mixed (by decide +kernel) ?_
     refine D_cut (fun f' cs' => ∃ (c81 : Bool) (g : Fr), c81 = o68 ∧ f' = updL g [(0, v0_0.v), (6, p6.2.2.2.2.2.2.1.v), (148, (.bool c81))] ∧ Ent cs' [crd (RdS 5 rdU8) v0_0.v a_code, crd (RdS 3 rdInt) p6.2.2.2.2.2.2.1.v r4.2.2.2]) ?_ ?_
     · replace hF := hio68
       refine Dm p6.2.2.2.2.1.v rfl rfl rfl rfl ?_
       refine D_at rfl .no (.t (.t (.t .h))) rfl (fun ha hp => V_lenR (l := r4.2.2.1.length) sl28.h (EN ha (.tmp rfl rfl) rfl) (crd_len hp)) ?_
       refine D_val rfl .no (fun ha => V_gtr (i := (r4.2.2.1.length : Int)) (j := 0) (EN ha (.tmp rfl rfl) rfl) (EN ha (.int _ _) rfl)) ?_
       refine Dm (.bool (decide ((0 : Int) < (r4.2.2.1.length : Int)))) rfl rfl rfl rfl ?_
       rcases Bool.eq_false_or_eq_true (decide ((0 : Int) < (r4.2.2.1.length : Int))) with hg70 | hg70
       · rw [hg70]
         try rw [hg70] at hF; dsimp only [cond_true, cond_false] at hF
         refine D_val rfl (.on 136 rfl rfl rfl) (fun ha => V_move (v := p6.1.v) (EN ha (.tmp rfl rfl) rfl)) ?_
         refine D_val rfl (.on 136 rfl rfl rfl) (fun ha => V_move (v := p6.2.2.1.v) (EN ha (.tmp rfl rfl) rfl)) ?_
         refine D_val rfl (.on 136 rfl rfl rfl) (fun ha => V_move (v := p6.2.2.2.2.1.v) (EN ha (.tmp rfl rfl) rfl)) ?_
         obtain ⟨u72, hx74, hF⟩ := bind_some hF
         have hc71 := chk_some hx74
         simp only [Bool.and_eq_true, decide_eq_true_eq] at hc71
         refine D_sliceLoR sl28.h ty58.h.sz rfl (.on 136 rfl rfl rfl) (.tmp rfl rfl) (.int _ _) rfl rfl (.t (.t (.t .h))) hc71.1 hc71.2 (fun w73 => ?_)
         refine D_val rfl (.on 136 rfl rfl rfl) (fun ha => V_move (v := p6.2.2.2.2.2.2.1.v) (EN ha (.tmp rfl rfl) rfl)) ?_
         refine D_val rfl (.on 136 rfl rfl rfl) (fun ha => V_fieldAddr (off := 0) fd46_0.h (EN ha (.tmp rfl rfl) rfl)) ?_
         refine D_atO rfl (.on 136 rfl rfl rfl) (.t (.t (.t (.t (.t (.t .h)))))) (fun ha hp => V_load (v := p13.1.v) ag28.h (EN ha (.tmp rfl rfl) rfl) hp.2 rfl rfl) ?_
         obtain ⟨r75, hx76, hF⟩ := bind_some hF
         refine D_act3 rfl rfl (.on 136 rfl rfl rfl) (.rd (.t (.t .h)) rfl (.rd (.t (.t (.t .h))) rfl (.rd .h rfl (.rd (.t (.t (.t (.t (.t .h))))) rfl .nil)))) (.own (.t (.t (.t (.t (.t (.t .h)))))) (fun _ h => h) .nil) (fun ha => X_callS cf20.h (.cons (EN ha (.tmp rfl rfl) rfl) (.cons (EN ha (.tmp rfl rfl) rfl) (.cons (EN ha (.tmp rfl rfl) rfl) (.cons (EN ha (.tmp rfl rfl) rfl) .nil)))) (i_ReachAll_ok r4.1 p6.1 r4.2.1 p6.2.2.1 (r4.2.2.1.drop (1 : Int).toNat) w73 r4.2.2.2 p6.2.2.2.2.2.2.1 _ hx76)) (fun p77 => ?_)
         refine D_val rfl (.on 136 rfl rfl rfl) (fun ha => V_field (v := p77.1.v) fdt46_0 ag28.h (EN ha (.tmp rfl rfl) rfl) rfl) ?_
         obtain ⟨r78, hx79, hF⟩ := bind_some hF
         refine D_act1 rfl rfl (.on 136 rfl rfl rfl) (.cons .h (.rd (.t (.t (.t (.t (.t (.t (.t (.t (.t .h))))))))) rfl .nil)) (.dep rfl .nil) (fun ha => XC_bor frz_own (fun _ => .nil) (X_callS cf23.h (.cons (EN ha (.tmp rfl rfl) rfl) (.cons (EN ha (.tmp rfl rfl) rfl) .nil)) (l_inside_ok r75.Facts p77.1 r11.Facts p13.1 _ hx79))) (fun _ => ?_)
         refine D_val rfl (.on 136 rfl rfl rfl) (fun ha => V_not (b := r78) (EN ha (.tmp rfl rfl) rfl)) ?_
         refine D_val rfl .no (fun ha => V_pick (b := true) (u := (.bool (!r78))) (v := (.bool false)) (EN ha (.tmp rfl rfl) rfl) (EN ha (.tmp rfl rfl) rfl) (EN ha (.bool _) rfl)) ?_
         refine D_nil ?_
         obtain rfl := Option.some.inj hF
         exact ⟨_, _, rfl, (EqL.cons rfl (EqL.cons rfl (EqL.cons rfl (EqL.nil)))).eq, (.sel (.rd (.t (.t (.t (.t .h)))) rfl (.rd (.t (.t (.t (.t (.t (.t (.t (.t .h)))))))) rfl .nil)))⟩
       rw [hg70]
       try rw [hg70] at hF; dsimp only [cond_true, cond_false] at hF
       iterate 11 refine D_off 136 rfl rfl rfl rfl ?_
       refine D_val rfl .no (fun ha => V_pick (b := false) (u := undef) (v := (.bool false)) (EN ha (.tmp rfl rfl) rfl) (EN ha (.tmp rfl rfl) rfl) (EN ha (.bool _) rfl)) ?_
       refine D_nil ?_
       obtain rfl := Option.some.inj hF
       exact ⟨_, _, rfl, (EqL.cons rfl (EqL.cons rfl (EqL.cons rfl (EqL.nil)))).eq, (.sel (.rd .h rfl (.rd (.t (.t (.t (.t .h)))) rfl .nil)))⟩
     rintro _ _ ⟨c81, g136, rfl, rfl, hE⟩
     replace hF := hO69
     clear hO69
     try dsimp only at hF
     refine K_ent hE ?_
     refine CW_cond (b := c81) (.tmp rfl rfl) (fun hb135 => ?_) (fun hb135 => ?_)
     · rw [if_pos hb135] at hF
       refine K_region (C_val (V_assign (v := (.bool false)) (.bool _)) ?_)
       refine C_nil (CW_ret ?_)
       obtain rfl := Option.some.inj hF
       exact End_ret () (.tmp rfl rfl .nil) rfl (.sel .nil)
     rw [if_neg (by rw [hb135]; exact Bool.false_ne_true)] at hF
     refine CW_skip (K_region (Cm v0_0.v rfl rfl ?_))
     obtain ⟨r82, hx83, hF⟩ := bind_some hF
     refine C_x6 (.rd .h rfl .nil) (X_callS cf31.h (.cons (.tmp rfl rfl) .nil) (s_DrawStepReach_ok fuel a_code v0_0 _ hx83)) (fun p84 => ?_)
     refine Cm (.tuple [p84.1.v, p84.2.1.v, p84.2.2.1.v, (.agg [p84.2.2.2.1.v, p84.2.2.2.2.2.1.v, p84.2.2.2.2.2.2.2.v, (.int .i64 r82.2.2.2.Rounds)].toArray)].toArray) rfl rfl ?_
     refine C_val (V_extract (l := [p84.1.v, p84.2.1.v, p84.2.2.1.v, (.agg [p84.2.2.2.1.v, p84.2.2.2.2.2.1.v, p84.2.2.2.2.2.2.2.v, (.int .i64 r82.2.2.2.Rounds)].toArray)]) (v := p84.1.v) (.tmp rfl rfl) rfl) ?_
     refine C_val (V_extract (l := [p84.1.v, p84.2.1.v, p84.2.2.1.v, (.agg [p84.2.2.2.1.v, p84.2.2.2.2.2.1.v, p84.2.2.2.2.2.2.2.v, (.int .i64 r82.2.2.2.Rounds)].toArray)]) (v := p84.2.1.v) (.tmp rfl rfl) rfl) ?_
     refine C_val (V_extract (l := [p84.1.v, p84.2.1.v, p84.2.2.1.v, (.agg [p84.2.2.2.1.v, p84.2.2.2.2.2.1.v, p84.2.2.2.2.2.2.2.v, (.int .i64 r82.2.2.2.Rounds)].toArray)]) (v := p84.2.2.1.v) (.tmp rfl rfl) rfl) ?_
     refine C_val (V_extract (l := [p84.1.v, p84.2.1.v, p84.2.2.1.v, (.agg [p84.2.2.2.1.v, p84.2.2.2.2.2.1.v, p84.2.2.2.2.2.2.2.v, (.int .i64 r82.2.2.2.Rounds)].toArray)]) (v := (.agg [p84.2.2.2.1.v, p84.2.2.2.2.2.1.v, p84.2.2.2.2.2.2.2.v, (.int .i64 r82.2.2.2.Rounds)].toArray)) (.tmp rfl rfl) rfl) ?_
     refine C_new rfl (N_allocT (g := true) ty46.h rfl rfl) (fun k85 => ?_)
     refine Ca p84.1.v rfl rfl ?_
     refine Ca p84.2.1.v rfl rfl ?_
     refine Ca p84.2.2.1.v rfl rfl ?_
     refine C_x1 (.cons .h .nil) (X_storeB (e' := (.agg [p84.2.2.2.1.v, p84.2.2.2.2.2.1.v, p84.2.2.2.2.2.2.2.v, (.int .i64 r82.2.2.2.Rounds)].toArray)) (v := (.agg [p84.2.2.2.1.v, p84.2.2.2.2.2.1.v, p84.2.2.2.2.2.2.2.v, (.int .i64 r82.2.2.2.Rounds)].toArray)) ty46.h.sz (.tmp rfl rfl) (.tmp rfl rfl) rfl rfl rfl rfl rfl) (fun _ => ?_)
     refine C_nil (K_region (Cm p84.1.v rfl rfl ?_))
     refine Cm p84.2.1.v rfl rfl ?_
     refine Cm p84.2.2.1.v rfl rfl ?_
     refine C_at .h (fun hp => V_loadBox ag46.h ty46.h.sz rfl (.tmp rfl rfl) hp.2 rfl) ?_
     obtain ⟨r86, hx87, hF⟩ := bind_some hF
     refine C_x5 (.cons (.t (.t (.t (.t (.t .h))))) (.cons (.t (.t (.t (.t .h)))) (.rd (.t .h) rfl (.rd (.t (.t .h)) rfl (.rd (.t (.t (.t .h))) rfl (.rd (.t (.t (.t (.t .h)))) rfl .nil)))))) (XC_borL (pre := _) (.cons frz_own (.cons frz_own .nil)) (fun _ => (.cons (.cons (.cons .nil)))) (XC_pre (.rd (.t (.t .h)) rfl (.rd (.t (.t (.t .h))) rfl (.rd (.t (.t (.t (.t .h)))) rfl (.rd .h rfl (.rd (.t .h) rfl (.rd (.t (.t (.t (.t (.t .h))))) rfl .nil)))))) (X_callS cf32.h (.cons (.tmp rfl rfl) (.cons (.tmp rfl rfl) (.cons (.tmp rfl rfl) (.cons (.tmp rfl rfl) .nil)))) (i_StepReach_ok r82.1 p84.1 r82.2.1 p84.2.1 r82.2.2.1 p84.2.2.1 r82.2.2.2 p84.2.2.2.1 p84.2.2.2.2.2.1 p84.2.2.2.2.2.2.2 _ hx87)))) (fun p88 => ?_)
     refine Cm (.tuple [(.agg [p88.1.v, p88.2.2.1.v, p88.2.2.2.2.1.v, (.int .i64 r86.1.Rounds)].toArray), (.bool r86.2)].toArray) rfl rfl ?_
     refine C_val (V_extract (l := [(.agg [p88.1.v, p88.2.2.1.v, p88.2.2.2.2.1.v, (.int .i64 r86.1.Rounds)].toArray), (.bool r86.2)]) (v := (.agg [p88.1.v, p88.2.2.1.v, p88.2.2.2.2.1.v, (.int .i64 r86.1.Rounds)].toArray)) (.tmp rfl rfl) rfl) ?_
     refine C_val (V_extract (l := [(.agg [p88.1.v, p88.2.2.1.v, p88.2.2.2.2.1.v, (.int .i64 r86.1.Rounds)].toArray), (.bool r86.2)]) (v := (.bool r86.2)) (.tmp rfl rfl) rfl) ?_
     refine C_new rfl (N_allocT (g := true) ty46.h rfl rfl) (fun k89 => ?_)
     refine C_x1 (.cons .h .nil) (X_storeB (e' := (.agg [p88.1.v, p88.2.2.1.v, p88.2.2.2.2.1.v, (.int .i64 r86.1.Rounds)].toArray)) (v := (.agg [p88.1.v, p88.2.2.1.v, p88.2.2.2.2.1.v, (.int .i64 r86.1.Rounds)].toArray)) ty46.h.sz (.tmp rfl rfl) (.tmp rfl rfl) rfl rfl rfl rfl rfl) (fun _ => ?_)
     refine Ca (.bool r86.2) rfl rfl ?_
     refine C_nil ?_
     iterate 2 refine K_frz (.t (.t .h)) frz_own ?_
     refine K_region (Cm p84.1.v rfl rfl ?_)
     refine Cm p84.2.1.v rfl rfl ?_
     refine Cm p84.2.2.1.v rfl rfl ?_
     refine C_at (.t (.t (.t (.t (.t (.t .h)))))) (fun hp => V_loadBox ag46.h ty46.h.sz rfl (.tmp rfl rfl) hp.2 rfl) ?_
     obtain ⟨r90, hx91, hF⟩ := bind_some hF
     refine C_x3 (.rd (.t (.t (.t (.t (.t (.t (.t .h))))))) rfl (.rd (.t (.t (.t (.t (.t (.t (.t (.t .h)))))))) rfl (.rd (.t (.t (.t (.t (.t (.t (.t (.t (.t .h))))))))) rfl (.rd (.t .h) rfl (.rd .h rfl (.rd (.t (.t (.t (.t (.t (.t (.t (.t (.t (.t .h)))))))))) rfl .nil)))))) (X_callS cf33.h (.cons (.tmp rfl rfl) (.cons (.tmp rfl rfl) (.cons (.tmp rfl rfl) (.cons (.tmp rfl rfl) .nil)))) (s_StepReach_ok r82.1 p84.1 r82.2.1 p84.2.1 r82.2.2.1 p84.2.2.1 r82.2.2.2 p84.2.2.2.1 p84.2.2.2.2.2.1 p84.2.2.2.2.2.2.2 _ hx91)) (fun p92 => ?_)
     refine Cm (.tuple [(.agg [p92.1.v, p92.2.2.1.v, p92.2.2.2.2.v, (.int .i64 r90.1.Rounds)].toArray), (.bool r90.2)].toArray) rfl rfl ?_
     refine C_val (V_extract (l := [(.agg [p92.1.v, p92.2.2.1.v, p92.2.2.2.2.v, (.int .i64 r90.1.Rounds)].toArray), (.bool r90.2)]) (v := (.agg [p92.1.v, p92.2.2.1.v, p92.2.2.2.2.v, (.int .i64 r90.1.Rounds)].toArray)) (.tmp rfl rfl) rfl) ?_
     refine C_val (V_extract (l := [(.agg [p92.1.v, p92.2.2.1.v, p92.2.2.2.2.v, (.int .i64 r90.1.Rounds)].toArray), (.bool r90.2)]) (v := (.bool r90.2)) (.tmp rfl rfl) rfl) ?_
     refine C_new rfl (N_allocT (g := true) ty46.h rfl rfl) (fun k93 => ?_)
     refine C_x1 (.cons .h .nil) (X_storeB (e' := (.agg [p92.1.v, p92.2.2.1.v, p92.2.2.2.2.v, (.int .i64 r90.1.Rounds)].toArray)) (v := (.agg [p92.1.v, p92.2.2.1.v, p92.2.2.2.2.v, (.int .i64 r90.1.Rounds)].toArray)) ty46.h.sz (.tmp rfl rfl) (.tmp rfl rfl) rfl rfl rfl rfl rfl) (fun _ => ?_)
     refine Ca (.bool r90.2) rfl rfl ?_
     refine C_nil (K_region (Cm v0_0.v rfl rfl ?_))
     obtain ⟨r94, hx95, hF⟩ := bind_some hF
     refine C_x6 (.rd (.t (.t (.t (.t (.t (.t (.t (.t (.t (.t (.t (.t (.t (.t (.t .h))))))))))))))) rfl .nil) (X_callS cf34.h (.cons (.tmp rfl rfl) .nil) (s_DrawEqualReached_ok fuel a_code v0_0 _ hx95)) (fun p96 => ?_)
     refine Cm (.tuple [(.agg [p96.1.v, p96.2.1.v, p96.2.2.1.v, (.int .i64 r94.1.Rounds)].toArray), (.agg [p96.2.2.2.1.v, p96.2.2.2.2.1.v, p96.2.2.2.2.2.v, (.int .i64 r94.2.Rounds)].toArray)].toArray) rfl rfl ?_
     refine C_val (V_extract (l := [(.agg [p96.1.v, p96.2.1.v, p96.2.2.1.v, (.int .i64 r94.1.Rounds)].toArray), (.agg [p96.2.2.2.1.v, p96.2.2.2.2.1.v, p96.2.2.2.2.2.v, (.int .i64 r94.2.Rounds)].toArray)]) (v := (.agg [p96.1.v, p96.2.1.v, p96.2.2.1.v, (.int .i64 r94.1.Rounds)].toArray)) (.tmp rfl rfl) rfl) ?_
     refine C_val (V_extract (l := [(.agg [p96.1.v, p96.2.1.v, p96.2.2.1.v, (.int .i64 r94.1.Rounds)].toArray), (.agg [p96.2.2.2.1.v, p96.2.2.2.2.1.v, p96.2.2.2.2.2.v, (.int .i64 r94.2.Rounds)].toArray)]) (v := (.agg [p96.2.2.2.1.v, p96.2.2.2.2.1.v, p96.2.2.2.2.2.v, (.int .i64 r94.2.Rounds)].toArray)) (.tmp rfl rfl) rfl) ?_
     refine C_new rfl (N_allocT (g := true) ty46.h rfl rfl) (fun k97 => ?_)
     refine C_new rfl (N_allocT (g := true) ty46.h rfl rfl) (fun k98 => ?_)
     refine C_x1 (.cons (.t .h) .nil) (X_storeB (e' := (.agg [p96.1.v, p96.2.1.v, p96.2.2.1.v, (.int .i64 r94.1.Rounds)].toArray)) (v := (.agg [p96.1.v, p96.2.1.v, p96.2.2.1.v, (.int .i64 r94.1.Rounds)].toArray)) ty46.h.sz (.tmp rfl rfl) (.tmp rfl rfl) rfl rfl rfl rfl rfl) (fun _ => ?_)
     refine C_x1 (.cons (.t .h) .nil) (X_storeB (e' := (.agg [p96.2.2.2.1.v, p96.2.2.2.2.1.v, p96.2.2.2.2.2.v, (.int .i64 r94.2.Rounds)].toArray)) (v := (.agg [p96.2.2.2.1.v, p96.2.2.2.2.1.v, p96.2.2.2.2.2.v, (.int .i64 r94.2.Rounds)].toArray)) ty46.h.sz (.tmp rfl rfl) (.tmp rfl rfl) rfl rfl rfl rfl rfl) (fun _ => ?_)
     refine C_nil (K_region (Cm v0_0.v rfl rfl ?_))
     obtain ⟨r99, hx100, hF⟩ := bind_some hF
     refine C_x7 (.rd (.t (.t (.t (.t (.t (.t (.t (.t (.t (.t (.t (.t (.t (.t (.t (.t (.t (.t (.t (.t (.t (.t (.t .h))))))))))))))))))))))) rfl .nil) (X_callS cf35.h (.cons (.tmp rfl rfl) .nil) (s_DrawIsReached_ok fuel a_code v0_0 _ hx100)) (fun p101 => ?_)
     refine Cm (.tuple [p101.1.v, p101.2.1.v, p101.2.2.1.v, p101.2.2.2.1.v, (.agg [p101.2.2.2.2.2.1.v, p101.2.2.2.2.2.2.2.1.v, p101.2.2.2.2.2.2.2.2.2.v, (.int .i64 r99.2.2.2.2.Rounds)].toArray)].toArray) rfl rfl ?_
     refine C_val (V_extract (l := [p101.1.v, p101.2.1.v, p101.2.2.1.v, p101.2.2.2.1.v, (.agg [p101.2.2.2.2.2.1.v, p101.2.2.2.2.2.2.2.1.v, p101.2.2.2.2.2.2.2.2.2.v, (.int .i64 r99.2.2.2.2.Rounds)].toArray)]) (v := p101.1.v) (.tmp rfl rfl) rfl) ?_
     refine C_val (V_extract (l := [p101.1.v, p101.2.1.v, p101.2.2.1.v, p101.2.2.2.1.v, (.agg [p101.2.2.2.2.2.1.v, p101.2.2.2.2.2.2.2.1.v, p101.2.2.2.2.2.2.2.2.2.v, (.int .i64 r99.2.2.2.2.Rounds)].toArray)]) (v := p101.2.1.v) (.tmp rfl rfl) rfl) ?_
     refine C_val (V_extract (l := [p101.1.v, p101.2.1.v, p101.2.2.1.v, p101.2.2.2.1.v, (.agg [p101.2.2.2.2.2.1.v, p101.2.2.2.2.2.2.2.1.v, p101.2.2.2.2.2.2.2.2.2.v, (.int .i64 r99.2.2.2.2.Rounds)].toArray)]) (v := p101.2.2.1.v) (.tmp rfl rfl) rfl) ?_
     refine C_val (V_extract (l := [p101.1.v, p101.2.1.v, p101.2.2.1.v, p101.2.2.2.1.v, (.agg [p101.2.2.2.2.2.1.v, p101.2.2.2.2.2.2.2.1.v, p101.2.2.2.2.2.2.2.2.2.v, (.int .i64 r99.2.2.2.2.Rounds)].toArray)]) (v := p101.2.2.2.1.v) (.tmp rfl rfl) rfl) ?_
     refine C_val (V_extract (l := [p101.1.v, p101.2.1.v, p101.2.2.1.v, p101.2.2.2.1.v, (.agg [p101.2.2.2.2.2.1.v, p101.2.2.2.2.2.2.2.1.v, p101.2.2.2.2.2.2.2.2.2.v, (.int .i64 r99.2.2.2.2.Rounds)].toArray)]) (v := (.agg [p101.2.2.2.2.2.1.v, p101.2.2.2.2.2.2.2.1.v, p101.2.2.2.2.2.2.2.2.2.v, (.int .i64 r99.2.2.2.2.Rounds)].toArray)) (.tmp rfl rfl) rfl) ?_
     refine C_new rfl (N_allocT (g := true) ty46.h rfl rfl) (fun k102 => ?_)
     refine Ca p101.1.v rfl rfl ?_
     refine Ca p101.2.1.v rfl rfl ?_
     refine Ca p101.2.2.1.v rfl rfl ?_
     refine Ca p101.2.2.2.1.v rfl rfl ?_
     refine C_x1 (.cons .h .nil) (X_storeB (e' := (.agg [p101.2.2.2.2.2.1.v, p101.2.2.2.2.2.2.2.1.v, p101.2.2.2.2.2.2.2.2.2.v, (.int .i64 r99.2.2.2.2.Rounds)].toArray)) (v := (.agg [p101.2.2.2.2.2.1.v, p101.2.2.2.2.2.2.2.1.v, p101.2.2.2.2.2.2.2.2.2.v, (.int .i64 r99.2.2.2.2.Rounds)].toArray)) ty46.h.sz (.tmp rfl rfl) (.tmp rfl rfl) rfl rfl rfl rfl rfl) (fun _ => ?_)
     refine C_nil ?_
     obtain ⟨o103, hio103, hO104⟩ := bind_some hF
     refine K_draw [0, 1, 2, 3, 4, 5, 6, 7, 8, 9, 10, 12, 13, 11, 14, 15, 16, 17, 18, 19, 20, 21, 22, 24, 25, 26, 27, 28, 23, 29, 30, 31, 32, 33, 35, 34, 36, 37, 38, 39] [0, 0, 3, 7, 15, 15, 63, 127, 255, 511, 511, 2047, 511, 511, 16383, 32767, 65535, 131071, 262143, 262143, 262143, 262143, 262143, 8388607, 262143, 262143, 262143, 262143, 262143, 536870911, 1073741823, 2147483647, 4294967295, 8589934591, 17179869183, 8589934591, 68719476735, 137438953471, 274877906943, 549755813887] [6, 11, 14, 23, 29, 34, 36, 37] mixed (by decide +kernel) ?_
     refine D_cut (fun f' cs' => ∃ (c133 : Bool) (g : Fr), c133 = o103 ∧ f' = updL g [(2, (.bool c133))] ∧ Ent cs' []) ?_ ?_
     · replace hF := hio103
       refine Dm (.bool r86.2) rfl rfl rfl rfl ?_
       refine Dm (.bool r90.2) rfl rfl rfl rfl ?_
       refine D_val rfl .no (fun ha => V_eqB (a := r86.2) (b := r90.2) Tryz.underlying4 (EN ha (.tmp rfl rfl) rfl) (EN ha (.tmp rfl rfl) rfl)) ?_
       refine Dm (.bool (r86.2 == r90.2)) rfl rfl rfl rfl ?_
       rcases Bool.eq_false_or_eq_true (r86.2 == r90.2) with hg105 | hg105
       · rw [hg105]
         try rw [hg105] at hF; dsimp only [cond_true, cond_false] at hF
         refine D_atO rfl (.on 188 rfl rfl rfl) (.t (.t (.t (.t (.t (.t (.t (.t (.t (.t (.t (.t (.t (.t (.t (.t (.t (.t (.t (.t (.t (.t .h)))))))))))))))))))))) (fun ha hp => V_loadBox ag46.h ty46.h.sz rfl (EN ha (.tmp rfl rfl) rfl) hp.2 rfl) ?_
         refine D_atO rfl (.on 188 rfl rfl rfl) (.t (.t (.t (.t (.t (.t (.t (.t (.t (.t (.t (.t (.t (.t (.t (.t .h)))))))))))))))) (fun ha hp => V_loadBox ag46.h ty46.h.sz rfl (EN ha (.tmp rfl rfl) rfl) hp.2 rfl) ?_
         obtain ⟨r106, hx107, hF⟩ := bind_some hF
         refine D_act5 rfl rfl (.on 188 rfl rfl rfl) (.cons (.t (.t (.t (.t (.t (.t (.t (.t (.t (.t (.t (.t (.t (.t (.t (.t (.t (.t .h)))))))))))))))))) (.cons (.t (.t (.t (.t (.t (.t (.t (.t (.t (.t (.t (.t (.t (.t (.t (.t (.t .h))))))))))))))))) (.cons (.t (.t (.t (.t (.t (.t (.t (.t (.t (.t (.t (.t (.t (.t (.t (.t (.t (.t (.t (.t (.t (.t (.t .h))))))))))))))))))))))) (.cons (.t (.t (.t (.t (.t (.t (.t (.t (.t (.t (.t (.t (.t (.t (.t (.t (.t (.t (.t (.t (.t (.t .h)))))))))))))))))))))) (.cons (.t (.t (.t (.t (.t (.t (.t (.t (.t (.t (.t (.t (.t (.t (.t (.t (.t (.t (.t (.t (.t .h))))))))))))))))))))) (.rd (.t (.t (.t (.t (.t (.t (.t (.t (.t (.t (.t (.t (.t (.t (.t (.t (.t .h))))))))))))))))) rfl .nil)))))) (.dep rfl (.dep rfl .nil)) (fun ha => XC_borL (pre := _) (.cons frz_own (.cons frz_own (.cons frz_own (.cons frz_own (.cons frz_own .nil))))) (fun _ => .nil) (X_callS cf22.h (.cons (EN ha (.tmp rfl rfl) rfl) (.cons (EN ha (.tmp rfl rfl) rfl) .nil)) (s_EqualReached_ok r86.1 p88.1 p88.2.2.1 p88.2.2.2.2.1 r90.1 p92.1 p92.2.2.1 p92.2.2.2.2 _ hx107))) (fun _ => ?_)
         refine D_val rfl .no (fun ha => V_pick (b := true) (u := (.bool r106)) (v := (.bool false)) (EN ha (.tmp rfl rfl) rfl) (EN ha (.tmp rfl rfl) rfl) (EN ha (.bool _) rfl)) ?_
         refine Dm (.bool r106) rfl rfl rfl rfl ?_
         rcases Bool.eq_false_or_eq_true r106 with hg109 | hg109
         · rw [hg109]
           try rw [hg109] at hF; dsimp only [cond_true, cond_false] at hF
           refine D_atO rfl (.on 193 rfl rfl rfl) (.t (.t (.t (.t (.t (.t (.t (.t (.t (.t (.t (.t (.t (.t .h)))))))))))))) (fun ha hp => V_loadBox ag46.h ty46.h.sz rfl (EN ha (.tmp rfl rfl) rfl) hp.2 rfl) ?_
           refine D_atO rfl (.on 193 rfl rfl rfl) (.t (.t (.t (.t (.t (.t (.t (.t (.t (.t (.t (.t (.t .h))))))))))))) (fun ha hp => V_loadBox ag46.h ty46.h.sz rfl (EN ha (.tmp rfl rfl) rfl) hp.2 rfl) ?_
           refine D_atO rfl (.on 193 rfl rfl rfl) (.t (.t (.t (.t (.t (.t (.t (.t (.t (.t (.t (.t (.t (.t .h)))))))))))))) (fun ha hp => V_loadBox ag46.h ty46.h.sz rfl (EN ha (.tmp rfl rfl) rfl) hp.2 rfl) ?_
           refine D_atO rfl (.on 193 rfl rfl rfl) (.t (.t (.t (.t (.t (.t (.t (.t (.t (.t (.t (.t (.t .h))))))))))))) (fun ha hp => V_loadBox ag46.h ty46.h.sz rfl (EN ha (.tmp rfl rfl) rfl) hp.2 rfl) ?_
           obtain ⟨r110, hx111, hF⟩ := bind_some hF
           refine D_act0 rfl rfl (.on 193 rfl rfl rfl) (.rd (.t (.t (.t (.t (.t (.t (.t (.t (.t (.t (.t (.t (.t (.t (.t .h))))))))))))))) rfl (.rd (.t (.t (.t (.t (.t (.t (.t (.t (.t (.t (.t (.t (.t (.t (.t (.t .h)))))))))))))))) rfl (.rd (.t (.t (.t (.t (.t (.t (.t (.t (.t (.t (.t (.t (.t (.t (.t (.t (.t .h))))))))))))))))) rfl (.rd (.t (.t (.t (.t (.t (.t (.t (.t (.t (.t (.t (.t (.t (.t (.t (.t (.t (.t .h)))))))))))))))))) rfl (.rd (.t (.t (.t (.t (.t (.t (.t (.t (.t (.t (.t (.t (.t (.t (.t (.t (.t (.t (.t .h))))))))))))))))))) rfl (.rd (.t (.t (.t (.t (.t (.t (.t (.t (.t (.t (.t (.t (.t (.t (.t (.t (.t (.t (.t (.t .h)))))))))))))))))))) rfl .nil)))))) (.own (.t (.t (.t (.t (.t (.t (.t (.t (.t (.t (.t (.t (.t .h))))))))))))) (fun _ h => h) (.own (.t (.t (.t (.t (.t (.t (.t (.t (.t (.t (.t (.t (.t (.t .h)))))))))))))) (fun _ h => h) (.dep rfl (.dep rfl (.dep rfl (.dep rfl .nil)))))) (fun ha => X_callS cf36.h (.cons (EN ha (.tmp rfl rfl) rfl) (.cons (EN ha (.tmp rfl rfl) rfl) .nil)) (i_EqualReached_ok r94.1 p96.1 p96.2.1 p96.2.2.1 r94.2 p96.2.2.2.1 p96.2.2.2.2.1 p96.2.2.2.2.2 _ hx111)) (fun _ => ?_)
           obtain ⟨r113, hx114, hF⟩ := bind_some hF
           refine D_act0 rfl rfl (.on 193 rfl rfl rfl) (.rd (.t (.t (.t (.t (.t (.t (.t (.t (.t (.t (.t (.t (.t (.t (.t .h))))))))))))))) rfl (.rd (.t (.t (.t (.t (.t (.t (.t (.t (.t (.t (.t (.t (.t (.t (.t (.t .h)))))))))))))))) rfl (.rd (.t (.t (.t (.t (.t (.t (.t (.t (.t (.t (.t (.t (.t (.t (.t (.t (.t .h))))))))))))))))) rfl (.rd (.t (.t (.t (.t (.t (.t (.t (.t (.t (.t (.t (.t (.t (.t (.t (.t (.t (.t .h)))))))))))))))))) rfl (.rd (.t (.t (.t (.t (.t (.t (.t (.t (.t (.t (.t (.t (.t (.t (.t (.t (.t (.t (.t .h))))))))))))))))))) rfl (.rd (.t (.t (.t (.t (.t (.t (.t (.t (.t (.t (.t (.t (.t (.t (.t (.t (.t (.t (.t (.t .h)))))))))))))))))))) rfl .nil)))))) (.dep rfl (.dep rfl (.dep rfl (.dep rfl (.dep rfl (.dep rfl .nil)))))) (fun ha => X_callS cf22.h (.cons (EN ha (.tmp rfl rfl) rfl) (.cons (EN ha (.tmp rfl rfl) rfl) .nil)) (s_EqualReached_ok r94.1 p96.1 p96.2.1 p96.2.2.1 r94.2 p96.2.2.2.1 p96.2.2.2.2.1 p96.2.2.2.2.2 _ hx114)) (fun _ => ?_)
           refine D_val rfl (.on 193 rfl rfl rfl) (fun ha => V_eqB (a := r110) (b := r113) Tryz.underlying4 (EN ha (.tmp rfl rfl) rfl) (EN ha (.tmp rfl rfl) rfl)) ?_
           refine D_val rfl .no (fun ha => V_pick (b := true) (u := (.bool (r110 == r113))) (v := (.bool false)) (EN ha (.tmp rfl rfl) rfl) (EN ha (.tmp rfl rfl) rfl) (EN ha (.bool _) rfl)) ?_
           refine Dm (.bool (r110 == r113)) rfl rfl rfl rfl ?_
           rcases Bool.eq_false_or_eq_true (r110 == r113) with hg116 | hg116
           · rw [hg116]
             try rw [hg116] at hF; dsimp only [cond_true, cond_false] at hF
             refine D_val rfl (.on 202 rfl rfl rfl) (fun ha => V_move (v := p101.1.v) (EN ha (.tmp rfl rfl) rfl)) ?_
             refine D_val rfl (.on 202 rfl rfl rfl) (fun ha => V_move (v := p101.2.1.v) (EN ha (.tmp rfl rfl) rfl)) ?_
             refine D_val rfl (.on 202 rfl rfl rfl) (fun ha => V_move (v := p101.2.2.1.v) (EN ha (.tmp rfl rfl) rfl)) ?_
             refine D_val rfl (.on 202 rfl rfl rfl) (fun ha => V_move (v := p101.2.2.2.1.v) (EN ha (.tmp rfl rfl) rfl)) ?_
             refine D_atO rfl (.on 202 rfl rfl rfl) (.t (.t (.t (.t (.t .h))))) (fun ha hp => V_loadBox ag46.h ty46.h.sz rfl (EN ha (.tmp rfl rfl) rfl) hp.2 rfl) ?_
             refine D_val rfl (.on 202 rfl rfl rfl) (fun ha => V_move (v := p101.1.v) (EN ha (.tmp rfl rfl) rfl)) ?_
             refine D_val rfl (.on 202 rfl rfl rfl) (fun ha => V_move (v := p101.2.1.v) (EN ha (.tmp rfl rfl) rfl)) ?_
             refine D_val rfl (.on 202 rfl rfl rfl) (fun ha => V_move (v := p101.2.2.1.v) (EN ha (.tmp rfl rfl) rfl)) ?_
             refine D_val rfl (.on 202 rfl rfl rfl) (fun ha => V_move (v := p101.2.2.2.1.v) (EN ha (.tmp rfl rfl) rfl)) ?_
             refine D_atO rfl (.on 202 rfl rfl rfl) (.t (.t (.t (.t (.t .h))))) (fun ha hp => V_loadBox ag46.h ty46.h.sz rfl (EN ha (.tmp rfl rfl) rfl) hp.2 rfl) ?_
             obtain ⟨r117, hx118, hF⟩ := bind_some hF
             refine D_act3 rfl rfl (.on 202 rfl rfl rfl) (.cons (.t (.t (.t (.t (.t (.t (.t (.t (.t (.t (.t .h))))))))))) (.cons (.t (.t (.t (.t (.t (.t (.t (.t (.t (.t .h)))))))))) (.cons (.t (.t (.t (.t (.t (.t (.t (.t (.t .h))))))))) (.rd (.t (.t (.t (.t (.t (.t .h)))))) rfl (.rd (.t (.t (.t (.t (.t (.t (.t .h))))))) rfl (.rd (.t (.t (.t (.t (.t (.t (.t (.t .h)))))))) rfl (.rd (.t (.t (.t (.t (.t (.t (.t (.t (.t .h))))))))) rfl .nil))))))) (.own (.t (.t (.t (.t (.t .h))))) (fun _ h => h) (.dep rfl (.dep rfl (.dep rfl (.dep rfl (.dep rfl (.dep rfl (.dep rfl .nil)))))))) (fun ha => XC_borL (pre := _) (.cons frz_own (.cons frz_own (.cons frz_own .nil))) (fun _ => .nil) (XC_pre (.rd (.t (.t (.t .h))) rfl (.rd (.t (.t (.t (.t .h)))) rfl (.rd (.t (.t (.t (.t (.t .h))))) rfl (.rd .h rfl (.rd (.t .h) rfl (.rd (.t (.t .h)) rfl (.rd (.t (.t (.t (.t (.t (.t .h)))))) rfl .nil))))))) (X_callS cf27.h (.cons (EN ha (.tmp rfl rfl) rfl) (.cons (EN ha (.tmp rfl rfl) rfl) (.cons (EN ha (.tmp rfl rfl) rfl) (.cons (EN ha (.tmp rfl rfl) rfl) (.cons (EN ha (.tmp rfl rfl) rfl) .nil))))) (i_IsReached_ok r99.1 p101.1 r99.2.1 p101.2.1 r99.2.2.1 p101.2.2.1 r99.2.2.2.1 p101.2.2.2.1 r99.2.2.2.2 p101.2.2.2.2.2.1 p101.2.2.2.2.2.2.2.1 p101.2.2.2.2.2.2.2.2.2 _ hx118)))) (fun _ => ?_)
             obtain ⟨r120, hx121, hF⟩ := bind_some hF
             refine D_act3 rfl rfl (.on 202 rfl rfl rfl) (.cons .h (.cons .h (.cons .h (.rd (.t (.t (.t (.t (.t (.t .h)))))) rfl (.rd (.t (.t (.t (.t (.t (.t (.t .h))))))) rfl (.rd (.t (.t (.t (.t (.t (.t (.t (.t .h)))))))) rfl (.rd (.t (.t (.t (.t (.t (.t (.t (.t (.t .h))))))))) rfl .nil))))))) (.dep rfl (.dep rfl (.dep rfl (.dep rfl (.dep rfl (.dep rfl (.dep rfl (.dep rfl .nil)))))))) (fun ha => XC_borL (pre := _) (.cons frz_own (.cons frz_own (.cons frz_own .nil))) (fun _ => .nil) (XC_pre (.rd (.t (.t (.t .h))) rfl (.rd (.t (.t (.t (.t .h)))) rfl (.rd (.t (.t (.t (.t (.t .h))))) rfl (.rd .h rfl (.rd (.t .h) rfl (.rd (.t (.t .h)) rfl (.rd (.t (.t (.t (.t (.t (.t .h)))))) rfl .nil))))))) (X_callS cf37.h (.cons (EN ha (.tmp rfl rfl) rfl) (.cons (EN ha (.tmp rfl rfl) rfl) (.cons (EN ha (.tmp rfl rfl) rfl) (.cons (EN ha (.tmp rfl rfl) rfl) (.cons (EN ha (.tmp rfl rfl) rfl) .nil))))) (s_IsReached_ok r99.1 p101.1 r99.2.1 p101.2.1 r99.2.2.1 p101.2.2.1 r99.2.2.2.1 p101.2.2.2.1 r99.2.2.2.2 p101.2.2.2.2.2.1 p101.2.2.2.2.2.2.2.1 p101.2.2.2.2.2.2.2.2.2 _ hx121)))) (fun _ => ?_)
             refine D_val rfl (.on 202 rfl rfl rfl) (fun ha => V_eqB (a := r117) (b := r120) Tryz.underlying4 (EN ha (.tmp rfl rfl) rfl) (EN ha (.tmp rfl rfl) rfl)) ?_
             refine D_val rfl .no (fun ha => V_pick (b := true) (u := (.bool (r117 == r120))) (v := (.bool false)) (EN ha (.tmp rfl rfl) rfl) (EN ha (.tmp rfl rfl) rfl) (EN ha (.bool _) rfl)) ?_
             refine Dm (.bool (r117 == r120)) rfl rfl rfl rfl ?_
             rcases Bool.eq_false_or_eq_true (r117 == r120) with hg123 | hg123
             · rw [hg123]
               try rw [hg123] at hF; dsimp only [cond_true, cond_false] at hF
               iterate 2 refine D_val rfl (.on 217 rfl rfl rfl) (fun ha => V_move (v := p6.2.2.2.2.2.2.1.v) (EN ha (.tmp rfl rfl) rfl)) ?_
               obtain ⟨r124, hx125, hF⟩ := bind_some hF
               refine D_act3 rfl rfl (.on 217 rfl rfl rfl) (.rd (.t (.t (.t (.t (.t (.t (.t (.t (.t (.t (.t (.t (.t (.t (.t (.t (.t (.t (.t (.t (.t (.t (.t (.t (.t (.t (.t (.t (.t (.t (.t (.t .h)))))))))))))))))))))))))))))))) rfl .nil) (.dep rfl (.dep rfl (.dep rfl (.dep rfl (.dep rfl (.dep rfl (.dep rfl (.dep rfl .nil)))))))) (fun ha => X_callS cf38.h (.cons (EN ha (.tmp rfl rfl) rfl) .nil) (i_StartReach_ok r4.2.2.2 p6.2.2.2.2.2.2.1 _ hx125)) (fun p126 => ?_)
               obtain ⟨r127, hx128, hF⟩ := bind_some hF
               refine D_act3 rfl rfl (.on 217 rfl rfl rfl) (.rd (.t (.t (.t (.t (.t (.t (.t (.t (.t (.t (.t (.t (.t (.t (.t (.t (.t (.t (.t (.t (.t (.t (.t (.t (.t (.t (.t (.t (.t (.t (.t (.t (.t (.t (.t .h))))))))))))))))))))))))))))))))))) rfl .nil) (.dep rfl (.dep rfl (.dep rfl (.dep rfl (.dep rfl (.dep rfl (.dep rfl (.dep rfl .nil)))))))) (fun ha => X_callS cf39.h (.cons (EN ha (.tmp rfl rfl) rfl) .nil) (s_StartReach_ok r4.2.2.2 p6.2.2.2.2.2.2.1 _ hx128)) (fun p129 => ?_)
               obtain ⟨r130, hx131, hF⟩ := bind_some hF
               refine D_act6 rfl rfl (.on 217 rfl rfl rfl) (.cons (.t (.t .h)) (.cons (.t .h) (.cons .h (.cons (.t (.t .h)) (.cons (.t .h) (.cons .h .nil)))))) (.dep rfl (.dep rfl (.dep rfl (.dep rfl (.dep rfl (.dep rfl (.dep rfl (.dep rfl .nil)))))))) (fun ha => XC_borL (pre := []) (.cons frz_own (.cons frz_own (.cons frz_own (.cons frz_own (.cons frz_own (.cons frz_own .nil)))))) (fun _ => .nil) (X_callS cf22.h (.cons (EN ha (.tmp rfl rfl) rfl) (.cons (EN ha (.tmp rfl rfl) rfl) .nil)) (s_EqualReached_ok r124 p126.1 p126.2.2.1 p126.2.2.2.2.1 r127 p129.1 p129.2.2.1 p129.2.2.2.2.1 _ hx131))) (fun _ => ?_)
               refine D_val rfl .no (fun ha => V_pick (b := true) (u := (.bool r130)) (v := (.bool false)) (EN ha (.tmp rfl rfl) rfl) (EN ha (.tmp rfl rfl) rfl) (EN ha (.bool _) rfl)) ?_
               refine Da (.bool r130) rfl rfl rfl rfl ?_
               refine D_nil ?_
               obtain rfl := Option.some.inj hF
               exact ⟨_, _, rfl, (EqL.cons rfl (EqL.nil)).eq, (.sel .nil)⟩
             rw [hg123]
             try rw [hg123] at hF; dsimp only [cond_true, cond_false] at hF
             iterate 5 refine D_off 217 rfl rfl rfl rfl ?_
             refine D_val rfl .no (fun ha => V_pick (b := false) (u := undef) (v := (.bool false)) (EN ha (.tmp rfl rfl) rfl) (EN ha (.tmp rfl rfl) rfl) (EN ha (.bool _) rfl)) ?_
             refine Da (.bool false) rfl rfl rfl rfl ?_
             refine D_nil ?_
             obtain rfl := Option.some.inj hF
             exact ⟨_, _, rfl, (EqL.cons rfl (EqL.nil)).eq, (.sel .nil)⟩
           rw [hg116]
           try rw [hg116] at hF; dsimp only [cond_true, cond_false] at hF
           iterate 13 refine D_off 202 rfl rfl rfl rfl ?_
           refine D_val rfl .no (fun ha => V_pick (b := false) (u := undef) (v := (.bool false)) (EN ha (.tmp rfl rfl) rfl) (EN ha (.tmp rfl rfl) rfl) (EN ha (.bool _) rfl)) ?_
           refine Dm (.bool false) rfl rfl rfl rfl ?_
           iterate 5 refine D_off 217 rfl rfl rfl rfl ?_
           refine D_val rfl .no (fun ha => V_pick (b := false) (u := undef) (v := (.bool false)) (EN ha (.tmp rfl rfl) rfl) (EN ha (.tmp rfl rfl) rfl) (EN ha (.bool _) rfl)) ?_
           refine Da (.bool false) rfl rfl rfl rfl ?_
           refine D_nil ?_
           obtain rfl := Option.some.inj hF
           exact ⟨_, _, rfl, (EqL.cons rfl (EqL.nil)).eq, (.sel .nil)⟩
         rw [hg109]
         try rw [hg109] at hF; dsimp only [cond_true, cond_false] at hF
         iterate 7 refine D_off 193 rfl rfl rfl rfl ?_
         refine D_val rfl .no (fun ha => V_pick (b := false) (u := undef) (v := (.bool false)) (EN ha (.tmp rfl rfl) rfl) (EN ha (.tmp rfl rfl) rfl) (EN ha (.bool _) rfl)) ?_
         refine Dm (.bool false) rfl rfl rfl rfl ?_
         iterate 13 refine D_off 202 rfl rfl rfl rfl ?_
         refine D_val rfl .no (fun ha => V_pick (b := false) (u := undef) (v := (.bool false)) (EN ha (.tmp rfl rfl) rfl) (EN ha (.tmp rfl rfl) rfl) (EN ha (.bool _) rfl)) ?_
         refine Dm (.bool false) rfl rfl rfl rfl ?_
         iterate 5 refine D_off 217 rfl rfl rfl rfl ?_
         refine D_val rfl .no (fun ha => V_pick (b := false) (u := undef) (v := (.bool false)) (EN ha (.tmp rfl rfl) rfl) (EN ha (.tmp rfl rfl) rfl) (EN ha (.bool _) rfl)) ?_
         refine Da (.bool false) rfl rfl rfl rfl ?_
         refine D_nil ?_
         obtain rfl := Option.some.inj hF
         exact ⟨_, _, rfl, (EqL.cons rfl (EqL.nil)).eq, (.sel .nil)⟩
       rw [hg105]
       try rw [hg105] at hF; dsimp only [cond_true, cond_false] at hF
       iterate 3 refine D_off 188 rfl rfl rfl rfl ?_
       refine D_val rfl .no (fun ha => V_pick (b := false) (u := undef) (v := (.bool false)) (EN ha (.tmp rfl rfl) rfl) (EN ha (.tmp rfl rfl) rfl) (EN ha (.bool _) rfl)) ?_
       refine Dm (.bool false) rfl rfl rfl rfl ?_
       iterate 7 refine D_off 193 rfl rfl rfl rfl ?_
       refine D_val rfl .no (fun ha => V_pick (b := false) (u := undef) (v := (.bool false)) (EN ha (.tmp rfl rfl) rfl) (EN ha (.tmp rfl rfl) rfl) (EN ha (.bool _) rfl)) ?_
       refine Dm (.bool false) rfl rfl rfl rfl ?_
       iterate 13 refine D_off 202 rfl rfl rfl rfl ?_
       refine D_val rfl .no (fun ha => V_pick (b := false) (u := undef) (v := (.bool false)) (EN ha (.tmp rfl rfl) rfl) (EN ha (.tmp rfl rfl) rfl) (EN ha (.bool _) rfl)) ?_
       refine Dm (.bool false) rfl rfl rfl rfl ?_
       iterate 5 refine D_off 217 rfl rfl rfl rfl ?_
       refine D_val rfl .no (fun ha => V_pick (b := false) (u := undef) (v := (.bool false)) (EN ha (.tmp rfl rfl) rfl) (EN ha (.tmp rfl rfl) rfl) (EN ha (.bool _) rfl)) ?_
       refine Da (.bool false) rfl rfl rfl rfl ?_
       refine D_nil ?_
       obtain rfl := Option.some.inj hF
       exact ⟨_, _, rfl, (EqL.cons rfl (EqL.nil)).eq, (.sel .nil)⟩
     rintro _ _ ⟨c133, g134, rfl, rfl, hE⟩
     replace hF := hO104
     clear hO104
     try dsimp only at hF
     refine K_ent hE ?_
     refine CW_ret ?_
     obtain rfl := Option.some.inj hF
     exact End_ret () (.tmp rfl rfl .nil) rfl (.sel .nil)
   obtain ⟨hk63, hx64, hd65⟩ := drop_cons hd62
   have hfe66 : (decide (((k59 : Int) : Int) < (r11.Facts.length : Int))) = true := decide_eq_true (by omega)
   rw [l_FnReaches_L1] at hF
   refine K_in (K_region (Cm (.int .i64 (k59 : Int)) rfl rfl ?_))
   refine C_val (V_fieldAddr (off := 0) fd46_0.h (.tmp rfl rfl)) ?_
   refine C_at (.t (.t (.t (.t (.t .h))))) (fun hp => V_load (v := p13.1.v) ag28.h (.tmp rfl rfl) hp.2 rfl rfl) ?_
   refine C_at (.t (.t (.t (.t (.t (.t .h)))))) (fun hp => V_lenR (l := r11.Facts.length) sl28.h (.tmp rfl rfl) (crd_len hp)) ?_
   refine C_val (V_lss (i := (k59 : Int)) (j := (r11.Facts.length : Int)) (.tmp rfl rfl) (.tmp rfl rfl)) ?_
   refine C_nil (CW_cond (b := (decide (((k59 : Int) : Int) < (r11.Facts.length : Int)))) (.tmp rfl rfl) (fun _ => ?_) (fun hb => absurd (hfe66.symm.trans hb) (by decide)))
   refine CW_skip (K_block (K_region (Cm p6.1.v rfl rfl ?_)))
   refine Cm p6.2.2.1.v rfl rfl ?_
   refine Cm p6.2.2.2.2.1.v rfl rfl ?_
   refine Cm p6.2.2.2.2.2.2.1.v rfl rfl ?_
   refine C_val (V_fieldAddr (off := 0) fd46_0.h (.tmp rfl rfl)) ?_
   refine C_at (.t (.t (.t (.t (.t .h))))) (fun hp => V_load (v := p13.1.v) ag28.h (.tmp rfl rfl) hp.2 rfl rfl) ?_
   refine Cm (.int .i64 (k59 : Int)) rfl rfl ?_
   refine C_idx (a := x61) sl28.h ty58.h.sz (.tmp rfl rfl) (.tmp rfl rfl) (.t (.t (.t (.t (.t (.t .h)))))) (Int.natCast_nonneg k59) hx64 (fun k137 j138 => ?_)
   refine C_ldA1 (ul58_0_58 x61) ag58.h ty58.h.sz rfl (.tmp rfl rfl) .h la58_0_58 (fun p139 => ?_)
   obtain ⟨r140, hx141, hF⟩ := bind_some hF
   refine C_x1 (.rd (.t (.t (.t .h))) rfl (.rd (.t (.t (.t (.t .h)))) rfl (.rd (.t (.t (.t (.t (.t .h))))) rfl (.rd (.t (.t (.t (.t (.t (.t .h)))))) rfl (.rd .h rfl .nil))))) (X_callS cf28.h (.cons (.tmp rfl rfl) (.cons (.tmp rfl rfl) (.cons (.tmp rfl rfl) (.cons (.tmp rfl rfl) (.cons (.tmp rfl rfl) .nil))))) (i_WhyReached_ok r4.1 p6.1 r4.2.1 p6.2.2.1 r4.2.2.1 p6.2.2.2.2.1 r4.2.2.2 p6.2.2.2.2.2.2.1 x61 p139 _ hx141)) (fun p142 => ?_)
   refine Cm (.tuple [(.agg [(.int .i64 r140.1.Method), p142.v].toArray), (.bool r140.2)].toArray) rfl rfl ?_
   refine C_val (V_extract (l := [(.agg [(.int .i64 r140.1.Method), p142.v].toArray), (.bool r140.2)]) (v := (.agg [(.int .i64 r140.1.Method), p142.v].toArray)) (.tmp rfl rfl) rfl) ?_
   refine C_val (V_extract (l := [(.agg [(.int .i64 r140.1.Method), p142.v].toArray), (.bool r140.2)]) (v := (.bool r140.2)) (.tmp rfl rfl) rfl) ?_
   refine C_new rfl (N_allocT (g := true) ty54.h rfl rfl) (fun k143 => ?_)
   refine C_x1 (.cons .h .nil) (X_storeB (e' := (.agg [(.int .i64 r140.1.Method), p142.v].toArray)) (v := (.agg [(.int .i64 r140.1.Method), p142.v].toArray)) ty54.h.sz (.tmp rfl rfl) (.tmp rfl rfl) rfl rfl rfl rfl rfl) (fun _ => ?_)
   refine Ca (.bool r140.2) rfl rfl ?_
   refine C_nil ?_
   obtain ⟨o144, hio144, hO145⟩ := bind_some hF
   refine K_draw [0, 1, 2, 3, 4, 5, 6, 8, 9, 10, 11, 12, 7, 13, 14, 15] [0, 1, 3, 7, 7, 7, 7, 127, 7, 263, 7, 1799, 3847, 8191, 16383, 32767] [7, 13] mixed (by decide +kernel) ?_
   refine D_cut (fun f' cs' => ∃ (c156 : Bool) (g : Fr), c156 = o144 ∧ f' = updL g [(0, v0_0.v), (3, p6.1.v), (4, p6.2.2.1.v), (5, p6.2.2.2.2.1.v), (6, p6.2.2.2.2.2.2.1.v), (8, (.pointer (some ⟨k14, 0, some 0⟩))), (9, (.int .i64 (k59 : Int))), (132, (.bool c156))] ∧ Ent cs' [crd (RdS 5 rdU8) v0_0.v a_code, crd (RdS 3 rdInt) p6.1.v r4.1, crd (RdS 97 rd97) p6.2.2.1.v r4.2.1, crd (RdS 58 rd58) p6.2.2.2.2.1.v r4.2.2.1, crd (RdS 3 rdInt) p6.2.2.2.2.2.2.1.v r4.2.2.2, cbox k14 46 (.agg [p13.1.v, p13.2.1.v, p13.2.2.v, (.int .i64 r11.Rounds)].toArray), crd (RdS 58 rd58) p13.1.v r11.Facts, crd (RdS 3 rdInt) p13.2.1.v r11.Values, crd (RdS 54 rd54) p13.2.2.v r11.Log]) ?_ ?_
   · replace hF := hio144
     refine Dm (.bool r140.2) rfl rfl rfl rfl ?_
     refine D_val rfl .no (fun ha => V_not (b := r140.2) (EN ha (.tmp rfl rfl) rfl)) ?_
     refine Dm (.bool (!r140.2)) rfl rfl rfl rfl ?_
     rcases Bool.eq_false_or_eq_true (!r140.2) with hg146 | hg146
     · rw [hg146]
       try rw [hg146] at hF; dsimp only [cond_true, cond_false] at hF
       iterate 12 refine D_off 119 rfl rfl rfl rfl ?_
       refine D_val rfl .no (fun ha => V_pick (b := true) (u := (.bool true)) (v := undef) (EN ha (.tmp rfl rfl) rfl) (EN ha (.bool _) rfl) (EN ha (.tmp rfl rfl) rfl)) ?_
       refine D_nil ?_
       obtain rfl := Option.some.inj hF
       exact ⟨_, _, rfl, (EqL.cons rfl (EqL.cons rfl (EqL.cons rfl (EqL.cons rfl (EqL.cons rfl (EqL.cons rfl (EqL.cons rfl (EqL.cons rfl (EqL.nil))))))))).eq, (.sel (.rd (.t (.t (.t (.t .h)))) rfl (.rd (.t (.t (.t (.t (.t .h))))) rfl (.rd (.t (.t (.t (.t (.t (.t .h)))))) rfl (.rd (.t (.t (.t (.t (.t (.t (.t .h))))))) rfl (.rd (.t (.t (.t (.t (.t (.t (.t (.t .h)))))))) rfl (.cons (.t (.t (.t (.t (.t (.t (.t (.t (.t .h))))))))) (.rd (.t (.t (.t (.t (.t (.t (.t (.t (.t .h))))))))) rfl (.rd (.t (.t (.t (.t (.t (.t (.t (.t (.t (.t .h)))))))))) rfl (.rd (.t (.t (.t (.t (.t (.t (.t (.t (.t (.t (.t .h))))))))))) rfl .nil))))))))))⟩
     rw [hg146]
     try rw [hg146] at hF; dsimp only [cond_true, cond_false] at hF
     refine D_val rfl (.on 119 rfl rfl rfl) (fun ha => V_move (v := p6.1.v) (EN ha (.tmp rfl rfl) rfl)) ?_
     refine D_val rfl (.on 119 rfl rfl rfl) (fun ha => V_move (v := p6.2.2.1.v) (EN ha (.tmp rfl rfl) rfl)) ?_
     refine D_val rfl (.on 119 rfl rfl rfl) (fun ha => V_move (v := p6.2.2.2.2.1.v) (EN ha (.tmp rfl rfl) rfl)) ?_
     refine D_atO rfl (.on 119 rfl rfl rfl) .h (fun ha hp => V_loadBox ag54.h ty54.h.sz rfl (EN ha (.tmp rfl rfl) rfl) hp.2 rfl) ?_
     refine D_val rfl (.on 119 rfl rfl rfl) (fun ha => V_fieldAddr (off := 0) fd46_0.h (EN ha (.tmp rfl rfl) rfl)) ?_
     refine D_atO rfl (.on 119 rfl rfl rfl) (.t (.t (.t (.t (.t (.t (.t (.t (.t .h))))))))) (fun ha hp => V_load (v := p13.1.v) ag28.h (EN ha (.tmp rfl rfl) rfl) hp.2 rfl rfl) ?_
     refine D_val rfl (.on 119 rfl rfl rfl) (fun ha => V_move (v := (.int .i64 (k59 : Int))) (EN ha (.tmp rfl rfl) rfl)) ?_
     refine D_idx (a := x61) sl28.h ty58.h.sz rfl (.on 119 rfl rfl rfl) (.tmp rfl rfl) (.tmp rfl rfl) rfl rfl (.t (.t (.t (.t (.t (.t (.t (.t (.t (.t .h)))))))))) (Int.natCast_nonneg k59) hx64 (fun k147 j148 => ?_)
     refine D_ldA1 (ul58_0_58 x61) ag58.h ty58.h.sz rfl rfl (.on 119 rfl rfl rfl) (.tmp rfl rfl) rfl .h la58_0_58 (fun p149 => ?_)
     obtain ⟨r150, hx151, hF⟩ := bind_some hF
     refine D_act1 rfl rfl (.on 119 rfl rfl rfl) (.rd (.t (.t (.t (.t (.t (.t (.t .h))))))) rfl (.rd (.t (.t (.t (.t (.t (.t (.t (.t .h)))))))) rfl (.rd (.t (.t (.t (.t (.t (.t (.t (.t (.t .h))))))))) rfl (.rd (.t (.t (.t .h))) rfl .nil)))) (.own (.t (.t (.t (.t (.t (.t (.t (.t (.t (.t (.t .h))))))))))) (fun _ h => h) (.dep rfl .nil)) (fun ha => X_callS cf30.h (.cons (EN ha (.tmp rfl rfl) rfl) (.cons (EN ha (.tmp rfl rfl) rfl) (.cons (EN ha (.tmp rfl rfl) rfl) (.cons (EN ha (.tmp rfl rfl) rfl) .nil)))) (s_MatchesOf_ok r4.1 p6.1 r4.2.1 p6.2.2.1 r4.2.2.1 p6.2.2.2.2.1 r140.1 p142 _ hx151)) (fun p152 => ?_)
     obtain ⟨r153, hx154, hF⟩ := bind_some hF
     refine D_act1 rfl rfl (.on 119 rfl rfl rfl) (.cons .h (.rd .h rfl .nil)) (.dep rfl (.dep rfl .nil)) (fun ha => XC_bor frz_own (fun _ => .nil) (X_callS cf29.h (.cons (EN ha (.tmp rfl rfl) rfl) (.cons (EN ha (.tmp rfl rfl) rfl) .nil)) (s_HasFact_ok r150 p152.1 x61 p149 _ hx154))) (fun _ => ?_)
     refine D_val rfl (.on 119 rfl rfl rfl) (fun ha => V_not (b := r153) (EN ha (.tmp rfl rfl) rfl)) ?_
     refine D_val rfl .no (fun ha => V_pick (b := false) (u := (.bool true)) (v := (.bool (!r153))) (EN ha (.tmp rfl rfl) rfl) (EN ha (.bool _) rfl) (EN ha (.tmp rfl rfl) rfl)) ?_
     refine D_nil ?_
     obtain rfl := Option.some.inj hF
     exact ⟨_, _, rfl, (EqL.cons rfl (EqL.cons rfl (EqL.cons rfl (EqL.cons rfl (EqL.cons rfl (EqL.cons rfl (EqL.cons rfl (EqL.cons rfl (EqL.nil))))))))).eq, (.sel (.rd (.t (.t (.t (.t (.t (.t (.t .h))))))) rfl (.rd (.t (.t (.t (.t (.t (.t (.t (.t .h)))))))) rfl (.rd (.t (.t (.t (.t (.t (.t (.t (.t (.t .h))))))))) rfl (.rd (.t (.t (.t (.t (.t (.t (.t (.t (.t (.t .h)))))))))) rfl (.rd (.t (.t (.t (.t (.t (.t (.t (.t (.t (.t (.t .h))))))))))) rfl (.cons (.t (.t (.t (.t (.t (.t (.t (.t (.t (.t (.t (.t .h)))))))))))) (.rd (.t (.t (.t (.t (.t (.t (.t (.t (.t (.t (.t (.t .h)))))))))))) rfl (.rd (.t (.t (.t (.t (.t (.t (.t (.t (.t (.t (.t (.t (.t .h))))))))))))) rfl (.rd (.t (.t (.t (.t (.t (.t (.t (.t (.t (.t (.t (.t (.t (.t .h)))))))))))))) rfl .nil))))))))))⟩
   rintro _ _ ⟨c156, g159, rfl, rfl, hE⟩
   replace hF := hO145
   clear hO145
   try dsimp only at hF
   refine K_ent hE ?_
   refine CW_cond (b := c156) (.tmp rfl rfl) (fun hb158 => ?_) (fun hb158 => ?_)
   · rw [if_pos hb158] at hF
     refine K_region (C_val (V_assign (v := (.bool false)) (.bool _)) ?_)
     refine C_nil (CW_ret ?_)
     obtain rfl := Option.some.inj hF
     exact End_ret () (.tmp rfl rfl .nil) rfl (.sel .nil)
   rw [if_neg (by rw [hb158]; exact Bool.false_ne_true)] at hF
   refine CW_skip (CW_region (Cm (.int .i64 (k59 : Int)) rfl rfl ?_))
   refine C_val (V_add (i := (k59 : Int)) (j := 1) (.tmp rfl rfl) (.int _ _)) ?_
   refine Ca (.int .i64 (IntKind.i64.wrap ((k59 : Int) + 1))) rfl rfl ?_
   refine C_nil ?_
   have hw157 : IntKind.i64.wrap ((k59 : Int) + 1) = ((k59 + 1 : Nat) : Int) := by rw [wrap_in (by omega) (by omega)]; rfl
   rw [hw157]
   exact ⟨_, Nat.lt_succ_self _, _, k59 + 1, rest60, rfl, (EqL.cons rfl (EqL.cons rfl (EqL.cons rfl (EqL.cons rfl (EqL.cons rfl (EqL.cons rfl (EqL.cons rfl (EqL.nil)))))))).eq, hd65, (.sel (.rd .h rfl (.rd (.t .h) rfl (.rd (.t (.t .h)) rfl (.rd (.t (.t (.t .h))) rfl (.rd (.t (.t (.t (.t .h)))) rfl (.cons (.t (.t (.t (.t (.t .h))))) (.rd (.t (.t (.t (.t (.t .h))))) rfl (.rd (.t (.t (.t (.t (.t (.t .h)))))) rfl (.rd (.t (.t (.t (.t (.t (.t (.t .h))))))) rfl .nil)))))))))), hF⟩
 rw [if_neg (by rw [hb215]; exact Bool.false_ne_true)] at hF
 refine CW_skip (K_region (Cm v0_0.v rfl rfl ?_))
 obtain ⟨r162, hx163, hF⟩ := bind_some hF
 refine C_x6 (.rd .h rfl .nil) (X_callS cf31.h (.cons (.tmp rfl rfl) .nil) (s_DrawStepReach_ok fuel a_code v0_0 _ hx163)) (fun p164 => ?_)
 refine Cm (.tuple [p164.1.v, p164.2.1.v, p164.2.2.1.v, (.agg [p164.2.2.2.1.v, p164.2.2.2.2.2.1.v, p164.2.2.2.2.2.2.2.v, (.int .i64 r162.2.2.2.Rounds)].toArray)].toArray) rfl rfl ?_
 refine C_val (V_extract (l := [p164.1.v, p164.2.1.v, p164.2.2.1.v, (.agg [p164.2.2.2.1.v, p164.2.2.2.2.2.1.v, p164.2.2.2.2.2.2.2.v, (.int .i64 r162.2.2.2.Rounds)].toArray)]) (v := p164.1.v) (.tmp rfl rfl) rfl) ?_
 refine C_val (V_extract (l := [p164.1.v, p164.2.1.v, p164.2.2.1.v, (.agg [p164.2.2.2.1.v, p164.2.2.2.2.2.1.v, p164.2.2.2.2.2.2.2.v, (.int .i64 r162.2.2.2.Rounds)].toArray)]) (v := p164.2.1.v) (.tmp rfl rfl) rfl) ?_
 refine C_val (V_extract (l := [p164.1.v, p164.2.1.v, p164.2.2.1.v, (.agg [p164.2.2.2.1.v, p164.2.2.2.2.2.1.v, p164.2.2.2.2.2.2.2.v, (.int .i64 r162.2.2.2.Rounds)].toArray)]) (v := p164.2.2.1.v) (.tmp rfl rfl) rfl) ?_
 refine C_val (V_extract (l := [p164.1.v, p164.2.1.v, p164.2.2.1.v, (.agg [p164.2.2.2.1.v, p164.2.2.2.2.2.1.v, p164.2.2.2.2.2.2.2.v, (.int .i64 r162.2.2.2.Rounds)].toArray)]) (v := (.agg [p164.2.2.2.1.v, p164.2.2.2.2.2.1.v, p164.2.2.2.2.2.2.2.v, (.int .i64 r162.2.2.2.Rounds)].toArray)) (.tmp rfl rfl) rfl) ?_
 refine C_new rfl (N_allocT (g := true) ty46.h rfl rfl) (fun k165 => ?_)
 refine Ca p164.1.v rfl rfl ?_
 refine Ca p164.2.1.v rfl rfl ?_
 refine Ca p164.2.2.1.v rfl rfl ?_
 refine C_x1 (.cons .h .nil) (X_storeB (e' := (.agg [p164.2.2.2.1.v, p164.2.2.2.2.2.1.v, p164.2.2.2.2.2.2.2.v, (.int .i64 r162.2.2.2.Rounds)].toArray)) (v := (.agg [p164.2.2.2.1.v, p164.2.2.2.2.2.1.v, p164.2.2.2.2.2.2.2.v, (.int .i64 r162.2.2.2.Rounds)].toArray)) ty46.h.sz (.tmp rfl rfl) (.tmp rfl rfl) rfl rfl rfl rfl rfl) (fun _ => ?_)
 refine C_nil (K_region (Cm p164.1.v rfl rfl ?_))
 refine Cm p164.2.1.v rfl rfl ?_
 refine Cm p164.2.2.1.v rfl rfl ?_
 refine C_at .h (fun hp => V_loadBox ag46.h ty46.h.sz rfl (.tmp rfl rfl) hp.2 rfl) ?_
 obtain ⟨r166, hx167, hF⟩ := bind_some hF
 refine C_x5 (.cons (.t (.t (.t (.t (.t .h))))) (.cons (.t (.t (.t (.t .h)))) (.rd (.t .h) rfl (.rd (.t (.t .h)) rfl (.rd (.t (.t (.t .h))) rfl (.rd (.t (.t (.t (.t .h)))) rfl .nil)))))) (XC_borL (pre := _) (.cons frz_own (.cons frz_own .nil)) (fun _ => (.cons (.cons (.cons .nil)))) (XC_pre (.rd (.t (.t .h)) rfl (.rd (.t (.t (.t .h))) rfl (.rd (.t (.t (.t (.t .h)))) rfl (.rd .h rfl (.rd (.t .h) rfl (.rd (.t (.t (.t (.t (.t .h))))) rfl .nil)))))) (X_callS cf32.h (.cons (.tmp rfl rfl) (.cons (.tmp rfl rfl) (.cons (.tmp rfl rfl) (.cons (.tmp rfl rfl) .nil)))) (i_StepReach_ok r162.1 p164.1 r162.2.1 p164.2.1 r162.2.2.1 p164.2.2.1 r162.2.2.2 p164.2.2.2.1 p164.2.2.2.2.2.1 p164.2.2.2.2.2.2.2 _ hx167)))) (fun p168 => ?_)
 refine Cm (.tuple [(.agg [p168.1.v, p168.2.2.1.v, p168.2.2.2.2.1.v, (.int .i64 r166.1.Rounds)].toArray), (.bool r166.2)].toArray) rfl rfl ?_
 refine C_val (V_extract (l := [(.agg [p168.1.v, p168.2.2.1.v, p168.2.2.2.2.1.v, (.int .i64 r166.1.Rounds)].toArray), (.bool r166.2)]) (v := (.agg [p168.1.v, p168.2.2.1.v, p168.2.2.2.2.1.v, (.int .i64 r166.1.Rounds)].toArray)) (.tmp rfl rfl) rfl) ?_
 refine C_val (V_extract (l := [(.agg [p168.1.v, p168.2.2.1.v, p168.2.2.2.2.1.v, (.int .i64 r166.1.Rounds)].toArray), (.bool r166.2)]) (v := (.bool r166.2)) (.tmp rfl rfl) rfl) ?_
 refine C_new rfl (N_allocT (g := true) ty46.h rfl rfl) (fun k169 => ?_)
 refine C_x1 (.cons .h .nil) (X_storeB (e' := (.agg [p168.1.v, p168.2.2.1.v, p168.2.2.2.2.1.v, (.int .i64 r166.1.Rounds)].toArray)) (v := (.agg [p168.1.v, p168.2.2.1.v, p168.2.2.2.2.1.v, (.int .i64 r166.1.Rounds)].toArray)) ty46.h.sz (.tmp rfl rfl) (.tmp rfl rfl) rfl rfl rfl rfl rfl) (fun _ => ?_)
 refine Ca (.bool r166.2) rfl rfl ?_
 refine C_nil ?_
 iterate 2 refine K_frz (.t (.t .h)) frz_own ?_
 refine K_region (Cm p164.1.v rfl rfl ?_)
 refine Cm p164.2.1.v rfl rfl ?_
 refine Cm p164.2.2.1.v rfl rfl ?_
 refine C_at (.t (.t (.t (.t (.t (.t .h)))))) (fun hp => V_loadBox ag46.h ty46.h.sz rfl (.tmp rfl rfl) hp.2 rfl) ?_
 obtain ⟨r170, hx171, hF⟩ := bind_some hF
 refine C_x3 (.rd (.t (.t (.t (.t (.t (.t (.t .h))))))) rfl (.rd (.t (.t (.t (.t (.t (.t (.t (.t .h)))))))) rfl (.rd (.t (.t (.t (.t (.t (.t (.t (.t (.t .h))))))))) rfl (.rd (.t .h) rfl (.rd .h rfl (.rd (.t (.t (.t (.t (.t (.t (.t (.t (.t (.t .h)))))))))) rfl .nil)))))) (X_callS cf33.h (.cons (.tmp rfl rfl) (.cons (.tmp rfl rfl) (.cons (.tmp rfl rfl) (.cons (.tmp rfl rfl) .nil)))) (s_StepReach_ok r162.1 p164.1 r162.2.1 p164.2.1 r162.2.2.1 p164.2.2.1 r162.2.2.2 p164.2.2.2.1 p164.2.2.2.2.2.1 p164.2.2.2.2.2.2.2 _ hx171)) (fun p172 => ?_)
 refine Cm (.tuple [(.agg [p172.1.v, p172.2.2.1.v, p172.2.2.2.2.v, (.int .i64 r170.1.Rounds)].toArray), (.bool r170.2)].toArray) rfl rfl ?_
 refine C_val (V_extract (l := [(.agg [p172.1.v, p172.2.2.1.v, p172.2.2.2.2.v, (.int .i64 r170.1.Rounds)].toArray), (.bool r170.2)]) (v := (.agg [p172.1.v, p172.2.2.1.v, p172.2.2.2.2.v, (.int .i64 r170.1.Rounds)].toArray)) (.tmp rfl rfl) rfl) ?_
 refine C_val (V_extract (l := [(.agg [p172.1.v, p172.2.2.1.v, p172.2.2.2.2.v, (.int .i64 r170.1.Rounds)].toArray), (.bool r170.2)]) (v := (.bool r170.2)) (.tmp rfl rfl) rfl) ?_
 refine C_new rfl (N_allocT (g := true) ty46.h rfl rfl) (fun k173 => ?_)
 refine C_x1 (.cons .h .nil) (X_storeB (e' := (.agg [p172.1.v, p172.2.2.1.v, p172.2.2.2.2.v, (.int .i64 r170.1.Rounds)].toArray)) (v := (.agg [p172.1.v, p172.2.2.1.v, p172.2.2.2.2.v, (.int .i64 r170.1.Rounds)].toArray)) ty46.h.sz (.tmp rfl rfl) (.tmp rfl rfl) rfl rfl rfl rfl rfl) (fun _ => ?_)
 refine Ca (.bool r170.2) rfl rfl ?_
 refine C_nil (K_region (Cm v0_0.v rfl rfl ?_))
 obtain ⟨r174, hx175, hF⟩ := bind_some hF
 refine C_x6 (.rd (.t (.t (.t (.t (.t (.t (.t (.t (.t (.t (.t (.t (.t (.t (.t .h))))))))))))))) rfl .nil) (X_callS cf34.h (.cons (.tmp rfl rfl) .nil) (s_DrawEqualReached_ok fuel a_code v0_0 _ hx175)) (fun p176 => ?_)
 refine Cm (.tuple [(.agg [p176.1.v, p176.2.1.v, p176.2.2.1.v, (.int .i64 r174.1.Rounds)].toArray), (.agg [p176.2.2.2.1.v, p176.2.2.2.2.1.v, p176.2.2.2.2.2.v, (.int .i64 r174.2.Rounds)].toArray)].toArray) rfl rfl ?_
 refine C_val (V_extract (l := [(.agg [p176.1.v, p176.2.1.v, p176.2.2.1.v, (.int .i64 r174.1.Rounds)].toArray), (.agg [p176.2.2.2.1.v, p176.2.2.2.2.1.v, p176.2.2.2.2.2.v, (.int .i64 r174.2.Rounds)].toArray)]) (v := (.agg [p176.1.v, p176.2.1.v, p176.2.2.1.v, (.int .i64 r174.1.Rounds)].toArray)) (.tmp rfl rfl) rfl) ?_
 refine C_val (V_extract (l := [(.agg [p176.1.v, p176.2.1.v, p176.2.2.1.v, (.int .i64 r174.1.Rounds)].toArray), (.agg [p176.2.2.2.1.v, p176.2.2.2.2.1.v, p176.2.2.2.2.2.v, (.int .i64 r174.2.Rounds)].toArray)]) (v := (.agg [p176.2.2.2.1.v, p176.2.2.2.2.1.v, p176.2.2.2.2.2.v, (.int .i64 r174.2.Rounds)].toArray)) (.tmp rfl rfl) rfl) ?_
 refine C_new rfl (N_allocT (g := true) ty46.h rfl rfl) (fun k177 => ?_)
 refine C_new rfl (N_allocT (g := true) ty46.h rfl rfl) (fun k178 => ?_)
 refine C_x1 (.cons (.t .h) .nil) (X_storeB (e' := (.agg [p176.1.v, p176.2.1.v, p176.2.2.1.v, (.int .i64 r174.1.Rounds)].toArray)) (v := (.agg [p176.1.v, p176.2.1.v, p176.2.2.1.v, (.int .i64 r174.1.Rounds)].toArray)) ty46.h.sz (.tmp rfl rfl) (.tmp rfl rfl) rfl rfl rfl rfl rfl) (fun _ => ?_)
 refine C_x1 (.cons (.t .h) .nil) (X_storeB (e' := (.agg [p176.2.2.2.1.v, p176.2.2.2.2.1.v, p176.2.2.2.2.2.v, (.int .i64 r174.2.Rounds)].toArray)) (v := (.agg [p176.2.2.2.1.v, p176.2.2.2.2.1.v, p176.2.2.2.2.2.v, (.int .i64 r174.2.Rounds)].toArray)) ty46.h.sz (.tmp rfl rfl) (.tmp rfl rfl) rfl rfl rfl rfl rfl) (fun _ => ?_)
 refine C_nil (K_region (Cm v0_0.v rfl rfl ?_))
 obtain ⟨r179, hx180, hF⟩ := bind_some hF
 refine C_x7 (.rd (.t (.t (.t (.t (.t (.t (.t (.t (.t (.t (.t (.t (.t (.t (.t (.t (.t (.t (.t (.t (.t (.t (.t .h))))))))))))))))))))))) rfl .nil) (X_callS cf35.h (.cons (.tmp rfl rfl) .nil) (s_DrawIsReached_ok fuel a_code v0_0 _ hx180)) (fun p181 => ?_)
 refine Cm (.tuple [p181.1.v, p181.2.1.v, p181.2.2.1.v, p181.2.2.2.1.v, (.agg [p181.2.2.2.2.2.1.v, p181.2.2.2.2.2.2.2.1.v, p181.2.2.2.2.2.2.2.2.2.v, (.int .i64 r179.2.2.2.2.Rounds)].toArray)].toArray) rfl rfl ?_
 refine C_val (V_extract (l := [p181.1.v, p181.2.1.v, p181.2.2.1.v, p181.2.2.2.1.v, (.agg [p181.2.2.2.2.2.1.v, p181.2.2.2.2.2.2.2.1.v, p181.2.2.2.2.2.2.2.2.2.v, (.int .i64 r179.2.2.2.2.Rounds)].toArray)]) (v := p181.1.v) (.tmp rfl rfl) rfl) ?_
 refine C_val (V_extract (l := [p181.1.v, p181.2.1.v, p181.2.2.1.v, p181.2.2.2.1.v, (.agg [p181.2.2.2.2.2.1.v, p181.2.2.2.2.2.2.2.1.v, p181.2.2.2.2.2.2.2.2.2.v, (.int .i64 r179.2.2.2.2.Rounds)].toArray)]) (v := p181.2.1.v) (.tmp rfl rfl) rfl) ?_
 refine C_val (V_extract (l := [p181.1.v, p181.2.1.v, p181.2.2.1.v, p181.2.2.2.1.v, (.agg [p181.2.2.2.2.2.1.v, p181.2.2.2.2.2.2.2.1.v, p181.2.2.2.2.2.2.2.2.2.v, (.int .i64 r179.2.2.2.2.Rounds)].toArray)]) (v := p181.2.2.1.v) (.tmp rfl rfl) rfl) ?_
 refine C_val (V_extract (l := [p181.1.v, p181.2.1.v, p181.2.2.1.v, p181.2.2.2.1.v, (.agg [p181.2.2.2.2.2.1.v, p181.2.2.2.2.2.2.2.1.v, p181.2.2.2.2.2.2.2.2.2.v, (.int .i64 r179.2.2.2.2.Rounds)].toArray)]) (v := p181.2.2.2.1.v) (.tmp rfl rfl) rfl) ?_
 refine C_val (V_extract (l := [p181.1.v, p181.2.1.v, p181.2.2.1.v, p181.2.2.2.1.v, (.agg [p181.2.2.2.2.2.1.v, p181.2.2.2.2.2.2.2.1.v, p181.2.2.2.2.2.2.2.2.2.v, (.int .i64 r179.2.2.2.2.Rounds)].toArray)]) (v := (.agg [p181.2.2.2.2.2.1.v, p181.2.2.2.2.2.2.2.1.v, p181.2.2.2.2.2.2.2.2.2.v, (.int .i64 r179.2.2.2.2.Rounds)].toArray)) (.tmp rfl rfl) rfl) ?_
 refine C_new rfl (N_allocT (g := true) ty46.h rfl rfl) (fun k182 => ?_)
 refine Ca p181.1.v rfl rfl ?_
 refine Ca p181.2.1.v rfl rfl ?_
 refine Ca p181.2.2.1.v rfl rfl ?_
 refine Ca p181.2.2.2.1.v rfl rfl ?_
 refine C_x1 (.cons .h .nil) (X_storeB (e' := (.agg [p181.2.2.2.2.2.1.v, p181.2.2.2.2.2.2.2.1.v, p181.2.2.2.2.2.2.2.2.2.v, (.int .i64 r179.2.2.2.2.Rounds)].toArray)) (v := (.agg [p181.2.2.2.2.2.1.v, p181.2.2.2.2.2.2.2.1.v, p181.2.2.2.2.2.2.2.2.2.v, (.int .i64 r179.2.2.2.2.Rounds)].toArray)) ty46.h.sz (.tmp rfl rfl) (.tmp rfl rfl) rfl rfl rfl rfl rfl) (fun _ => ?_)
 refine C_nil ?_
 obtain ⟨o183, hio183, hO184⟩ := bind_some hF
 refine K_draw [0, 1, 2, 3, 4, 5, 6, 7, 8, 9, 10, 12, 13, 11, 14, 15, 16, 17, 18, 19, 20, 21, 22, 24, 25, 26, 27, 28, 23, 29, 30, 31, 32, 33, 35, 34, 36, 37, 38, 39] [0, 0, 3, 7, 15, 15, 63, 127, 255, 511, 511, 2047, 511, 511, 16383, 32767, 65535, 131071, 262143, 262143, 262143, 262143, 262143, 8388607, 262143, 262143, 262143, 262143, 262143, 536870911, 1073741823, 2147483647, 4294967295, 8589934591, 17179869183, 8589934591, 68719476735, 137438953471, 274877906943, 549755813887] [6, 11, 14, 23, 29, 34, 36, 37] mixed (by decide +kernel) ?_
 refine D_cut (fun f' cs' => ∃ (c213 : Bool) (g : Fr), c213 = o183 ∧ f' = updL g [(2, (.bool c213))] ∧ Ent cs' []) ?_ ?_
 · replace hF := hio183
   refine Dm (.bool r166.2) rfl rfl rfl rfl ?_
   refine Dm (.bool r170.2) rfl rfl rfl rfl ?_
   refine D_val rfl .no (fun ha => V_eqB (a := r166.2) (b := r170.2) Tryz.underlying4 (EN ha (.tmp rfl rfl) rfl) (EN ha (.tmp rfl rfl) rfl)) ?_
   refine Dm (.bool (r166.2 == r170.2)) rfl rfl rfl rfl ?_
   rcases Bool.eq_false_or_eq_true (r166.2 == r170.2) with hg185 | hg185
   · rw [hg185]
     try rw [hg185] at hF; dsimp only [cond_true, cond_false] at hF
     refine D_atO rfl (.on 188 rfl rfl rfl) (.t (.t (.t (.t (.t (.t (.t (.t (.t (.t (.t (.t (.t (.t (.t (.t (.t (.t (.t (.t (.t (.t .h)))))))))))))))))))))) (fun ha hp => V_loadBox ag46.h ty46.h.sz rfl (EN ha (.tmp rfl rfl) rfl) hp.2 rfl) ?_
     refine D_atO rfl (.on 188 rfl rfl rfl) (.t (.t (.t (.t (.t (.t (.t (.t (.t (.t (.t (.t (.t (.t (.t (.t .h)))))))))))))))) (fun ha hp => V_loadBox ag46.h ty46.h.sz rfl (EN ha (.tmp rfl rfl) rfl) hp.2 rfl) ?_
     obtain ⟨r186, hx187, hF⟩ := bind_some hF
     refine D_act5 rfl rfl (.on 188 rfl rfl rfl) (.cons (.t (.t (.t (.t (.t (.t (.t (.t (.t (.t (.t (.t (.t (.t (.t (.t (.t (.t .h)))))))))))))))))) (.cons (.t (.t (.t (.t (.t (.t (.t (.t (.t (.t (.t (.t (.t (.t (.t (.t (.t .h))))))))))))))))) (.cons (.t (.t (.t (.t (.t (.t (.t (.t (.t (.t (.t (.t (.t (.t (.t (.t (.t (.t (.t (.t (.t (.t (.t .h))))))))))))))))))))))) (.cons (.t (.t (.t (.t (.t (.t (.t (.t (.t (.t (.t (.t (.t (.t (.t (.t (.t (.t (.t (.t (.t (.t .h)))))))))))))))))))))) (.cons (.t (.t (.t (.t (.t (.t (.t (.t (.t (.t (.t (.t (.t (.t (.t (.t (.t (.t (.t (.t (.t .h))))))))))))))))))))) (.rd (.t (.t (.t (.t (.t (.t (.t (.t (.t (.t (.t (.t (.t (.t (.t (.t (.t .h))))))))))))))))) rfl .nil)))))) (.dep rfl (.dep rfl .nil)) (fun ha => XC_borL (pre := _) (.cons frz_own (.cons frz_own (.cons frz_own (.cons frz_own (.cons frz_own .nil))))) (fun _ => .nil) (X_callS cf22.h (.cons (EN ha (.tmp rfl rfl) rfl) (.cons (EN ha (.tmp rfl rfl) rfl) .nil)) (s_EqualReached_ok r166.1 p168.1 p168.2.2.1 p168.2.2.2.2.1 r170.1 p172.1 p172.2.2.1 p172.2.2.2.2 _ hx187))) (fun _ => ?_)
     refine D_val rfl .no (fun ha => V_pick (b := true) (u := (.bool r186)) (v := (.bool false)) (EN ha (.tmp rfl rfl) rfl) (EN ha (.tmp rfl rfl) rfl) (EN ha (.bool _) rfl)) ?_
     refine Dm (.bool r186) rfl rfl rfl rfl ?_
     rcases Bool.eq_false_or_eq_true r186 with hg189 | hg189
     · rw [hg189]
       try rw [hg189] at hF; dsimp only [cond_true, cond_false] at hF
       refine D_atO rfl (.on 193 rfl rfl rfl) (.t (.t (.t (.t (.t (.t (.t (.t (.t (.t (.t (.t (.t (.t .h)))))))))))))) (fun ha hp => V_loadBox ag46.h ty46.h.sz rfl (EN ha (.tmp rfl rfl) rfl) hp.2 rfl) ?_
       refine D_atO rfl (.on 193 rfl rfl rfl) (.t (.t (.t (.t (.t (.t (.t (.t (.t (.t (.t (.t (.t .h))))))))))))) (fun ha hp => V_loadBox ag46.h ty46.h.sz rfl (EN ha (.tmp rfl rfl) rfl) hp.2 rfl) ?_
       refine D_atO rfl (.on 193 rfl rfl rfl) (.t (.t (.t (.t (.t (.t (.t (.t (.t (.t (.t (.t (.t (.t .h)))))))))))))) (fun ha hp => V_loadBox ag46.h ty46.h.sz rfl (EN ha (.tmp rfl rfl) rfl) hp.2 rfl) ?_
       refine D_atO rfl (.on 193 rfl rfl rfl) (.t (.t (.t (.t (.t (.t (.t (.t (.t (.t (.t (.t (.t .h))))))))))))) (fun ha hp => V_loadBox ag46.h ty46.h.sz rfl (EN ha (.tmp rfl rfl) rfl) hp.2 rfl) ?_
       obtain ⟨r190, hx191, hF⟩ := bind_some hF
       refine D_act0 rfl rfl (.on 193 rfl rfl rfl) (.rd (.t (.t (.t (.t (.t (.t (.t (.t (.t (.t (.t (.t (.t (.t (.t .h))))))))))))))) rfl (.rd (.t (.t (.t (.t (.t (.t (.t (.t (.t (.t (.t (.t (.t (.t (.t (.t .h)))))))))))))))) rfl (.rd (.t (.t (.t (.t (.t (.t (.t (.t (.t (.t (.t (.t (.t (.t (.t (.t (.t .h))))))))))))))))) rfl (.rd (.t (.t (.t (.t (.t (.t (.t (.t (.t (.t (.t (.t (.t (.t (.t (.t (.t (.t .h)))))))))))))))))) rfl (.rd (.t (.t (.t (.t (.t (.t (.t (.t (.t (.t (.t (.t (.t (.t (.t (.t (.t (.t (.t .h))))))))))))))))))) rfl (.rd (.t (.t (.t (.t (.t (.t (.t (.t (.t (.t (.t (.t (.t (.t (.t (.t (.t (.t (.t (.t .h)))))))))))))))))))) rfl .nil)))))) (.own (.t (.t (.t (.t (.t (.t (.t (.t (.t (.t (.t (.t (.t .h))))))))))))) (fun _ h => h) (.own (.t (.t (.t (.t (.t (.t (.t (.t (.t (.t (.t (.t (.t (.t .h)))))))))))))) (fun _ h => h) (.dep rfl (.dep rfl (.dep rfl (.dep rfl .nil)))))) (fun ha => X_callS cf36.h (.cons (EN ha (.tmp rfl rfl) rfl) (.cons (EN ha (.tmp rfl rfl) rfl) .nil)) (i_EqualReached_ok r174.1 p176.1 p176.2.1 p176.2.2.1 r174.2 p176.2.2.2.1 p176.2.2.2.2.1 p176.2.2.2.2.2 _ hx191)) (fun _ => ?_)
       obtain ⟨r193, hx194, hF⟩ := bind_some hF
       refine D_act0 rfl rfl (.on 193 rfl rfl rfl) (.rd (.t (.t (.t (.t (.t (.t (.t (.t (.t (.t (.t (.t (.t (.t (.t .h))))))))))))))) rfl (.rd (.t (.t (.t (.t (.t (.t (.t (.t (.t (.t (.t (.t (.t (.t (.t (.t .h)))))))))))))))) rfl (.rd (.t (.t (.t (.t (.t (.t (.t (.t (.t (.t (.t (.t (.t (.t (.t (.t (.t .h))))))))))))))))) rfl (.rd (.t (.t (.t (.t (.t (.t (.t (.t (.t (.t (.t (.t (.t (.t (.t (.t (.t (.t .h)))))))))))))))))) rfl (.rd (.t (.t (.t (.t (.t (.t (.t (.t (.t (.t (.t (.t (.t (.t (.t (.t (.t (.t (.t .h))))))))))))))))))) rfl (.rd (.t (.t (.t (.t (.t (.t (.t (.t (.t (.t (.t (.t (.t (.t (.t (.t (.t (.t (.t (.t .h)))))))))))))))))))) rfl .nil)))))) (.dep rfl (.dep rfl (.dep rfl (.dep rfl (.dep rfl (.dep rfl .nil)))))) (fun ha => X_callS cf22.h (.cons (EN ha (.tmp rfl rfl) rfl) (.cons (EN ha (.tmp rfl rfl) rfl) .nil)) (s_EqualReached_ok r174.1 p176.1 p176.2.1 p176.2.2.1 r174.2 p176.2.2.2.1 p176.2.2.2.2.1 p176.2.2.2.2.2 _ hx194)) (fun _ => ?_)
       refine D_val rfl (.on 193 rfl rfl rfl) (fun ha => V_eqB (a := r190) (b := r193) Tryz.underlying4 (EN ha (.tmp rfl rfl) rfl) (EN ha (.tmp rfl rfl) rfl)) ?_
       refine D_val rfl .no (fun ha => V_pick (b := true) (u := (.bool (r190 == r193))) (v := (.bool false)) (EN ha (.tmp rfl rfl) rfl) (EN ha (.tmp rfl rfl) rfl) (EN ha (.bool _) rfl)) ?_
       refine Dm (.bool (r190 == r193)) rfl rfl rfl rfl ?_
       rcases Bool.eq_false_or_eq_true (r190 == r193) with hg196 | hg196
       · rw [hg196]
         try rw [hg196] at hF; dsimp only [cond_true, cond_false] at hF
         refine D_val rfl (.on 202 rfl rfl rfl) (fun ha => V_move (v := p181.1.v) (EN ha (.tmp rfl rfl) rfl)) ?_
         refine D_val rfl (.on 202 rfl rfl rfl) (fun ha => V_move (v := p181.2.1.v) (EN ha (.tmp rfl rfl) rfl)) ?_
         refine D_val rfl (.on 202 rfl rfl rfl) (fun ha => V_move (v := p181.2.2.1.v) (EN ha (.tmp rfl rfl) rfl)) ?_
         refine D_val rfl (.on 202 rfl rfl rfl) (fun ha => V_move (v := p181.2.2.2.1.v) (EN ha (.tmp rfl rfl) rfl)) ?_
         refine D_atO rfl (.on 202 rfl rfl rfl) (.t (.t (.t (.t (.t .h))))) (fun ha hp => V_loadBox ag46.h ty46.h.sz rfl (EN ha (.tmp rfl rfl) rfl) hp.2 rfl) ?_
         refine D_val rfl (.on 202 rfl rfl rfl) (fun ha => V_move (v := p181.1.v) (EN ha (.tmp rfl rfl) rfl)) ?_
         refine D_val rfl (.on 202 rfl rfl rfl) (fun ha => V_move (v := p181.2.1.v) (EN ha (.tmp rfl rfl) rfl)) ?_
         refine D_val rfl (.on 202 rfl rfl rfl) (fun ha => V_move (v := p181.2.2.1.v) (EN ha (.tmp rfl rfl) rfl)) ?_
         refine D_val rfl (.on 202 rfl rfl rfl) (fun ha => V_move (v := p181.2.2.2.1.v) (EN ha (.tmp rfl rfl) rfl)) ?_
         refine D_atO rfl (.on 202 rfl rfl rfl) (.t (.t (.t (.t (.t .h))))) (fun ha hp => V_loadBox ag46.h ty46.h.sz rfl (EN ha (.tmp rfl rfl) rfl) hp.2 rfl) ?_
         obtain ⟨r197, hx198, hF⟩ := bind_some hF
         refine D_act3 rfl rfl (.on 202 rfl rfl rfl) (.cons (.t (.t (.t (.t (.t (.t (.t (.t (.t (.t (.t .h))))))))))) (.cons (.t (.t (.t (.t (.t (.t (.t (.t (.t (.t .h)))))))))) (.cons (.t (.t (.t (.t (.t (.t (.t (.t (.t .h))))))))) (.rd (.t (.t (.t (.t (.t (.t .h)))))) rfl (.rd (.t (.t (.t (.t (.t (.t (.t .h))))))) rfl (.rd (.t (.t (.t (.t (.t (.t (.t (.t .h)))))))) rfl (.rd (.t (.t (.t (.t (.t (.t (.t (.t (.t .h))))))))) rfl .nil))))))) (.own (.t (.t (.t (.t (.t .h))))) (fun _ h => h) (.dep rfl (.dep rfl (.dep rfl (.dep rfl (.dep rfl (.dep rfl (.dep rfl .nil)))))))) (fun ha => XC_borL (pre := _) (.cons frz_own (.cons frz_own (.cons frz_own .nil))) (fun _ => .nil) (XC_pre (.rd (.t (.t (.t .h))) rfl (.rd (.t (.t (.t (.t .h)))) rfl (.rd (.t (.t (.t (.t (.t .h))))) rfl (.rd .h rfl (.rd (.t .h) rfl (.rd (.t (.t .h)) rfl (.rd (.t (.t (.t (.t (.t (.t .h)))))) rfl .nil))))))) (X_callS cf27.h (.cons (EN ha (.tmp rfl rfl) rfl) (.cons (EN ha (.tmp rfl rfl) rfl) (.cons (EN ha (.tmp rfl rfl) rfl) (.cons (EN ha (.tmp rfl rfl) rfl) (.cons (EN ha (.tmp rfl rfl) rfl) .nil))))) (i_IsReached_ok r179.1 p181.1 r179.2.1 p181.2.1 r179.2.2.1 p181.2.2.1 r179.2.2.2.1 p181.2.2.2.1 r179.2.2.2.2 p181.2.2.2.2.2.1 p181.2.2.2.2.2.2.2.1 p181.2.2.2.2.2.2.2.2.2 _ hx198)))) (fun _ => ?_)
         obtain ⟨r200, hx201, hF⟩ := bind_some hF
         refine D_act3 rfl rfl (.on 202 rfl rfl rfl) (.cons .h (.cons .h (.cons .h (.rd (.t (.t (.t (.t (.t (.t .h)))))) rfl (.rd (.t (.t (.t (.t (.t (.t (.t .h))))))) rfl (.rd (.t (.t (.t (.t (.t (.t (.t (.t .h)))))))) rfl (.rd (.t (.t (.t (.t (.t (.t (.t (.t (.t .h))))))))) rfl .nil))))))) (.dep rfl (.dep rfl (.dep rfl (.dep rfl (.dep rfl (.dep rfl (.dep rfl (.dep rfl .nil)))))))) (fun ha => XC_borL (pre := _) (.cons frz_own (.cons frz_own (.cons frz_own .nil))) (fun _ => .nil) (XC_pre (.rd (.t (.t (.t .h))) rfl (.rd (.t (.t (.t (.t .h)))) rfl (.rd (.t (.t (.t (.t (.t .h))))) rfl (.rd .h rfl (.rd (.t .h) rfl (.rd (.t (.t .h)) rfl (.rd (.t (.t (.t (.t (.t (.t .h)))))) rfl .nil))))))) (X_callS cf37.h (.cons (EN ha (.tmp rfl rfl) rfl) (.cons (EN ha (.tmp rfl rfl) rfl) (.cons (EN ha (.tmp rfl rfl) rfl) (.cons (EN ha (.tmp rfl rfl) rfl) (.cons (EN ha (.tmp rfl rfl) rfl) .nil))))) (s_IsReached_ok r179.1 p181.1 r179.2.1 p181.2.1 r179.2.2.1 p181.2.2.1 r179.2.2.2.1 p181.2.2.2.1 r179.2.2.2.2 p181.2.2.2.2.2.1 p181.2.2.2.2.2.2.2.1 p181.2.2.2.2.2.2.2.2.2 _ hx201)))) (fun _ => ?_)
         refine D_val rfl (.on 202 rfl rfl rfl) (fun ha => V_eqB (a := r197) (b := r200) Tryz.underlying4 (EN ha (.tmp rfl rfl) rfl) (EN ha (.tmp rfl rfl) rfl)) ?_
         refine D_val rfl .no (fun ha => V_pick (b := true) (u := (.bool (r197 == r200))) (v := (.bool false)) (EN ha (.tmp rfl rfl) rfl) (EN ha (.tmp rfl rfl) rfl) (EN ha (.bool _) rfl)) ?_
         refine Dm (.bool (r197 == r200)) rfl rfl rfl rfl ?_
         rcases Bool.eq_false_or_eq_true (r197 == r200) with hg203 | hg203
         · rw [hg203]
           try rw [hg203] at hF; dsimp only [cond_true, cond_false] at hF
           iterate 2 refine D_val rfl (.on 217 rfl rfl rfl) (fun ha => V_move (v := p6.2.2.2.2.2.2.1.v) (EN ha (.tmp rfl rfl) rfl)) ?_
           obtain ⟨r204, hx205, hF⟩ := bind_some hF
           refine D_act3 rfl rfl (.on 217 rfl rfl rfl) (.rd (.t (.t (.t (.t (.t (.t (.t (.t (.t (.t (.t (.t (.t (.t (.t (.t (.t (.t (.t (.t (.t (.t (.t (.t (.t (.t (.t (.t (.t (.t (.t (.t (.t (.t (.t .h))))))))))))))))))))))))))))))))))) rfl .nil) (.dep rfl (.dep rfl (.dep rfl (.dep rfl (.dep rfl (.dep rfl (.dep rfl (.dep rfl .nil)))))))) (fun ha => X_callS cf38.h (.cons (EN ha (.tmp rfl rfl) rfl) .nil) (i_StartReach_ok r4.2.2.2 p6.2.2.2.2.2.2.1 _ hx205)) (fun p206 => ?_)
           obtain ⟨r207, hx208, hF⟩ := bind_some hF
           refine D_act3 rfl rfl (.on 217 rfl rfl rfl) (.rd (.t (.t (.t (.t (.t (.t (.t (.t (.t (.t (.t (.t (.t (.t (.t (.t (.t (.t (.t (.t (.t (.t (.t (.t (.t (.t (.t (.t (.t (.t (.t (.t (.t (.t (.t (.t (.t (.t .h)))))))))))))))))))))))))))))))))))))) rfl .nil) (.dep rfl (.dep rfl (.dep rfl (.dep rfl (.dep rfl (.dep rfl (.dep rfl (.dep rfl .nil)))))))) (fun ha => X_callS cf39.h (.cons (EN ha (.tmp rfl rfl) rfl) .nil) (s_StartReach_ok r4.2.2.2 p6.2.2.2.2.2.2.1 _ hx208)) (fun p209 => ?_)
           obtain ⟨r210, hx211, hF⟩ := bind_some hF
           refine D_act6 rfl rfl (.on 217 rfl rfl rfl) (.cons (.t (.t .h)) (.cons (.t .h) (.cons .h (.cons (.t (.t .h)) (.cons (.t .h) (.cons .h .nil)))))) (.dep rfl (.dep rfl (.dep rfl (.dep rfl (.dep rfl (.dep rfl (.dep rfl (.dep rfl .nil)))))))) (fun ha => XC_borL (pre := []) (.cons frz_own (.cons frz_own (.cons frz_own (.cons frz_own (.cons frz_own (.cons frz_own .nil)))))) (fun _ => .nil) (X_callS cf22.h (.cons (EN ha (.tmp rfl rfl) rfl) (.cons (EN ha (.tmp rfl rfl) rfl) .nil)) (s_EqualReached_ok r204 p206.1 p206.2.2.1 p206.2.2.2.2.1 r207 p209.1 p209.2.2.1 p209.2.2.2.2.1 _ hx211))) (fun _ => ?_)
           refine D_val rfl .no (fun ha => V_pick (b := true) (u := (.bool r210)) (v := (.bool false)) (EN ha (.tmp rfl rfl) rfl) (EN ha (.tmp rfl rfl) rfl) (EN ha (.bool _) rfl)) ?_
           refine Da (.bool r210) rfl rfl rfl rfl ?_
           refine D_nil ?_
           obtain rfl := Option.some.inj hF
           exact ⟨_, _, rfl, (EqL.cons rfl (EqL.nil)).eq, (.sel .nil)⟩
         rw [hg203]
         try rw [hg203] at hF; dsimp only [cond_true, cond_false] at hF
         iterate 5 refine D_off 217 rfl rfl rfl rfl ?_
         refine D_val rfl .no (fun ha => V_pick (b := false) (u := undef) (v := (.bool false)) (EN ha (.tmp rfl rfl) rfl) (EN ha (.tmp rfl rfl) rfl) (EN ha (.bool _) rfl)) ?_
         refine Da (.bool false) rfl rfl rfl rfl ?_
         refine D_nil ?_
         obtain rfl := Option.some.inj hF
         exact ⟨_, _, rfl, (EqL.cons rfl (EqL.nil)).eq, (.sel .nil)⟩
       rw [hg196]
       try rw [hg196] at hF; dsimp only [cond_true, cond_false] at hF
       iterate 13 refine D_off 202 rfl rfl rfl rfl ?_
       refine D_val rfl .no (fun ha => V_pick (b := false) (u := undef) (v := (.bool false)) (EN ha (.tmp rfl rfl) rfl) (EN ha (.tmp rfl rfl) rfl) (EN ha (.bool _) rfl)) ?_
       refine Dm (.bool false) rfl rfl rfl rfl ?_
       iterate 5 refine D_off 217 rfl rfl rfl rfl ?_
       refine D_val rfl .no (fun ha => V_pick (b := false) (u := undef) (v := (.bool false)) (EN ha (.tmp rfl rfl) rfl) (EN ha (.tmp rfl rfl) rfl) (EN ha (.bool _) rfl)) ?_
       refine Da (.bool false) rfl rfl rfl rfl ?_
       refine D_nil ?_
       obtain rfl := Option.some.inj hF
       exact ⟨_, _, rfl, (EqL.cons rfl (EqL.nil)).eq, (.sel .nil)⟩
     rw [hg189]
     try rw [hg189] at hF; dsimp only [cond_true, cond_false] at hF
     iterate 7 refine D_off 193 rfl rfl rfl rfl ?_
     refine D_val rfl .no (fun ha => V_pick (b := false) (u := undef) (v := (.bool false)) (EN ha (.tmp rfl rfl) rfl) (EN ha (.tmp rfl rfl) rfl) (EN ha (.bool _) rfl)) ?_
     refine Dm (.bool false) rfl rfl rfl rfl ?_
     iterate 13 refine D_off 202 rfl rfl rfl rfl ?_
     refine D_val rfl .no (fun ha => V_pick (b := false) (u := undef) (v := (.bool false)) (EN ha (.tmp rfl rfl) rfl) (EN ha (.tmp rfl rfl) rfl) (EN ha (.bool _) rfl)) ?_
     refine Dm (.bool false) rfl rfl rfl rfl ?_
     iterate 5 refine D_off 217 rfl rfl rfl rfl ?_
     refine D_val rfl .no (fun ha => V_pick (b := false) (u := undef) (v := (.bool false)) (EN ha (.tmp rfl rfl) rfl) (EN ha (.tmp rfl rfl) rfl) (EN ha (.bool _) rfl)) ?_
     refine Da (.bool false) rfl rfl rfl rfl ?_
     refine D_nil ?_
     obtain rfl := Option.some.inj hF
     exact ⟨_, _, rfl, (EqL.cons rfl (EqL.nil)).eq, (.sel .nil)⟩
   rw [hg185]
   try rw [hg185] at hF; dsimp only [cond_true, cond_false] at hF
   iterate 3 refine D_off 188 rfl rfl rfl rfl ?_
   refine D_val rfl .no (fun ha => V_pick (b := false) (u := undef) (v := (.bool false)) (EN ha (.tmp rfl rfl) rfl) (EN ha (.tmp rfl rfl) rfl) (EN ha (.bool _) rfl)) ?_
   refine Dm (.bool false) rfl rfl rfl rfl ?_
   iterate 7 refine D_off 193 rfl rfl rfl rfl ?_
   refine D_val rfl .no (fun ha => V_pick (b := false) (u := undef) (v := (.bool false)) (EN ha (.tmp rfl rfl) rfl) (EN ha (.tmp rfl rfl) rfl) (EN ha (.bool _) rfl)) ?_
   refine Dm (.bool false) rfl rfl rfl rfl ?_
   iterate 13 refine D_off 202 rfl rfl rfl rfl ?_
   refine D_val rfl .no (fun ha => V_pick (b := false) (u := undef) (v := (.bool false)) (EN ha (.tmp rfl rfl) rfl) (EN ha (.tmp rfl rfl) rfl) (EN ha (.bool _) rfl)) ?_
   refine Dm (.bool false) rfl rfl rfl rfl ?_
   iterate 5 refine D_off 217 rfl rfl rfl rfl ?_
   refine D_val rfl .no (fun ha => V_pick (b := false) (u := undef) (v := (.bool false)) (EN ha (.tmp rfl rfl) rfl) (EN ha (.tmp rfl rfl) rfl) (EN ha (.bool _) rfl)) ?_
   refine Da (.bool false) rfl rfl rfl rfl ?_
   refine D_nil ?_
   obtain rfl := Option.some.inj hF
   exact ⟨_, _, rfl, (EqL.cons rfl (EqL.nil)).eq, (.sel .nil)⟩
 rintro _ _ ⟨c213, g214, rfl, rfl, hE⟩
 replace hF := hO184
 clear hO184
 try dsimp only at hF
 refine K_ent hE ?_
 refine CW_ret ?_
 obtain rfl := Option.some.inj hF
 exact End_ret () (.tmp rfl rfl .nil) rfl (.sel .nil)
end Go.Proofs.YtndckmfbndmkhaaGreat
