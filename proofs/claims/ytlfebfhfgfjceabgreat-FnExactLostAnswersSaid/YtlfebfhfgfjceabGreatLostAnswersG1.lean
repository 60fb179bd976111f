/-
  Functions of the program as Lean functions, and that the calls return what these say: part 2. No conditions.
-/
import Derived.Shelf.Sort.Plain
import Derived.Shelf.Slices.In.SortNone
import Derived.Shelf.Slices.CompactI
import Derived.Test.YtlfebfhfgfjceabGreatLostAnswersG0
import Derived.KernelRfl
set_option maxRecDepth 100000
set_option maxHeartbeats 1000000
set_option linter.unusedVariables false
namespace Go.Proofs.YtlfebfhfgfjceabGreat
open Go Go.Fw
def s_StartReach_L1 : List Int → Nat → (List Fact) → (List Int) → (List Access) → (List Fact) → (List Int) → (List Access) → Option (Reached)
 | [], k99, c79, c82, c85, c88, c91, c93 => some ({ Facts := c88, Values := c91, Log := c93, Rounds := 0 } : Reached)
 | x101 :: rest100, k99, c79, c82, c85, c88, c91, c93 => ((s_l1In x101 0 9).bind fun r112 =>
     if r112 then (
       (s_l3Put c91 x101).bind fun r117 =>
       some r117)
     else (
       some c91)).bind fun o108 =>
   match o108 with
   | c121 => s_StartReach_L1 rest100 (k99 + 1) c79 c82 c85 c88 c121 c93
def s_StartReach (a_seeds : List Int) : Option (Reached) :=
 s_StartReach_L1 a_seeds 0 ([] : List Fact) ([] : List Int) ([] : List Access) ([] : List Fact) ([] : List Int) ([] : List Access)
theorem s_StartReach_ok (a_seeds : List Int) (v0_0 : Sv) (R : Reached) (hF : s_StartReach a_seeds = some R) :
   Fw.Spec Tryz.prog 69 [v0_0.v] [crd (RdS 3 rdInt) v0_0.v a_seeds] (fun p : Sv × List Nat × Sv × Sv × List Nat => (.agg [p.1.v, p.2.2.1.v, p.2.2.2.1.v, (.int .i64 R.Rounds)].toArray)) (fun p => [cown (OwnS 80 ow80) p.2.1 p.1.v R.Facts, crd (RdS 3 rdInt) p.2.2.1.v R.Values, cown (OwnS 141 ow141) p.2.2.2.2 p.2.2.2.1.v R.Log]) := by
 refine Spec_enter (n := 26) Tryz.func69 rfl rfl (rs := [.cell 2 73]) rfl rfl rfl ?_
 intro H0 F0
 unfold s_StartReach at hF
 refine au ?_
 refine AnW (fun k1 => ?_)
 iterate 2 refine au ?_
 refine C_val (V_build ty73.h rfl (vs := []) .nil (cells := [(.slice none 0 0), (.slice none 0 0), (.slice none 0 0), (.int .i64 0)]) rfl) ?_
 refine AnW (fun k2 => ?_)
 refine As (.agg [(.slice none 0 0), (.slice none 0 0), (.slice none 0 0), (.int .i64 0)].toArray) ?_
 iterate 5 refine au ?_
 refine CW_block (CW_loop (m := a_seeds.length) (fun m97 f' cs' => ∃ (g : Fr) (k99 : Nat) (rest100 : List Int) (c79 : List Fact) (c82 : List Int) (c85 : List Access) (c88 : List Fact) (c91 : List Int) (c93 : List Access) (v80 : Sv) (F81 : List Nat) (v83 : Sv) (F84 : List Nat) (v86 : Sv) (F87 : List Nat) (v89 : Sv) (F90 : List Nat) (v92 : Sv) (v94 : Sv) (F95 : List Nat), m97 = rest100.length ∧ f' = updL g [(0, v0_0.v), (2, (.pointer (some ⟨k1, 0, some 0⟩))), (3, (.pointer (some ⟨k2, 0, some 0⟩))), (4, (.int .i64 (k99 : Int)))] ∧ List.drop k99 a_seeds = rest100 ∧ Ent cs' [crd (RdS 3 rdInt) v0_0.v a_seeds, cbox k1 73 (.agg [v80.v, v83.v, v86.v, (.int .i64 0)].toArray), cown (OwnS 80 ow80) F81 v80.v c79, cown (OwnS 3 (roE rdInt)) F84 v83.v c82, cown (OwnS 141 ow141) F87 v86.v c85, cbox k2 73 (.agg [v89.v, v92.v, v94.v, (.int .i64 0)].toArray), cown (OwnS 80 ow80) F90 v89.v c88, crd (RdS 3 rdInt) v92.v c91, cown (OwnS 141 ow141) F95 v94.v c93] ∧ s_StartReach_L1 rest100 k99 c79 c82 c85 c88 c91 c93 = some R) ⟨_, 0, _, _, _, _, _, _, _, ⟨none, 0, 0⟩, [], ⟨none, 0, 0⟩, [], ⟨none, 0, 0⟩, [], ⟨none, 0, 0⟩, [], ⟨none, 0, 0⟩, ⟨none, 0, 0⟩, [], rfl, eqA, rfl, (.conv .nil (own_nil (Ro := ow80) (E := 80)) (.cons .nil) (.conv .nil (own_nil (Ro := (roE rdInt)) (E := 3)) (.cons .nil) (.conv .nil (own_nil (Ro := ow141) (E := 141)) (.cons .nil) (.conv .nil (own_nil (Ro := ow80) (E := 80)) (.cons .nil) (.conv .nil (rd_nil (R := rdInt) (E := 3)) (.cons .nil) (.conv .nil (own_nil (Ro := ow141) (E := 141)) (.cons .nil) entA)))))), hF⟩ ?_)
 clear hF
 rintro m97 _ _ ⟨g98, k99, rest100, c79, c82, c85, c88, c91, c93, v80, F81, v83, F84, v86, F87, v89, F90, v92, v94, F95, rfl, rfl, hd102, hE, hF⟩
 refine K_ent hE ?_
 clear hE
 refine K_pure (c := crd (RdS 3 rdInt) v0_0.v a_seeds) .h crd_bound (fun hbd107 => ?_)
 rcases rest100 with _ | ⟨x101, rest100⟩
 · have hk103 := List.drop_eq_nil_iff.1 hd102
   rw [s_StartReach_L1] at hF
   iterate 7 refine au ?_
   refine CdF ?_
   iterate 6 refine au ?_
   refine As (.agg [v89.v, v92.v, v94.v, (.int .i64 0)].toArray) ?_
   iterate 2 refine au ?_
   cases hF
   exact Er (v89, F90, v92, v94, F95)
 obtain ⟨hk103, hx104, hd105⟩ := drop_cons hd102
 rw [s_StartReach_L1] at hF
 iterate 7 refine au ?_
 refine CdT ?_
 refine au ?_
 obtain ⟨o108, hio108, hO109⟩ := bind_some hF
 refine K_cut (fun f' cs' => ∃ (c121 : List Int) (v122 : Sv) (g : Fr), c121 = o108 ∧ f' = updL g [(0, v0_0.v), (2, (.pointer (some ⟨k1, 0, some 0⟩))), (3, (.pointer (some ⟨k2, 0, some 0⟩))), (4, (.int .i64 (k99 : Int)))] ∧ Ent cs' [crd (RdS 3 rdInt) v0_0.v a_seeds, cbox k1 73 (.agg [v80.v, v83.v, v86.v, (.int .i64 0)].toArray), cown (OwnS 80 ow80) F81 v80.v c79, cown (OwnS 3 (roE rdInt)) F84 v83.v c82, cown (OwnS 141 ow141) F87 v86.v c85, cbox k2 73 (.agg [v89.v, v122.v, v94.v, (.int .i64 0)].toArray), cown (OwnS 80 ow80) F90 v89.v c88, crd (RdS 3 rdInt) v122.v c121, cown (OwnS 141 ow141) F95 v94.v c93]) ?_ ?_
 · replace hF := hio108
   refine CW_block (K_region (Cm v0_0.v rfl rfl ?_))
   refine au ?_
   refine Ai hx104 (fun k110 j111 => ?_)
   refine Al ls3_0 ?_
   obtain ⟨r112, hx113, hF⟩ := bind_some hF
   refine Cx0 (s_l1In_ok _ _ _ _ hx113) (fun _ => ?_)
   refine au ?_
   refine Cc (fun hb120 => ?_) (fun hb120 => ?_)
   · rw [if_pos hb120] at hF
     refine CW_draw [0, 1, 2, 3, 4, 5, 6, 7, 8] [0, 1, 0, 0, 12, 28, 63, 127, 255] [6, 8] mixed (by decide +kernel) ?_
     refine du ?_
     refine D_atO rfl .no (.t (.t (.t (.t (.t (.t .h)))))) (fun ha hp => V_load (v := v92.v) ag22.h (EN ha (.tmp rfl rfl) rfl) hp.2 rfl rfl) ?_
     iterate 2 refine du ?_
     refine Di hx104 (fun k115 j116 => ?_)
     refine Dl ls3_0 ?_
     obtain ⟨r117, hx118, hF⟩ := bind_some hF
     refine Dx1 (s_l3Put_ok _ _ _ _ hx118) (fun p119 => ?_)
     refine du ?_
     refine D_act1 rfl rfl .no (.cons (.t (.t (.t (.t (.t (.t (.t (.t .h)))))))) .nil) (.dep rfl .nil) (fun ha => X_storeB (e' := (.agg [v89.v, p119.v, v94.v, (.int .i64 0)].toArray)) ty22.h.sz (EN ha (.tmp rfl rfl) rfl) (EN ha (.tmp rfl rfl) rfl) rfl rfl rfl rfl rfl) (fun _ => ?_)
     refine du ?_
     cases hF
     exact ⟨_, p119, _, rfl, eqA, entA⟩
   rw [if_neg (nt hb120)] at hF
   refine au ?_
   cases hF
   exact ⟨_, v92, _, rfl, eqA, entA⟩
 rintro _ _ ⟨c121, v122, g124, rfl, rfl, hE⟩
 replace hF := hO109
 clear hO109
 try dsimp only at hF
 refine K_ent hE ?_
 iterate 5 refine au ?_
 rw [wk k99]
 exact ⟨_, Nat.lt_succ_self _, _, k99 + 1, rest100, _, _, _, _, _, _, v80, F81, v83, F84, v86, F87, v89, F90, v122, v94, F95, rfl, eqA, hd105, entA, hF⟩
def s_l8Values_L1 (a_l : List Int) : List Int → Nat → Option (Bool)
 | [], k4 => some true
 | x6 :: rest5, k4 => ((s_l1In x6 0 9).bind fun r17 =>
     bif (!r17) then (some true)
     else (bif (decide ((0 : Int) < (k4 : Int))) then ((ix a_l (IntKind.i64.wrap ((k4 : Int) - 1))).bind fun x24 =>
         some (decide ((x6 : Int) ≤ x24)))
       else (some false))).bind fun o13 =>
   match o13 with
   | c30 => if c30 then (
       some false)
     else (
       s_l8Values_L1 a_l rest5 (k4 + 1))
def s_l8Values (a_l : List Int) : Option (Bool) :=
 s_l8Values_L1 a_l a_l 0
theorem s_l8Values_ok (a_l : List Int) (v0_0 : Sv) (R : Bool) (hF : s_l8Values a_l = some R) :
   Fw.Spec Tryz.prog 104 [v0_0.v] [crd (RdS 3 rdInt) v0_0.v a_l] (fun _ : Unit => (.bool R)) (fun _ => []) := by
 refine Spec_enter (n := 32) Tryz.func104 rfl rfl (rs := [.tmp 2]) rfl rfl rfl ?_
 intro H0 F0
 unfold s_l8Values at hF
 iterate 7 refine au ?_
 refine CW_block (CW_loop (m := a_l.length) (fun m2 f' cs' => ∃ (g : Fr) (k4 : Nat) (rest5 : List Int), m2 = rest5.length ∧ f' = updL g [(0, v0_0.v), (3, (.int .i64 (k4 : Int)))] ∧ List.drop k4 a_l = rest5 ∧ Ent cs' [crd (RdS 3 rdInt) v0_0.v a_l] ∧ s_l8Values_L1 a_l rest5 k4 = some R) ⟨_, 0, _, rfl, eqA, rfl, entA, hF⟩ ?_)
 clear hF
 rintro m2 _ _ ⟨g3, k4, rest5, rfl, rfl, hd7, hE, hF⟩
 refine K_ent hE ?_
 clear hE
 refine K_pure (c := crd (RdS 3 rdInt) v0_0.v a_l) .h crd_bound (fun hbd12 => ?_)
 rcases rest5 with _ | ⟨x6, rest5⟩
 · have hk8 := List.drop_eq_nil_iff.1 hd7
   rw [s_l8Values_L1] at hF
   iterate 7 refine au ?_
   refine CdF ?_
   iterate 8 refine au ?_
   cases hF
   exact Er ()
 obtain ⟨hk8, hx9, hd10⟩ := drop_cons hd7
 rw [s_l8Values_L1] at hF
 iterate 7 refine au ?_
 refine CdT ?_
 iterate 2 refine au ?_
 obtain ⟨o13, hio13, hO14⟩ := bind_some hF
 refine K_draw [0, 1, 2, 3, 4, 5, 6, 7, 8, 9, 10, 11, 12, 13, 14, 15, 16, 17, 18, 19, 20, 21] [0, 0, 3, 7, 15, 31, 63, 127, 255, 511, 1023, 1023, 4095, 8191, 1023, 1023, 33791, 115711, 246783, 524287, 1048575, 2097151] [4] mixed (by decide +kernel) ?_
 refine D_cut (fun f' cs' => ∃ (c30 : Bool) (g : Fr), c30 = o13 ∧ f' = updL g [(0, v0_0.v), (3, (.int .i64 (k4 : Int))), (31, (.bool c30))] ∧ Ent cs' [crd (RdS 3 rdInt) v0_0.v a_l]) ?_ ?_
 · replace hF := hio13
   iterate 2 refine du ?_
   refine Di hx9 (fun k15 j16 => ?_)
   refine Dl ls3_0 ?_
   obtain ⟨r17, hx18, hF⟩ := bind_some hF
   refine Dx0 (s_l1In_ok _ _ _ _ hx18) (fun _ => ?_)
   iterate 2 refine du ?_
   rcases Bool.eq_false_or_eq_true (!r17) with hg20 | hg20
   · rw [hg20]
     try rw [hg20] at hF; dsimp only [cond_true, cond_false] at hF
     iterate 16 refine du ?_
     cases hF
     exact ⟨_, _, rfl, eqA, entA⟩
   rw [hg20]
   try rw [hg20] at hF; dsimp only [cond_true, cond_false] at hF
   iterate 3 refine du ?_
   rcases Bool.eq_false_or_eq_true (decide ((0 : Int) < (k4 : Int))) with hg21 | hg21
   · rw [hg21]
     try rw [hg21] at hF; dsimp only [cond_true, cond_false] at hF
     iterate 2 refine du ?_
     refine Di hx9 (fun k22 j23 => ?_)
     refine Dl ls3_0 ?_
     iterate 3 refine du ?_
     obtain ⟨x24, hx25, hF⟩ := bind_some hF
     obtain ⟨hp26, hx27⟩ := ix_some hx25
     refine Di hx27 (fun k28 j29 => ?_)
     refine Dl ls3_0 ?_
     iterate 4 refine du ?_
     cases hF
     exact ⟨_, _, rfl, eqA, entA⟩
   rw [hg21]
   try rw [hg21] at hF; dsimp only [cond_true, cond_false] at hF
   iterate 13 refine du ?_
   cases hF
   exact ⟨_, _, rfl, eqA, entA⟩
 rintro _ _ ⟨c30, g33, rfl, rfl, hE⟩
 replace hF := hO14
 clear hO14
 try dsimp only at hF
 refine K_ent hE ?_
 refine Cc (fun hb32 => ?_) (fun hb32 => ?_)
 · rw [if_pos hb32] at hF
   iterate 4 refine au ?_
   cases hF
   exact Er ()
 rw [if_neg (nt hb32)] at hF
 iterate 6 refine au ?_
 rw [wk k4]
 exact ⟨_, Nat.lt_succ_self _, _, k4 + 1, rest5, rfl, eqA, hd10, entA, hF⟩
def s_l2One (a_rel : Int) (a_values : List Int) : Option (Fact) :=
 (app ([] : List Int) a_values).bind fun z3 =>
 some ({ Rel := a_rel, Values := z3 } : Fact)
theorem s_l2One_ok (a_rel : Int) (a_values : List Int) (v1_0 : Sv) (R : Fact) (hF : s_l2One a_rel a_values = some R) :
   Fw.Spec Tryz.prog 178 [(.int .i64 a_rel), v1_0.v] [crd (RdS 3 rdInt) v1_0.v a_values] (fun p : Sv × List Nat => (.agg [(.int .i64 R.Rel), p.1.v].toArray)) (fun p => [cown (OwnS 3 (roE rdInt)) p.2 p.1.v R.Values]) := by
 refine Spec_enter (n := 10) Tryz.func178 rfl rfl (rs := [.cell 4 80]) rfl rfl rfl ?_
 intro H0 F0
 unfold s_l2One at hF
 refine au ?_
 refine AnW (fun k1 => ?_)
 iterate 3 refine au ?_
 refine C_new rfl (N_buildSliceT (g := true) sl22.h ty3.h .nil (vs := []) rfl rfl rfl (by simp)) (fun k2 => ?_)
 refine Cv1 (.cons .h .nil) (own_lit (Ro := (roE rdInt)) (E := 3) (F := []) (xs := ([] : List Int)) MkL_nil rfl rfl) ?_
 refine au ?_
 obtain ⟨z3, hx4, hF⟩ := bind_some hF
 refine C_x1 (.cons .h (.rd (.t .h) rfl .nil)) (X_appendO (Ro := (roE rdInt)) sl22.h ni22 ty3.h rfl rfl rfl (.tmp rfl rfl) (.tmp rfl rfl) hx4 src_rd) (fun p5 => ?_)
 refine C_val (V_build ty80.h rfl (vs := [(.int .i64 a_rel), p5.1.v]) (.cons (.tmp rfl rfl) (.cons (.tmp rfl rfl) .nil)) (cells := [(.int .i64 a_rel), p5.1.v]) rfl) ?_
 refine As (.agg [(.int .i64 a_rel), p5.1.v].toArray) ?_
 iterate 2 refine au ?_
 cases hF
 exact Er (p5.1, p5.2)
def s_l2Copy_L1 : List Fact → Nat → (List Fact) → Option ((List Fact))
 | [], k8, c2 => some c2
 | x10 :: rest9, k8, c2 => (s_l2One x10.Rel x10.Values).bind fun r22 =>
   (app c2 ([r22] : List Fact)).bind fun z26 =>
   s_l2Copy_L1 rest9 (k8 + 1) z26
def s_l2Copy (a_l : List Fact) : Option ((List Fact)) :=
 s_l2Copy_L1 a_l 0 ([] : List Fact)
theorem s_l2Copy_ok (a_l : List Fact) (v0_0 : Sv) (R : (List Fact)) (hF : s_l2Copy a_l = some R) :
   Fw.Spec Tryz.prog 143 [v0_0.v] [crd (RdS 80 rd80) v0_0.v a_l] (fun p : Sv × List Nat => p.1.v) (fun p => [cown (OwnS 80 ow80) p.2 p.1.v R]) := by
 refine Spec_enter (n := 27) Tryz.func143 rfl rfl (rs := [.tmp 2]) rfl rfl rfl ?_
 intro H0 F0
 unfold s_l2Copy at hF
 iterate 4 refine au ?_
 refine C_new rfl (N_buildSliceT (g := true) sl40.h ty80.h .nil (vs := []) rfl rfl rfl (by simp)) (fun k1 => ?_)
 refine Cv1 (.cons .h .nil) (own_lit (Ro := ow80) (E := 80) (F := []) (xs := ([] : List Fact)) MkL_nil rfl rfl) ?_
 iterate 6 refine au ?_
 refine CW_block (CW_loop (m := a_l.length) (fun m6 f' cs' => ∃ (g : Fr) (k8 : Nat) (rest9 : List Fact) (c2 : List Fact) (v3 : Sv) (F4 : List Nat), m6 = rest9.length ∧ f' = updL g [(0, v0_0.v), (3, v3.v), (4, (.int .i64 (k8 : Int)))] ∧ List.drop k8 a_l = rest9 ∧ Ent cs' [crd (RdS 80 rd80) v0_0.v a_l, cown (OwnS 80 ow80) F4 v3.v c2] ∧ s_l2Copy_L1 rest9 k8 c2 = some R) ⟨_, 0, _, _, ⟨(some ⟨k1, 0, none⟩), 0, 1⟩, (k1 :: []), rfl, eqA, rfl, entA, hF⟩ ?_)
 clear hF
 rintro m6 _ _ ⟨g7, k8, rest9, c2, v3, F4, rfl, rfl, hd11, hE, hF⟩
 refine K_ent hE ?_
 clear hE
 refine K_pure (c := crd (RdS 80 rd80) v0_0.v a_l) .h crd_bound (fun hbd16 => ?_)
 rcases rest9 with _ | ⟨x10, rest9⟩
 · have hk12 := List.drop_eq_nil_iff.1 hd11
   rw [s_l2Copy_L1] at hF
   iterate 7 refine au ?_
   refine CdF ?_
   iterate 9 refine au ?_
   cases hF
   exact Er (v3, F4)
 obtain ⟨hk12, hx13, hd14⟩ := drop_cons hd11
 rw [s_l2Copy_L1] at hF
 iterate 7 refine au ?_
 refine CdT ?_
 iterate 2 refine au ?_
 refine CW_draw [0, 1, 2, 3, 4, 5, 6, 7, 8, 9, 10, 11, 12, 13, 14] [0, 0, 0, 6, 14, 30, 0, 0, 192, 448, 960, 2046, 4094, 8191, 16383] [11, 13] mixed (by decide +kernel) ?_
 iterate 3 refine du ?_
 refine Di hx13 (fun k17 j18 => ?_)
 refine du ?_
 refine Dl ls80_0 ?_
 iterate 2 refine du ?_
 refine Di hx13 (fun k19 j20 => ?_)
 refine du ?_
 refine D_ldV (R' := (RdS 3 rdInt)) ag22.h rfl .no (.tmp rfl rfl) rfl .h lv80_1 (fun w21 => ?_)
 obtain ⟨r22, hx23, hF⟩ := bind_some hF
 refine Dx1 (s_l2One_ok _ _ _ _ hx23) (fun p24 => ?_)
 refine D_new rfl .no rfl (fun ha => N_buildSliceT (g := true) (len := 1) (parts := [(0, .tmp 23)]) sl40.h ty80.h (.cons (EN ha (.tmp rfl rfl) rfl) .nil) (vs := [(.agg [(.int .i64 r22.Rel), p24.1.v].toArray)]) rfl rfl rfl (by intro v hv; simp at hv; rcases hv with rfl <;> rfl)) (fun k25 => ?_)
 refine Dv1 (.cons .h (.cons .h .nil)) (own_lit (Ro := ow80) (E := 80) (F := (p24.2 ++ [])) (xs := ([r22] : List Fact)) (MkL_cons mk80 MkL_nil apps) rfl rfl) ?_
 obtain ⟨z26, hx27, hF⟩ := bind_some hF
 refine D_act1 rfl rfl .no (.cons (.t (.t (.t (.t (.t .h))))) (.cons .h .nil)) (.dep rfl .nil) (fun ha => X_appendO (Ro := ow80) sl40.h ni40 ty80.h rfl rfl rfl (EN ha (.tmp rfl rfl) rfl) (EN ha (.tmp rfl rfl) rfl) hx27 src_own) (fun p28 => ?_)
 iterate 2 refine du ?_
 iterate 5 refine au ?_
 rw [wk k8]
 exact ⟨_, Nat.lt_succ_self _, _, k8 + 1, rest9, _, p28.1, p28.2, rfl, eqA, hd14, entA, hF⟩
def s_l8Access (a_m : Int) (a_values : List Int) : Option (Access) :=
 (app ([] : List Int) a_values).bind fun z3 =>
 some ({ Method := a_m, Values := z3 } : Access)
theorem s_l8Access_ok (a_m : Int) (a_values : List Int) (v1_0 : Sv) (R : Access) (hF : s_l8Access a_m a_values = some R) :
   Fw.Spec Tryz.prog 179 [(.int .i64 a_m), v1_0.v] [crd (RdS 3 rdInt) v1_0.v a_values] (fun p : Sv × List Nat => (.agg [(.int .i64 R.Method), p.1.v].toArray)) (fun p => [cown (OwnS 3 (roE rdInt)) p.2 p.1.v R.Values]) := by
 refine Spec_enter (n := 10) Tryz.func179 rfl rfl (rs := [.cell 4 141]) rfl rfl rfl ?_
 intro H0 F0
 unfold s_l8Access at hF
 refine au ?_
 refine AnW (fun k1 => ?_)
 iterate 3 refine au ?_
 refine C_new rfl (N_buildSliceT (g := true) sl22.h ty3.h .nil (vs := []) rfl rfl rfl (by simp)) (fun k2 => ?_)
 refine Cv1 (.cons .h .nil) (own_lit (Ro := (roE rdInt)) (E := 3) (F := []) (xs := ([] : List Int)) MkL_nil rfl rfl) ?_
 refine au ?_
 obtain ⟨z3, hx4, hF⟩ := bind_some hF
 refine C_x1 (.cons .h (.rd (.t .h) rfl .nil)) (X_appendO (Ro := (roE rdInt)) sl22.h ni22 ty3.h rfl rfl rfl (.tmp rfl rfl) (.tmp rfl rfl) hx4 src_rd) (fun p5 => ?_)
 refine C_val (V_build ty141.h rfl (vs := [(.int .i64 a_m), p5.1.v]) (.cons (.tmp rfl rfl) (.cons (.tmp rfl rfl) .nil)) (cells := [(.int .i64 a_m), p5.1.v]) rfl) ?_
 refine As (.agg [(.int .i64 a_m), p5.1.v].toArray) ?_
 iterate 2 refine au ?_
 cases hF
 exact Er (p5.1, p5.2)
def s_l8Log_L1 : List Access → Nat → (List Access) → Option ((List Access))
 | [], k8, c2 => some c2
 | x10 :: rest9, k8, c2 => (s_l8Access x10.Method x10.Values).bind fun r22 =>
   (app c2 ([r22] : List Access)).bind fun z26 =>
   s_l8Log_L1 rest9 (k8 + 1) z26
def s_l8Log (a_l : List Access) : Option ((List Access)) :=
 s_l8Log_L1 a_l 0 ([] : List Access)
theorem s_l8Log_ok (a_l : List Access) (v0_0 : Sv) (R : (List Access)) (hF : s_l8Log a_l = some R) :
   Fw.Spec Tryz.prog 144 [v0_0.v] [crd (RdS 141 rd141) v0_0.v a_l] (fun p : Sv × List Nat => p.1.v) (fun p => [cown (OwnS 141 ow141) p.2 p.1.v R]) := by
 refine Spec_enter (n := 27) Tryz.func144 rfl rfl (rs := [.tmp 2]) rfl rfl rfl ?_
 intro H0 F0
 unfold s_l8Log at hF
 iterate 4 refine au ?_
 refine C_new rfl (N_buildSliceT (g := true) sl71.h ty141.h .nil (vs := []) rfl rfl rfl (by simp)) (fun k1 => ?_)
 refine Cv1 (.cons .h .nil) (own_lit (Ro := ow141) (E := 141) (F := []) (xs := ([] : List Access)) MkL_nil rfl rfl) ?_
 iterate 6 refine au ?_
 refine CW_block (CW_loop (m := a_l.length) (fun m6 f' cs' => ∃ (g : Fr) (k8 : Nat) (rest9 : List Access) (c2 : List Access) (v3 : Sv) (F4 : List Nat), m6 = rest9.length ∧ f' = updL g [(0, v0_0.v), (3, v3.v), (4, (.int .i64 (k8 : Int)))] ∧ List.drop k8 a_l = rest9 ∧ Ent cs' [crd (RdS 141 rd141) v0_0.v a_l, cown (OwnS 141 ow141) F4 v3.v c2] ∧ s_l8Log_L1 rest9 k8 c2 = some R) ⟨_, 0, _, _, ⟨(some ⟨k1, 0, none⟩), 0, 1⟩, (k1 :: []), rfl, eqA, rfl, entA, hF⟩ ?_)
 clear hF
 rintro m6 _ _ ⟨g7, k8, rest9, c2, v3, F4, rfl, rfl, hd11, hE, hF⟩
 refine K_ent hE ?_
 clear hE
 refine K_pure (c := crd (RdS 141 rd141) v0_0.v a_l) .h crd_bound (fun hbd16 => ?_)
 rcases rest9 with _ | ⟨x10, rest9⟩
 · have hk12 := List.drop_eq_nil_iff.1 hd11
   rw [s_l8Log_L1] at hF
   iterate 7 refine au ?_
   refine CdF ?_
   iterate 9 refine au ?_
   cases hF
   exact Er (v3, F4)
 obtain ⟨hk12, hx13, hd14⟩ := drop_cons hd11
 rw [s_l8Log_L1] at hF
 iterate 7 refine au ?_
 refine CdT ?_
 iterate 2 refine au ?_
 refine CW_draw [0, 1, 2, 3, 4, 5, 6, 7, 8, 9, 10, 11, 12, 13, 14] [0, 0, 0, 6, 14, 30, 0, 0, 192, 448, 960, 2046, 4094, 8191, 16383] [11, 13] mixed (by decide +kernel) ?_
 iterate 3 refine du ?_
 refine Di hx13 (fun k17 j18 => ?_)
 refine du ?_
 refine Dl ls141_0 ?_
 iterate 2 refine du ?_
 refine Di hx13 (fun k19 j20 => ?_)
 refine du ?_
 refine D_ldV (R' := (RdS 3 rdInt)) ag22.h rfl .no (.tmp rfl rfl) rfl .h lv141_1 (fun w21 => ?_)
 obtain ⟨r22, hx23, hF⟩ := bind_some hF
 refine Dx1 (s_l8Access_ok _ _ _ _ hx23) (fun p24 => ?_)
 refine D_new rfl .no rfl (fun ha => N_buildSliceT (g := true) (len := 1) (parts := [(0, .tmp 23)]) sl71.h ty141.h (.cons (EN ha (.tmp rfl rfl) rfl) .nil) (vs := [(.agg [(.int .i64 r22.Method), p24.1.v].toArray)]) rfl rfl rfl (by intro v hv; simp at hv; rcases hv with rfl <;> rfl)) (fun k25 => ?_)
 refine Dv1 (.cons .h (.cons .h .nil)) (own_lit (Ro := ow141) (E := 141) (F := (p24.2 ++ [])) (xs := ([r22] : List Access)) (MkL_cons mk141 MkL_nil apps) rfl rfl) ?_
 obtain ⟨z26, hx27, hF⟩ := bind_some hF
 refine D_act1 rfl rfl .no (.cons (.t (.t (.t (.t (.t .h))))) (.cons .h .nil)) (.dep rfl .nil) (fun ha => X_appendO (Ro := ow141) sl71.h ni71 ty141.h rfl rfl rfl (EN ha (.tmp rfl rfl) rfl) (EN ha (.tmp rfl rfl) rfl) hx27 src_own) (fun p28 => ?_)
 iterate 2 refine du ?_
 iterate 5 refine au ?_
 rw [wk k8]
 exact ⟨_, Nat.lt_succ_self _, _, k8 + 1, rest9, _, p28.1, p28.2, rfl, eqA, hd14, entA, hF⟩
def s_l8Copy (a_r : Reached) : Option (Reached) :=
 (s_l2Copy a_r.Facts).bind fun r5 =>
 (app ([] : List Int) a_r.Values).bind fun z8 =>
 (s_l8Log a_r.Log).bind fun r11 =>
 some ({ Facts := r5, Values := z8, Log := r11, Rounds := a_r.Rounds } : Reached)
theorem s_l8Copy_ok (a_r : Reached) (v0_0 : Sv) (v0_1 : Sv) (v0_2 : Sv) (R : Reached) (hF : s_l8Copy a_r = some R) :
   Fw.Spec Tryz.prog 105 [(.agg [v0_0.v, v0_1.v, v0_2.v, (.int .i64 a_r.Rounds)].toArray)] [crd (RdS 80 rd80) v0_0.v a_r.Facts, crd (RdS 3 rdInt) v0_1.v a_r.Values, crd (RdS 141 rd141) v0_2.v a_r.Log] (fun p : Sv × List Nat × Sv × List Nat × Sv × List Nat => (.agg [p.1.v, p.2.2.1.v, p.2.2.2.2.1.v, (.int .i64 R.Rounds)].toArray)) (fun p => [cown (OwnS 80 ow80) p.2.1 p.1.v R.Facts, cown (OwnS 3 (roE rdInt)) p.2.2.2.1 p.2.2.1.v R.Values, cown (OwnS 141 ow141) p.2.2.2.2.2 p.2.2.2.2.1.v R.Log]) := by
 refine Spec_enter (n := 19) Tryz.func105 rfl rfl (rs := [.cell 2 73]) rfl rfl rfl ?_
 intro H0 F0
 unfold s_l8Copy at hF
 refine au ?_
 refine AbR (fun k1 => ?_)
 refine AnW (fun k2 => ?_)
 refine au ?_
 refine K_draw [0, 1, 3, 4, 5, 7, 8, 10, 2, 6, 9, 11] [0, 1, 3, 0, 0, 16, 63, 0, 128, 511, 0, 2047] [2, 6, 11] mixed (by decide +kernel) ?_
 iterate 2 refine du ?_
 refine D_new rfl .no rfl (fun ha => N_buildSliceT (g := true) (len := 0) (parts := []) sl22.h ty3.h .nil (vs := []) rfl rfl rfl (by simp)) (fun k3 => ?_)
 refine Dv1 (.cons .h .nil) (own_lit (Ro := (roE rdInt)) (E := 3) (F := []) (xs := ([] : List Int)) MkL_nil rfl rfl) ?_
 iterate 4 refine du ?_
 refine D_new rfl .no rfl (fun ha => N_allocT (g := true) ty73.h rfl rfl) (fun k4 => ?_)
 obtain ⟨r5, hx6, hF⟩ := bind_some hF
 refine D_act1 rfl rfl .no (.rd (.t (.t (.t (.t .h)))) rfl .nil) (.own .h (fun _ h => h) (.own (.t .h) (by simp [cown]) .nil)) (fun ha => X_callS cf143.h (.cons (EN ha (.tmp rfl rfl) rfl) .nil) (s_l2Copy_ok a_r.Facts v0_0 _ hx6)) (fun p7 => ?_)
 obtain ⟨z8, hx9, hF⟩ := bind_some hF
 refine D_act1 rfl rfl .no (.cons (.t (.t .h)) (.rd (.t (.t (.t (.t (.t .h))))) rfl .nil)) (.own (.t .h) (fun _ h => h) (.dep rfl .nil)) (fun ha => X_appendO (Ro := (roE rdInt)) sl22.h ni22 ty3.h rfl rfl rfl (EN ha (.tmp rfl rfl) rfl) (EN ha (.tmp rfl rfl) rfl) hx9 src_rd) (fun p10 => ?_)
 refine D_val rfl .no (fun ha => V_build ty73.h rfl (vs := [p7.1.v, p10.1.v, (.int .i64 a_r.Rounds)]) (.cons (EN ha (.tmp rfl rfl) rfl) (.cons (EN ha (.tmp rfl rfl) rfl) (.cons (EN ha (.tmp rfl rfl) rfl) .nil))) (cells := [p7.1.v, p10.1.v, (.slice none 0 0), (.int .i64 a_r.Rounds)]) rfl) ?_
 refine D_act1 rfl rfl .no (.cons (.t (.t .h)) .nil) (.dep rfl (.dep rfl .nil)) (fun ha => X_storeB (e' := (.agg [p7.1.v, p10.1.v, (.slice none 0 0), (.int .i64 a_r.Rounds)].toArray)) (v := (.agg [p7.1.v, p10.1.v, (.slice none 0 0), (.int .i64 a_r.Rounds)].toArray)) ty73.h.sz (EN ha (.tmp rfl rfl) rfl) (EN ha (.tmp rfl rfl) rfl) rfl rfl rfl rfl rfl) (fun _ => ?_)
 refine du ?_
 iterate 3 refine au ?_
 obtain ⟨r11, hx12, hF⟩ := bind_some hF
 refine Cx1 (s_l8Log_ok _ _ _ hx12) (fun p13 => ?_)
 refine au ?_
 refine As (.agg [p7.1.v, p10.1.v, p13.1.v, (.int .i64 a_r.Rounds)].toArray) ?_
 iterate 3 refine au ?_
 refine As (.agg [p7.1.v, p10.1.v, p13.1.v, (.int .i64 a_r.Rounds)].toArray) ?_
 iterate 2 refine au ?_
 cases hF
 exact Er (p7.1, p7.2, p10.1, p10.2, p13.1, p13.2)
def s_l8Lists_L5 (c207 : List (List Int)) (c212 : Int) : List Int → Nat → (List (List Int)) → Option ((List (List Int)))
 | [], k229, c223 => some c223
 | x231 :: rest230, k229, c223 => (ix c207 c212).bind fun x239 =>
   (app ([] : List Int) x239).bind fun z249 =>
   (app z249 ([x231] : List Int)).bind fun z252 =>
   (app c223 ([z252] : List (List Int))).bind fun z256 =>
   s_l8Lists_L5 c207 c212 rest230 (k229 + 1) z256
def s_l8Lists_L2 (a_values : List Int) : Nat → (List (List Int)) → (List (List Int)) → Int → Option ((List (List Int)))
 | 0, _, _, _ => none
 | m213 + 1, c207, c209, c212 => if (decide ((c212 : Int) < (c207.length : Int))) then (
     (s_l8Lists_L5 c207 c212 a_values 0 c209).bind fun o221 =>
     match o221 with
     | c260 => s_l8Lists_L2 a_values m213 c207 c260 (IntKind.i64.wrap (c212 + 1)))
   else (
     some c209)
def s_l8Lists_L1 (a_values : List Int) (a_n : Int) : Nat → (List (List Int)) → Int → Option ((List (List Int)))
 | 0, _, _ => none
 | m7 + 1, c3, c6 => if (decide ((c6 : Int) < a_n)) then (
     (s_l8Lists_L2 a_values (((c3.length : Int) - 0).toNat + 2) c3 ([] : List (List Int)) 0).bind fun o15 =>
     match o15 with
     | c265 => s_l8Lists_L1 a_values a_n m7 c265 (IntKind.i64.wrap (c6 + 1)))
   else (
     some c3)
def s_l8Lists (a_values : List Int) (a_n : Int) : Option ((List (List Int))) :=
 s_l8Lists_L1 a_values a_n ((a_n - 0).toNat + 2) ([([] : List Int)] : List (List Int)) 0
theorem s_l8Lists_ok (a_values : List Int) (v0_0 : Sv) (a_n : Int) (R : (List (List Int))) (hF : s_l8Lists a_values a_n = some R) :
   Fw.Spec Tryz.prog 180 [v0_0.v, (.int .i64 a_n)] [crd (RdS 3 rdInt) v0_0.v a_values] (fun p : Sv × List Nat => p.1.v) (fun p => [cown (OwnS 22 (OwnS 3 (roE rdInt))) p.2 p.1.v R]) := by
 refine Spec_enter (n := 47) Tryz.func180 rfl rfl (rs := [.tmp 4]) rfl rfl rfl ?_
 intro H0 F0
 unfold s_l8Lists at hF
 iterate 4 refine au ?_
 refine C_new rfl (N_buildSliceT (g := true) sl22.h ty3.h .nil (vs := []) rfl rfl rfl (by simp)) (fun k1 => ?_)
 refine Cv1 (.cons .h .nil) (own_lit (Ro := (roE rdInt)) (E := 3) (F := []) (xs := ([] : List Int)) MkL_nil rfl rfl) ?_
 refine C_new rfl (N_buildSliceT (g := true) sl31.h ty22.h (.cons (.tmp rfl rfl) .nil) (vs := [(.slice (some ⟨k1, 0, none⟩) 0 1)]) rfl rfl rfl (by intro v hv; simp at hv; rcases hv with rfl <;> rfl)) (fun k2 => ?_)
 refine Cv1 (.cons .h (.cons .h .nil)) (own_lit (Ro := (OwnS 3 (roE rdInt))) (E := 22) (F := ((k1 :: []) ++ [])) (xs := ([([] : List Int)] : List (List Int))) (MkL_cons Mk_own MkL_nil apps) rfl rfl) ?_
 iterate 6 refine au ?_
 refine CW_block (CW_loop (m := ((a_n - 0).toNat + 2)) (fun m7 f' cs' => ∃ (g : Fr) (c3 : List (List Int)) (c6 : Int) (v4 : Sv) (F5 : List Nat), f' = updL g [(0, v0_0.v), (1, (.int .i64 a_n)), (5, v4.v), (6, (.int .i64 c6))] ∧ Ent cs' [crd (RdS 3 rdInt) v0_0.v a_values, cown (OwnS 22 (OwnS 3 (roE rdInt))) F5 v4.v c3] ∧ s_l8Lists_L1 a_values a_n m7 c3 c6 = some R) ⟨_, _, _, ⟨(some ⟨k2, 0, none⟩), 1, 1⟩, (k2 :: ((k1 :: []) ++ [])), eqA, entA, hF⟩ ?_)
 clear hF
 rintro m7 _ _ ⟨g8, c3, c6, v4, F5, rfl, hE, hF⟩
 refine K_ent hE ?_
 clear hE
 rcases m7 with _ | m7
 · rw [s_l8Lists_L1] at hF
   exact absurd hF (by simp)
 rw [s_l8Lists_L1] at hF
 iterate 6 refine au ?_
 refine Cc (fun hb269 => ?_) (fun hb269 => ?_)
 · rw [if_pos hb269] at hF
   refine au ?_
   obtain ⟨o15, hio15, hO16⟩ := bind_some hF
   refine K_cut (fun f' cs' => ∃ (c265 : List (List Int)) (v266 : Sv) (F267 : List Nat) (g : Fr), c265 = o15 ∧ f' = updL g [(0, v0_0.v), (1, (.int .i64 a_n)), (5, v266.v), (6, (.int .i64 c6))] ∧ Ent cs' [crd (RdS 3 rdInt) v0_0.v a_values, cown (OwnS 22 (OwnS 3 (roE rdInt))) F267 v266.v c265]) ?_ ?_
   · replace hF := hio15
     refine CW_block (K_region (C_new rfl (N_buildSliceT (g := true) sl31.h ty22.h .nil (vs := []) rfl rfl rfl (by simp)) (fun k17 => ?_)))
     refine Cv1 (.cons .h .nil) (own_lit (Ro := (OwnS 3 (roE rdInt))) (E := 22) (F := []) (xs := ([] : List (List Int))) MkL_nil rfl rfl) ?_
     iterate 6 refine au ?_
     refine CW_block (CW_loop (m := (((c3.length : Int) - 0).toNat + 2)) (fun m213 f' cs' => ∃ (g : Fr) (c207 : List (List Int)) (c209 : List (List Int)) (c212 : Int) (v208 : Sv) (v210 : Sv) (F211 : List Nat), f' = updL g [(0, v0_0.v), (1, (.int .i64 a_n)), (5, v208.v), (6, (.int .i64 c6)), (7, v210.v), (8, (.int .i64 c212))] ∧ Ent cs' [crd (RdS 3 rdInt) v0_0.v a_values, crd (RdS 22 (RdS 3 rdInt)) v208.v c207, cown (OwnS 22 (OwnS 3 (roE rdInt))) F211 v210.v c209] ∧ s_l8Lists_L2 a_values m213 c207 c209 c212 = some o15) ⟨_, _, _, _, v4, ⟨(some ⟨k17, 0, none⟩), 0, 1⟩, (k17 :: []), eqA, (.frz (.t (.t .h)) frz_own entA), hF⟩ ?_)
     clear hF
     rintro m213 _ _ ⟨g214, c207, c209, c212, v208, v210, F211, rfl, hE, hF⟩
     refine K_ent hE ?_
     clear hE
     rcases m213 with _ | m213
     · rw [s_l8Lists_L2] at hF
       exact absurd hF (by simp)
     rw [s_l8Lists_L2] at hF
     iterate 7 refine au ?_
     refine Cc (fun hb264 => ?_) (fun hb264 => ?_)
     · rw [if_pos hb264] at hF
       refine au ?_
       obtain ⟨o221, hio221, hO222⟩ := bind_some hF
       refine K_cut (fun f' cs' => ∃ (c260 : List (List Int)) (v261 : Sv) (F262 : List Nat) (g : Fr), c260 = o221 ∧ f' = updL g [(0, v0_0.v), (1, (.int .i64 a_n)), (5, v208.v), (6, (.int .i64 c6)), (7, v261.v), (8, (.int .i64 c212))] ∧ Ent cs' [crd (RdS 3 rdInt) v0_0.v a_values, crd (RdS 22 (RdS 3 rdInt)) v208.v c207, cown (OwnS 22 (OwnS 3 (roE rdInt))) F262 v261.v c260]) ?_ ?_
       · replace hF := hio221
         refine CW_block (K_region (C_val (V_assign (v := (.int .i64 0)) (.int _ _)) ?_))
         refine au ?_
         refine CW_block (CW_loop (m := a_values.length) (fun m227 f' cs' => ∃ (g : Fr) (k229 : Nat) (rest230 : List Int) (c223 : List (List Int)) (v224 : Sv) (F225 : List Nat), m227 = rest230.length ∧ f' = updL g [(0, v0_0.v), (1, (.int .i64 a_n)), (5, v208.v), (6, (.int .i64 c6)), (7, v224.v), (8, (.int .i64 c212)), (9, (.int .i64 (k229 : Int)))] ∧ List.drop k229 a_values = rest230 ∧ Ent cs' [crd (RdS 3 rdInt) v0_0.v a_values, crd (RdS 22 (RdS 3 rdInt)) v208.v c207, cown (OwnS 22 (OwnS 3 (roE rdInt))) F225 v224.v c223] ∧ s_l8Lists_L5 c207 c212 rest230 k229 c223 = some o221) ⟨_, 0, _, _, v210, F211, rfl, eqA, rfl, entA, hF⟩ ?_)
         clear hF
         rintro m227 _ _ ⟨g228, k229, rest230, c223, v224, F225, rfl, rfl, hd232, hE, hF⟩
         refine K_ent hE ?_
         clear hE
         refine K_pure (c := crd (RdS 3 rdInt) v0_0.v a_values) .h crd_bound (fun hbd237 => ?_)
         rcases rest230 with _ | ⟨x231, rest230⟩
         · have hk233 := List.drop_eq_nil_iff.1 hd232
           rw [s_l8Lists_L5] at hF
           iterate 7 refine au ?_
           refine CdF ?_
           iterate 4 refine au ?_
           cases hF
           exact ⟨_, v224, F225, _, rfl, eqA, entA⟩
         obtain ⟨hk233, hx234, hd235⟩ := drop_cons hd232
         rw [s_l8Lists_L5] at hF
         iterate 7 refine au ?_
         refine CdT ?_
         iterate 2 refine au ?_
         refine CW_draw [0, 1, 2, 3, 4, 5, 7, 8, 9, 10, 11, 6, 12, 13, 14, 15] [0, 0, 0, 0, 12, 28, 62, 0, 0, 384, 896, 1920, 4094, 8190, 16383, 32767] [6, 12, 14] mixed (by decide +kernel) ?_
         refine du ?_
         refine D_new rfl .no rfl (fun ha => N_buildSliceT (g := true) (len := 0) (parts := []) sl22.h ty3.h .nil (vs := []) rfl rfl rfl (by simp)) (fun k238 => ?_)
         refine Dv1 (.cons .h .nil) (own_lit (Ro := (roE rdInt)) (E := 3) (F := []) (xs := ([] : List Int)) MkL_nil rfl rfl) ?_
         iterate 2 refine du ?_
         obtain ⟨x239, hx240, hF⟩ := bind_some hF
         obtain ⟨hp241, hx242⟩ := ix_some hx240
         refine Di hx242 (fun k243 j244 => ?_)
         refine D_ldV (R' := (RdS 3 rdInt)) ag22.h rfl .no (.tmp rfl rfl) rfl .h lv22_0 (fun w245 => ?_)
         iterate 2 refine du ?_
         refine Di hx234 (fun k246 j247 => ?_)
         refine Dl ls3_0 ?_
         refine D_new rfl .no rfl (fun ha => N_buildSliceT (g := true) (len := 1) (parts := [(0, .tmp 40)]) sl22.h ty3.h (.cons (EN ha (.tmp rfl rfl) rfl) .nil) (vs := [(.int .i64 x231)]) rfl rfl rfl (by intro v hv; simp at hv; rcases hv with rfl <;> rfl)) (fun k248 => ?_)
         refine Dv1 (.cons .h .nil) (own_lit (Ro := (roE rdInt)) (E := 3) (F := ([] ++ [])) (xs := ([x231] : List Int)) (MkL_cons (Mk_pure (fun _ => rfl)) MkL_nil apps) rfl rfl) ?_
         obtain ⟨z249, hx250, hF⟩ := bind_some hF
         refine D_act1 rfl rfl .no (.cons (.t (.t (.t (.t .h)))) (.rd (.t (.t .h)) rfl .nil)) (.own .h (by simp [cown]) (.dep rfl .nil)) (fun ha => X_appendO (Ro := (roE rdInt)) sl22.h ni22 ty3.h rfl rfl rfl (EN ha (.tmp rfl rfl) rfl) (EN ha (.tmp rfl rfl) rfl) hx250 src_rd) (fun p251 => ?_)
         obtain ⟨z252, hx253, hF⟩ := bind_some hF
         refine D_act1 rfl rfl .no (.cons .h (.cons .h .nil)) (.dep rfl (.dep rfl .nil)) (fun ha => X_appendO (Ro := (roE rdInt)) sl22.h ni22 ty3.h rfl rfl rfl (EN ha (.tmp rfl rfl) rfl) (EN ha (.tmp rfl rfl) rfl) hx253 src_own) (fun p254 => ?_)
         refine D_new rfl .no rfl (fun ha => N_buildSliceT (g := true) (len := 1) (parts := [(0, .tmp 42)]) sl31.h ty22.h (.cons (EN ha (.tmp rfl rfl) rfl) .nil) (vs := [p254.1.v]) rfl rfl rfl (by intro v hv; simp at hv; rcases hv with rfl <;> rfl)) (fun k255 => ?_)
         refine Dv1 (.cons .h (.cons .h .nil)) (own_lit (Ro := (OwnS 3 (roE rdInt))) (E := 22) (F := (p254.2 ++ [])) (xs := ([z252] : List (List Int))) (MkL_cons Mk_own MkL_nil apps) rfl rfl) ?_
         obtain ⟨z256, hx257, hF⟩ := bind_some hF
         refine D_act1 rfl rfl .no (.cons (.t (.t (.t (.t (.t (.t .h)))))) (.cons .h .nil)) (.dep rfl (.dep rfl (.dep rfl .nil))) (fun ha => X_appendO (Ro := (OwnS 3 (roE rdInt))) sl31.h ni31 ty22.h rfl rfl rfl (EN ha (.tmp rfl rfl) rfl) (EN ha (.tmp rfl rfl) rfl) hx257 src_own) (fun p258 => ?_)
         iterate 2 refine du ?_
         iterate 5 refine au ?_
         rw [wk k229]
         exact ⟨_, Nat.lt_succ_self _, _, k229 + 1, rest230, _, p258.1, p258.2, rfl, eqA, hd235, entA, hF⟩
       rintro _ _ ⟨c260, v261, F262, g263, rfl, rfl, hE⟩
       replace hF := hO222
       clear hO222
       try dsimp only at hF
       refine K_ent hE ?_
       iterate 5 refine au ?_
       exact ⟨m213, Nat.lt_succ_self _, _, _, _, _, v208, v261, F262, eqA, entA, hF⟩
     rw [if_neg (nt hb264)] at hF
     iterate 8 refine au ?_
     cases hF
     exact ⟨_, v210, F211, _, rfl, eqA, entA⟩
   rintro _ _ ⟨c265, v266, F267, g268, rfl, rfl, hE⟩
   replace hF := hO16
   clear hO16
   try dsimp only at hF
   refine K_ent hE ?_
   iterate 5 refine au ?_
   exact ⟨m7, Nat.lt_succ_self _, _, _, _, v266, F267, eqA, entA, hF⟩
 rw [if_neg (nt hb269)] at hF
 iterate 9 refine au ?_
 cases hF
 exact Er (v4, F5)
def s_l5Same (a_a : Access) (a_b : Access) : Option (Bool) :=
 (bif ((a_a.Method : Int) == a_b.Method) then ((s_l2Ints a_a.Values a_b.Values).bind fun r6 =>
     some r6)
   else (some false)).bind fun o3 =>
 match o3 with
 | c9 => some c9
theorem s_l5Same_ok (a_a : Access) (v0_1 : Sv) (a_b : Access) (v1_1 : Sv) (R : Bool) (hF : s_l5Same a_a a_b = some R) :
   Fw.Spec Tryz.prog 132 [(.agg [(.int .i64 a_a.Method), v0_1.v].toArray), (.agg [(.int .i64 a_b.Method), v1_1.v].toArray)] [crd (RdS 3 rdInt) v0_1.v a_a.Values, crd (RdS 3 rdInt) v1_1.v a_b.Values] (fun _ : Unit => (.bool R)) (fun _ => []) := by
 refine Spec_enter (n := 17) Tryz.func132 rfl rfl (rs := [.tmp 4]) rfl rfl rfl ?_
 intro H0 F0
 unfold s_l5Same at hF
 refine au ?_
 refine AbR (fun k1 => ?_)
 refine AbR (fun k2 => ?_)
 iterate 2 refine au ?_
 obtain ⟨o3, hio3, hO4⟩ := bind_some hF
 refine au ?_
 refine C_cut (fun f' cs' => ∃ (c9 : Bool) (g : Fr), c9 = o3 ∧ f' = updL g [(4, (.bool c9))] ∧ Ent cs' []) ?_ ?_
 · replace hF := hio3
   iterate 6 refine au ?_
   rcases Bool.eq_false_or_eq_true ((a_a.Method : Int) == a_b.Method) with hg5 | hg5
   · rw [hg5]
     try rw [hg5] at hF; dsimp only [cond_true, cond_false] at hF
     iterate 9 refine au ?_
     obtain ⟨r6, hx7, hF⟩ := bind_some hF
     refine Cx0 (s_l2Ints_ok _ _ _ _ _ hx7) (fun _ => ?_)
     iterate 3 refine au ?_
     cases hF
     exact ⟨_, _, rfl, eqA, entA⟩
   rw [hg5]
   try rw [hg5] at hF; dsimp only [cond_true, cond_false] at hF
   iterate 8 refine au ?_
   cases hF
   exact ⟨_, _, rfl, eqA, entA⟩
 rintro _ _ ⟨c9, g10, rfl, rfl, hE⟩
 replace hF := hO4
 clear hO4
 try dsimp only at hF
 refine K_ent hE ?_
 refine au ?_
 cases hF
 exact Er ()
def s_l7Logged_L1 (a_a : Access) : List Access → Nat → Option (Bool)
 | [], k5 => some false
 | x7 :: rest6, k5 => (s_l5Same x7 a_a).bind fun r17 =>
   if r17 then (
     some true)
   else (
     s_l7Logged_L1 a_a rest6 (k5 + 1))
def s_l7Logged (a_log : List Access) (a_a : Access) : Option (Bool) :=
 s_l7Logged_L1 a_a a_log 0
theorem s_l7Logged_ok (a_log : List Access) (v0_0 : Sv) (a_a : Access) (v1_1 : Sv) (R : Bool) (hF : s_l7Logged a_log a_a = some R) :
   Fw.Spec Tryz.prog 181 [v0_0.v, (.agg [(.int .i64 a_a.Method), v1_1.v].toArray)] [crd (RdS 141 rd141) v0_0.v a_log, crd (RdS 3 rdInt) v1_1.v a_a.Values] (fun _ : Unit => (.bool R)) (fun _ => []) := by
 refine Spec_enter (n := 18) Tryz.func181 rfl rfl (rs := [.tmp 4]) rfl rfl rfl ?_
 intro H0 F0
 unfold s_l7Logged at hF
 refine K_region (C_newR rfl (N_box (g := false) (v := (.agg [(.int .i64 a_a.Method), v1_1.v].toArray)) ty141.h.sz (.tmp rfl rfl) rfl) (fun k1 => ?_))
 refine C_val (V_assign (v := (.bool false)) (.bool _)) ?_
 refine C_nil (K_in (K_region (C_val (V_assign (v := (.int .i64 0)) (.int _ _)) ?_)))
 refine C_nil (CW_block (CW_loop (m := a_log.length) (fun m3 f' cs' => ∃ (g : Fr) (k5 : Nat) (rest6 : List Access), m3 = rest6.length ∧ f' = updL g [(0, v0_0.v), (3, (.pointer (some ⟨k1, 0, some 0⟩))), (5, (.int .i64 (k5 : Int)))] ∧ List.drop k5 a_log = rest6 ∧ Ent cs' [crd (RdS 141 rd141) v0_0.v a_log, cboR k1 141 (.agg [(.int .i64 a_a.Method), v1_1.v].toArray), crd (RdS 3 rdInt) v1_1.v a_a.Values] ∧ s_l7Logged_L1 a_a rest6 k5 = some R) ⟨_, 0, _, rfl, (EqL.cons rfl (EqL.cons rfl (EqL.cons rfl (EqL.nil)))).eq, rfl, (.sel (.rd (.t .h) rfl (.rd .h rfl (.rd (.t (.t .h)) rfl .nil)))), hF⟩ ?_))
 clear hF
 rintro m3 _ _ ⟨g4, k5, rest6, rfl, rfl, hd8, hE, hF⟩
 refine K_ent hE ?_
 clear hE
 refine K_pure (c := crd (RdS 141 rd141) v0_0.v a_log) .h crd_bound (fun hbd13 => ?_)
 rcases rest6 with _ | ⟨x7, rest6⟩
 · have hk9 := List.drop_eq_nil_iff.1 hd8
   have hfe12 : (decide (((k5 : Int) : Int) < (a_log.length : Int))) = false := decide_eq_false (by omega)
   rw [s_l7Logged_L1] at hF
   refine K_in (K_region (Cm (.int .i64 (k5 : Int)) rfl rfl ?_))
   refine Cm v0_0.v rfl rfl ?_
   refine C_at .h (fun hp => V_lenR (l := a_log.length) sl71.h (.tmp rfl rfl) (crd_len hp)) ?_
   refine C_val (V_lss (i := (k5 : Int)) (j := (a_log.length : Int)) (.tmp rfl rfl) (.tmp rfl rfl)) ?_
   refine C_nil (CW_cond (b := (decide (((k5 : Int) : Int) < (a_log.length : Int)))) (.tmp rfl rfl) (fun hb => absurd (hfe12.symm.trans hb) (by decide)) (fun _ => ?_))
   refine CW_exit ?_
   iterate 2 refine CThen_exit ?_
   refine CIn_self (K_region (C_val (V_assign (v := (.bool false)) (.bool _)) ?_))
   refine C_nil (CW_ret ?_)
   obtain rfl := Option.some.inj hF
   exact End_ret () (.tmp rfl rfl .nil) rfl (.sel .nil)
 obtain ⟨hk9, hx10, hd11⟩ := drop_cons hd8
 have hfe12 : (decide (((k5 : Int) : Int) < (a_log.length : Int))) = true := decide_eq_true (by omega)
 rw [s_l7Logged_L1] at hF
 refine K_in (K_region (Cm (.int .i64 (k5 : Int)) rfl rfl ?_))
 refine Cm v0_0.v rfl rfl ?_
 refine C_at .h (fun hp => V_lenR (l := a_log.length) sl71.h (.tmp rfl rfl) (crd_len hp)) ?_
 refine C_val (V_lss (i := (k5 : Int)) (j := (a_log.length : Int)) (.tmp rfl rfl) (.tmp rfl rfl)) ?_
 refine C_nil (CW_cond (b := (decide (((k5 : Int) : Int) < (a_log.length : Int)))) (.tmp rfl rfl) (fun _ => ?_) (fun hb => absurd (hfe12.symm.trans hb) (by decide)))
 refine CW_skip (K_block (K_draw [0, 1, 2, 3, 4, 5] [0, 0, 3, 7, 0, 31] [5] mixed (by decide +kernel) ?_))
 refine Dm v0_0.v rfl rfl rfl rfl ?_
 refine Dm (.int .i64 (k5 : Int)) rfl rfl rfl rfl ?_
 refine D_idx (a := x7) sl71.h ty141.h.sz rfl .no (.tmp rfl rfl) (.tmp rfl rfl) rfl rfl .h (Int.natCast_nonneg k5) hx10 (fun k14 j15 => ?_)
 refine D_ldA1 (ul141_0_141 x7) ag141.h ty141.h.sz rfl rfl .no (.tmp rfl rfl) rfl .h la141_0_141 (fun p16 => ?_)
 refine D_at rfl .no (.t (.t (.t .h))) rfl (fun ha hp => V_loadBox ag141.h ty141.h.sz rfl (EN ha (.tmp rfl rfl) rfl) hp.2 rfl) ?_
 obtain ⟨r17, hx18, hF⟩ := bind_some hF
 refine D_act0 rfl rfl .no (.rd .h rfl (.rd (.t (.t (.t (.t .h)))) rfl .nil)) .nil (fun ha => X_callS cf132.h (.cons (EN ha (.tmp rfl rfl) rfl) (.cons (EN ha (.tmp rfl rfl) rfl) .nil)) (s_l5Same_ok x7 p16 a_a v1_1 _ hx18)) (fun _ => ?_)
 refine D_nil (CW_cond (b := r17) (.tmp rfl rfl) (fun hb21 => ?_) (fun hb21 => ?_))
 · rw [if_pos hb21] at hF
   refine K_region (C_val (V_assign (v := (.bool true)) (.bool _)) ?_)
   refine C_nil (CW_ret ?_)
   obtain rfl := Option.some.inj hF
   exact End_ret () (.tmp rfl rfl .nil) rfl (.sel .nil)
 rw [if_neg (by rw [hb21]; exact Bool.false_ne_true)] at hF
 refine CW_skip (CW_region (Cm (.int .i64 (k5 : Int)) rfl rfl ?_))
 refine C_val (V_add (i := (k5 : Int)) (j := 1) (.tmp rfl rfl) (.int _ _)) ?_
 refine Ca (.int .i64 (IntKind.i64.wrap ((k5 : Int) + 1))) rfl rfl ?_
 refine C_nil ?_
 have hw20 : IntKind.i64.wrap ((k5 : Int) + 1) = ((k5 + 1 : Nat) : Int) := by rw [wrap_in (by omega) (by omega)]; rfl
 rw [hw20]
 exact ⟨_, Nat.lt_succ_self _, _, k5 + 1, rest6, rfl, (EqL.cons rfl (EqL.cons rfl (EqL.cons rfl (EqL.nil)))).eq, hd11, (.sel (.rd (.t (.t .h)) rfl (.rd (.t (.t (.t .h))) rfl (.rd (.t (.t (.t (.t .h)))) rfl .nil)))), hF⟩
def s_l8Open_L2 (a_r : Reached) (k9 : Nat) : List (List Int) → Nat → (List Access) → Option ((List Access))
 | [], k70, c64 => some c64
 | x72 :: rest71, k70, c64 => ((s_l8Access (k9 : Int) x72).bind fun r84 =>
     (s_l7Logged a_r.Log r84).bind fun r88 =>
     if (!r88) then (
       (app c64 ([r84] : List Access)).bind fun z92 =>
       some z92)
     else (
       some c64)).bind fun o79 =>
   match o79 with
   | c96 => s_l8Open_L2 a_r k9 rest71 (k70 + 1) c96
def s_l8Open_L1 (a_r : Reached) : List Method → Nat → (List Access) → Option ((List Access))
 | [], k9, c3 => some c3
 | x11 :: rest10, k9, c3 => (if ((x11.Limit : Int) != 0) then (
       some c3)
     else (
       (s_l8Lists a_r.Values (x11.Inputs.length : Int)).bind fun r25 =>
       s_l8Open_L2 a_r k9 r25 0 c3)).bind fun o18 =>
   match o18 with
   | c102 => s_l8Open_L1 a_r rest10 (k9 + 1) c102
def s_l8Open (a_l : List Method) (a_r : Reached) : Option ((List Access)) :=
 s_l8Open_L1 a_r a_l 0 ([] : List Access)
theorem s_l8Open_ok (a_l : List Method) (v0_0 : Sv) (a_r : Reached) (v1_0 : Sv) (v1_1 : Sv) (v1_2 : Sv) (R : (List Access)) (hF : s_l8Open a_l a_r = some R) :
   Fw.Spec Tryz.prog 145 [v0_0.v, (.agg [v1_0.v, v1_1.v, v1_2.v, (.int .i64 a_r.Rounds)].toArray)] [crd (RdS 77 rd77) v0_0.v a_l, crd (RdS 80 rd80) v1_0.v a_r.Facts, crd (RdS 3 rdInt) v1_1.v a_r.Values, crd (RdS 141 rd141) v1_2.v a_r.Log] (fun p : Sv × List Nat => p.1.v) (fun p => [cown (OwnS 141 ow141) p.2 p.1.v R]) := by
 refine Spec_enter (n := 54) Tryz.func145 rfl rfl (rs := [.tmp 4]) rfl rfl rfl ?_
 intro H0 F0
 unfold s_l8Open at hF
 refine au ?_
 refine AbR (fun k1 => ?_)
 iterate 3 refine au ?_
 refine C_new rfl (N_buildSliceT (g := true) sl71.h ty141.h .nil (vs := []) rfl rfl rfl (by simp)) (fun k2 => ?_)
 refine Cv1 (.cons .h .nil) (own_lit (Ro := ow141) (E := 141) (F := []) (xs := ([] : List Access)) MkL_nil rfl rfl) ?_
 iterate 6 refine au ?_
 refine CW_block (CW_loop (m := a_l.length) (fun m7 f' cs' => ∃ (g : Fr) (k9 : Nat) (rest10 : List Method) (c3 : List Access) (v4 : Sv) (F5 : List Nat), m7 = rest10.length ∧ f' = updL g [(0, v0_0.v), (3, (.pointer (some ⟨k1, 0, some 0⟩))), (5, v4.v), (6, (.int .i64 (k9 : Int)))] ∧ List.drop k9 a_l = rest10 ∧ Ent cs' [crd (RdS 77 rd77) v0_0.v a_l, cboR k1 73 (.agg [v1_0.v, v1_1.v, v1_2.v, (.int .i64 a_r.Rounds)].toArray), crd (RdS 80 rd80) v1_0.v a_r.Facts, crd (RdS 3 rdInt) v1_1.v a_r.Values, crd (RdS 141 rd141) v1_2.v a_r.Log, cown (OwnS 141 ow141) F5 v4.v c3] ∧ s_l8Open_L1 a_r rest10 k9 c3 = some R) ⟨_, 0, _, _, ⟨(some ⟨k2, 0, none⟩), 0, 1⟩, (k2 :: []), rfl, eqA, rfl, entA, hF⟩ ?_)
 clear hF
 rintro m7 _ _ ⟨g8, k9, rest10, c3, v4, F5, rfl, rfl, hd12, hE, hF⟩
 refine K_ent hE ?_
 clear hE
 refine K_pure (c := crd (RdS 77 rd77) v0_0.v a_l) .h crd_bound (fun hbd17 => ?_)
 rcases rest10 with _ | ⟨x11, rest10⟩
 · have hk13 := List.drop_eq_nil_iff.1 hd12
   rw [s_l8Open_L1] at hF
   iterate 7 refine au ?_
   refine CdF ?_
   iterate 9 refine au ?_
   cases hF
   exact Er (v4, F5)
 obtain ⟨hk13, hx14, hd15⟩ := drop_cons hd12
 rw [s_l8Open_L1] at hF
 iterate 7 refine au ?_
 refine CdT ?_
 refine au ?_
 obtain ⟨o18, hio18, hO19⟩ := bind_some hF
 refine K_cut (fun f' cs' => ∃ (c102 : List Access) (v103 : Sv) (F104 : List Nat) (g : Fr), c102 = o18 ∧ f' = updL g [(0, v0_0.v), (3, (.pointer (some ⟨k1, 0, some 0⟩))), (5, v103.v), (6, (.int .i64 (k9 : Int)))] ∧ Ent cs' [crd (RdS 77 rd77) v0_0.v a_l, cboR k1 73 (.agg [v1_0.v, v1_1.v, v1_2.v, (.int .i64 a_r.Rounds)].toArray), crd (RdS 80 rd80) v1_0.v a_r.Facts, crd (RdS 3 rdInt) v1_1.v a_r.Values, crd (RdS 141 rd141) v1_2.v a_r.Log, cown (OwnS 141 ow141) F104 v103.v c102]) ?_ ?_
 · replace hF := hio18
   refine CW_block (K_in (K_region (Cm v0_0.v rfl rfl ?_)))
   refine au ?_
   refine Ai hx14 (fun k20 j21 => ?_)
   refine au ?_
   refine Al ls77_2 ?_
   iterate 2 refine au ?_
   refine Cc (fun hb101 => ?_) (fun hb101 => ?_)
   · rw [if_pos hb101] at hF
     iterate 3 refine au ?_
     cases hF
     exact ⟨_, v4, F5, _, rfl, eqA, entA⟩
   rw [if_neg (nt hb101)] at hF
   refine au ?_
   refine K_draw [0, 1, 2, 3, 4, 5, 6, 7, 8, 9] [0, 1, 0, 0, 12, 28, 60, 124, 255, 511] [8] mixed (by decide +kernel) ?_
   iterate 4 refine du ?_
   refine Di hx14 (fun k22 j23 => ?_)
   refine du ?_
   refine D_ldV (R' := (RdS 3 rdInt)) ag22.h rfl .no (.tmp rfl rfl) rfl .h lv77_1 (fun w24 => ?_)
   refine du ?_
   obtain ⟨r25, hx26, hF⟩ := bind_some hF
   refine Dx1 (s_l8Lists_ok _ _ _ _ hx26) (fun p27 => ?_)
   iterate 2 refine du ?_
   iterate 3 refine au ?_
   refine CW_block (K_frz .h frz_own ?_)
   refine CW_loop (m := r25.length) (fun m68 f' cs' => ∃ (g : Fr) (k70 : Nat) (rest71 : List (List Int)) (c64 : List Access) (v65 : Sv) (F66 : List Nat), m68 = rest71.length ∧ f' = updL g [(0, v0_0.v), (3, (.pointer (some ⟨k1, 0, some 0⟩))), (5, v65.v), (6, (.int .i64 (k9 : Int))), (7, p27.1.v), (8, (.int .i64 (k70 : Int)))] ∧ List.drop k70 r25 = rest71 ∧ Ent cs' [crd (RdS 77 rd77) v0_0.v a_l, cboR k1 73 (.agg [v1_0.v, v1_1.v, v1_2.v, (.int .i64 a_r.Rounds)].toArray), crd (RdS 80 rd80) v1_0.v a_r.Facts, crd (RdS 3 rdInt) v1_1.v a_r.Values, crd (RdS 141 rd141) v1_2.v a_r.Log, cown (OwnS 141 ow141) F66 v65.v c64, crd (RdS 22 (RdS 3 rdInt)) p27.1.v r25] ∧ s_l8Open_L2 a_r k9 rest71 k70 c64 = some o18) ⟨_, 0, _, _, v4, F5, rfl, eqA, rfl, entA, hF⟩ ?_
   clear hF
   rintro m68 _ _ ⟨g69, k70, rest71, c64, v65, F66, rfl, rfl, hd73, hE, hF⟩
   refine K_ent hE ?_
   clear hE
   refine K_pure (c := crd (RdS 22 (RdS 3 rdInt)) p27.1.v r25) (.t (.t (.t (.t (.t (.t .h)))))) crd_bound (fun hbd78 => ?_)
   rcases rest71 with _ | ⟨x72, rest71⟩
   · have hk74 := List.drop_eq_nil_iff.1 hd73
     rw [s_l8Open_L2] at hF
     iterate 7 refine au ?_
     refine CdF ?_
     iterate 4 refine au ?_
     cases hF
     exact ⟨_, v65, F66, _, rfl, eqA, entA⟩
   obtain ⟨hk74, hx75, hd76⟩ := drop_cons hd73
   rw [s_l8Open_L2] at hF
   iterate 7 refine au ?_
   refine CdT ?_
   refine au ?_
   obtain ⟨o79, hio79, hO80⟩ := bind_some hF
   refine K_cut (fun f' cs' => ∃ (c96 : List Access) (v97 : Sv) (F98 : List Nat) (g : Fr), c96 = o79 ∧ f' = updL g [(0, v0_0.v), (3, (.pointer (some ⟨k1, 0, some 0⟩))), (5, v97.v), (6, (.int .i64 (k9 : Int))), (7, p27.1.v), (8, (.int .i64 (k70 : Int)))] ∧ Ent cs' [crd (RdS 77 rd77) v0_0.v a_l, cboR k1 73 (.agg [v1_0.v, v1_1.v, v1_2.v, (.int .i64 a_r.Rounds)].toArray), crd (RdS 80 rd80) v1_0.v a_r.Facts, crd (RdS 3 rdInt) v1_1.v a_r.Values, crd (RdS 141 rd141) v1_2.v a_r.Log, cown (OwnS 141 ow141) F98 v97.v c96, crd (RdS 22 (RdS 3 rdInt)) p27.1.v r25]) ?_ ?_
   · replace hF := hio79
     refine CW_block (K_region (Cm (.int .i64 (k9 : Int)) rfl rfl ?_))
     iterate 2 refine au ?_
     refine Ai hx75 (fun k81 j82 => ?_)
     refine C_ldV (R' := (RdS 3 rdInt)) ag22.h (.tmp rfl rfl) .h lv22_0 (fun w83 => ?_)
     obtain ⟨r84, hx85, hF⟩ := bind_some hF
     refine Cx1 (s_l8Access_ok _ _ _ _ hx85) (fun p86 => ?_)
     refine AnW (fun k87 => ?_)
     refine As (.agg [(.int .i64 r84.Method), p86.1.v].toArray) ?_
     iterate 5 refine au ?_
     obtain ⟨r88, hx89, hF⟩ := bind_some hF
     refine C_x1 (.cons (.t .h) (.rd (.t (.t (.t (.t (.t (.t (.t .h))))))) rfl .nil)) (XC_bor frz_own (fun _ => .nil) (XC_pre (.rd (.t .h) rfl (.rd .h rfl .nil)) (X_callS cf181.h (.cons (.tmp rfl rfl) (.cons (.tmp rfl rfl) .nil)) (s_l7Logged_ok a_r.Log v1_2 r84 p86.1 _ hx89)))) (fun _ => ?_)
     iterate 2 refine au ?_
     refine Cc (fun hb95 => ?_) (fun hb95 => ?_)
     · rw [if_pos hb95] at hF
       iterate 3 refine au ?_
       refine C_new rfl (N_buildSliceT (g := true) sl71.h ty141.h (.cons (.tmp rfl rfl) .nil) (vs := [(.agg [(.int .i64 r84.Method), p86.1.v].toArray)]) rfl rfl rfl (by intro v hv; simp at hv; rcases hv with rfl <;> rfl)) (fun k91 => ?_)
       refine Cv1 (.cons .h (.cons .h .nil)) (own_lit (Ro := ow141) (E := 141) (F := (p86.2 ++ [])) (xs := ([r84] : List Access)) (MkL_cons mk141 MkL_nil apps) rfl rfl) ?_
       obtain ⟨z92, hx93, hF⟩ := bind_some hF
       refine C_x1 (.cons (.t (.t (.t (.t (.t (.t (.t (.t (.t .h))))))))) (.cons .h .nil)) (X_appendO (Ro := ow141) sl71.h ni71 ty141.h rfl rfl rfl (.tmp rfl rfl) (.tmp rfl rfl) hx93 src_own) (fun p94 => ?_)
       iterate 2 refine au ?_
       cases hF
       exact ⟨_, p94.1, p94.2, _, rfl, eqA, entA⟩
     rw [if_neg (nt hb95)] at hF
     refine au ?_
     cases hF
     exact ⟨_, v65, F66, _, rfl, eqA, entA⟩
   rintro _ _ ⟨c96, v97, F98, g100, rfl, rfl, hE⟩
   replace hF := hO80
   clear hO80
   try dsimp only at hF
   refine K_ent hE ?_
   iterate 5 refine au ?_
   rw [wk k70]
   exact ⟨_, Nat.lt_succ_self _, _, k70 + 1, rest71, _, v97, F98, rfl, eqA, hd76, entA, hF⟩
 rintro _ _ ⟨c102, v103, F104, g106, rfl, rfl, hE⟩
 replace hF := hO19
 clear hO19
 try dsimp only at hF
 refine K_ent hE ?_
 iterate 5 refine au ?_
 rw [wk k9]
 exact ⟨_, Nat.lt_succ_self _, _, k9 + 1, rest10, _, v103, F104, rfl, eqA, hd15, entA, hF⟩
def s_l5Fits_L1 (a_values : List Int) (a_f : Fact) : List Int → Nat → Option (Bool)
 | [], k6 => some true
 | x8 :: rest7, k6 => (ix a_f.Values x8).bind fun x17 =>
   (ix a_values (k6 : Int)).bind fun x23 =>
   if ((x17 : Int) != x23) then (
     some false)
   else (
     s_l5Fits_L1 a_values a_f rest7 (k6 + 1))
def s_l5Fits (a_m : Method) (a_values : List Int) (a_f : Fact) : Option (Bool) :=
 if ((a_f.Rel : Int) != a_m.Rel) then (
   some false)
 else (
   s_l5Fits_L1 a_values a_f a_m.Inputs 0)
theorem s_l5Fits_ok (a_m : Method) (v0_1 : Sv) (a_values : List Int) (v1_0 : Sv) (a_f : Fact) (v2_1 : Sv) (R : Bool) (hF : s_l5Fits a_m a_values a_f = some R) :
   Fw.Spec Tryz.prog 182 [(.agg [(.int .i64 a_m.Rel), v0_1.v, (.int .i64 a_m.Limit), (.int .i64 a_m.Cost), (.int .i64 a_m.Quota)].toArray), v1_0.v, (.agg [(.int .i64 a_f.Rel), v2_1.v].toArray)] [crd (RdS 3 rdInt) v0_1.v a_m.Inputs, crd (RdS 3 rdInt) v1_0.v a_values, crd (RdS 3 rdInt) v2_1.v a_f.Values] (fun _ : Unit => (.bool R)) (fun _ => []) := by
 refine Spec_enter (n := 34) Tryz.func182 rfl rfl (rs := [.tmp 6]) rfl rfl rfl ?_
 intro H0 F0
 unfold s_l5Fits at hF
 refine au ?_
 refine AbR (fun k1 => ?_)
 refine AbR (fun k2 => ?_)
 iterate 10 refine au ?_
 refine Cc (fun hb31 => ?_) (fun hb31 => ?_)
 · rw [if_pos hb31] at hF
   iterate 4 refine au ?_
   cases hF
   exact Er ()
 rw [if_neg (nt hb31)] at hF
 iterate 5 refine au ?_
 refine CW_block (CW_loop (m := a_m.Inputs.length) (fun m4 f' cs' => ∃ (g : Fr) (k6 : Nat) (rest7 : List Int), m4 = rest7.length ∧ f' = updL g [(1, v1_0.v), (3, (.pointer (some ⟨k1, 0, some 0⟩))), (5, (.pointer (some ⟨k2, 0, some 0⟩))), (7, (.int .i64 (k6 : Int)))] ∧ List.drop k6 a_m.Inputs = rest7 ∧ Ent cs' [crd (RdS 3 rdInt) v1_0.v a_values, cboR k1 77 (.agg [(.int .i64 a_m.Rel), v0_1.v, (.int .i64 a_m.Limit), (.int .i64 a_m.Cost), (.int .i64 a_m.Quota)].toArray), crd (RdS 3 rdInt) v0_1.v a_m.Inputs, cboR k2 80 (.agg [(.int .i64 a_f.Rel), v2_1.v].toArray), crd (RdS 3 rdInt) v2_1.v a_f.Values] ∧ s_l5Fits_L1 a_values a_f rest7 k6 = some R) ⟨_, 0, _, rfl, eqA, rfl, entA, hF⟩ ?_)
 clear hF
 rintro m4 _ _ ⟨g5, k6, rest7, rfl, rfl, hd9, hE, hF⟩
 refine K_ent hE ?_
 clear hE
 refine K_pure (c := crd (RdS 3 rdInt) v0_1.v a_m.Inputs) (.t (.t .h)) crd_bound (fun hbd14 => ?_)
 rcases rest7 with _ | ⟨x8, rest7⟩
 · have hk10 := List.drop_eq_nil_iff.1 hd9
   rw [s_l5Fits_L1] at hF
   iterate 8 refine au ?_
   refine CdF ?_
   iterate 8 refine au ?_
   cases hF
   exact Er ()
 obtain ⟨hk10, hx11, hd12⟩ := drop_cons hd9
 rw [s_l5Fits_L1] at hF
 iterate 8 refine au ?_
 refine CdT ?_
 iterate 2 refine au ?_
 refine K_draw [0, 1, 2, 3, 4, 5, 6, 7, 8, 9, 10, 11, 12, 13] [0, 1, 0, 4, 0, 28, 60, 127, 255, 0, 0, 1536, 3584, 8191] [] mixed (by decide +kernel) ?_
 iterate 5 refine du ?_
 refine Di hx11 (fun k15 j16 => ?_)
 refine Dl ls3_0 ?_
 obtain ⟨x17, hx18, hF⟩ := bind_some hF
 obtain ⟨hp19, hx20⟩ := ix_some hx18
 refine Di hx20 (fun k21 j22 => ?_)
 refine Dl ls3_0 ?_
 iterate 2 refine du ?_
 obtain ⟨x23, hx24, hF⟩ := bind_some hF
 obtain ⟨hp25, hx26⟩ := ix_some hx24
 refine Di hx26 (fun k27 j28 => ?_)
 refine Dl ls3_0 ?_
 iterate 2 refine du ?_
 refine Cc (fun hb30 => ?_) (fun hb30 => ?_)
 · rw [if_pos hb30] at hF
   iterate 4 refine au ?_
   cases hF
   exact Er ()
 rw [if_neg (nt hb30)] at hF
 iterate 6 refine au ?_
 rw [wk k6]
 exact ⟨_, Nat.lt_succ_self _, _, k6 + 1, rest7, rfl, eqA, hd12, entA, hF⟩
def s_l5Matches_L1 (a_m : Method) (a_values : List Int) : List Fact → Nat → (List Fact) → Option ((List Fact))
 | [], k9, c3 => some c3
 | x11 :: rest10, k9, c3 => ((s_l5Fits a_m a_values x11).bind fun r23 =>
     if r23 then (
       (s_l2One x11.Rel x11.Values).bind fun r31 =>
       (app c3 ([r31] : List Fact)).bind fun z35 =>
       some z35)
     else (
       some c3)).bind fun o18 =>
   match o18 with
   | c39 => s_l5Matches_L1 a_m a_values rest10 (k9 + 1) c39
def s_l5Matches (a_m : Method) (a_values : List Int) (a_facts : List Fact) : Option ((List Fact)) :=
 s_l5Matches_L1 a_m a_values a_facts 0 ([] : List Fact)
theorem s_l5Matches_ok (a_m : Method) (v0_1 : Sv) (a_values : List Int) (v1_0 : Sv) (a_facts : List Fact) (v2_0 : Sv) (R : (List Fact)) (hF : s_l5Matches a_m a_values a_facts = some R) :
   Fw.Spec Tryz.prog 146 [(.agg [(.int .i64 a_m.Rel), v0_1.v, (.int .i64 a_m.Limit), (.int .i64 a_m.Cost), (.int .i64 a_m.Quota)].toArray), v1_0.v, v2_0.v] [crd (RdS 3 rdInt) v0_1.v a_m.Inputs, crd (RdS 3 rdInt) v1_0.v a_values, crd (RdS 80 rd80) v2_0.v a_facts] (fun p : Sv × List Nat => p.1.v) (fun p => [cown (OwnS 80 ow80) p.2 p.1.v R]) := by
 refine Spec_enter (n := 38) Tryz.func146 rfl rfl (rs := [.tmp 6]) rfl rfl rfl ?_
 intro H0 F0
 unfold s_l5Matches at hF
 refine K_region (C_newR rfl (N_box (g := false) (v := (.agg [(.int .i64 a_m.Rel), v0_1.v, (.int .i64 a_m.Limit), (.int .i64 a_m.Cost), (.int .i64 a_m.Quota)].toArray)) ty77.h.sz (.tmp rfl rfl) rfl) (fun k1 => ?_))
 refine C_val (V_assign (v := (.slice none 0 0)) EV.nilSlice) ?_
 refine C_nil (K_region (C_new rfl (N_buildSliceT (g := true) sl40.h ty80.h .nil (vs := []) rfl rfl rfl (by simp)) (fun k2 => ?_)))
 refine C_conv (.cons .h .nil) (own_lit (Ro := ow80) (E := 80) (F := []) (xs := ([] : List Fact)) MkL_nil rfl rfl) apps ?_
 refine Ca (.slice (some ⟨k2, 0, none⟩) 0 1) rfl rfl ?_
 refine C_nil (K_in (K_region (C_val (V_assign (v := (.int .i64 0)) (.int _ _)) ?_)))
 refine C_nil (CW_block (CW_loop (m := a_facts.length) (fun m7 f' cs' => ∃ (g : Fr) (k9 : Nat) (rest10 : List Fact) (c3 : List Fact) (v4 : Sv) (F5 : List Nat), m7 = rest10.length ∧ f' = updL g [(1, v1_0.v), (2, v2_0.v), (3, (.pointer (some ⟨k1, 0, some 0⟩))), (7, v4.v), (8, (.int .i64 (k9 : Int)))] ∧ List.drop k9 a_facts = rest10 ∧ Ent cs' [crd (RdS 3 rdInt) v1_0.v a_values, crd (RdS 80 rd80) v2_0.v a_facts, cboR k1 77 (.agg [(.int .i64 a_m.Rel), v0_1.v, (.int .i64 a_m.Limit), (.int .i64 a_m.Cost), (.int .i64 a_m.Quota)].toArray), crd (RdS 3 rdInt) v0_1.v a_m.Inputs, cown (OwnS 80 ow80) F5 v4.v c3] ∧ s_l5Matches_L1 a_m a_values rest10 k9 c3 = some R) ⟨_, 0, _, _, ⟨(some ⟨k2, 0, none⟩), 0, 1⟩, (k2 :: []), rfl, (EqL.cons rfl (EqL.cons rfl (EqL.cons rfl (EqL.cons rfl (EqL.cons rfl (EqL.nil)))))).eq, rfl, (.sel (.rd (.t (.t (.t .h))) rfl (.rd (.t (.t (.t (.t .h)))) rfl (.rd (.t .h) rfl (.rd (.t (.t .h)) rfl (.cons .h .nil)))))), hF⟩ ?_))
 clear hF
 rintro m7 _ _ ⟨g8, k9, rest10, c3, v4, F5, rfl, rfl, hd12, hE, hF⟩
 refine K_ent hE ?_
 clear hE
 refine K_pure (c := crd (RdS 80 rd80) v2_0.v a_facts) (.t .h) crd_bound (fun hbd17 => ?_)
 rcases rest10 with _ | ⟨x11, rest10⟩
 · have hk13 := List.drop_eq_nil_iff.1 hd12
   have hfe16 : (decide (((k9 : Int) : Int) < (a_facts.length : Int))) = false := decide_eq_false (by omega)
   rw [s_l5Matches_L1] at hF
   refine K_in (K_region (Cm (.int .i64 (k9 : Int)) rfl rfl ?_))
   refine Cm v2_0.v rfl rfl ?_
   refine C_at (.t .h) (fun hp => V_lenR (l := a_facts.length) sl40.h (.tmp rfl rfl) (crd_len hp)) ?_
   refine C_val (V_lss (i := (k9 : Int)) (j := (a_facts.length : Int)) (.tmp rfl rfl) (.tmp rfl rfl)) ?_
   refine C_nil (CW_cond (b := (decide (((k9 : Int) : Int) < (a_facts.length : Int)))) (.tmp rfl rfl) (fun hb => absurd (hfe16.symm.trans hb) (by decide)) (fun _ => ?_))
   refine CW_exit ?_
   iterate 2 refine CThen_exit ?_
   refine CIn_self (K_region (Cm v4.v rfl rfl ?_))
   refine Ca v4.v rfl rfl ?_
   refine C_nil (CW_ret ?_)
   obtain rfl := Option.some.inj hF
   exact End_ret (v4, F5) (.tmp rfl rfl .nil) rfl (.sel (.cons (.t (.t (.t (.t .h)))) .nil))
 obtain ⟨hk13, hx14, hd15⟩ := drop_cons hd12
 have hfe16 : (decide (((k9 : Int) : Int) < (a_facts.length : Int))) = true := decide_eq_true (by omega)
 rw [s_l5Matches_L1] at hF
 refine K_in (K_region (Cm (.int .i64 (k9 : Int)) rfl rfl ?_))
 refine Cm v2_0.v rfl rfl ?_
 refine C_at (.t .h) (fun hp => V_lenR (l := a_facts.length) sl40.h (.tmp rfl rfl) (crd_len hp)) ?_
 refine C_val (V_lss (i := (k9 : Int)) (j := (a_facts.length : Int)) (.tmp rfl rfl) (.tmp rfl rfl)) ?_
 refine C_nil (CW_cond (b := (decide (((k9 : Int) : Int) < (a_facts.length : Int)))) (.tmp rfl rfl) (fun _ => ?_) (fun hb => absurd (hfe16.symm.trans hb) (by decide)))
 refine CW_skip ?_
 obtain ⟨o18, hio18, hO19⟩ := bind_some hF
 refine K_cut (fun f' cs' => ∃ (c39 : List Fact) (v40 : Sv) (F41 : List Nat) (g : Fr), c39 = o18 ∧ f' = updL g [(1, v1_0.v), (2, v2_0.v), (3, (.pointer (some ⟨k1, 0, some 0⟩))), (7, v40.v), (8, (.int .i64 (k9 : Int)))] ∧ Ent cs' [crd (RdS 3 rdInt) v1_0.v a_values, crd (RdS 80 rd80) v2_0.v a_facts, cboR k1 77 (.agg [(.int .i64 a_m.Rel), v0_1.v, (.int .i64 a_m.Limit), (.int .i64 a_m.Cost), (.int .i64 a_m.Quota)].toArray), crd (RdS 3 rdInt) v0_1.v a_m.Inputs, cown (OwnS 80 ow80) F41 v40.v c39]) ?_ ?_
 · replace hF := hio18
   refine CW_block (K_draw [0, 1, 2, 3, 4, 5, 6] [0, 0, 0, 0, 12, 28, 63] [6] mixed (by decide +kernel) ?_)
   refine D_at rfl .no (.t (.t .h)) rfl (fun ha hp => V_loadBox ag77.h ty77.h.sz rfl (EN ha (.tmp rfl rfl) rfl) hp.2 rfl) ?_
   refine Dm v1_0.v rfl rfl rfl rfl ?_
   refine Dm v2_0.v rfl rfl rfl rfl ?_
   refine Dm (.int .i64 (k9 : Int)) rfl rfl rfl rfl ?_
   refine D_idx (a := x11) sl40.h ty80.h.sz rfl .no (.tmp rfl rfl) (.tmp rfl rfl) rfl rfl (.t .h) (Int.natCast_nonneg k9) hx14 (fun k20 j21 => ?_)
   refine D_ldA1 (ul80_0_80 x11) ag80.h ty80.h.sz rfl rfl .no (.tmp rfl rfl) rfl .h la80_0_80 (fun p22 => ?_)
   obtain ⟨r23, hx24, hF⟩ := bind_some hF
   refine D_act0 rfl rfl .no (.rd (.t (.t (.t (.t (.t .h))))) rfl (.rd (.t (.t .h)) rfl (.rd .h rfl .nil))) .nil (fun ha => X_callS cf182.h (.cons (EN ha (.tmp rfl rfl) rfl) (.cons (EN ha (.tmp rfl rfl) rfl) (.cons (EN ha (.tmp rfl rfl) rfl) .nil))) (s_l5Fits_ok a_m v0_1 a_values v1_0 x11 p22 _ hx24)) (fun _ => ?_)
   refine D_nil (CW_cond (b := r23) (.tmp rfl rfl) (fun hb38 => ?_) (fun hb38 => ?_))
   · rw [if_pos hb38] at hF
     refine CW_draw [0, 1, 2, 3, 4, 5, 6, 7, 8, 9, 10, 11, 12, 13, 14] [0, 0, 0, 6, 14, 30, 0, 0, 192, 448, 960, 2046, 4094, 8191, 16383] [11, 13] mixed (by decide +kernel) ?_
     refine Dm v4.v rfl rfl rfl rfl ?_
     refine Dm v2_0.v rfl rfl rfl rfl ?_
     refine Dm (.int .i64 (k9 : Int)) rfl rfl rfl rfl ?_
     refine D_idx (a := x11) sl40.h ty80.h.sz rfl .no (.tmp rfl rfl) (.tmp rfl rfl) rfl rfl (.t (.t (.t .h))) (Int.natCast_nonneg k9) hx14 (fun k26 j27 => ?_)
     refine D_val rfl .no (fun ha => V_fieldAddr (off := 0) fd80_0.h (EN ha (.tmp rfl rfl) rfl)) ?_
     refine D_ldS (w := (.int .i64 x11.Rel)) ag3.h rfl .no (.tmp rfl rfl) rfl .h ls80_0 ?_
     refine Dm v2_0.v rfl rfl rfl rfl ?_
     refine Dm (.int .i64 (k9 : Int)) rfl rfl rfl rfl ?_
     refine D_idx (a := x11) sl40.h ty80.h.sz rfl .no (.tmp rfl rfl) (.tmp rfl rfl) rfl rfl (.t (.t (.t (.t .h)))) (Int.natCast_nonneg k9) hx14 (fun k28 j29 => ?_)
     refine D_val rfl .no (fun ha => V_fieldAddr (off := 1) fd80_1.h (EN ha (.tmp rfl rfl) rfl)) ?_
     refine D_ldV (R' := (RdS 3 rdInt)) ag22.h rfl .no (.tmp rfl rfl) rfl .h lv80_1 (fun w30 => ?_)
     obtain ⟨r31, hx32, hF⟩ := bind_some hF
     refine D_act1 rfl rfl .no (.rd .h rfl .nil) .nil (fun ha => X_callS cf178.h (.cons (EN ha (.tmp rfl rfl) rfl) (.cons (EN ha (.tmp rfl rfl) rfl) .nil)) (s_l2One_ok x11.Rel x11.Values w30 _ hx32)) (fun p33 => ?_)
     refine D_new rfl .no rfl (fun ha => N_buildSliceT (g := true) (len := 1) (parts := [(0, .tmp 34)]) sl40.h ty80.h (.cons (EN ha (.tmp rfl rfl) rfl) .nil) (vs := [(.agg [(.int .i64 r31.Rel), p33.1.v].toArray)]) rfl rfl rfl (by intro v hv; simp at hv; rcases hv with rfl <;> rfl)) (fun k34 => ?_)
     refine D_conv (.cons .h (.cons .h .nil)) (own_lit (Ro := ow80) (E := 80) (F := (p33.2 ++ [])) (xs := ([r31] : List Fact)) (MkL_cons mk80 MkL_nil apps) rfl rfl) apps ?_
     obtain ⟨z35, hx36, hF⟩ := bind_some hF
     refine D_act1 rfl rfl .no (.cons (.t (.t (.t (.t (.t (.t (.t (.t (.t (.t .h)))))))))) (.cons .h .nil)) (.dep rfl .nil) (fun ha => X_appendO (Ro := ow80) sl40.h ni40 ty80.h rfl rfl rfl (EN ha (.tmp rfl rfl) rfl) (EN ha (.tmp rfl rfl) rfl) hx36 src_own) (fun p37 => ?_)
     refine Da p37.1.v rfl rfl rfl rfl ?_
     refine D_nil ?_
     obtain rfl := Option.some.inj hF
     exact ⟨_, p37.1, p37.2, _, rfl, (EqL.cons rfl (EqL.cons rfl (EqL.cons rfl (EqL.cons rfl (EqL.cons rfl (EqL.nil)))))).eq, (.sel (.rd (.t (.t (.t (.t (.t (.t .h)))))) rfl (.rd (.t (.t (.t (.t (.t (.t (.t .h))))))) rfl (.rd (.t (.t (.t (.t (.t (.t (.t (.t .h)))))))) rfl (.rd (.t (.t (.t (.t (.t (.t (.t (.t (.t .h))))))))) rfl (.cons .h .nil))))))⟩
   rw [if_neg (by rw [hb38]; exact Bool.false_ne_true)] at hF
   refine CW_skip ?_
   obtain rfl := Option.some.inj hF
   exact ⟨_, v4, F5, _, rfl, (EqL.cons rfl (EqL.cons rfl (EqL.cons rfl (EqL.cons rfl (EqL.cons rfl (EqL.nil)))))).eq, (.sel (.rd (.t (.t .h)) rfl (.rd (.t (.t (.t .h))) rfl (.rd (.t (.t (.t (.t .h)))) rfl (.rd (.t (.t (.t (.t (.t .h))))) rfl (.cons (.t (.t (.t (.t (.t (.t .h)))))) .nil))))))⟩
 rintro _ _ ⟨c39, v40, F41, g43, rfl, rfl, hE⟩
 replace hF := hO19
 clear hO19
 try dsimp only at hF
 refine K_ent hE ?_
 refine CW_region (Cm (.int .i64 (k9 : Int)) rfl rfl ?_)
 refine C_val (V_add (i := (k9 : Int)) (j := 1) (.tmp rfl rfl) (.int _ _)) ?_
 refine Ca (.int .i64 (IntKind.i64.wrap ((k9 : Int) + 1))) rfl rfl ?_
 refine C_nil ?_
 have hw42 : IntKind.i64.wrap ((k9 : Int) + 1) = ((k9 + 1 : Nat) : Int) := by rw [wrap_in (by omega) (by omega)]; rfl
 rw [hw42]
 exact ⟨_, Nat.lt_succ_self _, _, k9 + 1, rest10, _, v40, F41, rfl, (EqL.cons rfl (EqL.cons rfl (EqL.cons rfl (EqL.cons rfl (EqL.cons rfl (EqL.nil)))))).eq, hd15, (.sel (.rd .h rfl (.rd (.t .h) rfl (.rd (.t (.t .h)) rfl (.rd (.t (.t (.t .h))) rfl (.cons (.t (.t (.t (.t .h)))) .nil)))))), hF⟩
def s_HasFact_L1 (a_f : Fact) : List Fact → Nat → Option (Bool)
 | [], k5 => some false
 | x7 :: rest6, k5 => (s_CompareFacts x7 a_f).bind fun r17 =>
   if ((r17 : Int) == 0) then (
     some true)
   else (
     s_HasFact_L1 a_f rest6 (k5 + 1))
def s_HasFact (a_l : List Fact) (a_f : Fact) : Option (Bool) :=
 s_HasFact_L1 a_f a_l 0
theorem s_HasFact_ok (a_l : List Fact) (v0_0 : Sv) (a_f : Fact) (v1_1 : Sv) (R : Bool) (hF : s_HasFact a_l a_f = some R) :
   Fw.Spec Tryz.prog 183 [v0_0.v, (.agg [(.int .i64 a_f.Rel), v1_1.v].toArray)] [crd (RdS 80 rd80) v0_0.v a_l, crd (RdS 3 rdInt) v1_1.v a_f.Values] (fun _ : Unit => (.bool R)) (fun _ => []) := by
 refine Spec_enter (n := 19) Tryz.func183 rfl rfl (rs := [.tmp 4]) rfl rfl rfl ?_
 intro H0 F0
 unfold s_HasFact at hF
 refine K_region (C_newR rfl (N_box (g := false) (v := (.agg [(.int .i64 a_f.Rel), v1_1.v].toArray)) ty80.h.sz (.tmp rfl rfl) rfl) (fun k1 => ?_))
 refine C_val (V_assign (v := (.bool false)) (.bool _)) ?_
 refine C_nil (K_in (K_region (C_val (V_assign (v := (.int .i64 0)) (.int _ _)) ?_)))
 refine C_nil (CW_block (CW_loop (m := a_l.length) (fun m3 f' cs' => ∃ (g : Fr) (k5 : Nat) (rest6 : List Fact), m3 = rest6.length ∧ f' = updL g [(0, v0_0.v), (3, (.pointer (some ⟨k1, 0, some 0⟩))), (5, (.int .i64 (k5 : Int)))] ∧ List.drop k5 a_l = rest6 ∧ Ent cs' [crd (RdS 80 rd80) v0_0.v a_l, cboR k1 80 (.agg [(.int .i64 a_f.Rel), v1_1.v].toArray), crd (RdS 3 rdInt) v1_1.v a_f.Values] ∧ s_HasFact_L1 a_f rest6 k5 = some R) ⟨_, 0, _, rfl, (EqL.cons rfl (EqL.cons rfl (EqL.cons rfl (EqL.nil)))).eq, rfl, (.sel (.rd (.t .h) rfl (.rd .h rfl (.rd (.t (.t .h)) rfl .nil)))), hF⟩ ?_))
 clear hF
 rintro m3 _ _ ⟨g4, k5, rest6, rfl, rfl, hd8, hE, hF⟩
 refine K_ent hE ?_
 clear hE
 refine K_pure (c := crd (RdS 80 rd80) v0_0.v a_l) .h crd_bound (fun hbd13 => ?_)
 rcases rest6 with _ | ⟨x7, rest6⟩
 · have hk9 := List.drop_eq_nil_iff.1 hd8
   have hfe12 : (decide (((k5 : Int) : Int) < (a_l.length : Int))) = false := decide_eq_false (by omega)
   rw [s_HasFact_L1] at hF
   refine K_in (K_region (Cm (.int .i64 (k5 : Int)) rfl rfl ?_))
   refine Cm v0_0.v rfl rfl ?_
   refine C_at .h (fun hp => V_lenR (l := a_l.length) sl40.h (.tmp rfl rfl) (crd_len hp)) ?_
   refine C_val (V_lss (i := (k5 : Int)) (j := (a_l.length : Int)) (.tmp rfl rfl) (.tmp rfl rfl)) ?_
   refine C_nil (CW_cond (b := (decide (((k5 : Int) : Int) < (a_l.length : Int)))) (.tmp rfl rfl) (fun hb => absurd (hfe12.symm.trans hb) (by decide)) (fun _ => ?_))
   refine CW_exit ?_
   iterate 2 refine CThen_exit ?_
   refine CIn_self (K_region (C_val (V_assign (v := (.bool false)) (.bool _)) ?_))
   refine C_nil (CW_ret ?_)
   obtain rfl := Option.some.inj hF
   exact End_ret () (.tmp rfl rfl .nil) rfl (.sel .nil)
 obtain ⟨hk9, hx10, hd11⟩ := drop_cons hd8
 have hfe12 : (decide (((k5 : Int) : Int) < (a_l.length : Int))) = true := decide_eq_true (by omega)
 rw [s_HasFact_L1] at hF
 refine K_in (K_region (Cm (.int .i64 (k5 : Int)) rfl rfl ?_))
 refine Cm v0_0.v rfl rfl ?_
 refine C_at .h (fun hp => V_lenR (l := a_l.length) sl40.h (.tmp rfl rfl) (crd_len hp)) ?_
 refine C_val (V_lss (i := (k5 : Int)) (j := (a_l.length : Int)) (.tmp rfl rfl) (.tmp rfl rfl)) ?_
 refine C_nil (CW_cond (b := (decide (((k5 : Int) : Int) < (a_l.length : Int)))) (.tmp rfl rfl) (fun _ => ?_) (fun hb => absurd (hfe12.symm.trans hb) (by decide)))
 refine CW_skip (K_block (K_draw [0, 1, 2, 3, 4, 5, 6] [0, 0, 3, 7, 0, 31, 63] [5] mixed (by decide +kernel) ?_))
 refine Dm v0_0.v rfl rfl rfl rfl ?_
 refine Dm (.int .i64 (k5 : Int)) rfl rfl rfl rfl ?_
 refine D_idx (a := x7) sl40.h ty80.h.sz rfl .no (.tmp rfl rfl) (.tmp rfl rfl) rfl rfl .h (Int.natCast_nonneg k5) hx10 (fun k14 j15 => ?_)
 refine D_ldA1 (ul80_0_80 x7) ag80.h ty80.h.sz rfl rfl .no (.tmp rfl rfl) rfl .h la80_0_80 (fun p16 => ?_)
 refine D_at rfl .no (.t (.t (.t .h))) rfl (fun ha hp => V_loadBox ag80.h ty80.h.sz rfl (EN ha (.tmp rfl rfl) rfl) hp.2 rfl) ?_
 obtain ⟨r17, hx18, hF⟩ := bind_some hF
 refine D_act0 rfl rfl .no (.rd .h rfl (.rd (.t (.t (.t (.t .h)))) rfl .nil)) .nil (fun ha => X_callS cf67.h (.cons (EN ha (.tmp rfl rfl) rfl) (.cons (EN ha (.tmp rfl rfl) rfl) .nil)) (s_CompareFacts_ok x7 p16 a_f v1_1 _ hx18)) (fun _ => ?_)
 refine D_val rfl .no (fun ha => V_eql (i := r17) (j := 0) (EN ha (.tmp rfl rfl) rfl) (EN ha (.int _ _) rfl)) ?_
 refine D_nil (CW_cond (b := ((r17 : Int) == 0)) (.tmp rfl rfl) (fun hb21 => ?_) (fun hb21 => ?_))
 · rw [if_pos hb21] at hF
   refine K_region (C_val (V_assign (v := (.bool true)) (.bool _)) ?_)
   refine C_nil (CW_ret ?_)
   obtain rfl := Option.some.inj hF
   exact End_ret () (.tmp rfl rfl .nil) rfl (.sel .nil)
 rw [if_neg (by rw [hb21]; exact Bool.false_ne_true)] at hF
 refine CW_skip (CW_region (Cm (.int .i64 (k5 : Int)) rfl rfl ?_))
 refine C_val (V_add (i := (k5 : Int)) (j := 1) (.tmp rfl rfl) (.int _ _)) ?_
 refine Ca (.int .i64 (IntKind.i64.wrap ((k5 : Int) + 1))) rfl rfl ?_
 refine C_nil ?_
 have hw20 : IntKind.i64.wrap ((k5 : Int) + 1) = ((k5 + 1 : Nat) : Int) := by rw [wrap_in (by omega) (by omega)]; rfl
 rw [hw20]
 exact ⟨_, Nat.lt_succ_self _, _, k5 + 1, rest6, rfl, (EqL.cons rfl (EqL.cons rfl (EqL.cons rfl (EqL.nil)))).eq, hd11, (.sel (.rd (.t (.t .h)) rfl (.rd (.t (.t (.t .h))) rfl (.rd (.t (.t (.t (.t .h)))) rfl .nil)))), hF⟩
def s_AddFact_L1 (a_f : Fact) : List Fact → Nat → (List Fact) → Bool → Option ((List Fact))
 | [], k13, c6, c9 => if (!c9) then (
     (s_l2One a_f.Rel a_f.Values).bind fun r22 =>
     (app c6 ([r22] : List Fact)).bind fun z26 =>
     some z26)
   else (
     some c6)
 | x15 :: rest14, k13, c6, c9 => ((bif (!c9) then ((s_CompareFacts a_f x15).bind fun r38 =>
         some (decide ((r38 : Int) < 0)))
       else (some false)).bind fun o32 =>
     match o32 with
     | c41 => if c41 then (
         (s_l2One a_f.Rel a_f.Values).bind fun r42 =>
         (app c6 ([r42] : List Fact)).bind fun z46 =>
         (s_l2One x15.Rel x15.Values).bind fun r54 =>
         (app z46 ([r54] : List Fact)).bind fun z58 =>
         some (z58, true))
       else (
         (s_l2One x15.Rel x15.Values).bind fun r66 =>
         (app c6 ([r66] : List Fact)).bind fun z70 =>
         some (z70, c9))).bind fun o30 =>
   match o30 with
   | (c75, c78) => s_AddFact_L1 a_f rest14 (k13 + 1) c75 c78
def s_AddFact (a_l : List Fact) (a_f : Fact) : Option ((List Fact)) :=
 (s_HasFact a_l a_f).bind fun r3 =>
 s_AddFact_L1 a_f a_l 0 ([] : List Fact) r3
theorem s_AddFact_ok (a_l : List Fact) (v0_0 : Sv) (a_f : Fact) (v1_1 : Sv) (R : (List Fact)) (hF : s_AddFact a_l a_f = some R) :
   Fw.Spec Tryz.prog 147 [v0_0.v, (.agg [(.int .i64 a_f.Rel), v1_1.v].toArray)] [crd (RdS 80 rd80) v0_0.v a_l, crd (RdS 3 rdInt) v1_1.v a_f.Values] (fun p : Sv × List Nat => p.1.v) (fun p => [cown (OwnS 80 ow80) p.2 p.1.v R]) := by
 refine Spec_enter (n := 62) Tryz.func147 rfl rfl (rs := [.tmp 4]) rfl rfl rfl ?_
 intro H0 F0
 unfold s_AddFact at hF
 refine K_region (C_newR rfl (N_box (g := false) (v := (.agg [(.int .i64 a_f.Rel), v1_1.v].toArray)) ty80.h.sz (.tmp rfl rfl) rfl) (fun k1 => ?_))
 refine C_val (V_assign (v := (.slice none 0 0)) EV.nilSlice) ?_
 refine C_nil (K_region (C_new rfl (N_buildSliceT (g := true) sl40.h ty80.h .nil (vs := []) rfl rfl rfl (by simp)) (fun k2 => ?_)))
 refine C_conv (.cons .h .nil) (own_lit (Ro := ow80) (E := 80) (F := []) (xs := ([] : List Fact)) MkL_nil rfl rfl) apps ?_
 refine Ca (.slice (some ⟨k2, 0, none⟩) 0 1) rfl rfl ?_
 refine C_nil (K_region (Cm v0_0.v rfl rfl ?_))
 refine C_at (.t .h) (fun hp => V_loadBox ag80.h ty80.h.sz rfl (.tmp rfl rfl) hp.2 rfl) ?_
 obtain ⟨r3, hx4, hF⟩ := bind_some hF
 refine C_x0 (.rd (.t (.t .h)) rfl (.rd (.t (.t (.t .h))) rfl .nil)) (X_callS cf183.h (.cons (.tmp rfl rfl) (.cons (.tmp rfl rfl) .nil)) (s_HasFact_ok a_l v0_0 a_f v1_1 _ hx4)) (fun _ => ?_)
 refine Ca (.bool r3) rfl rfl ?_
 refine C_nil (K_in (K_region (C_val (V_assign (v := (.int .i64 0)) (.int _ _)) ?_)))
 refine C_nil (CW_block (CW_loop (m := a_l.length) (fun m11 f' cs' => ∃ (g : Fr) (k13 : Nat) (rest14 : List Fact) (c6 : List Fact) (c9 : Bool) (v7 : Sv) (F8 : List Nat), m11 = rest14.length ∧ f' = updL g [(0, v0_0.v), (3, (.pointer (some ⟨k1, 0, some 0⟩))), (5, v7.v), (6, (.bool c9)), (7, (.int .i64 (k13 : Int)))] ∧ List.drop k13 a_l = rest14 ∧ Ent cs' [crd (RdS 80 rd80) v0_0.v a_l, cboR k1 80 (.agg [(.int .i64 a_f.Rel), v1_1.v].toArray), crd (RdS 3 rdInt) v1_1.v a_f.Values, cown (OwnS 80 ow80) F8 v7.v c6] ∧ s_AddFact_L1 a_f rest14 k13 c6 c9 = some R) ⟨_, 0, _, _, _, ⟨(some ⟨k2, 0, none⟩), 0, 1⟩, (k2 :: []), rfl, (EqL.cons rfl (EqL.cons rfl (EqL.cons rfl (EqL.cons rfl (EqL.cons rfl (EqL.nil)))))).eq, rfl, (.sel (.rd (.t (.t .h)) rfl (.rd (.t .h) rfl (.rd (.t (.t (.t .h))) rfl (.cons .h .nil))))), hF⟩ ?_))
 clear hF
 rintro m11 _ _ ⟨g12, k13, rest14, c6, c9, v7, F8, rfl, rfl, hd16, hE, hF⟩
 refine K_ent hE ?_
 clear hE
 refine K_pure (c := crd (RdS 80 rd80) v0_0.v a_l) .h crd_bound (fun hbd21 => ?_)
 rcases rest14 with _ | ⟨x15, rest14⟩
 · have hk17 := List.drop_eq_nil_iff.1 hd16
   have hfe20 : (decide (((k13 : Int) : Int) < (a_l.length : Int))) = false := decide_eq_false (by omega)
   rw [s_AddFact_L1] at hF
   refine K_in (K_region (Cm (.int .i64 (k13 : Int)) rfl rfl ?_))
   refine Cm v0_0.v rfl rfl ?_
   refine C_at .h (fun hp => V_lenR (l := a_l.length) sl40.h (.tmp rfl rfl) (crd_len hp)) ?_
   refine C_val (V_lss (i := (k13 : Int)) (j := (a_l.length : Int)) (.tmp rfl rfl) (.tmp rfl rfl)) ?_
   refine C_nil (CW_cond (b := (decide (((k13 : Int) : Int) < (a_l.length : Int)))) (.tmp rfl rfl) (fun hb => absurd (hfe20.symm.trans hb) (by decide)) (fun _ => ?_))
   refine CW_exit ?_
   iterate 2 refine CThen_exit ?_
   refine CIn_self (K_in (K_region (Cm (.bool c9) rfl rfl ?_)))
   refine C_val (V_not (b := c9) (.tmp rfl rfl)) ?_
   refine C_nil (CW_cond (b := (!c9)) (.tmp rfl rfl) (fun hb29 => ?_) (fun hb29 => ?_))
   · rw [if_pos hb29] at hF
     refine CW_region (Cm v7.v rfl rfl ?_)
     refine C_val (V_fieldAddr (off := 0) fd80_0.h (.tmp rfl rfl)) ?_
     refine C_at (.t .h) (fun hp => V_load (v := (.int .i64 a_f.Rel)) ag3.h (.tmp rfl rfl) hp.2 rfl rfl) ?_
     refine C_val (V_fieldAddr (off := 1) fd80_1.h (.tmp rfl rfl)) ?_
     refine C_at (.t .h) (fun hp => V_load (v := v1_1.v) ag22.h (.tmp rfl rfl) hp.2 rfl rfl) ?_
     obtain ⟨r22, hx23, hF⟩ := bind_some hF
     refine C_x1 (.rd (.t (.t .h)) rfl .nil) (X_callS cf178.h (.cons (.tmp rfl rfl) (.cons (.tmp rfl rfl) .nil)) (s_l2One_ok a_f.Rel a_f.Values v1_1 _ hx23)) (fun p24 => ?_)
     refine C_new rfl (N_buildSliceT (g := true) sl40.h ty80.h (.cons (.tmp rfl rfl) .nil) (vs := [(.agg [(.int .i64 r22.Rel), p24.1.v].toArray)]) rfl rfl rfl (by intro v hv; simp at hv; rcases hv with rfl <;> rfl)) (fun k25 => ?_)
     refine C_conv (.cons .h (.cons .h .nil)) (own_lit (Ro := ow80) (E := 80) (F := (p24.2 ++ [])) (xs := ([r22] : List Fact)) (MkL_cons mk80 MkL_nil apps) rfl rfl) apps ?_
     obtain ⟨z26, hx27, hF⟩ := bind_some hF
     refine C_x1 (.cons (.t (.t (.t (.t .h)))) (.cons .h .nil)) (X_appendO (Ro := ow80) sl40.h ni40 ty80.h rfl rfl rfl (.tmp rfl rfl) (.tmp rfl rfl) hx27 src_own) (fun p28 => ?_)
     refine Ca p28.1.v rfl rfl ?_
     refine C_nil (K_region (Cm p28.1.v rfl rfl ?_))
     refine Ca p28.1.v rfl rfl ?_
     refine C_nil (CW_ret ?_)
     obtain rfl := Option.some.inj hF
     exact End_ret (p28.1, p28.2) (.tmp rfl rfl .nil) rfl (.sel (.cons .h .nil))
   rw [if_neg (by rw [hb29]; exact Bool.false_ne_true)] at hF
   refine CW_skip (K_region (Cm v7.v rfl rfl ?_))
   refine Ca v7.v rfl rfl ?_
   refine C_nil (CW_ret ?_)
   obtain rfl := Option.some.inj hF
   exact End_ret (v7, F8) (.tmp rfl rfl .nil) rfl (.sel (.cons (.t (.t (.t .h))) .nil))
 obtain ⟨hk17, hx18, hd19⟩ := drop_cons hd16
 have hfe20 : (decide (((k13 : Int) : Int) < (a_l.length : Int))) = true := decide_eq_true (by omega)
 rw [s_AddFact_L1] at hF
 refine K_in (K_region (Cm (.int .i64 (k13 : Int)) rfl rfl ?_))
 refine Cm v0_0.v rfl rfl ?_
 refine C_at .h (fun hp => V_lenR (l := a_l.length) sl40.h (.tmp rfl rfl) (crd_len hp)) ?_
 refine C_val (V_lss (i := (k13 : Int)) (j := (a_l.length : Int)) (.tmp rfl rfl) (.tmp rfl rfl)) ?_
 refine C_nil (CW_cond (b := (decide (((k13 : Int) : Int) < (a_l.length : Int)))) (.tmp rfl rfl) (fun _ => ?_) (fun hb => absurd (hfe20.symm.trans hb) (by decide)))
 refine CW_skip ?_
 obtain ⟨o30, hio30, hO31⟩ := bind_some hF
 refine K_cut (fun f' cs' => ∃ (c75 : List Fact) (c78 : Bool) (v76 : Sv) (F77 : List Nat) (g : Fr), o30 = (c75, c78) ∧ f' = updL g [(0, v0_0.v), (3, (.pointer (some ⟨k1, 0, some 0⟩))), (5, v76.v), (6, (.bool c78)), (7, (.int .i64 (k13 : Int)))] ∧ Ent cs' [crd (RdS 80 rd80) v0_0.v a_l, cboR k1 80 (.agg [(.int .i64 a_f.Rel), v1_1.v].toArray), crd (RdS 3 rdInt) v1_1.v a_f.Values, cown (OwnS 80 ow80) F77 v76.v c75]) ?_ ?_
 · replace hF := hio30
   refine CW_block (K_in ?_)
   obtain ⟨o32, hio32, hO33⟩ := bind_some hF
   refine K_draw [0, 1, 2, 3, 4, 5, 6, 7, 8, 9, 10] [0, 1, 3, 7, 7, 7, 55, 119, 255, 511, 1023] [8] mixed (by decide +kernel) ?_
   refine D_cut (fun f' cs' => ∃ (c41 : Bool) (g : Fr), c41 = o32 ∧ f' = updL g [(0, v0_0.v), (3, (.pointer (some ⟨k1, 0, some 0⟩))), (5, v7.v), (6, (.bool c9)), (7, (.int .i64 (k13 : Int))), (28, (.bool c41))] ∧ Ent cs' [crd (RdS 80 rd80) v0_0.v a_l, cboR k1 80 (.agg [(.int .i64 a_f.Rel), v1_1.v].toArray), crd (RdS 3 rdInt) v1_1.v a_f.Values, cown (OwnS 80 ow80) F8 v7.v c6]) ?_ ?_
   · replace hF := hio32
     refine Dm (.bool c9) rfl rfl rfl rfl ?_
     refine D_val rfl .no (fun ha => V_not (b := c9) (EN ha (.tmp rfl rfl) rfl)) ?_
     refine Dm (.bool (!c9)) rfl rfl rfl rfl ?_
     rcases Bool.eq_false_or_eq_true (!c9) with hg34 | hg34
     · rw [hg34]
       try rw [hg34] at hF; dsimp only [cond_true, cond_false] at hF
       refine D_at rfl (.on 20 rfl rfl rfl) (.t .h) rfl (fun ha hp => V_loadBox ag80.h ty80.h.sz rfl (EN ha (.tmp rfl rfl) rfl) hp.2 rfl) ?_
       refine D_val rfl (.on 20 rfl rfl rfl) (fun ha => V_move (v := v0_0.v) (EN ha (.tmp rfl rfl) rfl)) ?_
       refine D_val rfl (.on 20 rfl rfl rfl) (fun ha => V_move (v := (.int .i64 (k13 : Int))) (EN ha (.tmp rfl rfl) rfl)) ?_
       refine D_idx (a := x15) sl40.h ty80.h.sz rfl (.on 20 rfl rfl rfl) (.tmp rfl rfl) (.tmp rfl rfl) rfl rfl .h (Int.natCast_nonneg k13) hx18 (fun k35 j36 => ?_)
       refine D_ldA1 (ul80_0_80 x15) ag80.h ty80.h.sz rfl rfl (.on 20 rfl rfl rfl) (.tmp rfl rfl) rfl .h la80_0_80 (fun p37 => ?_)
       obtain ⟨r38, hx39, hF⟩ := bind_some hF
       refine D_act0 rfl rfl (.on 20 rfl rfl rfl) (.rd (.t (.t (.t (.t .h)))) rfl (.rd .h rfl .nil)) .nil (fun ha => X_callS cf67.h (.cons (EN ha (.tmp rfl rfl) rfl) (.cons (EN ha (.tmp rfl rfl) rfl) .nil)) (s_CompareFacts_ok a_f v1_1 x15 p37 _ hx39)) (fun _ => ?_)
       refine D_val rfl (.on 20 rfl rfl rfl) (fun ha => V_lss (i := r38) (j := 0) (EN ha (.tmp rfl rfl) rfl) (EN ha (.int _ _) rfl)) ?_
       refine D_val rfl .no (fun ha => V_pick (b := true) (u := (.bool (decide ((r38 : Int) < 0)))) (v := (.bool false)) (EN ha (.tmp rfl rfl) rfl) (EN ha (.tmp rfl rfl) rfl) (EN ha (.bool _) rfl)) ?_
       refine D_nil ?_
       obtain rfl := Option.some.inj hF
       exact ⟨_, _, rfl, (EqL.cons rfl (EqL.cons rfl (EqL.cons rfl (EqL.cons rfl (EqL.cons rfl (EqL.cons rfl (EqL.nil))))))).eq, (.sel (.rd (.t (.t .h)) rfl (.rd (.t (.t (.t .h))) rfl (.rd (.t (.t (.t (.t .h)))) rfl (.cons (.t (.t (.t (.t (.t .h))))) .nil)))))⟩
     rw [hg34]
     try rw [hg34] at hF; dsimp only [cond_true, cond_false] at hF
     iterate 7 refine D_off 20 rfl rfl rfl rfl ?_
     refine D_val rfl .no (fun ha => V_pick (b := false) (u := undef) (v := (.bool false)) (EN ha (.tmp rfl rfl) rfl) (EN ha (.tmp rfl rfl) rfl) (EN ha (.bool _) rfl)) ?_
     refine D_nil ?_
     obtain rfl := Option.some.inj hF
     exact ⟨_, _, rfl, (EqL.cons rfl (EqL.cons rfl (EqL.cons rfl (EqL.cons rfl (EqL.cons rfl (EqL.cons rfl (EqL.nil))))))).eq, (.sel (.rd .h rfl (.rd (.t .h) rfl (.rd (.t (.t .h)) rfl (.cons (.t (.t (.t .h))) .nil)))))⟩
   rintro _ _ ⟨c41, g74, rfl, rfl, hE⟩
   replace hF := hO33
   clear hO33
   try dsimp only at hF
   refine K_ent hE ?_
   refine CW_cond (b := c41) (.tmp rfl rfl) (fun hb73 => ?_) (fun hb73 => ?_)
   · rw [if_pos hb73] at hF
     refine K_region (Cm v7.v rfl rfl ?_)
     refine C_val (V_fieldAddr (off := 0) fd80_0.h (.tmp rfl rfl)) ?_
     refine C_at (.t .h) (fun hp => V_load (v := (.int .i64 a_f.Rel)) ag3.h (.tmp rfl rfl) hp.2 rfl rfl) ?_
     refine C_val (V_fieldAddr (off := 1) fd80_1.h (.tmp rfl rfl)) ?_
     refine C_at (.t .h) (fun hp => V_load (v := v1_1.v) ag22.h (.tmp rfl rfl) hp.2 rfl rfl) ?_
     obtain ⟨r42, hx43, hF⟩ := bind_some hF
     refine C_x1 (.rd (.t (.t .h)) rfl .nil) (X_callS cf178.h (.cons (.tmp rfl rfl) (.cons (.tmp rfl rfl) .nil)) (s_l2One_ok a_f.Rel a_f.Values v1_1 _ hx43)) (fun p44 => ?_)
     refine C_new rfl (N_buildSliceT (g := true) sl40.h ty80.h (.cons (.tmp rfl rfl) .nil) (vs := [(.agg [(.int .i64 r42.Rel), p44.1.v].toArray)]) rfl rfl rfl (by intro v hv; simp at hv; rcases hv with rfl <;> rfl)) (fun k45 => ?_)
     refine C_conv (.cons .h (.cons .h .nil)) (own_lit (Ro := ow80) (E := 80) (F := (p44.2 ++ [])) (xs := ([r42] : List Fact)) (MkL_cons mk80 MkL_nil apps) rfl rfl) apps ?_
     obtain ⟨z46, hx47, hF⟩ := bind_some hF
     refine C_x1 (.cons (.t (.t (.t (.t .h)))) (.cons .h .nil)) (X_appendO (Ro := ow80) sl40.h ni40 ty80.h rfl rfl rfl (.tmp rfl rfl) (.tmp rfl rfl) hx47 src_own) (fun p48 => ?_)
     refine Ca p48.1.v rfl rfl ?_
     refine C_nil (CW_region (C_val (V_assign (v := (.bool true)) (.bool _)) ?_))
     refine C_nil (CW_draw [0, 1, 2, 3, 4, 5, 6, 7, 8, 9, 10, 11, 12, 13, 14] [0, 0, 0, 6, 14, 30, 0, 0, 192, 448, 960, 2046, 4094, 8191, 16383] [11, 13] mixed (by decide +kernel) ?_)
     refine Dm p48.1.v rfl rfl rfl rfl ?_
     refine Dm v0_0.v rfl rfl rfl rfl ?_
     refine Dm (.int .i64 (k13 : Int)) rfl rfl rfl rfl ?_
     refine D_idx (a := x15) sl40.h ty80.h.sz rfl .no (.tmp rfl rfl) (.tmp rfl rfl) rfl rfl (.t .h) (Int.natCast_nonneg k13) hx18 (fun k49 j50 => ?_)
     refine D_val rfl .no (fun ha => V_fieldAddr (off := 0) fd80_0.h (EN ha (.tmp rfl rfl) rfl)) ?_
     refine D_ldS (w := (.int .i64 x15.Rel)) ag3.h rfl .no (.tmp rfl rfl) rfl .h ls80_0 ?_
     refine Dm v0_0.v rfl rfl rfl rfl ?_
     refine Dm (.int .i64 (k13 : Int)) rfl rfl rfl rfl ?_
     refine D_idx (a := x15) sl40.h ty80.h.sz rfl .no (.tmp rfl rfl) (.tmp rfl rfl) rfl rfl (.t (.t .h)) (Int.natCast_nonneg k13) hx18 (fun k51 j52 => ?_)
     refine D_val rfl .no (fun ha => V_fieldAddr (off := 1) fd80_1.h (EN ha (.tmp rfl rfl) rfl)) ?_
     refine D_ldV (R' := (RdS 3 rdInt)) ag22.h rfl .no (.tmp rfl rfl) rfl .h lv80_1 (fun w53 => ?_)
     obtain ⟨r54, hx55, hF⟩ := bind_some hF
     refine D_act1 rfl rfl .no (.rd .h rfl .nil) .nil (fun ha => X_callS cf178.h (.cons (EN ha (.tmp rfl rfl) rfl) (.cons (EN ha (.tmp rfl rfl) rfl) .nil)) (s_l2One_ok x15.Rel x15.Values w53 _ hx55)) (fun p56 => ?_)
     refine D_new rfl .no rfl (fun ha => N_buildSliceT (g := true) (len := 1) (parts := [(0, .tmp 48)]) sl40.h ty80.h (.cons (EN ha (.tmp rfl rfl) rfl) .nil) (vs := [(.agg [(.int .i64 r54.Rel), p56.1.v].toArray)]) rfl rfl rfl (by intro v hv; simp at hv; rcases hv with rfl <;> rfl)) (fun k57 => ?_)
     refine D_conv (.cons .h (.cons .h .nil)) (own_lit (Ro := ow80) (E := 80) (F := (p56.2 ++ [])) (xs := ([r54] : List Fact)) (MkL_cons mk80 MkL_nil apps) rfl rfl) apps ?_
     obtain ⟨z58, hx59, hF⟩ := bind_some hF
     refine D_act1 rfl rfl .no (.cons (.t (.t (.t (.t .h)))) (.cons .h .nil)) (.dep rfl .nil) (fun ha => X_appendO (Ro := ow80) sl40.h ni40 ty80.h rfl rfl rfl (EN ha (.tmp rfl rfl) rfl) (EN ha (.tmp rfl rfl) rfl) hx59 src_own) (fun p60 => ?_)
     refine Da p60.1.v rfl rfl rfl rfl ?_
     refine D_nil ?_
     obtain rfl := Option.some.inj hF
     exact ⟨_, _, p60.1, p60.2, _, rfl, (EqL.cons rfl (EqL.cons rfl (EqL.cons rfl (EqL.cons rfl (EqL.cons rfl (EqL.nil)))))).eq, (.sel (.rd (.t (.t (.t (.t .h)))) rfl (.rd (.t (.t (.t (.t (.t .h))))) rfl (.rd (.t (.t (.t (.t (.t (.t .h)))))) rfl (.cons .h .nil)))))⟩
   rw [if_neg (by rw [hb73]; exact Bool.false_ne_true)] at hF
   refine CW_skip (CW_draw [0, 1, 2, 3, 4, 5, 6, 7, 8, 9, 10, 11, 12, 13, 14] [0, 0, 0, 6, 14, 30, 0, 0, 192, 448, 960, 2046, 4094, 8191, 16383] [11, 13] mixed (by decide +kernel) ?_)
   refine Dm v7.v rfl rfl rfl rfl ?_
   refine Dm v0_0.v rfl rfl rfl rfl ?_
   refine Dm (.int .i64 (k13 : Int)) rfl rfl rfl rfl ?_
   refine D_idx (a := x15) sl40.h ty80.h.sz rfl .no (.tmp rfl rfl) (.tmp rfl rfl) rfl rfl .h (Int.natCast_nonneg k13) hx18 (fun k61 j62 => ?_)
   refine D_val rfl .no (fun ha => V_fieldAddr (off := 0) fd80_0.h (EN ha (.tmp rfl rfl) rfl)) ?_
   refine D_ldS (w := (.int .i64 x15.Rel)) ag3.h rfl .no (.tmp rfl rfl) rfl .h ls80_0 ?_
   refine Dm v0_0.v rfl rfl rfl rfl ?_
   refine Dm (.int .i64 (k13 : Int)) rfl rfl rfl rfl ?_
   refine D_idx (a := x15) sl40.h ty80.h.sz rfl .no (.tmp rfl rfl) (.tmp rfl rfl) rfl rfl (.t .h) (Int.natCast_nonneg k13) hx18 (fun k63 j64 => ?_)
   refine D_val rfl .no (fun ha => V_fieldAddr (off := 1) fd80_1.h (EN ha (.tmp rfl rfl) rfl)) ?_
   refine D_ldV (R' := (RdS 3 rdInt)) ag22.h rfl .no (.tmp rfl rfl) rfl .h lv80_1 (fun w65 => ?_)
   obtain ⟨r66, hx67, hF⟩ := bind_some hF
   refine D_act1 rfl rfl .no (.rd .h rfl .nil) .nil (fun ha => X_callS cf178.h (.cons (EN ha (.tmp rfl rfl) rfl) (.cons (EN ha (.tmp rfl rfl) rfl) .nil)) (s_l2One_ok x15.Rel x15.Values w65 _ hx67)) (fun p68 => ?_)
   refine D_new rfl .no rfl (fun ha => N_buildSliceT (g := true) (len := 1) (parts := [(0, .tmp 48)]) sl40.h ty80.h (.cons (EN ha (.tmp rfl rfl) rfl) .nil) (vs := [(.agg [(.int .i64 r66.Rel), p68.1.v].toArray)]) rfl rfl rfl (by intro v hv; simp at hv; rcases hv with rfl <;> rfl)) (fun k69 => ?_)
   refine D_conv (.cons .h (.cons .h .nil)) (own_lit (Ro := ow80) (E := 80) (F := (p68.2 ++ [])) (xs := ([r66] : List Fact)) (MkL_cons mk80 MkL_nil apps) rfl rfl) apps ?_
   obtain ⟨z70, hx71, hF⟩ := bind_some hF
   refine D_act1 rfl rfl .no (.cons (.t (.t (.t (.t (.t (.t (.t .h))))))) (.cons .h .nil)) (.dep rfl .nil) (fun ha => X_appendO (Ro := ow80) sl40.h ni40 ty80.h rfl rfl rfl (EN ha (.tmp rfl rfl) rfl) (EN ha (.tmp rfl rfl) rfl) hx71 src_own) (fun p72 => ?_)
   refine Da p72.1.v rfl rfl rfl rfl ?_
   refine D_nil ?_
   obtain rfl := Option.some.inj hF
   exact ⟨_, _, p72.1, p72.2, _, rfl, (EqL.cons rfl (EqL.cons rfl (EqL.cons rfl (EqL.cons rfl (EqL.cons rfl (EqL.nil)))))).eq, (.sel (.rd (.t (.t (.t (.t .h)))) rfl (.rd (.t (.t (.t (.t (.t .h))))) rfl (.rd (.t (.t (.t (.t (.t (.t .h)))))) rfl (.cons .h .nil)))))⟩
 rintro _ _ ⟨c75, c78, v76, F77, g80, rfl, rfl, hE⟩
 replace hF := hO31
 clear hO31
 try dsimp only at hF
 refine K_ent hE ?_
 refine CW_region (Cm (.int .i64 (k13 : Int)) rfl rfl ?_)
 refine C_val (V_add (i := (k13 : Int)) (j := 1) (.tmp rfl rfl) (.int _ _)) ?_
 refine Ca (.int .i64 (IntKind.i64.wrap ((k13 : Int) + 1))) rfl rfl ?_
 refine C_nil ?_
 have hw79 : IntKind.i64.wrap ((k13 : Int) + 1) = ((k13 + 1 : Nat) : Int) := by rw [wrap_in (by omega) (by omega)]; rfl
 rw [hw79]
 exact ⟨_, Nat.lt_succ_self _, _, k13 + 1, rest14, _, _, v76, F77, rfl, (EqL.cons rfl (EqL.cons rfl (EqL.cons rfl (EqL.cons rfl (EqL.cons rfl (EqL.nil)))))).eq, hd19, (.sel (.rd .h rfl (.rd (.t .h) rfl (.rd (.t (.t .h)) rfl (.cons (.t (.t (.t .h))) .nil))))), hF⟩
def s_l8Step_L24 (x2166 : Fact) (r2178 : (List Fact)) : Nat → (List Int) → Int → Option ((List Fact) × (List Int))
 | 0, _, _ => none
 | m2208 + 1, c2205, c2207 => if (decide ((c2207 : Int) < (x2166.Values.length : Int))) then (
     (ix x2166.Values c2207).bind fun x2222 =>
     (s_l3Put c2205 x2222).bind fun r2228 =>
     s_l8Step_L24 x2166 r2178 m2208 r2228 (IntKind.i64.wrap (c2207 + 1)))
   else (
     some (r2178, c2205))
def s_l8Step_L21 (z1969 : List Access) : List Fact → Nat → (List Fact) → (List Int) → Option ((List Fact) × (List Int) × (List Access))
 | [], k2164, c2156, c2159 => some (c2156, c2159, z1969)
 | x2166 :: rest2165, k2164, c2156, c2159 => ((s_AddFact c2156 x2166).bind fun r2178 =>
     s_l8Step_L24 x2166 r2178 (((x2166.Values.length : Int) - 0).toNat + 2) c2159 0).bind fun o2173 =>
   match o2173 with
   | (c2232, c2235) => s_l8Step_L21 z1969 rest2165 (k2164 + 1) c2232 c2235
def s_l8Step_L1 (a_l : List Method) (a_facts : List Fact) (a_r : Reached) (r3 : Reached) (r7 : (List Access)) : List Access → Nat → (List Fact) → (List Int) → (List Access) → Option (Reached × Bool)
 | [], k1953, c1942, c1945, c1947 => if (((r7.length : Int) : Int) == 0) then (
     some (({ Facts := c1942, Values := c1945, Log := c1947, Rounds := r3.Rounds } : Reached), false))
   else (
     some (({ Facts := c1942, Values := c1945, Log := c1947, Rounds := (IntKind.i64.wrap (a_r.Rounds + 1)) } : Reached), true))
 | x1955 :: rest1954, k1953, c1942, c1945, c1947 => ((app c1947 ([x1955] : List Access)).bind fun z1969 =>
     (ix a_l x1955.Method).bind fun x1974 =>
     (s_l5Matches x1974 x1955.Values a_facts).bind fun r1984 =>
     s_l8Step_L21 z1969 r1984 0 c1942 c1945).bind fun o1963 =>
   match o1963 with
   | (c2239, c2242, c2244) => s_l8Step_L1 a_l a_facts a_r r3 r7 rest1954 (k1953 + 1) c2239 c2242 c2244
def s_l8Step (a_l : List Method) (a_facts : List Fact) (a_r : Reached) : Option (Reached × Bool) :=
 (s_l8Copy a_r).bind fun r3 =>
 (s_l8Open a_l a_r).bind fun r7 =>
 s_l8Step_L1 a_l a_facts a_r r3 r7 r7 0 r3.Facts r3.Values r3.Log
theorem s_l8Step_ok (a_l : List Method) (v0_0 : Sv) (a_facts : List Fact) (v1_0 : Sv) (a_r : Reached) (v2_0 : Sv) (v2_1 : Sv) (v2_2 : Sv) (R : Reached × Bool) (hF : s_l8Step a_l a_facts a_r = some R) :
   Fw.Spec Tryz.prog 106 [v0_0.v, v1_0.v, (.agg [v2_0.v, v2_1.v, v2_2.v, (.int .i64 a_r.Rounds)].toArray)] [crd (RdS 77 rd77) v0_0.v a_l, crd (RdS 80 rd80) v1_0.v a_facts, crd (RdS 80 rd80) v2_0.v a_r.Facts, crd (RdS 3 rdInt) v2_1.v a_r.Values, crd (RdS 141 rd141) v2_2.v a_r.Log] (fun p : Sv × List Nat × Sv × Sv => (.tuple [(.agg [p.1.v, p.2.2.1.v, p.2.2.2.v, (.int .i64 R.1.Rounds)].toArray), (.bool R.2)].toArray)) (fun p => [cown (OwnS 80 ow80) p.2.1 p.1.v R.1.Facts, crd (RdS 3 rdInt) p.2.2.1.v R.1.Values, crd (RdS 141 rd141) p.2.2.2.v R.1.Log]) := by
 refine Spec_enter (n := 94) Tryz.func106 rfl rfl (rs := [.cell 6 73, .tmp 7]) rfl rfl rfl ?_
 intro H0 F0
 unfold s_l8Step at hF
 refine au ?_
 refine AbR (fun k1 => ?_)
 refine AnW (fun k2 => ?_)
 iterate 4 refine au ?_
 obtain ⟨r3, hx4, hF⟩ := bind_some hF
 refine Cx3 (s_l8Copy_ok _ _ _ _ _ hx4) (fun p5 => ?_)
 refine AnW (fun k6 => ?_)
 refine As (.agg [p5.1.v, p5.2.2.1.v, p5.2.2.2.2.1.v, (.int .i64 r3.Rounds)].toArray) ?_
 iterate 4 refine au ?_
 obtain ⟨r7, hx8, hF⟩ := bind_some hF
 refine Cx1 (s_l8Open_ok _ _ _ _ _ _ _ hx8) (fun p9 => ?_)
 iterate 6 refine au ?_
 refine CW_block (K_frz .h frz_own ?_)
 refine CW_loop (m := r7.length) (fun m1951 f' cs' => ∃ (g : Fr) (k1953 : Nat) (rest1954 : List Access) (c1942 : List Fact) (c1945 : List Int) (c1947 : List Access) (v1943 : Sv) (F1944 : List Nat) (v1946 : Sv) (v1948 : Sv) (F1949 : List Nat), m1951 = rest1954.length ∧ f' = updL g [(0, v0_0.v), (1, v1_0.v), (5, (.pointer (some ⟨k1, 0, some 0⟩))), (6, (.pointer (some ⟨k2, 0, some 0⟩))), (8, (.pointer (some ⟨k6, 0, some 0⟩))), (9, p9.1.v), (10, (.int .i64 (k1953 : Int)))] ∧ List.drop k1953 r7 = rest1954 ∧ Ent cs' [crd (RdS 77 rd77) v0_0.v a_l, crd (RdS 80 rd80) v1_0.v a_facts, cboR k1 73 (.agg [v2_0.v, v2_1.v, v2_2.v, (.int .i64 a_r.Rounds)].toArray), crd (RdS 80 rd80) v2_0.v a_r.Facts, crd (RdS 3 rdInt) v2_1.v a_r.Values, crd (RdS 141 rd141) v2_2.v a_r.Log, cbox k2 73 (.agg [(.slice none 0 0), (.slice none 0 0), (.slice none 0 0), (.int .i64 0)].toArray), cbox k6 73 (.agg [v1943.v, v1946.v, v1948.v, (.int .i64 r3.Rounds)].toArray), cown (OwnS 80 ow80) F1944 v1943.v c1942, crd (RdS 3 rdInt) v1946.v c1945, cown (OwnS 141 (roE rd141)) F1949 v1948.v c1947, crd (RdS 141 rd141) p9.1.v r7] ∧ s_l8Step_L1 a_l a_facts a_r r3 r7 rest1954 k1953 c1942 c1945 c1947 = some R) ⟨_, 0, _, _, _, _, p5.1, p5.2.1, p5.2.2.1, p5.2.2.2.2.1, (p5.2.2.2.2.2.take 1), rfl, eqA, rfl, (.frz (.t (.t (.t .h))) frz_own (.half (.t (.t (.t (.t .h)))) entA)), hF⟩ ?_
 clear hF
 rintro m1951 _ _ ⟨g1952, k1953, rest1954, c1942, c1945, c1947, v1943, F1944, v1946, v1948, F1949, rfl, rfl, hd1956, hE, hF⟩
 refine K_ent hE ?_
 clear hE
 refine K_pure (c := crd (RdS 141 rd141) p9.1.v r7) (.t (.t (.t (.t (.t (.t (.t (.t (.t (.t (.t .h))))))))))) crd_bound (fun hbd1961 => ?_)
 rcases rest1954 with _ | ⟨x1955, rest1954⟩
 · have hk1957 := List.drop_eq_nil_iff.1 hd1956
   rw [s_l8Step_L1] at hF
   iterate 7 refine au ?_
   refine CdF ?_
   iterate 10 refine au ?_
   refine Cc (fun hb1962 => ?_) (fun hb1962 => ?_)
   · rw [if_pos hb1962] at hF
     iterate 2 refine au ?_
     refine As (.agg [v1943.v, v1946.v, v1948.v, (.int .i64 r3.Rounds)].toArray) ?_
     iterate 3 refine au ?_
     cases hF
     exact End_ret (v1943, F1944, v1946, v1948) (.cellA rfl rfl .h rfl ag73.h ty73.h.sz rfl rfl (.tmp rfl rfl .nil)) rfl (.frz (.t (.t (.t (.t (.t (.t (.t (.t (.t (.t .h)))))))))) frz_own (.sel (.cons (.t (.t (.t (.t (.t (.t (.t (.t (.t .h))))))))) (.rd (.t (.t (.t (.t (.t (.t (.t (.t (.t .h))))))))) rfl (.rd .h rfl .nil)))))
   rw [if_neg (nt hb1962)] at hF
   iterate 6 refine au ?_
   refine As (.agg [v1943.v, v1946.v, v1948.v, (.int .i64 (IntKind.i64.wrap (a_r.Rounds + 1)))].toArray) ?_
   iterate 3 refine au ?_
   refine As (.agg [v1943.v, v1946.v, v1948.v, (.int .i64 (IntKind.i64.wrap (a_r.Rounds + 1)))].toArray) ?_
   iterate 3 refine au ?_
   cases hF
   exact End_ret (v1943, F1944, v1946, v1948) (.cellA rfl rfl .h rfl ag73.h ty73.h.sz rfl rfl (.tmp rfl rfl .nil)) rfl (.frz (.t (.t (.t (.t (.t (.t (.t (.t (.t (.t .h)))))))))) frz_own (.sel (.cons (.t (.t (.t (.t (.t (.t (.t (.t (.t .h))))))))) (.rd (.t (.t (.t (.t (.t (.t (.t (.t (.t .h))))))))) rfl (.rd .h rfl .nil)))))
 obtain ⟨hk1957, hx1958, hd1959⟩ := drop_cons hd1956
 rw [s_l8Step_L1] at hF
 iterate 7 refine au ?_
 refine CdT ?_
 refine au ?_
 obtain ⟨o1963, hio1963, hO1964⟩ := bind_some hF
 refine K_cut (fun f' cs' => ∃ (c2239 : List Fact) (c2242 : List Int) (c2244 : List Access) (v2240 : Sv) (F2241 : List Nat) (v2243 : Sv) (v2245 : Sv) (F2246 : List Nat) (g : Fr), o1963 = (c2239, c2242, c2244) ∧ f' = updL g [(0, v0_0.v), (1, v1_0.v), (5, (.pointer (some ⟨k1, 0, some 0⟩))), (6, (.pointer (some ⟨k2, 0, some 0⟩))), (8, (.pointer (some ⟨k6, 0, some 0⟩))), (9, p9.1.v), (10, (.int .i64 (k1953 : Int)))] ∧ Ent cs' [crd (RdS 77 rd77) v0_0.v a_l, crd (RdS 80 rd80) v1_0.v a_facts, cboR k1 73 (.agg [v2_0.v, v2_1.v, v2_2.v, (.int .i64 a_r.Rounds)].toArray), crd (RdS 80 rd80) v2_0.v a_r.Facts, crd (RdS 3 rdInt) v2_1.v a_r.Values, crd (RdS 141 rd141) v2_2.v a_r.Log, cbox k2 73 (.agg [(.slice none 0 0), (.slice none 0 0), (.slice none 0 0), (.int .i64 0)].toArray), cbox k6 73 (.agg [v2240.v, v2243.v, v2245.v, (.int .i64 r3.Rounds)].toArray), cown (OwnS 80 ow80) F2241 v2240.v c2239, crd (RdS 3 rdInt) v2243.v c2242, cown (OwnS 141 (roE rd141)) F2246 v2245.v c2244, crd (RdS 141 rd141) p9.1.v r7]) ?_ ?_
 · replace hF := hio1963
   refine CW_block (K_draw [0, 1, 2, 3, 4, 5, 6, 7, 8, 9] [0, 1, 0, 0, 12, 28, 60, 127, 255, 511] [7, 9] mixed (by decide +kernel) ?_)
   refine du ?_
   refine D_atO rfl .no (.t (.t (.t (.t (.t (.t (.t .h))))))) (fun ha hp => V_load (v := v1948.v) ag71.h (EN ha (.tmp rfl rfl) rfl) hp.2 rfl rfl) ?_
   iterate 2 refine du ?_
   refine Di hx1958 (fun k1965 j1966 => ?_)
   refine DlA1 (ul141_0_141 x1955) la141_0_141 (fun p1967 => ?_)
   refine D_new rfl .no rfl (fun ha => N_buildSliceT (g := true) (len := 1) (parts := [(0, .tmp 30)]) sl71.h ty141.h (.cons (EN ha (.tmp rfl rfl) rfl) .nil) (vs := [(.agg [(.int .i64 x1955.Method), p1967.v].toArray)]) rfl rfl rfl (by intro v hv; simp at hv; rcases hv with rfl <;> rfl)) (fun k1968 => ?_)
   refine Dv1 (.cons .h (.rd .h rfl .nil)) (own_lit (Ro := (roE rd141)) (E := 141) (F := ([] ++ [])) (xs := ([x1955] : List Access)) (MkL_cons mr141 MkL_nil apps) rfl rfl) ?_
   obtain ⟨z1969, hx1970, hF⟩ := bind_some hF
   refine D_act1 rfl rfl .no (.cons (.t (.t (.t (.t (.t (.t (.t (.t (.t (.t (.t (.t (.t .h))))))))))))) (.cons .h .nil)) (.dep rfl (.dep rfl .nil)) (fun ha => X_appendO (Ro := (roE rd141)) sl71.h ni71 ty141.h rfl rfl rfl (EN ha (.tmp rfl rfl) rfl) (EN ha (.tmp rfl rfl) rfl) hx1970 src_own) (fun p1971 => ?_)
   refine du ?_
   refine D_act1 rfl rfl .no (.cons (.t (.t (.t (.t (.t (.t (.t (.t (.t (.t .h)))))))))) .nil) (.dep rfl (.dep rfl .nil)) (fun ha => X_storeB (e' := (.agg [v1943.v, v1946.v, p1971.1.v, (.int .i64 r3.Rounds)].toArray)) ty71.h.sz (EN ha (.tmp rfl rfl) rfl) (EN ha (.tmp rfl rfl) rfl) rfl rfl rfl rfl rfl) (fun _ => ?_)
   refine du ?_
   refine K_draw [0, 1, 2, 3, 4, 5, 6, 7, 8, 9, 10, 11, 12, 13, 14, 15] [0, 0, 0, 6, 14, 30, 63, 127, 0, 0, 768, 1792, 3840, 0, 16383, 32767] [14] mixed (by decide +kernel) ?_
   iterate 3 refine du ?_
   refine Di hx1958 (fun k1972 j1973 => ?_)
   refine du ?_
   refine Dl ls141_0 ?_
   obtain ⟨x1974, hx1975, hF⟩ := bind_some hF
   obtain ⟨hp1976, hx1977⟩ := ix_some hx1975
   refine Di hx1977 (fun k1978 j1979 => ?_)
   refine DlA1 (ul77_0_77 x1974) la77_0_77 (fun p1980 => ?_)
   iterate 2 refine du ?_
   refine Di hx1958 (fun k1981 j1982 => ?_)
   refine du ?_
   refine D_ldV (R' := (RdS 3 rdInt)) ag22.h rfl .no (.tmp rfl rfl) rfl .h lv141_1 (fun w1983 => ?_)
   refine du ?_
   obtain ⟨r1984, hx1985, hF⟩ := bind_some hF
   refine Dx1 (s_l5Matches_ok _ _ _ _ _ _ _ hx1985) (fun p1986 => ?_)
   iterate 2 refine du ?_
   iterate 3 refine au ?_
   refine CW_block (K_frz .h frz_own ?_)
   refine CW_loop (m := r1984.length) (fun m2162 f' cs' => ∃ (g : Fr) (k2164 : Nat) (rest2165 : List Fact) (c2156 : List Fact) (c2159 : List Int) (v2157 : Sv) (F2158 : List Nat) (v2160 : Sv), m2162 = rest2165.length ∧ f' = updL g [(0, v0_0.v), (1, v1_0.v), (5, (.pointer (some ⟨k1, 0, some 0⟩))), (6, (.pointer (some ⟨k2, 0, some 0⟩))), (8, (.pointer (some ⟨k6, 0, some 0⟩))), (9, p9.1.v), (10, (.int .i64 (k1953 : Int))), (11, p1986.1.v), (12, (.int .i64 (k2164 : Int)))] ∧ List.drop k2164 r1984 = rest2165 ∧ Ent cs' [crd (RdS 77 rd77) v0_0.v a_l, crd (RdS 80 rd80) v1_0.v a_facts, cboR k1 73 (.agg [v2_0.v, v2_1.v, v2_2.v, (.int .i64 a_r.Rounds)].toArray), crd (RdS 80 rd80) v2_0.v a_r.Facts, crd (RdS 3 rdInt) v2_1.v a_r.Values, crd (RdS 141 rd141) v2_2.v a_r.Log, cbox k2 73 (.agg [(.slice none 0 0), (.slice none 0 0), (.slice none 0 0), (.int .i64 0)].toArray), cbox k6 73 (.agg [v2157.v, v2160.v, p1971.1.v, (.int .i64 r3.Rounds)].toArray), cown (OwnS 80 ow80) F2158 v2157.v c2156, crd (RdS 3 rdInt) v2160.v c2159, cown (OwnS 141 (roE rd141)) p1971.2 p1971.1.v z1969, crd (RdS 141 rd141) p9.1.v r7, crd (RdS 80 rd80) p1986.1.v r1984] ∧ s_l8Step_L21 z1969 rest2165 k2164 c2156 c2159 = some o1963) ⟨_, 0, _, _, _, v1943, F1944, v1946, rfl, eqA, rfl, entA, hF⟩ ?_
   clear hF
   rintro m2162 _ _ ⟨g2163, k2164, rest2165, c2156, c2159, v2157, F2158, v2160, rfl, rfl, hd2167, hE, hF⟩
   refine K_ent hE ?_
   clear hE
   refine K_pure (c := crd (RdS 80 rd80) p1986.1.v r1984) (.t (.t (.t (.t (.t (.t (.t (.t (.t (.t (.t (.t .h)))))))))))) crd_bound (fun hbd2172 => ?_)
   rcases rest2165 with _ | ⟨x2166, rest2165⟩
   · have hk2168 := List.drop_eq_nil_iff.1 hd2167
     rw [s_l8Step_L21] at hF
     iterate 7 refine au ?_
     refine CdF ?_
     iterate 4 refine au ?_
     cases hF
     exact ⟨_, _, _, v2157, F2158, v2160, p1971.1, p1971.2, _, rfl, eqA, entA⟩
   obtain ⟨hk2168, hx2169, hd2170⟩ := drop_cons hd2167
   rw [s_l8Step_L21] at hF
   iterate 7 refine au ?_
   refine CdT ?_
   refine au ?_
   obtain ⟨o2173, hio2173, hO2174⟩ := bind_some hF
   refine K_cut (fun f' cs' => ∃ (c2232 : List Fact) (c2235 : List Int) (v2233 : Sv) (F2234 : List Nat) (v2236 : Sv) (g : Fr), o2173 = (c2232, c2235) ∧ f' = updL g [(0, v0_0.v), (1, v1_0.v), (5, (.pointer (some ⟨k1, 0, some 0⟩))), (6, (.pointer (some ⟨k2, 0, some 0⟩))), (8, (.pointer (some ⟨k6, 0, some 0⟩))), (9, p9.1.v), (10, (.int .i64 (k1953 : Int))), (11, p1986.1.v), (12, (.int .i64 (k2164 : Int)))] ∧ Ent cs' [crd (RdS 77 rd77) v0_0.v a_l, crd (RdS 80 rd80) v1_0.v a_facts, cboR k1 73 (.agg [v2_0.v, v2_1.v, v2_2.v, (.int .i64 a_r.Rounds)].toArray), crd (RdS 80 rd80) v2_0.v a_r.Facts, crd (RdS 3 rdInt) v2_1.v a_r.Values, crd (RdS 141 rd141) v2_2.v a_r.Log, cbox k2 73 (.agg [(.slice none 0 0), (.slice none 0 0), (.slice none 0 0), (.int .i64 0)].toArray), cbox k6 73 (.agg [v2233.v, v2236.v, p1971.1.v, (.int .i64 r3.Rounds)].toArray), cown (OwnS 80 ow80) F2234 v2233.v c2232, crd (RdS 3 rdInt) v2236.v c2235, cown (OwnS 141 (roE rd141)) p1971.2 p1971.1.v z1969, crd (RdS 141 rd141) p9.1.v r7, crd (RdS 80 rd80) p1986.1.v r1984]) ?_ ?_
   · replace hF := hio2173
     refine CW_block (K_draw [0, 1, 2, 3, 4, 5, 6, 7, 8] [0, 1, 0, 0, 12, 28, 63, 127, 255] [6, 8] mixed (by decide +kernel) ?_)
     refine du ?_
     refine D_atO rfl .no (.t (.t (.t (.t (.t (.t (.t .h))))))) (fun ha hp => V_load (v := v2157.v) ag40.h (EN ha (.tmp rfl rfl) rfl) hp.2 rfl rfl) ?_
     iterate 2 refine du ?_
     refine Di hx2169 (fun k2175 j2176 => ?_)
     refine DlA1 (ul80_0_80 x2166) la80_0_80 (fun p2177 => ?_)
     obtain ⟨r2178, hx2179, hF⟩ := bind_some hF
     refine D_act2 rfl rfl .no (.cons (.t (.t (.t (.t (.t (.t (.t (.t (.t (.t .h)))))))))) (.rd .h rfl .nil)) (.dep rfl .nil) (fun ha => XC_bor frz_own (fun _ => (.cons .nil)) (X_callS cf147.h (.cons (EN ha (.tmp rfl rfl) rfl) (.cons (EN ha (.tmp rfl rfl) rfl) .nil)) (s_AddFact_ok c2156 v2157 x2166 p2177 _ hx2179))) (fun p2180 => ?_)
     refine du ?_
     refine D_act1 rfl rfl .no (.cons (.t (.t (.t (.t (.t (.t (.t (.t (.t (.t (.t .h))))))))))) .nil) (.dep rfl .nil) (fun ha => X_storeB (e' := (.agg [p2180.1.v, v2160.v, p1971.1.v, (.int .i64 r3.Rounds)].toArray)) ty40.h.sz (EN ha (.tmp rfl rfl) rfl) (EN ha (.tmp rfl rfl) rfl) rfl rfl rfl rfl rfl) (fun _ => ?_)
     refine du ?_
     iterate 3 refine au ?_
     refine CW_block (CW_loop (m := (((x2166.Values.length : Int) - 0).toNat + 2)) (fun m2208 f' cs' => ∃ (g : Fr) (c2205 : List Int) (c2207 : Int) (v2206 : Sv), f' = updL g [(0, v0_0.v), (1, v1_0.v), (5, (.pointer (some ⟨k1, 0, some 0⟩))), (6, (.pointer (some ⟨k2, 0, some 0⟩))), (8, (.pointer (some ⟨k6, 0, some 0⟩))), (9, p9.1.v), (10, (.int .i64 (k1953 : Int))), (11, p1986.1.v), (12, (.int .i64 (k2164 : Int))), (13, (.int .i64 c2207))] ∧ Ent cs' [crd (RdS 77 rd77) v0_0.v a_l, crd (RdS 80 rd80) v1_0.v a_facts, cboR k1 73 (.agg [v2_0.v, v2_1.v, v2_2.v, (.int .i64 a_r.Rounds)].toArray), crd (RdS 80 rd80) v2_0.v a_r.Facts, crd (RdS 3 rdInt) v2_1.v a_r.Values, crd (RdS 141 rd141) v2_2.v a_r.Log, cbox k2 73 (.agg [(.slice none 0 0), (.slice none 0 0), (.slice none 0 0), (.int .i64 0)].toArray), cbox k6 73 (.agg [p2180.1.v, v2206.v, p1971.1.v, (.int .i64 r3.Rounds)].toArray), cown (OwnS 80 ow80) p2180.2 p2180.1.v r2178, crd (RdS 3 rdInt) v2206.v c2205, cown (OwnS 141 (roE rd141)) p1971.2 p1971.1.v z1969, crd (RdS 141 rd141) p9.1.v r7, crd (RdS 80 rd80) p1986.1.v r1984] ∧ s_l8Step_L24 x2166 r2178 m2208 c2205 c2207 = some o2173) ⟨_, _, _, v2160, eqA, entA, hF⟩ ?_)
     clear hF
     rintro m2208 _ _ ⟨g2209, c2205, c2207, v2206, rfl, hE, hF⟩
     refine K_ent hE ?_
     clear hE
     rcases m2208 with _ | m2208
     · rw [s_l8Step_L24] at hF
       exact absurd hF (by simp)
     rw [s_l8Step_L24] at hF
     iterate 5 refine au ?_
     refine Ai hx2169 (fun k2216 j2217 => ?_)
     refine au ?_
     refine C_ldV (R' := (RdS 3 rdInt)) ag22.h (.tmp rfl rfl) .h lv80_1 (fun w2218 => ?_)
     iterate 3 refine au ?_
     refine Cc (fun hb2231 => ?_) (fun hb2231 => ?_)
     · rw [if_pos hb2231] at hF
       iterate 2 refine au ?_
       refine CW_draw [0, 1, 2, 3, 4, 5, 6, 7, 8, 9, 10, 11, 12] [0, 1, 0, 0, 12, 28, 60, 0, 252, 508, 1023, 2047, 4095] [10, 12] mixed (by decide +kernel) ?_
       refine du ?_
       refine D_atO rfl .no (.t (.t (.t (.t (.t (.t (.t (.t (.t .h))))))))) (fun ha hp => V_load (v := v2206.v) ag22.h (EN ha (.tmp rfl rfl) rfl) hp.2 rfl rfl) ?_
       iterate 2 refine du ?_
       refine Di hx2169 (fun k2219 j2220 => ?_)
       refine du ?_
       refine D_ldV (R' := (RdS 3 rdInt)) ag22.h rfl .no (.tmp rfl rfl) rfl .h lv80_1 (fun w2221 => ?_)
       refine du ?_
       obtain ⟨x2222, hx2223, hF⟩ := bind_some hF
       obtain ⟨hp2224, hx2225⟩ := ix_some hx2223
       refine Di hx2225 (fun k2226 j2227 => ?_)
       refine Dl ls3_0 ?_
       obtain ⟨r2228, hx2229, hF⟩ := bind_some hF
       refine Dx1 (s_l3Put_ok _ _ _ _ hx2229) (fun p2230 => ?_)
       refine du ?_
       refine D_act1 rfl rfl .no (.cons (.t (.t (.t (.t (.t (.t (.t (.t (.t (.t (.t (.t (.t .h))))))))))))) .nil) (.dep rfl .nil) (fun ha => X_storeB (e' := (.agg [p2180.1.v, p2230.v, p1971.1.v, (.int .i64 r3.Rounds)].toArray)) ty22.h.sz (EN ha (.tmp rfl rfl) rfl) (EN ha (.tmp rfl rfl) rfl) rfl rfl rfl rfl rfl) (fun _ => ?_)
       refine du ?_
       iterate 5 refine au ?_
       exact ⟨m2208, Nat.lt_succ_self _, _, _, _, p2230, eqA, entA, hF⟩
     rw [if_neg (nt hb2231)] at hF
     iterate 4 refine au ?_
     cases hF
     exact ⟨_, _, p2180.1, p2180.2, v2206, _, rfl, eqA, entA⟩
   rintro _ _ ⟨c2232, c2235, v2233, F2234, v2236, g2238, rfl, rfl, hE⟩
   replace hF := hO2174
   clear hO2174
   try dsimp only at hF
   refine K_ent hE ?_
   iterate 5 refine au ?_
   rw [wk k2164]
   exact ⟨_, Nat.lt_succ_self _, _, k2164 + 1, rest2165, _, _, v2233, F2234, v2236, rfl, eqA, hd2170, entA, hF⟩
 rintro _ _ ⟨c2239, c2242, c2244, v2240, F2241, v2243, v2245, F2246, g2248, rfl, rfl, hE⟩
 replace hF := hO1964
 clear hO1964
 try dsimp only at hF
 refine K_ent hE ?_
 iterate 5 refine au ?_
 rw [wk k1953]
 exact ⟨_, Nat.lt_succ_self _, _, k1953 + 1, rest1954, _, _, _, v2240, F2241, v2243, v2245, F2246, rfl, eqA, hd1959, entA, hF⟩
def s_StepReach (a_s : List Int) (a_l : List Method) (a_facts : List Fact) (a_r : Reached) : Option (Reached × Bool) :=
 ((s_AreMethods a_s a_l).bind fun r5 =>
   bif (!r5) then (some true)
   else ((s_AreFacts a_s a_facts).bind fun r9 =>
     bif (!r9) then (some true)
     else ((s_l8Values a_r.Values).bind fun r13 =>
       bif (!r13) then (some true)
       else ((s_AreFacts a_s a_r.Facts).bind fun r17 =>
         bif (!r17) then (some true)
         else ((s_l1In a_r.Rounds 0 100).bind fun r21 =>
           some (!r21)))))).bind fun o3 =>
 match o3 with
 | c24 => if c24 then (
     (s_l8Copy a_r).bind fun r25 =>
     some (r25, false))
   else (
     (s_l8Step a_l a_facts a_r).bind fun r28 =>
     some (r28.1, r28.2))
theorem s_StepReach_ok (a_s : List Int) (v0_0 : Sv) (a_l : List Method) (v1_0 : Sv) (a_facts : List Fact) (v2_0 : Sv) (a_r : Reached) (v3_0 : Sv) (v3_1 : Sv) (v3_2 : Sv) (R : Reached × Bool) (hF : s_StepReach a_s a_l a_facts a_r = some R) :
   Fw.Spec Tryz.prog 70 [v0_0.v, v1_0.v, v2_0.v, (.agg [v3_0.v, v3_1.v, v3_2.v, (.int .i64 a_r.Rounds)].toArray)] [crd (RdS 3 rdInt) v0_0.v a_s, crd (RdS 77 rd77) v1_0.v a_l, crd (RdS 80 rd80) v2_0.v a_facts, crd (RdS 80 rd80) v3_0.v a_r.Facts, crd (RdS 3 rdInt) v3_1.v a_r.Values, crd (RdS 141 rd141) v3_2.v a_r.Log] (fun p : Sv × List Nat × Sv × Sv => (.tuple [(.agg [p.1.v, p.2.2.1.v, p.2.2.2.v, (.int .i64 R.1.Rounds)].toArray), (.bool R.2)].toArray)) (fun p => [cown (OwnS 80 ow80) p.2.1 p.1.v R.1.Facts, crd (RdS 3 rdInt) p.2.2.1.v R.1.Values, crd (RdS 141 rd141) p.2.2.2.v R.1.Log]) := by
 refine Spec_enter (n := 52) Tryz.func70 rfl rfl (rs := [.cell 8 73, .tmp 9]) rfl rfl rfl ?_
 intro H0 F0
 unfold s_StepReach at hF
 refine au ?_
 refine AbR (fun k1 => ?_)
 refine AnW (fun k2 => ?_)
 iterate 3 refine au ?_
 obtain ⟨o3, hio3, hO4⟩ := bind_some hF
 refine au ?_
 refine C_cut (fun f' cs' => ∃ (c24 : Bool) (g : Fr), c24 = o3 ∧ f' = updL g [(1, v1_0.v), (2, v2_0.v), (7, (.pointer (some ⟨k1, 0, some 0⟩))), (8, (.pointer (some ⟨k2, 0, some 0⟩))), (40, (.bool c24))] ∧ Ent cs' [crd (RdS 77 rd77) v1_0.v a_l, crd (RdS 80 rd80) v2_0.v a_facts, cboR k1 73 (.agg [v3_0.v, v3_1.v, v3_2.v, (.int .i64 a_r.Rounds)].toArray), crd (RdS 80 rd80) v3_0.v a_r.Facts, crd (RdS 3 rdInt) v3_1.v a_r.Values, crd (RdS 141 rd141) v3_2.v a_r.Log, cbox k2 73 (.agg [(.slice none 0 0), (.slice none 0 0), (.slice none 0 0), (.int .i64 0)].toArray)]) ?_ ?_
 · replace hF := hio3
   iterate 2 refine au ?_
   obtain ⟨r5, hx6, hF⟩ := bind_some hF
   refine Cx0 (s_AreMethods_ok _ _ _ _ _ hx6) (fun _ => ?_)
   iterate 2 refine au ?_
   rcases Bool.eq_false_or_eq_true (!r5) with hg8 | hg8
   · rw [hg8]
     try rw [hg8] at hF; dsimp only [cond_true, cond_false] at hF
     iterate 25 refine au ?_
     cases hF
     exact ⟨_, _, rfl, eqA, entA⟩
   rw [hg8]
   try rw [hg8] at hF; dsimp only [cond_true, cond_false] at hF
   iterate 5 refine au ?_
   obtain ⟨r9, hx10, hF⟩ := bind_some hF
   refine Cx0 (s_AreFacts_ok _ _ _ _ _ hx10) (fun _ => ?_)
   iterate 4 refine au ?_
   rcases Bool.eq_false_or_eq_true (!r9) with hg12 | hg12
   · rw [hg12]
     try rw [hg12] at hF; dsimp only [cond_true, cond_false] at hF
     iterate 19 refine au ?_
     cases hF
     exact ⟨_, _, rfl, eqA, entA⟩
   rw [hg12]
   try rw [hg12] at hF; dsimp only [cond_true, cond_false] at hF
   iterate 5 refine au ?_
   obtain ⟨r13, hx14, hF⟩ := bind_some hF
   refine Cx0 (s_l8Values_ok _ _ _ hx14) (fun _ => ?_)
   iterate 4 refine au ?_
   rcases Bool.eq_false_or_eq_true (!r13) with hg16 | hg16
   · rw [hg16]
     try rw [hg16] at hF; dsimp only [cond_true, cond_false] at hF
     iterate 13 refine au ?_
     cases hF
     exact ⟨_, _, rfl, eqA, entA⟩
   rw [hg16]
   try rw [hg16] at hF; dsimp only [cond_true, cond_false] at hF
   iterate 7 refine au ?_
   obtain ⟨r17, hx18, hF⟩ := bind_some hF
   refine Cx0 (s_AreFacts_ok _ _ _ _ _ hx18) (fun _ => ?_)
   iterate 4 refine au ?_
   rcases Bool.eq_false_or_eq_true (!r17) with hg20 | hg20
   · rw [hg20]
     try rw [hg20] at hF; dsimp only [cond_true, cond_false] at hF
     iterate 6 refine au ?_
     cases hF
     exact ⟨_, _, rfl, eqA, entA⟩
   rw [hg20]
   try rw [hg20] at hF; dsimp only [cond_true, cond_false] at hF
   iterate 5 refine au ?_
   obtain ⟨r21, hx22, hF⟩ := bind_some hF
   refine Cx0 (s_l1In_ok _ _ _ _ hx22) (fun _ => ?_)
   iterate 4 refine au ?_
   cases hF
   exact ⟨_, _, rfl, eqA, entA⟩
 rintro _ _ ⟨c24, g33, rfl, rfl, hE⟩
 replace hF := hO4
 clear hO4
 try dsimp only at hF
 refine K_ent hE ?_
 refine Cc (fun hb32 => ?_) (fun hb32 => ?_)
 · rw [if_pos hb32] at hF
   iterate 2 refine au ?_
   obtain ⟨r25, hx26, hF⟩ := bind_some hF
   refine Cx3 (s_l8Copy_ok _ _ _ _ _ hx26) (fun p27 => ?_)
   refine As (.agg [p27.1.v, p27.2.2.1.v, p27.2.2.2.2.1.v, (.int .i64 r25.Rounds)].toArray) ?_
   iterate 3 refine au ?_
   cases hF
   exact End_ret (p27.1, p27.2.1, p27.2.2.1, p27.2.2.2.2.1) (.cellA rfl rfl .h rfl ag73.h ty73.h.sz rfl rfl (.tmp rfl rfl .nil)) rfl (.frz (.t (.t .h)) frz_own (.frz (.t (.t (.t .h))) frz_own (.sel (.cons (.t (.t (.t .h))) (.rd (.t .h) rfl (.rd .h rfl .nil))))))
 rw [if_neg (nt hb32)] at hF
 iterate 5 refine au ?_
 obtain ⟨r28, hx29, hF⟩ := bind_some hF
 refine Cx3 (s_l8Step_ok _ _ _ _ _ _ _ _ _ hx29) (fun p30 => ?_)
 refine au ?_
 refine C_val (V_extract (l := [(.agg [p30.1.v, p30.2.2.1.v, p30.2.2.2.v, (.int .i64 r28.1.Rounds)].toArray), (.bool r28.2)]) (v := (.agg [p30.1.v, p30.2.2.1.v, p30.2.2.2.v, (.int .i64 r28.1.Rounds)].toArray)) (.tmp rfl rfl) rfl) ?_
 refine C_val (V_extract (l := [(.agg [p30.1.v, p30.2.2.1.v, p30.2.2.2.v, (.int .i64 r28.1.Rounds)].toArray), (.bool r28.2)]) (v := (.bool r28.2)) (.tmp rfl rfl) rfl) ?_
 refine AnW (fun k31 => ?_)
 refine As (.agg [p30.1.v, p30.2.2.1.v, p30.2.2.2.v, (.int .i64 r28.1.Rounds)].toArray) ?_
 iterate 5 refine au ?_
 refine As (.agg [p30.1.v, p30.2.2.1.v, p30.2.2.2.v, (.int .i64 r28.1.Rounds)].toArray) ?_
 iterate 3 refine au ?_
 cases hF
 exact End_ret (p30.1, p30.2.1, p30.2.2.1, p30.2.2.2) (.cellA rfl rfl .h rfl ag73.h ty73.h.sz rfl rfl (.tmp rfl rfl .nil)) rfl (.sel (.cons (.t (.t .h)) (.rd (.t (.t .h)) rfl (.rd (.t (.t (.t .h))) rfl .nil))))
def s_ReachAll_L1 (a_s : List Int) (a_l : List Method) (a_facts : List Fact) : Nat → (List Fact) → (List Int) → (List Access) → Int → Int → Option (Reached)
 | 0, _, _, _, _, _ => none
 | m50 + 1, c41, c44, c46, c48, c49 => if (decide ((c49 : Int) < 40)) then (
     (s_StepReach a_s a_l a_facts ({ Facts := c41, Values := c44, Log := c46, Rounds := c48 } : Reached)).bind fun r58 =>
     if (!r58.2) then (
       some ({ Facts := c41, Values := c44, Log := c46, Rounds := c48 } : Reached))
     else (
       s_ReachAll_L1 a_s a_l a_facts m50 r58.1.Facts r58.1.Values r58.1.Log r58.1.Rounds (IntKind.i64.wrap (c49 + 1))))
   else (
     some ({ Facts := c41, Values := c44, Log := c46, Rounds := c48 } : Reached))
def s_ReachAll (a_s : List Int) (a_l : List Method) (a_facts : List Fact) (a_seeds : List Int) : Option (Reached) :=
 (s_StartReach a_seeds).bind fun r2 =>
 s_ReachAll_L1 a_s a_l a_facts (((40 : Int) - 0).toNat + 2) r2.Facts r2.Values r2.Log r2.Rounds 0
theorem s_ReachAll_ok (a_s : List Int) (v0_0 : Sv) (a_l : List Method) (v1_0 : Sv) (a_facts : List Fact) (v2_0 : Sv) (a_seeds : List Int) (v3_0 : Sv) (R : Reached) (hF : s_ReachAll a_s a_l a_facts a_seeds = some R) :
   Fw.Spec Tryz.prog 39 [v0_0.v, v1_0.v, v2_0.v, v3_0.v] [crd (RdS 3 rdInt) v0_0.v a_s, crd (RdS 77 rd77) v1_0.v a_l, crd (RdS 80 rd80) v2_0.v a_facts, crd (RdS 3 rdInt) v3_0.v a_seeds] (fun p : Sv × Sv × Sv => (.agg [p.1.v, p.2.1.v, p.2.2.v, (.int .i64 R.Rounds)].toArray)) (fun p => [crd (RdS 80 rd80) p.1.v R.Facts, crd (RdS 3 rdInt) p.2.1.v R.Values, crd (RdS 141 rd141) p.2.2.v R.Log]) := by
 refine Spec_enter (n := 32) Tryz.func39 rfl rfl (rs := [.cell 8 73]) rfl rfl rfl ?_
 intro H0 F0
 unfold s_ReachAll at hF
 refine au ?_
 refine AnW (fun k1 => ?_)
 iterate 3 refine au ?_
 obtain ⟨r2, hx3, hF⟩ := bind_some hF
 refine Cx3 (s_StartReach_ok _ _ _ hx3) (fun p4 => ?_)
 refine AnW (fun k5 => ?_)
 refine As (.agg [p4.1.v, p4.2.2.1.v, p4.2.2.2.1.v, (.int .i64 r2.Rounds)].toArray) ?_
 iterate 5 refine au ?_
 refine CW_block (CW_loop (m := (((40 : Int) - 0).toNat + 2)) (fun m50 f' cs' => ∃ (g : Fr) (c41 : List Fact) (c44 : List Int) (c46 : List Access) (c48 : Int) (c49 : Int) (v42 : Sv) (F43 : List Nat) (v45 : Sv) (v47 : Sv), f' = updL g [(0, v0_0.v), (1, v1_0.v), (2, v2_0.v), (8, (.pointer (some ⟨k1, 0, some 0⟩))), (9, (.pointer (some ⟨k5, 0, some 0⟩))), (10, (.int .i64 c49))] ∧ Ent cs' [crd (RdS 3 rdInt) v0_0.v a_s, crd (RdS 77 rd77) v1_0.v a_l, crd (RdS 80 rd80) v2_0.v a_facts, cbox k1 73 (.agg [(.slice none 0 0), (.slice none 0 0), (.slice none 0 0), (.int .i64 0)].toArray), cbox k5 73 (.agg [v42.v, v45.v, v47.v, (.int .i64 c48)].toArray), cown (OwnS 80 ow80) F43 v42.v c41, crd (RdS 3 rdInt) v45.v c44, crd (RdS 141 rd141) v47.v c46] ∧ s_ReachAll_L1 a_s a_l a_facts m50 c41 c44 c46 c48 c49 = some R) ⟨_, _, _, _, _, _, p4.1, p4.2.1, p4.2.2.1, p4.2.2.2.1, eqA, (.frz (.t (.t (.t .h))) frz_own entA), hF⟩ ?_)
 clear hF
 rintro m50 _ _ ⟨g51, c41, c44, c46, c48, c49, v42, F43, v45, v47, rfl, hE, hF⟩
 refine K_ent hE ?_
 clear hE
 rcases m50 with _ | m50
 · rw [s_ReachAll_L1] at hF
   exact absurd hF (by simp)
 rw [s_ReachAll_L1] at hF
 iterate 5 refine au ?_
 refine Cc (fun hb63 => ?_) (fun hb63 => ?_)
 · rw [if_pos hb63] at hF
   iterate 2 refine au ?_
   refine K_frz (.t (.t (.t (.t (.t .h))))) frz_own ?_
   iterate 5 refine au ?_
   obtain ⟨r58, hx59, hF⟩ := bind_some hF
   refine Cx3 (s_StepReach_ok _ _ _ _ _ _ _ _ _ _ _ hx59) (fun p60 => ?_)
   refine au ?_
   refine C_val (V_extract (l := [(.agg [p60.1.v, p60.2.2.1.v, p60.2.2.2.v, (.int .i64 r58.1.Rounds)].toArray), (.bool r58.2)]) (v := (.agg [p60.1.v, p60.2.2.1.v, p60.2.2.2.v, (.int .i64 r58.1.Rounds)].toArray)) (.tmp rfl rfl) rfl) ?_
   refine C_val (V_extract (l := [(.agg [p60.1.v, p60.2.2.1.v, p60.2.2.2.v, (.int .i64 r58.1.Rounds)].toArray), (.bool r58.2)]) (v := (.bool r58.2)) (.tmp rfl rfl) rfl) ?_
   refine AnW (fun k61 => ?_)
   refine As (.agg [p60.1.v, p60.2.2.1.v, p60.2.2.2.v, (.int .i64 r58.1.Rounds)].toArray) ?_
   iterate 7 refine au ?_
   refine Cc (fun hb62 => ?_) (fun hb62 => ?_)
   · rw [if_pos hb62] at hF
     iterate 2 refine au ?_
     refine As (.agg [v42.v, v45.v, v47.v, (.int .i64 c48)].toArray) ?_
     iterate 2 refine au ?_
     cases hF
     exact Er (v42, v45, v47)
   rw [if_neg (nt hb62)] at hF
   iterate 3 refine au ?_
   refine As (.agg [p60.1.v, p60.2.2.1.v, p60.2.2.2.v, (.int .i64 r58.1.Rounds)].toArray) ?_
   iterate 6 refine au ?_
   exact ⟨m50, Nat.lt_succ_self _, _, _, _, _, _, _, p60.1, p60.2.1, p60.2.2.1, p60.2.2.2, eqA, entA, hF⟩
 rw [if_neg (nt hb63)] at hF
 iterate 6 refine au ?_
 refine As (.agg [v42.v, v45.v, v47.v, (.int .i64 c48)].toArray) ?_
 iterate 2 refine au ?_
 cases hF
 exact End_ret (v42, v45, v47) (.cellA rfl rfl .h rfl ag73.h ty73.h.sz rfl rfl .nil) rfl (.frz (.t (.t (.t (.t (.t .h))))) frz_own (.sel (.rd .h rfl (.rd (.t (.t (.t (.t (.t (.t .h)))))) rfl (.rd (.t (.t (.t (.t (.t (.t (.t .h))))))) rfl .nil)))))
def s_MaximalAnswers (a_s : List Int) (a_l : List Method) (a_q : Query) (a_facts : List Fact) : Option ((List (List Int))) :=
 ((s_l6Fine a_s a_l a_q).bind fun r4 =>
   bif (!r4) then (some true)
   else ((s_AreFacts a_s a_facts).bind fun r8 =>
     some (!r8))).bind fun o2 =>
 match o2 with
 | c11 => if c11 then (
     some ([] : List (List Int)))
   else (
     (s_ConstantsOf a_q).bind fun r13 =>
     (s_ReachAll a_s a_l a_facts r13).bind fun r16 =>
     (s_AnswersOf a_s a_q r16.Facts).bind fun r20 =>
     some r20)
theorem s_MaximalAnswers_ok (a_s : List Int) (v0_0 : Sv) (a_l : List Method) (v1_0 : Sv) (a_q : Query) (v2_0 : Sv) (v2_1 : Sv) (a_facts : List Fact) (v3_0 : Sv) (R : (List (List Int))) (hF : s_MaximalAnswers a_s a_l a_q a_facts = some R) :
   Fw.Spec Tryz.prog 9 [v0_0.v, v1_0.v, (.agg [v2_0.v, v2_1.v].toArray), v3_0.v] [crd (RdS 3 rdInt) v0_0.v a_s, crd (RdS 77 rd77) v1_0.v a_l, crd (RdS 3 rdInt) v2_0.v a_q.Head, crd (RdS 102 rd102) v2_1.v a_q.Atoms, crd (RdS 80 rd80) v3_0.v a_facts] (fun p : Sv × List Nat => p.1.v) (fun p => [cown (OwnS 22 (OwnS 3 (roE rdInt))) p.2 p.1.v R]) := by
 refine Spec_enter (n := 33) Tryz.func9 rfl rfl (rs := [.tmp 8]) rfl rfl rfl ?_
 intro H0 F0
 unfold s_MaximalAnswers at hF
 refine au ?_
 refine AbR (fun k1 => ?_)
 iterate 3 refine au ?_
 obtain ⟨o2, hio2, hO3⟩ := bind_some hF
 refine au ?_
 refine C_cut (fun f' cs' => ∃ (c11 : Bool) (g : Fr), c11 = o2 ∧ f' = updL g [(0, v0_0.v), (1, v1_0.v), (3, v3_0.v), (6, (.pointer (some ⟨k1, 0, some 0⟩))), (20, (.bool c11))] ∧ Ent cs' [crd (RdS 3 rdInt) v0_0.v a_s, crd (RdS 77 rd77) v1_0.v a_l, crd (RdS 80 rd80) v3_0.v a_facts, cboR k1 38 (.agg [v2_0.v, v2_1.v].toArray), crd (RdS 3 rdInt) v2_0.v a_q.Head, crd (RdS 102 rd102) v2_1.v a_q.Atoms]) ?_ ?_
 · replace hF := hio2
   iterate 3 refine au ?_
   obtain ⟨r4, hx5, hF⟩ := bind_some hF
   refine Cx0 (s_l6Fine_ok _ _ _ _ _ _ _ _ hx5) (fun _ => ?_)
   iterate 2 refine au ?_
   rcases Bool.eq_false_or_eq_true (!r4) with hg7 | hg7
   · rw [hg7]
     try rw [hg7] at hF; dsimp only [cond_true, cond_false] at hF
     iterate 6 refine au ?_
     cases hF
     exact ⟨_, _, rfl, eqA, entA⟩
   rw [hg7]
   try rw [hg7] at hF; dsimp only [cond_true, cond_false] at hF
   iterate 5 refine au ?_
   obtain ⟨r8, hx9, hF⟩ := bind_some hF
   refine Cx0 (s_AreFacts_ok _ _ _ _ _ hx9) (fun _ => ?_)
   iterate 4 refine au ?_
   cases hF
   exact ⟨_, _, rfl, eqA, entA⟩
 rintro _ _ ⟨c11, g24, rfl, rfl, hE⟩
 replace hF := hO3
 clear hO3
 try dsimp only at hF
 refine K_ent hE ?_
 refine Cc (fun hb23 => ?_) (fun hb23 => ?_)
 · rw [if_pos hb23] at hF
   refine au ?_
   refine C_new rfl (N_buildSliceT (g := true) sl31.h ty22.h .nil (vs := []) rfl rfl rfl (by simp)) (fun k12 => ?_)
   refine Cv1 (.cons .h .nil) (own_lit (Ro := (OwnS 3 (roE rdInt))) (E := 22) (F := []) (xs := ([] : List (List Int))) MkL_nil rfl rfl) ?_
   iterate 3 refine au ?_
   cases hF
   exact Er (⟨(some ⟨k12, 0, none⟩), 0, 1⟩, (k12 :: []))
 rw [if_neg (nt hb23)] at hF
 iterate 6 refine au ?_
 obtain ⟨r13, hx14, hF⟩ := bind_some hF
 refine Cx1 (s_ConstantsOf_ok _ _ _ _ hx14) (fun p15 => ?_)
 obtain ⟨r16, hx17, hF⟩ := bind_some hF
 refine Cx3 (s_ReachAll_ok _ _ _ _ _ _ _ _ _ hx17) (fun p18 => ?_)
 refine AnW (fun k19 => ?_)
 refine As (.agg [p18.1.v, p18.2.1.v, p18.2.2.v, (.int .i64 r16.Rounds)].toArray) ?_
 iterate 6 refine au ?_
 obtain ⟨r20, hx21, hF⟩ := bind_some hF
 refine Cx1 (s_AnswersOf_ok _ _ _ _ _ _ _ _ hx21) (fun p22 => ?_)
 iterate 3 refine au ?_
 cases hF
 exact Er (p22.1, p22.2)
def s_LostAnswers_L4 (r3 : (List (List Int))) (c263 : List (List Int)) (c266 : Int) : List (List Int) → Nat → Bool → Option ((List (List Int)))
 | [], k288, c284 => if (!c284) then (
     (ix r3 c266).bind fun x297 =>
     (app c263 ([x297] : List (List Int))).bind fun z305 =>
     some z305)
   else (
     some c263)
 | x290 :: rest289, k288, c284 => (bif c284 then (some true)
     else ((ix r3 c266).bind fun x312 =>
       (s_l2Ints x312 x290).bind fun r322 =>
       some r322)).bind fun o309 =>
   match o309 with
   | c325 => s_LostAnswers_L4 r3 c263 c266 rest289 (k288 + 1) c325
def s_LostAnswers_L1 (a_s : List Int) (a_l : List Method) (r3 : (List (List Int))) (r6 : (List (List Int))) : Nat → (List (List Int)) → Int → Option ((List (List Int)))
 | 0, _, _ => none
 | m267 + 1, c263, c266 => (bif (decide ((c266 : Int) < (r3.length : Int))) then ((s_AreMethods a_s a_l).bind fun r278 =>
       some r278)
     else (some false)).bind fun o275 =>
   match o275 with
   | c281 => if c281 then (
       (s_LostAnswers_L4 r3 c263 c266 r6 0 false).bind fun o282 =>
       match o282 with
       | c328 => s_LostAnswers_L1 a_s a_l r3 r6 m267 c328 (IntKind.i64.wrap (c266 + 1)))
     else (
       some c263)
def s_LostAnswers (a_s : List Int) (a_l : List Method) (a_q : Query) (a_facts : List Fact) : Option ((List (List Int))) :=
 (s_AnswersOf a_s a_q a_facts).bind fun r3 =>
 (s_MaximalAnswers a_s a_l a_q a_facts).bind fun r6 =>
 s_LostAnswers_L1 a_s a_l r3 r6 (((r3.length : Int) - 0).toNat + 2) ([] : List (List Int)) 0
theorem s_LostAnswers_ok (a_s : List Int) (v0_0 : Sv) (a_l : List Method) (v1_0 : Sv) (a_q : Query) (v2_0 : Sv) (v2_1 : Sv) (a_facts : List Fact) (v3_0 : Sv) (R : (List (List Int))) (hF : s_LostAnswers a_s a_l a_q a_facts = some R) :
   Fw.Spec Tryz.prog 31 [v0_0.v, v1_0.v, (.agg [v2_0.v, v2_1.v].toArray), v3_0.v] [crd (RdS 3 rdInt) v0_0.v a_s, crd (RdS 77 rd77) v1_0.v a_l, crd (RdS 3 rdInt) v2_0.v a_q.Head, crd (RdS 102 rd102) v2_1.v a_q.Atoms, crd (RdS 80 rd80) v3_0.v a_facts] (fun p : Sv × List Nat => p.1.v) (fun p => [cown (OwnS 22 (roE (RdS 3 rdInt))) p.2 p.1.v R]) := by
 refine Spec_enter (n := 64) Tryz.func31 rfl rfl (rs := [.tmp 8]) rfl rfl rfl ?_
 intro H0 F0
 unfold s_LostAnswers at hF
 refine K_region (C_newR rfl (N_box (g := false) (v := (.agg [v2_0.v, v2_1.v].toArray)) ty38.h.sz (.tmp rfl rfl) rfl) (fun k1 => ?_))
 refine C_val (V_assign (v := (.slice none 0 0)) EV.nilSlice) ?_
 refine C_nil (K_region (C_new rfl (N_buildSliceT (g := true) sl31.h ty22.h .nil (vs := []) rfl rfl rfl (by simp)) (fun k2 => ?_)))
 refine C_conv (.cons .h .nil) (own_lit (Ro := (roE (RdS 3 rdInt))) (E := 22) (F := []) (xs := ([] : List (List Int))) MkL_nil rfl rfl) apps ?_
 refine Ca (.slice (some ⟨k2, 0, none⟩) 0 1) rfl rfl ?_
 refine C_nil (K_region (Cm v0_0.v rfl rfl ?_))
 refine C_at (.t .h) (fun hp => V_loadBox ag38.h ty38.h.sz rfl (.tmp rfl rfl) hp.2 rfl) ?_
 refine Cm v3_0.v rfl rfl ?_
 obtain ⟨r3, hx4, hF⟩ := bind_some hF
 refine C_x1 (.rd (.t (.t .h)) rfl (.rd (.t (.t (.t (.t .h)))) rfl (.rd (.t (.t (.t (.t (.t .h))))) rfl (.rd (.t (.t (.t (.t (.t (.t .h)))))) rfl .nil)))) (X_callS cf41.h (.cons (.tmp rfl rfl) (.cons (.tmp rfl rfl) (.cons (.tmp rfl rfl) .nil))) (s_AnswersOf_ok a_s v0_0 a_q v2_0 v2_1 a_facts v3_0 _ hx4)) (fun p5 => ?_)
 refine Ca p5.1.v rfl rfl ?_
 refine C_nil (K_region (Cm v0_0.v rfl rfl ?_))
 refine Cm v1_0.v rfl rfl ?_
 refine C_at (.t (.t .h)) (fun hp => V_loadBox ag38.h ty38.h.sz rfl (.tmp rfl rfl) hp.2 rfl) ?_
 refine Cm v3_0.v rfl rfl ?_
 obtain ⟨r6, hx7, hF⟩ := bind_some hF
 refine C_x1 (.rd (.t (.t (.t .h))) rfl (.rd (.t (.t (.t (.t .h)))) rfl (.rd (.t (.t (.t (.t (.t .h))))) rfl (.rd (.t (.t (.t (.t (.t (.t .h)))))) rfl (.rd (.t (.t (.t (.t (.t (.t (.t .h))))))) rfl .nil))))) (X_callS cf9.h (.cons (.tmp rfl rfl) (.cons (.tmp rfl rfl) (.cons (.tmp rfl rfl) (.cons (.tmp rfl rfl) .nil)))) (s_MaximalAnswers_ok a_s v0_0 a_l v1_0 a_q v2_0 v2_1 a_facts v3_0 _ hx7)) (fun p8 => ?_)
 refine Ca p8.1.v rfl rfl ?_
 refine C_nil (K_in (K_region (C_val (V_assign (v := (.int .i64 0)) (.int _ _)) ?_)))
 refine C_nil (CW_block ?_)
 iterate 2 refine K_frz (.t .h) frz_own ?_
 refine CW_loop (m := (((r3.length : Int) - 0).toNat + 2)) (fun m267 f' cs' => ∃ (g : Fr) (c263 : List (List Int)) (c266 : Int) (v264 : Sv) (F265 : List Nat), f' = updL g [(0, v0_0.v), (1, v1_0.v), (9, v264.v), (10, p5.1.v), (11, p8.1.v), (12, (.int .i64 c266))] ∧ Ent cs' [crd (RdS 3 rdInt) v0_0.v a_s, crd (RdS 77 rd77) v1_0.v a_l, cown (OwnS 22 (roE (RdS 3 rdInt))) F265 v264.v c263, crd (RdS 22 (RdS 3 rdInt)) p5.1.v r3, crd (RdS 22 (RdS 3 rdInt)) p8.1.v r6] ∧ s_LostAnswers_L1 a_s a_l r3 r6 m267 c263 c266 = some R) ⟨_, _, _, ⟨(some ⟨k2, 0, none⟩), 0, 1⟩, (k2 :: []), (EqL.cons rfl (EqL.cons rfl (EqL.cons rfl (EqL.cons rfl (EqL.cons rfl (EqL.cons rfl (EqL.nil))))))).eq, (.sel (.rd (.t (.t (.t (.t .h)))) rfl (.rd (.t (.t (.t (.t (.t .h))))) rfl (.cons (.t (.t .h)) (.rd (.t .h) rfl (.rd .h rfl .nil)))))), hF⟩ ?_
 clear hF
 rintro m267 _ _ ⟨g268, c263, c266, v264, F265, rfl, hE, hF⟩
 refine K_ent hE ?_
 clear hE
 rcases m267 with _ | m267
 · rw [s_LostAnswers_L1] at hF
   exact absurd hF (by simp)
 rw [s_LostAnswers_L1] at hF
 refine K_in ?_
 obtain ⟨o275, hio275, hO276⟩ := bind_some hF
 refine K_region (C_cut (fun f' cs' => ∃ (c281 : Bool) (g : Fr), c281 = o275 ∧ f' = updL g [(0, v0_0.v), (1, v1_0.v), (9, v264.v), (10, p5.1.v), (11, p8.1.v), (12, (.int .i64 c266)), (33, (.bool c281))] ∧ Ent cs' [crd (RdS 3 rdInt) v0_0.v a_s, crd (RdS 77 rd77) v1_0.v a_l, cown (OwnS 22 (roE (RdS 3 rdInt))) F265 v264.v c263, crd (RdS 22 (RdS 3 rdInt)) p5.1.v r3, crd (RdS 22 (RdS 3 rdInt)) p8.1.v r6]) ?_ ?_)
 · replace hF := hio275
   refine Cm (.int .i64 c266) rfl rfl ?_
   refine Cm p5.1.v rfl rfl ?_
   refine C_at (.t (.t (.t .h))) (fun hp => V_lenR (l := r3.length) sl31.h (.tmp rfl rfl) (crd_len hp)) ?_
   refine C_val (V_lss (i := c266) (j := (r3.length : Int)) (.tmp rfl rfl) (.tmp rfl rfl)) ?_
   refine Cm (.bool (decide ((c266 : Int) < (r3.length : Int)))) rfl rfl ?_
   rcases Bool.eq_false_or_eq_true (decide ((c266 : Int) < (r3.length : Int))) with hg277 | hg277
   · rw [hg277]
     try rw [hg277] at hF; dsimp only [cond_true, cond_false] at hF
     refine C_on (t := 29) rfl rfl rfl ?_
     refine Cm v0_0.v rfl rfl ?_
     refine C_on (t := 29) rfl rfl rfl ?_
     refine Cm v1_0.v rfl rfl ?_
     refine C_on (t := 29) rfl rfl rfl ?_
     obtain ⟨r278, hx279, hF⟩ := bind_some hF
     refine C_x0 (.rd .h rfl (.rd (.t .h) rfl .nil)) (X_callS cf59.h (.cons (.tmp rfl rfl) (.cons (.tmp rfl rfl) .nil)) (s_AreMethods_ok a_s v0_0 a_l v1_0 _ hx279)) (fun _ => ?_)
     refine C_val (V_pick (b := true) (u := (.bool r278)) (v := (.bool false)) (.tmp rfl rfl) (.tmp rfl rfl) (.bool _)) ?_
     refine C_nil ?_
     obtain rfl := Option.some.inj hF
     exact ⟨_, _, rfl, (EqL.cons rfl (EqL.cons rfl (EqL.cons rfl (EqL.cons rfl (EqL.cons rfl (EqL.cons rfl (EqL.cons rfl (EqL.nil)))))))).eq, (.sel (.rd .h rfl (.rd (.t .h) rfl (.cons (.t (.t .h)) (.rd (.t (.t .h)) rfl (.rd (.t (.t (.t .h))) rfl .nil))))))⟩
   rw [hg277]
   try rw [hg277] at hF; dsimp only [cond_true, cond_false] at hF
   iterate 3 refine C_off (t := 29) rfl rfl rfl ?_
   refine C_val (V_pick (b := false) (u := undef) (v := (.bool false)) (.tmp rfl rfl) (.tmp rfl rfl) (.bool _)) ?_
   refine C_nil ?_
   obtain rfl := Option.some.inj hF
   exact ⟨_, _, rfl, (EqL.cons rfl (EqL.cons rfl (EqL.cons rfl (EqL.cons rfl (EqL.cons rfl (EqL.cons rfl (EqL.cons rfl (EqL.nil)))))))).eq, (.sel (.rd .h rfl (.rd (.t .h) rfl (.cons (.t (.t .h)) (.rd (.t (.t .h)) rfl (.rd (.t (.t (.t .h))) rfl .nil))))))⟩
 rintro _ _ ⟨c281, g333, rfl, rfl, hE⟩
 replace hF := hO276
 clear hO276
 try dsimp only at hF
 refine K_ent hE ?_
 refine CW_cond (b := c281) (.tmp rfl rfl) (fun hb332 => ?_) (fun hb332 => ?_)
 · rw [if_pos hb332] at hF
   refine CW_skip ?_
   obtain ⟨o282, hio282, hO283⟩ := bind_some hF
   refine K_cut (fun f' cs' => ∃ (c328 : List (List Int)) (v329 : Sv) (F330 : List Nat) (g : Fr), c328 = o282 ∧ f' = updL g [(0, v0_0.v), (1, v1_0.v), (9, v329.v), (10, p5.1.v), (11, p8.1.v), (12, (.int .i64 c266))] ∧ Ent cs' [crd (RdS 3 rdInt) v0_0.v a_s, crd (RdS 77 rd77) v1_0.v a_l, cown (OwnS 22 (roE (RdS 3 rdInt))) F330 v329.v c328, crd (RdS 22 (RdS 3 rdInt)) p5.1.v r3, crd (RdS 22 (RdS 3 rdInt)) p8.1.v r6]) ?_ ?_
   · replace hF := hio282
     refine CW_block (K_region (C_val (V_assign (v := (.bool false)) (.bool _)) ?_))
     refine C_nil (K_in (K_region (C_val (V_assign (v := (.int .i64 0)) (.int _ _)) ?_)))
     refine C_nil (CW_block (CW_loop (m := r6.length) (fun m286 f' cs' => ∃ (g : Fr) (k288 : Nat) (rest289 : List (List Int)) (c284 : Bool), m286 = rest289.length ∧ f' = updL g [(0, v0_0.v), (1, v1_0.v), (9, v264.v), (10, p5.1.v), (11, p8.1.v), (12, (.int .i64 c266)), (13, (.bool c284)), (14, (.int .i64 (k288 : Int)))] ∧ List.drop k288 r6 = rest289 ∧ Ent cs' [crd (RdS 3 rdInt) v0_0.v a_s, crd (RdS 77 rd77) v1_0.v a_l, cown (OwnS 22 (roE (RdS 3 rdInt))) F265 v264.v c263, crd (RdS 22 (RdS 3 rdInt)) p5.1.v r3, crd (RdS 22 (RdS 3 rdInt)) p8.1.v r6] ∧ s_LostAnswers_L4 r3 c263 c266 rest289 k288 c284 = some o282) ⟨_, 0, _, _, rfl, (EqL.cons rfl (EqL.cons rfl (EqL.cons rfl (EqL.cons rfl (EqL.cons rfl (EqL.cons rfl (EqL.cons rfl (EqL.cons rfl (EqL.nil))))))))).eq, rfl, (.sel (.rd .h rfl (.rd (.t .h) rfl (.cons (.t (.t .h)) (.rd (.t (.t .h)) rfl (.rd (.t (.t (.t .h))) rfl .nil)))))), hF⟩ ?_))
     clear hF
     rintro m286 _ _ ⟨g287, k288, rest289, c284, rfl, rfl, hd291, hE, hF⟩
     refine K_ent hE ?_
     clear hE
     refine K_pure (c := crd (RdS 22 (RdS 3 rdInt)) p8.1.v r6) (.t (.t (.t (.t .h)))) crd_bound (fun hbd296 => ?_)
     rcases rest289 with _ | ⟨x290, rest289⟩
     · have hk292 := List.drop_eq_nil_iff.1 hd291
       have hfe295 : (decide (((k288 : Int) : Int) < (r6.length : Int))) = false := decide_eq_false (by omega)
       rw [s_LostAnswers_L4] at hF
       refine K_in (K_region (Cm (.int .i64 (k288 : Int)) rfl rfl ?_))
       refine Cm p8.1.v rfl rfl ?_
       refine C_at (.t (.t (.t (.t .h)))) (fun hp => V_lenR (l := r6.length) sl31.h (.tmp rfl rfl) (crd_len hp)) ?_
       refine C_val (V_lss (i := (k288 : Int)) (j := (r6.length : Int)) (.tmp rfl rfl) (.tmp rfl rfl)) ?_
       refine C_nil (CW_cond (b := (decide (((k288 : Int) : Int) < (r6.length : Int)))) (.tmp rfl rfl) (fun hb => absurd (hfe295.symm.trans hb) (by decide)) (fun _ => ?_))
       refine CW_exit ?_
       iterate 2 refine CThen_exit ?_
       refine CIn_self (K_region (Cm (.bool c284) rfl rfl ?_))
       refine C_val (V_not (b := c284) (.tmp rfl rfl)) ?_
       refine C_nil (CW_cond (b := (!c284)) (.tmp rfl rfl) (fun hb308 => ?_) (fun hb308 => ?_))
       · rw [if_pos hb308] at hF
         refine CW_region (Cm v264.v rfl rfl ?_)
         refine Cm p5.1.v rfl rfl ?_
         refine Cm (.int .i64 c266) rfl rfl ?_
         obtain ⟨x297, hx298, hF⟩ := bind_some hF
         obtain ⟨hp299, hx300⟩ := ix_some hx298
         refine C_idx (a := x297) sl31.h ty22.h.sz (.tmp rfl rfl) (.tmp rfl rfl) (.t (.t (.t .h))) hp299 hx300 (fun k301 j302 => ?_)
         refine C_ldV (R' := (RdS 3 rdInt)) ag22.h (.tmp rfl rfl) .h lv22_0 (fun w303 => ?_)
         refine C_new rfl (N_buildSliceT (g := true) sl31.h ty22.h (.cons (.tmp rfl rfl) .nil) (vs := [w303.v]) rfl rfl rfl (by intro v hv; simp at hv; rcases hv with rfl <;> rfl)) (fun k304 => ?_)
         refine C_conv (.cons .h (.rd .h rfl .nil)) (own_lit (Ro := (roE (RdS 3 rdInt))) (E := 22) (F := ([] ++ [])) (xs := ([x297] : List (List Int))) (MkL_cons Mk_rd MkL_nil apps) rfl rfl) apps ?_
         obtain ⟨z305, hx306, hF⟩ := bind_some hF
         refine C_x1 (.cons (.t (.t (.t (.t (.t .h))))) (.cons .h .nil)) (X_appendO (Ro := (roE (RdS 3 rdInt))) sl31.h ni31 ty22.h rfl rfl rfl (.tmp rfl rfl) (.tmp rfl rfl) hx306 src_own) (fun p307 => ?_)
         refine Ca p307.1.v rfl rfl ?_
         refine C_nil ?_
         obtain rfl := Option.some.inj hF
         exact ⟨_, p307.1, p307.2, _, rfl, (EqL.cons rfl (EqL.cons rfl (EqL.cons rfl (EqL.cons rfl (EqL.cons rfl (EqL.cons rfl (EqL.nil))))))).eq, (.sel (.rd (.t (.t (.t .h))) rfl (.rd (.t (.t (.t (.t .h)))) rfl (.cons .h (.rd (.t (.t (.t (.t .h)))) rfl (.rd (.t (.t (.t (.t (.t .h))))) rfl .nil))))))⟩
       rw [if_neg (by rw [hb308]; exact Bool.false_ne_true)] at hF
       refine CW_skip ?_
       obtain rfl := Option.some.inj hF
       exact ⟨_, v264, F265, _, rfl, (EqL.cons rfl (EqL.cons rfl (EqL.cons rfl (EqL.cons rfl (EqL.cons rfl (EqL.cons rfl (EqL.nil))))))).eq, (.sel (.rd .h rfl (.rd (.t .h) rfl (.cons (.t (.t .h)) (.rd (.t (.t .h)) rfl (.rd (.t (.t (.t .h))) rfl .nil))))))⟩
     obtain ⟨hk292, hx293, hd294⟩ := drop_cons hd291
     have hfe295 : (decide (((k288 : Int) : Int) < (r6.length : Int))) = true := decide_eq_true (by omega)
     rw [s_LostAnswers_L4] at hF
     refine K_in (K_region (Cm (.int .i64 (k288 : Int)) rfl rfl ?_))
     refine Cm p8.1.v rfl rfl ?_
     refine C_at (.t (.t (.t (.t .h)))) (fun hp => V_lenR (l := r6.length) sl31.h (.tmp rfl rfl) (crd_len hp)) ?_
     refine C_val (V_lss (i := (k288 : Int)) (j := (r6.length : Int)) (.tmp rfl rfl) (.tmp rfl rfl)) ?_
     refine C_nil (CW_cond (b := (decide (((k288 : Int) : Int) < (r6.length : Int)))) (.tmp rfl rfl) (fun _ => ?_) (fun hb => absurd (hfe295.symm.trans hb) (by decide)))
     refine CW_skip (K_block ?_)
     obtain ⟨o309, hio309, hO310⟩ := bind_some hF
     refine CW_draw [0, 1, 2, 3, 4, 5, 6, 7, 8, 9, 10, 11, 12] [0, 1, 3, 3, 15, 31, 3, 3, 195, 451, 1023, 2047, 4095] [10] mixed (by decide +kernel) ?_
     refine D_cut (fun f' cs' => ∃ (c325 : Bool) (g : Fr), c325 = o309 ∧ f' = updL g [(0, v0_0.v), (1, v1_0.v), (9, v264.v), (10, p5.1.v), (11, p8.1.v), (12, (.int .i64 c266)), (13, (.bool c325)), (14, (.int .i64 (k288 : Int)))] ∧ Ent cs' [crd (RdS 3 rdInt) v0_0.v a_s, crd (RdS 77 rd77) v1_0.v a_l, cown (OwnS 22 (roE (RdS 3 rdInt))) F265 v264.v c263, crd (RdS 22 (RdS 3 rdInt)) p5.1.v r3, crd (RdS 22 (RdS 3 rdInt)) p8.1.v r6]) ?_ ?_
     · replace hF := hio309
       iterate 2 refine Dm (.bool c284) rfl rfl rfl rfl ?_
       rcases Bool.eq_false_or_eq_true c284 with hg311 | hg311
       · rw [hg311]
         try rw [hg311] at hF; dsimp only [cond_true, cond_false] at hF
         iterate 9 refine D_off 43 rfl rfl rfl rfl ?_
         refine D_val rfl .no (fun ha => V_pick (b := true) (u := (.bool true)) (v := undef) (EN ha (.tmp rfl rfl) rfl) (EN ha (.bool _) rfl) (EN ha (.tmp rfl rfl) rfl)) ?_
         refine Da (.bool true) rfl rfl rfl rfl ?_
         refine D_nil ?_
         obtain rfl := Option.some.inj hF
         exact ⟨_, _, rfl, (EqL.cons rfl (EqL.cons rfl (EqL.cons rfl (EqL.cons rfl (EqL.cons rfl (EqL.cons rfl (EqL.cons rfl (EqL.cons rfl (EqL.nil))))))))).eq, (.sel (.rd .h rfl (.rd (.t .h) rfl (.cons (.t (.t .h)) (.rd (.t (.t .h)) rfl (.rd (.t (.t (.t .h))) rfl .nil))))))⟩
       rw [hg311]
       try rw [hg311] at hF; dsimp only [cond_true, cond_false] at hF
       refine D_val rfl (.on 43 rfl rfl rfl) (fun ha => V_move (v := p5.1.v) (EN ha (.tmp rfl rfl) rfl)) ?_
       refine D_val rfl (.on 43 rfl rfl rfl) (fun ha => V_move (v := (.int .i64 c266)) (EN ha (.tmp rfl rfl) rfl)) ?_
       obtain ⟨x312, hx313, hF⟩ := bind_some hF
       obtain ⟨hp314, hx315⟩ := ix_some hx313
       refine D_idx (a := x312) sl31.h ty22.h.sz rfl (.on 43 rfl rfl rfl) (.tmp rfl rfl) (.tmp rfl rfl) rfl rfl (.t (.t (.t .h))) hp314 hx315 (fun k316 j317 => ?_)
       refine D_ldV (R' := (RdS 3 rdInt)) ag22.h rfl (.on 43 rfl rfl rfl) (.tmp rfl rfl) rfl .h lv22_0 (fun w318 => ?_)
       refine D_val rfl (.on 43 rfl rfl rfl) (fun ha => V_move (v := p8.1.v) (EN ha (.tmp rfl rfl) rfl)) ?_
       refine D_val rfl (.on 43 rfl rfl rfl) (fun ha => V_move (v := (.int .i64 (k288 : Int))) (EN ha (.tmp rfl rfl) rfl)) ?_
       refine D_idx (a := x290) sl31.h ty22.h.sz rfl (.on 43 rfl rfl rfl) (.tmp rfl rfl) (.tmp rfl rfl) rfl rfl (.t (.t (.t (.t (.t (.t .h)))))) (Int.natCast_nonneg k288) hx293 (fun k319 j320 => ?_)
       refine D_ldV (R' := (RdS 3 rdInt)) ag22.h rfl (.on 43 rfl rfl rfl) (.tmp rfl rfl) rfl .h lv22_0 (fun w321 => ?_)
       obtain ⟨r322, hx323, hF⟩ := bind_some hF
       refine D_act0 rfl rfl (.on 43 rfl rfl rfl) (.rd (.t (.t .h)) rfl (.rd .h rfl .nil)) .nil (fun ha => X_callS cf60.h (.cons (EN ha (.tmp rfl rfl) rfl) (.cons (EN ha (.tmp rfl rfl) rfl) .nil)) (s_l2Ints_ok x312 w318 x290 w321 _ hx323)) (fun _ => ?_)
       refine D_val rfl .no (fun ha => V_pick (b := false) (u := (.bool true)) (v := (.bool r322)) (EN ha (.tmp rfl rfl) rfl) (EN ha (.bool _) rfl) (EN ha (.tmp rfl rfl) rfl)) ?_
       refine Da (.bool r322) rfl rfl rfl rfl ?_
       refine D_nil ?_
       obtain rfl := Option.some.inj hF
       exact ⟨_, _, rfl, (EqL.cons rfl (EqL.cons rfl (EqL.cons rfl (EqL.cons rfl (EqL.cons rfl (EqL.cons rfl (EqL.cons rfl (EqL.cons rfl (EqL.nil))))))))).eq, (.sel (.rd (.t (.t (.t (.t .h)))) rfl (.rd (.t (.t (.t (.t (.t .h))))) rfl (.cons (.t (.t (.t (.t (.t (.t .h)))))) (.rd (.t (.t (.t (.t (.t (.t .h)))))) rfl (.rd (.t (.t (.t (.t (.t (.t (.t .h))))))) rfl .nil))))))⟩
     rintro _ _ ⟨c325, g327, rfl, rfl, hE⟩
     replace hF := hO310
     clear hO310
     try dsimp only at hF
     refine K_ent hE ?_
     refine CW_region (Cm (.int .i64 (k288 : Int)) rfl rfl ?_)
     refine C_val (V_add (i := (k288 : Int)) (j := 1) (.tmp rfl rfl) (.int _ _)) ?_
     refine Ca (.int .i64 (IntKind.i64.wrap ((k288 : Int) + 1))) rfl rfl ?_
     refine C_nil ?_
     have hw326 : IntKind.i64.wrap ((k288 : Int) + 1) = ((k288 + 1 : Nat) : Int) := by rw [wrap_in (by omega) (by omega)]; rfl
     rw [hw326]
     exact ⟨_, Nat.lt_succ_self _, _, k288 + 1, rest289, _, rfl, (EqL.cons rfl (EqL.cons rfl (EqL.cons rfl (EqL.cons rfl (EqL.cons rfl (EqL.cons rfl (EqL.cons rfl (EqL.cons rfl (EqL.nil))))))))).eq, hd294, (.sel (.rd .h rfl (.rd (.t .h) rfl (.cons (.t (.t .h)) (.rd (.t (.t .h)) rfl (.rd (.t (.t (.t .h))) rfl .nil)))))), hF⟩
   rintro _ _ ⟨c328, v329, F330, g331, rfl, rfl, hE⟩
   replace hF := hO283
   clear hO283
   try dsimp only at hF
   refine K_ent hE ?_
   refine CW_region (Cm (.int .i64 c266) rfl rfl ?_)
   refine C_val (V_add (i := c266) (j := 1) (.tmp rfl rfl) (.int _ _)) ?_
   refine Ca (.int .i64 (IntKind.i64.wrap (c266 + 1))) rfl rfl ?_
   refine C_nil ?_
   exact ⟨m267, Nat.lt_succ_self _, _, _, _, v329, F330, (EqL.cons rfl (EqL.cons rfl (EqL.cons rfl (EqL.cons rfl (EqL.cons rfl (EqL.cons rfl (EqL.nil))))))).eq, (.sel (.rd .h rfl (.rd (.t .h) rfl (.cons (.t (.t .h)) (.rd (.t (.t .h)) rfl (.rd (.t (.t (.t .h))) rfl .nil)))))), hF⟩
 rw [if_neg (by rw [hb332]; exact Bool.false_ne_true)] at hF
 refine CW_exit ?_
 iterate 2 refine CThen_exit ?_
 refine CIn_self (K_region (Cm v264.v rfl rfl ?_))
 refine Ca v264.v rfl rfl ?_
 refine C_nil (CW_ret ?_)
 obtain rfl := Option.some.inj hF
 exact End_ret (v264, F265) (.tmp rfl rfl .nil) rfl (.sel (.cons (.t (.t .h)) .nil))
def i_within (a_n : Int) (a_low : Int) (a_high : Int) : Option (Bool) :=
 some ((decide ((a_low : Int) ≤ a_n)) && (decide ((a_n : Int) ≤ a_high)))
theorem i_within_ok (a_n : Int) (a_low : Int) (a_high : Int) (R : Bool) (hF : i_within a_n a_low a_high = some R) :
   Fw.Spec Tryz.prog 110 [(.int .i64 a_n), (.int .i64 a_low), (.int .i64 a_high)] [] (fun _ : Unit => (.bool R)) (fun _ => []) := by
 refine Spec_enter (n := 15) Tryz.func110 rfl rfl (rs := [.tmp 6]) rfl rfl rfl ?_
 intro H0 F0
 unfold i_within at hF
 iterate 4 refine au ?_
 refine C_cut (fun f' cs' => ∃ (g : Fr), f' = updL g [(6, (.bool ((decide ((a_low : Int) ≤ a_n)) && (decide ((a_n : Int) ≤ a_high)))))] ∧ Ent cs' []) ?_ ?_
 · iterate 4 refine au ?_
   rcases Bool.eq_false_or_eq_true (decide ((a_low : Int) ≤ a_n)) with hg1 | hg1
   · rw [hg1]
     try rw [hg1] at hF; dsimp only [cond_true, cond_false] at hF
     iterate 9 refine au ?_
     exact ⟨_, eqA, entA⟩
   rw [hg1]
   try rw [hg1] at hF; dsimp only [cond_true, cond_false] at hF
   iterate 6 refine au ?_
   exact ⟨_, eqA, entA⟩
 rintro _ _ ⟨g2, rfl, hE⟩
 refine K_ent hE ?_
 refine au ?_
 cases hF
 exact Er ()
def i_IsSchema_1 (a_n : Int) : Option (Bool) :=
 (i_within a_n 1 3).bind fun r1 =>
 some (!r1)
theorem i_IsSchema_1_ok (a_n : Int) (R : Bool) (hF : i_IsSchema_1 a_n = some R) :
   Fw.Spec Tryz.prog 121 [(.int .i64 a_n)] [] (fun _ : Unit => (.bool R)) (fun _ => []) := by
 refine Spec_enter (n := 6) Tryz.func121 rfl rfl (rs := [.tmp 2]) rfl rfl rfl ?_
 intro H0 F0
 unfold i_IsSchema_1 at hF
 iterate 5 refine au ?_
 obtain ⟨r1, hx2, hF⟩ := bind_some hF
 refine Cx0 (i_within_ok _ _ _ _ hx2) (fun _ => ?_)
 iterate 4 refine au ?_
 cases hF
 exact Er ()
def g_slices_IndexFunc_int_int_iIsSchema1_L1 : List Int → Nat → Option (Int)
 | [], k4 => some (-1)
 | x6 :: rest5, k4 => (i_IsSchema_1 x6).bind fun r15 =>
   if r15 then (
     some (k4 : Int))
   else (
     g_slices_IndexFunc_int_int_iIsSchema1_L1 rest5 (k4 + 1))
def g_slices_IndexFunc_int_int_iIsSchema1 (a_s : List Int) : Option (Int) :=
 g_slices_IndexFunc_int_int_iIsSchema1_L1 a_s 0
theorem g_slices_IndexFunc_int_int_iIsSchema1_ok (a_s : List Int) (v0_0 : Sv) (R : Int) (hF : g_slices_IndexFunc_int_int_iIsSchema1 a_s = some R) :
   Fw.Spec Tryz.prog 157 [v0_0.v, (.func (.func 121) [].toArray [].toArray)] [crd (RdS 3 rdInt) v0_0.v a_s] (fun _ : Unit => (.int .i64 R)) (fun _ => []) := by
 refine Spec_enter (n := 19) Tryz.func157 rfl rfl (rs := [.tmp 4]) rfl rfl rfl ?_
 intro H0 F0
 unfold g_slices_IndexFunc_int_int_iIsSchema1 at hF
 iterate 9 refine au ?_
 refine CW_block (CW_loop (m := a_s.length) (fun m2 f' cs' => ∃ (g : Fr) (k4 : Nat) (rest5 : List Int), m2 = rest5.length ∧ f' = updL g [(0, v0_0.v), (1, (.func (.func 121) [].toArray [].toArray)), (7, (.int .i64 (a_s.length : Int))), (8, (.int .i64 (k4 : Int)))] ∧ List.drop k4 a_s = rest5 ∧ Ent cs' [crd (RdS 3 rdInt) v0_0.v a_s] ∧ g_slices_IndexFunc_int_int_iIsSchema1_L1 rest5 k4 = some R) ⟨_, 0, _, rfl, eqA, rfl, entA, hF⟩ ?_)
 clear hF
 rintro m2 _ _ ⟨g3, k4, rest5, rfl, rfl, hd7, hE, hF⟩
 refine K_ent hE ?_
 clear hE
 refine K_pure (c := crd (RdS 3 rdInt) v0_0.v a_s) .h crd_bound (fun hbd12 => ?_)
 rcases rest5 with _ | ⟨x6, rest5⟩
 · have hk8 := List.drop_eq_nil_iff.1 hd7
   rw [g_slices_IndexFunc_int_int_iIsSchema1_L1] at hF
   iterate 4 refine au ?_
   refine CdF ?_
   iterate 8 refine au ?_
   cases hF
   exact Er ()
 obtain ⟨hk8, hx9, hd10⟩ := drop_cons hd7
 rw [g_slices_IndexFunc_int_int_iIsSchema1_L1] at hF
 iterate 4 refine au ?_
 refine CdT ?_
 iterate 10 refine au ?_
 refine Ai hx9 (fun k13 j14 => ?_)
 refine Al ls3_0 ?_
 obtain ⟨r15, hx16, hF⟩ := bind_some hF
 refine C_x0 .nil (X_callCS cf121.h (.tmp rfl rfl) (.cons (.tmp rfl rfl) .nil) (i_IsSchema_1_ok x6 _ hx16)) (fun _ => ?_)
 refine au ?_
 refine Cc (fun hb19 => ?_) (fun hb19 => ?_)
 · rw [if_pos hb19] at hF
   iterate 5 refine au ?_
   cases hF
   exact Er ()
 rw [if_neg (nt hb19)] at hF
 iterate 5 refine au ?_
 rw [wk k4]
 exact ⟨_, Nat.lt_succ_self _, _, k4 + 1, rest5, rfl, eqA, hd10, entA, hF⟩
def g_slices_ContainsFunc_int_int_iIsSchema1 (a_s : List Int) : Option (Bool) :=
 (g_slices_IndexFunc_int_int_iIsSchema1 a_s).bind fun r1 =>
 some (decide ((0 : Int) ≤ r1))
theorem g_slices_ContainsFunc_int_int_iIsSchema1_ok (a_s : List Int) (v0_0 : Sv) (R : Bool) (hF : g_slices_ContainsFunc_int_int_iIsSchema1 a_s = some R) :
   Fw.Spec Tryz.prog 120 [v0_0.v, (.func (.func 121) [].toArray [].toArray)] [crd (RdS 3 rdInt) v0_0.v a_s] (fun _ : Unit => (.bool R)) (fun _ => []) := by
 refine Spec_enter (n := 9) Tryz.func120 rfl rfl (rs := [.tmp 4]) rfl rfl rfl ?_
 intro H0 F0
 unfold g_slices_ContainsFunc_int_int_iIsSchema1 at hF
 iterate 6 refine au ?_
 obtain ⟨r1, hx2, hF⟩ := bind_some hF
 refine Cx0 (g_slices_IndexFunc_int_int_iIsSchema1_ok _ _ _ hx2) (fun _ => ?_)
 iterate 4 refine au ?_
 cases hF
 exact Er ()
def i_IsSchema (a_s : List Int) : Option (Bool) :=
 ((i_within (a_s.length : Int) 1 3).bind fun r3 =>
   bif r3 then ((g_slices_ContainsFunc_int_int_iIsSchema1 a_s).bind fun r7 =>
     some (!r7))
   else (some false)).bind fun o1 =>
 match o1 with
 | c10 => some c10
theorem i_IsSchema_ok (a_s : List Int) (v0_0 : Sv) (R : Bool) (hF : i_IsSchema a_s = some R) :
   Fw.Spec Tryz.prog 79 [v0_0.v] [crd (RdS 3 rdInt) v0_0.v a_s] (fun _ : Unit => (.bool R)) (fun _ => []) := by
 refine Spec_enter (n := 11) Tryz.func79 rfl rfl (rs := [.tmp 2]) rfl rfl rfl ?_
 intro H0 F0
 unfold i_IsSchema at hF
 iterate 3 refine au ?_
 obtain ⟨o1, hio1, hO2⟩ := bind_some hF
 refine au ?_
 refine C_cut (fun f' cs' => ∃ (c10 : Bool) (g : Fr), c10 = o1 ∧ f' = updL g [(2, (.bool c10))] ∧ Ent cs' []) ?_ ?_
 · replace hF := hio1
   iterate 2 refine au ?_
   obtain ⟨r3, hx4, hF⟩ := bind_some hF
   refine Cx0 (i_within_ok _ _ _ _ hx4) (fun _ => ?_)
   refine au ?_
   rcases Bool.eq_false_or_eq_true r3 with hg6 | hg6
   · rw [hg6]
     try rw [hg6] at hF; dsimp only [cond_true, cond_false] at hF
     iterate 3 refine au ?_
     obtain ⟨r7, hx8, hF⟩ := bind_some hF
     refine Cx0 (g_slices_ContainsFunc_int_int_iIsSchema1_ok _ _ _ hx8) (fun _ => ?_)
     iterate 5 refine au ?_
     cases hF
     exact ⟨_, _, rfl, eqA, entA⟩
   rw [hg6]
   try rw [hg6] at hF; dsimp only [cond_true, cond_false] at hF
   iterate 6 refine au ?_
   cases hF
   exact ⟨_, _, rfl, eqA, entA⟩
 rintro _ _ ⟨c10, g11, rfl, rfl, hE⟩
 replace hF := hO2
 clear hO2
 try dsimp only at hF
 refine K_ent hE ?_
 refine au ?_
 cases hF
 exact Er ()
def i_hasRel (a_s : List Int) (a_rel : Int) : Option (Bool) :=
 ((i_IsSchema a_s).bind fun r3 =>
   bif r3 then ((i_within a_rel 0 (IntKind.i64.wrap ((a_s.length : Int) - 1))).bind fun r7 =>
     some r7)
   else (some false)).bind fun o1 =>
 match o1 with
 | c10 => some c10
theorem i_hasRel_ok (a_s : List Int) (v0_0 : Sv) (a_rel : Int) (R : Bool) (hF : i_hasRel a_s a_rel = some R) :
   Fw.Spec Tryz.prog 115 [v0_0.v, (.int .i64 a_rel)] [crd (RdS 3 rdInt) v0_0.v a_s] (fun _ : Unit => (.bool R)) (fun _ => []) := by
 refine Spec_enter (n := 14) Tryz.func115 rfl rfl (rs := [.tmp 4]) rfl rfl rfl ?_
 intro H0 F0
 unfold i_hasRel at hF
 iterate 3 refine au ?_
 obtain ⟨o1, hio1, hO2⟩ := bind_some hF
 refine au ?_
 refine C_cut (fun f' cs' => ∃ (c10 : Bool) (g : Fr), c10 = o1 ∧ f' = updL g [(4, (.bool c10))] ∧ Ent cs' []) ?_ ?_
 · replace hF := hio1
   refine au ?_
   obtain ⟨r3, hx4, hF⟩ := bind_some hF
   refine Cx0 (i_IsSchema_ok _ _ _ hx4) (fun _ => ?_)
   refine au ?_
   rcases Bool.eq_false_or_eq_true r3 with hg6 | hg6
   · rw [hg6]
     try rw [hg6] at hF; dsimp only [cond_true, cond_false] at hF
     iterate 9 refine au ?_
     obtain ⟨r7, hx8, hF⟩ := bind_some hF
     refine Cx0 (i_within_ok _ _ _ _ hx8) (fun _ => ?_)
     iterate 3 refine au ?_
     cases hF
     exact ⟨_, _, rfl, eqA, entA⟩
   rw [hg6]
   try rw [hg6] at hF; dsimp only [cond_true, cond_false] at hF
   iterate 8 refine au ?_
   cases hF
   exact ⟨_, _, rfl, eqA, entA⟩
 rintro _ _ ⟨c10, g11, rfl, rfl, hE⟩
 replace hF := hO2
 clear hO2
 try dsimp only at hF
 refine K_ent hE ?_
 refine au ?_
 cases hF
 exact Er ()
def i_ascending_L1 (a_l : List Int) : List Int → Nat → Option (Bool)
 | [], k4 => some true
 | x6 :: rest5, k4 => (bif (decide ((0 : Int) < (k4 : Int))) then ((ix a_l (IntKind.i64.wrap ((k4 : Int) - 1))).bind fun x18 =>
       some (decide ((x6 : Int) ≤ x18)))
     else (some false)).bind fun o13 =>
   match o13 with
   | c24 => if c24 then (
       some false)
     else (
       i_ascending_L1 a_l rest5 (k4 + 1))
def i_ascending (a_l : List Int) : Option (Bool) :=
 i_ascending_L1 a_l a_l 0
theorem i_ascending_ok (a_l : List Int) (v0_0 : Sv) (R : Bool) (hF : i_ascending a_l = some R) :
   Fw.Spec Tryz.prog 175 [v0_0.v] [crd (RdS 3 rdInt) v0_0.v a_l] (fun _ : Unit => (.bool R)) (fun _ => []) := by
 refine Spec_enter (n := 24) Tryz.func175 rfl rfl (rs := [.tmp 2]) rfl rfl rfl ?_
 intro H0 F0
 unfold i_ascending at hF
 iterate 9 refine au ?_
 refine CW_block (CW_loop (m := a_l.length) (fun m2 f' cs' => ∃ (g : Fr) (k4 : Nat) (rest5 : List Int), m2 = rest5.length ∧ f' = updL g [(0, v0_0.v), (5, (.int .i64 (a_l.length : Int))), (6, (.int .i64 (k4 : Int)))] ∧ List.drop k4 a_l = rest5 ∧ Ent cs' [crd (RdS 3 rdInt) v0_0.v a_l] ∧ i_ascending_L1 a_l rest5 k4 = some R) ⟨_, 0, _, rfl, eqA, rfl, entA, hF⟩ ?_)
 clear hF
 rintro m2 _ _ ⟨g3, k4, rest5, rfl, rfl, hd7, hE, hF⟩
 refine K_ent hE ?_
 clear hE
 refine K_pure (c := crd (RdS 3 rdInt) v0_0.v a_l) .h crd_bound (fun hbd12 => ?_)
 rcases rest5 with _ | ⟨x6, rest5⟩
 · have hk8 := List.drop_eq_nil_iff.1 hd7
   rw [i_ascending_L1] at hF
   iterate 4 refine au ?_
   refine CdF ?_
   iterate 8 refine au ?_
   cases hF
   exact Er ()
 obtain ⟨hk8, hx9, hd10⟩ := drop_cons hd7
 rw [i_ascending_L1] at hF
 iterate 4 refine au ?_
 refine CdT ?_
 iterate 6 refine au ?_
 obtain ⟨o13, hio13, hO14⟩ := bind_some hF
 refine K_draw [0, 1, 2, 3, 4, 5, 6, 7, 8, 9, 10, 11, 12, 13] [0, 1, 3, 7, 7, 31, 63, 7, 7, 263, 903, 1927, 4095, 8191] [] mixed (by decide +kernel) ?_
 refine D_cut (fun f' cs' => ∃ (c24 : Bool) (g : Fr), c24 = o13 ∧ f' = updL g [(0, v0_0.v), (5, (.int .i64 (a_l.length : Int))), (6, (.int .i64 (k4 : Int))), (22, (.bool c24))] ∧ Ent cs' [crd (RdS 3 rdInt) v0_0.v a_l]) ?_ ?_
 · replace hF := hio13
   iterate 3 refine du ?_
   rcases Bool.eq_false_or_eq_true (decide ((0 : Int) < (k4 : Int))) with hg15 | hg15
   · rw [hg15]
     try rw [hg15] at hF; dsimp only [cond_true, cond_false] at hF
     iterate 2 refine du ?_
     refine Di hx9 (fun k16 j17 => ?_)
     refine Dl ls3_0 ?_
     iterate 3 refine du ?_
     obtain ⟨x18, hx19, hF⟩ := bind_some hF
     obtain ⟨hp20, hx21⟩ := ix_some hx19
     refine Di hx21 (fun k22 j23 => ?_)
     refine Dl ls3_0 ?_
     iterate 3 refine du ?_
     cases hF
     exact ⟨_, _, rfl, eqA, entA⟩
   rw [hg15]
   try rw [hg15] at hF; dsimp only [cond_true, cond_false] at hF
   iterate 12 refine du ?_
   cases hF
   exact ⟨_, _, rfl, eqA, entA⟩
 rintro _ _ ⟨c24, g27, rfl, rfl, hE⟩
 replace hF := hO14
 clear hO14
 try dsimp only at hF
 refine K_ent hE ?_
 refine Cc (fun hb26 => ?_) (fun hb26 => ?_)
 · rw [if_pos hb26] at hF
   iterate 4 refine au ?_
   cases hF
   exact Er ()
 rw [if_neg (nt hb26)] at hF
 iterate 5 refine au ?_
 rw [wk k4]
 exact ⟨_, Nat.lt_succ_self _, _, k4 + 1, rest5, rfl, eqA, hd10, entA, hF⟩
def i_Method_fits_1 (a_i : Int) (a_e1 : Int) : Option (Bool) :=
 (i_within a_i 0 (IntKind.i64.wrap (a_e1 - 1))).bind fun r1 =>
 some (!r1)
theorem i_Method_fits_1_ok (a_i : Int) (kc1 : Nat) (a_e1 : Int) (R : Bool) (hF : i_Method_fits_1 a_i a_e1 = some R) :
   Fw.Spec Tryz.prog 176 [(.int .i64 a_i), (.pointer (some ⟨kc1, 0, some 0⟩))] [cboR kc1 3 (.int .i64 a_e1)] (fun _ : Unit => (.bool R)) (fun _ => []) := by
 refine Spec_enter (n := 9) Tryz.func176 rfl rfl (rs := [.tmp 3]) rfl rfl rfl ?_
 intro H0 F0
 unfold i_Method_fits_1 at hF
 iterate 7 refine au ?_
 obtain ⟨r1, hx2, hF⟩ := bind_some hF
 refine Cx0 (i_within_ok _ _ _ _ hx2) (fun _ => ?_)
 iterate 4 refine au ?_
 cases hF
 exact Er ()
def g_slices_IndexFunc_int_int_iMethodfits1_L1 (a_e1 : Int) : List Int → Nat → Option (Int)
 | [], k4 => some (-1)
 | x6 :: rest5, k4 => (i_Method_fits_1 x6 a_e1).bind fun r15 =>
   if r15 then (
     some (k4 : Int))
   else (
     g_slices_IndexFunc_int_int_iMethodfits1_L1 a_e1 rest5 (k4 + 1))
def g_slices_IndexFunc_int_int_iMethodfits1 (a_s : List Int) (a_e1 : Int) : Option (Int) :=
 g_slices_IndexFunc_int_int_iMethodfits1_L1 a_e1 a_s 0
theorem g_slices_IndexFunc_int_int_iMethodfits1_ok (a_s : List Int) (v0_0 : Sv) (kc1 : Nat) (a_e1 : Int) (R : Int) (hF : g_slices_IndexFunc_int_int_iMethodfits1 a_s a_e1 = some R) :
   Fw.Spec Tryz.prog 157 [v0_0.v, (.func (.func 176) [].toArray [(.pointer (some ⟨kc1, 0, some 0⟩))].toArray)] [crd (RdS 3 rdInt) v0_0.v a_s, cboR kc1 3 (.int .i64 a_e1)] (fun _ : Unit => (.int .i64 R)) (fun _ => []) := by
 refine Spec_enter (n := 19) Tryz.func157 rfl rfl (rs := [.tmp 4]) rfl rfl rfl ?_
 intro H0 F0
 unfold g_slices_IndexFunc_int_int_iMethodfits1 at hF
 iterate 9 refine au ?_
 refine CW_block (CW_loop (m := a_s.length) (fun m2 f' cs' => ∃ (g : Fr) (k4 : Nat) (rest5 : List Int), m2 = rest5.length ∧ f' = updL g [(0, v0_0.v), (1, (.func (.func 176) [].toArray [(.pointer (some ⟨kc1, 0, some 0⟩))].toArray)), (7, (.int .i64 (a_s.length : Int))), (8, (.int .i64 (k4 : Int)))] ∧ List.drop k4 a_s = rest5 ∧ Ent cs' [crd (RdS 3 rdInt) v0_0.v a_s, cboR kc1 3 (.int .i64 a_e1)] ∧ g_slices_IndexFunc_int_int_iMethodfits1_L1 a_e1 rest5 k4 = some R) ⟨_, 0, _, rfl, eqA, rfl, entA, hF⟩ ?_)
 clear hF
 rintro m2 _ _ ⟨g3, k4, rest5, rfl, rfl, hd7, hE, hF⟩
 refine K_ent hE ?_
 clear hE
 refine K_pure (c := crd (RdS 3 rdInt) v0_0.v a_s) .h crd_bound (fun hbd12 => ?_)
 rcases rest5 with _ | ⟨x6, rest5⟩
 · have hk8 := List.drop_eq_nil_iff.1 hd7
   rw [g_slices_IndexFunc_int_int_iMethodfits1_L1] at hF
   iterate 4 refine au ?_
   refine CdF ?_
   iterate 8 refine au ?_
   cases hF
   exact Er ()
 obtain ⟨hk8, hx9, hd10⟩ := drop_cons hd7
 rw [g_slices_IndexFunc_int_int_iMethodfits1_L1] at hF
 iterate 4 refine au ?_
 refine CdT ?_
 iterate 10 refine au ?_
 refine Ai hx9 (fun k13 j14 => ?_)
 refine Al ls3_0 ?_
 obtain ⟨r15, hx16, hF⟩ := bind_some hF
 refine C_x0 (.rd (.t (.t .h)) rfl .nil) (X_callCS cf176.h (.tmp rfl rfl) (.cons (.tmp rfl rfl) .nil) (i_Method_fits_1_ok x6 kc1 a_e1 _ hx16)) (fun _ => ?_)
 refine au ?_
 refine Cc (fun hb19 => ?_) (fun hb19 => ?_)
 · rw [if_pos hb19] at hF
   iterate 5 refine au ?_
   cases hF
   exact Er ()
 rw [if_neg (nt hb19)] at hF
 iterate 5 refine au ?_
 rw [wk k4]
 exact ⟨_, Nat.lt_succ_self _, _, k4 + 1, rest5, rfl, eqA, hd10, entA, hF⟩
def g_slices_ContainsFunc_int_int_iMethodfits1 (a_s : List Int) (a_e1 : Int) : Option (Bool) :=
 (g_slices_IndexFunc_int_int_iMethodfits1 a_s a_e1).bind fun r1 =>
 some (decide ((0 : Int) ≤ r1))
theorem g_slices_ContainsFunc_int_int_iMethodfits1_ok (a_s : List Int) (v0_0 : Sv) (kc1 : Nat) (a_e1 : Int) (R : Bool) (hF : g_slices_ContainsFunc_int_int_iMethodfits1 a_s a_e1 = some R) :
   Fw.Spec Tryz.prog 120 [v0_0.v, (.func (.func 176) [].toArray [(.pointer (some ⟨kc1, 0, some 0⟩))].toArray)] [crd (RdS 3 rdInt) v0_0.v a_s, cboR kc1 3 (.int .i64 a_e1)] (fun _ : Unit => (.bool R)) (fun _ => []) := by
 refine Spec_enter (n := 9) Tryz.func120 rfl rfl (rs := [.tmp 4]) rfl rfl rfl ?_
 intro H0 F0
 unfold g_slices_ContainsFunc_int_int_iMethodfits1 at hF
 iterate 6 refine au ?_
 obtain ⟨r1, hx2, hF⟩ := bind_some hF
 refine Cx0 (g_slices_IndexFunc_int_int_iMethodfits1_ok _ _ _ _ _ hx2) (fun _ => ?_)
 iterate 4 refine au ?_
 cases hF
 exact Er ()
def i_isCost (a_n : Int) : Option (Bool) :=
 (i_within a_n 0 99).bind fun r1 =>
 some r1
theorem i_isCost_ok (a_n : Int) (R : Bool) (hF : i_isCost a_n = some R) :
   Fw.Spec Tryz.prog 177 [(.int .i64 a_n)] [] (fun _ : Unit => (.bool R)) (fun _ => []) := by
 refine Spec_enter (n := 5) Tryz.func177 rfl rfl (rs := [.tmp 2]) rfl rfl rfl ?_
 intro H0 F0
 unfold i_isCost at hF
 iterate 5 refine au ?_
 obtain ⟨r1, hx2, hF⟩ := bind_some hF
 refine Cx0 (i_within_ok _ _ _ _ hx2) (fun _ => ?_)
 iterate 3 refine au ?_
 cases hF
 exact Er ()
def i_Method_fits (a_m : Method) (a_arity : Int) : Option (Bool) :=
 ((i_ascending a_m.Inputs).bind fun r5 =>
   bif r5 then ((g_slices_ContainsFunc_int_int_iMethodfits1 a_m.Inputs a_arity).bind fun r9 =>
     bif (!r9) then ((i_within a_m.Limit 0 9).bind fun r13 =>
       bif r13 then ((i_isCost a_m.Cost).bind fun r17 =>
         bif r17 then ((i_within a_m.Quota 1 99).bind fun r21 =>
           some r21)
         else (some false))
       else (some false))
     else (some false))
   else (some false)).bind fun o3 =>
 match o3 with
 | c24 => some c24
theorem i_Method_fits_ok (a_m : Method) (v0_1 : Sv) (a_arity : Int) (R : Bool) (hF : i_Method_fits a_m a_arity = some R) :
   Fw.Spec Tryz.prog 139 [(.agg [(.int .i64 a_m.Rel), v0_1.v, (.int .i64 a_m.Limit), (.int .i64 a_m.Cost), (.int .i64 a_m.Quota)].toArray), (.int .i64 a_arity)] [crd (RdS 3 rdInt) v0_1.v a_m.Inputs] (fun _ : Unit => (.bool R)) (fun _ => []) := by
 refine Spec_enter (n := 30) Tryz.func139 rfl rfl (rs := [.tmp 4]) rfl rfl rfl ?_
 intro H0 F0
 unfold i_Method_fits at hF
 refine au ?_
 refine AbR (fun k1 => ?_)
 refine AbR (fun k2 => ?_)
 iterate 2 refine au ?_
 obtain ⟨o3, hio3, hO4⟩ := bind_some hF
 refine au ?_
 refine C_cut (fun f' cs' => ∃ (c24 : Bool) (g : Fr), c24 = o3 ∧ f' = updL g [(4, (.bool c24))] ∧ Ent cs' []) ?_ ?_
 · replace hF := hio3
   iterate 2 refine au ?_
   obtain ⟨r5, hx6, hF⟩ := bind_some hF
   refine Cx0 (i_ascending_ok _ _ _ hx6) (fun _ => ?_)
   refine au ?_
   rcases Bool.eq_false_or_eq_true r5 with hg8 | hg8
   · rw [hg8]
     try rw [hg8] at hF; dsimp only [cond_true, cond_false] at hF
     iterate 5 refine au ?_
     refine C_val (V_makeFunc (fn := .func 176) (vs := []) (us := [(.pointer (some ⟨k2, 0, some 0⟩))]) .nil (.cons (.tmp rfl rfl) .nil)) ?_
     refine au ?_
     obtain ⟨r9, hx10, hF⟩ := bind_some hF
     refine Cx0 (g_slices_ContainsFunc_int_int_iMethodfits1_ok _ _ _ _ _ hx10) (fun _ => ?_)
     iterate 4 refine au ?_
     rcases Bool.eq_false_or_eq_true (!r9) with hg12 | hg12
     · rw [hg12]
       try rw [hg12] at hF; dsimp only [cond_true, cond_false] at hF
       iterate 5 refine au ?_
       obtain ⟨r13, hx14, hF⟩ := bind_some hF
       refine Cx0 (i_within_ok _ _ _ _ hx14) (fun _ => ?_)
       iterate 2 refine au ?_
       rcases Bool.eq_false_or_eq_true r13 with hg16 | hg16
       · rw [hg16]
         try rw [hg16] at hF; dsimp only [cond_true, cond_false] at hF
         iterate 5 refine au ?_
         obtain ⟨r17, hx18, hF⟩ := bind_some hF
         refine Cx0 (i_isCost_ok _ _ hx18) (fun _ => ?_)
         iterate 2 refine au ?_
         rcases Bool.eq_false_or_eq_true r17 with hg20 | hg20
         · rw [hg20]
           try rw [hg20] at hF; dsimp only [cond_true, cond_false] at hF
           iterate 5 refine au ?_
           obtain ⟨r21, hx22, hF⟩ := bind_some hF
           refine Cx0 (i_within_ok _ _ _ _ hx22) (fun _ => ?_)
           iterate 3 refine au ?_
           cases hF
           exact ⟨_, _, rfl, eqA, entA⟩
         rw [hg20]
         try rw [hg20] at hF; dsimp only [cond_true, cond_false] at hF
         iterate 6 refine au ?_
         cases hF
         exact ⟨_, _, rfl, eqA, entA⟩
       rw [hg16]
       try rw [hg16] at hF; dsimp only [cond_true, cond_false] at hF
       iterate 11 refine au ?_
       cases hF
       exact ⟨_, _, rfl, eqA, entA⟩
     rw [hg12]
     try rw [hg12] at hF; dsimp only [cond_true, cond_false] at hF
     iterate 16 refine au ?_
     cases hF
     exact ⟨_, _, rfl, eqA, entA⟩
   rw [hg8]
   try rw [hg8] at hF; dsimp only [cond_true, cond_false] at hF
   iterate 23 refine au ?_
   cases hF
   exact ⟨_, _, rfl, eqA, entA⟩
 rintro _ _ ⟨c24, g25, rfl, rfl, hE⟩
 replace hF := hO4
 clear hO4
 try dsimp only at hF
 refine K_ent hE ?_
 refine au ?_
 cases hF
 exact Er ()
def i_IsMethod (a_s : List Int) (a_m : Method) : Option (Bool) :=
 ((i_hasRel a_s a_m.Rel).bind fun r4 =>
   bif r4 then ((ix a_s a_m.Rel).bind fun x8 =>
     (i_Method_fits a_m x8).bind fun r14 =>
     some r14)
   else (some false)).bind fun o2 =>
 match o2 with
 | c17 => some c17
theorem i_IsMethod_ok (a_s : List Int) (v0_0 : Sv) (a_m : Method) (v1_1 : Sv) (R : Bool) (hF : i_IsMethod a_s a_m = some R) :
   Fw.Spec Tryz.prog 97 [v0_0.v, (.agg [(.int .i64 a_m.Rel), v1_1.v, (.int .i64 a_m.Limit), (.int .i64 a_m.Cost), (.int .i64 a_m.Quota)].toArray)] [crd (RdS 3 rdInt) v0_0.v a_s, crd (RdS 3 rdInt) v1_1.v a_m.Inputs] (fun _ : Unit => (.bool R)) (fun _ => []) := by
 refine Spec_enter (n := 18) Tryz.func97 rfl rfl (rs := [.tmp 4]) rfl rfl rfl ?_
 intro H0 F0
 unfold i_IsMethod at hF
 refine K_region (C_newR rfl (N_box (g := false) (v := (.agg [(.int .i64 a_m.Rel), v1_1.v, (.int .i64 a_m.Limit), (.int .i64 a_m.Cost), (.int .i64 a_m.Quota)].toArray)) ty77.h.sz (.tmp rfl rfl) rfl) (fun k1 => ?_))
 refine C_val (V_assign (v := (.bool false)) (.bool _)) ?_
 refine C_nil ?_
 obtain ⟨o2, hio2, hO3⟩ := bind_some hF
 refine K_draw [0, 1, 2, 3, 4, 5, 6, 7, 8, 9, 10, 11, 12, 13] [0, 0, 2, 7, 15, 31, 31, 31, 159, 479, 991, 2047, 4095, 8191] [3, 11] mixed (by decide +kernel) ?_
 refine D_cut (fun f' cs' => ∃ (c17 : Bool) (g : Fr), c17 = o2 ∧ f' = updL g [(4, (.bool c17))] ∧ Ent cs' []) ?_ ?_
 · replace hF := hio2
   refine Dm v0_0.v rfl rfl rfl rfl ?_
   refine D_val rfl .no (fun ha => V_fieldAddr (off := 0) fd77_0.h (EN ha (.tmp rfl rfl) rfl)) ?_
   refine D_at rfl .no .h rfl (fun ha hp => V_load (v := (.int .i64 a_m.Rel)) ag3.h (EN ha (.tmp rfl rfl) rfl) hp.2 rfl rfl) ?_
   obtain ⟨r4, hx5, hF⟩ := bind_some hF
   refine D_act0 rfl rfl .no (.rd (.t .h) rfl .nil) .nil (fun ha => X_callS cf115.h (.cons (EN ha (.tmp rfl rfl) rfl) (.cons (EN ha (.tmp rfl rfl) rfl) .nil)) (i_hasRel_ok a_s v0_0 a_m.Rel _ hx5)) (fun _ => ?_)
   refine Dm (.bool r4) rfl rfl rfl rfl ?_
   rcases Bool.eq_false_or_eq_true r4 with hg7 | hg7
   · rw [hg7]
     try rw [hg7] at hF; dsimp only [cond_true, cond_false] at hF
     refine D_at rfl (.on 9 rfl rfl rfl) .h rfl (fun ha hp => V_loadBox ag77.h ty77.h.sz rfl (EN ha (.tmp rfl rfl) rfl) hp.2 rfl) ?_
     refine D_val rfl (.on 9 rfl rfl rfl) (fun ha => V_move (v := v0_0.v) (EN ha (.tmp rfl rfl) rfl)) ?_
     refine D_val rfl (.on 9 rfl rfl rfl) (fun ha => V_fieldAddr (off := 0) fd77_0.h (EN ha (.tmp rfl rfl) rfl)) ?_
     refine D_at rfl (.on 9 rfl rfl rfl) .h rfl (fun ha hp => V_load (v := (.int .i64 a_m.Rel)) ag3.h (EN ha (.tmp rfl rfl) rfl) hp.2 rfl rfl) ?_
     obtain ⟨x8, hx9, hF⟩ := bind_some hF
     obtain ⟨hp10, hx11⟩ := ix_some hx9
     refine D_idx (a := x8) sl22.h ty3.h.sz rfl (.on 9 rfl rfl rfl) (.tmp rfl rfl) (.tmp rfl rfl) rfl rfl (.t .h) hp10 hx11 (fun k12 j13 => ?_)
     refine D_ldS (w := (.int .i64 x8)) ag3.h rfl (.on 9 rfl rfl rfl) (.tmp rfl rfl) rfl .h ls3_0 ?_
     obtain ⟨r14, hx15, hF⟩ := bind_some hF
     refine D_act0 rfl rfl (.on 9 rfl rfl rfl) (.rd (.t (.t (.t .h))) rfl .nil) .nil (fun ha => X_callS cf139.h (.cons (EN ha (.tmp rfl rfl) rfl) (.cons (EN ha (.tmp rfl rfl) rfl) .nil)) (i_Method_fits_ok a_m v1_1 x8 _ hx15)) (fun _ => ?_)
     refine D_val rfl .no (fun ha => V_pick (b := true) (u := (.bool r14)) (v := (.bool false)) (EN ha (.tmp rfl rfl) rfl) (EN ha (.tmp rfl rfl) rfl) (EN ha (.bool _) rfl)) ?_
     refine Da (.bool r14) rfl rfl rfl rfl ?_
     refine D_nil ?_
     obtain rfl := Option.some.inj hF
     exact ⟨_, _, rfl, (EqL.cons rfl (EqL.nil)).eq, (.sel .nil)⟩
   rw [hg7]
   try rw [hg7] at hF; dsimp only [cond_true, cond_false] at hF
   iterate 7 refine D_off 9 rfl rfl rfl rfl ?_
   refine D_val rfl .no (fun ha => V_pick (b := false) (u := undef) (v := (.bool false)) (EN ha (.tmp rfl rfl) rfl) (EN ha (.tmp rfl rfl) rfl) (EN ha (.bool _) rfl)) ?_
   refine Da (.bool false) rfl rfl rfl rfl ?_
   refine D_nil ?_
   obtain rfl := Option.some.inj hF
   exact ⟨_, _, rfl, (EqL.cons rfl (EqL.nil)).eq, (.sel .nil)⟩
 rintro _ _ ⟨c17, g18, rfl, rfl, hE⟩
 replace hF := hO3
 clear hO3
 try dsimp only at hF
 refine K_ent hE ?_
 refine CW_ret ?_
 obtain rfl := Option.some.inj hF
 exact End_ret () (.tmp rfl rfl .nil) rfl (.sel .nil)
def i_AreMethods_1 (a_m : Method) (a_e1 : List Int) : Option (Bool) :=
 (i_IsMethod a_e1 a_m).bind fun r2 =>
 some (!r2)
theorem i_AreMethods_1_ok (a_m : Method) (v0_1 : Sv) (kc1 : Nat) (a_e1 : List Int) (vc1_0 : Sv) (R : Bool) (hF : i_AreMethods_1 a_m a_e1 = some R) :
   Fw.Spec Tryz.prog 96 [(.agg [(.int .i64 a_m.Rel), v0_1.v, (.int .i64 a_m.Limit), (.int .i64 a_m.Cost), (.int .i64 a_m.Quota)].toArray), (.pointer (some ⟨kc1, 0, some 0⟩))] [crd (RdS 3 rdInt) v0_1.v a_m.Inputs, cboR kc1 22 vc1_0.v, crd (RdS 3 rdInt) vc1_0.v a_e1] (fun _ : Unit => (.bool R)) (fun _ => []) := by
 refine Spec_enter (n := 8) Tryz.func96 rfl rfl (rs := [.tmp 3]) rfl rfl rfl ?_
 intro H0 F0
 unfold i_AreMethods_1 at hF
 refine au ?_
 refine AbR (fun k1 => ?_)
 iterate 5 refine au ?_
 obtain ⟨r2, hx3, hF⟩ := bind_some hF
 refine Cx0 (i_IsMethod_ok _ _ _ _ _ hx3) (fun _ => ?_)
 iterate 4 refine au ?_
 cases hF
 exact Er ()
def g_slices_IndexFunc_impl_Method_impl_Method_iAreMethods1_L1 (a_e1 : List Int) : List Method → Nat → Option (Int)
 | [], k4 => some (-1)
 | x6 :: rest5, k4 => (i_AreMethods_1 x6 a_e1).bind fun r16 =>
   if r16 then (
     some (k4 : Int))
   else (
     g_slices_IndexFunc_impl_Method_impl_Method_iAreMethods1_L1 a_e1 rest5 (k4 + 1))
def g_slices_IndexFunc_impl_Method_impl_Method_iAreMethods1 (a_s : List Method) (a_e1 : List Int) : Option (Int) :=
 g_slices_IndexFunc_impl_Method_impl_Method_iAreMethods1_L1 a_e1 a_s 0
theorem g_slices_IndexFunc_impl_Method_impl_Method_iAreMethods1_ok (a_s : List Method) (v0_0 : Sv) (kc1 : Nat) (a_e1 : List Int) (vc1_0 : Sv) (R : Int) (hF : g_slices_IndexFunc_impl_Method_impl_Method_iAreMethods1 a_s a_e1 = some R) :
   Fw.Spec Tryz.prog 138 [v0_0.v, (.func (.func 96) [].toArray [(.pointer (some ⟨kc1, 0, some 0⟩))].toArray)] [crd (RdS 77 rd77) v0_0.v a_s, cboR kc1 22 vc1_0.v, crd (RdS 3 rdInt) vc1_0.v a_e1] (fun _ : Unit => (.int .i64 R)) (fun _ => []) := by
 refine Spec_enter (n := 19) Tryz.func138 rfl rfl (rs := [.tmp 4]) rfl rfl rfl ?_
 intro H0 F0
 unfold g_slices_IndexFunc_impl_Method_impl_Method_iAreMethods1 at hF
 iterate 9 refine au ?_
 refine CW_block (CW_loop (m := a_s.length) (fun m2 f' cs' => ∃ (g : Fr) (k4 : Nat) (rest5 : List Method), m2 = rest5.length ∧ f' = updL g [(0, v0_0.v), (1, (.func (.func 96) [].toArray [(.pointer (some ⟨kc1, 0, some 0⟩))].toArray)), (7, (.int .i64 (a_s.length : Int))), (8, (.int .i64 (k4 : Int)))] ∧ List.drop k4 a_s = rest5 ∧ Ent cs' [crd (RdS 77 rd77) v0_0.v a_s, cboR kc1 22 vc1_0.v, crd (RdS 3 rdInt) vc1_0.v a_e1] ∧ g_slices_IndexFunc_impl_Method_impl_Method_iAreMethods1_L1 a_e1 rest5 k4 = some R) ⟨_, 0, _, rfl, eqA, rfl, entA, hF⟩ ?_)
 clear hF
 rintro m2 _ _ ⟨g3, k4, rest5, rfl, rfl, hd7, hE, hF⟩
 refine K_ent hE ?_
 clear hE
 refine K_pure (c := crd (RdS 77 rd77) v0_0.v a_s) .h crd_bound (fun hbd12 => ?_)
 rcases rest5 with _ | ⟨x6, rest5⟩
 · have hk8 := List.drop_eq_nil_iff.1 hd7
   rw [g_slices_IndexFunc_impl_Method_impl_Method_iAreMethods1_L1] at hF
   iterate 4 refine au ?_
   refine CdF ?_
   iterate 8 refine au ?_
   cases hF
   exact Er ()
 obtain ⟨hk8, hx9, hd10⟩ := drop_cons hd7
 rw [g_slices_IndexFunc_impl_Method_impl_Method_iAreMethods1_L1] at hF
 iterate 4 refine au ?_
 refine CdT ?_
 iterate 10 refine au ?_
 refine Ai hx9 (fun k13 j14 => ?_)
 refine AlA1 (ul77_0_77 x6) la77_0_77 (fun p15 => ?_)
 obtain ⟨r16, hx17, hF⟩ := bind_some hF
 refine C_x0 (.rd .h rfl (.rd (.t (.t (.t .h))) rfl (.rd (.t (.t (.t (.t .h)))) rfl .nil))) (X_callCS cf96.h (.tmp rfl rfl) (.cons (.tmp rfl rfl) .nil) (i_AreMethods_1_ok x6 p15 kc1 a_e1 vc1_0 _ hx17)) (fun _ => ?_)
 refine au ?_
 refine Cc (fun hb20 => ?_) (fun hb20 => ?_)
 · rw [if_pos hb20] at hF
   iterate 5 refine au ?_
   cases hF
   exact Er ()
 rw [if_neg (nt hb20)] at hF
 iterate 5 refine au ?_
 rw [wk k4]
 exact ⟨_, Nat.lt_succ_self _, _, k4 + 1, rest5, rfl, eqA, hd10, entA, hF⟩
def g_slices_ContainsFunc_impl_Method_impl_Method_iAreMethods1 (a_s : List Method) (a_e1 : List Int) : Option (Bool) :=
 (g_slices_IndexFunc_impl_Method_impl_Method_iAreMethods1 a_s a_e1).bind fun r1 =>
 some (decide ((0 : Int) ≤ r1))
theorem g_slices_ContainsFunc_impl_Method_impl_Method_iAreMethods1_ok (a_s : List Method) (v0_0 : Sv) (kc1 : Nat) (a_e1 : List Int) (vc1_0 : Sv) (R : Bool) (hF : g_slices_ContainsFunc_impl_Method_impl_Method_iAreMethods1 a_s a_e1 = some R) :
   Fw.Spec Tryz.prog 95 [v0_0.v, (.func (.func 96) [].toArray [(.pointer (some ⟨kc1, 0, some 0⟩))].toArray)] [crd (RdS 77 rd77) v0_0.v a_s, cboR kc1 22 vc1_0.v, crd (RdS 3 rdInt) vc1_0.v a_e1] (fun _ : Unit => (.bool R)) (fun _ => []) := by
 refine Spec_enter (n := 9) Tryz.func95 rfl rfl (rs := [.tmp 4]) rfl rfl rfl ?_
 intro H0 F0
 unfold g_slices_ContainsFunc_impl_Method_impl_Method_iAreMethods1 at hF
 iterate 6 refine au ?_
 obtain ⟨r1, hx2, hF⟩ := bind_some hF
 refine Cx0 (g_slices_IndexFunc_impl_Method_impl_Method_iAreMethods1_ok _ _ _ _ _ _ hx2) (fun _ => ?_)
 iterate 4 refine au ?_
 cases hF
 exact Er ()
def i_AreMethods (a_s : List Int) (a_l : List Method) : Option (Bool) :=
 ((i_IsSchema a_s).bind fun r4 =>
   bif r4 then (bif (decide (((a_l.length : Int) : Int) ≤ 5)) then ((g_slices_ContainsFunc_impl_Method_impl_Method_iAreMethods1 a_l a_s).bind fun r9 =>
       some (!r9))
     else (some false))
   else (some false)).bind fun o2 =>
 match o2 with
 | c12 => some c12
theorem i_AreMethods_ok (a_s : List Int) (v0_0 : Sv) (a_l : List Method) (v1_0 : Sv) (R : Bool) (hF : i_AreMethods a_s a_l = some R) :
   Fw.Spec Tryz.prog 61 [v0_0.v, v1_0.v] [crd (RdS 3 rdInt) v0_0.v a_s, crd (RdS 77 rd77) v1_0.v a_l] (fun _ : Unit => (.bool R)) (fun _ => []) := by
 refine Spec_enter (n := 18) Tryz.func61 rfl rfl (rs := [.tmp 4]) rfl rfl rfl ?_
 intro H0 F0
 unfold i_AreMethods at hF
 refine au ?_
 refine AbR (fun k1 => ?_)
 iterate 2 refine au ?_
 obtain ⟨o2, hio2, hO3⟩ := bind_some hF
 refine au ?_
 refine C_cut (fun f' cs' => ∃ (c12 : Bool) (g : Fr), c12 = o2 ∧ f' = updL g [(4, (.bool c12))] ∧ Ent cs' []) ?_ ?_
 · replace hF := hio2
   refine au ?_
   obtain ⟨r4, hx5, hF⟩ := bind_some hF
   refine Cx0 (i_IsSchema_ok _ _ _ hx5) (fun _ => ?_)
   refine au ?_
   rcases Bool.eq_false_or_eq_true r4 with hg7 | hg7
   · rw [hg7]
     try rw [hg7] at hF; dsimp only [cond_true, cond_false] at hF
     iterate 8 refine au ?_
     rcases Bool.eq_false_or_eq_true (decide (((a_l.length : Int) : Int) ≤ 5)) with hg8 | hg8
     · rw [hg8]
       try rw [hg8] at hF; dsimp only [cond_true, cond_false] at hF
       iterate 3 refine au ?_
       refine C_val (V_makeFunc (fn := .func 96) (vs := []) (us := [(.pointer (some ⟨k1, 0, some 0⟩))]) .nil (.cons (.tmp rfl rfl) .nil)) ?_
       refine au ?_
       obtain ⟨r9, hx10, hF⟩ := bind_some hF
       refine Cx0 (g_slices_ContainsFunc_impl_Method_impl_Method_iAreMethods1_ok _ _ _ _ _ _ hx10) (fun _ => ?_)
       iterate 5 refine au ?_
       cases hF
       exact ⟨_, _, rfl, eqA, entA⟩
     rw [hg8]
     try rw [hg8] at hF; dsimp only [cond_true, cond_false] at hF
     iterate 7 refine au ?_
     cases hF
     exact ⟨_, _, rfl, eqA, entA⟩
   rw [hg7]
   try rw [hg7] at hF; dsimp only [cond_true, cond_false] at hF
   iterate 12 refine au ?_
   cases hF
   exact ⟨_, _, rfl, eqA, entA⟩
 rintro _ _ ⟨c12, g13, rfl, rfl, hE⟩
 replace hF := hO3
 clear hO3
 try dsimp only at hF
 refine K_ent hE ?_
 refine au ?_
 cases hF
 exact Er ()
def i_isValue (a_n : Int) : Option (Bool) :=
 (i_within a_n 0 9).bind fun r1 =>
 some r1
theorem i_isValue_ok (a_n : Int) (R : Bool) (hF : i_isValue a_n = some R) :
   Fw.Spec Tryz.prog 85 [(.int .i64 a_n)] [] (fun _ : Unit => (.bool R)) (fun _ => []) := by
 refine Spec_enter (n := 5) Tryz.func85 rfl rfl (rs := [.tmp 2]) rfl rfl rfl ?_
 intro H0 F0
 unfold i_isValue at hF
 iterate 5 refine au ?_
 obtain ⟨r1, hx2, hF⟩ := bind_some hF
 refine Cx0 (i_within_ok _ _ _ _ hx2) (fun _ => ?_)
 iterate 3 refine au ?_
 cases hF
 exact Er ()
def i_IsVar (a_t : Int) : Option (Bool) :=
 (i_within a_t 10 17).bind fun r1 =>
 some r1
theorem i_IsVar_ok (a_t : Int) (R : Bool) (hF : i_IsVar a_t = some R) :
   Fw.Spec Tryz.prog 189 [(.int .i64 a_t)] [] (fun _ : Unit => (.bool R)) (fun _ => []) := by
 refine Spec_enter (n := 5) Tryz.func189 rfl rfl (rs := [.tmp 2]) rfl rfl rfl ?_
 intro H0 F0
 unfold i_IsVar at hF
 iterate 5 refine au ?_
 obtain ⟨r1, hx2, hF⟩ := bind_some hF
 refine Cx0 (i_within_ok _ _ _ _ hx2) (fun _ => ?_)
 iterate 3 refine au ?_
 cases hF
 exact Er ()
def i_IsTerm (a_t : Int) : Option (Bool) :=
 ((i_isValue a_t).bind fun r3 =>
   bif r3 then (some true)
   else ((i_IsVar a_t).bind fun r7 =>
     some r7)).bind fun o1 =>
 match o1 with
 | c10 => some c10
theorem i_IsTerm_ok (a_t : Int) (R : Bool) (hF : i_IsTerm a_t = some R) :
   Fw.Spec Tryz.prog 188 [(.int .i64 a_t)] [] (fun _ : Unit => (.bool R)) (fun _ => []) := by
 refine Spec_enter (n := 9) Tryz.func188 rfl rfl (rs := [.tmp 2]) rfl rfl rfl ?_
 intro H0 F0
 unfold i_IsTerm at hF
 iterate 3 refine au ?_
 obtain ⟨o1, hio1, hO2⟩ := bind_some hF
 refine au ?_
 refine C_cut (fun f' cs' => ∃ (c10 : Bool) (g : Fr), c10 = o1 ∧ f' = updL g [(2, (.bool c10))] ∧ Ent cs' []) ?_ ?_
 · replace hF := hio1
   refine au ?_
   obtain ⟨r3, hx4, hF⟩ := bind_some hF
   refine Cx0 (i_isValue_ok _ _ hx4) (fun _ => ?_)
   refine au ?_
   rcases Bool.eq_false_or_eq_true r3 with hg6 | hg6
   · rw [hg6]
     try rw [hg6] at hF; dsimp only [cond_true, cond_false] at hF
     iterate 5 refine au ?_
     cases hF
     exact ⟨_, _, rfl, eqA, entA⟩
   rw [hg6]
   try rw [hg6] at hF; dsimp only [cond_true, cond_false] at hF
   iterate 3 refine au ?_
   obtain ⟨r7, hx8, hF⟩ := bind_some hF
   refine Cx0 (i_IsVar_ok _ _ hx8) (fun _ => ?_)
   iterate 3 refine au ?_
   cases hF
   exact ⟨_, _, rfl, eqA, entA⟩
 rintro _ _ ⟨c10, g11, rfl, rfl, hE⟩
 replace hF := hO2
 clear hO2
 try dsimp only at hF
 refine K_ent hE ?_
 refine au ?_
 cases hF
 exact Er ()
def i_areTerms_1 (a_t : Int) : Option (Bool) :=
 (i_IsTerm a_t).bind fun r1 =>
 some (!r1)
theorem i_areTerms_1_ok (a_t : Int) (R : Bool) (hF : i_areTerms_1 a_t = some R) :
   Fw.Spec Tryz.prog 187 [(.int .i64 a_t)] [] (fun _ : Unit => (.bool R)) (fun _ => []) := by
 refine Spec_enter (n := 6) Tryz.func187 rfl rfl (rs := [.tmp 2]) rfl rfl rfl ?_
 intro H0 F0
 unfold i_areTerms_1 at hF
 iterate 5 refine au ?_
 obtain ⟨r1, hx2, hF⟩ := bind_some hF
 refine Cx0 (i_IsTerm_ok _ _ hx2) (fun _ => ?_)
 iterate 4 refine au ?_
 cases hF
 exact Er ()
def g_slices_IndexFunc_int_int_iareTerms1_L1 : List Int → Nat → Option (Int)
 | [], k4 => some (-1)
 | x6 :: rest5, k4 => (i_areTerms_1 x6).bind fun r15 =>
   if r15 then (
     some (k4 : Int))
   else (
     g_slices_IndexFunc_int_int_iareTerms1_L1 rest5 (k4 + 1))
def g_slices_IndexFunc_int_int_iareTerms1 (a_s : List Int) : Option (Int) :=
 g_slices_IndexFunc_int_int_iareTerms1_L1 a_s 0
theorem g_slices_IndexFunc_int_int_iareTerms1_ok (a_s : List Int) (v0_0 : Sv) (R : Int) (hF : g_slices_IndexFunc_int_int_iareTerms1 a_s = some R) :
   Fw.Spec Tryz.prog 157 [v0_0.v, (.func (.func 187) [].toArray [].toArray)] [crd (RdS 3 rdInt) v0_0.v a_s] (fun _ : Unit => (.int .i64 R)) (fun _ => []) := by
 refine Spec_enter (n := 19) Tryz.func157 rfl rfl (rs := [.tmp 4]) rfl rfl rfl ?_
 intro H0 F0
 unfold g_slices_IndexFunc_int_int_iareTerms1 at hF
 iterate 9 refine au ?_
 refine CW_block (CW_loop (m := a_s.length) (fun m2 f' cs' => ∃ (g : Fr) (k4 : Nat) (rest5 : List Int), m2 = rest5.length ∧ f' = updL g [(0, v0_0.v), (1, (.func (.func 187) [].toArray [].toArray)), (7, (.int .i64 (a_s.length : Int))), (8, (.int .i64 (k4 : Int)))] ∧ List.drop k4 a_s = rest5 ∧ Ent cs' [crd (RdS 3 rdInt) v0_0.v a_s] ∧ g_slices_IndexFunc_int_int_iareTerms1_L1 rest5 k4 = some R) ⟨_, 0, _, rfl, eqA, rfl, entA, hF⟩ ?_)
 clear hF
 rintro m2 _ _ ⟨g3, k4, rest5, rfl, rfl, hd7, hE, hF⟩
 refine K_ent hE ?_
 clear hE
 refine K_pure (c := crd (RdS 3 rdInt) v0_0.v a_s) .h crd_bound (fun hbd12 => ?_)
 rcases rest5 with _ | ⟨x6, rest5⟩
 · have hk8 := List.drop_eq_nil_iff.1 hd7
   rw [g_slices_IndexFunc_int_int_iareTerms1_L1] at hF
   iterate 4 refine au ?_
   refine CdF ?_
   iterate 8 refine au ?_
   cases hF
   exact Er ()
 obtain ⟨hk8, hx9, hd10⟩ := drop_cons hd7
 rw [g_slices_IndexFunc_int_int_iareTerms1_L1] at hF
 iterate 4 refine au ?_
 refine CdT ?_
 iterate 10 refine au ?_
 refine Ai hx9 (fun k13 j14 => ?_)
 refine Al ls3_0 ?_
 obtain ⟨r15, hx16, hF⟩ := bind_some hF
 refine C_x0 .nil (X_callCS cf187.h (.tmp rfl rfl) (.cons (.tmp rfl rfl) .nil) (i_areTerms_1_ok x6 _ hx16)) (fun _ => ?_)
 refine au ?_
 refine Cc (fun hb19 => ?_) (fun hb19 => ?_)
 · rw [if_pos hb19] at hF
   iterate 5 refine au ?_
   cases hF
   exact Er ()
 rw [if_neg (nt hb19)] at hF
 iterate 5 refine au ?_
 rw [wk k4]
 exact ⟨_, Nat.lt_succ_self _, _, k4 + 1, rest5, rfl, eqA, hd10, entA, hF⟩
def g_slices_ContainsFunc_int_int_iareTerms1 (a_s : List Int) : Option (Bool) :=
 (g_slices_IndexFunc_int_int_iareTerms1 a_s).bind fun r1 =>
 some (decide ((0 : Int) ≤ r1))
theorem g_slices_ContainsFunc_int_int_iareTerms1_ok (a_s : List Int) (v0_0 : Sv) (R : Bool) (hF : g_slices_ContainsFunc_int_int_iareTerms1 a_s = some R) :
   Fw.Spec Tryz.prog 120 [v0_0.v, (.func (.func 187) [].toArray [].toArray)] [crd (RdS 3 rdInt) v0_0.v a_s] (fun _ : Unit => (.bool R)) (fun _ => []) := by
 refine Spec_enter (n := 9) Tryz.func120 rfl rfl (rs := [.tmp 4]) rfl rfl rfl ?_
 intro H0 F0
 unfold g_slices_ContainsFunc_int_int_iareTerms1 at hF
 iterate 6 refine au ?_
 obtain ⟨r1, hx2, hF⟩ := bind_some hF
 refine Cx0 (g_slices_IndexFunc_int_int_iareTerms1_ok _ _ _ hx2) (fun _ => ?_)
 iterate 4 refine au ?_
 cases hF
 exact Er ()
def i_areTerms (a_l : List Int) : Option (Bool) :=
 (g_slices_ContainsFunc_int_int_iareTerms1 a_l).bind fun r1 =>
 some (!r1)
theorem i_areTerms_ok (a_l : List Int) (v0_0 : Sv) (R : Bool) (hF : i_areTerms a_l = some R) :
   Fw.Spec Tryz.prog 151 [v0_0.v] [crd (RdS 3 rdInt) v0_0.v a_l] (fun _ : Unit => (.bool R)) (fun _ => []) := by
 refine Spec_enter (n := 6) Tryz.func151 rfl rfl (rs := [.tmp 2]) rfl rfl rfl ?_
 intro H0 F0
 unfold i_areTerms at hF
 iterate 5 refine au ?_
 obtain ⟨r1, hx2, hF⟩ := bind_some hF
 refine Cx0 (g_slices_ContainsFunc_int_int_iareTerms1_ok _ _ _ hx2) (fun _ => ?_)
 iterate 4 refine au ?_
 cases hF
 exact Er ()
def i_IsAtom (a_s : List Int) (a_a : Atom) : Option (Bool) :=
 ((i_hasRel a_s a_a.Rel).bind fun r4 =>
   bif r4 then ((ix a_s a_a.Rel).bind fun x8 =>
     bif (((a_a.Terms.length : Int) : Int) == x8) then ((i_areTerms a_a.Terms).bind fun r15 =>
       some r15)
     else (some false))
   else (some false)).bind fun o2 =>
 match o2 with
 | c18 => some c18
theorem i_IsAtom_ok (a_s : List Int) (v0_0 : Sv) (a_a : Atom) (v1_1 : Sv) (R : Bool) (hF : i_IsAtom a_s a_a = some R) :
   Fw.Spec Tryz.prog 113 [v0_0.v, (.agg [(.int .i64 a_a.Rel), v1_1.v].toArray)] [crd (RdS 3 rdInt) v0_0.v a_s, crd (RdS 3 rdInt) v1_1.v a_a.Terms] (fun _ : Unit => (.bool R)) (fun _ => []) := by
 refine Spec_enter (n := 25) Tryz.func113 rfl rfl (rs := [.tmp 4]) rfl rfl rfl ?_
 intro H0 F0
 unfold i_IsAtom at hF
 refine au ?_
 refine AbR (fun k1 => ?_)
 iterate 2 refine au ?_
 obtain ⟨o2, hio2, hO3⟩ := bind_some hF
 refine K_draw [0, 1, 2, 3, 4, 5, 6, 7, 8, 9, 10, 11, 12, 13, 14, 15, 16, 17, 18, 19, 20] [0, 0, 2, 7, 15, 31, 63, 127, 31, 31, 543, 1823, 3871, 8191, 16383, 32767, 65535, 131071, 262143, 524287, 1048575] [3, 18] mixed (by decide +kernel) ?_
 refine D_cut (fun f' cs' => ∃ (c18 : Bool) (g : Fr), c18 = o2 ∧ f' = updL g [(4, (.bool c18))] ∧ Ent cs' []) ?_ ?_
 · replace hF := hio2
   iterate 3 refine du ?_
   obtain ⟨r4, hx5, hF⟩ := bind_some hF
   refine Dx0 (i_hasRel_ok _ _ _ _ hx5) (fun _ => ?_)
   refine du ?_
   rcases Bool.eq_false_or_eq_true r4 with hg7 | hg7
   · rw [hg7]
     try rw [hg7] at hF; dsimp only [cond_true, cond_false] at hF
     iterate 6 refine du ?_
     obtain ⟨x8, hx9, hF⟩ := bind_some hF
     obtain ⟨hp10, hx11⟩ := ix_some hx9
     refine Di hx11 (fun k12 j13 => ?_)
     refine Dl ls3_0 ?_
     iterate 3 refine du ?_
     rcases Bool.eq_false_or_eq_true (((a_a.Terms.length : Int) : Int) == x8) with hg14 | hg14
     · rw [hg14]
       try rw [hg14] at hF; dsimp only [cond_true, cond_false] at hF
       iterate 2 refine du ?_
       obtain ⟨r15, hx16, hF⟩ := bind_some hF
       refine Dx0 (i_areTerms_ok _ _ _ hx16) (fun _ => ?_)
       iterate 3 refine du ?_
       cases hF
       exact ⟨_, _, rfl, eqA, entA⟩
     rw [hg14]
     try rw [hg14] at hF; dsimp only [cond_true, cond_false] at hF
     iterate 6 refine du ?_
     cases hF
     exact ⟨_, _, rfl, eqA, entA⟩
   rw [hg7]
   try rw [hg7] at hF; dsimp only [cond_true, cond_false] at hF
   iterate 17 refine du ?_
   cases hF
   exact ⟨_, _, rfl, eqA, entA⟩
 rintro _ _ ⟨c18, g19, rfl, rfl, hE⟩
 replace hF := hO3
 clear hO3
 try dsimp only at hF
 refine K_ent hE ?_
 refine au ?_
 cases hF
 exact Er ()
def i_IsQuery_1 (a_a : Atom) (a_e1 : List Int) : Option (Bool) :=
 (i_IsAtom a_e1 a_a).bind fun r2 =>
 some (!r2)
theorem i_IsQuery_1_ok (a_a : Atom) (v0_1 : Sv) (kc1 : Nat) (a_e1 : List Int) (vc1_0 : Sv) (R : Bool) (hF : i_IsQuery_1 a_a a_e1 = some R) :
   Fw.Spec Tryz.prog 112 [(.agg [(.int .i64 a_a.Rel), v0_1.v].toArray), (.pointer (some ⟨kc1, 0, some 0⟩))] [crd (RdS 3 rdInt) v0_1.v a_a.Terms, cboR kc1 22 vc1_0.v, crd (RdS 3 rdInt) vc1_0.v a_e1] (fun _ : Unit => (.bool R)) (fun _ => []) := by
 refine Spec_enter (n := 8) Tryz.func112 rfl rfl (rs := [.tmp 3]) rfl rfl rfl ?_
 intro H0 F0
 unfold i_IsQuery_1 at hF
 refine au ?_
 refine AbR (fun k1 => ?_)
 iterate 5 refine au ?_
 obtain ⟨r2, hx3, hF⟩ := bind_some hF
 refine Cx0 (i_IsAtom_ok _ _ _ _ _ hx3) (fun _ => ?_)
 iterate 4 refine au ?_
 cases hF
 exact Er ()
def g_slices_IndexFunc_impl_Atom_impl_Atom_iIsQuery1_L1 (a_e1 : List Int) : List Atom → Nat → Option (Int)
 | [], k4 => some (-1)
 | x6 :: rest5, k4 => (i_IsQuery_1 x6 a_e1).bind fun r16 =>
   if r16 then (
     some (k4 : Int))
   else (
     g_slices_IndexFunc_impl_Atom_impl_Atom_iIsQuery1_L1 a_e1 rest5 (k4 + 1))
def g_slices_IndexFunc_impl_Atom_impl_Atom_iIsQuery1 (a_s : List Atom) (a_e1 : List Int) : Option (Int) :=
 g_slices_IndexFunc_impl_Atom_impl_Atom_iIsQuery1_L1 a_e1 a_s 0
theorem g_slices_IndexFunc_impl_Atom_impl_Atom_iIsQuery1_ok (a_s : List Atom) (v0_0 : Sv) (kc1 : Nat) (a_e1 : List Int) (vc1_0 : Sv) (R : Int) (hF : g_slices_IndexFunc_impl_Atom_impl_Atom_iIsQuery1 a_s a_e1 = some R) :
   Fw.Spec Tryz.prog 150 [v0_0.v, (.func (.func 112) [].toArray [(.pointer (some ⟨kc1, 0, some 0⟩))].toArray)] [crd (RdS 102 rd102) v0_0.v a_s, cboR kc1 22 vc1_0.v, crd (RdS 3 rdInt) vc1_0.v a_e1] (fun _ : Unit => (.int .i64 R)) (fun _ => []) := by
 refine Spec_enter (n := 19) Tryz.func150 rfl rfl (rs := [.tmp 4]) rfl rfl rfl ?_
 intro H0 F0
 unfold g_slices_IndexFunc_impl_Atom_impl_Atom_iIsQuery1 at hF
 iterate 9 refine au ?_
 refine CW_block (CW_loop (m := a_s.length) (fun m2 f' cs' => ∃ (g : Fr) (k4 : Nat) (rest5 : List Atom), m2 = rest5.length ∧ f' = updL g [(0, v0_0.v), (1, (.func (.func 112) [].toArray [(.pointer (some ⟨kc1, 0, some 0⟩))].toArray)), (7, (.int .i64 (a_s.length : Int))), (8, (.int .i64 (k4 : Int)))] ∧ List.drop k4 a_s = rest5 ∧ Ent cs' [crd (RdS 102 rd102) v0_0.v a_s, cboR kc1 22 vc1_0.v, crd (RdS 3 rdInt) vc1_0.v a_e1] ∧ g_slices_IndexFunc_impl_Atom_impl_Atom_iIsQuery1_L1 a_e1 rest5 k4 = some R) ⟨_, 0, _, rfl, eqA, rfl, entA, hF⟩ ?_)
 clear hF
 rintro m2 _ _ ⟨g3, k4, rest5, rfl, rfl, hd7, hE, hF⟩
 refine K_ent hE ?_
 clear hE
 refine K_pure (c := crd (RdS 102 rd102) v0_0.v a_s) .h crd_bound (fun hbd12 => ?_)
 rcases rest5 with _ | ⟨x6, rest5⟩
 · have hk8 := List.drop_eq_nil_iff.1 hd7
   rw [g_slices_IndexFunc_impl_Atom_impl_Atom_iIsQuery1_L1] at hF
   iterate 4 refine au ?_
   refine CdF ?_
   iterate 8 refine au ?_
   cases hF
   exact Er ()
 obtain ⟨hk8, hx9, hd10⟩ := drop_cons hd7
 rw [g_slices_IndexFunc_impl_Atom_impl_Atom_iIsQuery1_L1] at hF
 iterate 4 refine au ?_
 refine CdT ?_
 iterate 10 refine au ?_
 refine Ai hx9 (fun k13 j14 => ?_)
 refine AlA1 (ul102_0_102 x6) la102_0_102 (fun p15 => ?_)
 obtain ⟨r16, hx17, hF⟩ := bind_some hF
 refine C_x0 (.rd .h rfl (.rd (.t (.t (.t .h))) rfl (.rd (.t (.t (.t (.t .h)))) rfl .nil))) (X_callCS cf112.h (.tmp rfl rfl) (.cons (.tmp rfl rfl) .nil) (i_IsQuery_1_ok x6 p15 kc1 a_e1 vc1_0 _ hx17)) (fun _ => ?_)
 refine au ?_
 refine Cc (fun hb20 => ?_) (fun hb20 => ?_)
 · rw [if_pos hb20] at hF
   iterate 5 refine au ?_
   cases hF
   exact Er ()
 rw [if_neg (nt hb20)] at hF
 iterate 5 refine au ?_
 rw [wk k4]
 exact ⟨_, Nat.lt_succ_self _, _, k4 + 1, rest5, rfl, eqA, hd10, entA, hF⟩
def g_slices_ContainsFunc_impl_Atom_impl_Atom_iIsQuery1 (a_s : List Atom) (a_e1 : List Int) : Option (Bool) :=
 (g_slices_IndexFunc_impl_Atom_impl_Atom_iIsQuery1 a_s a_e1).bind fun r1 =>
 some (decide ((0 : Int) ≤ r1))
theorem g_slices_ContainsFunc_impl_Atom_impl_Atom_iIsQuery1_ok (a_s : List Atom) (v0_0 : Sv) (kc1 : Nat) (a_e1 : List Int) (vc1_0 : Sv) (R : Bool) (hF : g_slices_ContainsFunc_impl_Atom_impl_Atom_iIsQuery1 a_s a_e1 = some R) :
   Fw.Spec Tryz.prog 111 [v0_0.v, (.func (.func 112) [].toArray [(.pointer (some ⟨kc1, 0, some 0⟩))].toArray)] [crd (RdS 102 rd102) v0_0.v a_s, cboR kc1 22 vc1_0.v, crd (RdS 3 rdInt) vc1_0.v a_e1] (fun _ : Unit => (.bool R)) (fun _ => []) := by
 refine Spec_enter (n := 9) Tryz.func111 rfl rfl (rs := [.tmp 4]) rfl rfl rfl ?_
 intro H0 F0
 unfold g_slices_ContainsFunc_impl_Atom_impl_Atom_iIsQuery1 at hF
 iterate 6 refine au ?_
 obtain ⟨r1, hx2, hF⟩ := bind_some hF
 refine Cx0 (g_slices_IndexFunc_impl_Atom_impl_Atom_iIsQuery1_ok _ _ _ _ _ _ hx2) (fun _ => ?_)
 iterate 4 refine au ?_
 cases hF
 exact Er ()
def g_slices_Sort_int_int (a_x : List Int) : Option (List Int) :=
 some (a_x.mergeSort fun x y => decide (x ≤ y))
theorem g_slices_Sort_int_int_ok (a_x : List Int) (v0_0 : Sv) (F0_0 : List Nat) (R : List Int) (hF : g_slices_Sort_int_int a_x = some R) :
   Fw.Spec Tryz.prog 130 [v0_0.v] [cown (OwnS 3 (roE rdInt)) F0_0 v0_0.v a_x] (fun _ : List Nat => (.tuple [].toArray)) (fun p => [cown (OwnS 3 (roE rdInt)) p v0_0.v R]) := by
 cases hF
 exact Spec_sort ty3.h (Go.Proofs.Any.slices_Sort_int_none lays189) (Go.Proofs.Any.slices_Sort_int lays189)
def g_slices_Compact_int_int (a_x : List Int) : Option (List Int) :=
 some (Lib.compact a_x)
theorem g_slices_Compact_int_int_ok (a_x : List Int) (v0_0 : Sv) (F0_0 : List Nat) (R : List Int) (hF : g_slices_Compact_int_int a_x = some R) :
   Fw.Spec Tryz.prog 131 [v0_0.v] [cown (OwnS 3 (roE rdInt)) F0_0 v0_0.v a_x] (fun p : Sv × List Nat => p.1.v) (fun p => [cown (OwnS 3 (roE rdInt)) p.2 p.1.v R]) := by
 cases hF
 exact Spec_compact ty3.h compact_le rfl (Go.Proofs.Any.slices_Compact_int_empty lays2020) (Go.Proofs.Any.slices_Compact_int lays2020)
def i_termsOf_iIsVar_L2 : List Int → Nat → (List Int) → Option ((List Int))
 | [], k35, c29 => some c29
 | x37 :: rest36, k35, c29 => ((i_IsVar x37).bind fun r48 =>
     if r48 then (
       (app c29 ([x37] : List Int)).bind fun z52 =>
       some z52)
     else (
       some c29)).bind fun o44 =>
   match o44 with
   | c56 => i_termsOf_iIsVar_L2 rest36 (k35 + 1) c56
def i_termsOf_iIsVar_L1 : List Atom → Nat → (List Int) → Option ((List Int))
 | [], k8, c2 => (g_slices_Sort_int_int c2).bind fun r17 =>
   (g_slices_Compact_int_int r17).bind fun r20 =>
   some r20
 | x10 :: rest9, k8, c2 => (i_termsOf_iIsVar_L2 x10.Terms 0 c2).bind fun o23 =>
   match o23 with
   | c61 => i_termsOf_iIsVar_L1 rest9 (k8 + 1) c61
def i_termsOf_iIsVar (a_atoms : List Atom) : Option ((List Int)) :=
 i_termsOf_iIsVar_L1 a_atoms 0 ([] : List Int)
theorem i_termsOf_iIsVar_ok (a_atoms : List Atom) (v0_0 : Sv) (R : (List Int)) (hF : i_termsOf_iIsVar a_atoms = some R) :
   Fw.Spec Tryz.prog 84 [v0_0.v, (.func (.func 189) [].toArray [].toArray)] [crd (RdS 102 rd102) v0_0.v a_atoms] (fun p : Sv × List Nat => p.1.v) (fun p => [cown (OwnS 3 (roE rdInt)) p.2 p.1.v R]) := by
 refine Spec_enter (n := 37) Tryz.func84 rfl rfl (rs := [.tmp 4]) rfl rfl rfl ?_
 intro H0 F0
 unfold i_termsOf_iIsVar at hF
 iterate 4 refine au ?_
 refine C_new rfl (N_buildSliceT (g := true) sl22.h ty3.h .nil (vs := []) rfl rfl rfl (by simp)) (fun k1 => ?_)
 refine C_conv (.cons .h .nil) (own_lit (Ro := (roE rdInt)) (E := 3) (F := []) (xs := ([] : List Int)) MkL_nil rfl rfl) apps ?_
 iterate 8 refine au ?_
 refine CW_block (CW_loop (m := a_atoms.length) (fun m6 f' cs' => ∃ (g : Fr) (k8 : Nat) (rest9 : List Atom) (c2 : List Int) (v3 : Sv) (F4 : List Nat), m6 = rest9.length ∧ f' = updL g [(1, (.func (.func 189) [].toArray [].toArray)), (5, v3.v), (11, v0_0.v), (12, (.int .i64 (a_atoms.length : Int))), (13, (.int .i64 (k8 : Int)))] ∧ List.drop k8 a_atoms = rest9 ∧ Ent cs' [cown (OwnS 3 (roE rdInt)) F4 v3.v c2, crd (RdS 102 rd102) v0_0.v a_atoms] ∧ i_termsOf_iIsVar_L1 rest9 k8 c2 = some R) ⟨_, 0, _, _, ⟨(some ⟨k1, 0, none⟩), 0, 1⟩, (k1 :: []), rfl, (EqL.cons rfl (EqL.cons rfl (EqL.cons rfl (EqL.cons rfl (EqL.cons rfl (EqL.nil)))))).eq, rfl, (.sel (.cons .h (.rd .h rfl .nil))), hF⟩ ?_)
 clear hF
 rintro m6 _ _ ⟨g7, k8, rest9, c2, v3, F4, rfl, rfl, hd11, hE, hF⟩
 refine K_ent hE ?_
 clear hE
 refine K_pure (c := crd (RdS 102 rd102) v0_0.v a_atoms) (.t .h) crd_bound (fun hbd16 => ?_)
 rcases rest9 with _ | ⟨x10, rest9⟩
 · have hk12 := List.drop_eq_nil_iff.1 hd11
   have hfe15 : (decide (((k8 : Int) : Int) < (a_atoms.length : Int))) = false := decide_eq_false (by omega)
   rw [i_termsOf_iIsVar_L1] at hF
   iterate 4 refine au ?_
   refine CW_cond (b := (decide (((k8 : Int) : Int) < (a_atoms.length : Int)))) (.tmp rfl rfl) (fun hb => absurd (hfe15.symm.trans hb) (by decide)) (fun _ => ?_)
   iterate 6 refine au ?_
   obtain ⟨r17, hx18, hF⟩ := bind_some hF
   refine C_x1 (.cons .h .nil) (X_callS cf130.h (.cons (.tmp rfl rfl) .nil) (g_slices_Sort_int_int_ok c2 v3 F4 _ hx18)) (fun p19 => ?_)
   iterate 3 refine au ?_
   obtain ⟨r20, hx21, hF⟩ := bind_some hF
   refine C_x1 (.cons .h .nil) (X_callS cf131.h (.cons (.tmp rfl rfl) .nil) (g_slices_Compact_int_int_ok r17 v3 p19 _ hx21)) (fun p22 => ?_)
   iterate 3 refine au ?_
   obtain rfl := Option.some.inj hF
   exact End_ret (p22.1, p22.2) (.tmp rfl rfl .nil) rfl (.sel (.cons .h .nil))
 obtain ⟨hk12, hx13, hd14⟩ := drop_cons hd11
 have hfe15 : (decide (((k8 : Int) : Int) < (a_atoms.length : Int))) = true := decide_eq_true (by omega)
 rw [i_termsOf_iIsVar_L1] at hF
 iterate 4 refine au ?_
 refine CW_cond (b := (decide (((k8 : Int) : Int) < (a_atoms.length : Int)))) (.tmp rfl rfl) (fun _ => ?_) (fun hb => absurd (hfe15.symm.trans hb) (by decide))
 refine au ?_
 obtain ⟨o23, hio23, hO24⟩ := bind_some hF
 refine K_cut (fun f' cs' => ∃ (c61 : List Int) (v62 : Sv) (F63 : List Nat) (g : Fr), c61 = o23 ∧ f' = updL g [(1, (.func (.func 189) [].toArray [].toArray)), (5, v62.v), (11, v0_0.v), (12, (.int .i64 (a_atoms.length : Int))), (13, (.int .i64 (k8 : Int)))] ∧ Ent cs' [cown (OwnS 3 (roE rdInt)) F63 v62.v c61, crd (RdS 102 rd102) v0_0.v a_atoms]) ?_ ?_
 · replace hF := hio23
   refine CW_block (K_region (C_idx (a := x10) sl36.h ty102.h.sz (.tmp rfl rfl) (.tmp rfl rfl) (.t .h) (Int.natCast_nonneg k8) hx13 (fun k25 j26 => ?_)))
   refine C_ldA1 (ul102_0_102 x10) ag102.h ty102.h.sz rfl (.tmp rfl rfl) .h la102_0_102 (fun p27 => ?_)
   refine C_new rfl (N_allocT (g := true) ty102.h rfl rfl) (fun k28 => ?_)
   refine C_x1 (.cons .h .nil) (X_storeB (e' := (.agg [(.int .i64 x10.Rel), p27.v].toArray)) (v := (.agg [(.int .i64 x10.Rel), p27.v].toArray)) ty102.h.sz (.tmp rfl rfl) (.tmp rfl rfl) rfl rfl rfl rfl rfl) (fun _ => ?_)
   iterate 7 refine au ?_
   refine CW_block (CW_loop (m := x10.Terms.length) (fun m33 f' cs' => ∃ (g : Fr) (k35 : Nat) (rest36 : List Int) (c29 : List Int) (v30 : Sv) (F31 : List Nat), m33 = rest36.length ∧ f' = updL g [(1, (.func (.func 189) [].toArray [].toArray)), (5, v30.v), (11, v0_0.v), (12, (.int .i64 (a_atoms.length : Int))), (13, (.int .i64 (k8 : Int))), (18, p27.v), (19, (.int .i64 (x10.Terms.length : Int))), (20, (.int .i64 (k35 : Int)))] ∧ List.drop k35 x10.Terms = rest36 ∧ Ent cs' [cown (OwnS 3 (roE rdInt)) F31 v30.v c29, crd (RdS 102 rd102) v0_0.v a_atoms, crd (RdS 3 rdInt) p27.v x10.Terms] ∧ i_termsOf_iIsVar_L2 rest36 k35 c29 = some o23) ⟨_, 0, _, _, v3, F4, rfl, (EqL.cons rfl (EqL.cons rfl (EqL.cons rfl (EqL.cons rfl (EqL.cons rfl (EqL.cons rfl (EqL.cons rfl (EqL.cons rfl (EqL.nil))))))))).eq, rfl, (.sel (.cons (.t (.t (.t .h))) (.rd (.t (.t (.t .h))) rfl (.rd (.t .h) rfl .nil)))), hF⟩ ?_)
   clear hF
   rintro m33 _ _ ⟨g34, k35, rest36, c29, v30, F31, rfl, rfl, hd38, hE, hF⟩
   refine K_ent hE ?_
   clear hE
   refine K_pure (c := crd (RdS 3 rdInt) p27.v x10.Terms) (.t (.t .h)) crd_bound (fun hbd43 => ?_)
   rcases rest36 with _ | ⟨x37, rest36⟩
   · have hk39 := List.drop_eq_nil_iff.1 hd38
     have hfe42 : (decide (((k35 : Int) : Int) < (x10.Terms.length : Int))) = false := decide_eq_false (by omega)
     rw [i_termsOf_iIsVar_L2] at hF
     iterate 4 refine au ?_
     refine CW_cond (b := (decide (((k35 : Int) : Int) < (x10.Terms.length : Int)))) (.tmp rfl rfl) (fun hb => absurd (hfe42.symm.trans hb) (by decide)) (fun _ => ?_)
     iterate 4 refine au ?_
     obtain rfl := Option.some.inj hF
     exact ⟨_, v30, F31, _, rfl, (EqL.cons rfl (EqL.cons rfl (EqL.cons rfl (EqL.cons rfl (EqL.cons rfl (EqL.nil)))))).eq, (.sel (.cons .h (.rd .h rfl .nil)))⟩
   obtain ⟨hk39, hx40, hd41⟩ := drop_cons hd38
   have hfe42 : (decide (((k35 : Int) : Int) < (x10.Terms.length : Int))) = true := decide_eq_true (by omega)
   rw [i_termsOf_iIsVar_L2] at hF
   iterate 4 refine au ?_
   refine CW_cond (b := (decide (((k35 : Int) : Int) < (x10.Terms.length : Int)))) (.tmp rfl rfl) (fun _ => ?_) (fun hb => absurd (hfe42.symm.trans hb) (by decide))
   refine au ?_
   obtain ⟨o44, hio44, hO45⟩ := bind_some hF
   refine K_cut (fun f' cs' => ∃ (c56 : List Int) (v57 : Sv) (F58 : List Nat) (g : Fr), c56 = o44 ∧ f' = updL g [(1, (.func (.func 189) [].toArray [].toArray)), (5, v57.v), (11, v0_0.v), (12, (.int .i64 (a_atoms.length : Int))), (13, (.int .i64 (k8 : Int))), (18, p27.v), (19, (.int .i64 (x10.Terms.length : Int))), (20, (.int .i64 (k35 : Int)))] ∧ Ent cs' [cown (OwnS 3 (roE rdInt)) F58 v57.v c56, crd (RdS 102 rd102) v0_0.v a_atoms, crd (RdS 3 rdInt) p27.v x10.Terms]) ?_ ?_
   · replace hF := hio44
     refine CW_block (K_region (C_idx (a := x37) sl22.h ty3.h.sz (.tmp rfl rfl) (.tmp rfl rfl) (.t (.t .h)) (Int.natCast_nonneg k35) hx40 (fun k46 j47 => ?_)))
     refine C_ldS (w := (.int .i64 x37)) ag3.h (.tmp rfl rfl) .h ls3_0 ?_
     iterate 5 refine au ?_
     obtain ⟨r48, hx49, hF⟩ := bind_some hF
     refine C_x0 .nil (X_callCS cf189.h (.tmp rfl rfl) (.cons (.tmp rfl rfl) .nil) (i_IsVar_ok x37 _ hx49)) (fun _ => ?_)
     refine au ?_
     refine CW_cond (b := r48) (.tmp rfl rfl) (fun hb55 => ?_) (fun hb55 => ?_)
     · rw [if_pos hb55] at hF
       iterate 3 refine au ?_
       refine C_new rfl (N_buildSliceT (g := true) sl22.h ty3.h (.cons (.tmp rfl rfl) .nil) (vs := [(.int .i64 x37)]) rfl rfl rfl (by intro v hv; simp at hv; rcases hv with rfl <;> rfl)) (fun k51 => ?_)
       refine C_conv (.cons .h .nil) (own_lit (Ro := (roE rdInt)) (E := 3) (F := ([] ++ [])) (xs := ([x37] : List Int)) (MkL_cons (Mk_pure (fun _ => rfl)) MkL_nil apps) rfl rfl) apps ?_
       obtain ⟨z52, hx53, hF⟩ := bind_some hF
       refine C_x1 (.cons (.t (.t .h)) (.cons .h .nil)) (X_appendO (Ro := (roE rdInt)) sl22.h ni22 ty3.h rfl rfl rfl (.tmp rfl rfl) (.tmp rfl rfl) hx53 src_own) (fun p54 => ?_)
       iterate 2 refine au ?_
       obtain rfl := Option.some.inj hF
       exact ⟨_, p54.1, p54.2, _, rfl, (EqL.cons rfl (EqL.cons rfl (EqL.cons rfl (EqL.cons rfl (EqL.cons rfl (EqL.cons rfl (EqL.cons rfl (EqL.cons rfl (EqL.nil))))))))).eq, (.sel (.cons .h (.rd (.t .h) rfl (.rd (.t (.t .h)) rfl .nil))))⟩
     rw [if_neg (by rw [hb55]; exact Bool.false_ne_true)] at hF
     refine au ?_
     obtain rfl := Option.some.inj hF
     exact ⟨_, v30, F31, _, rfl, (EqL.cons rfl (EqL.cons rfl (EqL.cons rfl (EqL.cons rfl (EqL.cons rfl (EqL.cons rfl (EqL.cons rfl (EqL.cons rfl (EqL.nil))))))))).eq, (.sel (.cons (.t .h) (.rd (.t .h) rfl (.rd (.t (.t .h)) rfl .nil))))⟩
   rintro _ _ ⟨c56, v57, F58, g60, rfl, rfl, hE⟩
   replace hF := hO45
   clear hO45
   try dsimp only at hF
   refine K_ent hE ?_
   iterate 4 refine au ?_
   have hw59 : IntKind.i64.wrap ((k35 : Int) + 1) = ((k35 + 1 : Nat) : Int) := by rw [wrap_in (by omega) (by omega)]; rfl
   rw [hw59]
   exact ⟨_, Nat.lt_succ_self _, _, k35 + 1, rest36, _, v57, F58, rfl, (EqL.cons rfl (EqL.cons rfl (EqL.cons rfl (EqL.cons rfl (EqL.cons rfl (EqL.cons rfl (EqL.cons rfl (EqL.cons rfl (EqL.nil))))))))).eq, hd41, (.sel (.cons .h (.rd .h rfl (.rd (.t .h) rfl .nil)))), hF⟩
 rintro _ _ ⟨c61, v62, F63, g65, rfl, rfl, hE⟩
 replace hF := hO24
 clear hO24
 try dsimp only at hF
 refine K_ent hE ?_
 iterate 4 refine au ?_
 have hw64 : IntKind.i64.wrap ((k8 : Int) + 1) = ((k8 + 1 : Nat) : Int) := by rw [wrap_in (by omega) (by omega)]; rfl
 rw [hw64]
 exact ⟨_, Nat.lt_succ_self _, _, k8 + 1, rest9, _, v62, F63, rfl, (EqL.cons rfl (EqL.cons rfl (EqL.cons rfl (EqL.cons rfl (EqL.cons rfl (EqL.nil)))))).eq, hd14, (.sel (.cons .h (.rd .h rfl .nil))), hF⟩
def i_VarsOf (a_q : Query) : Option ((List Int)) :=
 (i_termsOf_iIsVar a_q.Atoms).bind fun r2 =>
 some r2
theorem i_VarsOf_ok (a_q : Query) (v0_0 : Sv) (v0_1 : Sv) (R : (List Int)) (hF : i_VarsOf a_q = some R) :
   Fw.Spec Tryz.prog 152 [(.agg [v0_0.v, v0_1.v].toArray)] [crd (RdS 3 rdInt) v0_0.v a_q.Head, crd (RdS 102 rd102) v0_1.v a_q.Atoms] (fun p : Sv × List Nat => p.1.v) (fun p => [cown (OwnS 3 (roE rdInt)) p.2 p.1.v R]) := by
 refine Spec_enter (n := 6) Tryz.func152 rfl rfl (rs := [.tmp 2]) rfl rfl rfl ?_
 intro H0 F0
 unfold i_VarsOf at hF
 refine au ?_
 refine AbR (fun k1 => ?_)
 iterate 5 refine au ?_
 obtain ⟨r2, hx3, hF⟩ := bind_some hF
 refine Cx1 (i_termsOf_iIsVar_ok _ _ _ hx3) (fun p4 => ?_)
 iterate 3 refine au ?_
 cases hF
 exact Er (p4.1, p4.2)
def g_slices_Index_int_int_L1 (a_v : Int) : List Int → Nat → Option (Int)
 | [], k4 => some (-1)
 | x6 :: rest5, k4 => if ((a_v : Int) == x6) then (
     some (k4 : Int))
   else (
     g_slices_Index_int_int_L1 a_v rest5 (k4 + 1))
def g_slices_Index_int_int (a_s : List Int) (a_v : Int) : Option (Int) :=
 g_slices_Index_int_int_L1 a_v a_s 0
theorem g_slices_Index_int_int_ok (a_s : List Int) (v0_0 : Sv) (a_v : Int) (R : Int) (hF : g_slices_Index_int_int a_s a_v = some R) :
   Fw.Spec Tryz.prog 190 [v0_0.v, (.int .i64 a_v)] [crd (RdS 3 rdInt) v0_0.v a_s] (fun _ : Unit => (.int .i64 R)) (fun _ => []) := by
 refine Spec_enter (n := 19) Tryz.func190 rfl rfl (rs := [.tmp 4]) rfl rfl rfl ?_
 intro H0 F0
 unfold g_slices_Index_int_int at hF
 iterate 9 refine au ?_
 refine CW_block (CW_loop (m := a_s.length) (fun m2 f' cs' => ∃ (g : Fr) (k4 : Nat) (rest5 : List Int), m2 = rest5.length ∧ f' = updL g [(0, v0_0.v), (1, (.int .i64 a_v)), (7, (.int .i64 (a_s.length : Int))), (8, (.int .i64 (k4 : Int)))] ∧ List.drop k4 a_s = rest5 ∧ Ent cs' [crd (RdS 3 rdInt) v0_0.v a_s] ∧ g_slices_Index_int_int_L1 a_v rest5 k4 = some R) ⟨_, 0, _, rfl, eqA, rfl, entA, hF⟩ ?_)
 clear hF
 rintro m2 _ _ ⟨g3, k4, rest5, rfl, rfl, hd7, hE, hF⟩
 refine K_ent hE ?_
 clear hE
 refine K_pure (c := crd (RdS 3 rdInt) v0_0.v a_s) .h crd_bound (fun hbd12 => ?_)
 rcases rest5 with _ | ⟨x6, rest5⟩
 · have hk8 := List.drop_eq_nil_iff.1 hd7
   rw [g_slices_Index_int_int_L1] at hF
   iterate 4 refine au ?_
   refine CdF ?_
   iterate 8 refine au ?_
   cases hF
   exact Er ()
 obtain ⟨hk8, hx9, hd10⟩ := drop_cons hd7
 rw [g_slices_Index_int_int_L1] at hF
 iterate 4 refine au ?_
 refine CdT ?_
 iterate 10 refine au ?_
 refine Ai hx9 (fun k13 j14 => ?_)
 refine Al ls3_0 ?_
 iterate 2 refine au ?_
 refine Cc (fun hb16 => ?_) (fun hb16 => ?_)
 · rw [if_pos hb16] at hF
   iterate 5 refine au ?_
   cases hF
   exact Er ()
 rw [if_neg (nt hb16)] at hF
 iterate 5 refine au ?_
 rw [wk k4]
 exact ⟨_, Nat.lt_succ_self _, _, k4 + 1, rest5, rfl, eqA, hd10, entA, hF⟩
def g_slices_Contains_int_int (a_s : List Int) (a_v : Int) : Option (Bool) :=
 (g_slices_Index_int_int a_s a_v).bind fun r1 =>
 some (decide ((0 : Int) ≤ r1))
theorem g_slices_Contains_int_int_ok (a_s : List Int) (v0_0 : Sv) (a_v : Int) (R : Bool) (hF : g_slices_Contains_int_int a_s a_v = some R) :
   Fw.Spec Tryz.prog 154 [v0_0.v, (.int .i64 a_v)] [crd (RdS 3 rdInt) v0_0.v a_s] (fun _ : Unit => (.bool R)) (fun _ => []) := by
 refine Spec_enter (n := 9) Tryz.func154 rfl rfl (rs := [.tmp 4]) rfl rfl rfl ?_
 intro H0 F0
 unfold g_slices_Contains_int_int at hF
 iterate 6 refine au ?_
 obtain ⟨r1, hx2, hF⟩ := bind_some hF
 refine Cx0 (g_slices_Index_int_int_ok _ _ _ _ hx2) (fun _ => ?_)
 iterate 4 refine au ?_
 cases hF
 exact Er ()
def i_hasHead_1 (a_t : Int) (a_e1 : List Int) : Option (Bool) :=
 (g_slices_Contains_int_int a_e1 a_t).bind fun r1 =>
 some (!r1)
theorem i_hasHead_1_ok (a_t : Int) (kc1 : Nat) (a_e1 : List Int) (vc1_0 : Sv) (R : Bool) (hF : i_hasHead_1 a_t a_e1 = some R) :
   Fw.Spec Tryz.prog 153 [(.int .i64 a_t), (.pointer (some ⟨kc1, 0, some 0⟩))] [cboR kc1 22 vc1_0.v, crd (RdS 3 rdInt) vc1_0.v a_e1] (fun _ : Unit => (.bool R)) (fun _ => []) := by
 refine Spec_enter (n := 8) Tryz.func153 rfl rfl (rs := [.tmp 3]) rfl rfl rfl ?_
 intro H0 F0
 unfold i_hasHead_1 at hF
 iterate 6 refine au ?_
 obtain ⟨r1, hx2, hF⟩ := bind_some hF
 refine Cx0 (g_slices_Contains_int_int_ok _ _ _ _ hx2) (fun _ => ?_)
 iterate 4 refine au ?_
 cases hF
 exact Er ()
def g_slices_IndexFunc_int_int_ihasHead1_L1 (a_e1 : List Int) : List Int → Nat → Option (Int)
 | [], k4 => some (-1)
 | x6 :: rest5, k4 => (i_hasHead_1 x6 a_e1).bind fun r15 =>
   if r15 then (
     some (k4 : Int))
   else (
     g_slices_IndexFunc_int_int_ihasHead1_L1 a_e1 rest5 (k4 + 1))
def g_slices_IndexFunc_int_int_ihasHead1 (a_s : List Int) (a_e1 : List Int) : Option (Int) :=
 g_slices_IndexFunc_int_int_ihasHead1_L1 a_e1 a_s 0
theorem g_slices_IndexFunc_int_int_ihasHead1_ok (a_s : List Int) (v0_0 : Sv) (kc1 : Nat) (a_e1 : List Int) (vc1_0 : Sv) (R : Int) (hF : g_slices_IndexFunc_int_int_ihasHead1 a_s a_e1 = some R) :
   Fw.Spec Tryz.prog 157 [v0_0.v, (.func (.func 153) [].toArray [(.pointer (some ⟨kc1, 0, some 0⟩))].toArray)] [crd (RdS 3 rdInt) v0_0.v a_s, cboR kc1 22 vc1_0.v, crd (RdS 3 rdInt) vc1_0.v a_e1] (fun _ : Unit => (.int .i64 R)) (fun _ => []) := by
 refine Spec_enter (n := 19) Tryz.func157 rfl rfl (rs := [.tmp 4]) rfl rfl rfl ?_
 intro H0 F0
 unfold g_slices_IndexFunc_int_int_ihasHead1 at hF
 iterate 9 refine au ?_
 refine CW_block (CW_loop (m := a_s.length) (fun m2 f' cs' => ∃ (g : Fr) (k4 : Nat) (rest5 : List Int), m2 = rest5.length ∧ f' = updL g [(0, v0_0.v), (1, (.func (.func 153) [].toArray [(.pointer (some ⟨kc1, 0, some 0⟩))].toArray)), (7, (.int .i64 (a_s.length : Int))), (8, (.int .i64 (k4 : Int)))] ∧ List.drop k4 a_s = rest5 ∧ Ent cs' [crd (RdS 3 rdInt) v0_0.v a_s, cboR kc1 22 vc1_0.v, crd (RdS 3 rdInt) vc1_0.v a_e1] ∧ g_slices_IndexFunc_int_int_ihasHead1_L1 a_e1 rest5 k4 = some R) ⟨_, 0, _, rfl, eqA, rfl, entA, hF⟩ ?_)
 clear hF
 rintro m2 _ _ ⟨g3, k4, rest5, rfl, rfl, hd7, hE, hF⟩
 refine K_ent hE ?_
 clear hE
 refine K_pure (c := crd (RdS 3 rdInt) v0_0.v a_s) .h crd_bound (fun hbd12 => ?_)
 rcases rest5 with _ | ⟨x6, rest5⟩
 · have hk8 := List.drop_eq_nil_iff.1 hd7
   rw [g_slices_IndexFunc_int_int_ihasHead1_L1] at hF
   iterate 4 refine au ?_
   refine CdF ?_
   iterate 8 refine au ?_
   cases hF
   exact Er ()
 obtain ⟨hk8, hx9, hd10⟩ := drop_cons hd7
 rw [g_slices_IndexFunc_int_int_ihasHead1_L1] at hF
 iterate 4 refine au ?_
 refine CdT ?_
 iterate 10 refine au ?_
 refine Ai hx9 (fun k13 j14 => ?_)
 refine Al ls3_0 ?_
 obtain ⟨r15, hx16, hF⟩ := bind_some hF
 refine C_x0 (.rd (.t (.t .h)) rfl (.rd (.t (.t (.t .h))) rfl .nil)) (X_callCS cf153.h (.tmp rfl rfl) (.cons (.tmp rfl rfl) .nil) (i_hasHead_1_ok x6 kc1 a_e1 vc1_0 _ hx16)) (fun _ => ?_)
 refine au ?_
 refine Cc (fun hb19 => ?_) (fun hb19 => ?_)
 · rw [if_pos hb19] at hF
   iterate 5 refine au ?_
   cases hF
   exact Er ()
 rw [if_neg (nt hb19)] at hF
 iterate 5 refine au ?_
 rw [wk k4]
 exact ⟨_, Nat.lt_succ_self _, _, k4 + 1, rest5, rfl, eqA, hd10, entA, hF⟩
def g_slices_ContainsFunc_int_int_ihasHead1 (a_s : List Int) (a_e1 : List Int) : Option (Bool) :=
 (g_slices_IndexFunc_int_int_ihasHead1 a_s a_e1).bind fun r1 =>
 some (decide ((0 : Int) ≤ r1))
theorem g_slices_ContainsFunc_int_int_ihasHead1_ok (a_s : List Int) (v0_0 : Sv) (kc1 : Nat) (a_e1 : List Int) (vc1_0 : Sv) (R : Bool) (hF : g_slices_ContainsFunc_int_int_ihasHead1 a_s a_e1 = some R) :
   Fw.Spec Tryz.prog 120 [v0_0.v, (.func (.func 153) [].toArray [(.pointer (some ⟨kc1, 0, some 0⟩))].toArray)] [crd (RdS 3 rdInt) v0_0.v a_s, cboR kc1 22 vc1_0.v, crd (RdS 3 rdInt) vc1_0.v a_e1] (fun _ : Unit => (.bool R)) (fun _ => []) := by
 refine Spec_enter (n := 9) Tryz.func120 rfl rfl (rs := [.tmp 4]) rfl rfl rfl ?_
 intro H0 F0
 unfold g_slices_ContainsFunc_int_int_ihasHead1 at hF
 iterate 6 refine au ?_
 obtain ⟨r1, hx2, hF⟩ := bind_some hF
 refine Cx0 (g_slices_IndexFunc_int_int_ihasHead1_ok _ _ _ _ _ _ hx2) (fun _ => ?_)
 iterate 4 refine au ?_
 cases hF
 exact Er ()
def i_hasHead (a_q : Query) : Option (Bool) :=
 (i_VarsOf a_q).bind fun r2 =>
 (bif (decide (((a_q.Head.length : Int) : Int) ≤ 3)) then ((g_slices_ContainsFunc_int_int_ihasHead1 a_q.Head r2).bind fun r11 =>
     some (!r11))
   else (some false)).bind fun o8 =>
 match o8 with
 | c14 => some c14
theorem i_hasHead_ok (a_q : Query) (v0_0 : Sv) (v0_1 : Sv) (R : Bool) (hF : i_hasHead a_q = some R) :
   Fw.Spec Tryz.prog 114 [(.agg [v0_0.v, v0_1.v].toArray)] [crd (RdS 3 rdInt) v0_0.v a_q.Head, crd (RdS 102 rd102) v0_1.v a_q.Atoms] (fun _ : Unit => (.bool R)) (fun _ => []) := by
 refine Spec_enter (n := 17) Tryz.func114 rfl rfl (rs := [.tmp 2]) rfl rfl rfl ?_
 intro H0 F0
 unfold i_hasHead at hF
 refine au ?_
 refine AbR (fun k1 => ?_)
 iterate 4 refine au ?_
 obtain ⟨r2, hx3, hF⟩ := bind_some hF
 refine Cx1 (i_VarsOf_ok _ _ _ _ hx3) (fun p4 => ?_)
 refine AnW (fun k5 => ?_)
 refine As p4.1.v ?_
 refine au ?_
 refine K_frz .h frz_blk ?_
 refine K_frz (.t .h) frz_own ?_
 obtain ⟨o8, hio8, hO9⟩ := bind_some hF
 refine au ?_
 refine C_cut (fun f' cs' => ∃ (c14 : Bool) (g : Fr), c14 = o8 ∧ f' = updL g [(2, (.bool c14))] ∧ Ent cs' []) ?_ ?_
 · replace hF := hio8
   iterate 5 refine au ?_
   rcases Bool.eq_false_or_eq_true (decide (((a_q.Head.length : Int) : Int) ≤ 3)) with hg10 | hg10
   · rw [hg10]
     try rw [hg10] at hF; dsimp only [cond_true, cond_false] at hF
     iterate 5 refine au ?_
     refine C_val (V_makeFunc (fn := .func 153) (vs := []) (us := [(.pointer (some ⟨k5, 0, some 0⟩))]) .nil (.cons (.tmp rfl rfl) .nil)) ?_
     refine au ?_
     obtain ⟨r11, hx12, hF⟩ := bind_some hF
     refine Cx0 (g_slices_ContainsFunc_int_int_ihasHead1_ok _ _ _ _ _ _ hx12) (fun _ => ?_)
     iterate 5 refine au ?_
     cases hF
     exact ⟨_, _, rfl, eqA, entA⟩
   rw [hg10]
   try rw [hg10] at hF; dsimp only [cond_true, cond_false] at hF
   iterate 8 refine au ?_
   cases hF
   exact ⟨_, _, rfl, eqA, entA⟩
 rintro _ _ ⟨c14, g15, rfl, rfl, hE⟩
 replace hF := hO9
 clear hO9
 try dsimp only at hF
 refine K_ent hE ?_
 refine au ?_
 cases hF
 exact Er ()
def i_IsQuery (a_s : List Int) (a_q : Query) : Option (Bool) :=
 ((i_IsSchema a_s).bind fun r5 =>
   bif r5 then ((i_within (a_q.Atoms.length : Int) 1 4).bind fun r9 =>
     bif r9 then ((g_slices_ContainsFunc_impl_Atom_impl_Atom_iIsQuery1 a_q.Atoms a_s).bind fun r13 =>
       bif (!r13) then ((i_hasHead a_q).bind fun r17 =>
         some r17)
       else (some false))
     else (some false))
   else (some false)).bind fun o3 =>
 match o3 with
 | c20 => some c20
theorem i_IsQuery_ok (a_s : List Int) (v0_0 : Sv) (a_q : Query) (v1_0 : Sv) (v1_1 : Sv) (R : Bool) (hF : i_IsQuery a_s a_q = some R) :
   Fw.Spec Tryz.prog 76 [v0_0.v, (.agg [v1_0.v, v1_1.v].toArray)] [crd (RdS 3 rdInt) v0_0.v a_s, crd (RdS 3 rdInt) v1_0.v a_q.Head, crd (RdS 102 rd102) v1_1.v a_q.Atoms] (fun _ : Unit => (.bool R)) (fun _ => []) := by
 refine Spec_enter (n := 24) Tryz.func76 rfl rfl (rs := [.tmp 4]) rfl rfl rfl ?_
 intro H0 F0
 unfold i_IsQuery at hF
 refine au ?_
 refine AbR (fun k1 => ?_)
 refine AbR (fun k2 => ?_)
 iterate 2 refine au ?_
 obtain ⟨o3, hio3, hO4⟩ := bind_some hF
 refine au ?_
 refine C_cut (fun f' cs' => ∃ (c20 : Bool) (g : Fr), c20 = o3 ∧ f' = updL g [(4, (.bool c20))] ∧ Ent cs' []) ?_ ?_
 · replace hF := hio3
   refine au ?_
   obtain ⟨r5, hx6, hF⟩ := bind_some hF
   refine Cx0 (i_IsSchema_ok _ _ _ hx6) (fun _ => ?_)
   refine au ?_
   rcases Bool.eq_false_or_eq_true r5 with hg8 | hg8
   · rw [hg8]
     try rw [hg8] at hF; dsimp only [cond_true, cond_false] at hF
     iterate 7 refine au ?_
     obtain ⟨r9, hx10, hF⟩ := bind_some hF
     refine Cx0 (i_within_ok _ _ _ _ hx10) (fun _ => ?_)
     iterate 2 refine au ?_
     rcases Bool.eq_false_or_eq_true r9 with hg12 | hg12
     · rw [hg12]
       try rw [hg12] at hF; dsimp only [cond_true, cond_false] at hF
       iterate 5 refine au ?_
       refine C_val (V_makeFunc (fn := .func 112) (vs := []) (us := [(.pointer (some ⟨k1, 0, some 0⟩))]) .nil (.cons (.tmp rfl rfl) .nil)) ?_
       refine au ?_
       obtain ⟨r13, hx14, hF⟩ := bind_some hF
       refine Cx0 (g_slices_ContainsFunc_impl_Atom_impl_Atom_iIsQuery1_ok _ _ _ _ _ _ hx14) (fun _ => ?_)
       iterate 4 refine au ?_
       rcases Bool.eq_false_or_eq_true (!r13) with hg16 | hg16
       · rw [hg16]
         try rw [hg16] at hF; dsimp only [cond_true, cond_false] at hF
         iterate 3 refine au ?_
         obtain ⟨r17, hx18, hF⟩ := bind_some hF
         refine Cx0 (i_hasHead_ok _ _ _ _ hx18) (fun _ => ?_)
         iterate 3 refine au ?_
         cases hF
         exact ⟨_, _, rfl, eqA, entA⟩
       rw [hg16]
       try rw [hg16] at hF; dsimp only [cond_true, cond_false] at hF
       iterate 5 refine au ?_
       cases hF
       exact ⟨_, _, rfl, eqA, entA⟩
     rw [hg12]
     try rw [hg12] at hF; dsimp only [cond_true, cond_false] at hF
     iterate 12 refine au ?_
     cases hF
     exact ⟨_, _, rfl, eqA, entA⟩
   rw [hg8]
   try rw [hg8] at hF; dsimp only [cond_true, cond_false] at hF
   iterate 18 refine au ?_
   cases hF
   exact ⟨_, _, rfl, eqA, entA⟩
 rintro _ _ ⟨c20, g21, rfl, rfl, hE⟩
 replace hF := hO4
 clear hO4
 try dsimp only at hF
 refine K_ent hE ?_
 refine au ?_
 cases hF
 exact Er ()
def i_areValues_1 (a_n : Int) : Option (Bool) :=
 (i_isValue a_n).bind fun r1 =>
 some (!r1)
theorem i_areValues_1_ok (a_n : Int) (R : Bool) (hF : i_areValues_1 a_n = some R) :
   Fw.Spec Tryz.prog 155 [(.int .i64 a_n)] [] (fun _ : Unit => (.bool R)) (fun _ => []) := by
 refine Spec_enter (n := 6) Tryz.func155 rfl rfl (rs := [.tmp 2]) rfl rfl rfl ?_
 intro H0 F0
 unfold i_areValues_1 at hF
 iterate 5 refine au ?_
 obtain ⟨r1, hx2, hF⟩ := bind_some hF
 refine Cx0 (i_isValue_ok _ _ hx2) (fun _ => ?_)
 iterate 4 refine au ?_
 cases hF
 exact Er ()
def g_slices_IndexFunc_int_int_iareValues1_L1 : List Int → Nat → Option (Int)
 | [], k4 => some (-1)
 | x6 :: rest5, k4 => (i_areValues_1 x6).bind fun r15 =>
   if r15 then (
     some (k4 : Int))
   else (
     g_slices_IndexFunc_int_int_iareValues1_L1 rest5 (k4 + 1))
def g_slices_IndexFunc_int_int_iareValues1 (a_s : List Int) : Option (Int) :=
 g_slices_IndexFunc_int_int_iareValues1_L1 a_s 0
theorem g_slices_IndexFunc_int_int_iareValues1_ok (a_s : List Int) (v0_0 : Sv) (R : Int) (hF : g_slices_IndexFunc_int_int_iareValues1 a_s = some R) :
   Fw.Spec Tryz.prog 157 [v0_0.v, (.func (.func 155) [].toArray [].toArray)] [crd (RdS 3 rdInt) v0_0.v a_s] (fun _ : Unit => (.int .i64 R)) (fun _ => []) := by
 refine Spec_enter (n := 19) Tryz.func157 rfl rfl (rs := [.tmp 4]) rfl rfl rfl ?_
 intro H0 F0
 unfold g_slices_IndexFunc_int_int_iareValues1 at hF
 iterate 9 refine au ?_
 refine CW_block (CW_loop (m := a_s.length) (fun m2 f' cs' => ∃ (g : Fr) (k4 : Nat) (rest5 : List Int), m2 = rest5.length ∧ f' = updL g [(0, v0_0.v), (1, (.func (.func 155) [].toArray [].toArray)), (7, (.int .i64 (a_s.length : Int))), (8, (.int .i64 (k4 : Int)))] ∧ List.drop k4 a_s = rest5 ∧ Ent cs' [crd (RdS 3 rdInt) v0_0.v a_s] ∧ g_slices_IndexFunc_int_int_iareValues1_L1 rest5 k4 = some R) ⟨_, 0, _, rfl, eqA, rfl, entA, hF⟩ ?_)
 clear hF
 rintro m2 _ _ ⟨g3, k4, rest5, rfl, rfl, hd7, hE, hF⟩
 refine K_ent hE ?_
 clear hE
 refine K_pure (c := crd (RdS 3 rdInt) v0_0.v a_s) .h crd_bound (fun hbd12 => ?_)
 rcases rest5 with _ | ⟨x6, rest5⟩
 · have hk8 := List.drop_eq_nil_iff.1 hd7
   rw [g_slices_IndexFunc_int_int_iareValues1_L1] at hF
   iterate 4 refine au ?_
   refine CdF ?_
   iterate 8 refine au ?_
   cases hF
   exact Er ()
 obtain ⟨hk8, hx9, hd10⟩ := drop_cons hd7
 rw [g_slices_IndexFunc_int_int_iareValues1_L1] at hF
 iterate 4 refine au ?_
 refine CdT ?_
 iterate 10 refine au ?_
 refine Ai hx9 (fun k13 j14 => ?_)
 refine Al ls3_0 ?_
 obtain ⟨r15, hx16, hF⟩ := bind_some hF
 refine C_x0 .nil (X_callCS cf155.h (.tmp rfl rfl) (.cons (.tmp rfl rfl) .nil) (i_areValues_1_ok x6 _ hx16)) (fun _ => ?_)
 refine au ?_
 refine Cc (fun hb19 => ?_) (fun hb19 => ?_)
 · rw [if_pos hb19] at hF
   iterate 5 refine au ?_
   cases hF
   exact Er ()
 rw [if_neg (nt hb19)] at hF
 iterate 5 refine au ?_
 rw [wk k4]
 exact ⟨_, Nat.lt_succ_self _, _, k4 + 1, rest5, rfl, eqA, hd10, entA, hF⟩
def g_slices_ContainsFunc_int_int_iareValues1 (a_s : List Int) : Option (Bool) :=
 (g_slices_IndexFunc_int_int_iareValues1 a_s).bind fun r1 =>
 some (decide ((0 : Int) ≤ r1))
theorem g_slices_ContainsFunc_int_int_iareValues1_ok (a_s : List Int) (v0_0 : Sv) (R : Bool) (hF : g_slices_ContainsFunc_int_int_iareValues1 a_s = some R) :
   Fw.Spec Tryz.prog 120 [v0_0.v, (.func (.func 155) [].toArray [].toArray)] [crd (RdS 3 rdInt) v0_0.v a_s] (fun _ : Unit => (.bool R)) (fun _ => []) := by
 refine Spec_enter (n := 9) Tryz.func120 rfl rfl (rs := [.tmp 4]) rfl rfl rfl ?_
 intro H0 F0
 unfold g_slices_ContainsFunc_int_int_iareValues1 at hF
 iterate 6 refine au ?_
 obtain ⟨r1, hx2, hF⟩ := bind_some hF
 refine Cx0 (g_slices_IndexFunc_int_int_iareValues1_ok _ _ _ hx2) (fun _ => ?_)
 iterate 4 refine au ?_
 cases hF
 exact Er ()
def i_areValues (a_l : List Int) : Option (Bool) :=
 (g_slices_ContainsFunc_int_int_iareValues1 a_l).bind fun r1 =>
 some (!r1)
theorem i_areValues_ok (a_l : List Int) (v0_0 : Sv) (R : Bool) (hF : i_areValues a_l = some R) :
   Fw.Spec Tryz.prog 116 [v0_0.v] [crd (RdS 3 rdInt) v0_0.v a_l] (fun _ : Unit => (.bool R)) (fun _ => []) := by
 refine Spec_enter (n := 6) Tryz.func116 rfl rfl (rs := [.tmp 2]) rfl rfl rfl ?_
 intro H0 F0
 unfold i_areValues at hF
 iterate 5 refine au ?_
 obtain ⟨r1, hx2, hF⟩ := bind_some hF
 refine Cx0 (g_slices_ContainsFunc_int_int_iareValues1_ok _ _ _ hx2) (fun _ => ?_)
 iterate 4 refine au ?_
 cases hF
 exact Er ()
def i_IsFact (a_s : List Int) (a_f : Fact) : Option (Bool) :=
 ((i_hasRel a_s a_f.Rel).bind fun r4 =>
   bif r4 then ((ix a_s a_f.Rel).bind fun x8 =>
     bif (((a_f.Values.length : Int) : Int) == x8) then ((i_areValues a_f.Values).bind fun r15 =>
       some r15)
     else (some false))
   else (some false)).bind fun o2 =>
 match o2 with
 | c18 => some c18
theorem i_IsFact_ok (a_s : List Int) (v0_0 : Sv) (a_f : Fact) (v1_1 : Sv) (R : Bool) (hF : i_IsFact a_s a_f = some R) :
   Fw.Spec Tryz.prog 77 [v0_0.v, (.agg [(.int .i64 a_f.Rel), v1_1.v].toArray)] [crd (RdS 3 rdInt) v0_0.v a_s, crd (RdS 3 rdInt) v1_1.v a_f.Values] (fun _ : Unit => (.bool R)) (fun _ => []) := by
 refine Spec_enter (n := 25) Tryz.func77 rfl rfl (rs := [.tmp 4]) rfl rfl rfl ?_
 intro H0 F0
 unfold i_IsFact at hF
 refine au ?_
 refine AbR (fun k1 => ?_)
 iterate 2 refine au ?_
 obtain ⟨o2, hio2, hO3⟩ := bind_some hF
 refine K_draw [0, 1, 2, 3, 4, 5, 6, 7, 8, 9, 10, 11, 12, 13, 14, 15, 16, 17, 18, 19, 20] [0, 0, 2, 7, 15, 31, 63, 127, 31, 31, 543, 1823, 3871, 8191, 16383, 32767, 65535, 131071, 262143, 524287, 1048575] [3, 18] mixed (by decide +kernel) ?_
 refine D_cut (fun f' cs' => ∃ (c18 : Bool) (g : Fr), c18 = o2 ∧ f' = updL g [(4, (.bool c18))] ∧ Ent cs' []) ?_ ?_
 · replace hF := hio2
   iterate 3 refine du ?_
   obtain ⟨r4, hx5, hF⟩ := bind_some hF
   refine Dx0 (i_hasRel_ok _ _ _ _ hx5) (fun _ => ?_)
   refine du ?_
   rcases Bool.eq_false_or_eq_true r4 with hg7 | hg7
   · rw [hg7]
     try rw [hg7] at hF; dsimp only [cond_true, cond_false] at hF
     iterate 6 refine du ?_
     obtain ⟨x8, hx9, hF⟩ := bind_some hF
     obtain ⟨hp10, hx11⟩ := ix_some hx9
     refine Di hx11 (fun k12 j13 => ?_)
     refine Dl ls3_0 ?_
     iterate 3 refine du ?_
     rcases Bool.eq_false_or_eq_true (((a_f.Values.length : Int) : Int) == x8) with hg14 | hg14
     · rw [hg14]
       try rw [hg14] at hF; dsimp only [cond_true, cond_false] at hF
       iterate 2 refine du ?_
       obtain ⟨r15, hx16, hF⟩ := bind_some hF
       refine Dx0 (i_areValues_ok _ _ _ hx16) (fun _ => ?_)
       iterate 3 refine du ?_
       cases hF
       exact ⟨_, _, rfl, eqA, entA⟩
     rw [hg14]
     try rw [hg14] at hF; dsimp only [cond_true, cond_false] at hF
     iterate 6 refine du ?_
     cases hF
     exact ⟨_, _, rfl, eqA, entA⟩
   rw [hg7]
   try rw [hg7] at hF; dsimp only [cond_true, cond_false] at hF
   iterate 17 refine du ?_
   cases hF
   exact ⟨_, _, rfl, eqA, entA⟩
 rintro _ _ ⟨c18, g19, rfl, rfl, hE⟩
 replace hF := hO3
 clear hO3
 try dsimp only at hF
 refine K_ent hE ?_
 refine au ?_
 cases hF
 exact Er ()
def g_cmp_isNaN_int (a_x : Int) : Option (Bool) :=
 some ((a_x : Int) != a_x)
theorem g_cmp_isNaN_int_ok (a_x : Int) (R : Bool) (hF : g_cmp_isNaN_int a_x = some R) :
   Fw.Spec Tryz.prog 156 [(.int .i64 a_x)] [] (fun _ : Unit => (.bool R)) (fun _ => []) := by
 refine Spec_enter (n := 6) Tryz.func156 rfl rfl (rs := [.tmp 2]) rfl rfl rfl ?_
 intro H0 F0
 unfold g_cmp_isNaN_int at hF
 iterate 10 refine au ?_
 cases hF
 exact Er ()
def g_cmp_Compare_int (a_x : Int) (a_y : Int) : Option (Int) :=
 (g_cmp_isNaN_int a_x).bind fun r1 =>
 (g_cmp_isNaN_int a_y).bind fun r4 =>
 if r1 then (
   if r4 then (
     some 0)
   else (
     some (-1)))
 else (
   if r4 then (
     some 1)
   else (
     if (decide ((a_x : Int) < a_y)) then (
       some (-1))
     else (
       if (decide ((a_y : Int) < a_x)) then (
         some 1)
       else (
         some 0))))
theorem g_cmp_Compare_int_ok (a_x : Int) (a_y : Int) (R : Int) (hF : g_cmp_Compare_int a_x a_y = some R) :
   Fw.Spec Tryz.prog 118 [(.int .i64 a_x), (.int .i64 a_y)] [] (fun _ : Unit => (.int .i64 R)) (fun _ => []) := by
 refine Spec_enter (n := 20) Tryz.func118 rfl rfl (rs := [.tmp 4]) rfl rfl rfl ?_
 intro H0 F0
 unfold g_cmp_Compare_int at hF
 iterate 5 refine au ?_
 obtain ⟨r1, hx2, hF⟩ := bind_some hF
 refine Cx0 (g_cmp_isNaN_int_ok _ _ hx2) (fun _ => ?_)
 iterate 4 refine au ?_
 obtain ⟨r4, hx5, hF⟩ := bind_some hF
 refine Cx0 (g_cmp_isNaN_int_ok _ _ hx5) (fun _ => ?_)
 iterate 6 refine au ?_
 refine Cc (fun hb11 => ?_) (fun hb11 => ?_)
 · rw [if_pos hb11] at hF
   iterate 4 refine au ?_
   refine Cc (fun hb7 => ?_) (fun hb7 => ?_)
   · rw [if_pos hb7] at hF
     iterate 4 refine au ?_
     cases hF
     exact Er ()
   rw [if_neg (nt hb7)] at hF
   iterate 5 refine au ?_
   cases hF
   exact Er ()
 rw [if_neg (nt hb11)] at hF
 iterate 5 refine au ?_
 refine Cc (fun hb10 => ?_) (fun hb10 => ?_)
 · rw [if_pos hb10] at hF
   iterate 4 refine au ?_
   cases hF
   exact Er ()
 rw [if_neg (nt hb10)] at hF
 iterate 7 refine au ?_
 refine Cc (fun hb9 => ?_) (fun hb9 => ?_)
 · rw [if_pos hb9] at hF
   iterate 4 refine au ?_
   cases hF
   exact Er ()
 rw [if_neg (nt hb9)] at hF
 iterate 7 refine au ?_
 refine Cc (fun hb8 => ?_) (fun hb8 => ?_)
 · rw [if_pos hb8] at hF
   iterate 4 refine au ?_
   cases hF
   exact Er ()
 rw [if_neg (nt hb8)] at hF
 iterate 5 refine au ?_
 cases hF
 exact Er ()
def g_slices_Compare_int_int_L1 (a_s1 : List Int) (a_s2 : List Int) : List Int → Nat → Option (Int)
 | [], k4 => if (decide (((a_s1.length : Int) : Int) < (a_s2.length : Int))) then (
     some (-1))
   else (
     some 0)
 | x6 :: rest5, k4 => if (decide (((a_s2.length : Int) : Int) ≤ (k4 : Int))) then (
     some 1)
   else (
     (ix a_s2 (k4 : Int)).bind fun x16 =>
     (g_cmp_Compare_int x6 x16).bind fun r22 =>
     if ((r22 : Int) != 0) then (
       some r22)
     else (
       g_slices_Compare_int_int_L1 a_s1 a_s2 rest5 (k4 + 1)))
def g_slices_Compare_int_int (a_s1 : List Int) (a_s2 : List Int) : Option (Int) :=
 g_slices_Compare_int_int_L1 a_s1 a_s2 a_s1 0
theorem g_slices_Compare_int_int_ok (a_s1 : List Int) (v0_0 : Sv) (a_s2 : List Int) (v1_0 : Sv) (R : Int) (hF : g_slices_Compare_int_int a_s1 a_s2 = some R) :
   Fw.Spec Tryz.prog 119 [v0_0.v, v1_0.v] [crd (RdS 3 rdInt) v0_0.v a_s1, crd (RdS 3 rdInt) v1_0.v a_s2] (fun _ : Unit => (.int .i64 R)) (fun _ => []) := by
 refine Spec_enter (n := 36) Tryz.func119 rfl rfl (rs := [.tmp 4]) rfl rfl rfl ?_
 intro H0 F0
 unfold g_slices_Compare_int_int at hF
 iterate 9 refine au ?_
 refine CW_block (CW_loop (m := a_s1.length) (fun m2 f' cs' => ∃ (g : Fr) (k4 : Nat) (rest5 : List Int), m2 = rest5.length ∧ f' = updL g [(0, v0_0.v), (1, v1_0.v), (9, v0_0.v), (10, (.int .i64 (a_s1.length : Int))), (11, (.int .i64 (k4 : Int)))] ∧ List.drop k4 a_s1 = rest5 ∧ Ent cs' [crd (RdS 3 rdInt) v0_0.v a_s1, crd (RdS 3 rdInt) v1_0.v a_s2] ∧ g_slices_Compare_int_int_L1 a_s1 a_s2 rest5 k4 = some R) ⟨_, 0, _, rfl, eqA, rfl, entA, hF⟩ ?_)
 clear hF
 rintro m2 _ _ ⟨g3, k4, rest5, rfl, rfl, hd7, hE, hF⟩
 refine K_ent hE ?_
 clear hE
 refine K_pure (c := crd (RdS 3 rdInt) v0_0.v a_s1) .h crd_bound (fun hbd12 => ?_)
 rcases rest5 with _ | ⟨x6, rest5⟩
 · have hk8 := List.drop_eq_nil_iff.1 hd7
   rw [g_slices_Compare_int_int_L1] at hF
   iterate 4 refine au ?_
   refine CdF ?_
   iterate 12 refine au ?_
   refine Cc (fun hb13 => ?_) (fun hb13 => ?_)
   · rw [if_pos hb13] at hF
     iterate 4 refine au ?_
     cases hF
     exact Er ()
   rw [if_neg (nt hb13)] at hF
   iterate 5 refine au ?_
   cases hF
   exact Er ()
 obtain ⟨hk8, hx9, hd10⟩ := drop_cons hd7
 rw [g_slices_Compare_int_int_L1] at hF
 iterate 4 refine au ?_
 refine CdT ?_
 iterate 4 refine au ?_
 refine Ai hx9 (fun k14 j15 => ?_)
 refine Al ls3_0 ?_
 iterate 10 refine au ?_
 refine Cc (fun hb27 => ?_) (fun hb27 => ?_)
 · rw [if_pos hb27] at hF
   iterate 4 refine au ?_
   cases hF
   exact Er ()
 rw [if_neg (nt hb27)] at hF
 iterate 4 refine au ?_
 obtain ⟨x16, hx17, hF⟩ := bind_some hF
 obtain ⟨hp18, hx19⟩ := ix_some hx17
 refine Ai hx19 (fun k20 j21 => ?_)
 refine Al ls3_0 ?_
 iterate 5 refine au ?_
 obtain ⟨r22, hx23, hF⟩ := bind_some hF
 refine Cx0 (g_cmp_Compare_int_ok _ _ _ hx23) (fun _ => ?_)
 iterate 6 refine au ?_
 refine Cc (fun hb26 => ?_) (fun hb26 => ?_)
 · rw [if_pos hb26] at hF
   iterate 5 refine au ?_
   cases hF
   exact Er ()
 rw [if_neg (nt hb26)] at hF
 iterate 5 refine au ?_
 rw [wk k4]
 exact ⟨_, Nat.lt_succ_self _, _, k4 + 1, rest5, rfl, eqA, hd10, entA, hF⟩
def g_cmp_Or_int_L1 : List Int → Nat → Option (Int)
 | [], k4 => some 0
 | x6 :: rest5, k4 => if ((x6 : Int) != 0) then (
     some x6)
   else (
     g_cmp_Or_int_L1 rest5 (k4 + 1))
def g_cmp_Or_int (a_vals : List Int) : Option (Int) :=
 g_cmp_Or_int_L1 a_vals 0
theorem g_cmp_Or_int_ok (a_vals : List Int) (v0_0 : Sv) (R : Int) (hF : g_cmp_Or_int a_vals = some R) :
   Fw.Spec Tryz.prog 117 [v0_0.v] [crd (RdS 3 rdInt) v0_0.v a_vals] (fun _ : Unit => (.int .i64 R)) (fun _ => []) := by
 refine Spec_enter (n := 18) Tryz.func117 rfl rfl (rs := [.tmp 2]) rfl rfl rfl ?_
 intro H0 F0
 unfold g_cmp_Or_int at hF
 iterate 12 refine au ?_
 refine CW_block (CW_loop (m := a_vals.length) (fun m2 f' cs' => ∃ (g : Fr) (k4 : Nat) (rest5 : List Int), m2 = rest5.length ∧ f' = updL g [(3, (.int .i64 0)), (6, v0_0.v), (7, (.int .i64 (a_vals.length : Int))), (8, (.int .i64 (k4 : Int)))] ∧ List.drop k4 a_vals = rest5 ∧ Ent cs' [crd (RdS 3 rdInt) v0_0.v a_vals] ∧ g_cmp_Or_int_L1 rest5 k4 = some R) ⟨_, 0, _, rfl, eqA, rfl, entA, hF⟩ ?_)
 clear hF
 rintro m2 _ _ ⟨g3, k4, rest5, rfl, rfl, hd7, hE, hF⟩
 refine K_ent hE ?_
 clear hE
 refine K_pure (c := crd (RdS 3 rdInt) v0_0.v a_vals) .h crd_bound (fun hbd12 => ?_)
 rcases rest5 with _ | ⟨x6, rest5⟩
 · have hk8 := List.drop_eq_nil_iff.1 hd7
   rw [g_cmp_Or_int_L1] at hF
   iterate 4 refine au ?_
   refine CdF ?_
   iterate 9 refine au ?_
   cases hF
   exact Er ()
 obtain ⟨hk8, hx9, hd10⟩ := drop_cons hd7
 rw [g_cmp_Or_int_L1] at hF
 iterate 4 refine au ?_
 refine CdT ?_
 iterate 3 refine au ?_
 refine Ai hx9 (fun k13 j14 => ?_)
 refine Al ls3_0 ?_
 iterate 7 refine au ?_
 refine Cc (fun hb16 => ?_) (fun hb16 => ?_)
 · rw [if_pos hb16] at hF
   iterate 5 refine au ?_
   cases hF
   exact Er ()
 rw [if_neg (nt hb16)] at hF
 iterate 5 refine au ?_
 rw [wk k4]
 exact ⟨_, Nat.lt_succ_self _, _, k4 + 1, rest5, rfl, eqA, hd10, entA, hF⟩
def i_CompareFacts (a_a : Fact) (a_b : Fact) : Option (Int) :=
 (g_cmp_Compare_int a_a.Rel a_b.Rel).bind fun r3 =>
 (g_slices_Compare_int_int a_a.Values a_b.Values).bind fun r6 =>
 (g_cmp_Or_int ([r3, r6] : List Int)).bind fun r10 =>
 some r10
theorem i_CompareFacts_ok (a_a : Fact) (v0_1 : Sv) (a_b : Fact) (v1_1 : Sv) (R : Int) (hF : i_CompareFacts a_a a_b = some R) :
   Fw.Spec Tryz.prog 78 [(.agg [(.int .i64 a_a.Rel), v0_1.v].toArray), (.agg [(.int .i64 a_b.Rel), v1_1.v].toArray)] [crd (RdS 3 rdInt) v0_1.v a_a.Values, crd (RdS 3 rdInt) v1_1.v a_b.Values] (fun _ : Unit => (.int .i64 R)) (fun _ => []) := by
 refine Spec_enter (n := 17) Tryz.func78 rfl rfl (rs := [.tmp 4]) rfl rfl rfl ?_
 intro H0 F0
 unfold i_CompareFacts at hF
 refine au ?_
 refine AbR (fun k1 => ?_)
 refine AbR (fun k2 => ?_)
 iterate 2 refine au ?_
 refine K_draw [0, 1, 2, 3, 5, 6, 7, 8, 4, 9, 10, 11, 12] [0, 1, 0, 4, 15, 0, 32, 0, 128, 511, 1023, 2047, 4095] [4, 9, 11] mixed (by decide +kernel) ?_
 iterate 8 refine du ?_
 obtain ⟨r3, hx4, hF⟩ := bind_some hF
 refine Dx0 (g_cmp_Compare_int_ok _ _ _ hx4) (fun _ => ?_)
 obtain ⟨r6, hx7, hF⟩ := bind_some hF
 refine Dx0 (g_slices_Compare_int_int_ok _ _ _ _ _ hx7) (fun _ => ?_)
 refine D_new rfl .no rfl (fun ha => N_buildSliceT (g := true) (len := 2) (parts := [(0, .tmp 9), (1, .tmp 14)]) sl22.h ty3.h (.cons (EN ha (.tmp rfl rfl) rfl) (.cons (EN ha (.tmp rfl rfl) rfl) .nil)) (vs := [(.int .i64 r3), (.int .i64 r6)]) rfl rfl rfl (by intro v hv; simp at hv; rcases hv with rfl | rfl <;> rfl)) (fun k9 => ?_)
 refine Dv1 (.cons .h .nil) (own_lit (Ro := (roE rdInt)) (E := 3) (F := ([] ++ ([] ++ []))) (xs := ([r3, r6] : List Int)) (MkL_cons (Mk_pure (fun _ => rfl)) (MkL_cons (Mk_pure (fun _ => rfl)) MkL_nil apps) apps) rfl rfl) ?_
 obtain ⟨r10, hx11, hF⟩ := bind_some hF
 refine D_act1 rfl rfl .no (.cons .h .nil) (.dep rfl .nil) (fun ha => XC_bor frz_own (fun _ => .nil) (X_callS cf117.h (.cons (EN ha (.tmp rfl rfl) rfl) .nil) (g_cmp_Or_int_ok ([r3, r6] : List Int) (⟨(some ⟨k9, 0, none⟩), 2, 1⟩) _ hx11))) (fun _ => ?_)
 iterate 2 refine du ?_
 refine au ?_
 cases hF
 exact Er ()
def i_AreFacts_L1 (a_s : List Int) (a_l : List Fact) : List Fact → Nat → Option (Bool)
 | [], k4 => ((i_IsSchema a_s).bind fun r15 =>
     bif r15 then (some (decide (((a_l.length : Int) : Int) ≤ 24)))
     else (some false)).bind fun o13 =>
   match o13 with
   | c19 => some c19
 | x6 :: rest5, k4 => ((i_IsFact a_s x6).bind fun r27 =>
     bif (!r27) then (some true)
     else (bif (decide ((0 : Int) < (k4 : Int))) then ((ix a_l (IntKind.i64.wrap ((k4 : Int) - 1))).bind fun x32 =>
         (i_CompareFacts x32 x6).bind fun r39 =>
         some (decide ((0 : Int) ≤ r39)))
       else (some false))).bind fun o25 =>
   match o25 with
   | c42 => if c42 then (
       some false)
     else (
       i_AreFacts_L1 a_s a_l rest5 (k4 + 1))
def i_AreFacts (a_s : List Int) (a_l : List Fact) : Option (Bool) :=
 i_AreFacts_L1 a_s a_l a_l 0
theorem i_AreFacts_ok (a_s : List Int) (v0_0 : Sv) (a_l : List Fact) (v1_0 : Sv) (R : Bool) (hF : i_AreFacts a_s a_l = some R) :
   Fw.Spec Tryz.prog 46 [v0_0.v, v1_0.v] [crd (RdS 3 rdInt) v0_0.v a_s, crd (RdS 80 rd80) v1_0.v a_l] (fun _ : Unit => (.bool R)) (fun _ => []) := by
 refine Spec_enter (n := 40) Tryz.func46 rfl rfl (rs := [.tmp 4]) rfl rfl rfl ?_
 intro H0 F0
 unfold i_AreFacts at hF
 iterate 9 refine au ?_
 refine CW_block (CW_loop (m := a_l.length) (fun m2 f' cs' => ∃ (g : Fr) (k4 : Nat) (rest5 : List Fact), m2 = rest5.length ∧ f' = updL g [(0, v0_0.v), (1, v1_0.v), (7, v1_0.v), (8, (.int .i64 (a_l.length : Int))), (9, (.int .i64 (k4 : Int)))] ∧ List.drop k4 a_l = rest5 ∧ Ent cs' [crd (RdS 3 rdInt) v0_0.v a_s, crd (RdS 80 rd80) v1_0.v a_l] ∧ i_AreFacts_L1 a_s a_l rest5 k4 = some R) ⟨_, 0, _, rfl, eqA, rfl, entA, hF⟩ ?_)
 clear hF
 rintro m2 _ _ ⟨g3, k4, rest5, rfl, rfl, hd7, hE, hF⟩
 refine K_ent hE ?_
 clear hE
 refine K_pure (c := crd (RdS 80 rd80) v1_0.v a_l) (.t .h) crd_bound (fun hbd12 => ?_)
 rcases rest5 with _ | ⟨x6, rest5⟩
 · have hk8 := List.drop_eq_nil_iff.1 hd7
   rw [i_AreFacts_L1] at hF
   iterate 4 refine au ?_
   refine CdF ?_
   iterate 4 refine au ?_
   obtain ⟨o13, hio13, hO14⟩ := bind_some hF
   refine au ?_
   refine C_cut (fun f' cs' => ∃ (c19 : Bool) (g : Fr), c19 = o13 ∧ f' = updL g [(4, (.bool c19))] ∧ Ent cs' []) ?_ ?_
   · replace hF := hio13
     refine au ?_
     obtain ⟨r15, hx16, hF⟩ := bind_some hF
     refine Cx0 (i_IsSchema_ok _ _ _ hx16) (fun _ => ?_)
     refine au ?_
     rcases Bool.eq_false_or_eq_true r15 with hg18 | hg18
     · rw [hg18]
       try rw [hg18] at hF; dsimp only [cond_true, cond_false] at hF
       iterate 9 refine au ?_
       cases hF
       exact ⟨_, _, rfl, eqA, entA⟩
     rw [hg18]
     try rw [hg18] at hF; dsimp only [cond_true, cond_false] at hF
     iterate 6 refine au ?_
     cases hF
     exact ⟨_, _, rfl, eqA, entA⟩
   rintro _ _ ⟨c19, g20, rfl, rfl, hE⟩
   replace hF := hO14
   clear hO14
   try dsimp only at hF
   refine K_ent hE ?_
   refine au ?_
   cases hF
   exact Er ()
 obtain ⟨hk8, hx9, hd10⟩ := drop_cons hd7
 rw [i_AreFacts_L1] at hF
 iterate 4 refine au ?_
 refine CdT ?_
 iterate 4 refine au ?_
 refine Ai hx9 (fun k21 j22 => ?_)
 refine AlA1 (ul80_0_80 x6) la80_0_80 (fun p23 => ?_)
 refine AnW (fun k24 => ?_)
 refine au ?_
 refine As (.agg [(.int .i64 x6.Rel), p23.v].toArray) ?_
 refine au ?_
 obtain ⟨o25, hio25, hO26⟩ := bind_some hF
 refine K_draw [0, 1, 2, 3, 4, 5, 6, 7, 8, 9, 10, 11, 12, 13, 14, 15, 16, 17] [0, 0, 3, 7, 15, 31, 63, 127, 255, 255, 767, 2047, 4095, 255, 16383, 32767, 65535, 131071] [2, 14] mixed (by decide +kernel) ?_
 refine D_cut (fun f' cs' => ∃ (c42 : Bool) (g : Fr), c42 = o25 ∧ f' = updL g [(0, v0_0.v), (1, v1_0.v), (7, v1_0.v), (8, (.int .i64 (a_l.length : Int))), (9, (.int .i64 (k4 : Int))), (31, (.bool c42))] ∧ Ent cs' [crd (RdS 3 rdInt) v0_0.v a_s, crd (RdS 80 rd80) v1_0.v a_l]) ?_ ?_
 · replace hF := hio25
   refine du ?_
   refine D_atO rfl .no .h (fun ha hp => V_loadBox ag80.h ty80.h.sz rfl (EN ha (.tmp rfl rfl) rfl) hp.2 rfl) ?_
   obtain ⟨r27, hx28, hF⟩ := bind_some hF
   refine Dx0 (i_IsFact_ok _ _ _ _ _ hx28) (fun _ => ?_)
   iterate 2 refine du ?_
   rcases Bool.eq_false_or_eq_true (!r27) with hg30 | hg30
   · rw [hg30]
     try rw [hg30] at hF; dsimp only [cond_true, cond_false] at hF
     iterate 14 refine du ?_
     cases hF
     exact ⟨_, _, rfl, eqA, entA⟩
   rw [hg30]
   try rw [hg30] at hF; dsimp only [cond_true, cond_false] at hF
   iterate 3 refine du ?_
   rcases Bool.eq_false_or_eq_true (decide ((0 : Int) < (k4 : Int))) with hg31 | hg31
   · rw [hg31]
     try rw [hg31] at hF; dsimp only [cond_true, cond_false] at hF
     iterate 3 refine du ?_
     obtain ⟨x32, hx33, hF⟩ := bind_some hF
     obtain ⟨hp34, hx35⟩ := ix_some hx33
     refine Di hx35 (fun k36 j37 => ?_)
     refine DlA1 (ul80_0_80 x32) la80_0_80 (fun p38 => ?_)
     refine D_atO rfl (.on 21 rfl rfl rfl) (.t (.t .h)) (fun ha hp => V_loadBox ag80.h ty80.h.sz rfl (EN ha (.tmp rfl rfl) rfl) hp.2 rfl) ?_
     obtain ⟨r39, hx40, hF⟩ := bind_some hF
     refine Dx0 (i_CompareFacts_ok _ _ _ _ _ hx40) (fun _ => ?_)
     iterate 4 refine du ?_
     cases hF
     exact ⟨_, _, rfl, eqA, entA⟩
   rw [hg31]
   try rw [hg31] at hF; dsimp only [cond_true, cond_false] at hF
   iterate 11 refine du ?_
   cases hF
   exact ⟨_, _, rfl, eqA, entA⟩
 rintro _ _ ⟨c42, g45, rfl, rfl, hE⟩
 replace hF := hO26
 clear hO26
 try dsimp only at hF
 refine K_ent hE ?_
 refine Cc (fun hb44 => ?_) (fun hb44 => ?_)
 · rw [if_pos hb44] at hF
   iterate 4 refine au ?_
   cases hF
   exact Er ()
 rw [if_neg (nt hb44)] at hF
 iterate 5 refine au ?_
 rw [wk k4]
 exact ⟨_, Nat.lt_succ_self _, _, k4 + 1, rest5, rfl, eqA, hd10, entA, hF⟩
end Go.Proofs.YtlfebfhfgfjceabGreat
