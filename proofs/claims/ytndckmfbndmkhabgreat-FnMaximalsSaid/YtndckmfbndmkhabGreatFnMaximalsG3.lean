/-
  Functions of the program as Lean functions, and that the calls return what these say: part 4. No conditions.
-/
import Derived.Shelf.Sort.Plain
import Derived.Shelf.Slices.In.SortNone
import Derived.Shelf.Slices.CompactI
import Derived.Test.YtndckmfbndmkhabGreatFnMaximalsG2
import Derived.KernelRfl
set_option maxRecDepth 100000
set_option maxHeartbeats 1000000
set_option linter.unusedVariables false
namespace Go.Proofs.YtndckmfbndmkhabGreat
open Go Go.Fw

def s_l4Tuples_L2 (c3 : List (List Int)) (x11 : Binding) : List Int → Nat → (List Int) → Option ((List (List Int)))
 | [], k27, c21 => (s_AddTuple c3 c21).bind fun r36 =>
   some r36
 | x29 :: rest28, k27, c21 => (s_ValueOf x11 x29).bind fun r44 =>
   (app c21 ([r44] : List Int)).bind fun z48 =>
   s_l4Tuples_L2 c3 x11 rest28 (k27 + 1) z48
def s_l4Tuples_L1 (a_q : Query) : List Binding → Nat → (List (List Int)) → Option ((List (List Int)))
 | [], k9, c3 => some c3
 | x11 :: rest10, k9, c3 => (s_l4Tuples_L2 c3 x11 a_q.Head 0 ([] : List Int)).bind fun o18 =>
   match o18 with
   | c52 => s_l4Tuples_L1 a_q rest10 (k9 + 1) c52
def s_l4Tuples (a_q : Query) (a_l : List Binding) : Option ((List (List Int))) :=
 s_l4Tuples_L1 a_q a_l 0 ([] : List (List Int))
theorem s_l4Tuples_ok (a_q : Query) (v0_0 : Sv) (v0_1 : Sv) (a_l : List Binding) (v1_0 : Sv) (R : (List (List Int))) (hF : s_l4Tuples a_q a_l = some R) :
   Fw.Spec Tryz.prog 81 [(.agg [v0_0.v, v0_1.v].toArray), v1_0.v] [crd (RdS 3 rdInt) v0_0.v a_q.Head, crd (RdS 98 rd98) v0_1.v a_q.Atoms, crd (RdS 147 rd147) v1_0.v a_l] (fun p : Sv × List Nat => p.1.v) (fun p => [cown (OwnS 24 (OwnS 3 (roE rdInt))) p.2 p.1.v R]) := by
 refine Se 41 Tryz.func81 [.tmp 4] ?_
 intro H0 F0
 unfold s_l4Tuples at hF
 refine au ?_
 refine AbR (fun k1 => ?_)
 iterate 3 refine au ?_
 refine C_new rfl (N_buildSliceT (g := true) sl54.h ty24.h .nil (vs := []) rfl rfl rfl (by simp)) (fun k2 => ?_)
 refine Cv1 (.cons .h .nil) (own_lit (Ro := (OwnS 3 (roE rdInt))) (E := 24) (F := []) (xs := ([] : List (List Int))) MkL_nil rfl rfl) ?_
 iterate 6 refine au ?_
 refine CW_block (CW_loop (m := a_l.length) (fun m7 f' cs' => ∃ (g : Fr) (k9 : Nat) (rest10 : List Binding) (c3 : List (List Int)) (v4 : Sv) (F5 : List Nat), m7 = rest10.length ∧ f' = updL g [(1, v1_0.v), (2, (pz k1)), (5, v4.v), (6, (.int .i64 (k9 : Int)))] ∧ List.drop k9 a_l = rest10 ∧ Ent cs' [crd (RdS 147 rd147) v1_0.v a_l, cboR k1 51 (.agg [v0_0.v, v0_1.v].toArray), crd (RdS 3 rdInt) v0_0.v a_q.Head, crd (RdS 98 rd98) v0_1.v a_q.Atoms, cown (OwnS 24 (OwnS 3 (roE rdInt))) F5 v4.v c3] ∧ s_l4Tuples_L1 a_q rest10 k9 c3 = some R) ⟨_, 0, _, _, ⟨(some ⟨k2, 0, none⟩), 0, 1⟩, (k2 :: []), rfl, eqA, rfl, entA, hF⟩ ?_)
 rintro m7 _ _ ⟨g8, k9, rest10, c3, v4, F5, rfl, rfl, hd12, hE, hF⟩
 refine Kb hE a_l (fun hbd17 => ?_)
 rcases rest10 with _ | ⟨x11, rest10⟩
 · have hk13 := dn hd12
   rw [s_l4Tuples_L1] at hF
   iterate 7 refine au ?_
   refine CdF ?_
   iterate 9 refine au ?_
   cases hF
   exact Er (v4, F5)
 obtain ⟨hk13, hx14, hd15⟩ := drop_cons hd12
 rw [s_l4Tuples_L1] at hF
 iterate 7 refine au ?_
 refine CdT ?_
 refine au ?_
 obtain ⟨o18, hio18, hO19⟩ := bind_some hF
 refine K_cut (fun f' cs' => ∃ (c52 : List (List Int)) (v53 : Sv) (F54 : List Nat) (g : Fr), c52 = o18 ∧ f' = updL g [(1, v1_0.v), (2, (pz k1)), (5, v53.v), (6, (.int .i64 (k9 : Int)))] ∧ Ent cs' [crd (RdS 147 rd147) v1_0.v a_l, cboR k1 51 (.agg [v0_0.v, v0_1.v].toArray), crd (RdS 3 rdInt) v0_0.v a_q.Head, crd (RdS 98 rd98) v0_1.v a_q.Atoms, cown (OwnS 24 (OwnS 3 (roE rdInt))) F54 v53.v c52]) ?_ ?_
 · replace hF := hio18
   refine CW_block (K_region (C_new rfl (N_buildSliceT (g := true) sl24.h ty3.h .nil (vs := []) rfl rfl rfl (by simp)) (fun k20 => ?_)))
   refine Cv1 (.cons .h .nil) (own_lit (Ro := (roE rdInt)) (E := 3) (F := []) (xs := ([] : List Int)) MkL_nil rfl rfl) ?_
   iterate 6 refine au ?_
   refine CW_block (CW_loop (m := a_q.Head.length) (fun m25 f' cs' => ∃ (g : Fr) (k27 : Nat) (rest28 : List Int) (c21 : List Int) (v22 : Sv) (F23 : List Nat), m25 = rest28.length ∧ f' = updL g [(1, v1_0.v), (2, (pz k1)), (5, v4.v), (6, (.int .i64 (k9 : Int))), (7, v22.v), (8, (.int .i64 (k27 : Int)))] ∧ List.drop k27 a_q.Head = rest28 ∧ Ent cs' [crd (RdS 147 rd147) v1_0.v a_l, cboR k1 51 (.agg [v0_0.v, v0_1.v].toArray), crd (RdS 3 rdInt) v0_0.v a_q.Head, crd (RdS 98 rd98) v0_1.v a_q.Atoms, cown (OwnS 24 (OwnS 3 (roE rdInt))) F5 v4.v c3, cown (OwnS 3 (roE rdInt)) F23 v22.v c21] ∧ s_l4Tuples_L2 c3 x11 rest28 k27 c21 = some o18) ⟨_, 0, _, _, ⟨(some ⟨k20, 0, none⟩), 0, 1⟩, (k20 :: []), rfl, eqA, rfl, entA, hF⟩ ?_)
   rintro m25 _ _ ⟨g26, k27, rest28, c21, v22, F23, rfl, rfl, hd30, hE, hF⟩
   refine Kb hE a_q.Head (fun hbd35 => ?_)
   rcases rest28 with _ | ⟨x29, rest28⟩
   · have hk31 := dn hd30
     rw [s_l4Tuples_L2] at hF
     iterate 8 refine au ?_
     refine CdF ?_
     iterate 7 refine au ?_
     refine bnd hF fun r36 hx37 hF => C_x3 (.cons (.t (.t (.t (.t (.t .h))))) (.cons (.t (.t (.t (.t .h)))) .nil)) (XC_borL (pre := []) (.cons frz_own (.cons frz_own .nil)) (fun _ => (.cons .nil)) (X_callS cf144.h (.cons (.tmp rfl rfl) (.cons (.tmp rfl rfl) .nil)) (s_AddTuple_ok c3 v4 c21 v22 _ hx37))) (fun p38 => ?_)
     iterate 2 refine au ?_
     cases hF
     exact ⟨_, p38.1, p38.2, _, rfl, eqA, entA⟩
   obtain ⟨hk31, hx32, hd33⟩ := drop_cons hd30
   rw [s_l4Tuples_L2] at hF
   iterate 8 refine au ?_
   refine CdT ?_
   iterate 2 refine au ?_
   refine CW_draw [0, 1, 2, 3, 4, 5, 6, 7, 8, 9, 10, 11, 12, 13] [0, 0, 0, 6, 14, 0, 32, 0, 224, 480, 1022, 2046, 4095, 8191] [10, 12] mixed (by decide +kernel) ?_
   iterate 3 refine du ?_
   refine Di hx14 (fun k39 j40 => ?_)
   refine DlA2 (ul147_0_147 x11) la147_0_147 (fun p41 => ?_)
   iterate 3 refine du ?_
   refine Di hx32 (fun k42 j43 => ?_)
   refine Dl ls3_0 ?_
   refine bnd hF fun r44 hx45 hF => Dx0 (s_ValueOf_ok _ _ _ _ _ hx45) (fun _ => ?_)
   refine D_new rfl .no rfl (fun ha => N_buildSliceT (g := true) (len := 1) (parts := [(0, .tmp 34)]) sl24.h ty3.h (.cons (EN ha (.tmp rfl rfl) rfl) .nil) (vs := [(.int .i64 r44)]) rfl rfl rfl (by intro v hv; simp at hv; rcases hv with rfl <;> rfl)) (fun k47 => ?_)
   refine Dv1 (.cons .h .nil) (own_lit (Ro := (roE rdInt)) (E := 3) (F := ([] ++ [])) (xs := ([r44] : List Int)) (MkL_cons (Mk_pure (fun _ => rfl)) MkL_nil apps) rfl rfl) ?_
   refine bnd hF fun z48 hx49 hF => D_act1 rfl rfl .no (.cons (.t (.t (.t (.t (.t (.t (.t (.t (.t (.t .h)))))))))) (.cons .h .nil)) (.dep rfl .nil) (fun ha => X_appendO (Ro := (roE rdInt)) sl24.h ni24 ty3.h rfl rfl rfl (EN ha (.tmp rfl rfl) rfl) (EN ha (.tmp rfl rfl) rfl) hx49 src_own) (fun p50 => ?_)
   iterate 2 refine du ?_
   iterate 5 refine au ?_
   rw [wk k27]
   exact ⟨_, Nat.lt_succ_self _, _, k27 + 1, rest28, _, p50.1, p50.2, rfl, eqA, hd33, entA, hF⟩
 rintro _ _ ⟨c52, v53, F54, g56, rfl, rfl, hE⟩
 replace hF := hO19
 try dsimp only at hF
 refine K_ent hE ?_
 iterate 5 refine au ?_
 rw [wk k9]
 exact ⟨_, Nat.lt_succ_self _, _, k9 + 1, rest10, _, v53, F54, rfl, eqA, hd15, entA, hF⟩
def s_AnswersOf (a_s : List Int) (a_q : Query) (a_facts : List Fact) : Option ((List (List Int))) :=
 ((s_IsQuery a_s a_q).bind fun r4 =>
   bif (!r4) then (some true)
   else ((s_AreFacts a_s a_facts).bind fun r8 =>
     some (!r8))).bind fun o2 =>
 match o2 with
 | c11 => if c11 then (
     some ([] : List (List Int)))
   else (
     (s_BindingsOf a_q a_facts).bind fun r13 =>
     (s_l4Tuples a_q r13).bind fun r16 =>
     some r16)
theorem s_AnswersOf_ok (a_s : List Int) (v0_0 : Sv) (a_q : Query) (v1_0 : Sv) (v1_1 : Sv) (a_facts : List Fact) (v2_0 : Sv) (R : (List (List Int))) (hF : s_AnswersOf a_s a_q a_facts = some R) :
   Fw.Spec Tryz.prog 34 [v0_0.v, (.agg [v1_0.v, v1_1.v].toArray), v2_0.v] [crd (RdS 3 rdInt) v0_0.v a_s, crd (RdS 3 rdInt) v1_0.v a_q.Head, crd (RdS 98 rd98) v1_1.v a_q.Atoms, crd (RdS 86 rd86) v2_0.v a_facts] (fun p : Sv × List Nat => p.1.v) (fun p => [cown (OwnS 24 (OwnS 3 (roE rdInt))) p.2 p.1.v R]) := by
 refine Se 23 Tryz.func34 [.tmp 6] ?_
 intro H0 F0
 unfold s_AnswersOf at hF
 refine au ?_
 refine AbR (fun k1 => ?_)
 iterate 3 refine au ?_
 obtain ⟨o2, hio2, hO3⟩ := bind_some hF
 refine au ?_
 refine C_cut (fun f' cs' => ∃ (c11 : Bool) (g : Fr), c11 = o2 ∧ f' = updL g [(2, v2_0.v), (4, (pz k1)), (16, (.bool c11))] ∧ Ent cs' [crd (RdS 86 rd86) v2_0.v a_facts, cboR k1 51 (.agg [v1_0.v, v1_1.v].toArray), crd (RdS 3 rdInt) v1_0.v a_q.Head, crd (RdS 98 rd98) v1_1.v a_q.Atoms]) ?_ ?_
 · replace hF := hio2
   iterate 2 refine au ?_
   refine bnd hF fun r4 hx5 hF => Cx0 (s_IsQuery_ok _ _ _ _ _ _ hx5) (fun _ => ?_)
   iterate 2 refine au ?_
   rcases Bool.eq_false_or_eq_true (!r4) with hg7 | hg7
   · rw [hg7]
     try rw [hg7] at hF; dsimp only [cond_true, cond_false] at hF
     iterate 6 refine au ?_
     cases hF
     exact ⟨_, _, rfl, eqA, entA⟩
   rw [hg7]
   try rw [hg7] at hF; dsimp only [cond_true, cond_false] at hF
   iterate 5 refine au ?_
   refine bnd hF fun r8 hx9 hF => Cx0 (s_AreFacts_ok _ _ _ _ _ hx9) (fun _ => ?_)
   iterate 4 refine au ?_
   cases hF
   exact ⟨_, _, rfl, eqA, entA⟩
 rintro _ _ ⟨c11, g20, rfl, rfl, hE⟩
 replace hF := hO3
 try dsimp only at hF
 refine K_ent hE ?_
 refine Ci hF (fun hb19 hF => ?_) (fun hb19 hF => ?_)
 · refine au ?_
   refine C_new rfl (N_buildSliceT (g := true) sl54.h ty24.h .nil (vs := []) rfl rfl rfl (by simp)) (fun k12 => ?_)
   refine Cv1 (.cons .h .nil) (own_lit (Ro := (OwnS 3 (roE rdInt))) (E := 24) (F := []) (xs := ([] : List (List Int))) MkL_nil rfl rfl) ?_
   iterate 3 refine au ?_
   cases hF
   exact Er (⟨(some ⟨k12, 0, none⟩), 0, 1⟩, (k12 :: []))
 refine au ?_
 refine K_draw [0, 1, 2, 3, 4, 5] [0, 0, 0, 6, 15, 31] [3, 4] mixed (by decide +kernel) ?_
 iterate 3 refine du ?_
 refine bnd hF fun r13 hx14 hF => Dx1 (s_BindingsOf_ok _ _ _ _ _ _ hx14) (fun p15 => ?_)
 refine bnd hF fun r16 hx17 hF => D_act2 rfl rfl .no (.cons .h (.rd (.t (.t .h)) rfl (.rd (.t (.t (.t .h))) rfl .nil))) .nil (fun ha => XC_bor frz_own (fun _ => (.cons .nil)) (XC_pre (.rd (.t .h) rfl (.rd (.t (.t .h)) rfl (.rd .h rfl .nil))) (X_callS cf81.h (.cons (EN ha (.tmp rfl rfl) rfl) (.cons (EN ha (.tmp rfl rfl) rfl) .nil)) (s_l4Tuples_ok a_q v1_0 v1_1 r13 p15.1 _ hx17)))) (fun p18 => ?_)
 iterate 2 refine du ?_
 refine au ?_
 cases hF
 exact Er (p18.1, p18.2)
def s_MaximalAnswers (a_s : List Int) (a_l : List Method) (a_q : Query) (a_facts : List Fact) : Option ((List (List Int))) :=
 ((s_l6Fine a_s a_l a_q).bind fun r4 =>
   bif (!r4) then (some true)
   else ((s_AreFacts a_s a_facts).bind fun r8 =>
     some (!r8))).bind fun o2 =>
 match o2 with
 | c11 => if c11 then (
     some ([] : List (List Int)))
   else (
     (s_ConstantsOf a_q).bind fun r13 =>
     (s_ReachAll a_s a_l a_facts r13).bind fun r16 =>
     (s_AnswersOf a_s a_q r16.Facts).bind fun r20 =>
     some r20)
theorem s_MaximalAnswers_ok (a_s : List Int) (v0_0 : Sv) (a_l : List Method) (v1_0 : Sv) (a_q : Query) (v2_0 : Sv) (v2_1 : Sv) (a_facts : List Fact) (v3_0 : Sv) (R : (List (List Int))) (hF : s_MaximalAnswers a_s a_l a_q a_facts = some R) :
   Fw.Spec Tryz.prog 29 [v0_0.v, v1_0.v, (.agg [v2_0.v, v2_1.v].toArray), v3_0.v] [crd (RdS 3 rdInt) v0_0.v a_s, crd (RdS 73 rd73) v1_0.v a_l, crd (RdS 3 rdInt) v2_0.v a_q.Head, crd (RdS 98 rd98) v2_1.v a_q.Atoms, crd (RdS 86 rd86) v3_0.v a_facts] (fun p : Sv × List Nat => p.1.v) (fun p => [cown (OwnS 24 (OwnS 3 (roE rdInt))) p.2 p.1.v R]) := by
 refine Se 33 Tryz.func29 [.tmp 8] ?_
 intro H0 F0
 unfold s_MaximalAnswers at hF
 refine au ?_
 refine AbR (fun k1 => ?_)
 iterate 3 refine au ?_
 obtain ⟨o2, hio2, hO3⟩ := bind_some hF
 refine au ?_
 refine C_cut (fun f' cs' => ∃ (c11 : Bool) (g : Fr), c11 = o2 ∧ f' = updL g [(0, v0_0.v), (1, v1_0.v), (3, v3_0.v), (6, (pz k1)), (20, (.bool c11))] ∧ Ent cs' [crd (RdS 3 rdInt) v0_0.v a_s, crd (RdS 73 rd73) v1_0.v a_l, crd (RdS 86 rd86) v3_0.v a_facts, cboR k1 51 (.agg [v2_0.v, v2_1.v].toArray), crd (RdS 3 rdInt) v2_0.v a_q.Head, crd (RdS 98 rd98) v2_1.v a_q.Atoms]) ?_ ?_
 · replace hF := hio2
   iterate 3 refine au ?_
   refine bnd hF fun r4 hx5 hF => Cx0 (s_l6Fine_ok _ _ _ _ _ _ _ _ hx5) (fun _ => ?_)
   iterate 2 refine au ?_
   rcases Bool.eq_false_or_eq_true (!r4) with hg7 | hg7
   · rw [hg7]
     try rw [hg7] at hF; dsimp only [cond_true, cond_false] at hF
     iterate 6 refine au ?_
     cases hF
     exact ⟨_, _, rfl, eqA, entA⟩
   rw [hg7]
   try rw [hg7] at hF; dsimp only [cond_true, cond_false] at hF
   iterate 5 refine au ?_
   refine bnd hF fun r8 hx9 hF => Cx0 (s_AreFacts_ok _ _ _ _ _ hx9) (fun _ => ?_)
   iterate 4 refine au ?_
   cases hF
   exact ⟨_, _, rfl, eqA, entA⟩
 rintro _ _ ⟨c11, g24, rfl, rfl, hE⟩
 replace hF := hO3
 try dsimp only at hF
 refine K_ent hE ?_
 refine Ci hF (fun hb23 hF => ?_) (fun hb23 hF => ?_)
 · refine au ?_
   refine C_new rfl (N_buildSliceT (g := true) sl54.h ty24.h .nil (vs := []) rfl rfl rfl (by simp)) (fun k12 => ?_)
   refine Cv1 (.cons .h .nil) (own_lit (Ro := (OwnS 3 (roE rdInt))) (E := 24) (F := []) (xs := ([] : List (List Int))) MkL_nil rfl rfl) ?_
   iterate 3 refine au ?_
   cases hF
   exact Er (⟨(some ⟨k12, 0, none⟩), 0, 1⟩, (k12 :: []))
 iterate 6 refine au ?_
 refine bnd hF fun r13 hx14 hF => Cx1 (s_ConstantsOf_ok _ _ _ _ hx14) (fun p15 => ?_)
 refine C_frz .h frz_own ?_
 refine bnd hF fun r16 hx17 hF => Cx3 (s_ReachAll_ok _ _ _ _ _ _ _ _ _ hx17) (fun p18 => ?_)
 refine AnW (fun k19 => ?_)
 refine As (.agg [p18.1.v, p18.2.1.v, p18.2.2.v, (.int .i64 r16.Rounds)].toArray) ?_
 iterate 6 refine au ?_
 refine bnd hF fun r20 hx21 hF => Cx1 (s_AnswersOf_ok _ _ _ _ _ _ _ _ hx21) (fun p22 => ?_)
 iterate 3 refine au ?_
 cases hF
 exact Er (p22.1, p22.2)
def s_SameTuples_L1 (a_b : List (List Int)) : List (List Int) → Nat → Option (Bool)
 | [], k4 => some true
 | x6 :: rest5, k4 => (ix a_b (k4 : Int)).bind fun x16 =>
   (s_l2Ints x6 x16).bind fun r23 =>
   if (!r23) then (
     some false)
   else (
     s_SameTuples_L1 a_b rest5 (k4 + 1))
def s_SameTuples (a_a : List (List Int)) (a_b : List (List Int)) : Option (Bool) :=
 if (((a_a.length : Int) : Int) != (a_b.length : Int)) then (
   some false)
 else (
   s_SameTuples_L1 a_b a_a 0)
theorem s_SameTuples_ok (a_a : List (List Int)) (v0_0 : Sv) (a_b : List (List Int)) (v1_0 : Sv) (R : Bool) (hF : s_SameTuples a_a a_b = some R) :
   Fw.Spec Tryz.prog 28 [v0_0.v, v1_0.v] [crd (RdS 24 (RdS 3 rdInt)) v0_0.v a_a, crd (RdS 24 (RdS 3 rdInt)) v1_0.v a_b] (fun _ : Unit => (.bool R)) (fun _ => []) := by
 refine Se 27 Tryz.func28 [.tmp 4] ?_
 intro H0 F0
 unfold s_SameTuples at hF
 iterate 11 refine au ?_
 refine Ci hF (fun hb28 hF => ?_) (fun hb28 hF => ?_)
 · iterate 4 refine au ?_
   cases hF
   exact Er ()
 iterate 5 refine au ?_
 refine CW_block (CW_loop (m := a_a.length) (fun m2 f' cs' => ∃ (g : Fr) (k4 : Nat) (rest5 : List (List Int)), m2 = rest5.length ∧ f' = updL g [(0, v0_0.v), (1, v1_0.v), (5, (.int .i64 (k4 : Int)))] ∧ List.drop k4 a_a = rest5 ∧ Ent cs' [crd (RdS 24 (RdS 3 rdInt)) v0_0.v a_a, crd (RdS 24 (RdS 3 rdInt)) v1_0.v a_b] ∧ s_SameTuples_L1 a_b rest5 k4 = some R) ⟨_, 0, _, rfl, eqA, rfl, entA, hF⟩ ?_)
 rintro m2 _ _ ⟨g3, k4, rest5, rfl, rfl, hd7, hE, hF⟩
 refine Kb hE a_a (fun hbd12 => ?_)
 rcases rest5 with _ | ⟨x6, rest5⟩
 · have hk8 := dn hd7
   rw [s_SameTuples_L1] at hF
   iterate 7 refine au ?_
   refine CdF ?_
   iterate 8 refine au ?_
   cases hF
   exact Er ()
 obtain ⟨hk8, hx9, hd10⟩ := drop_cons hd7
 rw [s_SameTuples_L1] at hF
 iterate 7 refine au ?_
 refine CdT ?_
 iterate 2 refine au ?_
 refine K_draw [0, 1, 2, 3, 4, 5, 6, 7, 8, 9] [0, 0, 3, 7, 0, 0, 48, 112, 255, 511] [8] mixed (by decide +kernel) ?_
 iterate 2 refine du ?_
 refine Di hx9 (fun k13 j14 => ?_)
 refine D_ldV (R' := (RdS 3 rdInt)) ag24.h rfl .no (.tmp rfl rfl) rfl .h lv24_0 (fun w15 => ?_)
 iterate 2 refine du ?_
 refine bnd hF fun x16 hx17 hF => ?_
 obtain ⟨hp18, hx19⟩ := ix_some hx17
 refine Di hx19 (fun k20 j21 => ?_)
 refine D_ldV (R' := (RdS 3 rdInt)) ag24.h rfl .no (.tmp rfl rfl) rfl .h lv24_0 (fun w22 => ?_)
 refine bnd hF fun r23 hx24 hF => Dx0 (s_l2Ints_ok _ _ _ _ _ hx24) (fun _ => ?_)
 iterate 2 refine du ?_
 refine Ci hF (fun hb27 hF => ?_) (fun hb27 hF => ?_)
 · iterate 4 refine au ?_
   cases hF
   exact Er ()
 iterate 6 refine au ?_
 rw [wk k4]
 exact ⟨_, Nat.lt_succ_self _, _, k4 + 1, rest5, rfl, eqA, hd10, entA, hF⟩
def s_LostAnswers_L4 (r3 : (List (List Int))) (c263 : List (List Int)) (c266 : Int) : List (List Int) → Nat → Bool → Option ((List (List Int)))
 | [], k288, c284 => if (!c284) then (
     (ix r3 c266).bind fun x297 =>
     (app c263 ([x297] : List (List Int))).bind fun z305 =>
     some z305)
   else (
     some c263)
 | x290 :: rest289, k288, c284 => (bif c284 then (some true)
     else ((ix r3 c266).bind fun x312 =>
       (s_l2Ints x312 x290).bind fun r322 =>
       some r322)).bind fun o309 =>
   match o309 with
   | c325 => s_LostAnswers_L4 r3 c263 c266 rest289 (k288 + 1) c325
def s_LostAnswers_L1 (a_s : List Int) (a_l : List Method) (r3 : (List (List Int))) (r6 : (List (List Int))) : Nat → (List (List Int)) → Int → Option ((List (List Int)))
 | 0, _, _ => none
 | m267 + 1, c263, c266 => (bif (decide ((c266 : Int) < (r3.length : Int))) then ((s_AreMethods a_s a_l).bind fun r278 =>
       some r278)
     else (some false)).bind fun o275 =>
   match o275 with
   | c281 => if c281 then (
       (s_LostAnswers_L4 r3 c263 c266 r6 0 false).bind fun o282 =>
       match o282 with
       | c328 => s_LostAnswers_L1 a_s a_l r3 r6 m267 c328 (IntKind.i64.wrap (c266 + 1)))
     else (
       some c263)
def s_LostAnswers (a_s : List Int) (a_l : List Method) (a_q : Query) (a_facts : List Fact) : Option ((List (List Int))) :=
 (s_AnswersOf a_s a_q a_facts).bind fun r3 =>
 (s_MaximalAnswers a_s a_l a_q a_facts).bind fun r6 =>
 s_LostAnswers_L1 a_s a_l r3 r6 (((r3.length : Int) - 0).toNat + 2) ([] : List (List Int)) 0
theorem s_LostAnswers_ok (a_s : List Int) (v0_0 : Sv) (a_l : List Method) (v1_0 : Sv) (a_q : Query) (v2_0 : Sv) (v2_1 : Sv) (a_facts : List Fact) (v3_0 : Sv) (R : (List (List Int))) (hF : s_LostAnswers a_s a_l a_q a_facts = some R) :
   Fw.Spec Tryz.prog 30 [v0_0.v, v1_0.v, (.agg [v2_0.v, v2_1.v].toArray), v3_0.v] [crd (RdS 3 rdInt) v0_0.v a_s, crd (RdS 73 rd73) v1_0.v a_l, crd (RdS 3 rdInt) v2_0.v a_q.Head, crd (RdS 98 rd98) v2_1.v a_q.Atoms, crd (RdS 86 rd86) v3_0.v a_facts] (fun p : Sv × List Nat => p.1.v) (fun p => [cown (OwnS 24 (roE (RdS 3 rdInt))) p.2 p.1.v R]) := by
 refine Spec_enter (n := 64) Tryz.func30 rfl rfl (rs := [.tmp 8]) rfl rfl rfl ?_
 intro H0 F0
 unfold s_LostAnswers at hF
 refine K_region (C_newR rfl (N_box (g := false) (v := (.agg [v2_0.v, v2_1.v].toArray)) ty51.h.sz (.tmp rfl rfl) rfl) (fun k1 => ?_))
 refine C_val (V_assign (v := (.slice none 0 0)) EV.nilSlice) ?_
 refine C_nil (K_region (C_new rfl (N_buildSliceT (g := true) sl54.h ty24.h .nil (vs := []) rfl rfl rfl (by simp)) (fun k2 => ?_)))
 refine C_conv (.cons .h .nil) (own_lit (Ro := (roE (RdS 3 rdInt))) (E := 24) (F := []) (xs := ([] : List (List Int))) MkL_nil rfl rfl) apps ?_
 refine Ca (.slice (some ⟨k2, 0, none⟩) 0 1) rfl rfl ?_
 refine C_nil (K_region (Cm v0_0.v rfl rfl ?_))
 refine C_at (.t .h) (fun hp => V_loadBox ag51.h ty51.h.sz rfl (.tmp rfl rfl) hp.2 rfl) ?_
 refine Cm v3_0.v rfl rfl ?_
 obtain ⟨r3, hx4, hF⟩ := bind_some hF
 refine C_x1 (.rd (.t (.t .h)) rfl (.rd (.t (.t (.t (.t .h)))) rfl (.rd (.t (.t (.t (.t (.t .h))))) rfl (.rd (.t (.t (.t (.t (.t (.t .h)))))) rfl .nil)))) (X_callS cf34.h (.cons (.tmp rfl rfl) (.cons (.tmp rfl rfl) (.cons (.tmp rfl rfl) .nil))) (s_AnswersOf_ok a_s v0_0 a_q v2_0 v2_1 a_facts v3_0 _ hx4)) (fun p5 => ?_)
 refine Ca p5.1.v rfl rfl ?_
 refine C_nil (K_region (Cm v0_0.v rfl rfl ?_))
 refine Cm v1_0.v rfl rfl ?_
 refine C_at (.t (.t .h)) (fun hp => V_loadBox ag51.h ty51.h.sz rfl (.tmp rfl rfl) hp.2 rfl) ?_
 refine Cm v3_0.v rfl rfl ?_
 obtain ⟨r6, hx7, hF⟩ := bind_some hF
 refine C_x1 (.rd (.t (.t (.t .h))) rfl (.rd (.t (.t (.t (.t .h)))) rfl (.rd (.t (.t (.t (.t (.t .h))))) rfl (.rd (.t (.t (.t (.t (.t (.t .h)))))) rfl (.rd (.t (.t (.t (.t (.t (.t (.t .h))))))) rfl .nil))))) (X_callS cf29.h (.cons (.tmp rfl rfl) (.cons (.tmp rfl rfl) (.cons (.tmp rfl rfl) (.cons (.tmp rfl rfl) .nil)))) (s_MaximalAnswers_ok a_s v0_0 a_l v1_0 a_q v2_0 v2_1 a_facts v3_0 _ hx7)) (fun p8 => ?_)
 refine Ca p8.1.v rfl rfl ?_
 refine C_nil (K_in (K_region (C_val (V_assign (v := (.int .i64 0)) (.int _ _)) ?_)))
 refine C_nil (CW_block ?_)
 iterate 2 refine K_frz (.t .h) frz_own ?_
 refine CW_loop (m := (((r3.length : Int) - 0).toNat + 2)) (fun m267 f' cs' => ∃ (g : Fr) (c263 : List (List Int)) (c266 : Int) (v264 : Sv) (F265 : List Nat), f' = updL g [(0, v0_0.v), (1, v1_0.v), (9, v264.v), (10, p5.1.v), (11, p8.1.v), (12, (.int .i64 c266))] ∧ Ent cs' [crd (RdS 3 rdInt) v0_0.v a_s, crd (RdS 73 rd73) v1_0.v a_l, cown (OwnS 24 (roE (RdS 3 rdInt))) F265 v264.v c263, crd (RdS 24 (RdS 3 rdInt)) p5.1.v r3, crd (RdS 24 (RdS 3 rdInt)) p8.1.v r6] ∧ s_LostAnswers_L1 a_s a_l r3 r6 m267 c263 c266 = some R) ⟨_, _, _, ⟨(some ⟨k2, 0, none⟩), 0, 1⟩, (k2 :: []), (EqL.cons rfl (EqL.cons rfl (EqL.cons rfl (EqL.cons rfl (EqL.cons rfl (EqL.cons rfl (EqL.nil))))))).eq, (.sel (.rd (.t (.t (.t (.t .h)))) rfl (.rd (.t (.t (.t (.t (.t .h))))) rfl (.cons (.t (.t .h)) (.rd (.t .h) rfl (.rd .h rfl .nil)))))), hF⟩ ?_
 clear hF
 rintro m267 _ _ ⟨g268, c263, c266, v264, F265, rfl, hE, hF⟩
 refine K_ent hE ?_
 clear hE
 rcases m267 with _ | m267
 · rw [s_LostAnswers_L1] at hF
   exact absurd hF (by simp)
 rw [s_LostAnswers_L1] at hF
 refine K_in ?_
 obtain ⟨o275, hio275, hO276⟩ := bind_some hF
 refine K_region (C_cut (fun f' cs' => ∃ (c281 : Bool) (g : Fr), c281 = o275 ∧ f' = updL g [(0, v0_0.v), (1, v1_0.v), (9, v264.v), (10, p5.1.v), (11, p8.1.v), (12, (.int .i64 c266)), (33, (.bool c281))] ∧ Ent cs' [crd (RdS 3 rdInt) v0_0.v a_s, crd (RdS 73 rd73) v1_0.v a_l, cown (OwnS 24 (roE (RdS 3 rdInt))) F265 v264.v c263, crd (RdS 24 (RdS 3 rdInt)) p5.1.v r3, crd (RdS 24 (RdS 3 rdInt)) p8.1.v r6]) ?_ ?_)
 · replace hF := hio275
   refine Cm (.int .i64 c266) rfl rfl ?_
   refine Cm p5.1.v rfl rfl ?_
   refine C_at (.t (.t (.t .h))) (fun hp => V_lenR (l := r3.length) sl54.h (.tmp rfl rfl) (crd_len hp)) ?_
   refine C_val (V_lss (i := c266) (j := (r3.length : Int)) (.tmp rfl rfl) (.tmp rfl rfl)) ?_
   refine Cm (.bool (decide ((c266 : Int) < (r3.length : Int)))) rfl rfl ?_
   rcases Bool.eq_false_or_eq_true (decide ((c266 : Int) < (r3.length : Int))) with hg277 | hg277
   · rw [hg277]
     try rw [hg277] at hF; dsimp only [cond_true, cond_false] at hF
     refine C_on (t := 29) rfl rfl rfl ?_
     refine Cm v0_0.v rfl rfl ?_
     refine C_on (t := 29) rfl rfl rfl ?_
     refine Cm v1_0.v rfl rfl ?_
     refine C_on (t := 29) rfl rfl rfl ?_
     obtain ⟨r278, hx279, hF⟩ := bind_some hF
     refine C_x0 (.rd .h rfl (.rd (.t .h) rfl .nil)) (X_callS cf31.h (.cons (.tmp rfl rfl) (.cons (.tmp rfl rfl) .nil)) (s_AreMethods_ok a_s v0_0 a_l v1_0 _ hx279)) (fun _ => ?_)
     refine C_val (V_pick (b := true) (u := (.bool r278)) (v := (.bool false)) (.tmp rfl rfl) (.tmp rfl rfl) (.bool _)) ?_
     refine C_nil ?_
     obtain rfl := Option.some.inj hF
     exact ⟨_, _, rfl, (EqL.cons rfl (EqL.cons rfl (EqL.cons rfl (EqL.cons rfl (EqL.cons rfl (EqL.cons rfl (EqL.cons rfl (EqL.nil)))))))).eq, (.sel (.rd .h rfl (.rd (.t .h) rfl (.cons (.t (.t .h)) (.rd (.t (.t .h)) rfl (.rd (.t (.t (.t .h))) rfl .nil))))))⟩
   rw [hg277]
   try rw [hg277] at hF; dsimp only [cond_true, cond_false] at hF
   iterate 3 refine C_off (t := 29) rfl rfl rfl ?_
   refine C_val (V_pick (b := false) (u := undef) (v := (.bool false)) (.tmp rfl rfl) (.tmp rfl rfl) (.bool _)) ?_
   refine C_nil ?_
   obtain rfl := Option.some.inj hF
   exact ⟨_, _, rfl, (EqL.cons rfl (EqL.cons rfl (EqL.cons rfl (EqL.cons rfl (EqL.cons rfl (EqL.cons rfl (EqL.cons rfl (EqL.nil)))))))).eq, (.sel (.rd .h rfl (.rd (.t .h) rfl (.cons (.t (.t .h)) (.rd (.t (.t .h)) rfl (.rd (.t (.t (.t .h))) rfl .nil))))))⟩
 rintro _ _ ⟨c281, g333, rfl, rfl, hE⟩
 replace hF := hO276
 clear hO276
 try dsimp only at hF
 refine K_ent hE ?_
 refine CW_cond (b := c281) (.tmp rfl rfl) (fun hb332 => ?_) (fun hb332 => ?_)
 · rw [if_pos hb332] at hF
   refine CW_skip ?_
   obtain ⟨o282, hio282, hO283⟩ := bind_some hF
   refine K_cut (fun f' cs' => ∃ (c328 : List (List Int)) (v329 : Sv) (F330 : List Nat) (g : Fr), c328 = o282 ∧ f' = updL g [(0, v0_0.v), (1, v1_0.v), (9, v329.v), (10, p5.1.v), (11, p8.1.v), (12, (.int .i64 c266))] ∧ Ent cs' [crd (RdS 3 rdInt) v0_0.v a_s, crd (RdS 73 rd73) v1_0.v a_l, cown (OwnS 24 (roE (RdS 3 rdInt))) F330 v329.v c328, crd (RdS 24 (RdS 3 rdInt)) p5.1.v r3, crd (RdS 24 (RdS 3 rdInt)) p8.1.v r6]) ?_ ?_
   · replace hF := hio282
     refine CW_block (K_region (C_val (V_assign (v := (.bool false)) (.bool _)) ?_))
     refine C_nil (K_in (K_region (C_val (V_assign (v := (.int .i64 0)) (.int _ _)) ?_)))
     refine C_nil (CW_block (CW_loop (m := r6.length) (fun m286 f' cs' => ∃ (g : Fr) (k288 : Nat) (rest289 : List (List Int)) (c284 : Bool), m286 = rest289.length ∧ f' = updL g [(0, v0_0.v), (1, v1_0.v), (9, v264.v), (10, p5.1.v), (11, p8.1.v), (12, (.int .i64 c266)), (13, (.bool c284)), (14, (.int .i64 (k288 : Int)))] ∧ List.drop k288 r6 = rest289 ∧ Ent cs' [crd (RdS 3 rdInt) v0_0.v a_s, crd (RdS 73 rd73) v1_0.v a_l, cown (OwnS 24 (roE (RdS 3 rdInt))) F265 v264.v c263, crd (RdS 24 (RdS 3 rdInt)) p5.1.v r3, crd (RdS 24 (RdS 3 rdInt)) p8.1.v r6] ∧ s_LostAnswers_L4 r3 c263 c266 rest289 k288 c284 = some o282) ⟨_, 0, _, _, rfl, (EqL.cons rfl (EqL.cons rfl (EqL.cons rfl (EqL.cons rfl (EqL.cons rfl (EqL.cons rfl (EqL.cons rfl (EqL.cons rfl (EqL.nil))))))))).eq, rfl, (.sel (.rd .h rfl (.rd (.t .h) rfl (.cons (.t (.t .h)) (.rd (.t (.t .h)) rfl (.rd (.t (.t (.t .h))) rfl .nil)))))), hF⟩ ?_))
     clear hF
     rintro m286 _ _ ⟨g287, k288, rest289, c284, rfl, rfl, hd291, hE, hF⟩
     refine K_ent hE ?_
     clear hE
     refine K_pure (c := crd (RdS 24 (RdS 3 rdInt)) p8.1.v r6) (.t (.t (.t (.t .h)))) crd_bound (fun hbd296 => ?_)
     rcases rest289 with _ | ⟨x290, rest289⟩
     · have hk292 := List.drop_eq_nil_iff.1 hd291
       have hfe295 : (decide (((k288 : Int) : Int) < (r6.length : Int))) = false := decide_eq_false (by omega)
       rw [s_LostAnswers_L4] at hF
       refine K_in (K_region (Cm (.int .i64 (k288 : Int)) rfl rfl ?_))
       refine Cm p8.1.v rfl rfl ?_
       refine C_at (.t (.t (.t (.t .h)))) (fun hp => V_lenR (l := r6.length) sl54.h (.tmp rfl rfl) (crd_len hp)) ?_
       refine C_val (V_lss (i := (k288 : Int)) (j := (r6.length : Int)) (.tmp rfl rfl) (.tmp rfl rfl)) ?_
       refine C_nil (CW_cond (b := (decide (((k288 : Int) : Int) < (r6.length : Int)))) (.tmp rfl rfl) (fun hb => absurd (hfe295.symm.trans hb) (by decide)) (fun _ => ?_))
       refine CW_exit ?_
       iterate 2 refine CThen_exit ?_
       refine CIn_self (K_region (Cm (.bool c284) rfl rfl ?_))
       refine C_val (V_not (b := c284) (.tmp rfl rfl)) ?_
       refine C_nil (CW_cond (b := (!c284)) (.tmp rfl rfl) (fun hb308 => ?_) (fun hb308 => ?_))
       · rw [if_pos hb308] at hF
         refine CW_region (Cm v264.v rfl rfl ?_)
         refine Cm p5.1.v rfl rfl ?_
         refine Cm (.int .i64 c266) rfl rfl ?_
         obtain ⟨x297, hx298, hF⟩ := bind_some hF
         obtain ⟨hp299, hx300⟩ := ix_some hx298
         refine C_idx (a := x297) sl54.h ty24.h.sz (.tmp rfl rfl) (.tmp rfl rfl) (.t (.t (.t .h))) hp299 hx300 (fun k301 j302 => ?_)
         refine C_ldV (R' := (RdS 3 rdInt)) ag24.h (.tmp rfl rfl) .h lv24_0 (fun w303 => ?_)
         refine C_new rfl (N_buildSliceT (g := true) sl54.h ty24.h (.cons (.tmp rfl rfl) .nil) (vs := [w303.v]) rfl rfl rfl (by intro v hv; simp at hv; rcases hv with rfl <;> rfl)) (fun k304 => ?_)
         refine C_conv (.cons .h (.rd .h rfl .nil)) (own_lit (Ro := (roE (RdS 3 rdInt))) (E := 24) (F := ([] ++ [])) (xs := ([x297] : List (List Int))) (MkL_cons Mk_rd MkL_nil apps) rfl rfl) apps ?_
         obtain ⟨z305, hx306, hF⟩ := bind_some hF
         refine C_x1 (.cons (.t (.t (.t (.t (.t .h))))) (.cons .h .nil)) (X_appendO (Ro := (roE (RdS 3 rdInt))) sl54.h ni54 ty24.h rfl rfl rfl (.tmp rfl rfl) (.tmp rfl rfl) hx306 src_own) (fun p307 => ?_)
         refine Ca p307.1.v rfl rfl ?_
         refine C_nil ?_
         obtain rfl := Option.some.inj hF
         exact ⟨_, p307.1, p307.2, _, rfl, (EqL.cons rfl (EqL.cons rfl (EqL.cons rfl (EqL.cons rfl (EqL.cons rfl (EqL.cons rfl (EqL.nil))))))).eq, (.sel (.rd (.t (.t (.t .h))) rfl (.rd (.t (.t (.t (.t .h)))) rfl (.cons .h (.rd (.t (.t (.t (.t .h)))) rfl (.rd (.t (.t (.t (.t (.t .h))))) rfl .nil))))))⟩
       rw [if_neg (by rw [hb308]; exact Bool.false_ne_true)] at hF
       refine CW_skip ?_
       obtain rfl := Option.some.inj hF
       exact ⟨_, v264, F265, _, rfl, (EqL.cons rfl (EqL.cons rfl (EqL.cons rfl (EqL.cons rfl (EqL.cons rfl (EqL.cons rfl (EqL.nil))))))).eq, (.sel (.rd .h rfl (.rd (.t .h) rfl (.cons (.t (.t .h)) (.rd (.t (.t .h)) rfl (.rd (.t (.t (.t .h))) rfl .nil))))))⟩
     obtain ⟨hk292, hx293, hd294⟩ := drop_cons hd291
     have hfe295 : (decide (((k288 : Int) : Int) < (r6.length : Int))) = true := decide_eq_true (by omega)
     rw [s_LostAnswers_L4] at hF
     refine K_in (K_region (Cm (.int .i64 (k288 : Int)) rfl rfl ?_))
     refine Cm p8.1.v rfl rfl ?_
     refine C_at (.t (.t (.t (.t .h)))) (fun hp => V_lenR (l := r6.length) sl54.h (.tmp rfl rfl) (crd_len hp)) ?_
     refine C_val (V_lss (i := (k288 : Int)) (j := (r6.length : Int)) (.tmp rfl rfl) (.tmp rfl rfl)) ?_
     refine C_nil (CW_cond (b := (decide (((k288 : Int) : Int) < (r6.length : Int)))) (.tmp rfl rfl) (fun _ => ?_) (fun hb => absurd (hfe295.symm.trans hb) (by decide)))
     refine CW_skip (K_block ?_)
     obtain ⟨o309, hio309, hO310⟩ := bind_some hF
     refine CW_draw [0, 1, 2, 3, 4, 5, 6, 7, 8, 9, 10, 11, 12] [0, 1, 3, 3, 15, 31, 3, 3, 195, 451, 1023, 2047, 4095] [10] mixed (by decide +kernel) ?_
     refine D_cut (fun f' cs' => ∃ (c325 : Bool) (g : Fr), c325 = o309 ∧ f' = updL g [(0, v0_0.v), (1, v1_0.v), (9, v264.v), (10, p5.1.v), (11, p8.1.v), (12, (.int .i64 c266)), (13, (.bool c325)), (14, (.int .i64 (k288 : Int)))] ∧ Ent cs' [crd (RdS 3 rdInt) v0_0.v a_s, crd (RdS 73 rd73) v1_0.v a_l, cown (OwnS 24 (roE (RdS 3 rdInt))) F265 v264.v c263, crd (RdS 24 (RdS 3 rdInt)) p5.1.v r3, crd (RdS 24 (RdS 3 rdInt)) p8.1.v r6]) ?_ ?_
     · replace hF := hio309
       iterate 2 refine Dm (.bool c284) rfl rfl rfl rfl ?_
       rcases Bool.eq_false_or_eq_true c284 with hg311 | hg311
       · rw [hg311]
         try rw [hg311] at hF; dsimp only [cond_true, cond_false] at hF
         iterate 9 refine D_off 43 rfl rfl rfl rfl ?_
         refine D_val rfl .no (fun ha => V_pick (b := true) (u := (.bool true)) (v := undef) (EN ha (.tmp rfl rfl) rfl) (EN ha (.bool _) rfl) (EN ha (.tmp rfl rfl) rfl)) ?_
         refine Da (.bool true) rfl rfl rfl rfl ?_
         refine D_nil ?_
         obtain rfl := Option.some.inj hF
         exact ⟨_, _, rfl, (EqL.cons rfl (EqL.cons rfl (EqL.cons rfl (EqL.cons rfl (EqL.cons rfl (EqL.cons rfl (EqL.cons rfl (EqL.cons rfl (EqL.nil))))))))).eq, (.sel (.rd .h rfl (.rd (.t .h) rfl (.cons (.t (.t .h)) (.rd (.t (.t .h)) rfl (.rd (.t (.t (.t .h))) rfl .nil))))))⟩
       rw [hg311]
       try rw [hg311] at hF; dsimp only [cond_true, cond_false] at hF
       refine D_val rfl (.on 43 rfl rfl rfl) (fun ha => V_move (v := p5.1.v) (EN ha (.tmp rfl rfl) rfl)) ?_
       refine D_val rfl (.on 43 rfl rfl rfl) (fun ha => V_move (v := (.int .i64 c266)) (EN ha (.tmp rfl rfl) rfl)) ?_
       obtain ⟨x312, hx313, hF⟩ := bind_some hF
       obtain ⟨hp314, hx315⟩ := ix_some hx313
       refine D_idx (a := x312) sl54.h ty24.h.sz rfl (.on 43 rfl rfl rfl) (.tmp rfl rfl) (.tmp rfl rfl) rfl rfl (.t (.t (.t .h))) hp314 hx315 (fun k316 j317 => ?_)
       refine D_ldV (R' := (RdS 3 rdInt)) ag24.h rfl (.on 43 rfl rfl rfl) (.tmp rfl rfl) rfl .h lv24_0 (fun w318 => ?_)
       refine D_val rfl (.on 43 rfl rfl rfl) (fun ha => V_move (v := p8.1.v) (EN ha (.tmp rfl rfl) rfl)) ?_
       refine D_val rfl (.on 43 rfl rfl rfl) (fun ha => V_move (v := (.int .i64 (k288 : Int))) (EN ha (.tmp rfl rfl) rfl)) ?_
       refine D_idx (a := x290) sl54.h ty24.h.sz rfl (.on 43 rfl rfl rfl) (.tmp rfl rfl) (.tmp rfl rfl) rfl rfl (.t (.t (.t (.t (.t (.t .h)))))) (Int.natCast_nonneg k288) hx293 (fun k319 j320 => ?_)
       refine D_ldV (R' := (RdS 3 rdInt)) ag24.h rfl (.on 43 rfl rfl rfl) (.tmp rfl rfl) rfl .h lv24_0 (fun w321 => ?_)
       obtain ⟨r322, hx323, hF⟩ := bind_some hF
       refine D_act0 rfl rfl (.on 43 rfl rfl rfl) (.rd (.t (.t .h)) rfl (.rd .h rfl .nil)) .nil (fun ha => X_callS cf72.h (.cons (EN ha (.tmp rfl rfl) rfl) (.cons (EN ha (.tmp rfl rfl) rfl) .nil)) (s_l2Ints_ok x312 w318 x290 w321 _ hx323)) (fun _ => ?_)
       refine D_val rfl .no (fun ha => V_pick (b := false) (u := (.bool true)) (v := (.bool r322)) (EN ha (.tmp rfl rfl) rfl) (EN ha (.bool _) rfl) (EN ha (.tmp rfl rfl) rfl)) ?_
       refine Da (.bool r322) rfl rfl rfl rfl ?_
       refine D_nil ?_
       obtain rfl := Option.some.inj hF
       exact ⟨_, _, rfl, (EqL.cons rfl (EqL.cons rfl (EqL.cons rfl (EqL.cons rfl (EqL.cons rfl (EqL.cons rfl (EqL.cons rfl (EqL.cons rfl (EqL.nil))))))))).eq, (.sel (.rd (.t (.t (.t (.t .h)))) rfl (.rd (.t (.t (.t (.t (.t .h))))) rfl (.cons (.t (.t (.t (.t (.t (.t .h)))))) (.rd (.t (.t (.t (.t (.t (.t .h)))))) rfl (.rd (.t (.t (.t (.t (.t (.t (.t .h))))))) rfl .nil))))))⟩
     rintro _ _ ⟨c325, g327, rfl, rfl, hE⟩
     replace hF := hO310
     clear hO310
     try dsimp only at hF
     refine K_ent hE ?_
     refine CW_region (Cm (.int .i64 (k288 : Int)) rfl rfl ?_)
     refine C_val (V_add (i := (k288 : Int)) (j := 1) (.tmp rfl rfl) (.int _ _)) ?_
     refine Ca (.int .i64 (IntKind.i64.wrap ((k288 : Int) + 1))) rfl rfl ?_
     refine C_nil ?_
     have hw326 : IntKind.i64.wrap ((k288 : Int) + 1) = ((k288 + 1 : Nat) : Int) := by rw [wrap_in (by omega) (by omega)]; rfl
     rw [hw326]
     exact ⟨_, Nat.lt_succ_self _, _, k288 + 1, rest289, _, rfl, (EqL.cons rfl (EqL.cons rfl (EqL.cons rfl (EqL.cons rfl (EqL.cons rfl (EqL.cons rfl (EqL.cons rfl (EqL.cons rfl (EqL.nil))))))))).eq, hd294, (.sel (.rd .h rfl (.rd (.t .h) rfl (.cons (.t (.t .h)) (.rd (.t (.t .h)) rfl (.rd (.t (.t (.t .h))) rfl .nil)))))), hF⟩
   rintro _ _ ⟨c328, v329, F330, g331, rfl, rfl, hE⟩
   replace hF := hO283
   clear hO283
   try dsimp only at hF
   refine K_ent hE ?_
   refine CW_region (Cm (.int .i64 c266) rfl rfl ?_)
   refine C_val (V_add (i := c266) (j := 1) (.tmp rfl rfl) (.int _ _)) ?_
   refine Ca (.int .i64 (IntKind.i64.wrap (c266 + 1))) rfl rfl ?_
   refine C_nil ?_
   exact ⟨m267, Nat.lt_succ_self _, _, _, _, v329, F330, (EqL.cons rfl (EqL.cons rfl (EqL.cons rfl (EqL.cons rfl (EqL.cons rfl (EqL.cons rfl (EqL.nil))))))).eq, (.sel (.rd .h rfl (.rd (.t .h) rfl (.cons (.t (.t .h)) (.rd (.t (.t .h)) rfl (.rd (.t (.t (.t .h))) rfl .nil)))))), hF⟩
 rw [if_neg (by rw [hb332]; exact Bool.false_ne_true)] at hF
 refine CW_exit ?_
 iterate 2 refine CThen_exit ?_
 refine CIn_self (K_region (Cm v264.v rfl rfl ?_))
 refine Ca v264.v rfl rfl ?_
 refine C_nil (CW_ret ?_)
 obtain rfl := Option.some.inj hF
 exact End_ret (v264, F265) (.tmp rfl rfl .nil) rfl (.sel (.cons (.t (.t .h)) .nil))
def l_sameInts_L1 (a_b : List Int) : List Int → Nat → Option (Bool)
 | [], k4 => some true
 | x6 :: rest5, k4 => (ix a_b (k4 : Int)).bind fun x15 =>
   if ((x6 : Int) != x15) then (
     some false)
   else (
     l_sameInts_L1 a_b rest5 (k4 + 1))
def l_sameInts (a_a : List Int) (a_b : List Int) : Option (Bool) :=
 if (((a_a.length : Int) : Int) != (a_b.length : Int)) then (
   some false)
 else (
   l_sameInts_L1 a_b a_a 0)
theorem l_sameInts_ok (a_a : List Int) (v0_0 : Sv) (a_b : List Int) (v1_0 : Sv) (R : Bool) (hF : l_sameInts a_a a_b = some R) :
   Fw.Spec Tryz.prog 86 [v0_0.v, v1_0.v] [crd (RdS 3 rdInt) v0_0.v a_a, crd (RdS 3 rdInt) v1_0.v a_b] (fun _ : Unit => (.bool R)) (fun _ => []) := by
 refine Se 26 Tryz.func86 [.tmp 4] ?_
 intro H0 F0
 unfold l_sameInts at hF
 iterate 11 refine au ?_
 refine Ci hF (fun hb23 hF => ?_) (fun hb23 hF => ?_)
 · iterate 4 refine au ?_
   cases hF
   exact Er ()
 iterate 5 refine au ?_
 refine CW_block (CW_loop (m := a_a.length) (fun m2 f' cs' => ∃ (g : Fr) (k4 : Nat) (rest5 : List Int), m2 = rest5.length ∧ f' = updL g [(0, v0_0.v), (1, v1_0.v), (5, (.int .i64 (k4 : Int)))] ∧ List.drop k4 a_a = rest5 ∧ Ent cs' [crd (RdS 3 rdInt) v0_0.v a_a, crd (RdS 3 rdInt) v1_0.v a_b] ∧ l_sameInts_L1 a_b rest5 k4 = some R) ⟨_, 0, _, rfl, eqA, rfl, entA, hF⟩ ?_)
 rintro m2 _ _ ⟨g3, k4, rest5, rfl, rfl, hd7, hE, hF⟩
 refine Kb hE a_a (fun hbd12 => ?_)
 rcases rest5 with _ | ⟨x6, rest5⟩
 · have hk8 := dn hd7
   rw [l_sameInts_L1] at hF
   iterate 7 refine au ?_
   refine CdF ?_
   iterate 8 refine au ?_
   cases hF
   exact Er ()
 obtain ⟨hk8, hx9, hd10⟩ := drop_cons hd7
 rw [l_sameInts_L1] at hF
 iterate 7 refine au ?_
 refine CdT ?_
 iterate 2 refine au ?_
 refine K_draw [0, 1, 2, 3, 4, 5, 6, 7, 8] [0, 0, 3, 7, 0, 0, 48, 112, 255] [] mixed (by decide +kernel) ?_
 iterate 2 refine du ?_
 refine Di hx9 (fun k13 j14 => ?_)
 refine Dl ls3_0 ?_
 iterate 2 refine du ?_
 refine bnd hF fun x15 hx16 hF => ?_
 obtain ⟨hp17, hx18⟩ := ix_some hx16
 refine Di hx18 (fun k19 j20 => ?_)
 refine Dl ls3_0 ?_
 iterate 2 refine du ?_
 refine Ci hF (fun hb22 hF => ?_) (fun hb22 hF => ?_)
 · iterate 4 refine au ?_
   cases hF
   exact Er ()
 iterate 6 refine au ?_
 rw [wk k4]
 exact ⟨_, Nat.lt_succ_self _, _, k4 + 1, rest5, rfl, eqA, hd10, entA, hF⟩
def l_within_L2 (x6 : List Int) : List (List Int) → Nat → Bool → Option (Sum (Bool) (Unit))
 | [], k19, c15 => if (!c15) then (
     some (.inl false))
   else (
     some (.inr ()))
 | x21 :: rest20, k19, c15 => (bif c15 then (some true)
     else ((l_sameInts x6 x21).bind fun r38 =>
       some r38)).bind fun o29 =>
   match o29 with
   | c41 => l_within_L2 x6 rest20 (k19 + 1) c41
def l_within_L1 (a_b : List (List Int)) : List (List Int) → Nat → Option (Bool)
 | [], k4 => some true
 | x6 :: rest5, k4 => ((l_within_L2 x6 a_b 0 false) : Option (Sum (Bool) (Unit))).bind fun o13 =>
   match o13 with
   | .inl r => some r
   | .inr _ => l_within_L1 a_b rest5 (k4 + 1)
def l_within (a_a : List (List Int)) (a_b : List (List Int)) : Option (Bool) :=
 l_within_L1 a_b a_a 0
theorem l_within_ok (a_a : List (List Int)) (v0_0 : Sv) (a_b : List (List Int)) (v1_0 : Sv) (R : Bool) (hF : l_within a_a a_b = some R) :
   Fw.Spec Tryz.prog 37 [v0_0.v, v1_0.v] [crd (RdS 24 (RdS 3 rdInt)) v0_0.v a_a, crd (RdS 24 (RdS 3 rdInt)) v1_0.v a_b] (fun _ : Unit => (.bool R)) (fun _ => []) := by
 refine Se 34 Tryz.func37 [.tmp 4] ?_
 intro H0 F0
 unfold l_within at hF
 iterate 7 refine au ?_
 refine CW_block (CW_loop (m := a_a.length) (fun m2 f' cs' => ∃ (g : Fr) (k4 : Nat) (rest5 : List (List Int)), m2 = rest5.length ∧ f' = updL g [(0, v0_0.v), (1, v1_0.v), (5, (.int .i64 (k4 : Int)))] ∧ List.drop k4 a_a = rest5 ∧ Ent cs' [crd (RdS 24 (RdS 3 rdInt)) v0_0.v a_a, crd (RdS 24 (RdS 3 rdInt)) v1_0.v a_b] ∧ l_within_L1 a_b rest5 k4 = some R) ⟨_, 0, _, rfl, eqA, rfl, entA, hF⟩ ?_)
 rintro m2 _ _ ⟨g3, k4, rest5, rfl, rfl, hd7, hE, hF⟩
 refine Kb hE a_a (fun hbd12 => ?_)
 rcases rest5 with _ | ⟨x6, rest5⟩
 · have hk8 := dn hd7
   rw [l_within_L1] at hF
   iterate 7 refine au ?_
   refine CdF ?_
   iterate 8 refine au ?_
   cases hF
   exact Er ()
 obtain ⟨hk8, hx9, hd10⟩ := drop_cons hd7
 rw [l_within_L1] at hF
 iterate 7 refine au ?_
 refine CdT ?_
 refine au ?_
 obtain ⟨o13, hio13, hO14⟩ := bind_some hF
 refine K_cut (fun f' cs' => ∃ (g : Fr), o13 = .inr () ∧ f' = updL g [(0, v0_0.v), (1, v1_0.v), (5, (.int .i64 (k4 : Int)))] ∧ Ent cs' [crd (RdS 24 (RdS 3 rdInt)) v0_0.v a_a, crd (RdS 24 (RdS 3 rdInt)) v1_0.v a_b]) ?_ ?_
 · replace hF := hio13
   refine CW_block (K_region (C_val (V_assign (v := (.bool false)) (.bool _)) ?_))
   iterate 5 refine au ?_
   refine CW_block (CW_loop (m := a_b.length) (fun m17 f' cs' => ∃ (g : Fr) (k19 : Nat) (rest20 : List (List Int)) (c15 : Bool), m17 = rest20.length ∧ f' = updL g [(0, v0_0.v), (1, v1_0.v), (5, (.int .i64 (k4 : Int))), (6, (.bool c15)), (7, (.int .i64 (k19 : Int)))] ∧ List.drop k19 a_b = rest20 ∧ Ent cs' [crd (RdS 24 (RdS 3 rdInt)) v0_0.v a_a, crd (RdS 24 (RdS 3 rdInt)) v1_0.v a_b] ∧ l_within_L2 x6 rest20 k19 c15 = some o13) ⟨_, 0, _, _, rfl, eqA, rfl, entA, hF⟩ ?_)
   rintro m17 _ _ ⟨g18, k19, rest20, c15, rfl, rfl, hd22, hE, hF⟩
   refine Kb hE a_b (fun hbd27 => ?_)
   rcases rest20 with _ | ⟨x21, rest20⟩
   · have hk23 := dn hd22
     rw [l_within_L2] at hF
     iterate 7 refine au ?_
     refine CdF ?_
     iterate 8 refine au ?_
     refine Ci hF (fun hb28 hF => ?_) (fun hb28 hF => ?_)
     · iterate 4 refine au ?_
       cases hF
       replace hF := hO14
       try dsimp only at hF
       cases hF
       exact Er ()
     refine au ?_
     cases hF
     exact ⟨_, rfl, eqA, entA⟩
   obtain ⟨hk23, hx24, hd25⟩ := drop_cons hd22
   rw [l_within_L2] at hF
   iterate 7 refine au ?_
   refine CdT ?_
   iterate 2 refine au ?_
   obtain ⟨o29, hio29, hO30⟩ := bind_some hF
   refine CW_draw [0, 1, 2, 3, 4, 5, 6, 7, 8, 9, 10, 11, 12] [0, 1, 3, 3, 15, 31, 3, 3, 195, 451, 1023, 2047, 4095] [10] mixed (by decide +kernel) ?_
   refine D_cut (fun f' cs' => ∃ (c41 : Bool) (g : Fr), c41 = o29 ∧ f' = updL g [(0, v0_0.v), (1, v1_0.v), (5, (.int .i64 (k4 : Int))), (6, (.bool c41)), (7, (.int .i64 (k19 : Int)))] ∧ Ent cs' [crd (RdS 24 (RdS 3 rdInt)) v0_0.v a_a, crd (RdS 24 (RdS 3 rdInt)) v1_0.v a_b]) ?_ ?_
   · replace hF := hio29
     iterate 2 refine du ?_
     rcases Bool.eq_false_or_eq_true c15 with hg31 | hg31
     · rw [hg31]
       try rw [hg31] at hF; dsimp only [cond_true, cond_false] at hF
       iterate 12 refine du ?_
       cases hF
       exact ⟨_, _, rfl, eqA, entA⟩
     rw [hg31]
     try rw [hg31] at hF; dsimp only [cond_true, cond_false] at hF
     iterate 2 refine du ?_
     refine Di hx9 (fun k32 j33 => ?_)
     refine D_ldV (R' := (RdS 3 rdInt)) ag24.h rfl (.on 21 rfl rfl rfl) (.tmp rfl rfl) rfl .h lv24_0 (fun w34 => ?_)
     iterate 2 refine du ?_
     refine Di hx24 (fun k35 j36 => ?_)
     refine D_ldV (R' := (RdS 3 rdInt)) ag24.h rfl (.on 21 rfl rfl rfl) (.tmp rfl rfl) rfl .h lv24_0 (fun w37 => ?_)
     refine bnd hF fun r38 hx39 hF => Dx0 (l_sameInts_ok _ _ _ _ _ hx39) (fun _ => ?_)
     iterate 3 refine du ?_
     cases hF
     exact ⟨_, _, rfl, eqA, entA⟩
   rintro _ _ ⟨c41, g43, rfl, rfl, hE⟩
   replace hF := hO30
   try dsimp only at hF
   refine K_ent hE ?_
   iterate 5 refine au ?_
   rw [wk k19]
   exact ⟨_, Nat.lt_succ_self _, _, k19 + 1, rest20, _, rfl, eqA, hd25, entA, hF⟩
 rintro _ _ ⟨g45, rfl, rfl, hE⟩
 replace hF := hO14
 try dsimp only at hF
 refine K_ent hE ?_
 iterate 5 refine au ?_
 rw [wk k4]
 exact ⟨_, Nat.lt_succ_self _, _, k4 + 1, rest5, rfl, eqA, hd10, entA, hF⟩
def l_FnMaximals (fuel : Nat) (a_code : List UInt8) : Option (Bool) :=
 (l_big a_code).bind fun r1 =>
 if r1 then (
   some true)
 else (
   (s_DrawMaximalAnswers fuel a_code).bind fun r4 =>
   (i_MaximalAnswers r4.1 r4.2.1 r4.2.2.1 r4.2.2.2).bind fun r8 =>
   (i_LostAnswers r4.1 r4.2.1 r4.2.2.1 r4.2.2.2).bind fun r11 =>
   ((s_MaximalAnswers r4.1 r4.2.1 r4.2.2.1 r4.2.2.2).bind fun r37 =>
     (s_SameTuples r8 r37).bind fun r40 =>
     bif (!r40) then (some true)
     else ((s_LostAnswers r4.1 r4.2.1 r4.2.2.1 r4.2.2.2).bind fun r44 =>
       (s_SameTuples r11 r44).bind fun r47 =>
       some (!r47))).bind fun o35 =>
   match o35 with
   | c50 => if c50 then (
       some false)
     else (
       ((s_AreMethods r4.1 r4.2.1).bind fun r53 =>
         bif (!r53) then (some true)
         else ((s_IsQuery r4.1 r4.2.2.1).bind fun r57 =>
           bif (!r57) then (some true)
           else ((s_AreFacts r4.1 r4.2.2.2).bind fun r61 =>
             some (!r61)))).bind fun o51 =>
       match o51 with
       | c64 => if c64 then (
           some (((r8.length : Int) : Int) == 0))
         else (
           (s_AnswersOf r4.1 r4.2.2.1 r4.2.2.2).bind fun r65 =>
           (s_ConstantsOf r4.2.2.1).bind fun r68 =>
           (s_ReachAll r4.1 r4.2.1 r4.2.2.2 r68).bind fun r71 =>
           ((l_within r8 r65).bind fun r77 =>
             bif r77 then ((l_within r11 r65).bind fun r81 =>
               bif r81 then (bif (((IntKind.i64.wrap ((r8.length : Int) + (r11.length : Int))) : Int) == (r65.length : Int)) then ((i_AnswersOf r4.1 r4.2.2.1 r71.Facts).bind fun r86 =>
                   (s_SameTuples r86 r8).bind fun r89 =>
                   bif r89 then ((i_MaximalAnswers r4.1 r4.2.1 r4.2.2.1 r71.Facts).bind fun r93 =>
                     (s_SameTuples r93 r8).bind fun r96 =>
                     some r96)
                   else (some false))
                 else (some false))
               else (some false))
             else (some false)).bind fun o75 =>
           match o75 with
           | c99 => some c99)))
theorem l_FnMaximals_ok (fuel : Nat) (a_code : List UInt8) (v0_0 : Sv) (R : Bool) (hF : l_FnMaximals fuel a_code = some R) :
   Fw.Spec Tryz.prog 4 [v0_0.v] [crd (RdS 5 rdU8) v0_0.v a_code] (fun _ : Unit => (.bool R)) (fun _ => []) := by
 refine Se 114 Tryz.func4 [.tmp 2] ?_
 intro H0 F0
 unfold l_FnMaximals at hF
 iterate 6 refine au ?_
 refine bnd hF fun r1 hx2 hF => Cx0 (l_big_ok _ _ _ hx2) (fun _ => ?_)
 refine au ?_
 refine Ci hF (fun hb105 hF => ?_) (fun hb105 hF => ?_)
 · iterate 4 refine au ?_
   cases hF
   exact Er ()
 iterate 3 refine au ?_
 refine bnd hF fun r4 hx5 hF => Cx5 (s_DrawMaximalAnswers_ok _ _ _ _ hx5) (fun p6 => ?_)
 refine au ?_
 refine C_val (V_extract (l := [p6.1.v, p6.2.1.v, (.agg [p6.2.2.2.1.v, p6.2.2.2.2.2.1.v].toArray), p6.2.2.2.2.2.2.1.v]) (v := p6.1.v) (.tmp rfl rfl) rfl) ?_
 refine C_val (V_extract (l := [p6.1.v, p6.2.1.v, (.agg [p6.2.2.2.1.v, p6.2.2.2.2.2.1.v].toArray), p6.2.2.2.2.2.2.1.v]) (v := p6.2.1.v) (.tmp rfl rfl) rfl) ?_
 refine C_val (V_extract (l := [p6.1.v, p6.2.1.v, (.agg [p6.2.2.2.1.v, p6.2.2.2.2.2.1.v].toArray), p6.2.2.2.2.2.2.1.v]) (v := (.agg [p6.2.2.2.1.v, p6.2.2.2.2.2.1.v].toArray)) (.tmp rfl rfl) rfl) ?_
 refine C_val (V_extract (l := [p6.1.v, p6.2.1.v, (.agg [p6.2.2.2.1.v, p6.2.2.2.2.2.1.v].toArray), p6.2.2.2.2.2.2.1.v]) (v := p6.2.2.2.2.2.2.1.v) (.tmp rfl rfl) rfl) ?_
 refine AnW (fun k7 => ?_)
 iterate 2 refine au ?_
 refine As (.agg [p6.2.2.2.1.v, p6.2.2.2.2.2.1.v].toArray) ?_
 iterate 7 refine au ?_
 refine bnd hF fun r8 hx9 hF => C_x4 (.cons (.t (.t (.t (.t (.t .h))))) (.cons (.t (.t (.t .h))) (.cons (.t (.t .h)) (.rd (.t .h) rfl (.rd (.t (.t .h)) rfl .nil))))) (XC_borL (pre := _) (.cons frz_own (.cons frz_own (.cons frz_own .nil))) (fun _ => (.cons .nil)) (XC_pre (.rd (.t (.t (.t .h))) rfl (.rd .h rfl (.rd (.t .h) rfl (.rd (.t (.t (.t (.t .h)))) rfl (.rd (.t (.t .h)) rfl .nil))))) (X_callS cf26.h (.cons (.tmp rfl rfl) (.cons (.tmp rfl rfl) (.cons (.tmp rfl rfl) (.cons (.tmp rfl rfl) .nil)))) (i_MaximalAnswers_ok r4.1 p6.1 r4.2.1 p6.2.1 r4.2.2.1 p6.2.2.2.1 p6.2.2.2.2.2.1 r4.2.2.2 p6.2.2.2.2.2.2.1 _ hx9)))) (fun p10 => ?_)
 iterate 7 refine au ?_
 refine bnd hF fun r11 hx12 hF => C_x4 (.cons .h (.cons .h (.cons .h (.rd (.t (.t .h)) rfl (.rd (.t (.t (.t .h))) rfl .nil))))) (XC_borL (pre := _) (.cons frz_own (.cons frz_own (.cons frz_own .nil))) (fun _ => (.cons .nil)) (XC_pre (.rd (.t (.t (.t .h))) rfl (.rd .h rfl (.rd (.t .h) rfl (.rd (.t (.t (.t (.t .h)))) rfl (.rd (.t (.t .h)) rfl .nil))))) (X_callS cf27.h (.cons (.tmp rfl rfl) (.cons (.tmp rfl rfl) (.cons (.tmp rfl rfl) (.cons (.tmp rfl rfl) .nil)))) (i_LostAnswers_ok r4.1 p6.1 r4.2.1 p6.2.1 r4.2.2.1 p6.2.2.2.1 p6.2.2.2.2.2.1 r4.2.2.2 p6.2.2.2.2.2.2.1 _ hx12)))) (fun p13 => ?_)
 iterate 3 refine au ?_
 iterate 3 refine K_frz (.t (.t .h)) frz_own ?_
 obtain ⟨o35, hio35, hO36⟩ := bind_some hF
 refine au ?_
 refine C_cut (fun f' cs' => ∃ (c50 : Bool) (g : Fr), c50 = o35 ∧ f' = updL g [(3, p6.1.v), (4, p6.2.1.v), (5, (pz k7)), (6, p6.2.2.2.2.2.2.1.v), (7, p10.1.v), (8, p13.1.v), (47, (.bool c50))] ∧ Ent cs' [crd (RdS 3 rdInt) p6.1.v r4.1, crd (RdS 73 rd73) p6.2.1.v r4.2.1, cbox k7 51 (.agg [p6.2.2.2.1.v, p6.2.2.2.2.2.1.v].toArray), crd (RdS 3 rdInt) p6.2.2.2.1.v r4.2.2.1.Head, crd (RdS 98 rd98) p6.2.2.2.2.2.1.v r4.2.2.1.Atoms, crd (RdS 86 rd86) p6.2.2.2.2.2.2.1.v r4.2.2.2, cown (OwnS 24 (OwnS 3 (roE rdInt))) p10.2 p10.1.v r8, cown (OwnS 24 (OwnS 3 (roE rdInt))) p13.2 p13.1.v r11]) ?_ ?_
 · replace hF := hio35
   iterate 5 refine au ?_
   refine bnd hF fun r37 hx38 hF => Cx1 (s_MaximalAnswers_ok _ _ _ _ _ _ _ _ _ _ hx38) (fun p39 => ?_)
   refine bnd hF fun r40 hx41 hF => C_x2 (.cons .h (.cons (.t (.t (.t (.t .h)))) .nil)) (XC_borL (pre := []) (.cons frz_own (.cons frz_own .nil)) (fun _ => .nil) (X_callS cf28.h (.cons (.tmp rfl rfl) (.cons (.tmp rfl rfl) .nil)) (s_SameTuples_ok r8 p10.1 r37 p39.1 _ hx41))) (fun _ => ?_)
   iterate 2 refine au ?_
   rcases Bool.eq_false_or_eq_true (!r40) with hg43 | hg43
   · rw [hg43]
     try rw [hg43] at hF; dsimp only [cond_true, cond_false] at hF
     iterate 10 refine au ?_
     cases hF
     exact ⟨_, _, rfl, eqA, entA⟩
   rw [hg43]
   try rw [hg43] at hF; dsimp only [cond_true, cond_false] at hF
   iterate 11 refine au ?_
   refine bnd hF fun r44 hx45 hF => Cx1 (s_LostAnswers_ok _ _ _ _ _ _ _ _ _ _ hx45) (fun p46 => ?_)
   refine au ?_
   refine bnd hF fun r47 hx48 hF => C_x2 (.cons .h (.cons (.t (.t (.t (.t (.t .h))))) .nil)) (XC_borG (pre := []) (.cons frz_own (.cons frz_own .nil)) (fun _ => .nil) (XC_pre (.rd (.t .h) rfl (.rd .h rfl .nil)) (X_callS cf28.h (.cons (.tmp rfl rfl) (.cons (.tmp rfl rfl) .nil)) (s_SameTuples_ok r11 p13.1 r44 p46.1 _ hx48)))) (fun _ => ?_)
   iterate 4 refine au ?_
   cases hF
   exact ⟨_, _, rfl, eqA, entA⟩
 rintro _ _ ⟨c50, g104, rfl, rfl, hE⟩
 replace hF := hO36
 try dsimp only at hF
 refine K_ent hE ?_
 refine Ci hF (fun hb103 hF => ?_) (fun hb103 hF => ?_)
 · iterate 4 refine au ?_
   cases hF
   exact Er ()
 iterate 2 refine au ?_
 obtain ⟨o51, hio51, hO52⟩ := bind_some hF
 refine au ?_
 refine C_cut (fun f' cs' => ∃ (c64 : Bool) (g : Fr), c64 = o51 ∧ f' = updL g [(3, p6.1.v), (4, p6.2.1.v), (5, (pz k7)), (6, p6.2.2.2.2.2.2.1.v), (7, p10.1.v), (8, p13.1.v), (63, (.bool c64))] ∧ Ent cs' [crd (RdS 3 rdInt) p6.1.v r4.1, crd (RdS 73 rd73) p6.2.1.v r4.2.1, cbox k7 51 (.agg [p6.2.2.2.1.v, p6.2.2.2.2.2.1.v].toArray), crd (RdS 3 rdInt) p6.2.2.2.1.v r4.2.2.1.Head, crd (RdS 98 rd98) p6.2.2.2.2.2.1.v r4.2.2.1.Atoms, crd (RdS 86 rd86) p6.2.2.2.2.2.2.1.v r4.2.2.2, cown (OwnS 24 (OwnS 3 (roE rdInt))) p10.2 p10.1.v r8, cown (OwnS 24 (OwnS 3 (roE rdInt))) p13.2 p13.1.v r11]) ?_ ?_
 · replace hF := hio51
   iterate 2 refine au ?_
   refine bnd hF fun r53 hx54 hF => Cx0 (s_AreMethods_ok _ _ _ _ _ hx54) (fun _ => ?_)
   iterate 2 refine au ?_
   rcases Bool.eq_false_or_eq_true (!r53) with hg56 | hg56
   · rw [hg56]
     try rw [hg56] at hF; dsimp only [cond_true, cond_false] at hF
     iterate 12 refine au ?_
     cases hF
     exact ⟨_, _, rfl, eqA, entA⟩
   rw [hg56]
   try rw [hg56] at hF; dsimp only [cond_true, cond_false] at hF
   iterate 5 refine au ?_
   refine bnd hF fun r57 hx58 hF => Cx0 (s_IsQuery_ok _ _ _ _ _ _ hx58) (fun _ => ?_)
   iterate 4 refine au ?_
   rcases Bool.eq_false_or_eq_true (!r57) with hg60 | hg60
   · rw [hg60]
     try rw [hg60] at hF; dsimp only [cond_true, cond_false] at hF
     iterate 6 refine au ?_
     cases hF
     exact ⟨_, _, rfl, eqA, entA⟩
   rw [hg60]
   try rw [hg60] at hF; dsimp only [cond_true, cond_false] at hF
   iterate 5 refine au ?_
   refine bnd hF fun r61 hx62 hF => Cx0 (s_AreFacts_ok _ _ _ _ _ hx62) (fun _ => ?_)
   iterate 4 refine au ?_
   cases hF
   exact ⟨_, _, rfl, eqA, entA⟩
 rintro _ _ ⟨c64, g102, rfl, rfl, hE⟩
 replace hF := hO52
 try dsimp only at hF
 refine K_ent hE ?_
 refine Ci hF (fun hb101 hF => ?_) (fun hb101 hF => ?_)
 · iterate 7 refine au ?_
   cases hF
   exact Er ()
 iterate 5 refine au ?_
 refine bnd hF fun r65 hx66 hF => Cx1 (s_AnswersOf_ok _ _ _ _ _ _ _ _ hx66) (fun p67 => ?_)
 iterate 7 refine au ?_
 refine bnd hF fun r68 hx69 hF => Cx1 (s_ConstantsOf_ok _ _ _ _ hx69) (fun p70 => ?_)
 refine C_frz .h frz_own ?_
 refine bnd hF fun r71 hx72 hF => Cx3 (s_ReachAll_ok _ _ _ _ _ _ _ _ _ hx72) (fun p73 => ?_)
 refine AnW (fun k74 => ?_)
 refine As (.agg [p73.1.v, p73.2.1.v, p73.2.2.v, (.int .i64 r71.Rounds)].toArray) ?_
 refine au ?_
 obtain ⟨o75, hio75, hO76⟩ := bind_some hF
 refine au ?_
 refine C_cut (fun f' cs' => ∃ (c99 : Bool) (g : Fr), c99 = o75 ∧ f' = updL g [(2, (.bool c99))] ∧ Ent cs' []) ?_ ?_
 · replace hF := hio75
   iterate 2 refine au ?_
   refine bnd hF fun r77 hx78 hF => C_x2 (.cons (.t (.t (.t (.t (.t .h))))) (.cons (.t (.t (.t (.t (.t (.t (.t (.t (.t (.t (.t .h))))))))))) .nil)) (XC_borL (pre := []) (.cons frz_own (.cons frz_own .nil)) (fun _ => .nil) (X_callS cf37.h (.cons (.tmp rfl rfl) (.cons (.tmp rfl rfl) .nil)) (l_within_ok r8 p10.1 r65 p67.1 _ hx78))) (fun _ => ?_)
   refine au ?_
   rcases Bool.eq_false_or_eq_true r77 with hg80 | hg80
   · rw [hg80]
     try rw [hg80] at hF; dsimp only [cond_true, cond_false] at hF
     iterate 5 refine au ?_
     refine bnd hF fun r81 hx82 hF => C_x2 (.cons .h (.cons (.t (.t (.t (.t (.t (.t (.t (.t (.t (.t (.t (.t .h)))))))))))) .nil)) (XC_borL (pre := []) (.cons frz_own (.cons frz_own .nil)) (fun _ => .nil) (X_callS cf37.h (.cons (.tmp rfl rfl) (.cons (.tmp rfl rfl) .nil)) (l_within_ok r11 p13.1 r65 p67.1 _ hx82))) (fun _ => ?_)
     iterate 2 refine au ?_
     rcases Bool.eq_false_or_eq_true r81 with hg84 | hg84
     · rw [hg84]
       try rw [hg84] at hF; dsimp only [cond_true, cond_false] at hF
       iterate 18 refine au ?_
       rcases Bool.eq_false_or_eq_true (((IntKind.i64.wrap ((r8.length : Int) + (r11.length : Int))) : Int) == (r65.length : Int)) with hg85 | hg85
       · rw [hg85]
         try rw [hg85] at hF; dsimp only [cond_true, cond_false] at hF
         iterate 9 refine au ?_
         refine bnd hF fun r86 hx87 hF => Cx1 (i_AnswersOf_ok _ _ _ _ _ _ _ _ hx87) (fun p88 => ?_)
         iterate 3 refine au ?_
         refine bnd hF fun r89 hx90 hF => C_x2 (.cons (.t (.t (.t .h))) (.cons .h .nil)) (XC_borL (pre := []) (.cons frz_own (.cons frz_own .nil)) (fun _ => .nil) (X_callS cf28.h (.cons (.tmp rfl rfl) (.cons (.tmp rfl rfl) .nil)) (s_SameTuples_ok r86 p88.1 r8 p10.1 _ hx90))) (fun _ => ?_)
         iterate 2 refine au ?_
         rcases Bool.eq_false_or_eq_true r89 with hg92 | hg92
         · rw [hg92]
           try rw [hg92] at hF; dsimp only [cond_true, cond_false] at hF
           iterate 11 refine au ?_
           refine bnd hF fun r93 hx94 hF => Cx1 (i_MaximalAnswers_ok _ _ _ _ _ _ _ _ _ _ hx94) (fun p95 => ?_)
           iterate 3 refine au ?_
           refine bnd hF fun r96 hx97 hF => C_x2 (.cons (.t .h) (.cons .h .nil)) (XC_borL (pre := []) (.cons frz_own (.cons frz_own .nil)) (fun _ => .nil) (X_callS cf28.h (.cons (.tmp rfl rfl) (.cons (.tmp rfl rfl) .nil)) (s_SameTuples_ok r93 p95.1 r8 p10.1 _ hx97))) (fun _ => ?_)
           iterate 3 refine au ?_
           cases hF
           exact ⟨_, _, rfl, eqA, entA⟩
         rw [hg92]
         try rw [hg92] at hF; dsimp only [cond_true, cond_false] at hF
         iterate 11 refine au ?_
         cases hF
         exact ⟨_, _, rfl, eqA, entA⟩
       rw [hg85]
       try rw [hg85] at hF; dsimp only [cond_true, cond_false] at hF
       iterate 20 refine au ?_
       cases hF
       exact ⟨_, _, rfl, eqA, entA⟩
     rw [hg84]
     try rw [hg84] at hF; dsimp only [cond_true, cond_false] at hF
     iterate 30 refine au ?_
     cases hF
     exact ⟨_, _, rfl, eqA, entA⟩
   rw [hg80]
   try rw [hg80] at hF; dsimp only [cond_true, cond_false] at hF
   iterate 35 refine au ?_
   cases hF
   exact ⟨_, _, rfl, eqA, entA⟩
 rintro _ _ ⟨c99, g100, rfl, rfl, hE⟩
 replace hF := hO76
 try dsimp only at hF
 refine K_ent hE ?_
 refine au ?_
 cases hF
 exact Er ()
end Go.Proofs.YtndckmfbndmkhabGreat
