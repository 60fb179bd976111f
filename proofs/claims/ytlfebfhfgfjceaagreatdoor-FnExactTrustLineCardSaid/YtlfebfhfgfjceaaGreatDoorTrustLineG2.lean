/-
  Functions of the program as Lean functions, and that the calls return what these say: part 3. No conditions.
-/
import Derived.Shelf.Strings.OnBuilder
import Derived.Shelf.Strconv.Itoa3
import Derived.Test.YtlfebfhfgfjceaaGreatDoorTrustLineG1
import Derived.KernelRfl
set_option maxRecDepth 100000
set_option maxHeartbeats 1000000
set_option linter.unusedVariables false
namespace Go.Proofs.YtlfebfhfgfjceaaGreatDoor
open Go Go.Fw

def i_FormatFact (a_f : Fact) : Option ((List UInt8)) :=
 ((i_isRel a_f.Rel).bind fun r4 =>
   bif (!r4) then (some true)
   else ((i_within (a_f.Values.length : Int) 1 3).bind fun r8 =>
     bif (!r8) then (some true)
     else ((i_areValues a_f.Values).bind fun r12 =>
       some (!r12)))).bind fun o2 =>
 match o2 with
 | c15 => if c15 then (
     some [])
   else (
     (i_FormatInt a_f.Rel).bind fun r16 =>
     (cat [114] r16).bind fun x19 =>
     (cat x19 [40]).bind fun x23 =>
     (i_joined a_f.Values [44]).bind fun r27 =>
     (cat x23 r27).bind fun x30 =>
     (cat x30 [41]).bind fun x34 =>
     some x34)
theorem i_FormatFact_ok (a_f : Fact) (v0_1 : Sv) (R : (List UInt8)) (hF : i_FormatFact a_f = some R) :
   Fw.Spec Tryz.prog 98 [(.agg [(.int .i64 a_f.Rel), v0_1.v].toArray)] [crd (RdS 3 rdInt) v0_1.v a_f.Values] (fun _ : Unit => (sv R)) (fun _ => []) := by
 refine Se 30 Tryz.func98 [.tmp 2] ?_
 intro H0 F0
 unfold i_FormatFact at hF
 refine au ?_
 refine AbR (fun k1 => ?_)
 iterate 3 refine au ?_
 obtain ⟨o2, hio2, hO3⟩ := bind_some hF
 refine au ?_
 refine C_cut (fun f' cs' => ∃ (c15 : Bool) (g : Fr), c15 = o2 ∧ f' = updL g [(1, (pz k1)), (19, (.bool c15))] ∧ Ent cs' [cboR k1 129 (.agg [(.int .i64 a_f.Rel), v0_1.v].toArray), crd (RdS 3 rdInt) v0_1.v a_f.Values]) ?_ ?_
 · replace hF := hio2
   iterate 2 refine au ?_
   refine bnd hF fun r4 hx5 hF => Cx0 (i_isRel_ok _ _ hx5) (fun _ => ?_)
   iterate 2 refine au ?_
   rcases Bool.eq_false_or_eq_true (!r4) with hg7 | hg7
   · rw [hg7]
     try rw [hg7] at hF; dsimp only [cond_true, cond_false] at hF
     iterate 13 refine au ?_
     cases hF
     exact ⟨_, _, rfl, eqA, entA⟩
   rw [hg7]
   try rw [hg7] at hF; dsimp only [cond_true, cond_false] at hF
   iterate 7 refine au ?_
   refine bnd hF fun r8 hx9 hF => Cx0 (i_within_ok _ _ _ _ hx9) (fun _ => ?_)
   iterate 4 refine au ?_
   rcases Bool.eq_false_or_eq_true (!r8) with hg11 | hg11
   · rw [hg11]
     try rw [hg11] at hF; dsimp only [cond_true, cond_false] at hF
     iterate 6 refine au ?_
     cases hF
     exact ⟨_, _, rfl, eqA, entA⟩
   rw [hg11]
   try rw [hg11] at hF; dsimp only [cond_true, cond_false] at hF
   iterate 5 refine au ?_
   refine bnd hF fun r12 hx13 hF => Cx0 (i_areValues_ok _ _ _ hx13) (fun _ => ?_)
   iterate 4 refine au ?_
   cases hF
   exact ⟨_, _, rfl, eqA, entA⟩
 rintro _ _ ⟨c15, g39, rfl, rfl, hE⟩
 replace hF := hO3
 try dsimp only at hF
 refine K_ent hE ?_
 refine Ci hF (fun hb38 hF => ?_) (fun hb38 hF => ?_)
 · iterate 4 refine au ?_
   cases hF
   exact Er ()
 refine au ?_
 refine K_draw [0, 1, 5, 6, 2, 3, 4, 7, 8, 9, 10] [0, 1, 3, 7, 15, 0, 32, 103, 255, 511, 1023] [2, 7] mixed (by decide +kernel) ?_
 iterate 4 refine du ?_
 refine bnd hF fun r16 hx17 hF => Dx0 (i_FormatInt_ok _ _ hx17) (fun _ => ?_)
 refine bnd hF fun x19 hx20 hF => ?_
 obtain ⟨hq22, hz21⟩ := cat_some hx20
 refine D_val rfl .no (fun ha => V_concatN (s := [114]) (t := r16) (u := x19) (EN ha (.sv _) rfl) (EN ha (.tmp rfl rfl) rfl) hx20) ?_
 refine bnd hF fun x23 hx24 hF => ?_
 obtain ⟨hq26, hz25⟩ := cat_some hx24
 refine D_val rfl .no (fun ha => V_concatN (s := x19) (t := [40]) (u := x23) (EN ha (.tmp rfl rfl) rfl) (EN ha (.sv _) rfl) hx24) ?_
 refine bnd hF fun r27 hx28 hF => Dx0 (i_joined_ok _ _ _ _ hx28) (fun _ => ?_)
 refine bnd hF fun x30 hx31 hF => ?_
 obtain ⟨hq33, hz32⟩ := cat_some hx31
 refine D_val rfl .no (fun ha => V_concatN (s := x23) (t := r27) (u := x30) (EN ha (.tmp rfl rfl) rfl) (EN ha (.tmp rfl rfl) rfl) hx31) ?_
 refine bnd hF fun x34 hx35 hF => ?_
 obtain ⟨hq37, hz36⟩ := cat_some hx35
 refine D_val rfl .no (fun ha => V_concatN (s := x30) (t := [41]) (u := x34) (EN ha (.tmp rfl rfl) rfl) (EN ha (.sv _) rfl) hx35) ?_
 iterate 2 refine du ?_
 refine au ?_
 cases hF
 exact Er ()
def i_factsText_L1 : List Fact → Nat → (List (List UInt8)) → Option ((List UInt8))
 | [], k8, c2 => (g_strings_Join c2 [32]).bind fun r17 =>
   if (r17 == []) then (
     some [110, 111, 110, 101])
   else (
     some r17)
 | x10 :: rest9, k8, c2 => (i_FormatFact x10).bind fun r25 =>
   (app c2 ([r25] : List (List UInt8))).bind fun z29 =>
   i_factsText_L1 rest9 (k8 + 1) z29
def i_factsText (a_l : List Fact) : Option ((List UInt8)) :=
 i_factsText_L1 a_l 0 ([] : List (List UInt8))
theorem i_factsText_ok (a_l : List Fact) (v0_0 : Sv) (R : (List UInt8)) (hF : i_factsText a_l = some R) :
   Fw.Spec Tryz.prog 41 [v0_0.v] [crd (RdS 129 rd129) v0_0.v a_l] (fun _ : Unit => (sv R)) (fun _ => []) := by
 refine Se 25 Tryz.func41 [.tmp 2] ?_
 intro H0 F0
 unfold i_factsText at hF
 iterate 4 refine au ?_
 refine C_new rfl (N_buildSliceT (g := true) sl49.h ty9.h .nil (vs := []) rfl rfl rfl (by simp)) (fun k1 => ?_)
 refine Cv1 (.cons .h .nil) (own_lit (Ro := (roE rdStr)) (E := 9) (F := []) (xs := ([] : List (List UInt8))) MkL_nil rfl rfl) ?_
 iterate 8 refine au ?_
 refine CW_block (CW_loop (m := a_l.length) (fun m6 f' cs' => ∃ (g : Fr) (k8 : Nat) (rest9 : List Fact) (c2 : List (List UInt8)) (v3 : Sv) (F4 : List Nat), m6 = rest9.length ∧ f' = updL g [(3, v3.v), (8, v0_0.v), (9, (.int .i64 (a_l.length : Int))), (10, (.int .i64 (k8 : Int)))] ∧ List.drop k8 a_l = rest9 ∧ Ent cs' [cown (OwnS 9 (roE rdStr)) F4 v3.v c2, crd (RdS 129 rd129) v0_0.v a_l] ∧ i_factsText_L1 rest9 k8 c2 = some R) ⟨_, 0, _, _, ⟨(some ⟨k1, 0, none⟩), 0, 1⟩, (k1 :: []), rfl, eqA, rfl, entA, hF⟩ ?_)
 rintro m6 _ _ ⟨g7, k8, rest9, c2, v3, F4, rfl, rfl, hd11, hE, hF⟩
 refine Kb hE a_l (fun hbd16 => ?_)
 rcases rest9 with _ | ⟨x10, rest9⟩
 · have hk12 := dn hd11
   rw [i_factsText_L1] at hF
   iterate 4 refine au ?_
   refine CdF ?_
   iterate 6 refine au ?_
   refine bnd hF fun r17 hx18 hF => C_x1 (.cons .h .nil) (XC_bor frz_own (fun _ => .nil) (X_callS cf99.h (.cons (.tmp rfl rfl) (.cons (.sv _) .nil)) (g_strings_Join_ok c2 v3 [32] _ hx18))) (fun _ => ?_)
   iterate 5 refine au ?_
   refine C_val (V_eqT (s := r17) (t := []) (.tmp rfl rfl) (.sv _)) ?_
   refine au ?_
   refine Ci hF (fun hb20 hF => ?_) (fun hb20 hF => ?_)
   · iterate 4 refine au ?_
     cases hF
     exact Er ()
   iterate 6 refine au ?_
   cases hF
   exact Er ()
 obtain ⟨hk12, hx13, hd14⟩ := drop_cons hd11
 rw [i_factsText_L1] at hF
 iterate 4 refine au ?_
 refine CdT ?_
 iterate 3 refine au ?_
 refine Ai hx13 (fun k21 j22 => ?_)
 refine AlA1 (ul129_0_129 x10) la129_0_129 (fun p23 => ?_)
 refine AnW (fun k24 => ?_)
 refine As (.agg [(.int .i64 x10.Rel), p23.v].toArray) ?_
 iterate 4 refine au ?_
 refine bnd hF fun r25 hx26 hF => Cx0 (i_FormatFact_ok _ _ _ hx26) (fun _ => ?_)
 refine C_new rfl (N_buildSliceT (g := true) sl49.h ty9.h (.cons (.tmp rfl rfl) .nil) (vs := [(sv r25)]) rfl rfl rfl (by intro v hv; simp at hv; rcases hv with rfl <;> rfl)) (fun k28 => ?_)
 refine Cv1 (.cons .h .nil) (own_lit (Ro := (roE rdStr)) (E := 9) (F := ([] ++ [])) (xs := ([r25] : List (List UInt8))) (MkL_cons (Mk_pure (fun _ => rfl)) MkL_nil apps) rfl rfl) ?_
 refine bnd hF fun z29 hx30 hF => C_x1 (.cons (.t (.t (.t (.t .h)))) (.cons .h .nil)) (X_appendO (Ro := (roE rdStr)) sl49.h ni49 ty9.h rfl rfl rfl (.tmp rfl rfl) (.tmp rfl rfl) hx30 src_own) (fun p31 => ?_)
 iterate 6 refine au ?_
 rw [wk k8]
 exact ⟨_, Nat.lt_succ_self _, _, k8 + 1, rest9, _, p31.1, p31.2, rfl, eqA, hd14, entA, hF⟩
def i_parted_1 (a_set : List Int) (a_e1 : List Told) (a_e2 : Fact) : Option (Bool) :=
 (i_Without a_e1 a_set).bind fun r1 =>
 (i_UnionOf r1).bind fun r4 =>
 (i_HasFact r4 a_e2).bind fun r7 =>
 some (!r7)
theorem i_parted_1_ok (a_set : List Int) (v0_0 : Sv) (kc1 : Nat) (a_e1 : List Told) (vc1_0 : Sv) (kc2 : Nat) (a_e2 : Fact) (vc2_1 : Sv) (R : Bool) (hF : i_parted_1 a_set a_e1 a_e2 = some R) :
   Fw.Spec Tryz.prog 167 [v0_0.v, (pz kc1), (pz kc2)] [crd (RdS 3 rdInt) v0_0.v a_set, cboR kc1 31 vc1_0.v, crd (RdS 90 rd90) vc1_0.v a_e1, cboR kc2 129 (.agg [(.int .i64 a_e2.Rel), vc2_1.v].toArray), crd (RdS 3 rdInt) vc2_1.v a_e2.Values] (fun _ : Unit => (.bool R)) (fun _ => []) := by
 refine Se 12 Tryz.func167 [.tmp 4] ?_
 intro H0 F0
 unfold i_parted_1 at hF
 iterate 3 refine au ?_
 refine K_draw [0, 1, 4, 2, 3, 5, 6, 7] [0, 0, 3, 7, 0, 31, 63, 127] [2, 3, 5] mixed (by decide +kernel) ?_
 iterate 3 refine du ?_
 refine bnd hF fun r1 hx2 hF => Dx1 (i_Without_ok _ _ _ _ _ hx2) (fun p3 => ?_)
 refine bnd hF fun r4 hx5 hF => D_act2 rfl rfl .no (.cons .h .nil) .nil (fun ha => XC_bor frz_own (fun _ => (.cons .nil)) (X_callS cf42.h (.cons (EN ha (.tmp rfl rfl) rfl) .nil) (i_UnionOf_ok r1 p3.1 _ hx5))) (fun p6 => ?_)
 refine bnd hF fun r7 hx8 hF => D_act1 rfl rfl .no (.cons (.t .h) (.rd (.t (.t (.t (.t (.t .h))))) rfl .nil)) .nil (fun ha => XC_bor frz_own (fun _ => .nil) (X_callS cf161.h (.cons (EN ha (.tmp rfl rfl) rfl) (.cons (EN ha (.tmp rfl rfl) rfl) .nil)) (i_HasFact_ok r4 p6.1 a_e2 vc2_1 _ hx8))) (fun _ => ?_)
 iterate 3 refine du ?_
 refine au ?_
 cases hF
 exact Er ()
def g_slices_IndexFunc_int_int_iparted1_L1 (a_e1 : List Told) (a_e2 : Fact) : List (List Int) → Nat → Option (Int)
 | [], k4 => some (-1)
 | x6 :: rest5, k4 => (i_parted_1 x6 a_e1 a_e2).bind fun r16 =>
   if r16 then (
     some (k4 : Int))
   else (
     g_slices_IndexFunc_int_int_iparted1_L1 a_e1 a_e2 rest5 (k4 + 1))
def g_slices_IndexFunc_int_int_iparted1 (a_s : List (List Int)) (a_e1 : List Told) (a_e2 : Fact) : Option (Int) :=
 g_slices_IndexFunc_int_int_iparted1_L1 a_e1 a_e2 a_s 0
theorem g_slices_IndexFunc_int_int_iparted1_ok (a_s : List (List Int)) (v0_0 : Sv) (kc1 : Nat) (a_e1 : List Told) (vc1_0 : Sv) (kc2 : Nat) (a_e2 : Fact) (vc2_1 : Sv) (R : Int) (hF : g_slices_IndexFunc_int_int_iparted1 a_s a_e1 a_e2 = some R) :
   Fw.Spec Tryz.prog 210 [v0_0.v, (.func (.func 167) [].toArray [(pz kc1), (pz kc2)].toArray)] [crd (RdS 22 (RdS 3 rdInt)) v0_0.v a_s, cboR kc1 31 vc1_0.v, crd (RdS 90 rd90) vc1_0.v a_e1, cboR kc2 129 (.agg [(.int .i64 a_e2.Rel), vc2_1.v].toArray), crd (RdS 3 rdInt) vc2_1.v a_e2.Values] (fun _ : Unit => (.int .i64 R)) (fun _ => []) := by
 refine Se 19 Tryz.func210 [.tmp 4] ?_
 intro H0 F0
 unfold g_slices_IndexFunc_int_int_iparted1 at hF
 iterate 9 refine au ?_
 refine CW_block (CW_loop (m := a_s.length) (fun m2 f' cs' => ∃ (g : Fr) (k4 : Nat) (rest5 : List (List Int)), m2 = rest5.length ∧ f' = updL g [(0, v0_0.v), (1, (.func (.func 167) [].toArray [(pz kc1), (pz kc2)].toArray)), (7, (.int .i64 (a_s.length : Int))), (8, (.int .i64 (k4 : Int)))] ∧ List.drop k4 a_s = rest5 ∧ Ent cs' [crd (RdS 22 (RdS 3 rdInt)) v0_0.v a_s, cboR kc1 31 vc1_0.v, crd (RdS 90 rd90) vc1_0.v a_e1, cboR kc2 129 (.agg [(.int .i64 a_e2.Rel), vc2_1.v].toArray), crd (RdS 3 rdInt) vc2_1.v a_e2.Values] ∧ g_slices_IndexFunc_int_int_iparted1_L1 a_e1 a_e2 rest5 k4 = some R) ⟨_, 0, _, rfl, eqA, rfl, entA, hF⟩ ?_)
 rintro m2 _ _ ⟨g3, k4, rest5, rfl, rfl, hd7, hE, hF⟩
 refine Kb hE a_s (fun hbd12 => ?_)
 rcases rest5 with _ | ⟨x6, rest5⟩
 · have hk8 := dn hd7
   rw [g_slices_IndexFunc_int_int_iparted1_L1] at hF
   iterate 4 refine au ?_
   refine CdF ?_
   iterate 8 refine au ?_
   cases hF
   exact Er ()
 obtain ⟨hk8, hx9, hd10⟩ := drop_cons hd7
 rw [g_slices_IndexFunc_int_int_iparted1_L1] at hF
 iterate 4 refine au ?_
 refine CdT ?_
 iterate 10 refine au ?_
 refine Ai hx9 (fun k13 j14 => ?_)
 refine C_ldV (R' := (RdS 3 rdInt)) ag22.h (.tmp rfl rfl) .h lv22_0 (fun w15 => ?_)
 refine bnd hF fun r16 hx17 hF => C_x0 (.rd .h rfl (.rd (.t (.t (.t .h))) rfl (.rd (.t (.t (.t (.t .h)))) rfl (.rd (.t (.t (.t (.t (.t .h))))) rfl (.rd (.t (.t (.t (.t (.t (.t .h)))))) rfl .nil))))) (X_callCS cf167.h (.tmp rfl rfl) (.cons (.tmp rfl rfl) .nil) (i_parted_1_ok x6 w15 kc1 a_e1 vc1_0 kc2 a_e2 vc2_1 _ hx17)) (fun _ => ?_)
 refine au ?_
 refine Ci hF (fun hb20 hF => ?_) (fun hb20 hF => ?_)
 · iterate 5 refine au ?_
   cases hF
   exact Er ()
 iterate 5 refine au ?_
 rw [wk k4]
 exact ⟨_, Nat.lt_succ_self _, _, k4 + 1, rest5, rfl, eqA, hd10, entA, hF⟩
def g_slices_ContainsFunc_int_int_iparted1 (a_s : List (List Int)) (a_e1 : List Told) (a_e2 : Fact) : Option (Bool) :=
 (g_slices_IndexFunc_int_int_iparted1 a_s a_e1 a_e2).bind fun r1 =>
 some (decide ((0 : Int) ≤ r1))
theorem g_slices_ContainsFunc_int_int_iparted1_ok (a_s : List (List Int)) (v0_0 : Sv) (kc1 : Nat) (a_e1 : List Told) (vc1_0 : Sv) (kc2 : Nat) (a_e2 : Fact) (vc2_1 : Sv) (R : Bool) (hF : g_slices_ContainsFunc_int_int_iparted1 a_s a_e1 a_e2 = some R) :
   Fw.Spec Tryz.prog 166 [v0_0.v, (.func (.func 167) [].toArray [(pz kc1), (pz kc2)].toArray)] [crd (RdS 22 (RdS 3 rdInt)) v0_0.v a_s, cboR kc1 31 vc1_0.v, crd (RdS 90 rd90) vc1_0.v a_e1, cboR kc2 129 (.agg [(.int .i64 a_e2.Rel), vc2_1.v].toArray), crd (RdS 3 rdInt) vc2_1.v a_e2.Values] (fun _ : Unit => (.bool R)) (fun _ => []) := by
 refine Se 9 Tryz.func166 [.tmp 4] ?_
 intro H0 F0
 unfold g_slices_ContainsFunc_int_int_iparted1 at hF
 iterate 6 refine au ?_
 refine bnd hF fun r1 hx2 hF => Cx0 (g_slices_IndexFunc_int_int_iparted1_ok _ _ _ _ _ _ _ _ _ hx2) (fun _ => ?_)
 iterate 4 refine au ?_
 cases hF
 exact Er ()
def i_parted_L1 (a_list : List Told) (r2 : (List (List Int)) × Bool) : List Fact → Nat → (List Fact) → (List Fact) → Option ((List Fact) × (List Fact) × Bool)
 | [], k62, c53, c56 => some (c53, c56, true)
 | x64 :: rest63, k62, c53, c56 => ((g_slices_ContainsFunc_int_int_iparted1 r2.1 a_list x64).bind fun r77 =>
     if r77 then (
       (app c56 ([x64] : List Fact)).bind fun z81 =>
       some (c53, z81))
     else (
       (app c53 ([x64] : List Fact)).bind fun z85 =>
       some (z85, c56))).bind fun o71 =>
   match o71 with
   | (c89, c92) => i_parted_L1 a_list r2 rest63 (k62 + 1) c89 c92
def i_parted (a_s : List Int) (a_l : List Method) (a_list : List Told) : Option ((List Fact) × (List Fact) × Bool) :=
 (i_removals a_s a_l a_list).bind fun r2 =>
 if (!r2.2) then (
   some ([], [], false))
 else (
   (i_UnionOf a_list).bind fun r7 =>
   i_parted_L1 a_list r2 r7 0 ([] : List Fact) ([] : List Fact))
theorem i_parted_ok (a_s : List Int) (v0_0 : Sv) (a_l : List Method) (v1_0 : Sv) (a_list : List Told) (v2_0 : Sv) (R : (List Fact) × (List Fact) × Bool) (hF : i_parted a_s a_l a_list = some R) :
   Fw.Spec Tryz.prog 101 [v0_0.v, v1_0.v, v2_0.v] [crd (RdS 3 rdInt) v0_0.v a_s, crd (RdS 86 rd86) v1_0.v a_l, crd (RdS 90 rd90) v2_0.v a_list] (fun p : Sv × List Nat × Sv × List Nat => (.tuple [p.1.v, p.2.2.1.v, (.bool R.2.2)].toArray)) (fun p => [cown (OwnS 129 (roE rd129)) p.2.1 p.1.v R.1, cown (OwnS 129 (roE rd129)) p.2.2.2 p.2.2.1.v R.2.1]) := by
 refine Spec_enter (n := 47) Tryz.func101 rfl rfl (rs := [.tmp 6, .tmp 7, .tmp 8]) rfl rfl rfl ?_
 intro H0 F0
 unfold i_parted at hF
 refine K_region (C_newR rfl (N_box (g := false) (v := v2_0.v) ty31.h.sz (.tmp rfl rfl) rfl) (fun k1 => ?_))
 iterate 2 refine C_val (V_assign (v := (.slice none 0 0)) EV.nilSlice) ?_
 refine C_val (V_assign (v := (.bool false)) (.bool _)) ?_
 refine C_nil (K_region (Cm v0_0.v rfl rfl ?_))
 refine Cm v1_0.v rfl rfl ?_
 refine C_at .h (fun hp => V_load (v := v2_0.v) ag31.h (.tmp rfl rfl) hp.2 rfl rfl) ?_
 obtain ⟨r2, hx3, hF⟩ := bind_some hF
 refine C_x1 (.rd (.t .h) rfl (.rd (.t (.t .h)) rfl (.rd (.t (.t (.t .h))) rfl .nil))) (X_callS cf97.h (.cons (.tmp rfl rfl) (.cons (.tmp rfl rfl) (.cons (.tmp rfl rfl) .nil))) (i_removals_ok a_s v0_0 a_l v1_0 a_list v2_0 _ hx3)) (fun p4 => ?_)
 refine Cm (.tuple [p4.1.v, (.bool r2.2)].toArray) rfl rfl ?_
 refine C_val (V_extract (l := [p4.1.v, (.bool r2.2)]) (v := p4.1.v) (.tmp rfl rfl) rfl) ?_
 refine C_val (V_extract (l := [p4.1.v, (.bool r2.2)]) (v := (.bool r2.2)) (.tmp rfl rfl) rfl) ?_
 refine Ca p4.1.v rfl rfl ?_
 refine Ca (.bool r2.2) rfl rfl ?_
 refine C_nil (K_in (K_region (Cm (.bool r2.2) rfl rfl ?_)))
 refine C_val (V_not (b := r2.2) (.tmp rfl rfl)) ?_
 refine C_nil (CW_cond (b := (!r2.2)) (.tmp rfl rfl) (fun hb97 => ?_) (fun hb97 => ?_))
 · rw [if_pos hb97] at hF
   refine K_region ?_
   iterate 2 refine C_val (V_assign (v := (.slice none 0 0)) EV.nilSlice) ?_
   refine C_val (V_assign (v := (.bool false)) (.bool _)) ?_
   refine C_nil (CW_ret ?_)
   obtain rfl := Option.some.inj hF
   exact End_ret (⟨none, 0, 0⟩, [], ⟨none, 0, 0⟩, []) (.tmp rfl rfl (.tmp rfl rfl (.tmp rfl rfl .nil))) rfl (.conv .nil (own_nil (Ro := (roE rd129)) (E := 129)) (.cons .nil) (.conv .nil (own_nil (Ro := (roE rd129)) (E := 129)) (.cons .nil) (.sel (.cons (.t .h) (.cons .h .nil)))))
 rw [if_neg (by rw [hb97]; exact Bool.false_ne_true)] at hF
 refine CW_skip (K_region (C_new rfl (N_buildSliceT (g := true) sl52.h ty129.h .nil (vs := []) rfl rfl rfl (by simp)) (fun k5 => ?_)))
 refine C_conv (.cons .h .nil) (own_lit (Ro := (roE rd129)) (E := 129) (F := []) (xs := ([] : List Fact)) MkL_nil rfl rfl) apps ?_
 refine C_new rfl (N_buildSliceT (g := true) sl52.h ty129.h .nil (vs := []) rfl rfl rfl (by simp)) (fun k6 => ?_)
 refine C_conv (.cons .h .nil) (own_lit (Ro := (roE rd129)) (E := 129) (F := []) (xs := ([] : List Fact)) MkL_nil rfl rfl) apps ?_
 refine Ca (.slice (some ⟨k5, 0, none⟩) 0 1) rfl rfl ?_
 refine Ca (.slice (some ⟨k6, 0, none⟩) 0 1) rfl rfl ?_
 refine C_nil (K_in (K_region (C_at (.t (.t (.t .h))) (fun hp => V_load (v := v2_0.v) ag31.h (.tmp rfl rfl) hp.2 rfl rfl) ?_)))
 obtain ⟨r7, hx8, hF⟩ := bind_some hF
 refine C_x1 (.rd (.t (.t (.t (.t (.t (.t .h)))))) rfl .nil) (X_callS cf42.h (.cons (.tmp rfl rfl) .nil) (i_UnionOf_ok a_list v2_0 _ hx8)) (fun p9 => ?_)
 refine C_at .h (fun hp => V_lenR (l := r7.length) sl52.h (.tmp rfl rfl) (cown_len hp)) ?_
 refine C_val (V_move (v := (.int .i64 0)) (.int _ _)) ?_
 refine C_nil (CW_block (K_frz .h frz_own ?_))
 refine CW_loop (m := r7.length) (fun m60 f' cs' => ∃ (g : Fr) (k62 : Nat) (rest63 : List Fact) (c53 : List Fact) (c56 : List Fact) (v54 : Sv) (F55 : List Nat) (v57 : Sv) (F58 : List Nat), m60 = rest63.length ∧ f' = updL g [(5, (.pointer (some ⟨k1, 0, some 0⟩))), (9, p4.1.v), (11, v54.v), (12, v57.v), (27, p9.1.v), (28, (.int .i64 (r7.length : Int))), (29, (.int .i64 (k62 : Int)))] ∧ List.drop k62 r7 = rest63 ∧ Ent cs' [cboR k1 31 v2_0.v, crd (RdS 90 rd90) v2_0.v a_list, cown (OwnS 22 (OwnS 3 (roE rdInt))) p4.2 p4.1.v r2.1, cown (OwnS 129 (roE rd129)) F55 v54.v c53, cown (OwnS 129 (roE rd129)) F58 v57.v c56, crd (RdS 129 rd129) p9.1.v r7] ∧ i_parted_L1 a_list r2 rest63 k62 c53 c56 = some R) ⟨_, 0, _, _, _, ⟨(some ⟨k5, 0, none⟩), 0, 1⟩, (k5 :: []), ⟨(some ⟨k6, 0, none⟩), 0, 1⟩, (k6 :: []), rfl, (EqL.cons rfl (EqL.cons rfl (EqL.cons rfl (EqL.cons rfl (EqL.cons rfl (EqL.cons rfl (EqL.cons rfl (EqL.nil)))))))).eq, rfl, (.sel (.rd (.t (.t (.t (.t .h)))) rfl (.rd (.t (.t (.t (.t (.t (.t (.t .h))))))) rfl (.cons (.t (.t (.t .h))) (.cons (.t (.t .h)) (.cons (.t .h) (.rd .h rfl .nil))))))), hF⟩ ?_
 clear hF
 rintro m60 _ _ ⟨g61, k62, rest63, c53, c56, v54, F55, v57, F58, rfl, rfl, hd65, hE, hF⟩
 refine K_ent hE ?_
 clear hE
 refine K_pure (c := crd (RdS 129 rd129) p9.1.v r7) (.t (.t (.t (.t (.t .h))))) crd_bound (fun hbd70 => ?_)
 rcases rest63 with _ | ⟨x64, rest63⟩
 · have hk66 := List.drop_eq_nil_iff.1 hd65
   have hfe69 : (decide (((k62 : Int) : Int) < (r7.length : Int))) = false := decide_eq_false (by omega)
   rw [i_parted_L1] at hF
   refine K_region (C_val (V_lss (i := (k62 : Int)) (j := (r7.length : Int)) (.tmp rfl rfl) (.tmp rfl rfl)) ?_)
   refine C_nil (K_in (CW_cond (b := (decide (((k62 : Int) : Int) < (r7.length : Int)))) (.tmp rfl rfl) (fun hb => absurd (hfe69.symm.trans hb) (by decide)) (fun _ => ?_)))
   refine CW_exit ?_
   iterate 2 refine CThen_exit ?_
   refine CIn_self (K_region (Cm v54.v rfl rfl ?_))
   refine Cm v57.v rfl rfl ?_
   refine Ca v54.v rfl rfl ?_
   refine Ca v57.v rfl rfl ?_
   refine C_val (V_assign (v := (.bool true)) (.bool _)) ?_
   refine C_nil (CW_ret ?_)
   obtain rfl := Option.some.inj hF
   exact End_ret (v54, F55, v57, F58) (.tmp rfl rfl (.tmp rfl rfl (.tmp rfl rfl .nil))) rfl (.sel (.cons (.t (.t (.t .h))) (.cons (.t (.t (.t .h))) .nil)))
 obtain ⟨hk66, hx67, hd68⟩ := drop_cons hd65
 have hfe69 : (decide (((k62 : Int) : Int) < (r7.length : Int))) = true := decide_eq_true (by omega)
 rw [i_parted_L1] at hF
 refine K_region (C_val (V_lss (i := (k62 : Int)) (j := (r7.length : Int)) (.tmp rfl rfl) (.tmp rfl rfl)) ?_)
 refine C_nil (K_in (CW_cond (b := (decide (((k62 : Int) : Int) < (r7.length : Int)))) (.tmp rfl rfl) (fun _ => ?_) (fun hb => absurd (hfe69.symm.trans hb) (by decide))))
 refine CW_skip ?_
 obtain ⟨o71, hio71, hO72⟩ := bind_some hF
 refine K_cut (fun f' cs' => ∃ (c89 : List Fact) (c92 : List Fact) (v90 : Sv) (F91 : List Nat) (v93 : Sv) (F94 : List Nat) (g : Fr), o71 = (c89, c92) ∧ f' = updL g [(5, (.pointer (some ⟨k1, 0, some 0⟩))), (9, p4.1.v), (11, v90.v), (12, v93.v), (27, p9.1.v), (28, (.int .i64 (r7.length : Int))), (29, (.int .i64 (k62 : Int)))] ∧ Ent cs' [cboR k1 31 v2_0.v, crd (RdS 90 rd90) v2_0.v a_list, cown (OwnS 22 (OwnS 3 (roE rdInt))) p4.2 p4.1.v r2.1, cown (OwnS 129 (roE rd129)) F91 v90.v c89, cown (OwnS 129 (roE rd129)) F94 v93.v c92, crd (RdS 129 rd129) p9.1.v r7]) ?_ ?_
 · replace hF := hio71
   refine CW_block (K_region (C_idx (a := x64) sl52.h ty129.h.sz (.tmp rfl rfl) (.tmp rfl rfl) (.t (.t (.t (.t (.t .h))))) (Int.natCast_nonneg k62) hx67 (fun k73 j74 => ?_)))
   refine C_ldA1 (ul129_0_129 x64) ag129.h ty129.h.sz rfl (.tmp rfl rfl) .h la129_0_129 (fun p75 => ?_)
   refine C_new rfl (N_allocT (g := true) ty129.h rfl rfl) (fun k76 => ?_)
   refine C_x1 (.cons .h .nil) (X_storeB (e' := (.agg [(.int .i64 x64.Rel), p75.v].toArray)) (v := (.agg [(.int .i64 x64.Rel), p75.v].toArray)) ty129.h.sz (.tmp rfl rfl) (.tmp rfl rfl) rfl rfl rfl rfl rfl) (fun _ => ?_)
   refine C_nil (K_frz .h frz_blk ?_)
   refine K_region (Cm p4.1.v rfl rfl ?_)
   refine C_val (V_makeFunc (fn := .func 167) (vs := []) (us := [(.pointer (some ⟨k1, 0, some 0⟩)), (.pointer (some ⟨k76, 0, some 0⟩))]) .nil (.cons (.tmp rfl rfl) (.cons (.tmp rfl rfl) .nil))) ?_
   obtain ⟨r77, hx78, hF⟩ := bind_some hF
   refine C_x1 (.cons (.t (.t (.t (.t (.t .h))))) (.rd (.t (.t (.t .h))) rfl (.rd (.t (.t (.t (.t .h)))) rfl (.rd .h rfl (.rd (.t .h) rfl .nil))))) (XC_bor frz_own (fun _ => .nil) (X_callS cf166.h (.cons (.tmp rfl rfl) (.cons (.tmp rfl rfl) .nil)) (g_slices_ContainsFunc_int_int_iparted1_ok r2.1 p4.1 k1 a_list v2_0 k76 x64 p75 _ hx78))) (fun _ => ?_)
   refine C_nil (CW_cond (b := r77) (.tmp rfl rfl) (fun hb88 => ?_) (fun hb88 => ?_))
   · rw [if_pos hb88] at hF
     refine CW_region (Cm v57.v rfl rfl ?_)
     refine C_at (.t .h) (fun hp => V_loadBox ag129.h ty129.h.sz rfl (.tmp rfl rfl) hp.2 rfl) ?_
     refine C_new rfl (N_buildSliceT (g := true) sl52.h ty129.h (.cons (.tmp rfl rfl) .nil) (vs := [(.agg [(.int .i64 x64.Rel), p75.v].toArray)]) rfl rfl rfl (by intro v hv; simp at hv; rcases hv with rfl <;> rfl)) (fun k80 => ?_)
     refine C_conv (.cons .h (.rd (.t (.t .h)) rfl .nil)) (own_lit (Ro := (roE rd129)) (E := 129) (F := ([] ++ [])) (xs := ([x64] : List Fact)) (MkL_cons mr129 MkL_nil apps) rfl rfl) apps ?_
     obtain ⟨z81, hx82, hF⟩ := bind_some hF
     refine C_x1 (.cons (.t (.t (.t (.t (.t (.t (.t (.t .h)))))))) (.cons .h .nil)) (X_appendO (Ro := (roE rd129)) sl52.h ni52 ty129.h rfl rfl rfl (.tmp rfl rfl) (.tmp rfl rfl) hx82 src_own) (fun p83 => ?_)
     refine Ca p83.1.v rfl rfl ?_
     refine C_nil ?_
     obtain rfl := Option.some.inj hF
     exact ⟨_, _, v54, F55, p83.1, p83.2, _, rfl, (EqL.cons rfl (EqL.cons rfl (EqL.cons rfl (EqL.cons rfl (EqL.cons rfl (EqL.cons rfl (EqL.cons rfl (EqL.nil)))))))).eq, (.sel (.rd (.t (.t (.t (.t (.t .h))))) rfl (.rd (.t (.t (.t (.t (.t (.t .h)))))) rfl (.cons (.t .h) (.cons (.t (.t (.t (.t (.t (.t .h)))))) (.cons .h (.rd (.t (.t (.t (.t (.t .h))))) rfl .nil)))))))⟩
   rw [if_neg (by rw [hb88]; exact Bool.false_ne_true)] at hF
   refine CW_region (Cm v54.v rfl rfl ?_)
   refine C_at (.t .h) (fun hp => V_loadBox ag129.h ty129.h.sz rfl (.tmp rfl rfl) hp.2 rfl) ?_
   refine C_new rfl (N_buildSliceT (g := true) sl52.h ty129.h (.cons (.tmp rfl rfl) .nil) (vs := [(.agg [(.int .i64 x64.Rel), p75.v].toArray)]) rfl rfl rfl (by intro v hv; simp at hv; rcases hv with rfl <;> rfl)) (fun k84 => ?_)
   refine C_conv (.cons .h (.rd (.t (.t .h)) rfl .nil)) (own_lit (Ro := (roE rd129)) (E := 129) (F := ([] ++ [])) (xs := ([x64] : List Fact)) (MkL_cons mr129 MkL_nil apps) rfl rfl) apps ?_
   obtain ⟨z85, hx86, hF⟩ := bind_some hF
   refine C_x1 (.cons (.t (.t (.t (.t (.t (.t (.t .h))))))) (.cons .h .nil)) (X_appendO (Ro := (roE rd129)) sl52.h ni52 ty129.h rfl rfl rfl (.tmp rfl rfl) (.tmp rfl rfl) hx86 src_own) (fun p87 => ?_)
   refine Ca p87.1.v rfl rfl ?_
   refine C_nil ?_
   obtain rfl := Option.some.inj hF
   exact ⟨_, _, p87.1, p87.2, v57, F58, _, rfl, (EqL.cons rfl (EqL.cons rfl (EqL.cons rfl (EqL.cons rfl (EqL.cons rfl (EqL.cons rfl (EqL.cons rfl (EqL.nil)))))))).eq, (.sel (.rd (.t (.t (.t (.t (.t .h))))) rfl (.rd (.t (.t (.t (.t (.t (.t .h)))))) rfl (.cons (.t .h) (.cons .h (.cons (.t (.t (.t (.t (.t .h))))) (.rd (.t (.t (.t (.t (.t .h))))) rfl .nil)))))))⟩
 rintro _ _ ⟨c89, c92, v90, F91, v93, F94, g96, rfl, rfl, hE⟩
 replace hF := hO72
 clear hO72
 try dsimp only at hF
 refine K_ent hE ?_
 refine CW_region (C_val (V_add (i := (k62 : Int)) (j := 1) (.tmp rfl rfl) (.int _ _)) ?_)
 refine Cm (.int .i64 (IntKind.i64.wrap ((k62 : Int) + 1))) rfl rfl ?_
 refine C_nil ?_
 have hw95 : IntKind.i64.wrap ((k62 : Int) + 1) = ((k62 + 1 : Nat) : Int) := by rw [wrap_in (by omega) (by omega)]; rfl
 rw [hw95]
 exact ⟨_, Nat.lt_succ_self _, _, k62 + 1, rest63, _, _, v90, F91, v93, F94, rfl, (EqL.cons rfl (EqL.cons rfl (EqL.cons rfl (EqL.cons rfl (EqL.cons rfl (EqL.cons rfl (EqL.cons rfl (EqL.nil)))))))).eq, hd68, (.sel (.rd .h rfl (.rd (.t .h) rfl (.cons (.t (.t .h)) (.cons (.t (.t .h)) (.cons (.t (.t .h)) (.rd (.t (.t .h)) rfl .nil))))))), hF⟩
def i_TrustedFacts (a_s : List Int) (a_l : List Method) (a_list : List Told) : Option ((List Fact)) :=
 (i_parted a_s a_l a_list).bind fun r1 =>
 some r1.1
theorem i_TrustedFacts_ok (a_s : List Int) (v0_0 : Sv) (a_l : List Method) (v1_0 : Sv) (a_list : List Told) (v2_0 : Sv) (R : (List Fact)) (hF : i_TrustedFacts a_s a_l a_list = some R) :
   Fw.Spec Tryz.prog 44 [v0_0.v, v1_0.v, v2_0.v] [crd (RdS 3 rdInt) v0_0.v a_s, crd (RdS 86 rd86) v1_0.v a_l, crd (RdS 90 rd90) v2_0.v a_list] (fun p : Sv × List Nat => p.1.v) (fun p => [cown (OwnS 129 (roE rd129)) p.2 p.1.v R]) := by
 refine Se 19 Tryz.func44 [.tmp 6] ?_
 intro H0 F0
 unfold i_TrustedFacts at hF
 iterate 7 refine au ?_
 refine bnd hF fun r1 hx2 hF => Cx2 (i_parted_ok _ _ _ _ _ _ _ hx2) (fun p3 => ?_)
 refine au ?_
 refine C_val (V_extract (l := [p3.1.v, p3.2.2.1.v, (.bool r1.2.2)]) (v := p3.1.v) (.tmp rfl rfl) rfl) ?_
 refine C_val (V_extract (l := [p3.1.v, p3.2.2.1.v, (.bool r1.2.2)]) (v := p3.2.2.1.v) (.tmp rfl rfl) rfl) ?_
 refine C_val (V_extract (l := [p3.1.v, p3.2.2.1.v, (.bool r1.2.2)]) (v := (.bool r1.2.2)) (.tmp rfl rfl) rfl) ?_
 iterate 9 refine au ?_
 cases hF
 exact Er (p3.1, p3.2.1)
def i_DoubtedFacts (a_s : List Int) (a_l : List Method) (a_list : List Told) : Option ((List Fact)) :=
 (i_parted a_s a_l a_list).bind fun r1 =>
 some r1.2.1
theorem i_DoubtedFacts_ok (a_s : List Int) (v0_0 : Sv) (a_l : List Method) (v1_0 : Sv) (a_list : List Told) (v2_0 : Sv) (R : (List Fact)) (hF : i_DoubtedFacts a_s a_l a_list = some R) :
   Fw.Spec Tryz.prog 45 [v0_0.v, v1_0.v, v2_0.v] [crd (RdS 3 rdInt) v0_0.v a_s, crd (RdS 86 rd86) v1_0.v a_l, crd (RdS 90 rd90) v2_0.v a_list] (fun p : Sv × List Nat => p.1.v) (fun p => [cown (OwnS 129 (roE rd129)) p.2 p.1.v R]) := by
 refine Se 19 Tryz.func45 [.tmp 6] ?_
 intro H0 F0
 unfold i_DoubtedFacts at hF
 iterate 7 refine au ?_
 refine bnd hF fun r1 hx2 hF => Cx2 (i_parted_ok _ _ _ _ _ _ _ hx2) (fun p3 => ?_)
 refine au ?_
 refine C_val (V_extract (l := [p3.1.v, p3.2.2.1.v, (.bool r1.2.2)]) (v := p3.1.v) (.tmp rfl rfl) rfl) ?_
 refine C_val (V_extract (l := [p3.1.v, p3.2.2.1.v, (.bool r1.2.2)]) (v := p3.2.2.1.v) (.tmp rfl rfl) rfl) ?_
 refine C_val (V_extract (l := [p3.1.v, p3.2.2.1.v, (.bool r1.2.2)]) (v := (.bool r1.2.2)) (.tmp rfl rfl) rfl) ?_
 iterate 9 refine au ?_
 cases hF
 exact Er (p3.2.2.1, p3.2.2.2)
def i_TrustLine (a_s : List Int) (a_l : List Method) (a_list : List Told) : Option ((List UInt8)) :=
 (i_SmallestRemoval a_s a_l a_list).bind fun r1 =>
 if (!r1.2) then (
   some [])
 else (
   if (((r1.1.length : Int) : Int) == 0) then (
     (i_UnionOf a_list).bind fun r4 =>
     (i_factsText r4).bind fun r7 =>
     (cat [99, 111, 110, 115, 105, 115, 116, 101, 110, 116, 32] r7).bind fun x10 =>
     some x10)
   else (
     (i_joined r1.1 [44]).bind fun r14 =>
     (cat [100, 114, 111, 112, 32] r14).bind fun x17 =>
     (cat x17 [32, 116, 114, 117, 115, 116, 101, 100, 32]).bind fun x21 =>
     (i_TrustedFacts a_s a_l a_list).bind fun r25 =>
     (i_factsText r25).bind fun r28 =>
     (cat x21 r28).bind fun x31 =>
     (cat x31 [32, 100, 111, 117, 98, 116, 101, 100, 32]).bind fun x35 =>
     (i_DoubtedFacts a_s a_l a_list).bind fun r39 =>
     (i_factsText r39).bind fun r42 =>
     (cat x35 r42).bind fun x45 =>
     some x45))
theorem i_TrustLine_ok (a_s : List Int) (v0_0 : Sv) (a_l : List Method) (v1_0 : Sv) (a_list : List Told) (v2_0 : Sv) (R : (List UInt8)) (hF : i_TrustLine a_s a_l a_list = some R) :
   Fw.Spec Tryz.prog 12 [v0_0.v, v1_0.v, v2_0.v] [crd (RdS 3 rdInt) v0_0.v a_s, crd (RdS 86 rd86) v1_0.v a_l, crd (RdS 90 rd90) v2_0.v a_list] (fun _ : Unit => (sv R)) (fun _ => []) := by
 refine Se 44 Tryz.func12 [.tmp 6] ?_
 intro H0 F0
 unfold i_TrustLine at hF
 iterate 7 refine au ?_
 refine bnd hF fun r1 hx2 hF => Cx1 (i_SmallestRemoval_ok _ _ _ _ _ _ _ hx2) (fun p3 => ?_)
 refine au ?_
 refine C_val (V_extract (l := [p3.v, (.bool r1.2)]) (v := p3.v) (.tmp rfl rfl) rfl) ?_
 refine C_val (V_extract (l := [p3.v, (.bool r1.2)]) (v := (.bool r1.2)) (.tmp rfl rfl) rfl) ?_
 iterate 9 refine au ?_
 refine Ci hF (fun hb50 hF => ?_) (fun hb50 hF => ?_)
 · iterate 4 refine au ?_
   cases hF
   exact Er ()
 iterate 6 refine au ?_
 refine Ci hF (fun hb49 hF => ?_) (fun hb49 hF => ?_)
 · iterate 2 refine au ?_
   refine bnd hF fun r4 hx5 hF => Cx1 (i_UnionOf_ok _ _ _ hx5) (fun p6 => ?_)
   refine bnd hF fun r7 hx8 hF => C_x1 (.cons .h .nil) (XC_bor frz_own (fun _ => .nil) (X_callS cf41.h (.cons (.tmp rfl rfl) .nil) (i_factsText_ok r4 p6.1 _ hx8))) (fun _ => ?_)
   refine bnd hF fun x10 hx11 hF => ?_
   obtain ⟨hq13, hz12⟩ := cat_some hx11
   refine C_val (V_concatN (s := [99, 111, 110, 115, 105, 115, 116, 101, 110, 116, 32]) (t := r7) (u := x10) (.sv _) (.tmp rfl rfl) hx11) ?_
   iterate 3 refine au ?_
   cases hF
   exact Er ()
 iterate 3 refine au ?_
 refine bnd hF fun r14 hx15 hF => Cx0 (i_joined_ok _ _ _ _ hx15) (fun _ => ?_)
 refine bnd hF fun x17 hx18 hF => ?_
 obtain ⟨hq20, hz19⟩ := cat_some hx18
 refine C_val (V_concatN (s := [100, 114, 111, 112, 32]) (t := r14) (u := x17) (.sv _) (.tmp rfl rfl) hx18) ?_
 refine bnd hF fun x21 hx22 hF => ?_
 obtain ⟨hq24, hz23⟩ := cat_some hx22
 refine C_val (V_concatN (s := x17) (t := [32, 116, 114, 117, 115, 116, 101, 100, 32]) (u := x21) (.tmp rfl rfl) (.sv _) hx22) ?_
 iterate 3 refine au ?_
 refine bnd hF fun r25 hx26 hF => Cx1 (i_TrustedFacts_ok _ _ _ _ _ _ _ hx26) (fun p27 => ?_)
 refine bnd hF fun r28 hx29 hF => C_x1 (.cons .h .nil) (XC_bor frz_own (fun _ => .nil) (X_callS cf41.h (.cons (.tmp rfl rfl) .nil) (i_factsText_ok r25 p27.1 _ hx29))) (fun _ => ?_)
 refine bnd hF fun x31 hx32 hF => ?_
 obtain ⟨hq34, hz33⟩ := cat_some hx32
 refine C_val (V_concatN (s := x21) (t := r28) (u := x31) (.tmp rfl rfl) (.tmp rfl rfl) hx32) ?_
 refine bnd hF fun x35 hx36 hF => ?_
 obtain ⟨hq38, hz37⟩ := cat_some hx36
 refine C_val (V_concatN (s := x31) (t := [32, 100, 111, 117, 98, 116, 101, 100, 32]) (u := x35) (.tmp rfl rfl) (.sv _) hx36) ?_
 iterate 3 refine au ?_
 refine bnd hF fun r39 hx40 hF => Cx1 (i_DoubtedFacts_ok _ _ _ _ _ _ _ hx40) (fun p41 => ?_)
 refine bnd hF fun r42 hx43 hF => C_x1 (.cons .h .nil) (XC_bor frz_own (fun _ => .nil) (X_callS cf41.h (.cons (.tmp rfl rfl) .nil) (i_factsText_ok r39 p41.1 _ hx43))) (fun _ => ?_)
 refine bnd hF fun x45 hx46 hF => ?_
 obtain ⟨hq48, hz47⟩ := cat_some hx46
 refine C_val (V_concatN (s := x35) (t := r42) (u := x45) (.tmp rfl rfl) (.tmp rfl rfl) hx46) ?_
 iterate 3 refine au ?_
 cases hF
 exact Er ()
def l_eqIntS_L1 (a_b : List Int) : List Int → Nat → Option (Bool)
 | [], k4 => some true
 | x6 :: rest5, k4 => (ix a_b (k4 : Int)).bind fun x15 =>
   if ((x6 : Int) != x15) then (
     some false)
   else (
     l_eqIntS_L1 a_b rest5 (k4 + 1))
def l_eqIntS (a_a : List Int) (a_b : List Int) : Option (Bool) :=
 if (((a_a.length : Int) : Int) != (a_b.length : Int)) then (
   some false)
 else (
   l_eqIntS_L1 a_b a_a 0)
theorem l_eqIntS_ok (a_a : List Int) (v0_0 : Sv) (a_b : List Int) (v1_0 : Sv) (R : Bool) (hF : l_eqIntS a_a a_b = some R) :
   Fw.Spec Tryz.prog 13 [v0_0.v, v1_0.v] [crd (RdS 3 rdInt) v0_0.v a_a, crd (RdS 3 rdInt) v1_0.v a_b] (fun _ : Unit => (.bool R)) (fun _ => []) := by
 refine Se 26 Tryz.func13 [.tmp 4] ?_
 intro H0 F0
 unfold l_eqIntS at hF
 iterate 11 refine au ?_
 refine Ci hF (fun hb23 hF => ?_) (fun hb23 hF => ?_)
 · iterate 4 refine au ?_
   cases hF
   exact Er ()
 iterate 5 refine au ?_
 refine CW_block (CW_loop (m := a_a.length) (fun m2 f' cs' => ∃ (g : Fr) (k4 : Nat) (rest5 : List Int), m2 = rest5.length ∧ f' = updL g [(0, v0_0.v), (1, v1_0.v), (5, (.int .i64 (k4 : Int)))] ∧ List.drop k4 a_a = rest5 ∧ Ent cs' [crd (RdS 3 rdInt) v0_0.v a_a, crd (RdS 3 rdInt) v1_0.v a_b] ∧ l_eqIntS_L1 a_b rest5 k4 = some R) ⟨_, 0, _, rfl, eqA, rfl, entA, hF⟩ ?_)
 rintro m2 _ _ ⟨g3, k4, rest5, rfl, rfl, hd7, hE, hF⟩
 refine Kb hE a_a (fun hbd12 => ?_)
 rcases rest5 with _ | ⟨x6, rest5⟩
 · have hk8 := dn hd7
   rw [l_eqIntS_L1] at hF
   iterate 7 refine au ?_
   refine CdF ?_
   iterate 8 refine au ?_
   cases hF
   exact Er ()
 obtain ⟨hk8, hx9, hd10⟩ := drop_cons hd7
 rw [l_eqIntS_L1] at hF
 iterate 7 refine au ?_
 refine CdT ?_
 iterate 2 refine au ?_
 refine K_draw [0, 1, 2, 3, 4, 5, 6, 7, 8] [0, 0, 3, 7, 0, 0, 48, 112, 255] [] mixed (by decide +kernel) ?_
 iterate 2 refine du ?_
 refine Di hx9 (fun k13 j14 => ?_)
 refine Dl ls3_0 ?_
 iterate 2 refine du ?_
 refine bnd hF fun x15 hx16 hF => ?_
 obtain ⟨hp17, hx18⟩ := ix_some hx16
 refine Di hx18 (fun k19 j20 => ?_)
 refine Dl ls3_0 ?_
 iterate 2 refine du ?_
 refine Ci hF (fun hb22 hF => ?_) (fun hb22 hF => ?_)
 · iterate 4 refine au ?_
   cases hF
   exact Er ()
 iterate 6 refine au ?_
 rw [wk k4]
 exact ⟨_, Nat.lt_succ_self _, _, k4 + 1, rest5, rfl, eqA, hd10, entA, hF⟩
def l_eqMethod (a_a : Method) (a_b : Method) : Option (Bool) :=
 if ((a_a.Rel : Int) != a_b.Rel) then (
   some false)
 else (
   (l_eqIntS a_a.Inputs a_b.Inputs).bind fun r3 =>
   if (!r3) then (
     some false)
   else (
     if ((a_a.Limit : Int) != a_b.Limit) then (
       some false)
     else (
       if ((a_a.Cost : Int) != a_b.Cost) then (
         some false)
       else (
         if ((a_a.Quota : Int) != a_b.Quota) then (
           some false)
         else (
           some true)))))
theorem l_eqMethod_ok (a_a : Method) (v0_1 : Sv) (a_b : Method) (v1_1 : Sv) (R : Bool) (hF : l_eqMethod a_a a_b = some R) :
   Fw.Spec Tryz.prog 46 [(.agg [(.int .i64 a_a.Rel), v0_1.v, (.int .i64 a_a.Limit), (.int .i64 a_a.Cost), (.int .i64 a_a.Quota)].toArray), (.agg [(.int .i64 a_b.Rel), v1_1.v, (.int .i64 a_b.Limit), (.int .i64 a_b.Cost), (.int .i64 a_b.Quota)].toArray)] [crd (RdS 3 rdInt) v0_1.v a_a.Inputs, crd (RdS 3 rdInt) v1_1.v a_b.Inputs] (fun _ : Unit => (.bool R)) (fun _ => []) := by
 refine Se 31 Tryz.func46 [.tmp 4] ?_
 intro H0 F0
 unfold l_eqMethod at hF
 refine au ?_
 refine AbR (fun k1 => ?_)
 refine AbR (fun k2 => ?_)
 iterate 10 refine au ?_
 refine Ci hF (fun hb10 hF => ?_) (fun hb10 hF => ?_)
 · iterate 4 refine au ?_
   cases hF
   exact Er ()
 iterate 7 refine au ?_
 refine bnd hF fun r3 hx4 hF => Cx0 (l_eqIntS_ok _ _ _ _ _ hx4) (fun _ => ?_)
 iterate 2 refine au ?_
 refine Ci hF (fun hb9 hF => ?_) (fun hb9 hF => ?_)
 · iterate 4 refine au ?_
   cases hF
   exact Er ()
 iterate 9 refine au ?_
 refine Ci hF (fun hb8 hF => ?_) (fun hb8 hF => ?_)
 · iterate 4 refine au ?_
   cases hF
   exact Er ()
 iterate 9 refine au ?_
 refine Ci hF (fun hb7 hF => ?_) (fun hb7 hF => ?_)
 · iterate 4 refine au ?_
   cases hF
   exact Er ()
 iterate 9 refine au ?_
 refine Ci hF (fun hb6 hF => ?_) (fun hb6 hF => ?_)
 · iterate 4 refine au ?_
   cases hF
   exact Er ()
 iterate 5 refine au ?_
 cases hF
 exact Er ()
def l_eqMethodS_L1 (a_b : List Method) : List Method → Nat → Option (Bool)
 | [], k4 => some true
 | x6 :: rest5, k4 => (ix a_b (k4 : Int)).bind fun x16 =>
   (l_eqMethod x6 x16).bind fun r23 =>
   if (!r23) then (
     some false)
   else (
     l_eqMethodS_L1 a_b rest5 (k4 + 1))
def l_eqMethodS (a_a : List Method) (a_b : List Method) : Option (Bool) :=
 if (((a_a.length : Int) : Int) != (a_b.length : Int)) then (
   some false)
 else (
   l_eqMethodS_L1 a_b a_a 0)
theorem l_eqMethodS_ok (a_a : List Method) (v0_0 : Sv) (a_b : List Method) (v1_0 : Sv) (R : Bool) (hF : l_eqMethodS a_a a_b = some R) :
   Fw.Spec Tryz.prog 14 [v0_0.v, v1_0.v] [crd (RdS 86 rd86) v0_0.v a_a, crd (RdS 86 rd86) v1_0.v a_b] (fun _ : Unit => (.bool R)) (fun _ => []) := by
 refine Se 27 Tryz.func14 [.tmp 4] ?_
 intro H0 F0
 unfold l_eqMethodS at hF
 iterate 11 refine au ?_
 refine Ci hF (fun hb28 hF => ?_) (fun hb28 hF => ?_)
 · iterate 4 refine au ?_
   cases hF
   exact Er ()
 iterate 5 refine au ?_
 refine CW_block (CW_loop (m := a_a.length) (fun m2 f' cs' => ∃ (g : Fr) (k4 : Nat) (rest5 : List Method), m2 = rest5.length ∧ f' = updL g [(0, v0_0.v), (1, v1_0.v), (5, (.int .i64 (k4 : Int)))] ∧ List.drop k4 a_a = rest5 ∧ Ent cs' [crd (RdS 86 rd86) v0_0.v a_a, crd (RdS 86 rd86) v1_0.v a_b] ∧ l_eqMethodS_L1 a_b rest5 k4 = some R) ⟨_, 0, _, rfl, eqA, rfl, entA, hF⟩ ?_)
 rintro m2 _ _ ⟨g3, k4, rest5, rfl, rfl, hd7, hE, hF⟩
 refine Kb hE a_a (fun hbd12 => ?_)
 rcases rest5 with _ | ⟨x6, rest5⟩
 · have hk8 := dn hd7
   rw [l_eqMethodS_L1] at hF
   iterate 7 refine au ?_
   refine CdF ?_
   iterate 8 refine au ?_
   cases hF
   exact Er ()
 obtain ⟨hk8, hx9, hd10⟩ := drop_cons hd7
 rw [l_eqMethodS_L1] at hF
 iterate 7 refine au ?_
 refine CdT ?_
 iterate 2 refine au ?_
 refine K_draw [0, 1, 2, 3, 4, 5, 6, 7, 8, 9] [0, 0, 3, 7, 0, 0, 48, 112, 255, 511] [8] mixed (by decide +kernel) ?_
 iterate 2 refine du ?_
 refine Di hx9 (fun k13 j14 => ?_)
 refine DlA1 (ul86_0_86 x6) la86_0_86 (fun p15 => ?_)
 iterate 2 refine du ?_
 refine bnd hF fun x16 hx17 hF => ?_
 obtain ⟨hp18, hx19⟩ := ix_some hx17
 refine Di hx19 (fun k20 j21 => ?_)
 refine DlA1 (ul86_0_86 x16) la86_0_86 (fun p22 => ?_)
 refine bnd hF fun r23 hx24 hF => Dx0 (l_eqMethod_ok _ _ _ _ _ hx24) (fun _ => ?_)
 iterate 2 refine du ?_
 refine Ci hF (fun hb27 hF => ?_) (fun hb27 hF => ?_)
 · iterate 4 refine au ?_
   cases hF
   exact Er ()
 iterate 6 refine au ?_
 rw [wk k4]
 exact ⟨_, Nat.lt_succ_self _, _, k4 + 1, rest5, rfl, eqA, hd10, entA, hF⟩
def l_eqAccess (a_a : Access) (a_b : Access) : Option (Bool) :=
 if ((a_a.Method : Int) != a_b.Method) then (
   some false)
 else (
   (l_eqIntS a_a.Values a_b.Values).bind fun r3 =>
   if (!r3) then (
     some false)
   else (
     some true))
theorem l_eqAccess_ok (a_a : Access) (v0_1 : Sv) (a_b : Access) (v1_1 : Sv) (R : Bool) (hF : l_eqAccess a_a a_b = some R) :
   Fw.Spec Tryz.prog 102 [(.agg [(.int .i64 a_a.Method), v0_1.v].toArray), (.agg [(.int .i64 a_b.Method), v1_1.v].toArray)] [crd (RdS 3 rdInt) v0_1.v a_a.Values, crd (RdS 3 rdInt) v1_1.v a_b.Values] (fun _ : Unit => (.bool R)) (fun _ => []) := by
 refine Se 16 Tryz.func102 [.tmp 4] ?_
 intro H0 F0
 unfold l_eqAccess at hF
 refine au ?_
 refine AbR (fun k1 => ?_)
 refine AbR (fun k2 => ?_)
 iterate 10 refine au ?_
 refine Ci hF (fun hb7 hF => ?_) (fun hb7 hF => ?_)
 · iterate 4 refine au ?_
   cases hF
   exact Er ()
 iterate 7 refine au ?_
 refine bnd hF fun r3 hx4 hF => Cx0 (l_eqIntS_ok _ _ _ _ _ hx4) (fun _ => ?_)
 iterate 2 refine au ?_
 refine Ci hF (fun hb6 hF => ?_) (fun hb6 hF => ?_)
 · iterate 4 refine au ?_
   cases hF
   exact Er ()
 iterate 5 refine au ?_
 cases hF
 exact Er ()
def l_eqFact (a_a : Fact) (a_b : Fact) : Option (Bool) :=
 if ((a_a.Rel : Int) != a_b.Rel) then (
   some false)
 else (
   (l_eqIntS a_a.Values a_b.Values).bind fun r3 =>
   if (!r3) then (
     some false)
   else (
     some true))
theorem l_eqFact_ok (a_a : Fact) (v0_1 : Sv) (a_b : Fact) (v1_1 : Sv) (R : Bool) (hF : l_eqFact a_a a_b = some R) :
   Fw.Spec Tryz.prog 86 [(.agg [(.int .i64 a_a.Rel), v0_1.v].toArray), (.agg [(.int .i64 a_b.Rel), v1_1.v].toArray)] [crd (RdS 3 rdInt) v0_1.v a_a.Values, crd (RdS 3 rdInt) v1_1.v a_b.Values] (fun _ : Unit => (.bool R)) (fun _ => []) := by
 refine Se 16 Tryz.func86 [.tmp 4] ?_
 intro H0 F0
 unfold l_eqFact at hF
 refine au ?_
 refine AbR (fun k1 => ?_)
 refine AbR (fun k2 => ?_)
 iterate 10 refine au ?_
 refine Ci hF (fun hb7 hF => ?_) (fun hb7 hF => ?_)
 · iterate 4 refine au ?_
   cases hF
   exact Er ()
 iterate 7 refine au ?_
 refine bnd hF fun r3 hx4 hF => Cx0 (l_eqIntS_ok _ _ _ _ _ hx4) (fun _ => ?_)
 iterate 2 refine au ?_
 refine Ci hF (fun hb6 hF => ?_) (fun hb6 hF => ?_)
 · iterate 4 refine au ?_
   cases hF
   exact Er ()
 iterate 5 refine au ?_
 cases hF
 exact Er ()
def l_eqFactS_L1 (a_b : List Fact) : List Fact → Nat → Option (Bool)
 | [], k4 => some true
 | x6 :: rest5, k4 => (ix a_b (k4 : Int)).bind fun x16 =>
   (l_eqFact x6 x16).bind fun r23 =>
   if (!r23) then (
     some false)
   else (
     l_eqFactS_L1 a_b rest5 (k4 + 1))
def l_eqFactS (a_a : List Fact) (a_b : List Fact) : Option (Bool) :=
 if (((a_a.length : Int) : Int) != (a_b.length : Int)) then (
   some false)
 else (
   l_eqFactS_L1 a_b a_a 0)
theorem l_eqFactS_ok (a_a : List Fact) (v0_0 : Sv) (a_b : List Fact) (v1_0 : Sv) (R : Bool) (hF : l_eqFactS a_a a_b = some R) :
   Fw.Spec Tryz.prog 29 [v0_0.v, v1_0.v] [crd (RdS 129 rd129) v0_0.v a_a, crd (RdS 129 rd129) v1_0.v a_b] (fun _ : Unit => (.bool R)) (fun _ => []) := by
 refine Se 27 Tryz.func29 [.tmp 4] ?_
 intro H0 F0
 unfold l_eqFactS at hF
 iterate 11 refine au ?_
 refine Ci hF (fun hb28 hF => ?_) (fun hb28 hF => ?_)
 · iterate 4 refine au ?_
   cases hF
   exact Er ()
 iterate 5 refine au ?_
 refine CW_block (CW_loop (m := a_a.length) (fun m2 f' cs' => ∃ (g : Fr) (k4 : Nat) (rest5 : List Fact), m2 = rest5.length ∧ f' = updL g [(0, v0_0.v), (1, v1_0.v), (5, (.int .i64 (k4 : Int)))] ∧ List.drop k4 a_a = rest5 ∧ Ent cs' [crd (RdS 129 rd129) v0_0.v a_a, crd (RdS 129 rd129) v1_0.v a_b] ∧ l_eqFactS_L1 a_b rest5 k4 = some R) ⟨_, 0, _, rfl, eqA, rfl, entA, hF⟩ ?_)
 rintro m2 _ _ ⟨g3, k4, rest5, rfl, rfl, hd7, hE, hF⟩
 refine Kb hE a_a (fun hbd12 => ?_)
 rcases rest5 with _ | ⟨x6, rest5⟩
 · have hk8 := dn hd7
   rw [l_eqFactS_L1] at hF
   iterate 7 refine au ?_
   refine CdF ?_
   iterate 8 refine au ?_
   cases hF
   exact Er ()
 obtain ⟨hk8, hx9, hd10⟩ := drop_cons hd7
 rw [l_eqFactS_L1] at hF
 iterate 7 refine au ?_
 refine CdT ?_
 iterate 2 refine au ?_
 refine K_draw [0, 1, 2, 3, 4, 5, 6, 7, 8, 9] [0, 0, 3, 7, 0, 0, 48, 112, 255, 511] [8] mixed (by decide +kernel) ?_
 iterate 2 refine du ?_
 refine Di hx9 (fun k13 j14 => ?_)
 refine DlA1 (ul129_0_129 x6) la129_0_129 (fun p15 => ?_)
 iterate 2 refine du ?_
 refine bnd hF fun x16 hx17 hF => ?_
 obtain ⟨hp18, hx19⟩ := ix_some hx17
 refine Di hx19 (fun k20 j21 => ?_)
 refine DlA1 (ul129_0_129 x16) la129_0_129 (fun p22 => ?_)
 refine bnd hF fun r23 hx24 hF => Dx0 (l_eqFact_ok _ _ _ _ _ hx24) (fun _ => ?_)
 iterate 2 refine du ?_
 refine Ci hF (fun hb27 hF => ?_) (fun hb27 hF => ?_)
 · iterate 4 refine au ?_
   cases hF
   exact Er ()
 iterate 6 refine au ?_
 rw [wk k4]
 exact ⟨_, Nat.lt_succ_self _, _, k4 + 1, rest5, rfl, eqA, hd10, entA, hF⟩
def l_eqTold (a_a : Told) (a_b : Told) : Option (Bool) :=
 (l_eqAccess a_a.Access a_b.Access).bind fun r3 =>
 if (!r3) then (
   some false)
 else (
   (l_eqFactS a_a.Facts a_b.Facts).bind fun r6 =>
   if (!r6) then (
     some false)
   else (
     some true))
theorem l_eqTold_ok (a_a : Told) (v0_1 : Sv) (v0_2 : Sv) (a_b : Told) (v1_1 : Sv) (v1_2 : Sv) (R : Bool) (hF : l_eqTold a_a a_b = some R) :
   Fw.Spec Tryz.prog 47 [(.agg [(.int .i64 a_a.Access.Method), v0_1.v, v0_2.v].toArray), (.agg [(.int .i64 a_b.Access.Method), v1_1.v, v1_2.v].toArray)] [crd (RdS 3 rdInt) v0_1.v a_a.Access.Values, crd (RdS 129 rd129) v0_2.v a_a.Facts, crd (RdS 3 rdInt) v1_1.v a_b.Access.Values, crd (RdS 129 rd129) v1_2.v a_b.Facts] (fun _ : Unit => (.bool R)) (fun _ => []) := by
 refine Se 17 Tryz.func47 [.tmp 4] ?_
 intro H0 F0
 unfold l_eqTold at hF
 refine au ?_
 refine AbR (fun k1 => ?_)
 refine AbR (fun k2 => ?_)
 iterate 5 refine au ?_
 refine C_at (.t .h) (fun hp => V_loadA (s := 2) (l := [(.int .i64 a_a.Access.Method), v0_1.v]) ag88.h ty88.h.sz (.tmp rfl rfl) hp.2 rfl (by decide) (Nat.le_of_ble_eq_true rfl) rfl) ?_
 refine au ?_
 refine C_at .h (fun hp => V_loadA (s := 2) (l := [(.int .i64 a_b.Access.Method), v1_1.v]) ag88.h ty88.h.sz (.tmp rfl rfl) hp.2 rfl (by decide) (Nat.le_of_ble_eq_true rfl) rfl) ?_
 refine bnd hF fun r3 hx4 hF => Cx0 (l_eqAccess_ok _ _ _ _ _ hx4) (fun _ => ?_)
 iterate 2 refine au ?_
 refine Ci hF (fun hb10 hF => ?_) (fun hb10 hF => ?_)
 · iterate 4 refine au ?_
   cases hF
   exact Er ()
 iterate 7 refine au ?_
 refine bnd hF fun r6 hx7 hF => Cx0 (l_eqFactS_ok _ _ _ _ _ hx7) (fun _ => ?_)
 iterate 2 refine au ?_
 refine Ci hF (fun hb9 hF => ?_) (fun hb9 hF => ?_)
 · iterate 4 refine au ?_
   cases hF
   exact Er ()
 iterate 5 refine au ?_
 cases hF
 exact Er ()
def l_eqToldS_L1 (a_b : List Told) : List Told → Nat → Option (Bool)
 | [], k4 => some true
 | x6 :: rest5, k4 => (ix a_b (k4 : Int)).bind fun x16 =>
   (l_eqTold x6 x16).bind fun r23 =>
   if (!r23) then (
     some false)
   else (
     l_eqToldS_L1 a_b rest5 (k4 + 1))
def l_eqToldS (a_a : List Told) (a_b : List Told) : Option (Bool) :=
 if (((a_a.length : Int) : Int) != (a_b.length : Int)) then (
   some false)
 else (
   l_eqToldS_L1 a_b a_a 0)
theorem l_eqToldS_ok (a_a : List Told) (v0_0 : Sv) (a_b : List Told) (v1_0 : Sv) (R : Bool) (hF : l_eqToldS a_a a_b = some R) :
   Fw.Spec Tryz.prog 15 [v0_0.v, v1_0.v] [crd (RdS 90 rd90) v0_0.v a_a, crd (RdS 90 rd90) v1_0.v a_b] (fun _ : Unit => (.bool R)) (fun _ => []) := by
 refine Se 27 Tryz.func15 [.tmp 4] ?_
 intro H0 F0
 unfold l_eqToldS at hF
 iterate 11 refine au ?_
 refine Ci hF (fun hb28 hF => ?_) (fun hb28 hF => ?_)
 · iterate 4 refine au ?_
   cases hF
   exact Er ()
 iterate 5 refine au ?_
 refine CW_block (CW_loop (m := a_a.length) (fun m2 f' cs' => ∃ (g : Fr) (k4 : Nat) (rest5 : List Told), m2 = rest5.length ∧ f' = updL g [(0, v0_0.v), (1, v1_0.v), (5, (.int .i64 (k4 : Int)))] ∧ List.drop k4 a_a = rest5 ∧ Ent cs' [crd (RdS 90 rd90) v0_0.v a_a, crd (RdS 90 rd90) v1_0.v a_b] ∧ l_eqToldS_L1 a_b rest5 k4 = some R) ⟨_, 0, _, rfl, eqA, rfl, entA, hF⟩ ?_)
 rintro m2 _ _ ⟨g3, k4, rest5, rfl, rfl, hd7, hE, hF⟩
 refine Kb hE a_a (fun hbd12 => ?_)
 rcases rest5 with _ | ⟨x6, rest5⟩
 · have hk8 := dn hd7
   rw [l_eqToldS_L1] at hF
   iterate 7 refine au ?_
   refine CdF ?_
   iterate 8 refine au ?_
   cases hF
   exact Er ()
 obtain ⟨hk8, hx9, hd10⟩ := drop_cons hd7
 rw [l_eqToldS_L1] at hF
 iterate 7 refine au ?_
 refine CdT ?_
 iterate 2 refine au ?_
 refine K_draw [0, 1, 2, 3, 4, 5, 6, 7, 8, 9] [0, 0, 3, 7, 0, 0, 48, 112, 255, 511] [8] mixed (by decide +kernel) ?_
 iterate 2 refine du ?_
 refine Di hx9 (fun k13 j14 => ?_)
 refine DlA2 (ul90_0_90 x6) la90_0_90 (fun p15 => ?_)
 iterate 2 refine du ?_
 refine bnd hF fun x16 hx17 hF => ?_
 obtain ⟨hp18, hx19⟩ := ix_some hx17
 refine Di hx19 (fun k20 j21 => ?_)
 refine DlA2 (ul90_0_90 x16) la90_0_90 (fun p22 => ?_)
 refine bnd hF fun r23 hx24 hF => Dx0 (l_eqTold_ok _ _ _ _ _ _ _ hx24) (fun _ => ?_)
 iterate 2 refine du ?_
 refine Ci hF (fun hb27 hF => ?_) (fun hb27 hF => ?_)
 · iterate 4 refine au ?_
   cases hF
   exact Er ()
 iterate 6 refine au ?_
 rw [wk k4]
 exact ⟨_, Nat.lt_succ_self _, _, k4 + 1, rest5, rfl, eqA, hd10, entA, hF⟩
def l_FnExactTrustLine (fuel : Nat) (a_aS : List Int) (a_aL : List Method) (a_aList : List Told) : Option (Bool) :=
 if (decide ((1048576 : Int) < (a_aS.length : Int))) then (
   some true)
 else (
   (l_szMethodS a_aL 1048576).bind fun r1 =>
   if (decide ((r1 : Int) < 0)) then (
     some true)
   else (
     (l_szToldS a_aList r1).bind fun r4 =>
     if (decide ((r4 : Int) < 0)) then (
       some true)
     else (
       (l_toIntS a_aS).bind fun r7 =>
       (l_toMethodS a_aL).bind fun r10 =>
       (l_toToldS a_aList).bind fun r13 =>
       (s_TrustLine fuel r7 r10 r13).bind fun r16 =>
       (l_toIntS a_aS).bind fun r19 =>
       (l_toMethodS a_aL).bind fun r22 =>
       (l_toToldS a_aList).bind fun r25 =>
       (i_TrustLine r19 r22 r25).bind fun r28 =>
       if (!(r28 == r16)) then (
         some false)
       else (
         (l_toIntS a_aS).bind fun r31 =>
         (l_eqIntS r19 r31).bind fun r34 =>
         if (!r34) then (
           some false)
         else (
           (l_toMethodS a_aL).bind fun r37 =>
           (l_eqMethodS r22 r37).bind fun r40 =>
           if (!r40) then (
             some false)
           else (
             (l_toToldS a_aList).bind fun r43 =>
             (l_eqToldS r25 r43).bind fun r46 =>
             if (!r46) then (
               some false)
             else (
               some true)))))))
theorem l_FnExactTrustLine_ok (fuel : Nat) (a_aS : List Int) (v0_0 : Sv) (a_aL : List Method) (v1_0 : Sv) (a_aList : List Told) (v2_0 : Sv) (R : Bool) (hF : l_FnExactTrustLine fuel a_aS a_aL a_aList = some R) :
   Fw.Spec Tryz.prog 3 [v0_0.v, v1_0.v, v2_0.v] [crd (RdS 3 rdInt) v0_0.v a_aS, crd (RdS 74 rd74) v1_0.v a_aL, crd (RdS 79 rd79) v2_0.v a_aList] (fun _ : Unit => (.bool R)) (fun _ => []) := by
 refine Se 61 Tryz.func3 [.tmp 6] ?_
 intro H0 F0
 unfold l_FnExactTrustLine at hF
 iterate 9 refine au ?_
 refine Ci hF (fun hb55 hF => ?_) (fun hb55 hF => ?_)
 · iterate 4 refine au ?_
   cases hF
   exact Er ()
 iterate 7 refine au ?_
 refine bnd hF fun r1 hx2 hF => Cx0 (l_szMethodS_ok _ _ _ _ hx2) (fun _ => ?_)
 iterate 7 refine au ?_
 refine Ci hF (fun hb54 hF => ?_) (fun hb54 hF => ?_)
 · iterate 4 refine au ?_
   cases hF
   exact Er ()
 iterate 4 refine au ?_
 refine bnd hF fun r4 hx5 hF => Cx0 (l_szToldS_ok _ _ _ _ hx5) (fun _ => ?_)
 iterate 7 refine au ?_
 refine Ci hF (fun hb53 hF => ?_) (fun hb53 hF => ?_)
 · iterate 4 refine au ?_
   cases hF
   exact Er ()
 iterate 3 refine au ?_
 refine bnd hF fun r7 hx8 hF => Cx1 (l_toIntS_ok _ _ _ hx8) (fun p9 => ?_)
 refine au ?_
 refine bnd hF fun r10 hx11 hF => Cx1 (l_toMethodS_ok _ _ _ hx11) (fun p12 => ?_)
 refine au ?_
 refine bnd hF fun r13 hx14 hF => Cx1 (l_toToldS_ok _ _ _ hx14) (fun p15 => ?_)
 refine bnd hF fun r16 hx17 hF => C_x3 (.cons .h (.cons .h (.cons .h .nil))) (XC_borL (pre := []) (.cons frz_own (.cons frz_own (.cons frz_own .nil))) (fun _ => .nil) (X_callS cf8.h (.cons (.tmp rfl rfl) (.cons (.tmp rfl rfl) (.cons (.tmp rfl rfl) .nil))) (s_TrustLine_ok fuel r7 p9.1 r10 p12.1 r13 p15.1 _ hx17))) (fun _ => ?_)
 iterate 4 refine au ?_
 refine bnd hF fun r19 hx20 hF => Cx1 (l_toIntS_ok _ _ _ hx20) (fun p21 => ?_)
 iterate 4 refine au ?_
 refine bnd hF fun r22 hx23 hF => Cx1 (l_toMethodS_ok _ _ _ hx23) (fun p24 => ?_)
 iterate 4 refine au ?_
 refine bnd hF fun r25 hx26 hF => Cx1 (l_toToldS_ok _ _ _ hx26) (fun p27 => ?_)
 iterate 6 refine au ?_
 refine bnd hF fun r28 hx29 hF => C_x3 (.cons .h (.cons .h (.cons .h .nil))) (XC_borL (pre := []) (.cons frz_own (.cons frz_own (.cons frz_own .nil))) (fun _ => .nil) (X_callS cf12.h (.cons (.tmp rfl rfl) (.cons (.tmp rfl rfl) (.cons (.tmp rfl rfl) .nil))) (i_TrustLine_ok r19 p21.1 r22 p24.1 r25 p27.1 _ hx29))) (fun _ => ?_)
 iterate 6 refine au ?_
 refine C_val (V_neT (s := r28) (t := r16) (.tmp rfl rfl) (.tmp rfl rfl)) ?_
 refine au ?_
 refine Ci hF (fun hb52 hF => ?_) (fun hb52 hF => ?_)
 · iterate 4 refine au ?_
   cases hF
   exact Er ()
 iterate 5 refine au ?_
 refine bnd hF fun r31 hx32 hF => Cx1 (l_toIntS_ok _ _ _ hx32) (fun p33 => ?_)
 refine bnd hF fun r34 hx35 hF => C_x2 (.cons .h (.cons (.t (.t .h)) .nil)) (XC_borL (pre := []) (.cons frz_own (.cons frz_own .nil)) (fun _ => .nil) (X_callS cf13.h (.cons (.tmp rfl rfl) (.cons (.tmp rfl rfl) .nil)) (l_eqIntS_ok r19 p21.1 r31 p33.1 _ hx35))) (fun _ => ?_)
 iterate 2 refine au ?_
 refine Ci hF (fun hb51 hF => ?_) (fun hb51 hF => ?_)
 · iterate 4 refine au ?_
   cases hF
   exact Er ()
 iterate 5 refine au ?_
 refine bnd hF fun r37 hx38 hF => Cx1 (l_toMethodS_ok _ _ _ hx38) (fun p39 => ?_)
 refine bnd hF fun r40 hx41 hF => C_x2 (.cons .h (.cons (.t (.t (.t .h))) .nil)) (XC_borL (pre := []) (.cons frz_own (.cons frz_own .nil)) (fun _ => .nil) (X_callS cf14.h (.cons (.tmp rfl rfl) (.cons (.tmp rfl rfl) .nil)) (l_eqMethodS_ok r22 p24.1 r37 p39.1 _ hx41))) (fun _ => ?_)
 iterate 2 refine au ?_
 refine Ci hF (fun hb50 hF => ?_) (fun hb50 hF => ?_)
 · iterate 4 refine au ?_
   cases hF
   exact Er ()
 iterate 5 refine au ?_
 refine bnd hF fun r43 hx44 hF => Cx1 (l_toToldS_ok _ _ _ hx44) (fun p45 => ?_)
 refine bnd hF fun r46 hx47 hF => C_x2 (.cons .h (.cons (.t (.t (.t (.t .h)))) .nil)) (XC_borL (pre := []) (.cons frz_own (.cons frz_own .nil)) (fun _ => .nil) (X_callS cf15.h (.cons (.tmp rfl rfl) (.cons (.tmp rfl rfl) .nil)) (l_eqToldS_ok r25 p27.1 r43 p45.1 _ hx47))) (fun _ => ?_)
 iterate 2 refine au ?_
 refine Ci hF (fun hb49 hF => ?_) (fun hb49 hF => ?_)
 · iterate 4 refine au ?_
   cases hF
   exact Er ()
 iterate 5 refine au ?_
 cases hF
 exact Er ()
end Go.Proofs.YtlfebfhfgfjceaaGreatDoor
