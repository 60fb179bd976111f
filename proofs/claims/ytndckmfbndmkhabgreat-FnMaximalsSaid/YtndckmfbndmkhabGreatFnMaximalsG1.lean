/-
  Functions of the program as Lean functions, and that the calls return what these say: part 2. No conditions.
-/
import Derived.Shelf.Sort.Plain
import Derived.Shelf.Slices.In.SortNone
import Derived.Shelf.Slices.CompactI
import Derived.Test.YtndckmfbndmkhabGreatFnMaximalsG0
import Derived.KernelRfl
set_option maxRecDepth 100000
set_option maxHeartbeats 1000000
set_option linter.unusedVariables false
namespace Go.Proofs.YtndckmfbndmkhabGreat
open Go Go.Fw

def i_Method_fits_1 (a_i : Int) (a_e1 : Int) : Option (Bool) :=
 (i_within a_i 0 (IntKind.i64.wrap (a_e1 - 1))).bind fun r1 =>
 some (!r1)
theorem i_Method_fits_1_ok (a_i : Int) (kc1 : Nat) (a_e1 : Int) (R : Bool) (hF : i_Method_fits_1 a_i a_e1 = some R) :
   Fw.Spec Tryz.prog 245 [(.int .i64 a_i), (pz kc1)] [cboR kc1 3 (.int .i64 a_e1)] (fun _ : Unit => (.bool R)) (fun _ => []) := by
 refine Se 9 Tryz.func245 [.tmp 3] ?_
 intro H0 F0
 unfold i_Method_fits_1 at hF
 iterate 7 refine au ?_
 refine bnd hF fun r1 hx2 hF => Cx0 (i_within_ok _ _ _ _ hx2) (fun _ => ?_)
 iterate 4 refine au ?_
 cases hF
 exact Er ()
def g_slices_IndexFunc_int_int_iMethodfits1_L1 (a_e1 : Int) : List Int → Nat → Option (Int)
 | [], k4 => some (-1)
 | x6 :: rest5, k4 => (i_Method_fits_1 x6 a_e1).bind fun r15 =>
   if r15 then (
     some (k4 : Int))
   else (
     g_slices_IndexFunc_int_int_iMethodfits1_L1 a_e1 rest5 (k4 + 1))
def g_slices_IndexFunc_int_int_iMethodfits1 (a_s : List Int) (a_e1 : Int) : Option (Int) :=
 g_slices_IndexFunc_int_int_iMethodfits1_L1 a_e1 a_s 0
theorem g_slices_IndexFunc_int_int_iMethodfits1_ok (a_s : List Int) (v0_0 : Sv) (kc1 : Nat) (a_e1 : Int) (R : Int) (hF : g_slices_IndexFunc_int_int_iMethodfits1 a_s a_e1 = some R) :
   Fw.Spec Tryz.prog 114 [v0_0.v, (.func (.func 245) [].toArray [(pz kc1)].toArray)] [crd (RdS 3 rdInt) v0_0.v a_s, cboR kc1 3 (.int .i64 a_e1)] (fun _ : Unit => (.int .i64 R)) (fun _ => []) := by
 refine Se 19 Tryz.func114 [.tmp 4] ?_
 intro H0 F0
 unfold g_slices_IndexFunc_int_int_iMethodfits1 at hF
 iterate 9 refine au ?_
 refine CW_block (CW_loop (m := a_s.length) (fun m2 f' cs' => ∃ (g : Fr) (k4 : Nat) (rest5 : List Int), m2 = rest5.length ∧ f' = updL g [(0, v0_0.v), (1, (.func (.func 245) [].toArray [(pz kc1)].toArray)), (7, (.int .i64 (a_s.length : Int))), (8, (.int .i64 (k4 : Int)))] ∧ List.drop k4 a_s = rest5 ∧ Ent cs' [crd (RdS 3 rdInt) v0_0.v a_s, cboR kc1 3 (.int .i64 a_e1)] ∧ g_slices_IndexFunc_int_int_iMethodfits1_L1 a_e1 rest5 k4 = some R) ⟨_, 0, _, rfl, eqA, rfl, entA, hF⟩ ?_)
 rintro m2 _ _ ⟨g3, k4, rest5, rfl, rfl, hd7, hE, hF⟩
 refine Kb hE a_s (fun hbd12 => ?_)
 rcases rest5 with _ | ⟨x6, rest5⟩
 · have hk8 := dn hd7
   rw [g_slices_IndexFunc_int_int_iMethodfits1_L1] at hF
   iterate 4 refine au ?_
   refine CdF ?_
   iterate 8 refine au ?_
   cases hF
   exact Er ()
 obtain ⟨hk8, hx9, hd10⟩ := drop_cons hd7
 rw [g_slices_IndexFunc_int_int_iMethodfits1_L1] at hF
 iterate 4 refine au ?_
 refine CdT ?_
 iterate 10 refine au ?_
 refine Ai hx9 (fun k13 j14 => ?_)
 refine Al ls3_0 ?_
 refine bnd hF fun r15 hx16 hF => C_x0 (.rd (.t (.t .h)) rfl .nil) (X_callCS cf245.h (.tmp rfl rfl) (.cons (.tmp rfl rfl) .nil) (i_Method_fits_1_ok x6 kc1 a_e1 _ hx16)) (fun _ => ?_)
 refine au ?_
 refine Ci hF (fun hb19 hF => ?_) (fun hb19 hF => ?_)
 · iterate 5 refine au ?_
   cases hF
   exact Er ()
 iterate 5 refine au ?_
 rw [wk k4]
 exact ⟨_, Nat.lt_succ_self _, _, k4 + 1, rest5, rfl, eqA, hd10, entA, hF⟩
def g_slices_ContainsFunc_int_int_iMethodfits1 (a_s : List Int) (a_e1 : Int) : Option (Bool) :=
 (g_slices_IndexFunc_int_int_iMethodfits1 a_s a_e1).bind fun r1 =>
 some (decide ((0 : Int) ≤ r1))
theorem g_slices_ContainsFunc_int_int_iMethodfits1_ok (a_s : List Int) (v0_0 : Sv) (kc1 : Nat) (a_e1 : Int) (R : Bool) (hF : g_slices_ContainsFunc_int_int_iMethodfits1 a_s a_e1 = some R) :
   Fw.Spec Tryz.prog 53 [v0_0.v, (.func (.func 245) [].toArray [(pz kc1)].toArray)] [crd (RdS 3 rdInt) v0_0.v a_s, cboR kc1 3 (.int .i64 a_e1)] (fun _ : Unit => (.bool R)) (fun _ => []) := by
 refine Se 9 Tryz.func53 [.tmp 4] ?_
 intro H0 F0
 unfold g_slices_ContainsFunc_int_int_iMethodfits1 at hF
 iterate 6 refine au ?_
 refine bnd hF fun r1 hx2 hF => Cx0 (g_slices_IndexFunc_int_int_iMethodfits1_ok _ _ _ _ _ hx2) (fun _ => ?_)
 iterate 4 refine au ?_
 cases hF
 exact Er ()
def i_isCost (a_n : Int) : Option (Bool) :=
 (i_within a_n 0 99).bind fun r1 =>
 some r1
theorem i_isCost_ok (a_n : Int) (R : Bool) (hF : i_isCost a_n = some R) :
   Fw.Spec Tryz.prog 180 [(.int .i64 a_n)] [] (fun _ : Unit => (.bool R)) (fun _ => []) := by
 refine Se 5 Tryz.func180 [.tmp 2] ?_
 intro H0 F0
 unfold i_isCost at hF
 iterate 5 refine au ?_
 refine bnd hF fun r1 hx2 hF => Cx0 (i_within_ok _ _ _ _ hx2) (fun _ => ?_)
 iterate 3 refine au ?_
 cases hF
 exact Er ()
def i_Method_fits (a_m : Method) (a_arity : Int) : Option (Bool) :=
 ((i_ascending a_m.Inputs).bind fun r5 =>
   bif r5 then ((g_slices_ContainsFunc_int_int_iMethodfits1 a_m.Inputs a_arity).bind fun r9 =>
     bif (!r9) then ((i_within a_m.Limit 0 9).bind fun r13 =>
       bif r13 then ((i_isCost a_m.Cost).bind fun r17 =>
         bif r17 then ((i_within a_m.Quota 1 99).bind fun r21 =>
           some r21)
         else (some false))
       else (some false))
     else (some false))
   else (some false)).bind fun o3 =>
 match o3 with
 | c24 => some c24
theorem i_Method_fits_ok (a_m : Method) (v0_1 : Sv) (a_arity : Int) (R : Bool) (hF : i_Method_fits a_m a_arity = some R) :
   Fw.Spec Tryz.prog 202 [(.agg [(.int .i64 a_m.Rel), v0_1.v, (.int .i64 a_m.Limit), (.int .i64 a_m.Cost), (.int .i64 a_m.Quota)].toArray), (.int .i64 a_arity)] [crd (RdS 3 rdInt) v0_1.v a_m.Inputs] (fun _ : Unit => (.bool R)) (fun _ => []) := by
 refine Se 30 Tryz.func202 [.tmp 4] ?_
 intro H0 F0
 unfold i_Method_fits at hF
 refine au ?_
 refine AbR (fun k1 => ?_)
 refine AbR (fun k2 => ?_)
 iterate 2 refine au ?_
 obtain ⟨o3, hio3, hO4⟩ := bind_some hF
 refine au ?_
 refine C_cut (fun f' cs' => ∃ (c24 : Bool) (g : Fr), c24 = o3 ∧ f' = updL g [(4, (.bool c24))] ∧ Ent cs' []) ?_ ?_
 · replace hF := hio3
   iterate 2 refine au ?_
   refine bnd hF fun r5 hx6 hF => Cx0 (i_ascending_ok _ _ _ hx6) (fun _ => ?_)
   refine au ?_
   rcases Bool.eq_false_or_eq_true r5 with hg8 | hg8
   · rw [hg8]
     try rw [hg8] at hF; dsimp only [cond_true, cond_false] at hF
     iterate 5 refine au ?_
     refine C_val (V_makeFunc (fn := .func 245) (vs := []) (us := [(pz k2)]) .nil (.cons (.tmp rfl rfl) .nil)) ?_
     refine au ?_
     refine bnd hF fun r9 hx10 hF => Cx0 (g_slices_ContainsFunc_int_int_iMethodfits1_ok _ _ _ _ _ hx10) (fun _ => ?_)
     iterate 4 refine au ?_
     rcases Bool.eq_false_or_eq_true (!r9) with hg12 | hg12
     · rw [hg12]
       try rw [hg12] at hF; dsimp only [cond_true, cond_false] at hF
       iterate 5 refine au ?_
       refine bnd hF fun r13 hx14 hF => Cx0 (i_within_ok _ _ _ _ hx14) (fun _ => ?_)
       iterate 2 refine au ?_
       rcases Bool.eq_false_or_eq_true r13 with hg16 | hg16
       · rw [hg16]
         try rw [hg16] at hF; dsimp only [cond_true, cond_false] at hF
         iterate 5 refine au ?_
         refine bnd hF fun r17 hx18 hF => Cx0 (i_isCost_ok _ _ hx18) (fun _ => ?_)
         iterate 2 refine au ?_
         rcases Bool.eq_false_or_eq_true r17 with hg20 | hg20
         · rw [hg20]
           try rw [hg20] at hF; dsimp only [cond_true, cond_false] at hF
           iterate 5 refine au ?_
           refine bnd hF fun r21 hx22 hF => Cx0 (i_within_ok _ _ _ _ hx22) (fun _ => ?_)
           iterate 3 refine au ?_
           cases hF
           exact ⟨_, _, rfl, eqA, entA⟩
         rw [hg20]
         try rw [hg20] at hF; dsimp only [cond_true, cond_false] at hF
         iterate 6 refine au ?_
         cases hF
         exact ⟨_, _, rfl, eqA, entA⟩
       rw [hg16]
       try rw [hg16] at hF; dsimp only [cond_true, cond_false] at hF
       iterate 11 refine au ?_
       cases hF
       exact ⟨_, _, rfl, eqA, entA⟩
     rw [hg12]
     try rw [hg12] at hF; dsimp only [cond_true, cond_false] at hF
     iterate 16 refine au ?_
     cases hF
     exact ⟨_, _, rfl, eqA, entA⟩
   rw [hg8]
   try rw [hg8] at hF; dsimp only [cond_true, cond_false] at hF
   iterate 23 refine au ?_
   cases hF
   exact ⟨_, _, rfl, eqA, entA⟩
 rintro _ _ ⟨c24, g25, rfl, rfl, hE⟩
 replace hF := hO4
 try dsimp only at hF
 refine K_ent hE ?_
 refine au ?_
 cases hF
 exact Er ()
def i_IsMethod (a_s : List Int) (a_m : Method) : Option (Bool) :=
 ((i_hasRel a_s a_m.Rel).bind fun r4 =>
   bif r4 then ((ix a_s a_m.Rel).bind fun x8 =>
     (i_Method_fits a_m x8).bind fun r14 =>
     some r14)
   else (some false)).bind fun o2 =>
 match o2 with
 | c17 => some c17
theorem i_IsMethod_ok (a_s : List Int) (v0_0 : Sv) (a_m : Method) (v1_1 : Sv) (R : Bool) (hF : i_IsMethod a_s a_m = some R) :
   Fw.Spec Tryz.prog 136 [v0_0.v, (.agg [(.int .i64 a_m.Rel), v1_1.v, (.int .i64 a_m.Limit), (.int .i64 a_m.Cost), (.int .i64 a_m.Quota)].toArray)] [crd (RdS 3 rdInt) v0_0.v a_s, crd (RdS 3 rdInt) v1_1.v a_m.Inputs] (fun _ : Unit => (.bool R)) (fun _ => []) := by
 refine Se 18 Tryz.func136 [.tmp 4] ?_
 intro H0 F0
 unfold i_IsMethod at hF
 refine au ?_
 refine AbR (fun k1 => ?_)
 iterate 2 refine au ?_
 obtain ⟨o2, hio2, hO3⟩ := bind_some hF
 refine K_draw [0, 1, 2, 3, 4, 5, 6, 7, 8, 9, 10, 11, 12, 13] [0, 0, 2, 7, 15, 31, 31, 31, 159, 479, 991, 2047, 4095, 8191] [3, 11] mixed (by decide +kernel) ?_
 refine D_cut (fun f' cs' => ∃ (c17 : Bool) (g : Fr), c17 = o2 ∧ f' = updL g [(4, (.bool c17))] ∧ Ent cs' []) ?_ ?_
 · replace hF := hio2
   iterate 3 refine du ?_
   refine bnd hF fun r4 hx5 hF => Dx0 (i_hasRel_ok _ _ _ _ hx5) (fun _ => ?_)
   refine du ?_
   rcases Bool.eq_false_or_eq_true r4 with hg7 | hg7
   · rw [hg7]
     try rw [hg7] at hF; dsimp only [cond_true, cond_false] at hF
     iterate 4 refine du ?_
     refine bnd hF fun x8 hx9 hF => ?_
     obtain ⟨hp10, hx11⟩ := ix_some hx9
     refine Di hx11 (fun k12 j13 => ?_)
     refine Dl ls3_0 ?_
     refine bnd hF fun r14 hx15 hF => Dx0 (i_Method_fits_ok _ _ _ _ hx15) (fun _ => ?_)
     iterate 3 refine du ?_
     cases hF
     exact ⟨_, _, rfl, eqA, entA⟩
   rw [hg7]
   try rw [hg7] at hF; dsimp only [cond_true, cond_false] at hF
   iterate 10 refine du ?_
   cases hF
   exact ⟨_, _, rfl, eqA, entA⟩
 rintro _ _ ⟨c17, g18, rfl, rfl, hE⟩
 replace hF := hO3
 try dsimp only at hF
 refine K_ent hE ?_
 refine au ?_
 cases hF
 exact Er ()
def i_AreMethods_1 (a_m : Method) (a_e1 : List Int) : Option (Bool) :=
 (i_IsMethod a_e1 a_m).bind fun r2 =>
 some (!r2)
theorem i_AreMethods_1_ok (a_m : Method) (v0_1 : Sv) (kc1 : Nat) (a_e1 : List Int) (vc1_0 : Sv) (R : Bool) (hF : i_AreMethods_1 a_m a_e1 = some R) :
   Fw.Spec Tryz.prog 135 [(.agg [(.int .i64 a_m.Rel), v0_1.v, (.int .i64 a_m.Limit), (.int .i64 a_m.Cost), (.int .i64 a_m.Quota)].toArray), (pz kc1)] [crd (RdS 3 rdInt) v0_1.v a_m.Inputs, cboR kc1 24 vc1_0.v, crd (RdS 3 rdInt) vc1_0.v a_e1] (fun _ : Unit => (.bool R)) (fun _ => []) := by
 refine Se 8 Tryz.func135 [.tmp 3] ?_
 intro H0 F0
 unfold i_AreMethods_1 at hF
 refine au ?_
 refine AbR (fun k1 => ?_)
 iterate 5 refine au ?_
 refine bnd hF fun r2 hx3 hF => Cx0 (i_IsMethod_ok _ _ _ _ _ hx3) (fun _ => ?_)
 iterate 4 refine au ?_
 cases hF
 exact Er ()
def g_slices_IndexFunc_impl_Method_impl_Method_iAreMethods1_L1 (a_e1 : List Int) : List Method → Nat → Option (Int)
 | [], k4 => some (-1)
 | x6 :: rest5, k4 => (i_AreMethods_1 x6 a_e1).bind fun r16 =>
   if r16 then (
     some (k4 : Int))
   else (
     g_slices_IndexFunc_impl_Method_impl_Method_iAreMethods1_L1 a_e1 rest5 (k4 + 1))
def g_slices_IndexFunc_impl_Method_impl_Method_iAreMethods1 (a_s : List Method) (a_e1 : List Int) : Option (Int) :=
 g_slices_IndexFunc_impl_Method_impl_Method_iAreMethods1_L1 a_e1 a_s 0
theorem g_slices_IndexFunc_impl_Method_impl_Method_iAreMethods1_ok (a_s : List Method) (v0_0 : Sv) (kc1 : Nat) (a_e1 : List Int) (vc1_0 : Sv) (R : Int) (hF : g_slices_IndexFunc_impl_Method_impl_Method_iAreMethods1 a_s a_e1 = some R) :
   Fw.Spec Tryz.prog 201 [v0_0.v, (.func (.func 135) [].toArray [(pz kc1)].toArray)] [crd (RdS 73 rd73) v0_0.v a_s, cboR kc1 24 vc1_0.v, crd (RdS 3 rdInt) vc1_0.v a_e1] (fun _ : Unit => (.int .i64 R)) (fun _ => []) := by
 refine Se 19 Tryz.func201 [.tmp 4] ?_
 intro H0 F0
 unfold g_slices_IndexFunc_impl_Method_impl_Method_iAreMethods1 at hF
 iterate 9 refine au ?_
 refine CW_block (CW_loop (m := a_s.length) (fun m2 f' cs' => ∃ (g : Fr) (k4 : Nat) (rest5 : List Method), m2 = rest5.length ∧ f' = updL g [(0, v0_0.v), (1, (.func (.func 135) [].toArray [(pz kc1)].toArray)), (7, (.int .i64 (a_s.length : Int))), (8, (.int .i64 (k4 : Int)))] ∧ List.drop k4 a_s = rest5 ∧ Ent cs' [crd (RdS 73 rd73) v0_0.v a_s, cboR kc1 24 vc1_0.v, crd (RdS 3 rdInt) vc1_0.v a_e1] ∧ g_slices_IndexFunc_impl_Method_impl_Method_iAreMethods1_L1 a_e1 rest5 k4 = some R) ⟨_, 0, _, rfl, eqA, rfl, entA, hF⟩ ?_)
 rintro m2 _ _ ⟨g3, k4, rest5, rfl, rfl, hd7, hE, hF⟩
 refine Kb hE a_s (fun hbd12 => ?_)
 rcases rest5 with _ | ⟨x6, rest5⟩
 · have hk8 := dn hd7
   rw [g_slices_IndexFunc_impl_Method_impl_Method_iAreMethods1_L1] at hF
   iterate 4 refine au ?_
   refine CdF ?_
   iterate 8 refine au ?_
   cases hF
   exact Er ()
 obtain ⟨hk8, hx9, hd10⟩ := drop_cons hd7
 rw [g_slices_IndexFunc_impl_Method_impl_Method_iAreMethods1_L1] at hF
 iterate 4 refine au ?_
 refine CdT ?_
 iterate 10 refine au ?_
 refine Ai hx9 (fun k13 j14 => ?_)
 refine AlA1 (ul73_0_73 x6) la73_0_73 (fun p15 => ?_)
 refine bnd hF fun r16 hx17 hF => C_x0 (.rd .h rfl (.rd (.t (.t (.t .h))) rfl (.rd (.t (.t (.t (.t .h)))) rfl .nil))) (X_callCS cf135.h (.tmp rfl rfl) (.cons (.tmp rfl rfl) .nil) (i_AreMethods_1_ok x6 p15 kc1 a_e1 vc1_0 _ hx17)) (fun _ => ?_)
 refine au ?_
 refine Ci hF (fun hb20 hF => ?_) (fun hb20 hF => ?_)
 · iterate 5 refine au ?_
   cases hF
   exact Er ()
 iterate 5 refine au ?_
 rw [wk k4]
 exact ⟨_, Nat.lt_succ_self _, _, k4 + 1, rest5, rfl, eqA, hd10, entA, hF⟩
def g_slices_ContainsFunc_impl_Method_impl_Method_iAreMethods1 (a_s : List Method) (a_e1 : List Int) : Option (Bool) :=
 (g_slices_IndexFunc_impl_Method_impl_Method_iAreMethods1 a_s a_e1).bind fun r1 =>
 some (decide ((0 : Int) ≤ r1))
theorem g_slices_ContainsFunc_impl_Method_impl_Method_iAreMethods1_ok (a_s : List Method) (v0_0 : Sv) (kc1 : Nat) (a_e1 : List Int) (vc1_0 : Sv) (R : Bool) (hF : g_slices_ContainsFunc_impl_Method_impl_Method_iAreMethods1 a_s a_e1 = some R) :
   Fw.Spec Tryz.prog 134 [v0_0.v, (.func (.func 135) [].toArray [(pz kc1)].toArray)] [crd (RdS 73 rd73) v0_0.v a_s, cboR kc1 24 vc1_0.v, crd (RdS 3 rdInt) vc1_0.v a_e1] (fun _ : Unit => (.bool R)) (fun _ => []) := by
 refine Se 9 Tryz.func134 [.tmp 4] ?_
 intro H0 F0
 unfold g_slices_ContainsFunc_impl_Method_impl_Method_iAreMethods1 at hF
 iterate 6 refine au ?_
 refine bnd hF fun r1 hx2 hF => Cx0 (g_slices_IndexFunc_impl_Method_impl_Method_iAreMethods1_ok _ _ _ _ _ _ hx2) (fun _ => ?_)
 iterate 4 refine au ?_
 cases hF
 exact Er ()
def i_AreMethods (a_s : List Int) (a_l : List Method) : Option (Bool) :=
 ((i_IsSchema a_s).bind fun r4 =>
   bif r4 then (bif (decide (((a_l.length : Int) : Int) ≤ 5)) then ((g_slices_ContainsFunc_impl_Method_impl_Method_iAreMethods1 a_l a_s).bind fun r9 =>
       some (!r9))
     else (some false))
   else (some false)).bind fun o2 =>
 match o2 with
 | c12 => some c12
theorem i_AreMethods_ok (a_s : List Int) (v0_0 : Sv) (a_l : List Method) (v1_0 : Sv) (R : Bool) (hF : i_AreMethods a_s a_l = some R) :
   Fw.Spec Tryz.prog 70 [v0_0.v, v1_0.v] [crd (RdS 3 rdInt) v0_0.v a_s, crd (RdS 73 rd73) v1_0.v a_l] (fun _ : Unit => (.bool R)) (fun _ => []) := by
 refine Se 18 Tryz.func70 [.tmp 4] ?_
 intro H0 F0
 unfold i_AreMethods at hF
 refine au ?_
 refine AbR (fun k1 => ?_)
 iterate 2 refine au ?_
 obtain ⟨o2, hio2, hO3⟩ := bind_some hF
 refine au ?_
 refine C_cut (fun f' cs' => ∃ (c12 : Bool) (g : Fr), c12 = o2 ∧ f' = updL g [(4, (.bool c12))] ∧ Ent cs' []) ?_ ?_
 · replace hF := hio2
   refine au ?_
   refine bnd hF fun r4 hx5 hF => Cx0 (i_IsSchema_ok _ _ _ hx5) (fun _ => ?_)
   refine au ?_
   rcases Bool.eq_false_or_eq_true r4 with hg7 | hg7
   · rw [hg7]
     try rw [hg7] at hF; dsimp only [cond_true, cond_false] at hF
     iterate 8 refine au ?_
     rcases Bool.eq_false_or_eq_true (decide (((a_l.length : Int) : Int) ≤ 5)) with hg8 | hg8
     · rw [hg8]
       try rw [hg8] at hF; dsimp only [cond_true, cond_false] at hF
       iterate 3 refine au ?_
       refine C_val (V_makeFunc (fn := .func 135) (vs := []) (us := [(pz k1)]) .nil (.cons (.tmp rfl rfl) .nil)) ?_
       refine au ?_
       refine bnd hF fun r9 hx10 hF => Cx0 (g_slices_ContainsFunc_impl_Method_impl_Method_iAreMethods1_ok _ _ _ _ _ _ hx10) (fun _ => ?_)
       iterate 5 refine au ?_
       cases hF
       exact ⟨_, _, rfl, eqA, entA⟩
     rw [hg8]
     try rw [hg8] at hF; dsimp only [cond_true, cond_false] at hF
     iterate 7 refine au ?_
     cases hF
     exact ⟨_, _, rfl, eqA, entA⟩
   rw [hg7]
   try rw [hg7] at hF; dsimp only [cond_true, cond_false] at hF
   iterate 12 refine au ?_
   cases hF
   exact ⟨_, _, rfl, eqA, entA⟩
 rintro _ _ ⟨c12, g13, rfl, rfl, hE⟩
 replace hF := hO3
 try dsimp only at hF
 refine K_ent hE ?_
 refine au ?_
 cases hF
 exact Er ()
def i_isValue (a_n : Int) : Option (Bool) :=
 (i_within a_n 0 9).bind fun r1 =>
 some r1
theorem i_isValue_ok (a_n : Int) (R : Bool) (hF : i_isValue a_n = some R) :
   Fw.Spec Tryz.prog 133 [(.int .i64 a_n)] [] (fun _ : Unit => (.bool R)) (fun _ => []) := by
 refine Se 5 Tryz.func133 [.tmp 2] ?_
 intro H0 F0
 unfold i_isValue at hF
 iterate 5 refine au ?_
 refine bnd hF fun r1 hx2 hF => Cx0 (i_within_ok _ _ _ _ hx2) (fun _ => ?_)
 iterate 3 refine au ?_
 cases hF
 exact Er ()
def i_IsVar (a_t : Int) : Option (Bool) :=
 (i_within a_t 10 17).bind fun r1 =>
 some r1
theorem i_IsVar_ok (a_t : Int) (R : Bool) (hF : i_IsVar a_t = some R) :
   Fw.Spec Tryz.prog 252 [(.int .i64 a_t)] [] (fun _ : Unit => (.bool R)) (fun _ => []) := by
 refine Se 5 Tryz.func252 [.tmp 2] ?_
 intro H0 F0
 unfold i_IsVar at hF
 iterate 5 refine au ?_
 refine bnd hF fun r1 hx2 hF => Cx0 (i_within_ok _ _ _ _ hx2) (fun _ => ?_)
 iterate 3 refine au ?_
 cases hF
 exact Er ()
def i_IsTerm (a_t : Int) : Option (Bool) :=
 ((i_isValue a_t).bind fun r3 =>
   bif r3 then (some true)
   else ((i_IsVar a_t).bind fun r7 =>
     some r7)).bind fun o1 =>
 match o1 with
 | c10 => some c10
theorem i_IsTerm_ok (a_t : Int) (R : Bool) (hF : i_IsTerm a_t = some R) :
   Fw.Spec Tryz.prog 251 [(.int .i64 a_t)] [] (fun _ : Unit => (.bool R)) (fun _ => []) := by
 refine Se 9 Tryz.func251 [.tmp 2] ?_
 intro H0 F0
 unfold i_IsTerm at hF
 iterate 3 refine au ?_
 obtain ⟨o1, hio1, hO2⟩ := bind_some hF
 refine au ?_
 refine C_cut (fun f' cs' => ∃ (c10 : Bool) (g : Fr), c10 = o1 ∧ f' = updL g [(2, (.bool c10))] ∧ Ent cs' []) ?_ ?_
 · replace hF := hio1
   refine au ?_
   refine bnd hF fun r3 hx4 hF => Cx0 (i_isValue_ok _ _ hx4) (fun _ => ?_)
   refine au ?_
   rcases Bool.eq_false_or_eq_true r3 with hg6 | hg6
   · rw [hg6]
     try rw [hg6] at hF; dsimp only [cond_true, cond_false] at hF
     iterate 5 refine au ?_
     cases hF
     exact ⟨_, _, rfl, eqA, entA⟩
   rw [hg6]
   try rw [hg6] at hF; dsimp only [cond_true, cond_false] at hF
   iterate 3 refine au ?_
   refine bnd hF fun r7 hx8 hF => Cx0 (i_IsVar_ok _ _ hx8) (fun _ => ?_)
   iterate 3 refine au ?_
   cases hF
   exact ⟨_, _, rfl, eqA, entA⟩
 rintro _ _ ⟨c10, g11, rfl, rfl, hE⟩
 replace hF := hO2
 try dsimp only at hF
 refine K_ent hE ?_
 refine au ?_
 cases hF
 exact Er ()
def i_areTerms_1 (a_t : Int) : Option (Bool) :=
 (i_IsTerm a_t).bind fun r1 =>
 some (!r1)
theorem i_areTerms_1_ok (a_t : Int) (R : Bool) (hF : i_areTerms_1 a_t = some R) :
   Fw.Spec Tryz.prog 250 [(.int .i64 a_t)] [] (fun _ : Unit => (.bool R)) (fun _ => []) := by
 refine Se 6 Tryz.func250 [.tmp 2] ?_
 intro H0 F0
 unfold i_areTerms_1 at hF
 iterate 5 refine au ?_
 refine bnd hF fun r1 hx2 hF => Cx0 (i_IsTerm_ok _ _ hx2) (fun _ => ?_)
 iterate 4 refine au ?_
 cases hF
 exact Er ()
def g_slices_IndexFunc_int_int_iareTerms1_L1 : List Int → Nat → Option (Int)
 | [], k4 => some (-1)
 | x6 :: rest5, k4 => (i_areTerms_1 x6).bind fun r15 =>
   if r15 then (
     some (k4 : Int))
   else (
     g_slices_IndexFunc_int_int_iareTerms1_L1 rest5 (k4 + 1))
def g_slices_IndexFunc_int_int_iareTerms1 (a_s : List Int) : Option (Int) :=
 g_slices_IndexFunc_int_int_iareTerms1_L1 a_s 0
theorem g_slices_IndexFunc_int_int_iareTerms1_ok (a_s : List Int) (v0_0 : Sv) (R : Int) (hF : g_slices_IndexFunc_int_int_iareTerms1 a_s = some R) :
   Fw.Spec Tryz.prog 114 [v0_0.v, (.func (.func 250) [].toArray [].toArray)] [crd (RdS 3 rdInt) v0_0.v a_s] (fun _ : Unit => (.int .i64 R)) (fun _ => []) := by
 refine Se 19 Tryz.func114 [.tmp 4] ?_
 intro H0 F0
 unfold g_slices_IndexFunc_int_int_iareTerms1 at hF
 iterate 9 refine au ?_
 refine CW_block (CW_loop (m := a_s.length) (fun m2 f' cs' => ∃ (g : Fr) (k4 : Nat) (rest5 : List Int), m2 = rest5.length ∧ f' = updL g [(0, v0_0.v), (1, (.func (.func 250) [].toArray [].toArray)), (7, (.int .i64 (a_s.length : Int))), (8, (.int .i64 (k4 : Int)))] ∧ List.drop k4 a_s = rest5 ∧ Ent cs' [crd (RdS 3 rdInt) v0_0.v a_s] ∧ g_slices_IndexFunc_int_int_iareTerms1_L1 rest5 k4 = some R) ⟨_, 0, _, rfl, eqA, rfl, entA, hF⟩ ?_)
 rintro m2 _ _ ⟨g3, k4, rest5, rfl, rfl, hd7, hE, hF⟩
 refine Kb hE a_s (fun hbd12 => ?_)
 rcases rest5 with _ | ⟨x6, rest5⟩
 · have hk8 := dn hd7
   rw [g_slices_IndexFunc_int_int_iareTerms1_L1] at hF
   iterate 4 refine au ?_
   refine CdF ?_
   iterate 8 refine au ?_
   cases hF
   exact Er ()
 obtain ⟨hk8, hx9, hd10⟩ := drop_cons hd7
 rw [g_slices_IndexFunc_int_int_iareTerms1_L1] at hF
 iterate 4 refine au ?_
 refine CdT ?_
 iterate 10 refine au ?_
 refine Ai hx9 (fun k13 j14 => ?_)
 refine Al ls3_0 ?_
 refine bnd hF fun r15 hx16 hF => C_x0 .nil (X_callCS cf250.h (.tmp rfl rfl) (.cons (.tmp rfl rfl) .nil) (i_areTerms_1_ok x6 _ hx16)) (fun _ => ?_)
 refine au ?_
 refine Ci hF (fun hb19 hF => ?_) (fun hb19 hF => ?_)
 · iterate 5 refine au ?_
   cases hF
   exact Er ()
 iterate 5 refine au ?_
 rw [wk k4]
 exact ⟨_, Nat.lt_succ_self _, _, k4 + 1, rest5, rfl, eqA, hd10, entA, hF⟩
def g_slices_ContainsFunc_int_int_iareTerms1 (a_s : List Int) : Option (Bool) :=
 (g_slices_IndexFunc_int_int_iareTerms1 a_s).bind fun r1 =>
 some (decide ((0 : Int) ≤ r1))
theorem g_slices_ContainsFunc_int_int_iareTerms1_ok (a_s : List Int) (v0_0 : Sv) (R : Bool) (hF : g_slices_ContainsFunc_int_int_iareTerms1 a_s = some R) :
   Fw.Spec Tryz.prog 53 [v0_0.v, (.func (.func 250) [].toArray [].toArray)] [crd (RdS 3 rdInt) v0_0.v a_s] (fun _ : Unit => (.bool R)) (fun _ => []) := by
 refine Se 9 Tryz.func53 [.tmp 4] ?_
 intro H0 F0
 unfold g_slices_ContainsFunc_int_int_iareTerms1 at hF
 iterate 6 refine au ?_
 refine bnd hF fun r1 hx2 hF => Cx0 (g_slices_IndexFunc_int_int_iareTerms1_ok _ _ _ hx2) (fun _ => ?_)
 iterate 4 refine au ?_
 cases hF
 exact Er ()
def i_areTerms (a_l : List Int) : Option (Bool) :=
 (g_slices_ContainsFunc_int_int_iareTerms1 a_l).bind fun r1 =>
 some (!r1)
theorem i_areTerms_ok (a_l : List Int) (v0_0 : Sv) (R : Bool) (hF : i_areTerms a_l = some R) :
   Fw.Spec Tryz.prog 212 [v0_0.v] [crd (RdS 3 rdInt) v0_0.v a_l] (fun _ : Unit => (.bool R)) (fun _ => []) := by
 refine Se 6 Tryz.func212 [.tmp 2] ?_
 intro H0 F0
 unfold i_areTerms at hF
 iterate 5 refine au ?_
 refine bnd hF fun r1 hx2 hF => Cx0 (g_slices_ContainsFunc_int_int_iareTerms1_ok _ _ _ hx2) (fun _ => ?_)
 iterate 4 refine au ?_
 cases hF
 exact Er ()
def i_IsAtom (a_s : List Int) (a_a : Atom) : Option (Bool) :=
 ((i_hasRel a_s a_a.Rel).bind fun r4 =>
   bif r4 then ((ix a_s a_a.Rel).bind fun x8 =>
     bif (((a_a.Terms.length : Int) : Int) == x8) then ((i_areTerms a_a.Terms).bind fun r15 =>
       some r15)
     else (some false))
   else (some false)).bind fun o2 =>
 match o2 with
 | c18 => some c18
theorem i_IsAtom_ok (a_s : List Int) (v0_0 : Sv) (a_a : Atom) (v1_1 : Sv) (R : Bool) (hF : i_IsAtom a_s a_a = some R) :
   Fw.Spec Tryz.prog 151 [v0_0.v, (.agg [(.int .i64 a_a.Rel), v1_1.v].toArray)] [crd (RdS 3 rdInt) v0_0.v a_s, crd (RdS 3 rdInt) v1_1.v a_a.Terms] (fun _ : Unit => (.bool R)) (fun _ => []) := by
 refine Se 25 Tryz.func151 [.tmp 4] ?_
 intro H0 F0
 unfold i_IsAtom at hF
 refine au ?_
 refine AbR (fun k1 => ?_)
 iterate 2 refine au ?_
 obtain ⟨o2, hio2, hO3⟩ := bind_some hF
 refine K_draw [0, 1, 2, 3, 4, 5, 6, 7, 8, 9, 10, 11, 12, 13, 14, 15, 16, 17, 18, 19, 20] [0, 0, 2, 7, 15, 31, 63, 127, 31, 31, 543, 1823, 3871, 8191, 16383, 32767, 65535, 131071, 262143, 524287, 1048575] [3, 18] mixed (by decide +kernel) ?_
 refine D_cut (fun f' cs' => ∃ (c18 : Bool) (g : Fr), c18 = o2 ∧ f' = updL g [(4, (.bool c18))] ∧ Ent cs' []) ?_ ?_
 · replace hF := hio2
   iterate 3 refine du ?_
   refine bnd hF fun r4 hx5 hF => Dx0 (i_hasRel_ok _ _ _ _ hx5) (fun _ => ?_)
   refine du ?_
   rcases Bool.eq_false_or_eq_true r4 with hg7 | hg7
   · rw [hg7]
     try rw [hg7] at hF; dsimp only [cond_true, cond_false] at hF
     iterate 6 refine du ?_
     refine bnd hF fun x8 hx9 hF => ?_
     obtain ⟨hp10, hx11⟩ := ix_some hx9
     refine Di hx11 (fun k12 j13 => ?_)
     refine Dl ls3_0 ?_
     iterate 3 refine du ?_
     rcases Bool.eq_false_or_eq_true (((a_a.Terms.length : Int) : Int) == x8) with hg14 | hg14
     · rw [hg14]
       try rw [hg14] at hF; dsimp only [cond_true, cond_false] at hF
       iterate 2 refine du ?_
       refine bnd hF fun r15 hx16 hF => Dx0 (i_areTerms_ok _ _ _ hx16) (fun _ => ?_)
       iterate 3 refine du ?_
       cases hF
       exact ⟨_, _, rfl, eqA, entA⟩
     rw [hg14]
     try rw [hg14] at hF; dsimp only [cond_true, cond_false] at hF
     iterate 6 refine du ?_
     cases hF
     exact ⟨_, _, rfl, eqA, entA⟩
   rw [hg7]
   try rw [hg7] at hF; dsimp only [cond_true, cond_false] at hF
   iterate 17 refine du ?_
   cases hF
   exact ⟨_, _, rfl, eqA, entA⟩
 rintro _ _ ⟨c18, g19, rfl, rfl, hE⟩
 replace hF := hO3
 try dsimp only at hF
 refine K_ent hE ?_
 refine au ?_
 cases hF
 exact Er ()
def i_IsQuery_1 (a_a : Atom) (a_e1 : List Int) : Option (Bool) :=
 (i_IsAtom a_e1 a_a).bind fun r2 =>
 some (!r2)
theorem i_IsQuery_1_ok (a_a : Atom) (v0_1 : Sv) (kc1 : Nat) (a_e1 : List Int) (vc1_0 : Sv) (R : Bool) (hF : i_IsQuery_1 a_a a_e1 = some R) :
   Fw.Spec Tryz.prog 150 [(.agg [(.int .i64 a_a.Rel), v0_1.v].toArray), (pz kc1)] [crd (RdS 3 rdInt) v0_1.v a_a.Terms, cboR kc1 24 vc1_0.v, crd (RdS 3 rdInt) vc1_0.v a_e1] (fun _ : Unit => (.bool R)) (fun _ => []) := by
 refine Se 8 Tryz.func150 [.tmp 3] ?_
 intro H0 F0
 unfold i_IsQuery_1 at hF
 refine au ?_
 refine AbR (fun k1 => ?_)
 iterate 5 refine au ?_
 refine bnd hF fun r2 hx3 hF => Cx0 (i_IsAtom_ok _ _ _ _ _ hx3) (fun _ => ?_)
 iterate 4 refine au ?_
 cases hF
 exact Er ()
def g_slices_IndexFunc_impl_Atom_impl_Atom_iIsQuery1_L1 (a_e1 : List Int) : List Atom → Nat → Option (Int)
 | [], k4 => some (-1)
 | x6 :: rest5, k4 => (i_IsQuery_1 x6 a_e1).bind fun r16 =>
   if r16 then (
     some (k4 : Int))
   else (
     g_slices_IndexFunc_impl_Atom_impl_Atom_iIsQuery1_L1 a_e1 rest5 (k4 + 1))
def g_slices_IndexFunc_impl_Atom_impl_Atom_iIsQuery1 (a_s : List Atom) (a_e1 : List Int) : Option (Int) :=
 g_slices_IndexFunc_impl_Atom_impl_Atom_iIsQuery1_L1 a_e1 a_s 0
theorem g_slices_IndexFunc_impl_Atom_impl_Atom_iIsQuery1_ok (a_s : List Atom) (v0_0 : Sv) (kc1 : Nat) (a_e1 : List Int) (vc1_0 : Sv) (R : Int) (hF : g_slices_IndexFunc_impl_Atom_impl_Atom_iIsQuery1 a_s a_e1 = some R) :
   Fw.Spec Tryz.prog 211 [v0_0.v, (.func (.func 150) [].toArray [(pz kc1)].toArray)] [crd (RdS 98 rd98) v0_0.v a_s, cboR kc1 24 vc1_0.v, crd (RdS 3 rdInt) vc1_0.v a_e1] (fun _ : Unit => (.int .i64 R)) (fun _ => []) := by
 refine Se 19 Tryz.func211 [.tmp 4] ?_
 intro H0 F0
 unfold g_slices_IndexFunc_impl_Atom_impl_Atom_iIsQuery1 at hF
 iterate 9 refine au ?_
 refine CW_block (CW_loop (m := a_s.length) (fun m2 f' cs' => ∃ (g : Fr) (k4 : Nat) (rest5 : List Atom), m2 = rest5.length ∧ f' = updL g [(0, v0_0.v), (1, (.func (.func 150) [].toArray [(pz kc1)].toArray)), (7, (.int .i64 (a_s.length : Int))), (8, (.int .i64 (k4 : Int)))] ∧ List.drop k4 a_s = rest5 ∧ Ent cs' [crd (RdS 98 rd98) v0_0.v a_s, cboR kc1 24 vc1_0.v, crd (RdS 3 rdInt) vc1_0.v a_e1] ∧ g_slices_IndexFunc_impl_Atom_impl_Atom_iIsQuery1_L1 a_e1 rest5 k4 = some R) ⟨_, 0, _, rfl, eqA, rfl, entA, hF⟩ ?_)
 rintro m2 _ _ ⟨g3, k4, rest5, rfl, rfl, hd7, hE, hF⟩
 refine Kb hE a_s (fun hbd12 => ?_)
 rcases rest5 with _ | ⟨x6, rest5⟩
 · have hk8 := dn hd7
   rw [g_slices_IndexFunc_impl_Atom_impl_Atom_iIsQuery1_L1] at hF
   iterate 4 refine au ?_
   refine CdF ?_
   iterate 8 refine au ?_
   cases hF
   exact Er ()
 obtain ⟨hk8, hx9, hd10⟩ := drop_cons hd7
 rw [g_slices_IndexFunc_impl_Atom_impl_Atom_iIsQuery1_L1] at hF
 iterate 4 refine au ?_
 refine CdT ?_
 iterate 10 refine au ?_
 refine Ai hx9 (fun k13 j14 => ?_)
 refine AlA1 (ul98_0_98 x6) la98_0_98 (fun p15 => ?_)
 refine bnd hF fun r16 hx17 hF => C_x0 (.rd .h rfl (.rd (.t (.t (.t .h))) rfl (.rd (.t (.t (.t (.t .h)))) rfl .nil))) (X_callCS cf150.h (.tmp rfl rfl) (.cons (.tmp rfl rfl) .nil) (i_IsQuery_1_ok x6 p15 kc1 a_e1 vc1_0 _ hx17)) (fun _ => ?_)
 refine au ?_
 refine Ci hF (fun hb20 hF => ?_) (fun hb20 hF => ?_)
 · iterate 5 refine au ?_
   cases hF
   exact Er ()
 iterate 5 refine au ?_
 rw [wk k4]
 exact ⟨_, Nat.lt_succ_self _, _, k4 + 1, rest5, rfl, eqA, hd10, entA, hF⟩
def g_slices_ContainsFunc_impl_Atom_impl_Atom_iIsQuery1 (a_s : List Atom) (a_e1 : List Int) : Option (Bool) :=
 (g_slices_IndexFunc_impl_Atom_impl_Atom_iIsQuery1 a_s a_e1).bind fun r1 =>
 some (decide ((0 : Int) ≤ r1))
theorem g_slices_ContainsFunc_impl_Atom_impl_Atom_iIsQuery1_ok (a_s : List Atom) (v0_0 : Sv) (kc1 : Nat) (a_e1 : List Int) (vc1_0 : Sv) (R : Bool) (hF : g_slices_ContainsFunc_impl_Atom_impl_Atom_iIsQuery1 a_s a_e1 = some R) :
   Fw.Spec Tryz.prog 149 [v0_0.v, (.func (.func 150) [].toArray [(pz kc1)].toArray)] [crd (RdS 98 rd98) v0_0.v a_s, cboR kc1 24 vc1_0.v, crd (RdS 3 rdInt) vc1_0.v a_e1] (fun _ : Unit => (.bool R)) (fun _ => []) := by
 refine Se 9 Tryz.func149 [.tmp 4] ?_
 intro H0 F0
 unfold g_slices_ContainsFunc_impl_Atom_impl_Atom_iIsQuery1 at hF
 iterate 6 refine au ?_
 refine bnd hF fun r1 hx2 hF => Cx0 (g_slices_IndexFunc_impl_Atom_impl_Atom_iIsQuery1_ok _ _ _ _ _ _ hx2) (fun _ => ?_)
 iterate 4 refine au ?_
 cases hF
 exact Er ()
def g_slices_Sort_int_int (a_x : List Int) : Option (List Int) :=
 some (a_x.mergeSort fun x y => decide (x ≤ y))
theorem g_slices_Sort_int_int_ok (a_x : List Int) (v0_0 : Sv) (F0_0 : List Nat) (R : List Int) (hF : g_slices_Sort_int_int a_x = some R) :
   Fw.Spec Tryz.prog 199 [v0_0.v] [cown (OwnS 3 (roE rdInt)) F0_0 v0_0.v a_x] (fun _ : List Nat => (.tuple [].toArray)) (fun p => [cown (OwnS 3 (roE rdInt)) p v0_0.v R]) := by
 cases hF
 exact Spec_sort ty3.h (Go.Proofs.Any.slices_Sort_int_none lays189) (Go.Proofs.Any.slices_Sort_int lays189)
def g_slices_Compact_int_int (a_x : List Int) : Option (List Int) :=
 some (Lib.compact a_x)
theorem g_slices_Compact_int_int_ok (a_x : List Int) (v0_0 : Sv) (F0_0 : List Nat) (R : List Int) (hF : g_slices_Compact_int_int a_x = some R) :
   Fw.Spec Tryz.prog 200 [v0_0.v] [cown (OwnS 3 (roE rdInt)) F0_0 v0_0.v a_x] (fun p : Sv × List Nat => p.1.v) (fun p => [cown (OwnS 3 (roE rdInt)) p.2 p.1.v R]) := by
 cases hF
 exact Spec_compact ty3.h compact_le rfl (Go.Proofs.Any.slices_Compact_int_empty lays2020) (Go.Proofs.Any.slices_Compact_int lays2020)
def i_termsOf_iIsVar_L2 : List Int → Nat → (List Int) → Option ((List Int))
 | [], k35, c29 => some c29
 | x37 :: rest36, k35, c29 => ((i_IsVar x37).bind fun r48 =>
     if r48 then (
       (app c29 ([x37] : List Int)).bind fun z52 =>
       some z52)
     else (
       some c29)).bind fun o44 =>
   match o44 with
   | c56 => i_termsOf_iIsVar_L2 rest36 (k35 + 1) c56
def i_termsOf_iIsVar_L1 : List Atom → Nat → (List Int) → Option ((List Int))
 | [], k8, c2 => (g_slices_Sort_int_int c2).bind fun r17 =>
   (g_slices_Compact_int_int r17).bind fun r20 =>
   some r20
 | x10 :: rest9, k8, c2 => (i_termsOf_iIsVar_L2 x10.Terms 0 c2).bind fun o23 =>
   match o23 with
   | c61 => i_termsOf_iIsVar_L1 rest9 (k8 + 1) c61
def i_termsOf_iIsVar (a_atoms : List Atom) : Option ((List Int)) :=
 i_termsOf_iIsVar_L1 a_atoms 0 ([] : List Int)
theorem i_termsOf_iIsVar_ok (a_atoms : List Atom) (v0_0 : Sv) (R : (List Int)) (hF : i_termsOf_iIsVar a_atoms = some R) :
   Fw.Spec Tryz.prog 132 [v0_0.v, (.func (.func 252) [].toArray [].toArray)] [crd (RdS 98 rd98) v0_0.v a_atoms] (fun p : Sv × List Nat => p.1.v) (fun p => [cown (OwnS 3 (roE rdInt)) p.2 p.1.v R]) := by
 refine Se 37 Tryz.func132 [.tmp 4] ?_
 intro H0 F0
 unfold i_termsOf_iIsVar at hF
 iterate 4 refine au ?_
 refine C_new rfl (N_buildSliceT (g := true) sl24.h ty3.h .nil (vs := []) rfl rfl rfl (by simp)) (fun k1 => ?_)
 refine Cv1 (.cons .h .nil) (own_lit (Ro := (roE rdInt)) (E := 3) (F := []) (xs := ([] : List Int)) MkL_nil rfl rfl) ?_
 iterate 8 refine au ?_
 refine CW_block (CW_loop (m := a_atoms.length) (fun m6 f' cs' => ∃ (g : Fr) (k8 : Nat) (rest9 : List Atom) (c2 : List Int) (v3 : Sv) (F4 : List Nat), m6 = rest9.length ∧ f' = updL g [(1, (.func (.func 252) [].toArray [].toArray)), (5, v3.v), (11, v0_0.v), (12, (.int .i64 (a_atoms.length : Int))), (13, (.int .i64 (k8 : Int)))] ∧ List.drop k8 a_atoms = rest9 ∧ Ent cs' [cown (OwnS 3 (roE rdInt)) F4 v3.v c2, crd (RdS 98 rd98) v0_0.v a_atoms] ∧ i_termsOf_iIsVar_L1 rest9 k8 c2 = some R) ⟨_, 0, _, _, ⟨(some ⟨k1, 0, none⟩), 0, 1⟩, (k1 :: []), rfl, eqA, rfl, entA, hF⟩ ?_)
 rintro m6 _ _ ⟨g7, k8, rest9, c2, v3, F4, rfl, rfl, hd11, hE, hF⟩
 refine Kb hE a_atoms (fun hbd16 => ?_)
 rcases rest9 with _ | ⟨x10, rest9⟩
 · have hk12 := dn hd11
   rw [i_termsOf_iIsVar_L1] at hF
   iterate 4 refine au ?_
   refine CdF ?_
   iterate 6 refine au ?_
   refine bnd hF fun r17 hx18 hF => Cx1 (g_slices_Sort_int_int_ok _ _ _ _ hx18) (fun p19 => ?_)
   iterate 3 refine au ?_
   refine bnd hF fun r20 hx21 hF => Cx1 (g_slices_Compact_int_int_ok _ _ _ _ hx21) (fun p22 => ?_)
   iterate 3 refine au ?_
   cases hF
   exact Er (p22.1, p22.2)
 obtain ⟨hk12, hx13, hd14⟩ := drop_cons hd11
 rw [i_termsOf_iIsVar_L1] at hF
 iterate 4 refine au ?_
 refine CdT ?_
 refine au ?_
 obtain ⟨o23, hio23, hO24⟩ := bind_some hF
 refine K_cut (fun f' cs' => ∃ (c61 : List Int) (v62 : Sv) (F63 : List Nat) (g : Fr), c61 = o23 ∧ f' = updL g [(1, (.func (.func 252) [].toArray [].toArray)), (5, v62.v), (11, v0_0.v), (12, (.int .i64 (a_atoms.length : Int))), (13, (.int .i64 (k8 : Int)))] ∧ Ent cs' [cown (OwnS 3 (roE rdInt)) F63 v62.v c61, crd (RdS 98 rd98) v0_0.v a_atoms]) ?_ ?_
 · replace hF := hio23
   refine CW_block (K_region (C_idx (a := x10) sl49.h ty98.h.sz (.tmp rfl rfl) (.tmp rfl rfl) (.t .h) (Int.natCast_nonneg k8) hx13 (fun k25 j26 => ?_)))
   refine AlA1 (ul98_0_98 x10) la98_0_98 (fun p27 => ?_)
   refine AnW (fun k28 => ?_)
   refine As (.agg [(.int .i64 x10.Rel), p27.v].toArray) ?_
   iterate 7 refine au ?_
   refine CW_block (CW_loop (m := x10.Terms.length) (fun m33 f' cs' => ∃ (g : Fr) (k35 : Nat) (rest36 : List Int) (c29 : List Int) (v30 : Sv) (F31 : List Nat), m33 = rest36.length ∧ f' = updL g [(1, (.func (.func 252) [].toArray [].toArray)), (5, v30.v), (11, v0_0.v), (12, (.int .i64 (a_atoms.length : Int))), (13, (.int .i64 (k8 : Int))), (18, p27.v), (19, (.int .i64 (x10.Terms.length : Int))), (20, (.int .i64 (k35 : Int)))] ∧ List.drop k35 x10.Terms = rest36 ∧ Ent cs' [cown (OwnS 3 (roE rdInt)) F31 v30.v c29, crd (RdS 98 rd98) v0_0.v a_atoms, crd (RdS 3 rdInt) p27.v x10.Terms] ∧ i_termsOf_iIsVar_L2 rest36 k35 c29 = some o23) ⟨_, 0, _, _, v3, F4, rfl, eqA, rfl, entA, hF⟩ ?_)
   rintro m33 _ _ ⟨g34, k35, rest36, c29, v30, F31, rfl, rfl, hd38, hE, hF⟩
   refine Kb hE x10.Terms (fun hbd43 => ?_)
   rcases rest36 with _ | ⟨x37, rest36⟩
   · have hk39 := dn hd38
     rw [i_termsOf_iIsVar_L2] at hF
     iterate 4 refine au ?_
     refine CdF ?_
     iterate 4 refine au ?_
     cases hF
     exact ⟨_, v30, F31, _, rfl, eqA, entA⟩
   obtain ⟨hk39, hx40, hd41⟩ := drop_cons hd38
   rw [i_termsOf_iIsVar_L2] at hF
   iterate 4 refine au ?_
   refine CdT ?_
   refine au ?_
   obtain ⟨o44, hio44, hO45⟩ := bind_some hF
   refine K_cut (fun f' cs' => ∃ (c56 : List Int) (v57 : Sv) (F58 : List Nat) (g : Fr), c56 = o44 ∧ f' = updL g [(1, (.func (.func 252) [].toArray [].toArray)), (5, v57.v), (11, v0_0.v), (12, (.int .i64 (a_atoms.length : Int))), (13, (.int .i64 (k8 : Int))), (18, p27.v), (19, (.int .i64 (x10.Terms.length : Int))), (20, (.int .i64 (k35 : Int)))] ∧ Ent cs' [cown (OwnS 3 (roE rdInt)) F58 v57.v c56, crd (RdS 98 rd98) v0_0.v a_atoms, crd (RdS 3 rdInt) p27.v x10.Terms]) ?_ ?_
   · replace hF := hio44
     refine CW_block (K_region (C_idx (a := x37) sl24.h ty3.h.sz (.tmp rfl rfl) (.tmp rfl rfl) (.t (.t .h)) (Int.natCast_nonneg k35) hx40 (fun k46 j47 => ?_)))
     refine Al ls3_0 ?_
     iterate 5 refine au ?_
     refine bnd hF fun r48 hx49 hF => C_x0 .nil (X_callCS cf252.h (.tmp rfl rfl) (.cons (.tmp rfl rfl) .nil) (i_IsVar_ok x37 _ hx49)) (fun _ => ?_)
     refine au ?_
     refine Ci hF (fun hb55 hF => ?_) (fun hb55 hF => ?_)
     · iterate 3 refine au ?_
       refine C_new rfl (N_buildSliceT (g := true) sl24.h ty3.h (.cons (.tmp rfl rfl) .nil) (vs := [(.int .i64 x37)]) rfl rfl rfl (by intro v hv; simp at hv; rcases hv with rfl <;> rfl)) (fun k51 => ?_)
       refine Cv1 (.cons .h .nil) (own_lit (Ro := (roE rdInt)) (E := 3) (F := ([] ++ [])) (xs := ([x37] : List Int)) (MkL_cons (Mk_pure (fun _ => rfl)) MkL_nil apps) rfl rfl) ?_
       refine bnd hF fun z52 hx53 hF => C_x1 (.cons (.t (.t .h)) (.cons .h .nil)) (X_appendO (Ro := (roE rdInt)) sl24.h ni24 ty3.h rfl rfl rfl (.tmp rfl rfl) (.tmp rfl rfl) hx53 src_own) (fun p54 => ?_)
       iterate 2 refine au ?_
       cases hF
       exact ⟨_, p54.1, p54.2, _, rfl, eqA, entA⟩
     refine au ?_
     cases hF
     exact ⟨_, v30, F31, _, rfl, eqA, entA⟩
   rintro _ _ ⟨c56, v57, F58, g60, rfl, rfl, hE⟩
   replace hF := hO45
   try dsimp only at hF
   refine K_ent hE ?_
   iterate 4 refine au ?_
   rw [wk k35]
   exact ⟨_, Nat.lt_succ_self _, _, k35 + 1, rest36, _, v57, F58, rfl, eqA, hd41, entA, hF⟩
 rintro _ _ ⟨c61, v62, F63, g65, rfl, rfl, hE⟩
 replace hF := hO24
 try dsimp only at hF
 refine K_ent hE ?_
 iterate 4 refine au ?_
 rw [wk k8]
 exact ⟨_, Nat.lt_succ_self _, _, k8 + 1, rest9, _, v62, F63, rfl, eqA, hd14, entA, hF⟩
def i_VarsOf (a_q : Query) : Option ((List Int)) :=
 (i_termsOf_iIsVar a_q.Atoms).bind fun r2 =>
 some r2
theorem i_VarsOf_ok (a_q : Query) (v0_0 : Sv) (v0_1 : Sv) (R : (List Int)) (hF : i_VarsOf a_q = some R) :
   Fw.Spec Tryz.prog 213 [(.agg [v0_0.v, v0_1.v].toArray)] [crd (RdS 3 rdInt) v0_0.v a_q.Head, crd (RdS 98 rd98) v0_1.v a_q.Atoms] (fun p : Sv × List Nat => p.1.v) (fun p => [cown (OwnS 3 (roE rdInt)) p.2 p.1.v R]) := by
 refine Se 6 Tryz.func213 [.tmp 2] ?_
 intro H0 F0
 unfold i_VarsOf at hF
 refine au ?_
 refine AbR (fun k1 => ?_)
 iterate 5 refine au ?_
 refine bnd hF fun r2 hx3 hF => Cx1 (i_termsOf_iIsVar_ok _ _ _ hx3) (fun p4 => ?_)
 iterate 3 refine au ?_
 cases hF
 exact Er (p4.1, p4.2)
def g_slices_Index_int_int_L1 (a_v : Int) : List Int → Nat → Option (Int)
 | [], k4 => some (-1)
 | x6 :: rest5, k4 => if ((a_v : Int) == x6) then (
     some (k4 : Int))
   else (
     g_slices_Index_int_int_L1 a_v rest5 (k4 + 1))
def g_slices_Index_int_int (a_s : List Int) (a_v : Int) : Option (Int) :=
 g_slices_Index_int_int_L1 a_v a_s 0
theorem g_slices_Index_int_int_ok (a_s : List Int) (v0_0 : Sv) (a_v : Int) (R : Int) (hF : g_slices_Index_int_int a_s a_v = some R) :
   Fw.Spec Tryz.prog 253 [v0_0.v, (.int .i64 a_v)] [crd (RdS 3 rdInt) v0_0.v a_s] (fun _ : Unit => (.int .i64 R)) (fun _ => []) := by
 refine Se 19 Tryz.func253 [.tmp 4] ?_
 intro H0 F0
 unfold g_slices_Index_int_int at hF
 iterate 9 refine au ?_
 refine CW_block (CW_loop (m := a_s.length) (fun m2 f' cs' => ∃ (g : Fr) (k4 : Nat) (rest5 : List Int), m2 = rest5.length ∧ f' = updL g [(0, v0_0.v), (1, (.int .i64 a_v)), (7, (.int .i64 (a_s.length : Int))), (8, (.int .i64 (k4 : Int)))] ∧ List.drop k4 a_s = rest5 ∧ Ent cs' [crd (RdS 3 rdInt) v0_0.v a_s] ∧ g_slices_Index_int_int_L1 a_v rest5 k4 = some R) ⟨_, 0, _, rfl, eqA, rfl, entA, hF⟩ ?_)
 rintro m2 _ _ ⟨g3, k4, rest5, rfl, rfl, hd7, hE, hF⟩
 refine Kb hE a_s (fun hbd12 => ?_)
 rcases rest5 with _ | ⟨x6, rest5⟩
 · have hk8 := dn hd7
   rw [g_slices_Index_int_int_L1] at hF
   iterate 4 refine au ?_
   refine CdF ?_
   iterate 8 refine au ?_
   cases hF
   exact Er ()
 obtain ⟨hk8, hx9, hd10⟩ := drop_cons hd7
 rw [g_slices_Index_int_int_L1] at hF
 iterate 4 refine au ?_
 refine CdT ?_
 iterate 10 refine au ?_
 refine Ai hx9 (fun k13 j14 => ?_)
 refine Al ls3_0 ?_
 iterate 2 refine au ?_
 refine Ci hF (fun hb16 hF => ?_) (fun hb16 hF => ?_)
 · iterate 5 refine au ?_
   cases hF
   exact Er ()
 iterate 5 refine au ?_
 rw [wk k4]
 exact ⟨_, Nat.lt_succ_self _, _, k4 + 1, rest5, rfl, eqA, hd10, entA, hF⟩
def g_slices_Contains_int_int (a_s : List Int) (a_v : Int) : Option (Bool) :=
 (g_slices_Index_int_int a_s a_v).bind fun r1 =>
 some (decide ((0 : Int) ≤ r1))
theorem g_slices_Contains_int_int_ok (a_s : List Int) (v0_0 : Sv) (a_v : Int) (R : Bool) (hF : g_slices_Contains_int_int a_s a_v = some R) :
   Fw.Spec Tryz.prog 215 [v0_0.v, (.int .i64 a_v)] [crd (RdS 3 rdInt) v0_0.v a_s] (fun _ : Unit => (.bool R)) (fun _ => []) := by
 refine Se 9 Tryz.func215 [.tmp 4] ?_
 intro H0 F0
 unfold g_slices_Contains_int_int at hF
 iterate 6 refine au ?_
 refine bnd hF fun r1 hx2 hF => Cx0 (g_slices_Index_int_int_ok _ _ _ _ hx2) (fun _ => ?_)
 iterate 4 refine au ?_
 cases hF
 exact Er ()
def i_hasHead_1 (a_t : Int) (a_e1 : List Int) : Option (Bool) :=
 (g_slices_Contains_int_int a_e1 a_t).bind fun r1 =>
 some (!r1)
theorem i_hasHead_1_ok (a_t : Int) (kc1 : Nat) (a_e1 : List Int) (vc1_0 : Sv) (R : Bool) (hF : i_hasHead_1 a_t a_e1 = some R) :
   Fw.Spec Tryz.prog 214 [(.int .i64 a_t), (pz kc1)] [cboR kc1 24 vc1_0.v, crd (RdS 3 rdInt) vc1_0.v a_e1] (fun _ : Unit => (.bool R)) (fun _ => []) := by
 refine Se 8 Tryz.func214 [.tmp 3] ?_
 intro H0 F0
 unfold i_hasHead_1 at hF
 iterate 6 refine au ?_
 refine bnd hF fun r1 hx2 hF => Cx0 (g_slices_Contains_int_int_ok _ _ _ _ hx2) (fun _ => ?_)
 iterate 4 refine au ?_
 cases hF
 exact Er ()
def g_slices_IndexFunc_int_int_ihasHead1_L1 (a_e1 : List Int) : List Int → Nat → Option (Int)
 | [], k4 => some (-1)
 | x6 :: rest5, k4 => (i_hasHead_1 x6 a_e1).bind fun r15 =>
   if r15 then (
     some (k4 : Int))
   else (
     g_slices_IndexFunc_int_int_ihasHead1_L1 a_e1 rest5 (k4 + 1))
def g_slices_IndexFunc_int_int_ihasHead1 (a_s : List Int) (a_e1 : List Int) : Option (Int) :=
 g_slices_IndexFunc_int_int_ihasHead1_L1 a_e1 a_s 0
theorem g_slices_IndexFunc_int_int_ihasHead1_ok (a_s : List Int) (v0_0 : Sv) (kc1 : Nat) (a_e1 : List Int) (vc1_0 : Sv) (R : Int) (hF : g_slices_IndexFunc_int_int_ihasHead1 a_s a_e1 = some R) :
   Fw.Spec Tryz.prog 114 [v0_0.v, (.func (.func 214) [].toArray [(pz kc1)].toArray)] [crd (RdS 3 rdInt) v0_0.v a_s, cboR kc1 24 vc1_0.v, crd (RdS 3 rdInt) vc1_0.v a_e1] (fun _ : Unit => (.int .i64 R)) (fun _ => []) := by
 refine Se 19 Tryz.func114 [.tmp 4] ?_
 intro H0 F0
 unfold g_slices_IndexFunc_int_int_ihasHead1 at hF
 iterate 9 refine au ?_
 refine CW_block (CW_loop (m := a_s.length) (fun m2 f' cs' => ∃ (g : Fr) (k4 : Nat) (rest5 : List Int), m2 = rest5.length ∧ f' = updL g [(0, v0_0.v), (1, (.func (.func 214) [].toArray [(pz kc1)].toArray)), (7, (.int .i64 (a_s.length : Int))), (8, (.int .i64 (k4 : Int)))] ∧ List.drop k4 a_s = rest5 ∧ Ent cs' [crd (RdS 3 rdInt) v0_0.v a_s, cboR kc1 24 vc1_0.v, crd (RdS 3 rdInt) vc1_0.v a_e1] ∧ g_slices_IndexFunc_int_int_ihasHead1_L1 a_e1 rest5 k4 = some R) ⟨_, 0, _, rfl, eqA, rfl, entA, hF⟩ ?_)
 rintro m2 _ _ ⟨g3, k4, rest5, rfl, rfl, hd7, hE, hF⟩
 refine Kb hE a_s (fun hbd12 => ?_)
 rcases rest5 with _ | ⟨x6, rest5⟩
 · have hk8 := dn hd7
   rw [g_slices_IndexFunc_int_int_ihasHead1_L1] at hF
   iterate 4 refine au ?_
   refine CdF ?_
   iterate 8 refine au ?_
   cases hF
   exact Er ()
 obtain ⟨hk8, hx9, hd10⟩ := drop_cons hd7
 rw [g_slices_IndexFunc_int_int_ihasHead1_L1] at hF
 iterate 4 refine au ?_
 refine CdT ?_
 iterate 10 refine au ?_
 refine Ai hx9 (fun k13 j14 => ?_)
 refine Al ls3_0 ?_
 refine bnd hF fun r15 hx16 hF => C_x0 (.rd (.t (.t .h)) rfl (.rd (.t (.t (.t .h))) rfl .nil)) (X_callCS cf214.h (.tmp rfl rfl) (.cons (.tmp rfl rfl) .nil) (i_hasHead_1_ok x6 kc1 a_e1 vc1_0 _ hx16)) (fun _ => ?_)
 refine au ?_
 refine Ci hF (fun hb19 hF => ?_) (fun hb19 hF => ?_)
 · iterate 5 refine au ?_
   cases hF
   exact Er ()
 iterate 5 refine au ?_
 rw [wk k4]
 exact ⟨_, Nat.lt_succ_self _, _, k4 + 1, rest5, rfl, eqA, hd10, entA, hF⟩
def g_slices_ContainsFunc_int_int_ihasHead1 (a_s : List Int) (a_e1 : List Int) : Option (Bool) :=
 (g_slices_IndexFunc_int_int_ihasHead1 a_s a_e1).bind fun r1 =>
 some (decide ((0 : Int) ≤ r1))
theorem g_slices_ContainsFunc_int_int_ihasHead1_ok (a_s : List Int) (v0_0 : Sv) (kc1 : Nat) (a_e1 : List Int) (vc1_0 : Sv) (R : Bool) (hF : g_slices_ContainsFunc_int_int_ihasHead1 a_s a_e1 = some R) :
   Fw.Spec Tryz.prog 53 [v0_0.v, (.func (.func 214) [].toArray [(pz kc1)].toArray)] [crd (RdS 3 rdInt) v0_0.v a_s, cboR kc1 24 vc1_0.v, crd (RdS 3 rdInt) vc1_0.v a_e1] (fun _ : Unit => (.bool R)) (fun _ => []) := by
 refine Se 9 Tryz.func53 [.tmp 4] ?_
 intro H0 F0
 unfold g_slices_ContainsFunc_int_int_ihasHead1 at hF
 iterate 6 refine au ?_
 refine bnd hF fun r1 hx2 hF => Cx0 (g_slices_IndexFunc_int_int_ihasHead1_ok _ _ _ _ _ _ hx2) (fun _ => ?_)
 iterate 4 refine au ?_
 cases hF
 exact Er ()
def i_hasHead (a_q : Query) : Option (Bool) :=
 (i_VarsOf a_q).bind fun r2 =>
 (bif (decide (((a_q.Head.length : Int) : Int) ≤ 3)) then ((g_slices_ContainsFunc_int_int_ihasHead1 a_q.Head r2).bind fun r11 =>
     some (!r11))
   else (some false)).bind fun o8 =>
 match o8 with
 | c14 => some c14
theorem i_hasHead_ok (a_q : Query) (v0_0 : Sv) (v0_1 : Sv) (R : Bool) (hF : i_hasHead a_q = some R) :
   Fw.Spec Tryz.prog 152 [(.agg [v0_0.v, v0_1.v].toArray)] [crd (RdS 3 rdInt) v0_0.v a_q.Head, crd (RdS 98 rd98) v0_1.v a_q.Atoms] (fun _ : Unit => (.bool R)) (fun _ => []) := by
 refine Se 17 Tryz.func152 [.tmp 2] ?_
 intro H0 F0
 unfold i_hasHead at hF
 refine au ?_
 refine AbR (fun k1 => ?_)
 iterate 4 refine au ?_
 refine bnd hF fun r2 hx3 hF => Cx1 (i_VarsOf_ok _ _ _ _ hx3) (fun p4 => ?_)
 refine AnW (fun k5 => ?_)
 refine As p4.1.v ?_
 refine au ?_
 refine K_frz .h frz_blk ?_
 refine K_frz (.t .h) frz_own ?_
 obtain ⟨o8, hio8, hO9⟩ := bind_some hF
 refine au ?_
 refine C_cut (fun f' cs' => ∃ (c14 : Bool) (g : Fr), c14 = o8 ∧ f' = updL g [(2, (.bool c14))] ∧ Ent cs' []) ?_ ?_
 · replace hF := hio8
   iterate 5 refine au ?_
   rcases Bool.eq_false_or_eq_true (decide (((a_q.Head.length : Int) : Int) ≤ 3)) with hg10 | hg10
   · rw [hg10]
     try rw [hg10] at hF; dsimp only [cond_true, cond_false] at hF
     iterate 5 refine au ?_
     refine C_val (V_makeFunc (fn := .func 214) (vs := []) (us := [(pz k5)]) .nil (.cons (.tmp rfl rfl) .nil)) ?_
     refine au ?_
     refine bnd hF fun r11 hx12 hF => Cx0 (g_slices_ContainsFunc_int_int_ihasHead1_ok _ _ _ _ _ _ hx12) (fun _ => ?_)
     iterate 5 refine au ?_
     cases hF
     exact ⟨_, _, rfl, eqA, entA⟩
   rw [hg10]
   try rw [hg10] at hF; dsimp only [cond_true, cond_false] at hF
   iterate 8 refine au ?_
   cases hF
   exact ⟨_, _, rfl, eqA, entA⟩
 rintro _ _ ⟨c14, g15, rfl, rfl, hE⟩
 replace hF := hO9
 try dsimp only at hF
 refine K_ent hE ?_
 refine au ?_
 cases hF
 exact Er ()
def i_IsQuery (a_s : List Int) (a_q : Query) : Option (Bool) :=
 ((i_IsSchema a_s).bind fun r5 =>
   bif r5 then ((i_within (a_q.Atoms.length : Int) 1 4).bind fun r9 =>
     bif r9 then ((g_slices_ContainsFunc_impl_Atom_impl_Atom_iIsQuery1 a_q.Atoms a_s).bind fun r13 =>
       bif (!r13) then ((i_hasHead a_q).bind fun r17 =>
         some r17)
       else (some false))
     else (some false))
   else (some false)).bind fun o3 =>
 match o3 with
 | c20 => some c20
theorem i_IsQuery_ok (a_s : List Int) (v0_0 : Sv) (a_q : Query) (v1_0 : Sv) (v1_1 : Sv) (R : Bool) (hF : i_IsQuery a_s a_q = some R) :
   Fw.Spec Tryz.prog 87 [v0_0.v, (.agg [v1_0.v, v1_1.v].toArray)] [crd (RdS 3 rdInt) v0_0.v a_s, crd (RdS 3 rdInt) v1_0.v a_q.Head, crd (RdS 98 rd98) v1_1.v a_q.Atoms] (fun _ : Unit => (.bool R)) (fun _ => []) := by
 refine Se 24 Tryz.func87 [.tmp 4] ?_
 intro H0 F0
 unfold i_IsQuery at hF
 refine au ?_
 refine AbR (fun k1 => ?_)
 refine AbR (fun k2 => ?_)
 iterate 2 refine au ?_
 obtain ⟨o3, hio3, hO4⟩ := bind_some hF
 refine au ?_
 refine C_cut (fun f' cs' => ∃ (c20 : Bool) (g : Fr), c20 = o3 ∧ f' = updL g [(4, (.bool c20))] ∧ Ent cs' []) ?_ ?_
 · replace hF := hio3
   refine au ?_
   refine bnd hF fun r5 hx6 hF => Cx0 (i_IsSchema_ok _ _ _ hx6) (fun _ => ?_)
   refine au ?_
   rcases Bool.eq_false_or_eq_true r5 with hg8 | hg8
   · rw [hg8]
     try rw [hg8] at hF; dsimp only [cond_true, cond_false] at hF
     iterate 7 refine au ?_
     refine bnd hF fun r9 hx10 hF => Cx0 (i_within_ok _ _ _ _ hx10) (fun _ => ?_)
     iterate 2 refine au ?_
     rcases Bool.eq_false_or_eq_true r9 with hg12 | hg12
     · rw [hg12]
       try rw [hg12] at hF; dsimp only [cond_true, cond_false] at hF
       iterate 5 refine au ?_
       refine C_val (V_makeFunc (fn := .func 150) (vs := []) (us := [(pz k1)]) .nil (.cons (.tmp rfl rfl) .nil)) ?_
       refine au ?_
       refine bnd hF fun r13 hx14 hF => Cx0 (g_slices_ContainsFunc_impl_Atom_impl_Atom_iIsQuery1_ok _ _ _ _ _ _ hx14) (fun _ => ?_)
       iterate 4 refine au ?_
       rcases Bool.eq_false_or_eq_true (!r13) with hg16 | hg16
       · rw [hg16]
         try rw [hg16] at hF; dsimp only [cond_true, cond_false] at hF
         iterate 3 refine au ?_
         refine bnd hF fun r17 hx18 hF => Cx0 (i_hasHead_ok _ _ _ _ hx18) (fun _ => ?_)
         iterate 3 refine au ?_
         cases hF
         exact ⟨_, _, rfl, eqA, entA⟩
       rw [hg16]
       try rw [hg16] at hF; dsimp only [cond_true, cond_false] at hF
       iterate 5 refine au ?_
       cases hF
       exact ⟨_, _, rfl, eqA, entA⟩
     rw [hg12]
     try rw [hg12] at hF; dsimp only [cond_true, cond_false] at hF
     iterate 12 refine au ?_
     cases hF
     exact ⟨_, _, rfl, eqA, entA⟩
   rw [hg8]
   try rw [hg8] at hF; dsimp only [cond_true, cond_false] at hF
   iterate 18 refine au ?_
   cases hF
   exact ⟨_, _, rfl, eqA, entA⟩
 rintro _ _ ⟨c20, g21, rfl, rfl, hE⟩
 replace hF := hO4
 try dsimp only at hF
 refine K_ent hE ?_
 refine au ?_
 cases hF
 exact Er ()
def i_areAsked (a_s : List Int) (a_l : List Method) (a_q : Query) : Option (Bool) :=
 ((i_AreMethods a_s a_l).bind fun r4 =>
   bif r4 then ((i_IsQuery a_s a_q).bind fun r8 =>
     some r8)
   else (some false)).bind fun o2 =>
 match o2 with
 | c11 => some c11
theorem i_areAsked_ok (a_s : List Int) (v0_0 : Sv) (a_l : List Method) (v1_0 : Sv) (a_q : Query) (v2_0 : Sv) (v2_1 : Sv) (R : Bool) (hF : i_areAsked a_s a_l a_q = some R) :
   Fw.Spec Tryz.prog 65 [v0_0.v, v1_0.v, (.agg [v2_0.v, v2_1.v].toArray)] [crd (RdS 3 rdInt) v0_0.v a_s, crd (RdS 73 rd73) v1_0.v a_l, crd (RdS 3 rdInt) v2_0.v a_q.Head, crd (RdS 98 rd98) v2_1.v a_q.Atoms] (fun _ : Unit => (.bool R)) (fun _ => []) := by
 refine Se 15 Tryz.func65 [.tmp 6] ?_
 intro H0 F0
 unfold i_areAsked at hF
 refine au ?_
 refine AbR (fun k1 => ?_)
 iterate 2 refine au ?_
 obtain ⟨o2, hio2, hO3⟩ := bind_some hF
 refine au ?_
 refine C_cut (fun f' cs' => ∃ (c11 : Bool) (g : Fr), c11 = o2 ∧ f' = updL g [(6, (.bool c11))] ∧ Ent cs' []) ?_ ?_
 · replace hF := hio2
   iterate 2 refine au ?_
   refine bnd hF fun r4 hx5 hF => Cx0 (i_AreMethods_ok _ _ _ _ _ hx5) (fun _ => ?_)
   refine au ?_
   rcases Bool.eq_false_or_eq_true r4 with hg7 | hg7
   · rw [hg7]
     try rw [hg7] at hF; dsimp only [cond_true, cond_false] at hF
     iterate 5 refine au ?_
     refine bnd hF fun r8 hx9 hF => Cx0 (i_IsQuery_ok _ _ _ _ _ _ hx9) (fun _ => ?_)
     iterate 3 refine au ?_
     cases hF
     exact ⟨_, _, rfl, eqA, entA⟩
   rw [hg7]
   try rw [hg7] at hF; dsimp only [cond_true, cond_false] at hF
   iterate 6 refine au ?_
   cases hF
   exact ⟨_, _, rfl, eqA, entA⟩
 rintro _ _ ⟨c11, g12, rfl, rfl, hE⟩
 replace hF := hO3
 try dsimp only at hF
 refine K_ent hE ?_
 refine au ?_
 cases hF
 exact Er ()
def i_areValues_1 (a_n : Int) : Option (Bool) :=
 (i_isValue a_n).bind fun r1 =>
 some (!r1)
theorem i_areValues_1_ok (a_n : Int) (R : Bool) (hF : i_areValues_1 a_n = some R) :
   Fw.Spec Tryz.prog 226 [(.int .i64 a_n)] [] (fun _ : Unit => (.bool R)) (fun _ => []) := by
 refine Se 6 Tryz.func226 [.tmp 2] ?_
 intro H0 F0
 unfold i_areValues_1 at hF
 iterate 5 refine au ?_
 refine bnd hF fun r1 hx2 hF => Cx0 (i_isValue_ok _ _ hx2) (fun _ => ?_)
 iterate 4 refine au ?_
 cases hF
 exact Er ()
def g_slices_IndexFunc_int_int_iareValues1_L1 : List Int → Nat → Option (Int)
 | [], k4 => some (-1)
 | x6 :: rest5, k4 => (i_areValues_1 x6).bind fun r15 =>
   if r15 then (
     some (k4 : Int))
   else (
     g_slices_IndexFunc_int_int_iareValues1_L1 rest5 (k4 + 1))
def g_slices_IndexFunc_int_int_iareValues1 (a_s : List Int) : Option (Int) :=
 g_slices_IndexFunc_int_int_iareValues1_L1 a_s 0
theorem g_slices_IndexFunc_int_int_iareValues1_ok (a_s : List Int) (v0_0 : Sv) (R : Int) (hF : g_slices_IndexFunc_int_int_iareValues1 a_s = some R) :
   Fw.Spec Tryz.prog 114 [v0_0.v, (.func (.func 226) [].toArray [].toArray)] [crd (RdS 3 rdInt) v0_0.v a_s] (fun _ : Unit => (.int .i64 R)) (fun _ => []) := by
 refine Se 19 Tryz.func114 [.tmp 4] ?_
 intro H0 F0
 unfold g_slices_IndexFunc_int_int_iareValues1 at hF
 iterate 9 refine au ?_
 refine CW_block (CW_loop (m := a_s.length) (fun m2 f' cs' => ∃ (g : Fr) (k4 : Nat) (rest5 : List Int), m2 = rest5.length ∧ f' = updL g [(0, v0_0.v), (1, (.func (.func 226) [].toArray [].toArray)), (7, (.int .i64 (a_s.length : Int))), (8, (.int .i64 (k4 : Int)))] ∧ List.drop k4 a_s = rest5 ∧ Ent cs' [crd (RdS 3 rdInt) v0_0.v a_s] ∧ g_slices_IndexFunc_int_int_iareValues1_L1 rest5 k4 = some R) ⟨_, 0, _, rfl, eqA, rfl, entA, hF⟩ ?_)
 rintro m2 _ _ ⟨g3, k4, rest5, rfl, rfl, hd7, hE, hF⟩
 refine Kb hE a_s (fun hbd12 => ?_)
 rcases rest5 with _ | ⟨x6, rest5⟩
 · have hk8 := dn hd7
   rw [g_slices_IndexFunc_int_int_iareValues1_L1] at hF
   iterate 4 refine au ?_
   refine CdF ?_
   iterate 8 refine au ?_
   cases hF
   exact Er ()
 obtain ⟨hk8, hx9, hd10⟩ := drop_cons hd7
 rw [g_slices_IndexFunc_int_int_iareValues1_L1] at hF
 iterate 4 refine au ?_
 refine CdT ?_
 iterate 10 refine au ?_
 refine Ai hx9 (fun k13 j14 => ?_)
 refine Al ls3_0 ?_
 refine bnd hF fun r15 hx16 hF => C_x0 .nil (X_callCS cf226.h (.tmp rfl rfl) (.cons (.tmp rfl rfl) .nil) (i_areValues_1_ok x6 _ hx16)) (fun _ => ?_)
 refine au ?_
 refine Ci hF (fun hb19 hF => ?_) (fun hb19 hF => ?_)
 · iterate 5 refine au ?_
   cases hF
   exact Er ()
 iterate 5 refine au ?_
 rw [wk k4]
 exact ⟨_, Nat.lt_succ_self _, _, k4 + 1, rest5, rfl, eqA, hd10, entA, hF⟩
def g_slices_ContainsFunc_int_int_iareValues1 (a_s : List Int) : Option (Bool) :=
 (g_slices_IndexFunc_int_int_iareValues1 a_s).bind fun r1 =>
 some (decide ((0 : Int) ≤ r1))
theorem g_slices_ContainsFunc_int_int_iareValues1_ok (a_s : List Int) (v0_0 : Sv) (R : Bool) (hF : g_slices_ContainsFunc_int_int_iareValues1 a_s = some R) :
   Fw.Spec Tryz.prog 53 [v0_0.v, (.func (.func 226) [].toArray [].toArray)] [crd (RdS 3 rdInt) v0_0.v a_s] (fun _ : Unit => (.bool R)) (fun _ => []) := by
 refine Se 9 Tryz.func53 [.tmp 4] ?_
 intro H0 F0
 unfold g_slices_ContainsFunc_int_int_iareValues1 at hF
 iterate 6 refine au ?_
 refine bnd hF fun r1 hx2 hF => Cx0 (g_slices_IndexFunc_int_int_iareValues1_ok _ _ _ hx2) (fun _ => ?_)
 iterate 4 refine au ?_
 cases hF
 exact Er ()
def i_areValues (a_l : List Int) : Option (Bool) :=
 (g_slices_ContainsFunc_int_int_iareValues1 a_l).bind fun r1 =>
 some (!r1)
theorem i_areValues_ok (a_l : List Int) (v0_0 : Sv) (R : Bool) (hF : i_areValues a_l = some R) :
   Fw.Spec Tryz.prog 170 [v0_0.v] [crd (RdS 3 rdInt) v0_0.v a_l] (fun _ : Unit => (.bool R)) (fun _ => []) := by
 refine Se 6 Tryz.func170 [.tmp 2] ?_
 intro H0 F0
 unfold i_areValues at hF
 iterate 5 refine au ?_
 refine bnd hF fun r1 hx2 hF => Cx0 (g_slices_ContainsFunc_int_int_iareValues1_ok _ _ _ hx2) (fun _ => ?_)
 iterate 4 refine au ?_
 cases hF
 exact Er ()
def i_IsFact (a_s : List Int) (a_f : Fact) : Option (Bool) :=
 ((i_hasRel a_s a_f.Rel).bind fun r4 =>
   bif r4 then ((ix a_s a_f.Rel).bind fun x8 =>
     bif (((a_f.Values.length : Int) : Int) == x8) then ((i_areValues a_f.Values).bind fun r15 =>
       some r15)
     else (some false))
   else (some false)).bind fun o2 =>
 match o2 with
 | c18 => some c18
theorem i_IsFact_ok (a_s : List Int) (v0_0 : Sv) (a_f : Fact) (v1_1 : Sv) (R : Bool) (hF : i_IsFact a_s a_f = some R) :
   Fw.Spec Tryz.prog 126 [v0_0.v, (.agg [(.int .i64 a_f.Rel), v1_1.v].toArray)] [crd (RdS 3 rdInt) v0_0.v a_s, crd (RdS 3 rdInt) v1_1.v a_f.Values] (fun _ : Unit => (.bool R)) (fun _ => []) := by
 refine Se 25 Tryz.func126 [.tmp 4] ?_
 intro H0 F0
 unfold i_IsFact at hF
 refine au ?_
 refine AbR (fun k1 => ?_)
 iterate 2 refine au ?_
 obtain ⟨o2, hio2, hO3⟩ := bind_some hF
 refine K_draw [0, 1, 2, 3, 4, 5, 6, 7, 8, 9, 10, 11, 12, 13, 14, 15, 16, 17, 18, 19, 20] [0, 0, 2, 7, 15, 31, 63, 127, 31, 31, 543, 1823, 3871, 8191, 16383, 32767, 65535, 131071, 262143, 524287, 1048575] [3, 18] mixed (by decide +kernel) ?_
 refine D_cut (fun f' cs' => ∃ (c18 : Bool) (g : Fr), c18 = o2 ∧ f' = updL g [(4, (.bool c18))] ∧ Ent cs' []) ?_ ?_
 · replace hF := hio2
   iterate 3 refine du ?_
   refine bnd hF fun r4 hx5 hF => Dx0 (i_hasRel_ok _ _ _ _ hx5) (fun _ => ?_)
   refine du ?_
   rcases Bool.eq_false_or_eq_true r4 with hg7 | hg7
   · rw [hg7]
     try rw [hg7] at hF; dsimp only [cond_true, cond_false] at hF
     iterate 6 refine du ?_
     refine bnd hF fun x8 hx9 hF => ?_
     obtain ⟨hp10, hx11⟩ := ix_some hx9
     refine Di hx11 (fun k12 j13 => ?_)
     refine Dl ls3_0 ?_
     iterate 3 refine du ?_
     rcases Bool.eq_false_or_eq_true (((a_f.Values.length : Int) : Int) == x8) with hg14 | hg14
     · rw [hg14]
       try rw [hg14] at hF; dsimp only [cond_true, cond_false] at hF
       iterate 2 refine du ?_
       refine bnd hF fun r15 hx16 hF => Dx0 (i_areValues_ok _ _ _ hx16) (fun _ => ?_)
       iterate 3 refine du ?_
       cases hF
       exact ⟨_, _, rfl, eqA, entA⟩
     rw [hg14]
     try rw [hg14] at hF; dsimp only [cond_true, cond_false] at hF
     iterate 6 refine du ?_
     cases hF
     exact ⟨_, _, rfl, eqA, entA⟩
   rw [hg7]
   try rw [hg7] at hF; dsimp only [cond_true, cond_false] at hF
   iterate 17 refine du ?_
   cases hF
   exact ⟨_, _, rfl, eqA, entA⟩
 rintro _ _ ⟨c18, g19, rfl, rfl, hE⟩
 replace hF := hO3
 try dsimp only at hF
 refine K_ent hE ?_
 refine au ?_
 cases hF
 exact Er ()
def g_cmp_isNaN_int (a_x : Int) : Option (Bool) :=
 some ((a_x : Int) != a_x)
theorem g_cmp_isNaN_int_ok (a_x : Int) (R : Bool) (hF : g_cmp_isNaN_int a_x = some R) :
   Fw.Spec Tryz.prog 228 [(.int .i64 a_x)] [] (fun _ : Unit => (.bool R)) (fun _ => []) := by
 refine Se 6 Tryz.func228 [.tmp 2] ?_
 intro H0 F0
 unfold g_cmp_isNaN_int at hF
 iterate 10 refine au ?_
 cases hF
 exact Er ()
def g_cmp_Compare_int (a_x : Int) (a_y : Int) : Option (Int) :=
 (g_cmp_isNaN_int a_x).bind fun r1 =>
 (g_cmp_isNaN_int a_y).bind fun r4 =>
 if r1 then (
   if r4 then (
     some 0)
   else (
     some (-1)))
 else (
   if r4 then (
     some 1)
   else (
     if (decide ((a_x : Int) < a_y)) then (
       some (-1))
     else (
       if (decide ((a_y : Int) < a_x)) then (
         some 1)
       else (
         some 0))))
theorem g_cmp_Compare_int_ok (a_x : Int) (a_y : Int) (R : Int) (hF : g_cmp_Compare_int a_x a_y = some R) :
   Fw.Spec Tryz.prog 174 [(.int .i64 a_x), (.int .i64 a_y)] [] (fun _ : Unit => (.int .i64 R)) (fun _ => []) := by
 refine Se 20 Tryz.func174 [.tmp 4] ?_
 intro H0 F0
 unfold g_cmp_Compare_int at hF
 iterate 5 refine au ?_
 refine bnd hF fun r1 hx2 hF => Cx0 (g_cmp_isNaN_int_ok _ _ hx2) (fun _ => ?_)
 iterate 4 refine au ?_
 refine bnd hF fun r4 hx5 hF => Cx0 (g_cmp_isNaN_int_ok _ _ hx5) (fun _ => ?_)
 iterate 6 refine au ?_
 refine Ci hF (fun hb11 hF => ?_) (fun hb11 hF => ?_)
 · iterate 4 refine au ?_
   refine Ci hF (fun hb7 hF => ?_) (fun hb7 hF => ?_)
   · iterate 4 refine au ?_
     cases hF
     exact Er ()
   iterate 5 refine au ?_
   cases hF
   exact Er ()
 iterate 5 refine au ?_
 refine Ci hF (fun hb10 hF => ?_) (fun hb10 hF => ?_)
 · iterate 4 refine au ?_
   cases hF
   exact Er ()
 iterate 7 refine au ?_
 refine Ci hF (fun hb9 hF => ?_) (fun hb9 hF => ?_)
 · iterate 4 refine au ?_
   cases hF
   exact Er ()
 iterate 7 refine au ?_
 refine Ci hF (fun hb8 hF => ?_) (fun hb8 hF => ?_)
 · iterate 4 refine au ?_
   cases hF
   exact Er ()
 iterate 5 refine au ?_
 cases hF
 exact Er ()
def g_slices_Compare_int_int_L1 (a_s1 : List Int) (a_s2 : List Int) : List Int → Nat → Option (Int)
 | [], k4 => if (decide (((a_s1.length : Int) : Int) < (a_s2.length : Int))) then (
     some (-1))
   else (
     some 0)
 | x6 :: rest5, k4 => if (decide (((a_s2.length : Int) : Int) ≤ (k4 : Int))) then (
     some 1)
   else (
     (ix a_s2 (k4 : Int)).bind fun x16 =>
     (g_cmp_Compare_int x6 x16).bind fun r22 =>
     if ((r22 : Int) != 0) then (
       some r22)
     else (
       g_slices_Compare_int_int_L1 a_s1 a_s2 rest5 (k4 + 1)))
def g_slices_Compare_int_int (a_s1 : List Int) (a_s2 : List Int) : Option (Int) :=
 g_slices_Compare_int_int_L1 a_s1 a_s2 a_s1 0
theorem g_slices_Compare_int_int_ok (a_s1 : List Int) (v0_0 : Sv) (a_s2 : List Int) (v1_0 : Sv) (R : Int) (hF : g_slices_Compare_int_int a_s1 a_s2 = some R) :
   Fw.Spec Tryz.prog 175 [v0_0.v, v1_0.v] [crd (RdS 3 rdInt) v0_0.v a_s1, crd (RdS 3 rdInt) v1_0.v a_s2] (fun _ : Unit => (.int .i64 R)) (fun _ => []) := by
 refine Se 36 Tryz.func175 [.tmp 4] ?_
 intro H0 F0
 unfold g_slices_Compare_int_int at hF
 iterate 9 refine au ?_
 refine CW_block (CW_loop (m := a_s1.length) (fun m2 f' cs' => ∃ (g : Fr) (k4 : Nat) (rest5 : List Int), m2 = rest5.length ∧ f' = updL g [(0, v0_0.v), (1, v1_0.v), (9, v0_0.v), (10, (.int .i64 (a_s1.length : Int))), (11, (.int .i64 (k4 : Int)))] ∧ List.drop k4 a_s1 = rest5 ∧ Ent cs' [crd (RdS 3 rdInt) v0_0.v a_s1, crd (RdS 3 rdInt) v1_0.v a_s2] ∧ g_slices_Compare_int_int_L1 a_s1 a_s2 rest5 k4 = some R) ⟨_, 0, _, rfl, eqA, rfl, entA, hF⟩ ?_)
 rintro m2 _ _ ⟨g3, k4, rest5, rfl, rfl, hd7, hE, hF⟩
 refine Kb hE a_s1 (fun hbd12 => ?_)
 rcases rest5 with _ | ⟨x6, rest5⟩
 · have hk8 := dn hd7
   rw [g_slices_Compare_int_int_L1] at hF
   iterate 4 refine au ?_
   refine CdF ?_
   iterate 12 refine au ?_
   refine Ci hF (fun hb13 hF => ?_) (fun hb13 hF => ?_)
   · iterate 4 refine au ?_
     cases hF
     exact Er ()
   iterate 5 refine au ?_
   cases hF
   exact Er ()
 obtain ⟨hk8, hx9, hd10⟩ := drop_cons hd7
 rw [g_slices_Compare_int_int_L1] at hF
 iterate 4 refine au ?_
 refine CdT ?_
 iterate 4 refine au ?_
 refine Ai hx9 (fun k14 j15 => ?_)
 refine Al ls3_0 ?_
 iterate 10 refine au ?_
 refine Ci hF (fun hb27 hF => ?_) (fun hb27 hF => ?_)
 · iterate 4 refine au ?_
   cases hF
   exact Er ()
 iterate 4 refine au ?_
 refine bnd hF fun x16 hx17 hF => ?_
 obtain ⟨hp18, hx19⟩ := ix_some hx17
 refine Ai hx19 (fun k20 j21 => ?_)
 refine Al ls3_0 ?_
 iterate 5 refine au ?_
 refine bnd hF fun r22 hx23 hF => Cx0 (g_cmp_Compare_int_ok _ _ _ hx23) (fun _ => ?_)
 iterate 6 refine au ?_
 refine Ci hF (fun hb26 hF => ?_) (fun hb26 hF => ?_)
 · iterate 5 refine au ?_
   cases hF
   exact Er ()
 iterate 5 refine au ?_
 rw [wk k4]
 exact ⟨_, Nat.lt_succ_self _, _, k4 + 1, rest5, rfl, eqA, hd10, entA, hF⟩
def g_cmp_Or_int_L1 : List Int → Nat → Option (Int)
 | [], k4 => some 0
 | x6 :: rest5, k4 => if ((x6 : Int) != 0) then (
     some x6)
   else (
     g_cmp_Or_int_L1 rest5 (k4 + 1))
def g_cmp_Or_int (a_vals : List Int) : Option (Int) :=
 g_cmp_Or_int_L1 a_vals 0
theorem g_cmp_Or_int_ok (a_vals : List Int) (v0_0 : Sv) (R : Int) (hF : g_cmp_Or_int a_vals = some R) :
   Fw.Spec Tryz.prog 173 [v0_0.v] [crd (RdS 3 rdInt) v0_0.v a_vals] (fun _ : Unit => (.int .i64 R)) (fun _ => []) := by
 refine Se 18 Tryz.func173 [.tmp 2] ?_
 intro H0 F0
 unfold g_cmp_Or_int at hF
 iterate 12 refine au ?_
 refine CW_block (CW_loop (m := a_vals.length) (fun m2 f' cs' => ∃ (g : Fr) (k4 : Nat) (rest5 : List Int), m2 = rest5.length ∧ f' = updL g [(3, (.int .i64 0)), (6, v0_0.v), (7, (.int .i64 (a_vals.length : Int))), (8, (.int .i64 (k4 : Int)))] ∧ List.drop k4 a_vals = rest5 ∧ Ent cs' [crd (RdS 3 rdInt) v0_0.v a_vals] ∧ g_cmp_Or_int_L1 rest5 k4 = some R) ⟨_, 0, _, rfl, eqA, rfl, entA, hF⟩ ?_)
 rintro m2 _ _ ⟨g3, k4, rest5, rfl, rfl, hd7, hE, hF⟩
 refine Kb hE a_vals (fun hbd12 => ?_)
 rcases rest5 with _ | ⟨x6, rest5⟩
 · have hk8 := dn hd7
   rw [g_cmp_Or_int_L1] at hF
   iterate 4 refine au ?_
   refine CdF ?_
   iterate 9 refine au ?_
   cases hF
   exact Er ()
 obtain ⟨hk8, hx9, hd10⟩ := drop_cons hd7
 rw [g_cmp_Or_int_L1] at hF
 iterate 4 refine au ?_
 refine CdT ?_
 iterate 3 refine au ?_
 refine Ai hx9 (fun k13 j14 => ?_)
 refine Al ls3_0 ?_
 iterate 7 refine au ?_
 refine Ci hF (fun hb16 hF => ?_) (fun hb16 hF => ?_)
 · iterate 5 refine au ?_
   cases hF
   exact Er ()
 iterate 5 refine au ?_
 rw [wk k4]
 exact ⟨_, Nat.lt_succ_self _, _, k4 + 1, rest5, rfl, eqA, hd10, entA, hF⟩
def i_CompareFacts (a_a : Fact) (a_b : Fact) : Option (Int) :=
 (g_cmp_Compare_int a_a.Rel a_b.Rel).bind fun r3 =>
 (g_slices_Compare_int_int a_a.Values a_b.Values).bind fun r6 =>
 (g_cmp_Or_int ([r3, r6] : List Int)).bind fun r10 =>
 some r10
theorem i_CompareFacts_ok (a_a : Fact) (v0_1 : Sv) (a_b : Fact) (v1_1 : Sv) (R : Int) (hF : i_CompareFacts a_a a_b = some R) :
   Fw.Spec Tryz.prog 101 [(.agg [(.int .i64 a_a.Rel), v0_1.v].toArray), (.agg [(.int .i64 a_b.Rel), v1_1.v].toArray)] [crd (RdS 3 rdInt) v0_1.v a_a.Values, crd (RdS 3 rdInt) v1_1.v a_b.Values] (fun _ : Unit => (.int .i64 R)) (fun _ => []) := by
 refine Se 17 Tryz.func101 [.tmp 4] ?_
 intro H0 F0
 unfold i_CompareFacts at hF
 refine au ?_
 refine AbR (fun k1 => ?_)
 refine AbR (fun k2 => ?_)
 iterate 2 refine au ?_
 refine K_draw [0, 1, 2, 3, 5, 6, 7, 8, 4, 9, 10, 11, 12] [0, 1, 0, 4, 15, 0, 32, 0, 128, 511, 1023, 2047, 4095] [4, 9, 11] mixed (by decide +kernel) ?_
 iterate 8 refine du ?_
 refine bnd hF fun r3 hx4 hF => Dx0 (g_cmp_Compare_int_ok _ _ _ hx4) (fun _ => ?_)
 refine bnd hF fun r6 hx7 hF => Dx0 (g_slices_Compare_int_int_ok _ _ _ _ _ hx7) (fun _ => ?_)
 refine D_new rfl .no rfl (fun ha => N_buildSliceT (g := true) (len := 2) (parts := [(0, .tmp 9), (1, .tmp 14)]) sl24.h ty3.h (.cons (EN ha (.tmp rfl rfl) rfl) (.cons (EN ha (.tmp rfl rfl) rfl) .nil)) (vs := [(.int .i64 r3), (.int .i64 r6)]) rfl rfl rfl (by intro v hv; simp at hv; rcases hv with rfl | rfl <;> rfl)) (fun k9 => ?_)
 refine Dv1 (.cons .h .nil) (own_lit (Ro := (roE rdInt)) (E := 3) (F := ([] ++ ([] ++ []))) (xs := ([r3, r6] : List Int)) (MkL_cons (Mk_pure (fun _ => rfl)) (MkL_cons (Mk_pure (fun _ => rfl)) MkL_nil apps) apps) rfl rfl) ?_
 refine bnd hF fun r10 hx11 hF => D_act1 rfl rfl .no (.cons .h .nil) (.dep rfl .nil) (fun ha => XC_bor frz_own (fun _ => .nil) (X_callS cf173.h (.cons (EN ha (.tmp rfl rfl) rfl) .nil) (g_cmp_Or_int_ok ([r3, r6] : List Int) (⟨(some ⟨k9, 0, none⟩), 2, 1⟩) _ hx11))) (fun _ => ?_)
 iterate 2 refine du ?_
 refine au ?_
 cases hF
 exact Er ()
def i_AreFacts_L1 (a_s : List Int) (a_l : List Fact) : List Fact → Nat → Option (Bool)
 | [], k4 => ((i_IsSchema a_s).bind fun r15 =>
     bif r15 then (some (decide (((a_l.length : Int) : Int) ≤ 24)))
     else (some false)).bind fun o13 =>
   match o13 with
   | c19 => some c19
 | x6 :: rest5, k4 => ((i_IsFact a_s x6).bind fun r27 =>
     bif (!r27) then (some true)
     else (bif (decide ((0 : Int) < (k4 : Int))) then ((ix a_l (IntKind.i64.wrap ((k4 : Int) - 1))).bind fun x32 =>
         (i_CompareFacts x32 x6).bind fun r39 =>
         some (decide ((0 : Int) ≤ r39)))
       else (some false))).bind fun o25 =>
   match o25 with
   | c42 => if c42 then (
       some false)
     else (
       i_AreFacts_L1 a_s a_l rest5 (k4 + 1))
def i_AreFacts (a_s : List Int) (a_l : List Fact) : Option (Bool) :=
 i_AreFacts_L1 a_s a_l a_l 0
theorem i_AreFacts_ok (a_s : List Int) (v0_0 : Sv) (a_l : List Fact) (v1_0 : Sv) (R : Bool) (hF : i_AreFacts a_s a_l = some R) :
   Fw.Spec Tryz.prog 66 [v0_0.v, v1_0.v] [crd (RdS 3 rdInt) v0_0.v a_s, crd (RdS 86 rd86) v1_0.v a_l] (fun _ : Unit => (.bool R)) (fun _ => []) := by
 refine Se 40 Tryz.func66 [.tmp 4] ?_
 intro H0 F0
 unfold i_AreFacts at hF
 iterate 9 refine au ?_
 refine CW_block (CW_loop (m := a_l.length) (fun m2 f' cs' => ∃ (g : Fr) (k4 : Nat) (rest5 : List Fact), m2 = rest5.length ∧ f' = updL g [(0, v0_0.v), (1, v1_0.v), (7, v1_0.v), (8, (.int .i64 (a_l.length : Int))), (9, (.int .i64 (k4 : Int)))] ∧ List.drop k4 a_l = rest5 ∧ Ent cs' [crd (RdS 3 rdInt) v0_0.v a_s, crd (RdS 86 rd86) v1_0.v a_l] ∧ i_AreFacts_L1 a_s a_l rest5 k4 = some R) ⟨_, 0, _, rfl, eqA, rfl, entA, hF⟩ ?_)
 rintro m2 _ _ ⟨g3, k4, rest5, rfl, rfl, hd7, hE, hF⟩
 refine Kb hE a_l (fun hbd12 => ?_)
 rcases rest5 with _ | ⟨x6, rest5⟩
 · have hk8 := dn hd7
   rw [i_AreFacts_L1] at hF
   iterate 4 refine au ?_
   refine CdF ?_
   iterate 4 refine au ?_
   obtain ⟨o13, hio13, hO14⟩ := bind_some hF
   refine au ?_
   refine C_cut (fun f' cs' => ∃ (c19 : Bool) (g : Fr), c19 = o13 ∧ f' = updL g [(4, (.bool c19))] ∧ Ent cs' []) ?_ ?_
   · replace hF := hio13
     refine au ?_
     refine bnd hF fun r15 hx16 hF => Cx0 (i_IsSchema_ok _ _ _ hx16) (fun _ => ?_)
     refine au ?_
     rcases Bool.eq_false_or_eq_true r15 with hg18 | hg18
     · rw [hg18]
       try rw [hg18] at hF; dsimp only [cond_true, cond_false] at hF
       iterate 9 refine au ?_
       cases hF
       exact ⟨_, _, rfl, eqA, entA⟩
     rw [hg18]
     try rw [hg18] at hF; dsimp only [cond_true, cond_false] at hF
     iterate 6 refine au ?_
     cases hF
     exact ⟨_, _, rfl, eqA, entA⟩
   rintro _ _ ⟨c19, g20, rfl, rfl, hE⟩
   replace hF := hO14
   try dsimp only at hF
   refine K_ent hE ?_
   refine au ?_
   cases hF
   exact Er ()
 obtain ⟨hk8, hx9, hd10⟩ := drop_cons hd7
 rw [i_AreFacts_L1] at hF
 iterate 4 refine au ?_
 refine CdT ?_
 iterate 4 refine au ?_
 refine Ai hx9 (fun k21 j22 => ?_)
 refine AlA1 (ul86_0_86 x6) la86_0_86 (fun p23 => ?_)
 refine AnW (fun k24 => ?_)
 refine au ?_
 refine As (.agg [(.int .i64 x6.Rel), p23.v].toArray) ?_
 refine au ?_
 obtain ⟨o25, hio25, hO26⟩ := bind_some hF
 refine K_draw [0, 1, 2, 3, 4, 5, 6, 7, 8, 9, 10, 11, 12, 13, 14, 15, 16, 17] [0, 0, 3, 7, 15, 31, 63, 127, 255, 255, 767, 2047, 4095, 255, 16383, 32767, 65535, 131071] [2, 14] mixed (by decide +kernel) ?_
 refine D_cut (fun f' cs' => ∃ (c42 : Bool) (g : Fr), c42 = o25 ∧ f' = updL g [(0, v0_0.v), (1, v1_0.v), (7, v1_0.v), (8, (.int .i64 (a_l.length : Int))), (9, (.int .i64 (k4 : Int))), (31, (.bool c42))] ∧ Ent cs' [crd (RdS 3 rdInt) v0_0.v a_s, crd (RdS 86 rd86) v1_0.v a_l]) ?_ ?_
 · replace hF := hio25
   refine du ?_
   refine D_atO rfl .no .h (fun ha hp => V_loadBox ag86.h ty86.h.sz rfl (EN ha (.tmp rfl rfl) rfl) hp.2 rfl) ?_
   refine bnd hF fun r27 hx28 hF => Dx0 (i_IsFact_ok _ _ _ _ _ hx28) (fun _ => ?_)
   iterate 2 refine du ?_
   rcases Bool.eq_false_or_eq_true (!r27) with hg30 | hg30
   · rw [hg30]
     try rw [hg30] at hF; dsimp only [cond_true, cond_false] at hF
     iterate 14 refine du ?_
     cases hF
     exact ⟨_, _, rfl, eqA, entA⟩
   rw [hg30]
   try rw [hg30] at hF; dsimp only [cond_true, cond_false] at hF
   iterate 3 refine du ?_
   rcases Bool.eq_false_or_eq_true (decide ((0 : Int) < (k4 : Int))) with hg31 | hg31
   · rw [hg31]
     try rw [hg31] at hF; dsimp only [cond_true, cond_false] at hF
     iterate 3 refine du ?_
     refine bnd hF fun x32 hx33 hF => ?_
     obtain ⟨hp34, hx35⟩ := ix_some hx33
     refine Di hx35 (fun k36 j37 => ?_)
     refine DlA1 (ul86_0_86 x32) la86_0_86 (fun p38 => ?_)
     refine D_atO rfl (.on 21 rfl rfl rfl) (.t (.t .h)) (fun ha hp => V_loadBox ag86.h ty86.h.sz rfl (EN ha (.tmp rfl rfl) rfl) hp.2 rfl) ?_
     refine bnd hF fun r39 hx40 hF => Dx0 (i_CompareFacts_ok _ _ _ _ _ hx40) (fun _ => ?_)
     iterate 4 refine du ?_
     cases hF
     exact ⟨_, _, rfl, eqA, entA⟩
   rw [hg31]
   try rw [hg31] at hF; dsimp only [cond_true, cond_false] at hF
   iterate 11 refine du ?_
   cases hF
   exact ⟨_, _, rfl, eqA, entA⟩
 rintro _ _ ⟨c42, g45, rfl, rfl, hE⟩
 replace hF := hO26
 try dsimp only at hF
 refine K_ent hE ?_
 refine Ci hF (fun hb44 hF => ?_) (fun hb44 hF => ?_)
 · iterate 4 refine au ?_
   cases hF
   exact Er ()
 iterate 5 refine au ?_
 rw [wk k4]
 exact ⟨_, Nat.lt_succ_self _, _, k4 + 1, rest5, rfl, eqA, hd10, entA, hF⟩
def i_termsOf_iisValue_L2 : List Int → Nat → (List Int) → Option ((List Int))
 | [], k35, c29 => some c29
 | x37 :: rest36, k35, c29 => ((i_isValue x37).bind fun r48 =>
     if r48 then (
       (app c29 ([x37] : List Int)).bind fun z52 =>
       some z52)
     else (
       some c29)).bind fun o44 =>
   match o44 with
   | c56 => i_termsOf_iisValue_L2 rest36 (k35 + 1) c56
def i_termsOf_iisValue_L1 : List Atom → Nat → (List Int) → Option ((List Int))
 | [], k8, c2 => (g_slices_Sort_int_int c2).bind fun r17 =>
   (g_slices_Compact_int_int r17).bind fun r20 =>
   some r20
 | x10 :: rest9, k8, c2 => (i_termsOf_iisValue_L2 x10.Terms 0 c2).bind fun o23 =>
   match o23 with
   | c61 => i_termsOf_iisValue_L1 rest9 (k8 + 1) c61
def i_termsOf_iisValue (a_atoms : List Atom) : Option ((List Int)) :=
 i_termsOf_iisValue_L1 a_atoms 0 ([] : List Int)
theorem i_termsOf_iisValue_ok (a_atoms : List Atom) (v0_0 : Sv) (R : (List Int)) (hF : i_termsOf_iisValue a_atoms = some R) :
   Fw.Spec Tryz.prog 132 [v0_0.v, (.func (.func 133) [].toArray [].toArray)] [crd (RdS 98 rd98) v0_0.v a_atoms] (fun p : Sv × List Nat => p.1.v) (fun p => [cown (OwnS 3 (roE rdInt)) p.2 p.1.v R]) := by
 refine Se 37 Tryz.func132 [.tmp 4] ?_
 intro H0 F0
 unfold i_termsOf_iisValue at hF
 iterate 4 refine au ?_
 refine C_new rfl (N_buildSliceT (g := true) sl24.h ty3.h .nil (vs := []) rfl rfl rfl (by simp)) (fun k1 => ?_)
 refine Cv1 (.cons .h .nil) (own_lit (Ro := (roE rdInt)) (E := 3) (F := []) (xs := ([] : List Int)) MkL_nil rfl rfl) ?_
 iterate 8 refine au ?_
 refine CW_block (CW_loop (m := a_atoms.length) (fun m6 f' cs' => ∃ (g : Fr) (k8 : Nat) (rest9 : List Atom) (c2 : List Int) (v3 : Sv) (F4 : List Nat), m6 = rest9.length ∧ f' = updL g [(1, (.func (.func 133) [].toArray [].toArray)), (5, v3.v), (11, v0_0.v), (12, (.int .i64 (a_atoms.length : Int))), (13, (.int .i64 (k8 : Int)))] ∧ List.drop k8 a_atoms = rest9 ∧ Ent cs' [cown (OwnS 3 (roE rdInt)) F4 v3.v c2, crd (RdS 98 rd98) v0_0.v a_atoms] ∧ i_termsOf_iisValue_L1 rest9 k8 c2 = some R) ⟨_, 0, _, _, ⟨(some ⟨k1, 0, none⟩), 0, 1⟩, (k1 :: []), rfl, eqA, rfl, entA, hF⟩ ?_)
 rintro m6 _ _ ⟨g7, k8, rest9, c2, v3, F4, rfl, rfl, hd11, hE, hF⟩
 refine Kb hE a_atoms (fun hbd16 => ?_)
 rcases rest9 with _ | ⟨x10, rest9⟩
 · have hk12 := dn hd11
   rw [i_termsOf_iisValue_L1] at hF
   iterate 4 refine au ?_
   refine CdF ?_
   iterate 6 refine au ?_
   refine bnd hF fun r17 hx18 hF => Cx1 (g_slices_Sort_int_int_ok _ _ _ _ hx18) (fun p19 => ?_)
   iterate 3 refine au ?_
   refine bnd hF fun r20 hx21 hF => Cx1 (g_slices_Compact_int_int_ok _ _ _ _ hx21) (fun p22 => ?_)
   iterate 3 refine au ?_
   cases hF
   exact Er (p22.1, p22.2)
 obtain ⟨hk12, hx13, hd14⟩ := drop_cons hd11
 rw [i_termsOf_iisValue_L1] at hF
 iterate 4 refine au ?_
 refine CdT ?_
 refine au ?_
 obtain ⟨o23, hio23, hO24⟩ := bind_some hF
 refine K_cut (fun f' cs' => ∃ (c61 : List Int) (v62 : Sv) (F63 : List Nat) (g : Fr), c61 = o23 ∧ f' = updL g [(1, (.func (.func 133) [].toArray [].toArray)), (5, v62.v), (11, v0_0.v), (12, (.int .i64 (a_atoms.length : Int))), (13, (.int .i64 (k8 : Int)))] ∧ Ent cs' [cown (OwnS 3 (roE rdInt)) F63 v62.v c61, crd (RdS 98 rd98) v0_0.v a_atoms]) ?_ ?_
 · replace hF := hio23
   refine CW_block (K_region (C_idx (a := x10) sl49.h ty98.h.sz (.tmp rfl rfl) (.tmp rfl rfl) (.t .h) (Int.natCast_nonneg k8) hx13 (fun k25 j26 => ?_)))
   refine AlA1 (ul98_0_98 x10) la98_0_98 (fun p27 => ?_)
   refine AnW (fun k28 => ?_)
   refine As (.agg [(.int .i64 x10.Rel), p27.v].toArray) ?_
   iterate 7 refine au ?_
   refine CW_block (CW_loop (m := x10.Terms.length) (fun m33 f' cs' => ∃ (g : Fr) (k35 : Nat) (rest36 : List Int) (c29 : List Int) (v30 : Sv) (F31 : List Nat), m33 = rest36.length ∧ f' = updL g [(1, (.func (.func 133) [].toArray [].toArray)), (5, v30.v), (11, v0_0.v), (12, (.int .i64 (a_atoms.length : Int))), (13, (.int .i64 (k8 : Int))), (18, p27.v), (19, (.int .i64 (x10.Terms.length : Int))), (20, (.int .i64 (k35 : Int)))] ∧ List.drop k35 x10.Terms = rest36 ∧ Ent cs' [cown (OwnS 3 (roE rdInt)) F31 v30.v c29, crd (RdS 98 rd98) v0_0.v a_atoms, crd (RdS 3 rdInt) p27.v x10.Terms] ∧ i_termsOf_iisValue_L2 rest36 k35 c29 = some o23) ⟨_, 0, _, _, v3, F4, rfl, eqA, rfl, entA, hF⟩ ?_)
   rintro m33 _ _ ⟨g34, k35, rest36, c29, v30, F31, rfl, rfl, hd38, hE, hF⟩
   refine Kb hE x10.Terms (fun hbd43 => ?_)
   rcases rest36 with _ | ⟨x37, rest36⟩
   · have hk39 := dn hd38
     rw [i_termsOf_iisValue_L2] at hF
     iterate 4 refine au ?_
     refine CdF ?_
     iterate 4 refine au ?_
     cases hF
     exact ⟨_, v30, F31, _, rfl, eqA, entA⟩
   obtain ⟨hk39, hx40, hd41⟩ := drop_cons hd38
   rw [i_termsOf_iisValue_L2] at hF
   iterate 4 refine au ?_
   refine CdT ?_
   refine au ?_
   obtain ⟨o44, hio44, hO45⟩ := bind_some hF
   refine K_cut (fun f' cs' => ∃ (c56 : List Int) (v57 : Sv) (F58 : List Nat) (g : Fr), c56 = o44 ∧ f' = updL g [(1, (.func (.func 133) [].toArray [].toArray)), (5, v57.v), (11, v0_0.v), (12, (.int .i64 (a_atoms.length : Int))), (13, (.int .i64 (k8 : Int))), (18, p27.v), (19, (.int .i64 (x10.Terms.length : Int))), (20, (.int .i64 (k35 : Int)))] ∧ Ent cs' [cown (OwnS 3 (roE rdInt)) F58 v57.v c56, crd (RdS 98 rd98) v0_0.v a_atoms, crd (RdS 3 rdInt) p27.v x10.Terms]) ?_ ?_
   · replace hF := hio44
     refine CW_block (K_region (C_idx (a := x37) sl24.h ty3.h.sz (.tmp rfl rfl) (.tmp rfl rfl) (.t (.t .h)) (Int.natCast_nonneg k35) hx40 (fun k46 j47 => ?_)))
     refine Al ls3_0 ?_
     iterate 5 refine au ?_
     refine bnd hF fun r48 hx49 hF => C_x0 .nil (X_callCS cf133.h (.tmp rfl rfl) (.cons (.tmp rfl rfl) .nil) (i_isValue_ok x37 _ hx49)) (fun _ => ?_)
     refine au ?_
     refine Ci hF (fun hb55 hF => ?_) (fun hb55 hF => ?_)
     · iterate 3 refine au ?_
       refine C_new rfl (N_buildSliceT (g := true) sl24.h ty3.h (.cons (.tmp rfl rfl) .nil) (vs := [(.int .i64 x37)]) rfl rfl rfl (by intro v hv; simp at hv; rcases hv with rfl <;> rfl)) (fun k51 => ?_)
       refine Cv1 (.cons .h .nil) (own_lit (Ro := (roE rdInt)) (E := 3) (F := ([] ++ [])) (xs := ([x37] : List Int)) (MkL_cons (Mk_pure (fun _ => rfl)) MkL_nil apps) rfl rfl) ?_
       refine bnd hF fun z52 hx53 hF => C_x1 (.cons (.t (.t .h)) (.cons .h .nil)) (X_appendO (Ro := (roE rdInt)) sl24.h ni24 ty3.h rfl rfl rfl (.tmp rfl rfl) (.tmp rfl rfl) hx53 src_own) (fun p54 => ?_)
       iterate 2 refine au ?_
       cases hF
       exact ⟨_, p54.1, p54.2, _, rfl, eqA, entA⟩
     refine au ?_
     cases hF
     exact ⟨_, v30, F31, _, rfl, eqA, entA⟩
   rintro _ _ ⟨c56, v57, F58, g60, rfl, rfl, hE⟩
   replace hF := hO45
   try dsimp only at hF
   refine K_ent hE ?_
   iterate 4 refine au ?_
   rw [wk k35]
   exact ⟨_, Nat.lt_succ_self _, _, k35 + 1, rest36, _, v57, F58, rfl, eqA, hd41, entA, hF⟩
 rintro _ _ ⟨c61, v62, F63, g65, rfl, rfl, hE⟩
 replace hF := hO24
 try dsimp only at hF
 refine K_ent hE ?_
 iterate 4 refine au ?_
 rw [wk k8]
 exact ⟨_, Nat.lt_succ_self _, _, k8 + 1, rest9, _, v62, F63, rfl, eqA, hd14, entA, hF⟩
def i_ConstantsOf (a_q : Query) : Option ((List Int)) :=
 (i_termsOf_iisValue a_q.Atoms).bind fun r2 =>
 some r2
theorem i_ConstantsOf_ok (a_q : Query) (v0_0 : Sv) (v0_1 : Sv) (R : (List Int)) (hF : i_ConstantsOf a_q = some R) :
   Fw.Spec Tryz.prog 69 [(.agg [v0_0.v, v0_1.v].toArray)] [crd (RdS 3 rdInt) v0_0.v a_q.Head, crd (RdS 98 rd98) v0_1.v a_q.Atoms] (fun p : Sv × List Nat => p.1.v) (fun p => [cown (OwnS 3 (roE rdInt)) p.2 p.1.v R]) := by
 refine Se 6 Tryz.func69 [.tmp 2] ?_
 intro H0 F0
 unfold i_ConstantsOf at hF
 refine au ?_
 refine AbR (fun k1 => ?_)
 iterate 5 refine au ?_
 refine bnd hF fun r2 hx3 hF => Cx1 (i_termsOf_iisValue_ok _ _ _ hx3) (fun p4 => ?_)
 iterate 3 refine au ?_
 cases hF
 exact Er (p4.1, p4.2)
def g_slices_Grow_int_int_nil (a_n : Int) : Option (List Int) :=
 if 0 ≤ a_n ∧ a_n < 4294967296 then some [] else none
theorem g_slices_Grow_int_int_nil_ok (a_n : Int) (R : List Int) (hF : g_slices_Grow_int_int_nil a_n = some R) :
   Fw.Spec Tryz.prog 274 [(.slice none 0 0), .int .i64 a_n] [] (fun p : Sv × List Nat => p.1.v) (fun p => [cown (OwnS 3 (roE rdInt)) p.2 p.1.v R]) := by
 unfold g_slices_Grow_int_int_nil at hF
 split at hF
 · rename_i h
   obtain ⟨h0, h1⟩ := h
   cases hF
   obtain ⟨q, rfl⟩ : ∃ q : Nat, a_n = (q : Int) := ⟨a_n.toNat, by omega⟩
   have w0 : IntKind.i64.wrap ((0 : Int) - ((0 : Nat) : Int)) = 0 := by decide
   have w1 : IntKind.i64.wrap ((q : Int) - 0) = (q : Int) := by rw [wrap_in (by omega) (by omega)]; omega
   refine Spec_enter (n := 27) Tryz.func274 rfl rfl (rs := [.tmp 4]) rfl rfl rfl ?_
   intro H0 F0
   iterate 8 refine au ?_
   refine CW_cond (b := (decide ((q : Int) < 0))) (.tmp rfl rfl) (fun hb => absurd hb (by simp only [decide_eq_true_eq]; omega)) (fun _ => ?_)
   iterate 5 refine au ?_
   refine C_val (V_capNil sl24.h (.tmp rfl rfl)) ?_
   refine au ?_
   refine C_val (V_lenR (l := 0) sl24.h (.tmp rfl rfl) ⟨none, 0, rfl⟩) ?_
   refine au ?_
   rw [w0]
   refine au ?_
   rw [w1]
   iterate 6 refine au ?_
   refine CW_cond (b := (decide ((0 : Int) < (q : Int)))) (.tmp rfl rfl) (fun hb => ?_) (fun hb => ?_)
   · have hq : 0 < q := by simp only [decide_eq_true_eq] at hb; omega
     iterate 3 refine au ?_
     refine C_val (V_capNil sl24.h (.tmp rfl rfl)) ?_
     refine C_val (V_sliceNilHi sl24.h ty3.h.sz (.tmp rfl rfl) (.tmp rfl rfl)) ?_
     refine au ?_
     refine C_x1 .nil (X_growNil (Ro := (roE rdInt)) (E := 3) sl24.h ik3 ty3.h rfl rfl rfl (by exact .tmp rfl rfl) (by exact .tmp rfl rfl) hq (by omega)) (fun k => ?_)
     refine au ?_
     refine C_val (V_lenR (l := 0) sl24.h (.tmp rfl rfl) ⟨none, 0, rfl⟩) ?_
     refine C_sliceHiD (i := ((0 : Nat) : Int)) sl24.h ty3.h.sz (by exact .tmp rfl rfl) (.inr rfl) (by exact .tmp rfl rfl) .h rfl (by omega) (by omega) (by omega) ?_
     iterate 7 refine au ?_
     exact End_ret (⟨some ⟨k, 0, none⟩, 0, 2⟩, [k]) (.tmp rfl rfl .nil) rfl (.sel (.cons .h .nil))
   · iterate 6 refine au ?_
     exact End_ret (⟨none, 0, 0⟩, []) (.tmp rfl rfl .nil) rfl (.conv .nil (own_nil (Ro := (roE rdInt)) (E := 3)) (.cons .nil) (.sel (.cons .h .nil)))
 · simp at hF
def g_slices_Concat_int_int_L2 : List (List Int) → Nat → (List Int) → Option ((List Int))
 | [], k23, c17 => some c17
 | x25 :: rest24, k23, c17 => (app c17 x25).bind fun z35 =>
   g_slices_Concat_int_int_L2 rest24 (k23 + 1) z35
def g_slices_Concat_int_int_L1 (a_slices : List (List Int)) : List (List Int) → Nat → Int → Option ((List Int))
 | [], k5, c1 => (g_slices_Grow_int_int_nil c1).bind fun r14 =>
   g_slices_Concat_int_int_L2 a_slices 0 r14
 | x7 :: rest6, k5, c1 => (if (decide (((IntKind.i64.wrap (c1 + (x7.length : Int))) : Int) < 0)) then (
       none)
     else (
       some ())).bind fun o39 =>
   match o39 with
   | _ => g_slices_Concat_int_int_L1 a_slices rest6 (k5 + 1) (IntKind.i64.wrap (c1 + (x7.length : Int)))
def g_slices_Concat_int_int (a_slices : List (List Int)) : Option ((List Int)) :=
 g_slices_Concat_int_int_L1 a_slices a_slices 0 0
theorem g_slices_Concat_int_int_ok (a_slices : List (List Int)) (v0_0 : Sv) (R : (List Int)) (hF : g_slices_Concat_int_int a_slices = some R) :
   Fw.Spec Tryz.prog 240 [v0_0.v] [crd (RdS 24 (RdS 3 rdInt)) v0_0.v a_slices] (fun p : Sv × List Nat => p.1.v) (fun p => [cown (OwnS 3 (roE rdInt)) p.2 p.1.v R]) := by
 refine Se 36 Tryz.func240 [.tmp 2] ?_
 intro H0 F0
 unfold g_slices_Concat_int_int at hF
 iterate 12 refine au ?_
 refine CW_block (CW_loop (m := a_slices.length) (fun m3 f' cs' => ∃ (g : Fr) (k5 : Nat) (rest6 : List (List Int)) (c1 : Int), m3 = rest6.length ∧ f' = updL g [(0, v0_0.v), (3, (.int .i64 c1)), (9, v0_0.v), (10, (.int .i64 (a_slices.length : Int))), (11, (.int .i64 (k5 : Int)))] ∧ List.drop k5 a_slices = rest6 ∧ Ent cs' [crd (RdS 24 (RdS 3 rdInt)) v0_0.v a_slices] ∧ g_slices_Concat_int_int_L1 a_slices rest6 k5 c1 = some R) ⟨_, 0, _, _, rfl, eqA, rfl, entA, hF⟩ ?_)
 rintro m3 _ _ ⟨g4, k5, rest6, c1, rfl, rfl, hd8, hE, hF⟩
 refine Kb hE a_slices (fun hbd13 => ?_)
 rcases rest6 with _ | ⟨x7, rest6⟩
 · have hk9 := dn hd8
   rw [g_slices_Concat_int_int_L1] at hF
   iterate 4 refine au ?_
   refine CdF ?_
   iterate 6 refine au ?_
   refine bnd hF fun r14 hx15 hF => Cx1 (g_slices_Grow_int_int_nil_ok _ _ hx15) (fun p16 => ?_)
   iterate 8 refine au ?_
   refine CW_block (CW_loop (m := a_slices.length) (fun m21 f' cs' => ∃ (g : Fr) (k23 : Nat) (rest24 : List (List Int)) (c17 : List Int) (v18 : Sv) (F19 : List Nat), m21 = rest24.length ∧ f' = updL g [(6, v18.v), (25, v0_0.v), (26, (.int .i64 (a_slices.length : Int))), (27, (.int .i64 (k23 : Int)))] ∧ List.drop k23 a_slices = rest24 ∧ Ent cs' [cown (OwnS 3 (roE rdInt)) F19 v18.v c17, crd (RdS 24 (RdS 3 rdInt)) v0_0.v a_slices] ∧ g_slices_Concat_int_int_L2 rest24 k23 c17 = some R) ⟨_, 0, _, _, p16.1, p16.2, rfl, eqA, rfl, entA, hF⟩ ?_)
   rintro m21 _ _ ⟨g22, k23, rest24, c17, v18, F19, rfl, rfl, hd26, hE, hF⟩
   refine Kb hE a_slices (fun hbd31 => ?_)
   rcases rest24 with _ | ⟨x25, rest24⟩
   · have hk27 := dn hd26
     rw [g_slices_Concat_int_int_L2] at hF
     iterate 4 refine au ?_
     refine CdF ?_
     iterate 9 refine au ?_
     cases hF
     exact Er (v18, F19)
   obtain ⟨hk27, hx28, hd29⟩ := drop_cons hd26
   rw [g_slices_Concat_int_int_L2] at hF
   iterate 4 refine au ?_
   refine CdT ?_
   iterate 3 refine au ?_
   refine Ai hx28 (fun k32 j33 => ?_)
   refine C_ldV (R' := (RdS 3 rdInt)) ag24.h (.tmp rfl rfl) .h lv24_0 (fun w34 => ?_)
   iterate 5 refine au ?_
   refine bnd hF fun z35 hx36 hF => C_x1 (.cons (.t (.t .h)) (.rd .h rfl .nil)) (X_appendO (Ro := (roE rdInt)) sl24.h ni24 ty3.h rfl rfl rfl (.tmp rfl rfl) (.tmp rfl rfl) hx36 src_rd) (fun p37 => ?_)
   iterate 6 refine au ?_
   rw [wk k23]
   exact ⟨_, Nat.lt_succ_self _, _, k23 + 1, rest24, _, p37.1, p37.2, rfl, eqA, hd29, entA, hF⟩
 obtain ⟨hk9, hx10, hd11⟩ := drop_cons hd8
 rw [g_slices_Concat_int_int_L1] at hF
 iterate 4 refine au ?_
 refine CdT ?_
 refine au ?_
 obtain ⟨o39, hio39, hO40⟩ := bind_some hF
 refine K_cut (fun f' cs' => ∃ (g : Fr), o39 = () ∧ f' = updL g [(0, v0_0.v), (3, (.int .i64 (IntKind.i64.wrap (c1 + (x7.length : Int))))), (9, v0_0.v), (10, (.int .i64 (a_slices.length : Int))), (11, (.int .i64 (k5 : Int)))] ∧ Ent cs' [crd (RdS 24 (RdS 3 rdInt)) v0_0.v a_slices]) ?_ ?_
 · replace hF := hio39
   refine CW_block (K_region (C_idx (a := x7) sl54.h ty24.h.sz (.tmp rfl rfl) (.tmp rfl rfl) .h (Int.natCast_nonneg k5) hx10 (fun k41 j42 => ?_)))
   refine C_ldV (R' := (RdS 3 rdInt)) ag24.h (.tmp rfl rfl) .h lv24_0 (fun w43 => ?_)
   iterate 13 refine au ?_
   refine Ci hF (fun hb44 hF => ?_) (fun hb44 hF => ?_)
   · exact absurd hF (by simp)
   refine au ?_
   cases hF
   exact ⟨_, rfl, eqA, entA⟩
 rintro _ _ ⟨g46, rfl, rfl, hE⟩
 replace hF := hO40
 try dsimp only at hF
 refine K_ent hE ?_
 iterate 4 refine au ?_
 rw [wk k5]
 exact ⟨_, Nat.lt_succ_self _, _, k5 + 1, rest6, _, rfl, eqA, hd11, entA, hF⟩
def i_withValues_L1 (r3 : (List Int)) : Nat → (List Int) → Int → Option ((List Int))
 | 0, _, _ => none
 | m10 + 1, c6, c9 => if (decide ((c9 : Int) < (r3.length : Int))) then (
     ((ix r3 c9).bind fun x23 =>
       (i_isValue x23).bind fun r27 =>
       if r27 then (
         (app c6 ([x23] : List Int)).bind fun z31 =>
         some z31)
       else (
         some c6)).bind fun o18 =>
     match o18 with
     | c35 => i_withValues_L1 r3 m10 c35 (IntKind.i64.wrap (c9 + 1)))
   else (
     (g_slices_Sort_int_int c6).bind fun r39 =>
     (g_slices_Compact_int_int r39).bind fun r42 =>
     some r42)
def i_withValues (a_l : List Int) (a_more : List Int) : Option ((List Int)) :=
 (g_slices_Concat_int_int ([a_l, a_more] : List (List Int))).bind fun r3 =>
 i_withValues_L1 r3 (((r3.length : Int) - 0).toNat + 2) ([] : List Int) 0
theorem i_withValues_ok (a_l : List Int) (v0_0 : Sv) (a_more : List Int) (v1_0 : Sv) (R : (List Int)) (hF : i_withValues a_l a_more = some R) :
   Fw.Spec Tryz.prog 196 [v0_0.v, v1_0.v] [crd (RdS 3 rdInt) v0_0.v a_l, crd (RdS 3 rdInt) v1_0.v a_more] (fun p : Sv × List Nat => p.1.v) (fun p => [cown (OwnS 3 (roE rdInt)) p.2 p.1.v R]) := by
 refine Se 29 Tryz.func196 [.tmp 4] ?_
 intro H0 F0
 unfold i_withValues at hF
 iterate 4 refine au ?_
 refine C_new rfl (N_buildSliceT (g := true) sl24.h ty3.h .nil (vs := []) rfl rfl rfl (by simp)) (fun k1 => ?_)
 refine Cv1 (.cons .h .nil) (own_lit (Ro := (roE rdInt)) (E := 3) (F := []) (xs := ([] : List Int)) MkL_nil rfl rfl) ?_
 iterate 6 refine au ?_
 refine C_new rfl (N_buildSliceT (g := true) sl54.h ty24.h (.cons (.tmp rfl rfl) (.cons (.tmp rfl rfl) .nil)) (vs := [v0_0.v, v1_0.v]) rfl rfl rfl (by intro v hv; simp at hv; rcases hv with rfl | rfl <;> rfl)) (fun k2 => ?_)
 refine Cv1 (.cons .h (.rd (.t .h) rfl (.rd (.t (.t .h)) rfl .nil))) (own_lit (Ro := (roE (RdS 3 rdInt))) (E := 24) (F := ([] ++ ([] ++ []))) (xs := ([a_l, a_more] : List (List Int))) (MkL_cons Mk_rd (MkL_cons Mk_rd MkL_nil apps) apps) rfl rfl) ?_
 refine bnd hF fun r3 hx4 hF => C_x2 (.cons .h .nil) (XC_bor frz_own (fun _ => (.cons .nil)) (X_callS cf240.h (.cons (.tmp rfl rfl) .nil) (g_slices_Concat_int_int_ok ([a_l, a_more] : List (List Int)) (⟨(some ⟨k2, 0, none⟩), 2, 1⟩) _ hx4))) (fun p5 => ?_)
 iterate 3 refine au ?_
 refine CW_block (CW_loop (m := (((r3.length : Int) - 0).toNat + 2)) (fun m10 f' cs' => ∃ (g : Fr) (c6 : List Int) (c9 : Int) (v7 : Sv) (F8 : List Nat), f' = updL g [(5, v7.v), (12, p5.1.v), (13, (.int .i64 (r3.length : Int))), (14, (.int .i64 c9))] ∧ Ent cs' [cown (OwnS 3 (roE rdInt)) F8 v7.v c6, cown (OwnS 3 (roE rdInt)) p5.2 p5.1.v r3] ∧ i_withValues_L1 r3 m10 c6 c9 = some R) ⟨_, _, _, ⟨(some ⟨k1, 0, none⟩), 0, 1⟩, (k1 :: []), eqA, entA, hF⟩ ?_)
 rintro m10 _ _ ⟨g11, c6, c9, v7, F8, rfl, hE, hF⟩
 refine K_ent hE ?_
 rcases m10 with _ | m10
 · rw [i_withValues_L1] at hF
   exact absurd hF (by simp)
 rw [i_withValues_L1] at hF
 iterate 4 refine au ?_
 refine Ci hF (fun hb45 hF => ?_) (fun hb45 hF => ?_)
 · refine au ?_
   obtain ⟨o18, hio18, hO19⟩ := bind_some hF
   refine K_cut (fun f' cs' => ∃ (c35 : List Int) (v36 : Sv) (F37 : List Nat) (g : Fr), c35 = o18 ∧ f' = updL g [(5, v36.v), (12, p5.1.v), (13, (.int .i64 (r3.length : Int))), (14, (.int .i64 c9))] ∧ Ent cs' [cown (OwnS 3 (roE rdInt)) F37 v36.v c35, cown (OwnS 3 (roE rdInt)) p5.2 p5.1.v r3]) ?_ ?_
   · replace hF := hio18
     refine CW_block (K_region ?_)
     refine bnd hF fun x23 hx24 hF => ?_
     have hi22 := ix_chk hx24
     obtain ⟨hp25, hx26⟩ := ix_some hx24
     refine C_idxO sl24.h ty3.h.sz (.tmp rfl rfl) (.tmp rfl rfl) (.t .h) hi22 (fun k20 hk21 => ?_)
     refine C_ldO (w := (.int .i64 x23)) ag3.h (.tmp rfl rfl) (.t .h) hk21 hx26 lo3_0 ?_
     iterate 4 refine au ?_
     refine bnd hF fun r27 hx28 hF => Cx0 (i_isValue_ok _ _ hx28) (fun _ => ?_)
     refine au ?_
     refine Ci hF (fun hb34 hF => ?_) (fun hb34 hF => ?_)
     · iterate 3 refine au ?_
       refine C_new rfl (N_buildSliceT (g := true) sl24.h ty3.h (.cons (.tmp rfl rfl) .nil) (vs := [(.int .i64 x23)]) rfl rfl rfl (by intro v hv; simp at hv; rcases hv with rfl <;> rfl)) (fun k30 => ?_)
       refine Cv1 (.cons .h .nil) (own_lit (Ro := (roE rdInt)) (E := 3) (F := ([] ++ [])) (xs := ([x23] : List Int)) (MkL_cons (Mk_pure (fun _ => rfl)) MkL_nil apps) rfl rfl) ?_
       refine bnd hF fun z31 hx32 hF => C_x1 (.cons (.t .h) (.cons .h .nil)) (X_appendO (Ro := (roE rdInt)) sl24.h ni24 ty3.h rfl rfl rfl (.tmp rfl rfl) (.tmp rfl rfl) hx32 src_own) (fun p33 => ?_)
       iterate 2 refine au ?_
       cases hF
       exact ⟨_, p33.1, p33.2, _, rfl, eqA, entA⟩
     refine au ?_
     cases hF
     exact ⟨_, v7, F8, _, rfl, eqA, entA⟩
   rintro _ _ ⟨c35, v36, F37, g38, rfl, rfl, hE⟩
   replace hF := hO19
   try dsimp only at hF
   refine K_ent hE ?_
   iterate 4 refine au ?_
   exact ⟨m10, Nat.lt_succ_self _, _, _, _, v36, F37, eqA, entA, hF⟩
 iterate 6 refine au ?_
 refine bnd hF fun r39 hx40 hF => Cx1 (g_slices_Sort_int_int_ok _ _ _ _ hx40) (fun p41 => ?_)
 iterate 3 refine au ?_
 refine bnd hF fun r42 hx43 hF => Cx1 (g_slices_Compact_int_int_ok _ _ _ _ hx43) (fun p44 => ?_)
 iterate 3 refine au ?_
 cases hF
 exact Er (p44.1, p44.2)
def i_StartReach (a_seeds : List Int) : Option (Reached) :=
 (i_withValues a_seeds []).bind fun r2 =>
 some ({ Facts := [], Values := r2, Log := [], Rounds := 0 } : Reached)
theorem i_StartReach_ok (a_seeds : List Int) (v0_0 : Sv) (R : Reached) (hF : i_StartReach a_seeds = some R) :
   Fw.Spec Tryz.prog 130 [v0_0.v] [crd (RdS 3 rdInt) v0_0.v a_seeds] (fun p : Sv × List Nat × Sv × List Nat × Sv × List Nat => (.agg [p.1.v, p.2.2.1.v, p.2.2.2.2.1.v, (.int .i64 R.Rounds)].toArray)) (fun p => [cown (OwnS 86 ow86) p.2.1 p.1.v R.Facts, cown (OwnS 3 (roE rdInt)) p.2.2.2.1 p.2.2.1.v R.Values, cown (OwnS 45 ow45) p.2.2.2.2.2 p.2.2.2.2.1.v R.Log]) := by
 refine Se 6 Tryz.func130 [.cell 2 62] ?_
 intro H0 F0
 unfold i_StartReach at hF
 refine au ?_
 refine AnW (fun k1 => ?_)
 iterate 3 refine au ?_
 refine Cv1 .nil (rd_nil (R := rdInt) (E := 3)) ?_
 refine bnd hF fun r2 hx3 hF => Cx1 (i_withValues_ok _ _ _ (⟨none, 0, 0⟩) _ hx3) (fun p4 => ?_)
 refine C_val (V_build ty62.h rfl (vs := [p4.1.v]) (.cons (.tmp rfl rfl) .nil) (cells := [(.slice none 0 0), p4.1.v, (.slice none 0 0), (.int .i64 0)]) rfl) ?_
 refine As (.agg [(.slice none 0 0), p4.1.v, (.slice none 0 0), (.int .i64 0)].toArray) ?_
 iterate 2 refine au ?_
 cases hF
 exact End_ret (⟨none, 0, 0⟩, [], p4.1, p4.2, ⟨none, 0, 0⟩, []) (.cellA rfl rfl .h rfl ag62.h ty62.h.sz rfl rfl .nil) rfl (.conv .nil (own_nil (Ro := ow86) (E := 86)) (.cons .nil) (.conv .nil (own_nil (Ro := ow45) (E := 45)) (.cons .nil) (.sel (.cons (.t .h) (.cons (.t (.t .h)) (.cons .h .nil))))))
def g_slices_Clone_int_int (a_s : List Int) : Option ((List Int)) :=
 (app ([] : List Int) a_s).bind fun z5 =>
 some z5
theorem g_slices_Clone_int_int_ok (a_s : List Int) (v0_0 : Sv) (R : (List Int)) (hF : g_slices_Clone_int_int a_s = some R) :
   Fw.Spec Tryz.prog 105 [v0_0.v] [crd (RdS 3 rdInt) v0_0.v a_s] (fun p : Sv × List Nat => p.1.v) (fun p => [cown (OwnS 3 (roE rdInt)) p.2 p.1.v R]) := by
 refine Se 8 Tryz.func105 [.tmp 2] ?_
 intro H0 F0
 unfold g_slices_Clone_int_int at hF
 iterate 6 refine au ?_
 refine C_eqNil (xs := a_s) sl24.h (.tmp rfl rfl) .h crd_nilc (fun bn1 hn2 => ?_)
 refine au ?_
 refine Cc (fun hb3 => ?_) (fun hb3 => ?_)
 · have hnil := hn2 hb3
   replace hF : some [] = some R := by rw [hnil] at hF; simpa [app] using hF
   iterate 4 refine au ?_
   cases hF
   exact End_ret (⟨none, 0, 0⟩, []) (.tmp rfl rfl .nil) rfl (.conv .nil (own_nil (Ro := (roE rdInt)) (E := 3)) (.cons .nil) (.sel (.cons .h .nil)))
 iterate 2 refine au ?_
 refine C_new rfl (N_buildSliceT (g := true) sl24.h ty3.h .nil (vs := []) rfl rfl rfl (by simp)) (fun k4 => ?_)
 refine Cv1 (.cons .h .nil) (own_lit (Ro := (roE rdInt)) (E := 3) (F := []) (xs := ([] : List Int)) MkL_nil rfl rfl) ?_
 refine au ?_
 refine bnd hF fun z5 hx6 hF => C_x1 (.cons .h (.rd .h rfl .nil)) (X_appendO (Ro := (roE rdInt)) sl24.h ni24 ty3.h rfl rfl rfl (.tmp rfl rfl) (.tmp rfl rfl) hx6 src_rd) (fun p7 => ?_)
 iterate 3 refine au ?_
 cases hF
 exact Er (p7.1, p7.2)
def i_lists_L4 (x79 : List Int) : List Int → Nat → (List (List Int)) → Option ((List (List Int)))
 | [], k97, c91 => some c91
 | x99 :: rest98, k97, c91 => (g_slices_Clone_int_int x79).bind fun r108 =>
   (app r108 ([x99] : List Int)).bind fun z112 =>
   (app c91 ([z112] : List (List Int))).bind fun z116 =>
   i_lists_L4 x79 rest98 (k97 + 1) z116
def i_lists_L2 (a_values : List Int) : List (List Int) → Nat → (List (List Int)) → Option ((List (List Int)))
 | [], k77, c71 => some c71
 | x79 :: rest78, k77, c71 => (i_lists_L4 x79 a_values 0 c71).bind fun o86 =>
   match o86 with
   | c120 => i_lists_L2 a_values rest78 (k77 + 1) c120
def i_lists_L1 (a_values : List Int) (a_n : Int) : Nat → (List (List Int)) → Int → Option ((List (List Int)))
 | 0, _, _ => none
 | m7 + 1, c3, c6 => if (decide ((c6 : Int) < a_n)) then (
     (i_lists_L2 a_values c3 0 ([] : List (List Int))).bind fun o15 =>
     match o15 with
     | c125 => i_lists_L1 a_values a_n m7 c125 (IntKind.i64.wrap (c6 + 1)))
   else (
     some c3)
def i_lists (a_values : List Int) (a_n : Int) : Option ((List (List Int))) :=
 i_lists_L1 a_values a_n ((a_n - 0).toNat + 2) ([([] : List Int)] : List (List Int)) 0
theorem i_lists_ok (a_values : List Int) (v0_0 : Sv) (a_n : Int) (R : (List (List Int))) (hF : i_lists a_values a_n = some R) :
   Fw.Spec Tryz.prog 241 [v0_0.v, (.int .i64 a_n)] [crd (RdS 3 rdInt) v0_0.v a_values] (fun p : Sv × List Nat => p.1.v) (fun p => [cown (OwnS 24 (OwnS 3 (roE rdInt))) p.2 p.1.v R]) := by
 refine Se 42 Tryz.func241 [.tmp 4] ?_
 intro H0 F0
 unfold i_lists at hF
 iterate 4 refine au ?_
 refine C_new rfl (N_buildSliceT (g := true) sl24.h ty3.h .nil (vs := []) rfl rfl rfl (by simp)) (fun k1 => ?_)
 refine Cv1 (.cons .h .nil) (own_lit (Ro := (roE rdInt)) (E := 3) (F := []) (xs := ([] : List Int)) MkL_nil rfl rfl) ?_
 refine C_new rfl (N_buildSliceT (g := true) sl54.h ty24.h (.cons (.tmp rfl rfl) .nil) (vs := [(.slice (some ⟨k1, 0, none⟩) 0 1)]) rfl rfl rfl (by intro v hv; simp at hv; rcases hv with rfl <;> rfl)) (fun k2 => ?_)
 refine Cv1 (.cons .h (.cons .h .nil)) (own_lit (Ro := (OwnS 3 (roE rdInt))) (E := 24) (F := ((k1 :: []) ++ [])) (xs := ([([] : List Int)] : List (List Int))) (MkL_cons Mk_own MkL_nil apps) rfl rfl) ?_
 iterate 7 refine au ?_
 refine CW_block (CW_loop (m := ((a_n - 0).toNat + 2)) (fun m7 f' cs' => ∃ (g : Fr) (c3 : List (List Int)) (c6 : Int) (v4 : Sv) (F5 : List Nat), f' = updL g [(0, v0_0.v), (5, v4.v), (13, (.int .i64 a_n)), (14, (.int .i64 c6))] ∧ Ent cs' [crd (RdS 3 rdInt) v0_0.v a_values, cown (OwnS 24 (OwnS 3 (roE rdInt))) F5 v4.v c3] ∧ i_lists_L1 a_values a_n m7 c3 c6 = some R) ⟨_, _, _, ⟨(some ⟨k2, 0, none⟩), 1, 1⟩, (k2 :: ((k1 :: []) ++ [])), eqA, entA, hF⟩ ?_)
 rintro m7 _ _ ⟨g8, c3, c6, v4, F5, rfl, hE, hF⟩
 refine K_ent hE ?_
 rcases m7 with _ | m7
 · rw [i_lists_L1] at hF
   exact absurd hF (by simp)
 rw [i_lists_L1] at hF
 iterate 4 refine au ?_
 refine Ci hF (fun hb129 hF => ?_) (fun hb129 hF => ?_)
 · refine au ?_
   obtain ⟨o15, hio15, hO16⟩ := bind_some hF
   refine K_cut (fun f' cs' => ∃ (c125 : List (List Int)) (v126 : Sv) (F127 : List Nat) (g : Fr), c125 = o15 ∧ f' = updL g [(0, v0_0.v), (5, v126.v), (13, (.int .i64 a_n)), (14, (.int .i64 c6))] ∧ Ent cs' [crd (RdS 3 rdInt) v0_0.v a_values, cown (OwnS 24 (OwnS 3 (roE rdInt))) F127 v126.v c125]) ?_ ?_
   · replace hF := hio15
     refine CW_block (K_region (C_new rfl (N_buildSliceT (g := true) sl54.h ty24.h .nil (vs := []) rfl rfl rfl (by simp)) (fun k17 => ?_)))
     refine Cv1 (.cons .h .nil) (own_lit (Ro := (OwnS 3 (roE rdInt))) (E := 24) (F := []) (xs := ([] : List (List Int))) MkL_nil rfl rfl) ?_
     iterate 8 refine au ?_
     refine CW_block (K_frz (.t (.t .h)) frz_own ?_)
     refine CW_loop (m := c3.length) (fun m75 f' cs' => ∃ (g : Fr) (k77 : Nat) (rest78 : List (List Int)) (c71 : List (List Int)) (v72 : Sv) (F73 : List Nat), m75 = rest78.length ∧ f' = updL g [(0, v0_0.v), (6, v72.v), (13, (.int .i64 a_n)), (14, (.int .i64 c6)), (17, v4.v), (18, (.int .i64 (c3.length : Int))), (19, (.int .i64 (k77 : Int)))] ∧ List.drop k77 c3 = rest78 ∧ Ent cs' [crd (RdS 3 rdInt) v0_0.v a_values, cown (OwnS 24 (OwnS 3 (roE rdInt))) F73 v72.v c71, crd (RdS 24 (RdS 3 rdInt)) v4.v c3] ∧ i_lists_L2 a_values rest78 k77 c71 = some o15) ⟨_, 0, _, _, ⟨(some ⟨k17, 0, none⟩), 0, 1⟩, (k17 :: []), rfl, eqA, rfl, entA, hF⟩ ?_
     rintro m75 _ _ ⟨g76, k77, rest78, c71, v72, F73, rfl, rfl, hd80, hE, hF⟩
     refine Kb hE c3 (fun hbd85 => ?_)
     rcases rest78 with _ | ⟨x79, rest78⟩
     · have hk81 := dn hd80
       rw [i_lists_L2] at hF
       iterate 4 refine au ?_
       refine CdF ?_
       iterate 8 refine au ?_
       cases hF
       exact ⟨_, v72, F73, _, rfl, eqA, entA⟩
     obtain ⟨hk81, hx82, hd83⟩ := drop_cons hd80
     rw [i_lists_L2] at hF
     iterate 4 refine au ?_
     refine CdT ?_
     refine au ?_
     obtain ⟨o86, hio86, hO87⟩ := bind_some hF
     refine K_cut (fun f' cs' => ∃ (c120 : List (List Int)) (v121 : Sv) (F122 : List Nat) (g : Fr), c120 = o86 ∧ f' = updL g [(0, v0_0.v), (6, v121.v), (13, (.int .i64 a_n)), (14, (.int .i64 c6)), (17, v4.v), (18, (.int .i64 (c3.length : Int))), (19, (.int .i64 (k77 : Int)))] ∧ Ent cs' [crd (RdS 3 rdInt) v0_0.v a_values, cown (OwnS 24 (OwnS 3 (roE rdInt))) F122 v121.v c120, crd (RdS 24 (RdS 3 rdInt)) v4.v c3]) ?_ ?_
     · replace hF := hio86
       refine CW_block (K_region (C_idx (a := x79) sl54.h ty24.h.sz (.tmp rfl rfl) (.tmp rfl rfl) (.t (.t .h)) (Int.natCast_nonneg k77) hx82 (fun k88 j89 => ?_)))
       refine C_ldV (R' := (RdS 3 rdInt)) ag24.h (.tmp rfl rfl) .h lv24_0 (fun w90 => ?_)
       iterate 7 refine au ?_
       refine CW_block (CW_loop (m := a_values.length) (fun m95 f' cs' => ∃ (g : Fr) (k97 : Nat) (rest98 : List Int) (c91 : List (List Int)) (v92 : Sv) (F93 : List Nat), m95 = rest98.length ∧ f' = updL g [(0, v0_0.v), (6, v92.v), (8, w90.v), (13, (.int .i64 a_n)), (14, (.int .i64 c6)), (17, v4.v), (18, (.int .i64 (c3.length : Int))), (19, (.int .i64 (k77 : Int))), (23, v0_0.v), (24, (.int .i64 (a_values.length : Int))), (25, (.int .i64 (k97 : Int)))] ∧ List.drop k97 a_values = rest98 ∧ Ent cs' [crd (RdS 3 rdInt) v0_0.v a_values, cown (OwnS 24 (OwnS 3 (roE rdInt))) F93 v92.v c91, crd (RdS 3 rdInt) w90.v x79, crd (RdS 24 (RdS 3 rdInt)) v4.v c3] ∧ i_lists_L4 x79 rest98 k97 c91 = some o86) ⟨_, 0, _, _, v72, F73, rfl, eqA, rfl, entA, hF⟩ ?_)
       rintro m95 _ _ ⟨g96, k97, rest98, c91, v92, F93, rfl, rfl, hd100, hE, hF⟩
       refine Kb hE a_values (fun hbd105 => ?_)
       rcases rest98 with _ | ⟨x99, rest98⟩
       · have hk101 := dn hd100
         rw [i_lists_L4] at hF
         iterate 4 refine au ?_
         refine CdF ?_
         iterate 4 refine au ?_
         cases hF
         exact ⟨_, v92, F93, _, rfl, eqA, entA⟩
       obtain ⟨hk101, hx102, hd103⟩ := drop_cons hd100
       rw [i_lists_L4] at hF
       iterate 4 refine au ?_
       refine CdT ?_
       iterate 3 refine au ?_
       refine Ai hx102 (fun k106 j107 => ?_)
       refine Al ls3_0 ?_
       iterate 5 refine au ?_
       refine bnd hF fun r108 hx109 hF => Cx1 (g_slices_Clone_int_int_ok _ _ _ hx109) (fun p110 => ?_)
       refine au ?_
       refine C_new rfl (N_buildSliceT (g := true) sl24.h ty3.h (.cons (.tmp rfl rfl) .nil) (vs := [(.int .i64 x99)]) rfl rfl rfl (by intro v hv; simp at hv; rcases hv with rfl <;> rfl)) (fun k111 => ?_)
       refine Cv1 (.cons .h .nil) (own_lit (Ro := (roE rdInt)) (E := 3) (F := ([] ++ [])) (xs := ([x99] : List Int)) (MkL_cons (Mk_pure (fun _ => rfl)) MkL_nil apps) rfl rfl) ?_
       refine bnd hF fun z112 hx113 hF => C_x1 (.cons (.t .h) (.cons .h .nil)) (X_appendO (Ro := (roE rdInt)) sl24.h ni24 ty3.h rfl rfl rfl (.tmp rfl rfl) (.tmp rfl rfl) hx113 src_own) (fun p114 => ?_)
       refine C_new rfl (N_buildSliceT (g := true) sl54.h ty24.h (.cons (.tmp rfl rfl) .nil) (vs := [p114.1.v]) rfl rfl rfl (by intro v hv; simp at hv; rcases hv with rfl <;> rfl)) (fun k115 => ?_)
       refine Cv1 (.cons .h (.cons .h .nil)) (own_lit (Ro := (OwnS 3 (roE rdInt))) (E := 24) (F := (p114.2 ++ [])) (xs := ([z112] : List (List Int))) (MkL_cons Mk_own MkL_nil apps) rfl rfl) ?_
       refine bnd hF fun z116 hx117 hF => C_x1 (.cons (.t (.t (.t .h))) (.cons .h .nil)) (X_appendO (Ro := (OwnS 3 (roE rdInt))) sl54.h ni54 ty24.h rfl rfl rfl (.tmp rfl rfl) (.tmp rfl rfl) hx117 src_own) (fun p118 => ?_)
       iterate 6 refine au ?_
       rw [wk k97]
       exact ⟨_, Nat.lt_succ_self _, _, k97 + 1, rest98, _, p118.1, p118.2, rfl, eqA, hd103, entA, hF⟩
     rintro _ _ ⟨c120, v121, F122, g124, rfl, rfl, hE⟩
     replace hF := hO87
     try dsimp only at hF
     refine K_ent hE ?_
     iterate 4 refine au ?_
     rw [wk k77]
     exact ⟨_, Nat.lt_succ_self _, _, k77 + 1, rest78, _, v121, F122, rfl, eqA, hd83, entA, hF⟩
   rintro _ _ ⟨c125, v126, F127, g128, rfl, rfl, hE⟩
   replace hF := hO16
   try dsimp only at hF
   refine K_ent hE ?_
   iterate 4 refine au ?_
   exact ⟨m7, Nat.lt_succ_self _, _, _, _, v126, F127, eqA, entA, hF⟩
 iterate 9 refine au ?_
 cases hF
 exact Er (v4, F5)
def g_slices_Equal_int_int_L1 (a_s2 : List Int) : List Int → Nat → Option (Bool)
 | [], k4 => some true
 | x6 :: rest5, k4 => (ix a_s2 (k4 : Int)).bind fun x15 =>
   if ((x6 : Int) != x15) then (
     some false)
   else (
     g_slices_Equal_int_int_L1 a_s2 rest5 (k4 + 1))
def g_slices_Equal_int_int (a_s1 : List Int) (a_s2 : List Int) : Option (Bool) :=
 if (((a_s1.length : Int) : Int) != (a_s2.length : Int)) then (
   some false)
 else (
   g_slices_Equal_int_int_L1 a_s2 a_s1 0)
theorem g_slices_Equal_int_int_ok (a_s1 : List Int) (v0_0 : Sv) (a_s2 : List Int) (v1_0 : Sv) (R : Bool) (hF : g_slices_Equal_int_int a_s1 a_s2 = some R) :
   Fw.Spec Tryz.prog 181 [v0_0.v, v1_0.v] [crd (RdS 3 rdInt) v0_0.v a_s1, crd (RdS 3 rdInt) v1_0.v a_s2] (fun _ : Unit => (.bool R)) (fun _ => []) := by
 refine Se 26 Tryz.func181 [.tmp 4] ?_
 intro H0 F0
 unfold g_slices_Equal_int_int at hF
 iterate 11 refine au ?_
 refine Ci hF (fun hb23 hF => ?_) (fun hb23 hF => ?_)
 · iterate 4 refine au ?_
   cases hF
   exact Er ()
 iterate 7 refine au ?_
 refine CW_block (CW_loop (m := a_s1.length) (fun m2 f' cs' => ∃ (g : Fr) (k4 : Nat) (rest5 : List Int), m2 = rest5.length ∧ f' = updL g [(0, v0_0.v), (1, v1_0.v), (12, (.int .i64 (a_s1.length : Int))), (13, (.int .i64 (k4 : Int)))] ∧ List.drop k4 a_s1 = rest5 ∧ Ent cs' [crd (RdS 3 rdInt) v0_0.v a_s1, crd (RdS 3 rdInt) v1_0.v a_s2] ∧ g_slices_Equal_int_int_L1 a_s2 rest5 k4 = some R) ⟨_, 0, _, rfl, eqA, rfl, entA, hF⟩ ?_)
 rintro m2 _ _ ⟨g3, k4, rest5, rfl, rfl, hd7, hE, hF⟩
 refine Kb hE a_s1 (fun hbd12 => ?_)
 rcases rest5 with _ | ⟨x6, rest5⟩
 · have hk8 := dn hd7
   rw [g_slices_Equal_int_int_L1] at hF
   iterate 4 refine au ?_
   refine CdF ?_
   iterate 8 refine au ?_
   cases hF
   exact Er ()
 obtain ⟨hk8, hx9, hd10⟩ := drop_cons hd7
 rw [g_slices_Equal_int_int_L1] at hF
 iterate 4 refine au ?_
 refine CdT ?_
 iterate 6 refine au ?_
 refine K_draw [0, 1, 2, 3, 4, 5, 6, 7, 8] [0, 0, 3, 7, 0, 0, 48, 112, 255] [] mixed (by decide +kernel) ?_
 iterate 2 refine du ?_
 refine Di hx9 (fun k13 j14 => ?_)
 refine Dl ls3_0 ?_
 iterate 2 refine du ?_
 refine bnd hF fun x15 hx16 hF => ?_
 obtain ⟨hp17, hx18⟩ := ix_some hx16
 refine Di hx18 (fun k19 j20 => ?_)
 refine Dl ls3_0 ?_
 iterate 2 refine du ?_
 refine Ci hF (fun hb22 hF => ?_) (fun hb22 hF => ?_)
 · iterate 4 refine au ?_
   cases hF
   exact Er ()
 iterate 5 refine au ?_
 rw [wk k4]
 exact ⟨_, Nat.lt_succ_self _, _, k4 + 1, rest5, rfl, eqA, hd10, entA, hF⟩
def i_sameAccess (a_a : Access) (a_b : Access) : Option (Bool) :=
 (bif ((a_a.Method : Int) == a_b.Method) then ((g_slices_Equal_int_int a_a.Values a_b.Values).bind fun r6 =>
     some r6)
   else (some false)).bind fun o3 =>
 match o3 with
 | c9 => some c9
theorem i_sameAccess_ok (a_a : Access) (v0_1 : Sv) (a_b : Access) (v1_1 : Sv) (R : Bool) (hF : i_sameAccess a_a a_b = some R) :
   Fw.Spec Tryz.prog 117 [(.agg [(.int .i64 a_a.Method), v0_1.v].toArray), (.agg [(.int .i64 a_b.Method), v1_1.v].toArray)] [crd (RdS 3 rdInt) v0_1.v a_a.Values, crd (RdS 3 rdInt) v1_1.v a_b.Values] (fun _ : Unit => (.bool R)) (fun _ => []) := by
 refine Se 17 Tryz.func117 [.tmp 4] ?_
 intro H0 F0
 unfold i_sameAccess at hF
 refine au ?_
 refine AbR (fun k1 => ?_)
 refine AbR (fun k2 => ?_)
 iterate 2 refine au ?_
 obtain ⟨o3, hio3, hO4⟩ := bind_some hF
 refine au ?_
 refine C_cut (fun f' cs' => ∃ (c9 : Bool) (g : Fr), c9 = o3 ∧ f' = updL g [(4, (.bool c9))] ∧ Ent cs' []) ?_ ?_
 · replace hF := hio3
   iterate 6 refine au ?_
   rcases Bool.eq_false_or_eq_true ((a_a.Method : Int) == a_b.Method) with hg5 | hg5
   · rw [hg5]
     try rw [hg5] at hF; dsimp only [cond_true, cond_false] at hF
     iterate 9 refine au ?_
     refine bnd hF fun r6 hx7 hF => Cx0 (g_slices_Equal_int_int_ok _ _ _ _ _ hx7) (fun _ => ?_)
     iterate 3 refine au ?_
     cases hF
     exact ⟨_, _, rfl, eqA, entA⟩
   rw [hg5]
   try rw [hg5] at hF; dsimp only [cond_true, cond_false] at hF
   iterate 8 refine au ?_
   cases hF
   exact ⟨_, _, rfl, eqA, entA⟩
 rintro _ _ ⟨c9, g10, rfl, rfl, hE⟩
 replace hF := hO4
 try dsimp only at hF
 refine K_ent hE ?_
 refine au ?_
 cases hF
 exact Er ()
def i_hasAccess_1 (a_x : Access) (a_e1 : Access) : Option (Bool) :=
 (i_sameAccess a_x a_e1).bind fun r2 =>
 some r2
theorem i_hasAccess_1_ok (a_x : Access) (v0_1 : Sv) (kc1 : Nat) (a_e1 : Access) (vc1_1 : Sv) (R : Bool) (hF : i_hasAccess_1 a_x a_e1 = some R) :
   Fw.Spec Tryz.prog 116 [(.agg [(.int .i64 a_x.Method), v0_1.v].toArray), (pz kc1)] [crd (RdS 3 rdInt) v0_1.v a_x.Values, cboR kc1 45 (.agg [(.int .i64 a_e1.Method), vc1_1.v].toArray), crd (RdS 3 rdInt) vc1_1.v a_e1.Values] (fun _ : Unit => (.bool R)) (fun _ => []) := by
 refine Se 7 Tryz.func116 [.tmp 3] ?_
 intro H0 F0
 unfold i_hasAccess_1 at hF
 refine au ?_
 refine AbR (fun k1 => ?_)
 iterate 5 refine au ?_
 refine bnd hF fun r2 hx3 hF => Cx0 (i_sameAccess_ok _ _ _ _ _ hx3) (fun _ => ?_)
 iterate 3 refine au ?_
 cases hF
 exact Er ()
def g_slices_IndexFunc_impl_Access_impl_Access_ihasAccess1_L1 (a_e1 : Access) : List Access → Nat → Option (Int)
 | [], k4 => some (-1)
 | x6 :: rest5, k4 => (i_hasAccess_1 x6 a_e1).bind fun r16 =>
   if r16 then (
     some (k4 : Int))
   else (
     g_slices_IndexFunc_impl_Access_impl_Access_ihasAccess1_L1 a_e1 rest5 (k4 + 1))
def g_slices_IndexFunc_impl_Access_impl_Access_ihasAccess1 (a_s : List Access) (a_e1 : Access) : Option (Int) :=
 g_slices_IndexFunc_impl_Access_impl_Access_ihasAccess1_L1 a_e1 a_s 0
theorem g_slices_IndexFunc_impl_Access_impl_Access_ihasAccess1_ok (a_s : List Access) (v0_0 : Sv) (kc1 : Nat) (a_e1 : Access) (vc1_1 : Sv) (R : Int) (hF : g_slices_IndexFunc_impl_Access_impl_Access_ihasAccess1 a_s a_e1 = some R) :
   Fw.Spec Tryz.prog 113 [v0_0.v, (.func (.func 116) [].toArray [(pz kc1)].toArray)] [crd (RdS 45 rd45) v0_0.v a_s, cboR kc1 45 (.agg [(.int .i64 a_e1.Method), vc1_1.v].toArray), crd (RdS 3 rdInt) vc1_1.v a_e1.Values] (fun _ : Unit => (.int .i64 R)) (fun _ => []) := by
 refine Se 19 Tryz.func113 [.tmp 4] ?_
 intro H0 F0
 unfold g_slices_IndexFunc_impl_Access_impl_Access_ihasAccess1 at hF
 iterate 9 refine au ?_
 refine CW_block (CW_loop (m := a_s.length) (fun m2 f' cs' => ∃ (g : Fr) (k4 : Nat) (rest5 : List Access), m2 = rest5.length ∧ f' = updL g [(0, v0_0.v), (1, (.func (.func 116) [].toArray [(pz kc1)].toArray)), (7, (.int .i64 (a_s.length : Int))), (8, (.int .i64 (k4 : Int)))] ∧ List.drop k4 a_s = rest5 ∧ Ent cs' [crd (RdS 45 rd45) v0_0.v a_s, cboR kc1 45 (.agg [(.int .i64 a_e1.Method), vc1_1.v].toArray), crd (RdS 3 rdInt) vc1_1.v a_e1.Values] ∧ g_slices_IndexFunc_impl_Access_impl_Access_ihasAccess1_L1 a_e1 rest5 k4 = some R) ⟨_, 0, _, rfl, eqA, rfl, entA, hF⟩ ?_)
 rintro m2 _ _ ⟨g3, k4, rest5, rfl, rfl, hd7, hE, hF⟩
 refine Kb hE a_s (fun hbd12 => ?_)
 rcases rest5 with _ | ⟨x6, rest5⟩
 · have hk8 := dn hd7
   rw [g_slices_IndexFunc_impl_Access_impl_Access_ihasAccess1_L1] at hF
   iterate 4 refine au ?_
   refine CdF ?_
   iterate 8 refine au ?_
   cases hF
   exact Er ()
 obtain ⟨hk8, hx9, hd10⟩ := drop_cons hd7
 rw [g_slices_IndexFunc_impl_Access_impl_Access_ihasAccess1_L1] at hF
 iterate 4 refine au ?_
 refine CdT ?_
 iterate 10 refine au ?_
 refine Ai hx9 (fun k13 j14 => ?_)
 refine AlA1 (ul45_0_45 x6) la45_0_45 (fun p15 => ?_)
 refine bnd hF fun r16 hx17 hF => C_x0 (.rd .h rfl (.rd (.t (.t (.t .h))) rfl (.rd (.t (.t (.t (.t .h)))) rfl .nil))) (X_callCS cf116.h (.tmp rfl rfl) (.cons (.tmp rfl rfl) .nil) (i_hasAccess_1_ok x6 p15 kc1 a_e1 vc1_1 _ hx17)) (fun _ => ?_)
 refine au ?_
 refine Ci hF (fun hb20 hF => ?_) (fun hb20 hF => ?_)
 · iterate 5 refine au ?_
   cases hF
   exact Er ()
 iterate 5 refine au ?_
 rw [wk k4]
 exact ⟨_, Nat.lt_succ_self _, _, k4 + 1, rest5, rfl, eqA, hd10, entA, hF⟩
def g_slices_ContainsFunc_impl_Access_impl_Access_ihasAccess1 (a_s : List Access) (a_e1 : Access) : Option (Bool) :=
 (g_slices_IndexFunc_impl_Access_impl_Access_ihasAccess1 a_s a_e1).bind fun r1 =>
 some (decide ((0 : Int) ≤ r1))
theorem g_slices_ContainsFunc_impl_Access_impl_Access_ihasAccess1_ok (a_s : List Access) (v0_0 : Sv) (kc1 : Nat) (a_e1 : Access) (vc1_1 : Sv) (R : Bool) (hF : g_slices_ContainsFunc_impl_Access_impl_Access_ihasAccess1 a_s a_e1 = some R) :
   Fw.Spec Tryz.prog 51 [v0_0.v, (.func (.func 116) [].toArray [(pz kc1)].toArray)] [crd (RdS 45 rd45) v0_0.v a_s, cboR kc1 45 (.agg [(.int .i64 a_e1.Method), vc1_1.v].toArray), crd (RdS 3 rdInt) vc1_1.v a_e1.Values] (fun _ : Unit => (.bool R)) (fun _ => []) := by
 refine Se 9 Tryz.func51 [.tmp 4] ?_
 intro H0 F0
 unfold g_slices_ContainsFunc_impl_Access_impl_Access_ihasAccess1 at hF
 iterate 6 refine au ?_
 refine bnd hF fun r1 hx2 hF => Cx0 (g_slices_IndexFunc_impl_Access_impl_Access_ihasAccess1_ok _ _ _ _ _ _ hx2) (fun _ => ?_)
 iterate 4 refine au ?_
 cases hF
 exact Er ()
def i_hasAccess (a_l : List Access) (a_a : Access) : Option (Bool) :=
 (g_slices_ContainsFunc_impl_Access_impl_Access_ihasAccess1 a_l a_a).bind fun r2 =>
 some r2
theorem i_hasAccess_ok (a_l : List Access) (v0_0 : Sv) (a_a : Access) (v1_1 : Sv) (R : Bool) (hF : i_hasAccess a_l a_a = some R) :
   Fw.Spec Tryz.prog 58 [v0_0.v, (.agg [(.int .i64 a_a.Method), v1_1.v].toArray)] [crd (RdS 45 rd45) v0_0.v a_l, crd (RdS 3 rdInt) v1_1.v a_a.Values] (fun _ : Unit => (.bool R)) (fun _ => []) := by
 refine Se 8 Tryz.func58 [.tmp 4] ?_
 intro H0 F0
 unfold i_hasAccess at hF
 refine au ?_
 refine AbR (fun k1 => ?_)
 iterate 4 refine au ?_
 refine C_val (V_makeFunc (fn := .func 116) (vs := []) (us := [(pz k1)]) .nil (.cons (.tmp rfl rfl) .nil)) ?_
 refine bnd hF fun r2 hx3 hF => Cx0 (g_slices_ContainsFunc_impl_Access_impl_Access_ihasAccess1_ok _ _ _ _ _ _ hx3) (fun _ => ?_)
 iterate 3 refine au ?_
 cases hF
 exact Er ()
def i_Reached_open_L2 (a_r : Reached) (k9 : Nat) : List (List Int) → Nat → (List Access) → Option ((List Access))
 | [], k50, c43 => some c43
 | x52 :: rest51, k50, c43 => ((i_hasAccess a_r.Log ({ Method := (k9 : Int), Values := x52 } : Access)).bind fun r67 =>
     if (!r67) then (
       (app c43 ([({ Method := (k9 : Int), Values := x52 } : Access)] : List Access)).bind fun z71 =>
       some z71)
     else (
       some c43)).bind fun o59 =>
   match o59 with
   | c75 => i_Reached_open_L2 a_r k9 rest51 (k50 + 1) c75
def i_Reached_open_L1 (a_r : Reached) : List Method → Nat → (List Access) → Option ((List Access))
 | [], k9, c3 => some c3
 | x11 :: rest10, k9, c3 => (if ((x11.Limit : Int) != 0) then (
       some c3)
     else (
       (i_lists a_r.Values (x11.Inputs.length : Int)).bind fun r24 =>
       i_Reached_open_L2 a_r k9 r24 0 c3)).bind fun o18 =>
   match o18 with
   | c82 => i_Reached_open_L1 a_r rest10 (k9 + 1) c82
def i_Reached_open (a_r : Reached) (a_l : List Method) : Option ((List Access)) :=
 i_Reached_open_L1 a_r a_l 0 ([] : List Access)
theorem i_Reached_open_ok (a_r : Reached) (v0_0 : Sv) (v0_1 : Sv) (v0_2 : Sv) (a_l : List Method) (v1_0 : Sv) (R : (List Access)) (hF : i_Reached_open a_r a_l = some R) :
   Fw.Spec Tryz.prog 197 [(.agg [v0_0.v, v0_1.v, v0_2.v, (.int .i64 a_r.Rounds)].toArray), v1_0.v] [crd (RdS 86 rd86) v0_0.v a_r.Facts, crd (RdS 3 rdInt) v0_1.v a_r.Values, crd (RdS 45 rd45) v0_2.v a_r.Log, crd (RdS 73 rd73) v1_0.v a_l] (fun p : Sv × List Nat => p.1.v) (fun p => [cown (OwnS 45 ow45) p.2 p.1.v R]) := by
 refine Se 48 Tryz.func197 [.tmp 4] ?_
 intro H0 F0
 unfold i_Reached_open at hF
 refine au ?_
 refine AbR (fun k1 => ?_)
 iterate 3 refine au ?_
 refine C_new rfl (N_buildSliceT (g := true) sl33.h ty45.h .nil (vs := []) rfl rfl rfl (by simp)) (fun k2 => ?_)
 refine Cv1 (.cons .h .nil) (own_lit (Ro := ow45) (E := 45) (F := []) (xs := ([] : List Access)) MkL_nil rfl rfl) ?_
 iterate 8 refine au ?_
 refine CW_block (CW_loop (m := a_l.length) (fun m7 f' cs' => ∃ (g : Fr) (k9 : Nat) (rest10 : List Method) (c3 : List Access) (v4 : Sv) (F5 : List Nat), m7 = rest10.length ∧ f' = updL g [(2, (pz k1)), (5, v4.v), (12, v1_0.v), (13, (.int .i64 (a_l.length : Int))), (14, (.int .i64 (k9 : Int)))] ∧ List.drop k9 a_l = rest10 ∧ Ent cs' [cboR k1 62 (.agg [v0_0.v, v0_1.v, v0_2.v, (.int .i64 a_r.Rounds)].toArray), crd (RdS 86 rd86) v0_0.v a_r.Facts, crd (RdS 3 rdInt) v0_1.v a_r.Values, crd (RdS 45 rd45) v0_2.v a_r.Log, cown (OwnS 45 ow45) F5 v4.v c3, crd (RdS 73 rd73) v1_0.v a_l] ∧ i_Reached_open_L1 a_r rest10 k9 c3 = some R) ⟨_, 0, _, _, ⟨(some ⟨k2, 0, none⟩), 0, 1⟩, (k2 :: []), rfl, eqA, rfl, entA, hF⟩ ?_)
 rintro m7 _ _ ⟨g8, k9, rest10, c3, v4, F5, rfl, rfl, hd12, hE, hF⟩
 refine Kb hE a_l (fun hbd17 => ?_)
 rcases rest10 with _ | ⟨x11, rest10⟩
 · have hk13 := dn hd12
   rw [i_Reached_open_L1] at hF
   iterate 4 refine au ?_
   refine CdF ?_
   iterate 9 refine au ?_
   cases hF
   exact Er (v4, F5)
 obtain ⟨hk13, hx14, hd15⟩ := drop_cons hd12
 rw [i_Reached_open_L1] at hF
 iterate 4 refine au ?_
 refine CdT ?_
 refine au ?_
 obtain ⟨o18, hio18, hO19⟩ := bind_some hF
 refine K_cut (fun f' cs' => ∃ (c82 : List Access) (v83 : Sv) (F84 : List Nat) (g : Fr), c82 = o18 ∧ f' = updL g [(2, (pz k1)), (5, v83.v), (12, v1_0.v), (13, (.int .i64 (a_l.length : Int))), (14, (.int .i64 (k9 : Int)))] ∧ Ent cs' [cboR k1 62 (.agg [v0_0.v, v0_1.v, v0_2.v, (.int .i64 a_r.Rounds)].toArray), crd (RdS 86 rd86) v0_0.v a_r.Facts, crd (RdS 3 rdInt) v0_1.v a_r.Values, crd (RdS 45 rd45) v0_2.v a_r.Log, cown (OwnS 45 ow45) F84 v83.v c82, crd (RdS 73 rd73) v1_0.v a_l]) ?_ ?_
 · replace hF := hio18
   refine CW_block (K_region (Cm (.int .i64 (k9 : Int)) rfl rfl ?_))
   refine Ai hx14 (fun k20 j21 => ?_)
   refine AlA1 (ul73_0_73 x11) la73_0_73 (fun p22 => ?_)
   refine AnW (fun k23 => ?_)
   refine au ?_
   refine As (.agg [(.int .i64 x11.Rel), p22.v, (.int .i64 x11.Limit), (.int .i64 x11.Cost), (.int .i64 x11.Quota)].toArray) ?_
   iterate 7 refine au ?_
   refine Ci hF (fun hb81 hF => ?_) (fun hb81 hF => ?_)
   · iterate 3 refine au ?_
     cases hF
     exact ⟨_, v4, F5, _, rfl, eqA, entA⟩
   iterate 7 refine au ?_
   refine bnd hF fun r24 hx25 hF => Cx1 (i_lists_ok _ _ _ _ hx25) (fun p26 => ?_)
   iterate 3 refine au ?_
   refine CW_block (K_mov (s := 1) .h (fun es41 G42 => ?_))
   refine CW_loop (m := r24.length) (fun m48 f' cs' => ∃ (g : Fr) (k50 : Nat) (rest51 : List (List Int)) (c43 : List Access) (v44 : Sv) (F45 : List Nat) (G46 : List Nat), m48 = rest51.length ∧ f' = updL g [(2, (pz k1)), (5, v44.v), (6, (.int .i64 (k9 : Int))), (12, v1_0.v), (13, (.int .i64 (a_l.length : Int))), (14, (.int .i64 (k9 : Int))), (27, p26.1.v), (28, (.int .i64 (r24.length : Int))), (29, (.int .i64 (k50 : Int)))] ∧ List.drop k50 r24 = rest51 ∧ Ent cs' [cboR k1 62 (.agg [v0_0.v, v0_1.v, v0_2.v, (.int .i64 a_r.Rounds)].toArray), crd (RdS 86 rd86) v0_0.v a_r.Facts, crd (RdS 3 rdInt) v0_1.v a_r.Values, crd (RdS 45 rd45) v0_2.v a_r.Log, cown (OwnS 45 ow45) F45 v44.v c43, crd (RdS 73 rd73) v1_0.v a_l, cmov 24 1 (OwnS 3 (roE rdInt)) G46 p26.1.v es41 r24.length k50 rest51] ∧ i_Reached_open_L2 a_r k9 rest51 k50 c43 = some o18) ⟨_, 0, _, _, v4, F5, G42, rfl, eqA, rfl, entA, hF⟩ ?_
   rintro m48 _ _ ⟨g49, k50, rest51, c43, v44, F45, G46, rfl, rfl, hd53, hE, hF⟩
   refine K_ent hE ?_
   refine K_pure (c := cmov 24 1 (OwnS 3 (roE rdInt)) G46 p26.1.v es41 r24.length k50 rest51) (.t (.t (.t (.t (.t (.t .h)))))) cmov_bound (fun hbd58 => ?_)
   rcases rest51 with _ | ⟨x52, rest51⟩
   · have hk54 := dn hd53
     rw [i_Reached_open_L2] at hF
     iterate 4 refine au ?_
     refine CdF ?_
     iterate 4 refine au ?_
     cases hF
     exact ⟨_, v44, F45, _, rfl, eqA, entA⟩
   obtain ⟨hk54, hx55, hd56⟩ := drop_cons hd53
   rw [i_Reached_open_L2] at hF
   iterate 4 refine au ?_
   refine CdT ?_
   refine au ?_
   obtain ⟨o59, hio59, hO60⟩ := bind_some hF
   refine K_cut (fun f' cs' => ∃ (c75 : List Access) (v76 : Sv) (F77 : List Nat) (F78 : List Nat) (g : Fr), c75 = o59 ∧ f' = updL g [(2, (pz k1)), (5, v76.v), (6, (.int .i64 (k9 : Int))), (12, v1_0.v), (13, (.int .i64 (a_l.length : Int))), (14, (.int .i64 (k9 : Int))), (27, p26.1.v), (28, (.int .i64 (r24.length : Int))), (29, (.int .i64 (k50 : Int)))] ∧ Ent cs' [cboR k1 62 (.agg [v0_0.v, v0_1.v, v0_2.v, (.int .i64 a_r.Rounds)].toArray), crd (RdS 86 rd86) v0_0.v a_r.Facts, crd (RdS 3 rdInt) v0_1.v a_r.Values, crd (RdS 45 rd45) v0_2.v a_r.Log, cown (OwnS 45 ow45) F77 v76.v c75, crd (RdS 73 rd73) v1_0.v a_l, cmov 24 1 (OwnS 3 (roE rdInt)) F78 p26.1.v es41 r24.length (k50 + 1) rest51]) ?_ ?_
   · replace hF := hio59
     refine CW_block (K_region (C_next1 un_slice (.t (.t (.t (.t (.t (.t .h)))))) (fun p61 G62 he63 => ?_)))
     refine C_idx (R := rdVal 1) (a := p61.1.v) sl54.h ty24.h.sz (.tmp rfl rfl) (.tmp rfl rfl) (.t .h) (Int.natCast_nonneg k50) (idx_hi he63) (fun k64 j65 => ?_)
     refine Al (lo_raw rfl) ?_
     iterate 5 refine au ?_
     refine C_val (V_build ty45.h rfl (vs := [(.int .i64 (k9 : Int)), p61.1.v]) (.cons (.tmp rfl rfl) (.cons (.tmp rfl rfl) .nil)) (cells := [(.int .i64 (k9 : Int)), p61.1.v]) rfl) ?_
     refine AnW (fun k66 => ?_)
     refine As (.agg [(.int .i64 (k9 : Int)), p61.1.v].toArray) ?_
     iterate 5 refine au ?_
     refine bnd hF fun r67 hx68 hF => C_x1 (.cons (.t (.t .h)) (.rd (.t (.t (.t (.t (.t (.t (.t .h))))))) rfl .nil)) (XC_bor frz_own (fun _ => .nil) (XC_pre (.rd (.t .h) rfl (.rd .h rfl .nil)) (X_callS cf58.h (.cons (.tmp rfl rfl) (.cons (.tmp rfl rfl) .nil)) (i_hasAccess_ok a_r.Log v0_2 ({ Method := (k9 : Int), Values := x52 } : Access) p61.1 _ hx68)))) (fun _ => ?_)
     iterate 2 refine au ?_
     refine Ci hF (fun hb74 hF => ?_) (fun hb74 hF => ?_)
     · iterate 3 refine au ?_
       refine C_new rfl (N_buildSliceT (g := true) sl33.h ty45.h (.cons (.tmp rfl rfl) .nil) (vs := [(.agg [(.int .i64 (k9 : Int)), p61.1.v].toArray)]) rfl rfl rfl (by intro v hv; simp at hv; rcases hv with rfl <;> rfl)) (fun k70 => ?_)
       refine Cv1 (.cons .h (.cons .h .nil)) (own_lit (Ro := ow45) (E := 45) (F := (p61.2 ++ [])) (xs := ([({ Method := (k9 : Int), Values := x52 } : Access)] : List Access)) (MkL_cons (mk45 (a := ({ Method := (k9 : Int), Values := x52 } : Access))) MkL_nil apps) rfl rfl) ?_
       refine bnd hF fun z71 hx72 hF => C_x1 (.cons (.t (.t (.t (.t (.t (.t (.t (.t (.t .h))))))))) (.cons .h .nil)) (X_appendO (Ro := ow45) sl33.h ni33 ty45.h rfl rfl rfl (.tmp rfl rfl) (.tmp rfl rfl) hx72 src_own) (fun p73 => ?_)
       iterate 2 refine au ?_
       cases hF
       exact ⟨_, p73.1, p73.2, G62, _, rfl, eqA, entA⟩
     refine au ?_
     cases hF
     exact ⟨_, v44, F45, G62, _, rfl, eqA, entA⟩
   rintro _ _ ⟨c75, v76, F77, F78, g80, rfl, rfl, hE⟩
   replace hF := hO60
   try dsimp only at hF
   refine K_ent hE ?_
   iterate 4 refine au ?_
   rw [wk k50]
   exact ⟨_, Nat.lt_succ_self _, _, k50 + 1, rest51, _, v76, F77, F78, rfl, eqA, hd56, entA, hF⟩
 rintro _ _ ⟨c82, v83, F84, g86, rfl, rfl, hE⟩
 replace hF := hO19
 try dsimp only at hF
 refine K_ent hE ?_
 iterate 4 refine au ?_
 rw [wk k9]
 exact ⟨_, Nat.lt_succ_self _, _, k9 + 1, rest10, _, v83, F84, rfl, eqA, hd15, entA, hF⟩
def i_bit (a_is : Bool) : Option (Int) :=
 if a_is then (
   some 1)
 else (
   some 0)
theorem i_bit_ok (a_is : Bool) (R : Int) (hF : i_bit a_is = some R) :
   Fw.Spec Tryz.prog 198 [(.bool a_is)] [] (fun _ : Unit => (.int .i64 R)) (fun _ => []) := by
 refine Se 4 Tryz.func198 [.tmp 2] ?_
 intro H0 F0
 unfold i_bit at hF
 iterate 7 refine au ?_
 refine Ci hF (fun hb1 hF => ?_) (fun hb1 hF => ?_)
 · iterate 4 refine au ?_
   cases hF
   exact Er ()
 iterate 5 refine au ?_
 cases hF
 exact Er ()
def i_copyFact (a_f : Fact) : Option (Fact) :=
 (g_slices_Clone_int_int a_f.Values).bind fun r3 =>
 some ({ Rel := a_f.Rel, Values := r3 } : Fact)
theorem i_copyFact_ok (a_f : Fact) (v0_1 : Sv) (R : Fact) (hF : i_copyFact a_f = some R) :
   Fw.Spec Tryz.prog 177 [(.agg [(.int .i64 a_f.Rel), v0_1.v].toArray)] [crd (RdS 3 rdInt) v0_1.v a_f.Values] (fun p : Sv × List Nat => (.agg [(.int .i64 R.Rel), p.1.v].toArray)) (fun p => [cown (OwnS 3 (roE rdInt)) p.2 p.1.v R.Values]) := by
 refine Se 9 Tryz.func177 [.cell 2 86] ?_
 intro H0 F0
 unfold i_copyFact at hF
 refine au ?_
 refine AbR (fun k1 => ?_)
 refine AnW (fun k2 => ?_)
 refine au ?_
 refine K_draw [0, 1, 2, 3, 4, 5, 6] [0, 1, 0, 4, 12, 31, 63] [4, 6] mixed (by decide +kernel) ?_
 iterate 4 refine du ?_
 refine bnd hF fun r3 hx4 hF => Dx1 (g_slices_Clone_int_int_ok _ _ _ hx4) (fun p5 => ?_)
 refine D_val rfl .no (fun ha => V_build ty86.h rfl (vs := [(.int .i64 a_f.Rel), p5.1.v]) (.cons (EN ha (.tmp rfl rfl) rfl) (.cons (EN ha (.tmp rfl rfl) rfl) .nil)) (cells := [(.int .i64 a_f.Rel), p5.1.v]) rfl) ?_
 refine D_act1 rfl rfl .no (.cons (.t .h) .nil) .nil (fun ha => X_storeB (e' := (.agg [(.int .i64 a_f.Rel), p5.1.v].toArray)) (v := (.agg [(.int .i64 a_f.Rel), p5.1.v].toArray)) ty86.h.sz (EN ha (.tmp rfl rfl) rfl) (EN ha (.tmp rfl rfl) rfl) rfl rfl rfl rfl rfl) (fun _ => ?_)
 refine du ?_
 refine au ?_
 cases hF
 exact Er (p5.1, p5.2)
def i_copyFacts_L1 : List Fact → Nat → (List Fact) → Option ((List Fact))
 | [], k8, c2 => some c2
 | x10 :: rest9, k8, c2 => (i_copyFact x10).bind fun r21 =>
   (app c2 ([r21] : List Fact)).bind fun z25 =>
   i_copyFacts_L1 rest9 (k8 + 1) z25
def i_copyFacts (a_l : List Fact) : Option ((List Fact)) :=
 i_copyFacts_L1 a_l 0 ([] : List Fact)
theorem i_copyFacts_ok (a_l : List Fact) (v0_0 : Sv) (R : (List Fact)) (hF : i_copyFacts a_l = some R) :
   Fw.Spec Tryz.prog 103 [v0_0.v] [crd (RdS 86 rd86) v0_0.v a_l] (fun p : Sv × List Nat => p.1.v) (fun p => [cown (OwnS 86 ow86) p.2 p.1.v R]) := by
 refine Se 20 Tryz.func103 [.tmp 2] ?_
 intro H0 F0
 unfold i_copyFacts at hF
 iterate 4 refine au ?_
 refine C_new rfl (N_buildSliceT (g := true) sl27.h ty86.h .nil (vs := []) rfl rfl rfl (by simp)) (fun k1 => ?_)
 refine Cv1 (.cons .h .nil) (own_lit (Ro := ow86) (E := 86) (F := []) (xs := ([] : List Fact)) MkL_nil rfl rfl) ?_
 iterate 8 refine au ?_
 refine CW_block (CW_loop (m := a_l.length) (fun m6 f' cs' => ∃ (g : Fr) (k8 : Nat) (rest9 : List Fact) (c2 : List Fact) (v3 : Sv) (F4 : List Nat), m6 = rest9.length ∧ f' = updL g [(3, v3.v), (7, v0_0.v), (8, (.int .i64 (a_l.length : Int))), (9, (.int .i64 (k8 : Int)))] ∧ List.drop k8 a_l = rest9 ∧ Ent cs' [cown (OwnS 86 ow86) F4 v3.v c2, crd (RdS 86 rd86) v0_0.v a_l] ∧ i_copyFacts_L1 rest9 k8 c2 = some R) ⟨_, 0, _, _, ⟨(some ⟨k1, 0, none⟩), 0, 1⟩, (k1 :: []), rfl, eqA, rfl, entA, hF⟩ ?_)
 rintro m6 _ _ ⟨g7, k8, rest9, c2, v3, F4, rfl, rfl, hd11, hE, hF⟩
 refine Kb hE a_l (fun hbd16 => ?_)
 rcases rest9 with _ | ⟨x10, rest9⟩
 · have hk12 := dn hd11
   rw [i_copyFacts_L1] at hF
   iterate 4 refine au ?_
   refine CdF ?_
   iterate 9 refine au ?_
   cases hF
   exact Er (v3, F4)
 obtain ⟨hk12, hx13, hd14⟩ := drop_cons hd11
 rw [i_copyFacts_L1] at hF
 iterate 4 refine au ?_
 refine CdT ?_
 iterate 3 refine au ?_
 refine Ai hx13 (fun k17 j18 => ?_)
 refine AlA1 (ul86_0_86 x10) la86_0_86 (fun p19 => ?_)
 refine AnW (fun k20 => ?_)
 refine As (.agg [(.int .i64 x10.Rel), p19.v].toArray) ?_
 iterate 4 refine au ?_
 refine bnd hF fun r21 hx22 hF => Cx1 (i_copyFact_ok _ _ _ hx22) (fun p23 => ?_)
 refine C_new rfl (N_buildSliceT (g := true) sl27.h ty86.h (.cons (.tmp rfl rfl) .nil) (vs := [(.agg [(.int .i64 r21.Rel), p23.1.v].toArray)]) rfl rfl rfl (by intro v hv; simp at hv; rcases hv with rfl <;> rfl)) (fun k24 => ?_)
 refine Cv1 (.cons .h (.cons .h .nil)) (own_lit (Ro := ow86) (E := 86) (F := (p23.2 ++ [])) (xs := ([r21] : List Fact)) (MkL_cons mk86 MkL_nil apps) rfl rfl) ?_
 refine bnd hF fun z25 hx26 hF => C_x1 (.cons (.t (.t (.t (.t .h)))) (.cons .h .nil)) (X_appendO (Ro := ow86) sl27.h ni27 ty86.h rfl rfl rfl (.tmp rfl rfl) (.tmp rfl rfl) hx26 src_own) (fun p27 => ?_)
 iterate 6 refine au ?_
 rw [wk k8]
 exact ⟨_, Nat.lt_succ_self _, _, k8 + 1, rest9, _, p27.1, p27.2, rfl, eqA, hd14, entA, hF⟩
def i_matches_1_L1 (a_f : Fact) (a_e2 : Access) : List Int → Nat → Option (Bool)
 | [], k5 => some false
 | x7 :: rest6, k5 => (ix a_f.Values x7).bind fun x16 =>
   (ix a_e2.Values (k5 : Int)).bind fun x22 =>
   if ((x16 : Int) != x22) then (
     some true)
   else (
     i_matches_1_L1 a_f a_e2 rest6 (k5 + 1))
def i_matches_1 (a_f : Fact) (a_e1 : Method) (a_e2 : Access) : Option (Bool) :=
 if ((a_f.Rel : Int) != a_e1.Rel) then (
   some true)
 else (
   i_matches_1_L1 a_f a_e2 a_e1.Inputs 0)
theorem i_matches_1_ok (a_f : Fact) (v0_1 : Sv) (kc1 : Nat) (a_e1 : Method) (vc1_1 : Sv) (kc2 : Nat) (a_e2 : Access) (vc2_1 : Sv) (R : Bool) (hF : i_matches_1 a_f a_e1 a_e2 = some R) :
   Fw.Spec Tryz.prog 104 [(.agg [(.int .i64 a_f.Rel), v0_1.v].toArray), (pz kc1), (pz kc2)] [crd (RdS 3 rdInt) v0_1.v a_f.Values, cboR kc1 73 (.agg [(.int .i64 a_e1.Rel), vc1_1.v, (.int .i64 a_e1.Limit), (.int .i64 a_e1.Cost), (.int .i64 a_e1.Quota)].toArray), crd (RdS 3 rdInt) vc1_1.v a_e1.Inputs, cboR kc2 45 (.agg [(.int .i64 a_e2.Method), vc2_1.v].toArray), crd (RdS 3 rdInt) vc2_1.v a_e2.Values] (fun _ : Unit => (.bool R)) (fun _ => []) := by
 refine Se 32 Tryz.func104 [.tmp 4] ?_
 intro H0 F0
 unfold i_matches_1 at hF
 refine au ?_
 refine AbR (fun k1 => ?_)
 iterate 10 refine au ?_
 refine Ci hF (fun hb30 hF => ?_) (fun hb30 hF => ?_)
 · iterate 4 refine au ?_
   cases hF
   exact Er ()
 iterate 8 refine au ?_
 refine CW_block (CW_loop (m := a_e1.Inputs.length) (fun m3 f' cs' => ∃ (g : Fr) (k5 : Nat) (rest6 : List Int), m3 = rest6.length ∧ f' = updL g [(2, (pz kc2)), (3, (pz k1)), (13, vc1_1.v), (14, (.int .i64 (a_e1.Inputs.length : Int))), (15, (.int .i64 (k5 : Int)))] ∧ List.drop k5 a_e1.Inputs = rest6 ∧ Ent cs' [cboR kc2 45 (.agg [(.int .i64 a_e2.Method), vc2_1.v].toArray), crd (RdS 3 rdInt) vc2_1.v a_e2.Values, cboR k1 86 (.agg [(.int .i64 a_f.Rel), v0_1.v].toArray), crd (RdS 3 rdInt) v0_1.v a_f.Values, crd (RdS 3 rdInt) vc1_1.v a_e1.Inputs] ∧ i_matches_1_L1 a_f a_e2 rest6 k5 = some R) ⟨_, 0, _, rfl, eqA, rfl, entA, hF⟩ ?_)
 rintro m3 _ _ ⟨g4, k5, rest6, rfl, rfl, hd8, hE, hF⟩
 refine Kb hE a_e1.Inputs (fun hbd13 => ?_)
 rcases rest6 with _ | ⟨x7, rest6⟩
 · have hk9 := dn hd8
   rw [i_matches_1_L1] at hF
   iterate 4 refine au ?_
   refine CdF ?_
   iterate 8 refine au ?_
   cases hF
   exact Er ()
 obtain ⟨hk9, hx10, hd11⟩ := drop_cons hd8
 rw [i_matches_1_L1] at hF
 iterate 4 refine au ?_
 refine CdT ?_
 iterate 4 refine au ?_
 refine Ai hx10 (fun k14 j15 => ?_)
 refine Al ls3_0 ?_
 iterate 3 refine au ?_
 refine K_draw [0, 1, 2, 3, 4, 5, 6, 7, 8, 9, 10] [0, 1, 0, 7, 15, 0, 32, 0, 224, 480, 1023] [] mixed (by decide +kernel) ?_
 iterate 3 refine du ?_
 refine bnd hF fun x16 hx17 hF => ?_
 obtain ⟨hp18, hx19⟩ := ix_some hx17
 refine Di hx19 (fun k20 j21 => ?_)
 refine Dl ls3_0 ?_
 iterate 3 refine du ?_
 refine bnd hF fun x22 hx23 hF => ?_
 obtain ⟨hp24, hx25⟩ := ix_some hx23
 refine Di hx25 (fun k26 j27 => ?_)
 refine Dl ls3_0 ?_
 iterate 2 refine du ?_
 refine Ci hF (fun hb29 hF => ?_) (fun hb29 hF => ?_)
 · iterate 4 refine au ?_
   cases hF
   exact Er ()
 iterate 5 refine au ?_
 rw [wk k5]
 exact ⟨_, Nat.lt_succ_self _, _, k5 + 1, rest6, rfl, eqA, hd11, entA, hF⟩
def g_slices_IndexFunc_impl_Fact_impl_Fact_imatches1_L1 (a_e1 : Method) (a_e2 : Access) : List Fact → Nat → Option (Int)
 | [], k4 => some (-1)
 | x6 :: rest5, k4 => (i_matches_1 x6 a_e1 a_e2).bind fun r16 =>
   if r16 then (
     some (k4 : Int))
   else (
     g_slices_IndexFunc_impl_Fact_impl_Fact_imatches1_L1 a_e1 a_e2 rest5 (k4 + 1))
def g_slices_IndexFunc_impl_Fact_impl_Fact_imatches1 (a_s : List Fact) (a_e1 : Method) (a_e2 : Access) : Option (Int) :=
 g_slices_IndexFunc_impl_Fact_impl_Fact_imatches1_L1 a_e1 a_e2 a_s 0
theorem g_slices_IndexFunc_impl_Fact_impl_Fact_imatches1_ok (a_s : List Fact) (v0_0 : Sv) (kc1 : Nat) (a_e1 : Method) (vc1_1 : Sv) (kc2 : Nat) (a_e2 : Access) (vc2_1 : Sv) (R : Int) (hF : g_slices_IndexFunc_impl_Fact_impl_Fact_imatches1 a_s a_e1 a_e2 = some R) :
   Fw.Spec Tryz.prog 176 [v0_0.v, (.func (.func 104) [].toArray [(pz kc1), (pz kc2)].toArray)] [crd (RdS 86 rd86) v0_0.v a_s, cboR kc1 73 (.agg [(.int .i64 a_e1.Rel), vc1_1.v, (.int .i64 a_e1.Limit), (.int .i64 a_e1.Cost), (.int .i64 a_e1.Quota)].toArray), crd (RdS 3 rdInt) vc1_1.v a_e1.Inputs, cboR kc2 45 (.agg [(.int .i64 a_e2.Method), vc2_1.v].toArray), crd (RdS 3 rdInt) vc2_1.v a_e2.Values] (fun _ : Unit => (.int .i64 R)) (fun _ => []) := by
 refine Se 19 Tryz.func176 [.tmp 4] ?_
 intro H0 F0
 unfold g_slices_IndexFunc_impl_Fact_impl_Fact_imatches1 at hF
 iterate 9 refine au ?_
 refine CW_block (CW_loop (m := a_s.length) (fun m2 f' cs' => ∃ (g : Fr) (k4 : Nat) (rest5 : List Fact), m2 = rest5.length ∧ f' = updL g [(0, v0_0.v), (1, (.func (.func 104) [].toArray [(pz kc1), (pz kc2)].toArray)), (7, (.int .i64 (a_s.length : Int))), (8, (.int .i64 (k4 : Int)))] ∧ List.drop k4 a_s = rest5 ∧ Ent cs' [crd (RdS 86 rd86) v0_0.v a_s, cboR kc1 73 (.agg [(.int .i64 a_e1.Rel), vc1_1.v, (.int .i64 a_e1.Limit), (.int .i64 a_e1.Cost), (.int .i64 a_e1.Quota)].toArray), crd (RdS 3 rdInt) vc1_1.v a_e1.Inputs, cboR kc2 45 (.agg [(.int .i64 a_e2.Method), vc2_1.v].toArray), crd (RdS 3 rdInt) vc2_1.v a_e2.Values] ∧ g_slices_IndexFunc_impl_Fact_impl_Fact_imatches1_L1 a_e1 a_e2 rest5 k4 = some R) ⟨_, 0, _, rfl, eqA, rfl, entA, hF⟩ ?_)
 rintro m2 _ _ ⟨g3, k4, rest5, rfl, rfl, hd7, hE, hF⟩
 refine Kb hE a_s (fun hbd12 => ?_)
 rcases rest5 with _ | ⟨x6, rest5⟩
 · have hk8 := dn hd7
   rw [g_slices_IndexFunc_impl_Fact_impl_Fact_imatches1_L1] at hF
   iterate 4 refine au ?_
   refine CdF ?_
   iterate 8 refine au ?_
   cases hF
   exact Er ()
 obtain ⟨hk8, hx9, hd10⟩ := drop_cons hd7
 rw [g_slices_IndexFunc_impl_Fact_impl_Fact_imatches1_L1] at hF
 iterate 4 refine au ?_
 refine CdT ?_
 iterate 10 refine au ?_
 refine Ai hx9 (fun k13 j14 => ?_)
 refine AlA1 (ul86_0_86 x6) la86_0_86 (fun p15 => ?_)
 refine bnd hF fun r16 hx17 hF => C_x0 (.rd .h rfl (.rd (.t (.t (.t .h))) rfl (.rd (.t (.t (.t (.t .h)))) rfl (.rd (.t (.t (.t (.t (.t .h))))) rfl (.rd (.t (.t (.t (.t (.t (.t .h)))))) rfl .nil))))) (X_callCS cf104.h (.tmp rfl rfl) (.cons (.tmp rfl rfl) .nil) (i_matches_1_ok x6 p15 kc1 a_e1 vc1_1 kc2 a_e2 vc2_1 _ hx17)) (fun _ => ?_)
 refine au ?_
 refine Ci hF (fun hb20 hF => ?_) (fun hb20 hF => ?_)
 · iterate 5 refine au ?_
   cases hF
   exact Er ()
 iterate 5 refine au ?_
 rw [wk k4]
 exact ⟨_, Nat.lt_succ_self _, _, k4 + 1, rest5, rfl, eqA, hd10, entA, hF⟩
def g_slices_DeleteFunc_impl_Fact_impl_Fact_imatches1 (a_s : List Fact) (a_e1 : Method) (a_e2 : Access) : Option (List Fact) :=
 delL (fun a_q => i_matches_1 a_q a_e1 a_e2) a_s
theorem g_slices_DeleteFunc_impl_Fact_impl_Fact_imatches1_sh (qs : List (Value × Fact)) (v : Sv) (F : List Nat) (kc1 : Nat) (a_e1 : Method) (vc1_1 : Sv) (kc2 : Nat) (a_e2 : Access) (vc2_1 : Sv) (p : Value × Fact → Bool) (hcl : ∀ q ∈ qs, i_matches_1 q.2 a_e1 a_e2 = some (p q)) (hidx : g_slices_IndexFunc_impl_Fact_impl_Fact_imatches1 (qs.map Prod.snd) a_e1 a_e2 = some (ixF p qs 0)) (hbd : qs.length < 4611686018427387904) :
   Fw.Spec Tryz.prog 102 [v.v, (.func (.func 104) [].toArray [(.pointer (some ⟨kc1, 0, some 0⟩)), (.pointer (some ⟨kc2, 0, some 0⟩))].toArray)] [cown (OwnS 86 (roE (rq rd86))) F v.v qs, cboR kc1 73 (.agg [(.int .i64 a_e1.Rel), vc1_1.v, (.int .i64 a_e1.Limit), (.int .i64 a_e1.Cost), (.int .i64 a_e1.Quota)].toArray), crd (RdS 3 rdInt) vc1_1.v a_e1.Inputs, cboR kc2 45 (.agg [(.int .i64 a_e2.Method), vc2_1.v].toArray), crd (RdS 3 rdInt) vc2_1.v a_e2.Values] (fun q : Sv × List Nat => q.1.v) (fun q => [cown (OwnS 86 (roE (rq rd86))) q.2 q.1.v (qs.filter fun a => !p a)]) := by
 refine Spec_enter (n := 42) Tryz.func102 rfl rfl (rs := [.tmp 4]) rfl rfl rfl ?_
 intro H0 F0
 refine K_region ?_
 refine C_val (V_assign (v := (.slice none 0 0)) EV.nilSlice) ?_
 refine C_nil ?_
 refine K_region ?_
 refine C_val (V_move (v := v.v) (.tmp rfl rfl)) ?_
 refine C_val (V_move (v := (.func (.func 104) [].toArray [(.pointer (some ⟨kc1, 0, some 0⟩)), (.pointer (some ⟨kc2, 0, some 0⟩))].toArray)) (.tmp rfl rfl)) ?_
 refine C_x1 (.cons .h (.rd .h rfl (.rd (.t .h) rfl (.rd (.t (.t .h)) rfl (.rd (.t (.t (.t .h))) rfl .nil))))) (XC_borR frz_rq (fun _ => .nil) (XC_pre (.rd (.t (.t (.t (.t .h)))) rfl (.rd .h rfl (.rd (.t .h) rfl (.rd (.t (.t .h)) rfl (.rd (.t (.t (.t .h))) rfl .nil))))) (X_callS cf176.h (.cons (.tmp rfl rfl) (.cons (.tmp rfl rfl) .nil)) (g_slices_IndexFunc_impl_Fact_impl_Fact_imatches1_ok (qs.map Prod.snd) v kc1 a_e1 vc1_1 kc2 a_e2 vc2_1 _ hidx)))) (fun _ => ?_)
 generalize hR : ixF p qs 0 = R0
 refine C_val (V_assign (v := (.int .i64 R0)) (.tmp rfl rfl)) ?_
 refine C_nil ?_
 refine K_in ?_
 refine K_region ?_
 refine C_val (V_move (v := (.int .i64 R0)) (.tmp rfl rfl)) ?_
 refine C_val (V_eql (i := R0) (j := (-1)) (.tmp rfl rfl) (.int _ _)) ?_
 refine C_nil ?_
 refine CW_cond (b := (R0 == (-1 : Int))) (.tmp rfl rfl) (fun hb => ?_) (fun hb => ?_)
 · refine K_region ?_
   refine C_val (V_move (v := v.v) (.tmp rfl rfl)) ?_
   refine C_val (V_assign (v := v.v) (.tmp rfl rfl)) ?_
   refine C_nil ?_
   refine CW_ret ?_
   have e : qs.filter (fun q => !p q) = qs := ixF_none (k := 0) (by rw [hR]; simpa using hb)
   rw [e]
   exact End_ret (v, F) (.tmp rfl rfl .nil) rfl (.sel (.cons .h .nil))
 refine CW_skip ?_
 obtain ⟨i0, hi0, hi1⟩ : ∃ i : Nat, R0 = (i : Int) ∧ i < qs.length := by
   rcases ixF_range p qs 0 with h | ⟨i, h, hi⟩
   · rw [hR] at h; subst h; simp at hb
   · exact ⟨i, by rw [← hR, h], by omega⟩
 subst hi0
 refine K_in ?_
 refine K_region ?_
 refine C_val (V_move (v := (.int .i64 (i0 : Int))) (.tmp rfl rfl)) ?_
 refine C_val (V_add (i := (i0 : Int)) (j := 1) (.tmp rfl rfl) (.int _ _)) ?_
 rw [show IntKind.i64.wrap ((i0 : Int) + 1) = ((i0 + 1 : Nat) : Int) from by rw [wrap_in (by omega) (by omega)]; rfl]
 refine C_val (V_assign (v := (.int .i64 ((i0 + 1 : Nat) : Int))) (.tmp rfl rfl)) ?_
 refine C_nil ?_
 refine CW_block ?_
 refine CW_loop (m := qs.length - (i0 + 1)) (fun m f' cs' => ∃ (g : Fr) (cur : List (Value × Fact)) (i j : Nat) (F' : List Nat), m = qs.length - j ∧ f' = updL g [(0, v.v), (1, (.func (.func 104) [].toArray [(.pointer (some ⟨kc1, 0, some 0⟩)), (.pointer (some ⟨kc2, 0, some 0⟩))].toArray)), (5, (.int .i64 (i : Int))), (6, (.int .i64 (j : Int)))] ∧ DelI p qs cur i j ∧ Ent cs' [cown (OwnS 86 (roE (rq rd86))) F' v.v cur, cboR kc1 73 (.agg [(.int .i64 a_e1.Rel), vc1_1.v, (.int .i64 a_e1.Limit), (.int .i64 a_e1.Cost), (.int .i64 a_e1.Quota)].toArray), crd (RdS 3 rdInt) vc1_1.v a_e1.Inputs, cboR kc2 45 (.agg [(.int .i64 a_e2.Method), vc2_1.v].toArray), crd (RdS 3 rdInt) vc2_1.v a_e2.Values]) ⟨_, qs, i0, i0 + 1, F, rfl, (EqL.cons rfl (EqL.cons rfl (EqL.cons rfl (EqL.cons rfl (EqL.nil))))).eq, DelI.init (by rw [hR]), .sel (.cons .h (.rd .h rfl (.rd (.t .h) rfl (.rd (.t (.t .h)) rfl (.rd (.t (.t (.t .h))) rfl .nil)))))⟩ ?_
 rintro m _ _ ⟨g, cur, i, j, F', rfl, rfl, hI, hE⟩
 refine K_ent hE ?_
 clear hE
 refine K_in ?_
 refine K_region ?_
 refine C_val (V_move (v := (.int .i64 (j : Int))) (.tmp rfl rfl)) ?_
 refine C_val (V_move (v := v.v) (.tmp rfl rfl)) ?_
 refine C_at .h (fun hp => V_lenR (l := cur.length) sl27.h (.tmp rfl rfl) (cown_len hp)) ?_
 refine C_val (V_lss (i := (j : Int)) (j := (cur.length : Int)) (.tmp rfl rfl) (.tmp rfl rfl)) ?_
 refine C_nil ?_
 have hlen := hI.len
 have hij := hI.lt
 have hjl := hI.le
 refine CW_cond (b := (decide ((j : Int) < (cur.length : Int)))) (.tmp rfl rfl) (fun hb2 => ?_) (fun hb2 => ?_)
 · refine CW_skip ?_
   have hj : j < qs.length := by simp at hb2; omega
   obtain ⟨x, hx1, hx2⟩ := hI.at hj
   refine K_block ?_
   refine K_region ?_
   refine C_val (V_move (v := v.v) (.tmp rfl rfl)) ?_
   refine C_val (V_move (v := (.int .i64 (j : Int))) (.tmp rfl rfl)) ?_
   refine C_idxO sl27.h ty86.h.sz (.tmp rfl rfl) (.tmp rfl rfl) .h (by simp; omega) (fun k hk => ?_)
   refine C_ldOW (a := x) (ul := fun i : Sv => [(.int .i64 x.2.Rel), i.v]) (cc := fun i => [crd (RdS 3 rdInt) i.v x.2.Values]) ag86.h ty86.h.sz rfl (.tmp rfl rfl) .h hk (by simpa using hx1) (fun H e h => by obtain ⟨-, v0, h1, h0⟩ := h; exact ⟨v0, h1, rfl, by simp [crd, h0]⟩) (fun w => ?_)
   refine C_new rfl (N_allocT (g := true) ty86.h rfl rfl) (fun k1 => ?_)
   refine C_x1 (.cons .h .nil) (X_storeB (e := (.agg [(.int .i64 0), (.slice none 0 0)].toArray)) (e' := (.agg [(.int .i64 x.2.Rel), w.v].toArray)) (v := (.agg [(.int .i64 x.2.Rel), w.v].toArray)) ty86.h.sz (.tmp rfl rfl) (.tmp rfl rfl) rfl rfl rfl rfl rfl) (fun _ => ?_)
   refine C_nil ?_
   refine K_region ?_
   refine C_val (V_move (v := (.func (.func 104) [].toArray [(.pointer (some ⟨kc1, 0, some 0⟩)), (.pointer (some ⟨kc2, 0, some 0⟩))].toArray)) (.tmp rfl rfl)) ?_
   refine C_at .h (fun hp => V_loadBox ag86.h ty86.h.sz rfl (.tmp rfl rfl) hp.2 rfl) ?_
   refine C_x0 (.rd (.t (.t .h)) rfl (.rd (.t (.t (.t (.t .h)))) rfl (.rd (.t (.t (.t (.t (.t .h))))) rfl (.rd (.t (.t (.t (.t (.t (.t .h)))))) rfl (.rd (.t (.t (.t (.t (.t (.t (.t .h))))))) rfl .nil))))) (X_callCS cf104.h (.tmp rfl rfl) (.cons (.tmp rfl rfl) .nil) (i_matches_1_ok x.2 w kc1 a_e1 vc1_1 kc2 a_e2 vc2_1 _ (hcl x (List.mem_of_getElem? hx2)))) (fun _ => ?_)
   refine C_val (V_not (b := p x) (.tmp rfl rfl)) ?_
   refine C_nil ?_
   refine CW_cond (b := (!p x)) (.tmp rfl rfl) (fun hb3 => ?_) (fun hb3 => ?_)
   · refine K_region ?_
     refine C_val (V_move (v := v.v) (.tmp rfl rfl)) ?_
     refine C_val (V_move (v := (.int .i64 (i : Int))) (.tmp rfl rfl)) ?_
     refine C_at .h (fun hp => V_loadBox ag86.h ty86.h.sz rfl (.tmp rfl rfl) hp.2 rfl) ?_
     have hii : (decide ((0 : Int) ≤ (i : Int)) && decide ((i : Int) < (cur.length : Int))) = true := by simp; omega
     refine C_idxO sl27.h ty86.h.sz (.tmp rfl rfl) (.tmp rfl rfl) (.t (.t (.t .h))) hii (fun k2 hk2 => ?_)
     refine C_x1 (.cons (.t (.t (.t .h))) (.rd (.t .h) rfl .nil)) (X_storeO (Ro := roE (rq rd86)) (a := x) (i := (i : Int)) ty86.h.sz rfl (.tmp rfl rfl) (.tmp rfl rfl) hk2 hii Mk_rd (fun _ _ _ _ h => by obtain ⟨-, -, v0, rfl, _⟩ := h; rfl)) (fun F2 => ?_)
     refine C_nil ?_
     refine CW_region ?_
     refine C_val (V_move (v := (.int .i64 (i : Int))) (.tmp rfl rfl)) ?_
     refine C_val (V_add (i := (i : Int)) (j := 1) (.tmp rfl rfl) (.int _ _)) ?_
     rw [show IntKind.i64.wrap ((i : Int) + 1) = ((i + 1 : Nat) : Int) from by rw [wrap_in (by omega) (by omega)]; rfl]
     refine C_val (V_assign (v := (.int .i64 ((i + 1 : Nat) : Int))) (.tmp rfl rfl)) ?_
     refine C_nil ?_
     refine CW_region ?_
     refine C_val (V_move (v := (.int .i64 (j : Int))) (.tmp rfl rfl)) ?_
     refine C_val (V_add (i := (j : Int)) (j := 1) (.tmp rfl rfl) (.int _ _)) ?_
     rw [show IntKind.i64.wrap ((j : Int) + 1) = ((j + 1 : Nat) : Int) from by rw [wrap_in (by omega) (by omega)]; rfl]
     refine C_val (V_assign (v := (.int .i64 ((j + 1 : Nat) : Int))) (.tmp rfl rfl)) ?_
     refine C_nil ?_
     exact ⟨_, by omega, _, cur.set i x, i + 1, j + 1, F2, rfl, (EqL.cons rfl (EqL.cons rfl (EqL.cons rfl (EqL.cons rfl (EqL.nil))))).eq, hI.no hx2 (by simpa using hb3), .sel (.cons .h (.rd (.t (.t (.t .h))) rfl (.rd (.t (.t (.t (.t .h)))) rfl (.rd (.t (.t (.t (.t (.t .h))))) rfl (.rd (.t (.t (.t (.t (.t (.t .h)))))) rfl .nil)))))⟩
   · refine CW_skip ?_
     refine CW_region ?_
     refine C_val (V_move (v := (.int .i64 (j : Int))) (.tmp rfl rfl)) ?_
     refine C_val (V_add (i := (j : Int)) (j := 1) (.tmp rfl rfl) (.int _ _)) ?_
     rw [show IntKind.i64.wrap ((j : Int) + 1) = ((j + 1 : Nat) : Int) from by rw [wrap_in (by omega) (by omega)]; rfl]
     refine C_val (V_assign (v := (.int .i64 ((j + 1 : Nat) : Int))) (.tmp rfl rfl)) ?_
     refine C_nil ?_
     exact ⟨_, by omega, _, cur, i, j + 1, F', rfl, (EqL.cons rfl (EqL.cons rfl (EqL.cons rfl (EqL.cons rfl (EqL.nil))))).eq, hI.yes hx2 (by simpa using hb3), .sel (.cons (.t (.t (.t .h))) (.rd (.t (.t (.t .h))) rfl (.rd (.t (.t (.t (.t .h)))) rfl (.rd (.t (.t (.t (.t (.t .h))))) rfl (.rd (.t (.t (.t (.t (.t (.t .h)))))) rfl .nil)))))⟩
 · refine CW_exit ?_
   refine CThen_exit ?_
   refine CThen_exit ?_
   refine CIn_self ?_
   have hj : qs.length ≤ j := by simp at hb2; omega
   refine K_pure .h (own_form (by intro e; rw [e] at hlen; simp at hlen; omega)) (fun hv => ?_)
   obtain ⟨k0, m0, rfl, hm0⟩ := hv
   refine K_region ?_
   refine C_val (V_move (v := (.slice (some ⟨k0, 0, none⟩) cur.length m0)) (.tmp rfl rfl)) ?_
   refine C_val (V_move (v := (.int .i64 (i : Int))) (.tmp rfl rfl)) ?_
   refine C_sliceLo sl27.h ty86.h.sz (.tmp rfl rfl) (.tmp rfl rfl) .h (by omega) (by omega) ?_
   refine C_x1 (.cons .h .nil) (X_clear (l := cur.length) (m := m0) (k := k0) (i := i) (j := cur.length - i) sl27.h ty86.h rfl rfl rfl rfl rfl (by omega) (.tmp rfl rfl)) (fun _ => ?_)
   refine C_nil ?_
   refine K_region ?_
   refine C_val (V_move (v := (.slice (some ⟨k0, 0, none⟩) cur.length m0)) (.tmp rfl rfl)) ?_
   refine C_val (V_move (v := (.int .i64 (i : Int))) (.tmp rfl rfl)) ?_
   refine C_sliceHi sl27.h ty86.h.sz (.tmp rfl rfl) hm0 (.tmp rfl rfl) .h rfl (by omega) (by omega) (by omega) ?_
   refine C_val (V_assign (v := (.slice (some ⟨k0, 0, none⟩) i 2)) (.tmp rfl rfl)) ?_
   refine C_nil ?_
   refine CW_ret ?_
   rw [← hI.fin hj]
   exact End_ret (⟨some ⟨k0, 0, none⟩, i, 2⟩, F') (.tmp rfl rfl .nil) rfl (.sel (.cons .h .nil))
theorem g_slices_DeleteFunc_impl_Fact_impl_Fact_imatches1_ok (a_s : List Fact) (v0_0 : Sv) (F0_0 : List Nat) (kc1 : Nat) (a_e1 : Method) (vc1_1 : Sv) (kc2 : Nat) (a_e2 : Access) (vc2_1 : Sv) (R : List Fact) (hF : g_slices_DeleteFunc_impl_Fact_impl_Fact_imatches1 a_s a_e1 a_e2 = some R) :
   Fw.Spec Tryz.prog 102 [v0_0.v, (.func (.func 104) [].toArray [(.pointer (some ⟨kc1, 0, some 0⟩)), (.pointer (some ⟨kc2, 0, some 0⟩))].toArray)] [cown (OwnS 86 ow86) F0_0 v0_0.v a_s, cboR kc1 73 (.agg [(.int .i64 a_e1.Rel), vc1_1.v, (.int .i64 a_e1.Limit), (.int .i64 a_e1.Cost), (.int .i64 a_e1.Quota)].toArray), crd (RdS 3 rdInt) vc1_1.v a_e1.Inputs, cboR kc2 45 (.agg [(.int .i64 a_e2.Method), vc2_1.v].toArray), crd (RdS 3 rdInt) vc2_1.v a_e2.Values] (fun p : Sv × List Nat => p.1.v) (fun p => [cown (OwnS 86 ow86) p.2 p.1.v R]) := by
 unfold g_slices_DeleteFunc_impl_Fact_impl_Fact_imatches1 at hF
 obtain ⟨h1, h2⟩ := delL_some hF
 refine Spec_pure cown_bound (fun hb => ?_)
 refine Spec_deep (R := rd86) rfl (fun es F1 hel => ⟨(es.zip a_s).filter (fun a => !(i_matches_1 a.2 a_e1 a_e2).getD false), List.filter_sublist, by rw [h2]; exact zip_filter (fun a => (i_matches_1 a a_e1 a_e2).getD false) es a_s hel, ?_⟩)
 refine g_slices_DeleteFunc_impl_Fact_impl_Fact_imatches1_sh (es.zip a_s) v0_0 F1 kc1 a_e1 vc1_1 kc2 a_e2 vc2_1 (fun a => (i_matches_1 a.2 a_e1 a_e2).getD false) (fun q hq => h1 q.2 (List.of_mem_zip hq).2) ?_ (by simp; omega)
 rw [List.map_snd_zip (Nat.le_of_eq hel.symm), ← ixF_map Prod.snd (fun a => (i_matches_1 a a_e1 a_e2).getD false), List.map_snd_zip (Nat.le_of_eq hel.symm)]
 exact index_loop (L := g_slices_IndexFunc_impl_Fact_impl_Fact_imatches1_L1 a_e1 a_e2) (fun _ => rfl) (fun _ _ _ => rfl) a_s 0 h1
def i_matches (a_l : List Method) (a_facts : List Fact) (a_a : Access) : Option ((List Fact)) :=
 (ix a_l a_a.Method).bind fun x2 =>
 (i_copyFacts a_facts).bind fun r13 =>
 (g_slices_DeleteFunc_impl_Fact_impl_Fact_imatches1 r13 x2 a_a).bind fun r16 =>
 some r16
theorem i_matches_ok (a_l : List Method) (v0_0 : Sv) (a_facts : List Fact) (v1_0 : Sv) (a_a : Access) (v2_1 : Sv) (R : (List Fact)) (hF : i_matches a_l a_facts a_a = some R) :
   Fw.Spec Tryz.prog 43 [v0_0.v, v1_0.v, (.agg [(.int .i64 a_a.Method), v2_1.v].toArray)] [crd (RdS 73 rd73) v0_0.v a_l, crd (RdS 86 rd86) v1_0.v a_facts, crd (RdS 3 rdInt) v2_1.v a_a.Values] (fun p : Sv × List Nat => p.1.v) (fun p => [cown (OwnS 86 ow86) p.2 p.1.v R]) := by
 refine Se 17 Tryz.func43 [.tmp 6] ?_
 intro H0 F0
 unfold i_matches at hF
 refine au ?_
 refine AbR (fun k1 => ?_)
 iterate 6 refine au ?_
 refine bnd hF fun x2 hx3 hF => ?_
 obtain ⟨hp4, hx5⟩ := ix_some hx3
 refine Ai hx5 (fun k6 j7 => ?_)
 refine AlA1 (ul73_0_73 x2) la73_0_73 (fun p8 => ?_)
 refine AnW (fun k9 => ?_)
 refine As (.agg [(.int .i64 x2.Rel), p8.v, (.int .i64 x2.Limit), (.int .i64 x2.Cost), (.int .i64 x2.Quota)].toArray) ?_
 refine au ?_
 refine K_frz .h frz_blk ?_
 iterate 2 refine au ?_
 refine bnd hF fun r13 hx14 hF => Cx1 (i_copyFacts_ok _ _ _ hx14) (fun p15 => ?_)
 refine C_val (V_makeFunc (fn := .func 104) (vs := []) (us := [(pz k9), (pz k1)]) .nil (.cons (.tmp rfl rfl) (.cons (.tmp rfl rfl) .nil))) ?_
 refine bnd hF fun r16 hx17 hF => Cx1 (g_slices_DeleteFunc_impl_Fact_impl_Fact_imatches1_ok _ _ _ _ _ _ _ _ _ _ hx17) (fun p18 => ?_)
 iterate 3 refine au ?_
 cases hF
 exact Er (p18.1, p18.2)
def i_HasFact_1 (a_x : Fact) (a_e1 : Fact) : Option (Bool) :=
 (i_CompareFacts a_x a_e1).bind fun r2 =>
 some ((r2 : Int) == 0)
theorem i_HasFact_1_ok (a_x : Fact) (v0_1 : Sv) (kc1 : Nat) (a_e1 : Fact) (vc1_1 : Sv) (R : Bool) (hF : i_HasFact_1 a_x a_e1 = some R) :
   Fw.Spec Tryz.prog 183 [(.agg [(.int .i64 a_x.Rel), v0_1.v].toArray), (pz kc1)] [crd (RdS 3 rdInt) v0_1.v a_x.Values, cboR kc1 86 (.agg [(.int .i64 a_e1.Rel), vc1_1.v].toArray), crd (RdS 3 rdInt) vc1_1.v a_e1.Values] (fun _ : Unit => (.bool R)) (fun _ => []) := by
 refine Se 8 Tryz.func183 [.tmp 3] ?_
 intro H0 F0
 unfold i_HasFact_1 at hF
 refine au ?_
 refine AbR (fun k1 => ?_)
 iterate 5 refine au ?_
 refine bnd hF fun r2 hx3 hF => Cx0 (i_CompareFacts_ok _ _ _ _ _ hx3) (fun _ => ?_)
 iterate 4 refine au ?_
 cases hF
 exact Er ()
def g_slices_IndexFunc_impl_Fact_impl_Fact_iHasFact1_L1 (a_e1 : Fact) : List Fact → Nat → Option (Int)
 | [], k4 => some (-1)
 | x6 :: rest5, k4 => (i_HasFact_1 x6 a_e1).bind fun r16 =>
   if r16 then (
     some (k4 : Int))
   else (
     g_slices_IndexFunc_impl_Fact_impl_Fact_iHasFact1_L1 a_e1 rest5 (k4 + 1))
def g_slices_IndexFunc_impl_Fact_impl_Fact_iHasFact1 (a_s : List Fact) (a_e1 : Fact) : Option (Int) :=
 g_slices_IndexFunc_impl_Fact_impl_Fact_iHasFact1_L1 a_e1 a_s 0
theorem g_slices_IndexFunc_impl_Fact_impl_Fact_iHasFact1_ok (a_s : List Fact) (v0_0 : Sv) (kc1 : Nat) (a_e1 : Fact) (vc1_1 : Sv) (R : Int) (hF : g_slices_IndexFunc_impl_Fact_impl_Fact_iHasFact1 a_s a_e1 = some R) :
   Fw.Spec Tryz.prog 176 [v0_0.v, (.func (.func 183) [].toArray [(pz kc1)].toArray)] [crd (RdS 86 rd86) v0_0.v a_s, cboR kc1 86 (.agg [(.int .i64 a_e1.Rel), vc1_1.v].toArray), crd (RdS 3 rdInt) vc1_1.v a_e1.Values] (fun _ : Unit => (.int .i64 R)) (fun _ => []) := by
 refine Se 19 Tryz.func176 [.tmp 4] ?_
 intro H0 F0
 unfold g_slices_IndexFunc_impl_Fact_impl_Fact_iHasFact1 at hF
 iterate 9 refine au ?_
 refine CW_block (CW_loop (m := a_s.length) (fun m2 f' cs' => ∃ (g : Fr) (k4 : Nat) (rest5 : List Fact), m2 = rest5.length ∧ f' = updL g [(0, v0_0.v), (1, (.func (.func 183) [].toArray [(pz kc1)].toArray)), (7, (.int .i64 (a_s.length : Int))), (8, (.int .i64 (k4 : Int)))] ∧ List.drop k4 a_s = rest5 ∧ Ent cs' [crd (RdS 86 rd86) v0_0.v a_s, cboR kc1 86 (.agg [(.int .i64 a_e1.Rel), vc1_1.v].toArray), crd (RdS 3 rdInt) vc1_1.v a_e1.Values] ∧ g_slices_IndexFunc_impl_Fact_impl_Fact_iHasFact1_L1 a_e1 rest5 k4 = some R) ⟨_, 0, _, rfl, eqA, rfl, entA, hF⟩ ?_)
 rintro m2 _ _ ⟨g3, k4, rest5, rfl, rfl, hd7, hE, hF⟩
 refine Kb hE a_s (fun hbd12 => ?_)
 rcases rest5 with _ | ⟨x6, rest5⟩
 · have hk8 := dn hd7
   rw [g_slices_IndexFunc_impl_Fact_impl_Fact_iHasFact1_L1] at hF
   iterate 4 refine au ?_
   refine CdF ?_
   iterate 8 refine au ?_
   cases hF
   exact Er ()
 obtain ⟨hk8, hx9, hd10⟩ := drop_cons hd7
 rw [g_slices_IndexFunc_impl_Fact_impl_Fact_iHasFact1_L1] at hF
 iterate 4 refine au ?_
 refine CdT ?_
 iterate 10 refine au ?_
 refine Ai hx9 (fun k13 j14 => ?_)
 refine AlA1 (ul86_0_86 x6) la86_0_86 (fun p15 => ?_)
 refine bnd hF fun r16 hx17 hF => C_x0 (.rd .h rfl (.rd (.t (.t (.t .h))) rfl (.rd (.t (.t (.t (.t .h)))) rfl .nil))) (X_callCS cf183.h (.tmp rfl rfl) (.cons (.tmp rfl rfl) .nil) (i_HasFact_1_ok x6 p15 kc1 a_e1 vc1_1 _ hx17)) (fun _ => ?_)
 refine au ?_
 refine Ci hF (fun hb20 hF => ?_) (fun hb20 hF => ?_)
 · iterate 5 refine au ?_
   cases hF
   exact Er ()
 iterate 5 refine au ?_
 rw [wk k4]
 exact ⟨_, Nat.lt_succ_self _, _, k4 + 1, rest5, rfl, eqA, hd10, entA, hF⟩
def g_slices_ContainsFunc_impl_Fact_impl_Fact_iHasFact1 (a_s : List Fact) (a_e1 : Fact) : Option (Bool) :=
 (g_slices_IndexFunc_impl_Fact_impl_Fact_iHasFact1 a_s a_e1).bind fun r1 =>
 some (decide ((0 : Int) ≤ r1))
theorem g_slices_ContainsFunc_impl_Fact_impl_Fact_iHasFact1_ok (a_s : List Fact) (v0_0 : Sv) (kc1 : Nat) (a_e1 : Fact) (vc1_1 : Sv) (R : Bool) (hF : g_slices_ContainsFunc_impl_Fact_impl_Fact_iHasFact1 a_s a_e1 = some R) :
   Fw.Spec Tryz.prog 182 [v0_0.v, (.func (.func 183) [].toArray [(pz kc1)].toArray)] [crd (RdS 86 rd86) v0_0.v a_s, cboR kc1 86 (.agg [(.int .i64 a_e1.Rel), vc1_1.v].toArray), crd (RdS 3 rdInt) vc1_1.v a_e1.Values] (fun _ : Unit => (.bool R)) (fun _ => []) := by
 refine Se 9 Tryz.func182 [.tmp 4] ?_
 intro H0 F0
 unfold g_slices_ContainsFunc_impl_Fact_impl_Fact_iHasFact1 at hF
 iterate 6 refine au ?_
 refine bnd hF fun r1 hx2 hF => Cx0 (g_slices_IndexFunc_impl_Fact_impl_Fact_iHasFact1_ok _ _ _ _ _ _ hx2) (fun _ => ?_)
 iterate 4 refine au ?_
 cases hF
 exact Er ()
def i_HasFact (a_l : List Fact) (a_f : Fact) : Option (Bool) :=
 (g_slices_ContainsFunc_impl_Fact_impl_Fact_iHasFact1 a_l a_f).bind fun r2 =>
 some r2
theorem i_HasFact_ok (a_l : List Fact) (v0_0 : Sv) (a_f : Fact) (v1_1 : Sv) (R : Bool) (hF : i_HasFact a_l a_f = some R) :
   Fw.Spec Tryz.prog 119 [v0_0.v, (.agg [(.int .i64 a_f.Rel), v1_1.v].toArray)] [crd (RdS 86 rd86) v0_0.v a_l, crd (RdS 3 rdInt) v1_1.v a_f.Values] (fun _ : Unit => (.bool R)) (fun _ => []) := by
 refine Se 8 Tryz.func119 [.tmp 4] ?_
 intro H0 F0
 unfold i_HasFact at hF
 refine au ?_
 refine AbR (fun k1 => ?_)
 iterate 4 refine au ?_
 refine C_val (V_makeFunc (fn := .func 183) (vs := []) (us := [(pz k1)]) .nil (.cons (.tmp rfl rfl) .nil)) ?_
 refine bnd hF fun r2 hx3 hF => Cx0 (g_slices_ContainsFunc_impl_Fact_impl_Fact_iHasFact1_ok _ _ _ _ _ _ hx3) (fun _ => ?_)
 iterate 3 refine au ?_
 cases hF
 exact Er ()
def i_added_1 (a_x : Fact) (a_e1 : Fact) : Option (Bool) :=
 (i_CompareFacts a_x a_e1).bind fun r2 =>
 some (decide ((0 : Int) < r2))
theorem i_added_1_ok (a_x : Fact) (v0_1 : Sv) (kc1 : Nat) (a_e1 : Fact) (vc1_1 : Sv) (R : Bool) (hF : i_added_1 a_x a_e1 = some R) :
   Fw.Spec Tryz.prog 184 [(.agg [(.int .i64 a_x.Rel), v0_1.v].toArray), (pz kc1)] [crd (RdS 3 rdInt) v0_1.v a_x.Values, cboR kc1 86 (.agg [(.int .i64 a_e1.Rel), vc1_1.v].toArray), crd (RdS 3 rdInt) vc1_1.v a_e1.Values] (fun _ : Unit => (.bool R)) (fun _ => []) := by
 refine Se 8 Tryz.func184 [.tmp 3] ?_
 intro H0 F0
 unfold i_added_1 at hF
 refine au ?_
 refine AbR (fun k1 => ?_)
 iterate 5 refine au ?_
 refine bnd hF fun r2 hx3 hF => Cx0 (i_CompareFacts_ok _ _ _ _ _ hx3) (fun _ => ?_)
 iterate 4 refine au ?_
 cases hF
 exact Er ()
def g_slices_IndexFunc_impl_Fact_impl_Fact_iadded1_L1 (a_e1 : Fact) : List Fact → Nat → Option (Int)
 | [], k4 => some (-1)
 | x6 :: rest5, k4 => (i_added_1 x6 a_e1).bind fun r16 =>
   if r16 then (
     some (k4 : Int))
   else (
     g_slices_IndexFunc_impl_Fact_impl_Fact_iadded1_L1 a_e1 rest5 (k4 + 1))
def g_slices_IndexFunc_impl_Fact_impl_Fact_iadded1 (a_s : List Fact) (a_e1 : Fact) : Option (Int) :=
 g_slices_IndexFunc_impl_Fact_impl_Fact_iadded1_L1 a_e1 a_s 0
theorem g_slices_IndexFunc_impl_Fact_impl_Fact_iadded1_ok (a_s : List Fact) (v0_0 : Sv) (kc1 : Nat) (a_e1 : Fact) (vc1_1 : Sv) (R : Int) (hF : g_slices_IndexFunc_impl_Fact_impl_Fact_iadded1 a_s a_e1 = some R) :
   Fw.Spec Tryz.prog 176 [v0_0.v, (.func (.func 184) [].toArray [(pz kc1)].toArray)] [crd (RdS 86 rd86) v0_0.v a_s, cboR kc1 86 (.agg [(.int .i64 a_e1.Rel), vc1_1.v].toArray), crd (RdS 3 rdInt) vc1_1.v a_e1.Values] (fun _ : Unit => (.int .i64 R)) (fun _ => []) := by
 refine Se 19 Tryz.func176 [.tmp 4] ?_
 intro H0 F0
 unfold g_slices_IndexFunc_impl_Fact_impl_Fact_iadded1 at hF
 iterate 9 refine au ?_
 refine CW_block (CW_loop (m := a_s.length) (fun m2 f' cs' => ∃ (g : Fr) (k4 : Nat) (rest5 : List Fact), m2 = rest5.length ∧ f' = updL g [(0, v0_0.v), (1, (.func (.func 184) [].toArray [(pz kc1)].toArray)), (7, (.int .i64 (a_s.length : Int))), (8, (.int .i64 (k4 : Int)))] ∧ List.drop k4 a_s = rest5 ∧ Ent cs' [crd (RdS 86 rd86) v0_0.v a_s, cboR kc1 86 (.agg [(.int .i64 a_e1.Rel), vc1_1.v].toArray), crd (RdS 3 rdInt) vc1_1.v a_e1.Values] ∧ g_slices_IndexFunc_impl_Fact_impl_Fact_iadded1_L1 a_e1 rest5 k4 = some R) ⟨_, 0, _, rfl, eqA, rfl, entA, hF⟩ ?_)
 rintro m2 _ _ ⟨g3, k4, rest5, rfl, rfl, hd7, hE, hF⟩
 refine Kb hE a_s (fun hbd12 => ?_)
 rcases rest5 with _ | ⟨x6, rest5⟩
 · have hk8 := dn hd7
   rw [g_slices_IndexFunc_impl_Fact_impl_Fact_iadded1_L1] at hF
   iterate 4 refine au ?_
   refine CdF ?_
   iterate 8 refine au ?_
   cases hF
   exact Er ()
 obtain ⟨hk8, hx9, hd10⟩ := drop_cons hd7
 rw [g_slices_IndexFunc_impl_Fact_impl_Fact_iadded1_L1] at hF
 iterate 4 refine au ?_
 refine CdT ?_
 iterate 10 refine au ?_
 refine Ai hx9 (fun k13 j14 => ?_)
 refine AlA1 (ul86_0_86 x6) la86_0_86 (fun p15 => ?_)
 refine bnd hF fun r16 hx17 hF => C_x0 (.rd .h rfl (.rd (.t (.t (.t .h))) rfl (.rd (.t (.t (.t (.t .h)))) rfl .nil))) (X_callCS cf184.h (.tmp rfl rfl) (.cons (.tmp rfl rfl) .nil) (i_added_1_ok x6 p15 kc1 a_e1 vc1_1 _ hx17)) (fun _ => ?_)
 refine au ?_
 refine Ci hF (fun hb20 hF => ?_) (fun hb20 hF => ?_)
 · iterate 5 refine au ?_
   cases hF
   exact Er ()
 iterate 5 refine au ?_
 rw [wk k4]
 exact ⟨_, Nat.lt_succ_self _, _, k4 + 1, rest5, rfl, eqA, hd10, entA, hF⟩
def g_slices_Insert_impl_Fact_impl_Fact (a_s : List Fact) (a_i : Int) (a_v : List Fact) : Option (List Fact) :=
 match a_v with
 | [a] => if 0 ≤ a_i ∧ a_i.toNat ≤ a_s.length ∧ a_s.length + 1 < 4294967296 then some (a_s.take a_i.toNat ++ a :: a_s.drop a_i.toNat) else none
 | _ => none
set_option maxHeartbeats 4000000 in
theorem g_slices_Insert_impl_Fact_impl_Fact_raw (es : List Value) (e : Value) (v u : Sv) (F F2 : List Nat) (i : Nat) (hi : i ≤ es.length) (hb : es.length + 1 < 4294967296) : Fw.Spec Tryz.prog 185 [v.v, .int .i64 (i : Int), u.v] [cown (OwnS 86 (roE (rvs 2))) F v.v es, cown (OwnS 86 (roE (rvs 2))) F2 u.v [e]] (fun q : Sv × List Nat => q.1.v) (fun q => [cown (OwnS 86 (roE (rvs 2))) q.2 q.1.v (es.take i ++ e :: es.drop i)]) := by
 refine Spec_enter (n := 95) Tryz.func185 rfl rfl (rs := [.tmp 6]) rfl rfl rfl ?_
 intro H0 F0
 refine K_region ?_
 refine C_val (V_assign (v := (.slice none 0 0)) EV.nilSlice) ?_
 refine C_nil ?_
 refine K_region ?_
 refine C_val (V_move (v := v.v) (.tmp rfl rfl)) ?_
 refine C_val (V_move (v := (.int .i64 (i : Int))) (.tmp rfl rfl)) ?_
 refine C_x1 (.cons .h .nil) (X_sliceLoE sl27.h ty86.h.sz (.tmp rfl rfl) (.tmp rfl rfl) hi) (fun w0 => ?_)
 refine C_nil ?_
 refine K_region ?_
 refine C_val (V_move (v := u.v) (.tmp rfl rfl)) ?_
 refine C_at (.t .h) (fun hp => V_lenR (l := 1) sl27.h (.tmp rfl rfl) (cown_len hp)) ?_
 refine C_val (V_assign (v := (.int .i64 ((1 : Nat) : Int))) (.tmp rfl rfl)) ?_
 refine C_nil ?_
 refine K_in ?_
 refine K_region ?_
 refine C_val (V_move (v := (.int .i64 ((1 : Nat) : Int))) (.tmp rfl rfl)) ?_
 refine C_val (V_eql (i := ((1 : Nat) : Int)) (j := 0) (.tmp rfl rfl) (.int _ _)) ?_
 refine C_nil ?_
 refine CW_cond (b := (((1 : Nat) : Int) == 0)) (.tmp rfl rfl) (fun hb0 => absurd hb0 (by decide)) (fun _ => ?_)
 refine CW_skip ?_
 refine K_region ?_
 refine C_val (V_move (v := v.v) (.tmp rfl rfl)) ?_
 refine C_at .h (fun hp => V_lenR (l := es.length) sl27.h (.tmp rfl rfl) (cown_len hp)) ?_
 refine C_val (V_assign (v := (.int .i64 (es.length : Int))) (.tmp rfl rfl)) ?_
 refine C_nil ?_
 refine K_in ?_
 refine K_region ?_
 refine C_val (V_move (v := (.int .i64 (i : Int))) (.tmp rfl rfl)) ?_
 refine C_val (V_move (v := (.int .i64 (es.length : Int))) (.tmp rfl rfl)) ?_
 refine C_val (V_eql (i := (i : Int)) (j := (es.length : Int)) (.tmp rfl rfl) (.tmp rfl rfl)) ?_
 refine C_nil ?_
 refine CW_cond (b := ((i : Int) == (es.length : Int))) (.tmp rfl rfl) (fun hb1 => ?_) (fun hb1 => ?_)
 · have hie : i = es.length := by simp only [beq_iff_eq] at hb1; omega
   refine K_region ?_
   refine C_val (V_move (v := v.v) (.tmp rfl rfl)) ?_
   refine C_val (V_move (v := u.v) (.tmp rfl rfl)) ?_
   refine C_x1 (.cons .h (.cons .h .nil)) (X_appendO (Ro := (roE (rvs 2))) sl27.h ni27 ty86.h rfl rfl rfl (.tmp rfl rfl) (.tmp rfl rfl) (app_ok (xs := es) (ys := [e]) (by simpa using hb)) src_own) (fun p => ?_)
   refine C_val (V_assign (v := p.1.v) (.tmp rfl rfl)) ?_
   refine C_nil ?_
   refine CW_ret ?_
   rw [hie, List.take_length, List.drop_length]
   exact End_ret p (.tmp rfl rfl .nil) rfl (.sel (.cons .h .nil))
 refine CW_skip ?_
 have hlt : i < es.length := by simp at hb1; omega
 refine K_pure .h (own_form (by intro h; rw [h] at hlt; simp at hlt)) (fun hv => ?_)
 obtain ⟨k0, m0, rfl, hm0⟩ := hv
 refine K_pure (.t .h) (own_form (by simp)) (fun hu => ?_)
 obtain ⟨k1, m1, rfl, hm1⟩ := hu
 refine K_cap (t := 0) (k := k0) (l := es.length) (m := m0) rfl rfl hm0 (by omega) .h rfl (fun c hc => ?_)
 have w1 : IntKind.i64.wrap ((es.length : Int) + ((1 : Nat) : Int)) = ((es.length + 1 : Nat) : Int) := by rw [wrap_in (by omega) (by omega)]; rfl
 have w2 : IntKind.i64.wrap ((i : Int) + ((1 : Nat) : Int)) = ((i + 1 : Nat) : Int) := by rw [wrap_in (by omega) (by omega)]; rfl
 have w3 : IntKind.i64.wrap (((es.length + 1 : Nat) : Int) - (i : Int)) = ((es.length + 1 - i : Nat) : Int) := by rw [wrap_in (by omega) (by omega)]; omega
 have hel : (es.take i ++ e :: es.drop i).length = es.length + 1 := ins_len hi
 refine K_in ?_
 refine K_region ?_
 refine C_val (V_move (v := (.int .i64 (es.length : Int))) (.tmp rfl rfl)) ?_
 refine C_val (V_move (v := (.int .i64 ((1 : Nat) : Int))) (.tmp rfl rfl)) ?_
 refine C_val (V_add (i := (es.length : Int)) (j := ((1 : Nat) : Int)) (.tmp rfl rfl) (.tmp rfl rfl)) ?_
 rw [w1]
 refine C_val (V_move (v := (.slice (some ⟨k0, 0, none⟩) es.length (c + 3))) (.tmp rfl rfl)) ?_
 refine C_at .h (fun hp => V_capO sl27.h hp rfl (.tmp rfl rfl)) ?_
 refine C_val (V_gtr (i := ((es.length + 1 : Nat) : Int)) (j := (c : Int)) (.tmp rfl rfl) (.tmp rfl rfl)) ?_
 refine C_nil ?_
 refine CW_cond (b := (decide ((c : Int) < ((es.length + 1 : Nat) : Int)))) (.tmp rfl rfl) (fun hb2 => ?_) (fun hb2 => ?_)
 · have hcl : c < es.length + 1 := by simp only [decide_eq_true_eq] at hb2; omega
   refine K_region ?_
   refine C_val (V_move (v := (.slice (some ⟨k0, 0, none⟩) es.length (c + 3))) (.tmp rfl rfl)) ?_
   refine C_val (V_move (v := (.int .i64 (i : Int))) (.tmp rfl rfl)) ?_
   refine C_at .h (fun hp => V_sliceCapO (j := i) sl27.h ty86.h.sz hp rfl (.tmp rfl rfl) (.tmp rfl rfl) (by omega)) ?_
   refine C_val (V_move (v := (.int .i64 (es.length : Int))) (.tmp rfl rfl)) ?_
   refine C_val (V_move (v := (.int .i64 ((1 : Nat) : Int))) (.tmp rfl rfl)) ?_
   refine C_val (V_add (i := (es.length : Int)) (j := ((1 : Nat) : Int)) (.tmp rfl rfl) (.tmp rfl rfl)) ?_
   rw [w1]
   refine C_val (V_move (v := (.int .i64 (i : Int))) (.tmp rfl rfl)) ?_
   refine C_val (V_sub (i := ((es.length + 1 : Nat) : Int)) (j := (i : Int)) (.tmp rfl rfl) (.tmp rfl rfl)) ?_
   rw [w3]
   refine C_x2 (.cons .h .nil) (X_appendMake (c := c) (q := es.length + 1 - i) sl27.h ik3 ty86.h rfl rfl rfl rfl rfl rfl (.tmp rfl rfl) (.tmp rfl rfl) (by omega) (by omega) (by omega) (by omega)) (fun k2 => ?_)
   rw [show i + (es.length + 1 - i) = es.length + 1 from by omega]
   refine C_val (V_assign (v := (.slice (some ⟨k2, 0, none⟩) (es.length + 1) 2)) (.tmp rfl rfl)) ?_
   refine C_nil ?_
   refine K_region ?_
   refine C_val (V_move (v := (.slice (some ⟨k2, 0, none⟩) (es.length + 1) 2)) (.tmp rfl rfl)) ?_
   refine C_val (V_move (v := (.int .i64 (i : Int))) (.tmp rfl rfl)) ?_
   refine C_at .h (fun hp => V_sliceLoO (j := i) sl27.h ty86.h.sz hp rfl (.tmp rfl rfl) (.tmp rfl rfl) (by omega)) ?_
   refine C_val (V_move (v := (.slice (some ⟨k1, 0, none⟩) 1 m1)) (.tmp rfl rfl)) ?_
   refine C_x2 (.cons .h (.cons (.t .h) .nil)) (X_copy2 (m1 := 0) (m2 := m1) (ia := i) (ja := 0) (ld := es.length + 1 - i) (ls := 1) (es2 := [e]) (es' := es.take i ++ e :: List.replicate (es.length - i) (.agg [(.int .i64 0), (.slice none 0 0)].toArray)) sl27.h ty86.h.sz rfl rfl rfl (by exact .tmp rfl rfl) (by exact .tmp rfl rfl) (by omega) (by omega) (by rw [List.length_singleton]; omega) (by simp; omega) (ins_l1 (e := e) (z := (.agg [(.int .i64 0), (.slice none 0 0)].toArray)) hlt) (by simp; omega)) (fun _ => ?_)
   refine C_nil ?_
   refine K_draw [0, 1, 2, 3, 4, 5, 6, 7, 8] [0, 0, 0, 6, 15, 0, 0, 96, 255] [8] mixed (by decide +kernel) ?_
   refine D_val rfl .no (fun ha => V_move (v := (.slice (some ⟨k2, 0, none⟩) (es.length + 1) 2)) (EN ha (.tmp rfl rfl) rfl)) ?_
   refine D_val rfl .no (fun ha => V_move (v := (.int .i64 (i : Int))) (EN ha (.tmp rfl rfl) rfl)) ?_
   refine D_val rfl .no (fun ha => V_move (v := (.int .i64 ((1 : Nat) : Int))) (EN ha (.tmp rfl rfl) rfl)) ?_
   refine D_val rfl .no (fun ha => V_add (i := (i : Int)) (j := ((1 : Nat) : Int)) (EN ha (.tmp rfl rfl) rfl) (EN ha (.tmp rfl rfl) rfl)) ?_
   rw [w2]
   refine D_atO rfl .no .h (fun ha hp => V_sliceLoO (j := i + 1) sl27.h ty86.h.sz hp rfl (EN ha (.tmp rfl rfl) rfl) (EN ha (.tmp rfl rfl) rfl) (by omega)) ?_
   refine D_val rfl .no (fun ha => V_move (v := (.slice (some ⟨k0, 0, none⟩) es.length (c + 3))) (EN ha (.tmp rfl rfl) rfl)) ?_
   refine D_val rfl .no (fun ha => V_move (v := (.int .i64 (i : Int))) (EN ha (.tmp rfl rfl) rfl)) ?_
   refine D_atO rfl .no (.t (.t .h)) (fun ha hp => V_sliceLoO (j := i) sl27.h ty86.h.sz hp rfl (EN ha (.tmp rfl rfl) rfl) (EN ha (.tmp rfl rfl) rfl) (by omega)) ?_
   refine D_act2 rfl rfl .no (.cons .h (.cons (.t .h) .nil)) (.dep rfl (.dep rfl .nil)) (fun ha => X_copy2 sl27.h ty86.h.sz rfl rfl rfl (EN ha (.tmp rfl rfl) rfl) (EN ha (.tmp rfl rfl) rfl) (by omega) (by omega) (by omega) (by simp; omega) (ins_l2 (e := e) (z := (.agg [(.int .i64 0), (.slice none 0 0)].toArray)) hlt) (by omega)) (fun _ => ?_)
   refine D_nil ?_
   refine K_region ?_
   refine C_val (V_move (v := (.slice (some ⟨k2, 0, none⟩) (es.length + 1) 2)) (.tmp rfl rfl)) ?_
   refine C_val (V_assign (v := (.slice (some ⟨k2, 0, none⟩) (es.length + 1) 2)) (.tmp rfl rfl)) ?_
   refine C_nil ?_
   refine CW_ret ?_
   rw [hel]
   exact End_ret (⟨some ⟨k2, 0, none⟩, es.length + 1, 2⟩, [k2]) (.tmp rfl rfl .nil) rfl (.sel (.cons .h .nil))
 refine CW_skip ?_
 have hcl : es.length + 1 ≤ c := by simp only [decide_eq_false_iff_not] at hb2; omega
 refine K_region ?_
 refine C_val (V_move (v := (.slice (some ⟨k0, 0, none⟩) es.length (c + 3))) (.tmp rfl rfl)) ?_
 refine C_val (V_move (v := (.int .i64 (es.length : Int))) (.tmp rfl rfl)) ?_
 refine C_val (V_move (v := (.int .i64 ((1 : Nat) : Int))) (.tmp rfl rfl)) ?_
 refine C_val (V_add (i := (es.length : Int)) (j := ((1 : Nat) : Int)) (.tmp rfl rfl) (.tmp rfl rfl)) ?_
 rw [w1]
 refine C_at .h (fun hp => V_sliceCapO (j := es.length + 1) sl27.h ty86.h.sz hp rfl (.tmp rfl rfl) (.tmp rfl rfl) hcl) ?_
 refine C_val (V_assign (v := (.slice (some ⟨k0, 0, none⟩) (es.length + 1) (c + 3))) (.tmp rfl rfl)) ?_
 refine C_nil ?_
 refine K_in ?_
 refine K_region ?_
 refine C_val (V_move (v := (.slice (some ⟨k1, 0, none⟩) 1 m1)) (.tmp rfl rfl)) ?_
 refine C_val (V_move (v := (.slice (some ⟨k0, 0, none⟩) (es.length + 1) (c + 3))) (.tmp rfl rfl)) ?_
 refine C_val (V_move (v := (.int .i64 (i : Int))) (.tmp rfl rfl)) ?_
 refine C_val (V_move (v := (.int .i64 ((1 : Nat) : Int))) (.tmp rfl rfl)) ?_
 refine C_val (V_add (i := (i : Int)) (j := ((1 : Nat) : Int)) (.tmp rfl rfl) (.tmp rfl rfl)) ?_
 rw [w2]
 refine C_at .h (fun hp => V_sliceLoO (j := i + 1) sl27.h ty86.h.sz hp rfl (.tmp rfl rfl) (.tmp rfl rfl) (by omega)) ?_
 refine C_x2 (.cons (.t .h) (.cons .h .nil)) (X_overlaps sl27.h ty86.h.sz rfl hov229 rfl rfl (.tmp rfl rfl) (.tmp rfl rfl) (by omega) (by omega)) (fun _ => ?_)
 refine C_val (V_not (b := false) (.tmp rfl rfl)) ?_
 refine C_nil ?_
 refine CW_cond (b := (!false)) (.tmp rfl rfl) (fun _ => ?_) (fun h => absurd h (by decide))
 refine K_draw [0, 1, 2, 3, 4, 5, 6, 7, 8] [0, 0, 0, 6, 15, 0, 0, 96, 255] [8] mixed (by decide +kernel) ?_
 refine D_val rfl .no (fun ha => V_move (v := (.slice (some ⟨k0, 0, none⟩) (es.length + 1) (c + 3))) (EN ha (.tmp rfl rfl) rfl)) ?_
 refine D_val rfl .no (fun ha => V_move (v := (.int .i64 (i : Int))) (EN ha (.tmp rfl rfl) rfl)) ?_
 refine D_val rfl .no (fun ha => V_move (v := (.int .i64 ((1 : Nat) : Int))) (EN ha (.tmp rfl rfl) rfl)) ?_
 refine D_val rfl .no (fun ha => V_add (i := (i : Int)) (j := ((1 : Nat) : Int)) (EN ha (.tmp rfl rfl) rfl) (EN ha (.tmp rfl rfl) rfl)) ?_
 rw [w2]
 refine D_atO rfl .no (.t .h) (fun ha hp => V_sliceLoO (j := i + 1) sl27.h ty86.h.sz hp rfl (EN ha (.tmp rfl rfl) rfl) (EN ha (.tmp rfl rfl) rfl) (by omega)) ?_
 refine D_val rfl .no (fun ha => V_move (v := (.slice (some ⟨k0, 0, none⟩) (es.length + 1) (c + 3))) (EN ha (.tmp rfl rfl) rfl)) ?_
 refine D_val rfl .no (fun ha => V_move (v := (.int .i64 (i : Int))) (EN ha (.tmp rfl rfl) rfl)) ?_
 refine D_atO rfl .no (.t .h) (fun ha hp => V_sliceLoO (j := i) sl27.h ty86.h.sz hp rfl (EN ha (.tmp rfl rfl) rfl) (EN ha (.tmp rfl rfl) rfl) (by omega)) ?_
 refine D_act1 rfl rfl .no (.cons (.t .h) .nil) (.dep rfl (.dep rfl .nil)) (fun ha => X_copyS sl27.h ty86.h.sz rfl rfl (EN ha (.tmp rfl rfl) rfl) (EN ha (.tmp rfl rfl) rfl) (by omega) (by omega) (by omega) (by omega) (ins_l3 hlt) (by simp; omega)) (fun _ => ?_)
 refine D_nil ?_
 refine K_region ?_
 refine C_val (V_move (v := (.slice (some ⟨k0, 0, none⟩) (es.length + 1) (c + 3))) (.tmp rfl rfl)) ?_
 refine C_val (V_move (v := (.int .i64 (i : Int))) (.tmp rfl rfl)) ?_
 refine C_at .h (fun hp => V_sliceLoO (j := i) sl27.h ty86.h.sz hp rfl (.tmp rfl rfl) (.tmp rfl rfl) (by omega)) ?_
 refine C_val (V_move (v := (.slice (some ⟨k1, 0, none⟩) 1 m1)) (.tmp rfl rfl)) ?_
 refine C_x2 (.cons .h (.cons .h .nil)) (X_copy2 (m1 := 0) (m2 := m1) (ia := i) (ja := 0) (ld := es.length + 1 - i) (ls := 1) (es2 := [e]) (es' := es.take i ++ e :: es.drop i) sl27.h ty86.h.sz rfl rfl rfl (by exact .tmp rfl rfl) (by exact .tmp rfl rfl) (by omega) (by omega) (by rw [List.length_singleton]; omega) (by simp; omega) (ins_l4 (e := e) hlt) (by omega)) (fun _ => ?_)
 refine C_nil ?_
 refine K_region ?_
 refine C_val (V_move (v := (.slice (some ⟨k0, 0, none⟩) (es.length + 1) (c + 3))) (.tmp rfl rfl)) ?_
 refine C_val (V_assign (v := (.slice (some ⟨k0, 0, none⟩) (es.length + 1) (c + 3))) (.tmp rfl rfl)) ?_
 refine C_nil ?_
 refine K_uncap (t := 6) (k := k0) (l := es.length + 1) (c := c) rfl rfl ?_
 refine CW_ret ?_
 rw [hel]
 exact End_ret (⟨some ⟨k0, 0, none⟩, es.length + 1, 2⟩, F) (.tmp rfl rfl .nil) rfl (.sel (.cons .h .nil))
theorem g_slices_Insert_impl_Fact_impl_Fact_ok (a_s : List Fact) (v0_0 : Sv) (F0_0 : List Nat) (a_i : Int) (a_v : List Fact) (v2_0 : Sv) (F2_0 : List Nat) (R : List Fact) (hF : g_slices_Insert_impl_Fact_impl_Fact a_s a_i a_v = some R) :
   Fw.Spec Tryz.prog 185 [v0_0.v, .int .i64 a_i, v2_0.v] [cown (OwnS 86 ow86) F0_0 v0_0.v a_s, cown (OwnS 86 ow86) F2_0 v2_0.v a_v] (fun p : Sv × List Nat => p.1.v) (fun p => [cown (OwnS 86 ow86) p.2 p.1.v R]) := by
 unfold g_slices_Insert_impl_Fact_impl_Fact at hF
 rcases a_v with _ | ⟨a, _ | ⟨_, _⟩⟩
 · simp at hF
 · dsimp only at hF
   split at hF
   · rename_i h
     obtain ⟨h0, h1, h2⟩ := h
     obtain ⟨i, rfl⟩ : ∃ i : Nat, a_i = (i : Int) := ⟨a_i.toNat, by omega⟩
     cases hF
     rw [Int.toNat_natCast] at h1 ⊢
     exact Spec_insD (s := 2) fun es e Fa Fb hl => g_slices_Insert_impl_Fact_impl_Fact_raw es e v0_0 v2_0 Fa Fb i (by omega) (by omega)
   · simp at hF
 · simp at hF
def i_added (a_l : List Fact) (a_f : Fact) : Option ((List Fact)) :=
 (i_HasFact a_l a_f).bind fun r2 =>
 if r2 then (
   some a_l)
 else (
   (g_slices_IndexFunc_impl_Fact_impl_Fact_iadded1 a_l a_f).bind fun r5 =>
   if (decide ((r5 : Int) < 0)) then (
     (i_copyFact a_f).bind fun r8 =>
     (g_slices_Insert_impl_Fact_impl_Fact a_l (a_l.length : Int) ([r8] : List Fact)).bind fun r12 =>
     some r12)
   else (
     (i_copyFact a_f).bind fun r15 =>
     (g_slices_Insert_impl_Fact_impl_Fact a_l r5 ([r15] : List Fact)).bind fun r19 =>
     some r19))
theorem i_added_ok (a_l : List Fact) (v0_0 : Sv) (F0_0 : List Nat) (a_f : Fact) (v1_1 : Sv) (R : (List Fact)) (hF : i_added a_l a_f = some R) :
   Fw.Spec Tryz.prog 120 [v0_0.v, (.agg [(.int .i64 a_f.Rel), v1_1.v].toArray)] [cown (OwnS 86 ow86) F0_0 v0_0.v a_l, crd (RdS 3 rdInt) v1_1.v a_f.Values] (fun p : Sv × List Nat => p.1.v) (fun p => [cown (OwnS 86 ow86) p.2 p.1.v R]) := by
 refine Se 23 Tryz.func120 [.tmp 4] ?_
 intro H0 F0
 unfold i_added at hF
 refine au ?_
 refine AbR (fun k1 => ?_)
 iterate 6 refine au ?_
 refine bnd hF fun r2 hx3 hF => C_x1 (.cons (.t .h) (.rd (.t .h) rfl .nil)) (XC_bor frz_own (fun _ => .nil) (X_callS cf119.h (.cons (.tmp rfl rfl) (.cons (.tmp rfl rfl) .nil)) (i_HasFact_ok a_l v0_0 a_f v1_1 _ hx3))) (fun _ => ?_)
 refine au ?_
 refine Ci hF (fun hb23 hF => ?_) (fun hb23 hF => ?_)
 · iterate 5 refine au ?_
   cases hF
   exact Er (v0_0, F0_0)
 iterate 3 refine au ?_
 refine C_val (V_makeFunc (fn := .func 184) (vs := []) (us := [(pz k1)]) .nil (.cons (.tmp rfl rfl) .nil)) ?_
 refine bnd hF fun r5 hx6 hF => C_x1 (.cons .h (.rd .h rfl (.rd (.t .h) rfl .nil))) (XC_bor frz_own (fun _ => .nil) (X_callS cf176.h (.cons (.tmp rfl rfl) (.cons (.tmp rfl rfl) .nil)) (g_slices_IndexFunc_impl_Fact_impl_Fact_iadded1_ok a_l v0_0 k1 a_f v1_1 _ hx6))) (fun _ => ?_)
 iterate 7 refine au ?_
 refine Ci hF (fun hb22 hF => ?_) (fun hb22 hF => ?_)
 · iterate 9 refine au ?_
   refine bnd hF fun r8 hx9 hF => Cx1 (i_copyFact_ok _ _ _ hx9) (fun p10 => ?_)
   refine C_new rfl (N_buildSliceT (g := true) sl27.h ty86.h (.cons (.tmp rfl rfl) .nil) (vs := [(.agg [(.int .i64 r8.Rel), p10.1.v].toArray)]) rfl rfl rfl (by intro v hv; simp at hv; rcases hv with rfl <;> rfl)) (fun k11 => ?_)
   refine Cv1 (.cons .h (.cons .h .nil)) (own_lit (Ro := ow86) (E := 86) (F := (p10.2 ++ [])) (xs := ([r8] : List Fact)) (MkL_cons mk86 MkL_nil apps) rfl rfl) ?_
   refine bnd hF fun r12 hx13 hF => Cx1 (g_slices_Insert_impl_Fact_impl_Fact_ok _ _ _ _ _ (⟨(some ⟨k11, 0, none⟩), 1, 1⟩) _ _ hx13) (fun p14 => ?_)
   iterate 3 refine au ?_
   cases hF
   exact Er (p14.1, p14.2)
 iterate 5 refine au ?_
 refine bnd hF fun r15 hx16 hF => Cx1 (i_copyFact_ok _ _ _ hx16) (fun p17 => ?_)
 refine C_new rfl (N_buildSliceT (g := true) sl27.h ty86.h (.cons (.tmp rfl rfl) .nil) (vs := [(.agg [(.int .i64 r15.Rel), p17.1.v].toArray)]) rfl rfl rfl (by intro v hv; simp at hv; rcases hv with rfl <;> rfl)) (fun k18 => ?_)
 refine Cv1 (.cons .h (.cons .h .nil)) (own_lit (Ro := ow86) (E := 86) (F := (p17.2 ++ [])) (xs := ([r15] : List Fact)) (MkL_cons mk86 MkL_nil apps) rfl rfl) ?_
 refine bnd hF fun r19 hx20 hF => Cx1 (g_slices_Insert_impl_Fact_impl_Fact_ok _ _ _ _ _ (⟨(some ⟨k18, 0, none⟩), 1, 1⟩) _ _ hx20) (fun p21 => ?_)
 iterate 3 refine au ?_
 cases hF
 exact Er (p21.1, p21.2)
def i_Reached_told_L4 (z168 : List Access) : List Fact → Nat → (List Fact) → (List Int) → Option ((List Fact) × (List Int) × (List Access))
 | [], k220, c210, c213 => some (c210, c213, z168)
 | x222 :: rest221, k220, c210, c213 => (i_added c210 x222).bind fun r235 =>
   (i_withValues c213 x222.Values).bind fun r238 =>
   i_Reached_told_L4 z168 rest221 (k220 + 1) r235 r238
def i_Reached_told_L1 (a_r : Reached) (a_l : List Method) (a_facts : List Fact) (r1 : (List Access)) : List Access → Nat → (List Fact) → (List Int) → (List Access) → Option (Bool × Reached)
 | [], k143, c130, c133, c136 => (i_bit (decide ((0 : Int) < (r1.length : Int)))).bind fun r152 =>
   some ((decide ((0 : Int) < (r1.length : Int))), ({ Facts := c130, Values := c133, Log := c136, Rounds := (IntKind.i64.wrap (a_r.Rounds + r152)) } : Reached))
 | x145 :: rest144, k143, c130, c133, c136 => ((app c136 [x145]).bind fun z168 =>
     (i_matches a_l a_facts x145).bind fun r171 =>
     i_Reached_told_L4 z168 r171 0 c130 c133).bind fun o155 =>
   match o155 with
   | (c242, c245, c248) => i_Reached_told_L1 a_r a_l a_facts r1 rest144 (k143 + 1) c242 c245 c248
def i_Reached_told (a_r : Reached) (a_l : List Method) (a_facts : List Fact) : Option (Bool × Reached) :=
 (i_Reached_open a_r a_l).bind fun r1 =>
 i_Reached_told_L1 a_r a_l a_facts r1 r1 0 a_r.Facts a_r.Values a_r.Log
theorem i_Reached_told_ok (kq0 : Nat) (a_r : Reached) (v0_0 : Sv) (F0_0 : List Nat) (v0_1 : Sv) (F0_1 : List Nat) (v0_2 : Sv) (F0_2 : List Nat) (a_l : List Method) (v1_0 : Sv) (a_facts : List Fact) (v2_0 : Sv) (R : Bool × Reached) (hF : i_Reached_told a_r a_l a_facts = some R) :
   Fw.Spec Tryz.prog 131 [(.pointer (some ⟨kq0, 0, some 0⟩)), v1_0.v, v2_0.v] [cbox kq0 62 (.agg [v0_0.v, v0_1.v, v0_2.v, (.int .i64 a_r.Rounds)].toArray), cown (OwnS 86 ow86) F0_0 v0_0.v a_r.Facts, cown (OwnS 3 (roE rdInt)) F0_1 v0_1.v a_r.Values, cown (OwnS 45 ow45) F0_2 v0_2.v a_r.Log, crd (RdS 73 rd73) v1_0.v a_l, crd (RdS 86 rd86) v2_0.v a_facts] (fun _ : Sv × List Nat × Sv × List Nat × Sv × List Nat => (.bool R.1)) (fun p => [cbox kq0 62 (.agg [p.1.v, p.2.2.1.v, p.2.2.2.2.1.v, (.int .i64 R.2.Rounds)].toArray), cown (OwnS 86 ow86) p.2.1 p.1.v R.2.Facts, cown (OwnS 3 (roE rdInt)) p.2.2.2.1 p.2.2.1.v R.2.Values, cown (OwnS 45 ow45) p.2.2.2.2.2 p.2.2.2.2.1.v R.2.Log]) := by
 refine Spec_enter (n := 77) Tryz.func131 rfl rfl (rs := [.tmp 6]) rfl rfl rfl ?_
 intro H0 F0
 unfold i_Reached_told at hF
 refine K_region (C_val (V_assign (v := (.bool false)) (.bool _)) ?_)
 refine C_nil (K_region (Cm (.pointer (some ⟨kq0, 0, some 0⟩)) rfl rfl ?_))
 refine C_val (V_nilCheck (v := (.pointer (some ⟨kq0, 0, some 0⟩))) rfl (.tmp rfl rfl)) ?_
 refine C_at .h (fun hp => V_loadBox ag62.h ty62.h.sz rfl (.tmp rfl rfl) hp.2 rfl) ?_
 refine Cm v1_0.v rfl rfl ?_
 obtain ⟨r1, hx2, hF⟩ := bind_some hF
 refine C_x4 (.cons (.t (.t (.t .h))) (.cons (.t (.t .h)) (.cons (.t .h) (.rd (.t .h) rfl .nil)))) (XC_borL (pre := _) (.cons frz_own (.cons frz_own (.cons frz_own .nil))) (fun _ => (.cons .nil)) (X_callS cf197.h (.cons (.tmp rfl rfl) (.cons (.tmp rfl rfl) .nil)) (i_Reached_open_ok a_r v0_0 v0_1 v0_2 a_l v1_0 _ hx2))) (fun p3 => ?_)
 refine Ca p3.1.v rfl rfl ?_
 refine C_nil (K_in (K_region (Cm p3.1.v rfl rfl ?_)))
 refine C_at (.t (.t (.t .h))) (fun hp => V_lenR (l := r1.length) sl33.h (.tmp rfl rfl) (cown_len hp)) ?_
 refine C_val (V_move (v := (.int .i64 0)) (.int _ _)) ?_
 refine C_nil (CW_block (K_mov (s := 2) (.t (.t (.t .h))) (fun es15 G16 => ?_)))
 refine CW_loop (m := r1.length) (fun m141 f' cs' => ∃ (g : Fr) (k143 : Nat) (rest144 : List Access) (c130 : List Fact) (c133 : List Int) (c136 : List Access) (v131 : Sv) (F132 : List Nat) (v134 : Sv) (F135 : List Nat) (v137 : Sv) (F138 : List Nat) (G139 : List Nat), m141 = rest144.length ∧ f' = updL g [(0, (.pointer (some ⟨kq0, 0, some 0⟩))), (1, v1_0.v), (2, v2_0.v), (7, p3.1.v), (17, p3.1.v), (18, (.int .i64 (r1.length : Int))), (19, (.int .i64 (k143 : Int)))] ∧ List.drop k143 r1 = rest144 ∧ Ent cs' [cbox kq0 62 (.agg [v131.v, v134.v, v137.v, (.int .i64 a_r.Rounds)].toArray), cown (OwnS 86 ow86) F132 v131.v c130, cown (OwnS 3 (roE rdInt)) F135 v134.v c133, cown (OwnS 45 ow45) F138 v137.v c136, crd (RdS 73 rd73) v1_0.v a_l, crd (RdS 86 rd86) v2_0.v a_facts, cmov 45 2 ow45 G139 p3.1.v es15 r1.length k143 rest144] ∧ i_Reached_told_L1 a_r a_l a_facts r1 rest144 k143 c130 c133 c136 = some R) ⟨_, 0, _, _, _, _, v0_0, F0_0, v0_1, F0_1, v0_2, F0_2, G16, rfl, (EqL.cons rfl (EqL.cons rfl (EqL.cons rfl (EqL.cons rfl (EqL.cons rfl (EqL.cons rfl (EqL.cons rfl (EqL.nil)))))))).eq, rfl, (.sel (.cons (.t (.t (.t (.t .h)))) (.cons (.t (.t (.t .h))) (.cons (.t (.t .h)) (.cons (.t .h) (.rd (.t .h) rfl (.rd (.t (.t .h)) rfl (.cons .h .nil)))))))), hF⟩ ?_
 clear hF
 rintro m141 _ _ ⟨g142, k143, rest144, c130, c133, c136, v131, F132, v134, F135, v137, F138, G139, rfl, rfl, hd146, hE, hF⟩
 refine K_ent hE ?_
 clear hE
 refine K_pure (c := cmov 45 2 ow45 G139 p3.1.v es15 r1.length k143 rest144) (.t (.t (.t (.t (.t (.t .h)))))) cmov_bound (fun hbd151 => ?_)
 rcases rest144 with _ | ⟨x145, rest144⟩
 · have hk147 := List.drop_eq_nil_iff.1 hd146
   have hfe150 : (decide (((k143 : Int) : Int) < (r1.length : Int))) = false := decide_eq_false (by omega)
   rw [i_Reached_told_L1] at hF
   refine K_region (C_val (V_lss (i := (k143 : Int)) (j := (r1.length : Int)) (.tmp rfl rfl) (.tmp rfl rfl)) ?_)
   refine C_nil (K_in (CW_cond (b := (decide (((k143 : Int) : Int) < (r1.length : Int)))) (.tmp rfl rfl) (fun hb => absurd (hfe150.symm.trans hb) (by decide)) (fun _ => ?_)))
   refine CW_exit ?_
   iterate 2 refine CThen_exit ?_
   refine CIn_self (K_draw [0, 1, 2, 3, 4, 5, 6, 7, 8, 9, 10, 11] [0, 1, 3, 7, 0, 16, 48, 112, 255, 511, 1023, 2047] [7, 11] mixed (by decide +kernel) ?_)
   refine Dm (.pointer (some ⟨kq0, 0, some 0⟩)) rfl rfl rfl rfl ?_
   refine D_val rfl .no (fun ha => V_nilCheck (v := (.pointer (some ⟨kq0, 0, some 0⟩))) rfl (EN ha (.tmp rfl rfl) rfl)) ?_
   refine D_val rfl .no (fun ha => V_fieldAddr (off := 3) fd62_3.h (EN ha (.tmp rfl rfl) rfl)) ?_
   refine D_atO rfl .no .h (fun ha hp => V_load (v := (.int .i64 a_r.Rounds)) ag3.h (EN ha (.tmp rfl rfl) rfl) hp.2 rfl rfl) ?_
   refine Dm p3.1.v rfl rfl rfl rfl ?_
   refine D_atO rfl .no (.t (.t (.t (.t (.t (.t .h)))))) (fun ha hp => V_lenR (l := r1.length) sl33.h (EN ha (.tmp rfl rfl) rfl) (cmov_len hp)) ?_
   refine D_val rfl .no (fun ha => V_gtr (i := (r1.length : Int)) (j := 0) (EN ha (.tmp rfl rfl) rfl) (EN ha (.int _ _) rfl)) ?_
   obtain ⟨r152, hx153, hF⟩ := bind_some hF
   refine D_act0 rfl rfl .no .nil (.dep rfl (.own .h (fun _ h => h) .nil)) (fun ha => X_callS cf198.h (.cons (EN ha (.tmp rfl rfl) rfl) .nil) (i_bit_ok (decide ((0 : Int) < (r1.length : Int))) _ hx153)) (fun _ => ?_)
   refine D_val rfl .no (fun ha => V_add (i := a_r.Rounds) (j := r152) (EN ha (.tmp rfl rfl) rfl) (EN ha (.tmp rfl rfl) rfl)) ?_
   refine D_val rfl .no (fun ha => V_nilCheck (v := (.pointer (some ⟨kq0, 0, some 0⟩))) rfl (EN ha (.tmp rfl rfl) rfl)) ?_
   refine D_val rfl .no (fun ha => V_fieldAddr (off := 3) fd62_3.h (EN ha (.tmp rfl rfl) rfl)) ?_
   refine D_act1 rfl rfl .no (.cons .h .nil) (.dep rfl (.dep rfl .nil)) (fun ha => X_storeB (e' := (.agg [v131.v, v134.v, v137.v, (.int .i64 (IntKind.i64.wrap (a_r.Rounds + r152)))].toArray)) (v := (.int .i64 (IntKind.i64.wrap (a_r.Rounds + r152)))) ty3.h.sz (EN ha (.tmp rfl rfl) rfl) (EN ha (.tmp rfl rfl) rfl) rfl rfl rfl rfl rfl) (fun _ => ?_)
   refine D_nil (K_region (Cm p3.1.v rfl rfl ?_))
   refine C_at (.t (.t (.t (.t (.t (.t .h)))))) (fun hp => V_lenR (l := r1.length) sl33.h (.tmp rfl rfl) (cmov_len hp)) ?_
   refine C_val (V_gtr (i := (r1.length : Int)) (j := 0) (.tmp rfl rfl) (.int _ _)) ?_
   refine Ca (.bool (decide ((0 : Int) < (r1.length : Int)))) rfl rfl ?_
   refine C_nil (CW_ret ?_)
   obtain rfl := Option.some.inj hF
   exact End_ret (v131, F132, v134, F135, v137, F138) (.tmp rfl rfl .nil) rfl (.sel (.cons .h (.cons .h (.cons .h (.cons .h .nil)))))
 obtain ⟨hk147, hx148, hd149⟩ := drop_cons hd146
 have hfe150 : (decide (((k143 : Int) : Int) < (r1.length : Int))) = true := decide_eq_true (by omega)
 rw [i_Reached_told_L1] at hF
 refine K_region (C_val (V_lss (i := (k143 : Int)) (j := (r1.length : Int)) (.tmp rfl rfl) (.tmp rfl rfl)) ?_)
 refine C_nil (K_in (CW_cond (b := (decide (((k143 : Int) : Int) < (r1.length : Int)))) (.tmp rfl rfl) (fun _ => ?_) (fun hb => absurd (hfe150.symm.trans hb) (by decide))))
 refine CW_skip ?_
 obtain ⟨o155, hio155, hO156⟩ := bind_some hF
 refine K_cut (fun f' cs' => ∃ (c242 : List Fact) (c245 : List Int) (c248 : List Access) (v243 : Sv) (F244 : List Nat) (v246 : Sv) (F247 : List Nat) (v249 : Sv) (F250 : List Nat) (F251 : List Nat) (g : Fr), o155 = (c242, c245, c248) ∧ f' = updL g [(0, (.pointer (some ⟨kq0, 0, some 0⟩))), (1, v1_0.v), (2, v2_0.v), (7, p3.1.v), (17, p3.1.v), (18, (.int .i64 (r1.length : Int))), (19, (.int .i64 (k143 : Int)))] ∧ Ent cs' [cbox kq0 62 (.agg [v243.v, v246.v, v249.v, (.int .i64 a_r.Rounds)].toArray), cown (OwnS 86 ow86) F244 v243.v c242, cown (OwnS 3 (roE rdInt)) F247 v246.v c245, cown (OwnS 45 ow45) F250 v249.v c248, crd (RdS 73 rd73) v1_0.v a_l, crd (RdS 86 rd86) v2_0.v a_facts, cmov 45 2 ow45 F251 p3.1.v es15 r1.length (k143 + 1) rest144]) ?_ ?_
 · replace hF := hio155
   refine CW_block (K_region (C_next1 un45 (.t (.t (.t (.t (.t (.t .h)))))) (fun p157 G158 he159 => ?_)))
   refine C_idx (R := rdVal 2) (a := (.agg [(.int .i64 x145.Method), p157.1.v].toArray)) sl33.h ty45.h.sz (.tmp rfl rfl) (.tmp rfl rfl) (.t .h) (Int.natCast_nonneg k143) (idx_hi he159) (fun k160 j161 => ?_)
   refine C_ldRA ag45.h ty45.h.sz rfl (.tmp rfl rfl) .h ?_
   refine C_new rfl (N_allocT (g := true) ty45.h rfl rfl) (fun k162 => ?_)
   refine C_x1 (.cons .h .nil) (X_storeB (e' := (.agg [(.int .i64 x145.Method), p157.1.v].toArray)) (v := (.agg [(.int .i64 x145.Method), p157.1.v].toArray)) ty45.h.sz (.tmp rfl rfl) (.tmp rfl rfl) rfl rfl rfl rfl rfl) (fun _ => ?_)
   refine C_nil (K_draw [0, 1, 2, 3, 4, 5, 6, 7, 8, 9, 10] [0, 0, 2, 6, 14, 0, 32, 126, 255, 511, 1023] [7, 10] mixed (by decide +kernel) ?_)
   iterate 2 refine Dm (.pointer (some ⟨kq0, 0, some 0⟩)) rfl rfl rfl rfl ?_
   refine D_val rfl .no (fun ha => V_nilCheck (v := (.pointer (some ⟨kq0, 0, some 0⟩))) rfl (EN ha (.tmp rfl rfl) rfl)) ?_
   refine D_val rfl .no (fun ha => V_fieldAddr (off := 2) fd62_2.h (EN ha (.tmp rfl rfl) rfl)) ?_
   refine D_atO rfl .no (.t (.t (.t (.t (.t .h))))) (fun ha hp => V_load (v := v137.v) ag33.h (EN ha (.tmp rfl rfl) rfl) hp.2 rfl rfl) ?_
   refine D_atO rfl .no .h (fun ha hp => V_loadBox ag45.h ty45.h.sz rfl (EN ha (.tmp rfl rfl) rfl) hp.2 rfl) ?_
   refine D_new rfl .no rfl (fun ha => N_buildSliceT (g := true) (len := 1) (parts := [(0, .tmp 28)]) sl33.h ty45.h (.cons (EN ha (.tmp rfl rfl) rfl) .nil) (vs := [(.agg [(.int .i64 x145.Method), p157.1.v].toArray)]) rfl rfl rfl (by intro v hv; simp at hv; rcases hv with rfl <;> rfl)) (fun k163 => ?_)
   refine D_conv (.cons .h .nil) (own_lit (Ro := roE (rdVal 2)) (E := 45) (F := ([] ++ [])) (xs := ([(.agg [(.int .i64 x145.Method), p157.1.v].toArray)] : List Value)) (MkL_cons (mk_raw (s := 2) (e := (.agg [(.int .i64 x145.Method), p157.1.v].toArray)) rfl rfl) MkL_nil apps) rfl rfl) apps ?_
   refine D_open (s := 2) (.t (.t (.t (.t (.t (.t (.t (.t (.t .h))))))))) (fun es164 F165 G166 hl167 => ?_)
   obtain ⟨z168, hx169, hF⟩ := bind_some hF
   refine D_act1 rfl rfl .no (.cons .h (.cons (.t .h) .nil)) (.dep rfl (.dep rfl (.dep rfl .nil))) (fun ha => X_appendO (Ro := roE (rdVal 2)) sl33.h ni33 ty45.h rfl rfl rfl (EN ha (.tmp rfl rfl) rfl) (EN ha (.tmp rfl rfl) rfl) (app_raw hx169 hl167) src_own) (fun p170 => ?_)
   refine D_val rfl .no (fun ha => V_nilCheck (v := (.pointer (some ⟨kq0, 0, some 0⟩))) rfl (EN ha (.tmp rfl rfl) rfl)) ?_
   refine D_val rfl .no (fun ha => V_fieldAddr (off := 2) fd62_2.h (EN ha (.tmp rfl rfl) rfl)) ?_
   refine D_act1 rfl rfl .no (.cons (.t (.t (.t (.t (.t (.t (.t .h))))))) .nil) (.dep rfl (.dep rfl (.dep rfl .nil))) (fun ha => X_storeB (e' := (.agg [v131.v, v134.v, p170.1.v, (.int .i64 a_r.Rounds)].toArray)) ty33.h.sz (EN ha (.tmp rfl rfl) rfl) (EN ha (.tmp rfl rfl) rfl) rfl rfl rfl rfl rfl) (fun _ => ?_)
   refine D_nil (K_region (Cm v1_0.v rfl rfl ?_))
   refine Cm v2_0.v rfl rfl ?_
   refine C_at (.t (.t (.t .h))) (fun hp => V_loadBox ag45.h ty45.h.sz rfl (.tmp rfl rfl) hp.2 rfl) ?_
   obtain ⟨r171, hx172, hF⟩ := bind_some hF
   refine C_x2 (.cons (.t (.t (.t (.t (.t .h))))) (.rd (.t (.t (.t (.t (.t (.t (.t (.t (.t .h))))))))) rfl (.rd (.t (.t (.t (.t (.t (.t (.t (.t (.t (.t .h)))))))))) rfl .nil))) (XC_bor frz_own (fun _ => (.cons .nil)) (XC_pre (.rd (.t .h) rfl (.rd (.t (.t .h)) rfl (.rd .h rfl .nil))) (X_callS cf43.h (.cons (.tmp rfl rfl) (.cons (.tmp rfl rfl) (.cons (.tmp rfl rfl) .nil))) (i_matches_ok a_l v1_0 a_facts v2_0 x145 p157.1 _ hx172)))) (fun p173 => ?_)
   refine C_conv (.cons (.t (.t (.t .h))) (.cons (.t (.t (.t .h))) (.cons .h .nil))) ((Cv_late mk45 hx169)) apps ?_
   refine C_at (.t .h) (fun hp => V_lenR (l := r171.length) sl27.h (.tmp rfl rfl) (cown_len hp)) ?_
   refine C_val (V_move (v := (.int .i64 0)) (.int _ _)) ?_
   refine C_nil (CW_block (K_mov (s := 2) (.t .h) (fun es183 G184 => ?_)))
   refine CW_loop (m := r171.length) (fun m218 f' cs' => ∃ (g : Fr) (k220 : Nat) (rest221 : List Fact) (c210 : List Fact) (c213 : List Int) (v211 : Sv) (F212 : List Nat) (v214 : Sv) (F215 : List Nat) (G216 : List Nat), m218 = rest221.length ∧ f' = updL g [(0, (.pointer (some ⟨kq0, 0, some 0⟩))), (1, v1_0.v), (2, v2_0.v), (7, p3.1.v), (17, p3.1.v), (18, (.int .i64 (r1.length : Int))), (19, (.int .i64 (k143 : Int))), (36, p173.1.v), (37, (.int .i64 (r171.length : Int))), (38, (.int .i64 (k220 : Int)))] ∧ List.drop k220 r171 = rest221 ∧ Ent cs' [cbox kq0 62 (.agg [v211.v, v214.v, p170.1.v, (.int .i64 a_r.Rounds)].toArray), cown (OwnS 86 ow86) F212 v211.v c210, cown (OwnS 3 (roE rdInt)) F215 v214.v c213, cown (OwnS 45 ow45) (p170.2 ++ (G166 ++ (p157.2 ++ []))) p170.1.v z168, crd (RdS 73 rd73) v1_0.v a_l, crd (RdS 86 rd86) v2_0.v a_facts, cmov 45 2 ow45 G158 p3.1.v es15 r1.length (k143 + 1) rest144, cmov 86 2 ow86 G216 p173.1.v es183 r171.length k220 rest221] ∧ i_Reached_told_L4 z168 rest221 k220 c210 c213 = some o155) ⟨_, 0, _, _, _, v131, F132, v134, F135, G184, rfl, (EqL.cons rfl (EqL.cons rfl (EqL.cons rfl (EqL.cons rfl (EqL.cons rfl (EqL.cons rfl (EqL.cons rfl (EqL.cons rfl (EqL.cons rfl (EqL.cons rfl (EqL.nil))))))))))).eq, rfl, (.sel (.cons (.t (.t .h)) (.cons (.t (.t (.t (.t (.t (.t .h)))))) (.cons (.t (.t (.t (.t (.t (.t .h)))))) (.cons (.t .h) (.rd (.t (.t (.t (.t (.t .h))))) rfl (.rd (.t (.t (.t (.t (.t (.t .h)))))) rfl (.cons (.t (.t (.t (.t .h)))) (.cons .h .nil))))))))), hF⟩ ?_
   clear hF
   rintro m218 _ _ ⟨g219, k220, rest221, c210, c213, v211, F212, v214, F215, G216, rfl, rfl, hd223, hE, hF⟩
   refine K_ent hE ?_
   clear hE
   refine K_pure (c := cmov 86 2 ow86 G216 p173.1.v es183 r171.length k220 rest221) (.t (.t (.t (.t (.t (.t (.t .h))))))) cmov_bound (fun hbd228 => ?_)
   rcases rest221 with _ | ⟨x222, rest221⟩
   · have hk224 := List.drop_eq_nil_iff.1 hd223
     have hfe227 : (decide (((k220 : Int) : Int) < (r171.length : Int))) = false := decide_eq_false (by omega)
     rw [i_Reached_told_L4] at hF
     refine K_region (C_val (V_lss (i := (k220 : Int)) (j := (r171.length : Int)) (.tmp rfl rfl) (.tmp rfl rfl)) ?_)
     refine C_nil (K_in (CW_cond (b := (decide (((k220 : Int) : Int) < (r171.length : Int)))) (.tmp rfl rfl) (fun hb => absurd (hfe227.symm.trans hb) (by decide)) (fun _ => ?_)))
     refine CW_exit ?_
     iterate 2 refine CThen_exit ?_
     refine CIn_self ?_
     obtain rfl := Option.some.inj hF
     exact ⟨_, _, _, v211, F212, v214, F215, p170.1, (p170.2 ++ (G166 ++ (p157.2 ++ []))), G158, _, rfl, (EqL.cons rfl (EqL.cons rfl (EqL.cons rfl (EqL.cons rfl (EqL.cons rfl (EqL.cons rfl (EqL.cons rfl (EqL.nil)))))))).eq, (.sel (.cons .h (.cons .h (.cons .h (.cons .h (.rd .h rfl (.rd (.t .h) rfl (.cons (.t (.t .h)) .nil))))))))⟩
   obtain ⟨hk224, hx225, hd226⟩ := drop_cons hd223
   have hfe227 : (decide (((k220 : Int) : Int) < (r171.length : Int))) = true := decide_eq_true (by omega)
   rw [i_Reached_told_L4] at hF
   refine K_region (C_val (V_lss (i := (k220 : Int)) (j := (r171.length : Int)) (.tmp rfl rfl) (.tmp rfl rfl)) ?_)
   refine C_nil (K_in (CW_cond (b := (decide (((k220 : Int) : Int) < (r171.length : Int)))) (.tmp rfl rfl) (fun _ => ?_) (fun hb => absurd (hfe227.symm.trans hb) (by decide))))
   refine CW_skip (K_block (K_region (C_next1 un86 (.t (.t (.t (.t (.t (.t (.t .h))))))) (fun p229 G230 he231 => ?_))))
   refine C_idx (R := rdVal 2) (a := (.agg [(.int .i64 x222.Rel), p229.1.v].toArray)) sl27.h ty86.h.sz (.tmp rfl rfl) (.tmp rfl rfl) (.t .h) (Int.natCast_nonneg k220) (idx_hi he231) (fun k232 j233 => ?_)
   refine C_ldRA ag86.h ty86.h.sz rfl (.tmp rfl rfl) .h ?_
   refine C_new rfl (N_allocT (g := true) ty86.h rfl rfl) (fun k234 => ?_)
   refine C_x1 (.cons .h .nil) (X_storeB (e' := (.agg [(.int .i64 x222.Rel), p229.1.v].toArray)) (v := (.agg [(.int .i64 x222.Rel), p229.1.v].toArray)) ty86.h.sz (.tmp rfl rfl) (.tmp rfl rfl) rfl rfl rfl rfl rfl) (fun _ => ?_)
   refine C_nil (K_frz (.t (.t .h)) frz_own ?_)
   refine K_draw [0, 1, 2, 3, 4, 5, 6, 7, 8, 9] [0, 0, 2, 6, 14, 0, 62, 127, 255, 511] [6, 9] mixed (by decide +kernel) ?_
   iterate 2 refine Dm (.pointer (some ⟨kq0, 0, some 0⟩)) rfl rfl rfl rfl ?_
   refine D_val rfl .no (fun ha => V_nilCheck (v := (.pointer (some ⟨kq0, 0, some 0⟩))) rfl (EN ha (.tmp rfl rfl) rfl)) ?_
   refine D_val rfl .no (fun ha => V_fieldAddr (off := 0) fd62_0.h (EN ha (.tmp rfl rfl) rfl)) ?_
   refine D_atO rfl .no (.t (.t (.t (.t (.t .h))))) (fun ha hp => V_load (v := v211.v) ag27.h (EN ha (.tmp rfl rfl) rfl) hp.2 rfl rfl) ?_
   refine D_atO rfl .no (.t .h) (fun ha hp => V_loadBox ag86.h ty86.h.sz rfl (EN ha (.tmp rfl rfl) rfl) hp.2 rfl) ?_
   obtain ⟨r235, hx236, hF⟩ := bind_some hF
   refine D_act1 rfl rfl .no (.cons (.t (.t (.t (.t (.t (.t .h)))))) (.rd .h rfl .nil)) (.dep rfl (.dep rfl .nil)) (fun ha => X_callS cf120.h (.cons (EN ha (.tmp rfl rfl) rfl) (.cons (EN ha (.tmp rfl rfl) rfl) .nil)) (i_added_ok c210 v211 F212 x222 p229.1 _ hx236)) (fun p237 => ?_)
   refine D_val rfl .no (fun ha => V_nilCheck (v := (.pointer (some ⟨kq0, 0, some 0⟩))) rfl (EN ha (.tmp rfl rfl) rfl)) ?_
   refine D_val rfl .no (fun ha => V_fieldAddr (off := 0) fd62_0.h (EN ha (.tmp rfl rfl) rfl)) ?_
   refine D_act1 rfl rfl .no (.cons (.t (.t (.t (.t (.t (.t .h)))))) .nil) (.dep rfl (.dep rfl .nil)) (fun ha => X_storeB (e' := (.agg [p237.1.v, v214.v, p170.1.v, (.int .i64 a_r.Rounds)].toArray)) ty27.h.sz (EN ha (.tmp rfl rfl) rfl) (EN ha (.tmp rfl rfl) rfl) rfl rfl rfl rfl rfl) (fun _ => ?_)
   refine D_nil (CW_draw [0, 1, 2, 3, 4, 5, 6, 7, 8, 9, 10] [0, 0, 2, 6, 14, 0, 32, 126, 255, 511, 1023] [7, 10] mixed (by decide +kernel) ?_)
   iterate 2 refine Dm (.pointer (some ⟨kq0, 0, some 0⟩)) rfl rfl rfl rfl ?_
   refine D_val rfl .no (fun ha => V_nilCheck (v := (.pointer (some ⟨kq0, 0, some 0⟩))) rfl (EN ha (.tmp rfl rfl) rfl)) ?_
   refine D_val rfl .no (fun ha => V_fieldAddr (off := 1) fd62_1.h (EN ha (.tmp rfl rfl) rfl)) ?_
   refine D_atO rfl .no .h (fun ha hp => V_load (v := v214.v) ag24.h (EN ha (.tmp rfl rfl) rfl) hp.2 rfl rfl) ?_
   refine D_val rfl .no (fun ha => V_fieldAddr (off := 1) fd86_1.h (EN ha (.tmp rfl rfl) rfl)) ?_
   refine D_atO rfl .no (.t (.t (.t .h))) (fun ha hp => V_load (v := p229.1.v) ag24.h (EN ha (.tmp rfl rfl) rfl) hp.2 rfl rfl) ?_
   obtain ⟨r238, hx239, hF⟩ := bind_some hF
   refine D_act2 rfl rfl .no (.cons (.t (.t (.t (.t (.t (.t (.t .h))))))) (.rd (.t (.t .h)) rfl .nil)) (.dep rfl (.dep rfl .nil)) (fun ha => XC_bor frz_own (fun _ => (.cons .nil)) (X_callS cf196.h (.cons (EN ha (.tmp rfl rfl) rfl) (.cons (EN ha (.tmp rfl rfl) rfl) .nil)) (i_withValues_ok c213 v214 x222.Values p229.1 _ hx239))) (fun p240 => ?_)
   refine D_val rfl .no (fun ha => V_nilCheck (v := (.pointer (some ⟨kq0, 0, some 0⟩))) rfl (EN ha (.tmp rfl rfl) rfl)) ?_
   refine D_val rfl .no (fun ha => V_fieldAddr (off := 1) fd62_1.h (EN ha (.tmp rfl rfl) rfl)) ?_
   refine D_act1 rfl rfl .no (.cons (.t (.t .h)) .nil) (.dep rfl (.dep rfl .nil)) (fun ha => X_storeB (e' := (.agg [p237.1.v, p240.1.v, p170.1.v, (.int .i64 a_r.Rounds)].toArray)) ty24.h.sz (EN ha (.tmp rfl rfl) rfl) (EN ha (.tmp rfl rfl) rfl) rfl rfl rfl rfl rfl) (fun _ => ?_)
   refine D_nil (CW_region (C_val (V_add (i := (k220 : Int)) (j := 1) (.tmp rfl rfl) (.int _ _)) ?_))
   refine Cm (.int .i64 (IntKind.i64.wrap ((k220 : Int) + 1))) rfl rfl ?_
   refine C_nil ?_
   have hw241 : IntKind.i64.wrap ((k220 : Int) + 1) = ((k220 + 1 : Nat) : Int) := by rw [wrap_in (by omega) (by omega)]; rfl
   rw [hw241]
   exact ⟨_, Nat.lt_succ_self _, _, k220 + 1, rest221, _, _, p237.1, p237.2, p240.1, p240.2, G230, rfl, (EqL.cons rfl (EqL.cons rfl (EqL.cons rfl (EqL.cons rfl (EqL.cons rfl (EqL.cons rfl (EqL.cons rfl (EqL.cons rfl (EqL.cons rfl (EqL.cons rfl (EqL.nil))))))))))).eq, hd226, (.sel (.cons .h (.cons (.t (.t .h)) (.cons (.t .h) (.cons (.t (.t (.t (.t (.t (.t .h)))))) (.rd (.t (.t (.t (.t (.t (.t .h)))))) rfl (.rd (.t (.t (.t (.t (.t (.t (.t .h))))))) rfl (.cons (.t (.t (.t (.t (.t (.t (.t (.t .h)))))))) (.cons (.t (.t (.t (.t (.t .h))))) .nil))))))))), hF⟩
 rintro _ _ ⟨c242, c245, c248, v243, F244, v246, F247, v249, F250, F251, g253, rfl, rfl, hE⟩
 replace hF := hO156
 clear hO156
 try dsimp only at hF
 refine K_ent hE ?_
 refine CW_region (C_val (V_add (i := (k143 : Int)) (j := 1) (.tmp rfl rfl) (.int _ _)) ?_)
 refine Cm (.int .i64 (IntKind.i64.wrap ((k143 : Int) + 1))) rfl rfl ?_
 refine C_nil ?_
 have hw252 : IntKind.i64.wrap ((k143 : Int) + 1) = ((k143 + 1 : Nat) : Int) := by rw [wrap_in (by omega) (by omega)]; rfl
 rw [hw252]
 exact ⟨_, Nat.lt_succ_self _, _, k143 + 1, rest144, _, _, _, v243, F244, v246, F247, v249, F250, F251, rfl, (EqL.cons rfl (EqL.cons rfl (EqL.cons rfl (EqL.cons rfl (EqL.cons rfl (EqL.cons rfl (EqL.cons rfl (EqL.nil)))))))).eq, hd149, (.sel (.cons .h (.cons .h (.cons .h (.cons .h (.rd .h rfl (.rd (.t .h) rfl (.cons (.t (.t .h)) .nil)))))))), hF⟩
def i_reach_L1 (a_l : List Method) (a_facts : List Fact) : Nat → (List Fact) → (List Int) → (List Access) → Int → Int → Option (Reached)
 | 0, _, _, _, _, _ => none
 | m29 + 1, c18, c21, c24, c27, c28 => if (decide ((c28 : Int) < 40)) then (
     (i_Reached_told ({ Facts := c18, Values := c21, Log := c24, Rounds := c27 } : Reached) a_l a_facts).bind fun r37 =>
     if (!r37.1) then (
       some r37.2)
     else (
       i_reach_L1 a_l a_facts m29 r37.2.Facts r37.2.Values r37.2.Log r37.2.Rounds (IntKind.i64.wrap (c28 + 1))))
   else (
     some ({ Facts := c18, Values := c21, Log := c24, Rounds := c27 } : Reached))
def i_reach (a_l : List Method) (a_facts : List Fact) (a_seeds : List Int) : Option (Reached) :=
 (i_StartReach a_seeds).bind fun r2 =>
 i_reach_L1 a_l a_facts (((40 : Int) - 0).toNat + 2) r2.Facts r2.Values r2.Log r2.Rounds 0
theorem i_reach_ok (a_l : List Method) (v0_0 : Sv) (a_facts : List Fact) (v1_0 : Sv) (a_seeds : List Int) (v2_0 : Sv) (R : Reached) (hF : i_reach a_l a_facts a_seeds = some R) :
   Fw.Spec Tryz.prog 68 [v0_0.v, v1_0.v, v2_0.v] [crd (RdS 73 rd73) v0_0.v a_l, crd (RdS 86 rd86) v1_0.v a_facts, crd (RdS 3 rdInt) v2_0.v a_seeds] (fun p : Sv × List Nat × Sv × List Nat × Sv × List Nat => (.agg [p.1.v, p.2.2.1.v, p.2.2.2.2.1.v, (.int .i64 R.Rounds)].toArray)) (fun p => [cown (OwnS 86 ow86) p.2.1 p.1.v R.Facts, cown (OwnS 3 (roE rdInt)) p.2.2.2.1 p.2.2.1.v R.Values, cown (OwnS 45 ow45) p.2.2.2.2.2 p.2.2.2.2.1.v R.Log]) := by
 refine Se 18 Tryz.func68 [.cell 6 62] ?_
 intro H0 F0
 unfold i_reach at hF
 refine au ?_
 refine AnW (fun k1 => ?_)
 iterate 3 refine au ?_
 refine bnd hF fun r2 hx3 hF => Cx3 (i_StartReach_ok _ _ _ hx3) (fun p4 => ?_)
 refine AnW (fun k5 => ?_)
 refine As (.agg [p4.1.v, p4.2.2.1.v, p4.2.2.2.2.1.v, (.int .i64 r2.Rounds)].toArray) ?_
 iterate 5 refine au ?_
 refine CW_block (CW_loop (m := (((40 : Int) - 0).toNat + 2)) (fun m29 f' cs' => ∃ (g : Fr) (c18 : List Fact) (c21 : List Int) (c24 : List Access) (c27 : Int) (c28 : Int) (v19 : Sv) (F20 : List Nat) (v22 : Sv) (F23 : List Nat) (v25 : Sv) (F26 : List Nat), f' = updL g [(0, v0_0.v), (1, v1_0.v), (6, (pz k1)), (7, (pz k5)), (10, (.int .i64 c28))] ∧ Ent cs' [crd (RdS 73 rd73) v0_0.v a_l, crd (RdS 86 rd86) v1_0.v a_facts, cbox k1 62 (.agg [(.slice none 0 0), (.slice none 0 0), (.slice none 0 0), (.int .i64 0)].toArray), cbox k5 62 (.agg [v19.v, v22.v, v25.v, (.int .i64 c27)].toArray), cown (OwnS 86 ow86) F20 v19.v c18, cown (OwnS 3 (roE rdInt)) F23 v22.v c21, cown (OwnS 45 ow45) F26 v25.v c24] ∧ i_reach_L1 a_l a_facts m29 c18 c21 c24 c27 c28 = some R) ⟨_, _, _, _, _, _, p4.1, p4.2.1, p4.2.2.1, p4.2.2.2.1, p4.2.2.2.2.1, p4.2.2.2.2.2, eqA, entA, hF⟩ ?_)
 rintro m29 _ _ ⟨g30, c18, c21, c24, c27, c28, v19, F20, v22, F23, v25, F26, rfl, hE, hF⟩
 refine K_ent hE ?_
 rcases m29 with _ | m29
 · rw [i_reach_L1] at hF
   exact absurd hF (by simp)
 rw [i_reach_L1] at hF
 iterate 4 refine au ?_
 refine Ci hF (fun hb41 hF => ?_) (fun hb41 hF => ?_)
 · iterate 5 refine au ?_
   refine bnd hF fun r37 hx38 hF => Cx4 (i_Reached_told_ok _ _ _ _ _ _ _ _ _ _ _ _ _ hx38) (fun p39 => ?_)
   iterate 2 refine au ?_
   refine Ci hF (fun hb40 hF => ?_) (fun hb40 hF => ?_)
   · refine au ?_
     refine CIn_ne rfl ?_
     iterate 5 refine au ?_
     refine As (.agg [p39.1.v, p39.2.2.1.v, p39.2.2.2.2.1.v, (.int .i64 r37.2.Rounds)].toArray) ?_
     iterate 2 refine au ?_
     cases hF
     exact Er (p39.1, p39.2.1, p39.2.2.1, p39.2.2.2.1, p39.2.2.2.2.1, p39.2.2.2.2.2)
   iterate 5 refine au ?_
   exact ⟨m29, Nat.lt_succ_self _, _, _, _, _, _, _, p39.1, p39.2.1, p39.2.2.1, p39.2.2.2.1, p39.2.2.2.2.1, p39.2.2.2.2.2, eqA, entA, hF⟩
 iterate 6 refine au ?_
 refine As (.agg [v19.v, v22.v, v25.v, (.int .i64 c27)].toArray) ?_
 iterate 2 refine au ?_
 cases hF
 exact Er (v19, F20, v22, F23, v25, F26)
def i_copyBinding (a_b : Binding) : Option (Binding) :=
 (g_slices_Clone_int_int a_b.Vars).bind fun r3 =>
 (g_slices_Clone_int_int a_b.Values).bind fun r6 =>
 some ({ Vars := r3, Values := r6 } : Binding)
theorem i_copyBinding_ok (a_b : Binding) (v0_0 : Sv) (v0_1 : Sv) (R : Binding) (hF : i_copyBinding a_b = some R) :
   Fw.Spec Tryz.prog 273 [(.agg [v0_0.v, v0_1.v].toArray)] [crd (RdS 3 rdInt) v0_0.v a_b.Vars, crd (RdS 3 rdInt) v0_1.v a_b.Values] (fun p : Sv × List Nat × Sv × List Nat => (.agg [p.1.v, p.2.2.1.v].toArray)) (fun p => [cown (OwnS 3 (roE rdInt)) p.2.1 p.1.v R.Vars, cown (OwnS 3 (roE rdInt)) p.2.2.2 p.2.2.1.v R.Values]) := by
 refine Se 10 Tryz.func273 [.cell 2 147] ?_
 intro H0 F0
 unfold i_copyBinding at hF
 refine au ?_
 refine AbR (fun k1 => ?_)
 refine AnW (fun k2 => ?_)
 refine au ?_
 refine K_draw [0, 1, 3, 4, 2, 5, 6, 7] [0, 1, 3, 0, 8, 31, 63, 127] [2, 5, 7] mixed (by decide +kernel) ?_
 iterate 4 refine du ?_
 refine bnd hF fun r3 hx4 hF => Dx1 (g_slices_Clone_int_int_ok _ _ _ hx4) (fun p5 => ?_)
 refine bnd hF fun r6 hx7 hF => Dx1 (g_slices_Clone_int_int_ok _ _ _ hx7) (fun p8 => ?_)
 refine D_val rfl .no (fun ha => V_build ty147.h rfl (vs := [p5.1.v, p8.1.v]) (.cons (EN ha (.tmp rfl rfl) rfl) (.cons (EN ha (.tmp rfl rfl) rfl) .nil)) (cells := [p5.1.v, p8.1.v]) rfl) ?_
 refine D_act1 rfl rfl .no (.cons (.t (.t .h)) .nil) .nil (fun ha => X_storeB (e' := (.agg [p5.1.v, p8.1.v].toArray)) (v := (.agg [p5.1.v, p8.1.v].toArray)) ty147.h.sz (EN ha (.tmp rfl rfl) rfl) (EN ha (.tmp rfl rfl) rfl) rfl rfl rfl rfl rfl) (fun _ => ?_)
 refine du ?_
 refine au ?_
 cases hF
 exact Er (p5.1, p5.2, p8.1, p8.2)
def i_Binding_entry (a_b : Binding) (a_t : Int) : Option (Int) :=
 (chk (decide (0 ≤ (if (a_b.Values.length : Int) < (a_b.Vars.length : Int) then (a_b.Values.length : Int) else (a_b.Vars.length : Int))) && decide ((if (a_b.Values.length : Int) < (a_b.Vars.length : Int) then (a_b.Values.length : Int) else (a_b.Vars.length : Int)) ≤ (a_b.Vars.length : Int)))).bind fun u3 =>
 (g_slices_Index_int_int (a_b.Vars.take ((if (a_b.Values.length : Int) < (a_b.Vars.length : Int) then (a_b.Values.length : Int) else (a_b.Vars.length : Int))).toNat) a_t).bind fun r6 =>
 some r6
theorem i_Binding_entry_ok (a_b : Binding) (v0_0 : Sv) (v0_1 : Sv) (a_t : Int) (R : Int) (hF : i_Binding_entry a_b a_t = some R) :
   Fw.Spec Tryz.prog 272 [(.agg [v0_0.v, v0_1.v].toArray), (.int .i64 a_t)] [crd (RdS 3 rdInt) v0_0.v a_b.Vars, crd (RdS 3 rdInt) v0_1.v a_b.Values] (fun _ : Unit => (.int .i64 R)) (fun _ => []) := by
 refine Se 17 Tryz.func272 [.tmp 4] ?_
 intro H0 F0
 unfold i_Binding_entry at hF
 refine au ?_
 refine AbR (fun k1 => ?_)
 iterate 11 refine au ?_
 refine C_val (V_min (i := (a_b.Vars.length : Int)) (j := (a_b.Values.length : Int)) (.tmp rfl rfl) (.tmp rfl rfl)) ?_
 refine bnd hF fun u3 hx5 hF => ?_
 have hc2 := chk_some hx5
 simp only [Bool.and_eq_true, decide_eq_true_eq] at hc2
 refine C_sliceHiR sl24.h ty3.h.sz (.tmp rfl rfl) (.tmp rfl rfl) (.t .h) hc2.1 hc2.2 (fun w4 => ?_)
 refine au ?_
 refine bnd hF fun r6 hx7 hF => Cx0 (g_slices_Index_int_int_ok _ _ _ _ hx7) (fun _ => ?_)
 iterate 3 refine au ?_
 cases hF
 exact Er ()
def i_ValueOf (a_b : Binding) (a_term : Int) : Option (Int) :=
 (i_IsVar a_term).bind fun r2 =>
 if (!r2) then (
   some a_term)
 else (
   (i_Binding_entry a_b a_term).bind fun r5 =>
   if (decide ((r5 : Int) < 0)) then (
     some (-1))
   else (
     (ix a_b.Values r5).bind fun x8 =>
     some x8))
theorem i_ValueOf_ok (a_b : Binding) (v0_0 : Sv) (v0_1 : Sv) (a_term : Int) (R : Int) (hF : i_ValueOf a_b a_term = some R) :
   Fw.Spec Tryz.prog 238 [(.agg [v0_0.v, v0_1.v].toArray), (.int .i64 a_term)] [crd (RdS 3 rdInt) v0_0.v a_b.Vars, crd (RdS 3 rdInt) v0_1.v a_b.Values] (fun _ : Unit => (.int .i64 R)) (fun _ => []) := by
 refine Se 20 Tryz.func238 [.tmp 4] ?_
 intro H0 F0
 unfold i_ValueOf at hF
 refine au ?_
 refine AbR (fun k1 => ?_)
 iterate 5 refine au ?_
 refine bnd hF fun r2 hx3 hF => Cx0 (i_IsVar_ok _ _ hx3) (fun _ => ?_)
 iterate 2 refine au ?_
 refine Ci hF (fun hb15 hF => ?_) (fun hb15 hF => ?_)
 · iterate 5 refine au ?_
   cases hF
   exact Er ()
 iterate 4 refine au ?_
 refine bnd hF fun r5 hx6 hF => Cx0 (i_Binding_entry_ok _ _ _ _ _ hx6) (fun _ => ?_)
 iterate 7 refine au ?_
 refine Ci hF (fun hb14 hF => ?_) (fun hb14 hF => ?_)
 · iterate 4 refine au ?_
   cases hF
   exact Er ()
 iterate 5 refine au ?_
 refine bnd hF fun x8 hx9 hF => ?_
 obtain ⟨hp10, hx11⟩ := ix_some hx9
 refine Ai hx11 (fun k12 j13 => ?_)
 refine Al ls3_0 ?_
 iterate 3 refine au ?_
 cases hF
 exact Er ()
def i_MatchAtom_L1 (a_f : Fact) : List Int → Nat → (List Int) → (List Int) → Option (Binding × Bool)
 | [], k89, c80, c83 => some (({ Vars := c80, Values := c83 } : Binding), true)
 | x91 :: rest90, k89, c80, c83 => ((((i_IsVar x91).bind fun r104 =>
       bif r104 then ((i_Binding_entry ({ Vars := c80, Values := c83 } : Binding) x91).bind fun r108 =>
         some (decide ((r108 : Int) < 0)))
       else (some false)).bind fun o102 =>
     match o102 with
     | c111 => if c111 then (
         (ix a_f.Values (k89 : Int)).bind fun x113 =>
         (app c80 ([x91] : List Int)).bind fun z120 =>
         (app c83 ([x113] : List Int)).bind fun z123 =>
         (ix a_f.Values (k89 : Int)).bind fun x126 =>
         (i_ValueOf ({ Vars := z120, Values := z123 } : Binding) x91).bind fun r132 =>
         if ((r132 : Int) != x126) then (
           some (.inl (({ Vars := [], Values := [] } : Binding), false)))
         else (
           some (.inr (z120, z123))))
       else (
         (ix a_f.Values (k89 : Int)).bind fun x136 =>
         (i_ValueOf ({ Vars := c80, Values := c83 } : Binding) x91).bind fun r142 =>
         if ((r142 : Int) != x136) then (
           some (.inl (({ Vars := [], Values := [] } : Binding), false)))
         else (
           some (.inr (c80, c83))))) : Option (Sum (Binding × Bool) ((List Int) × (List Int)))).bind fun o98 =>
   match o98 with
   | .inl r => some r
   | .inr (c148, c151) => i_MatchAtom_L1 a_f rest90 (k89 + 1) c148 c151
def i_MatchAtom (a_b : Binding) (a_a : Atom) (a_f : Fact) : Option (Binding × Bool) :=
 if (((a_a.Rel : Int) != a_f.Rel) || ((((a_a.Terms.length : Int) : Int) != (a_f.Values.length : Int)) || (((a_b.Vars.length : Int) : Int) != (a_b.Values.length : Int)))) then (
   some (({ Vars := [], Values := [] } : Binding), false))
 else (
   (i_copyBinding a_b).bind fun r8 =>
   i_MatchAtom_L1 a_f a_a.Terms 0 r8.Vars r8.Values)
theorem i_MatchAtom_ok (a_b : Binding) (v0_0 : Sv) (v0_1 : Sv) (a_a : Atom) (v1_1 : Sv) (a_f : Fact) (v2_1 : Sv) (R : Binding × Bool) (hF : i_MatchAtom a_b a_a a_f = some R) :
   Fw.Spec Tryz.prog 239 [(.agg [v0_0.v, v0_1.v].toArray), (.agg [(.int .i64 a_a.Rel), v1_1.v].toArray), (.agg [(.int .i64 a_f.Rel), v2_1.v].toArray)] [crd (RdS 3 rdInt) v0_0.v a_b.Vars, crd (RdS 3 rdInt) v0_1.v a_b.Values, crd (RdS 3 rdInt) v1_1.v a_a.Terms, crd (RdS 3 rdInt) v2_1.v a_f.Values] (fun p : Sv × List Nat × Sv × List Nat => (.tuple [(.agg [p.1.v, p.2.2.1.v].toArray), (.bool R.2)].toArray)) (fun p => [cown (OwnS 3 (roE rdInt)) p.2.1 p.1.v R.1.Vars, cown (OwnS 3 (roE rdInt)) p.2.2.2 p.2.2.1.v R.1.Values]) := by
 refine Se 81 Tryz.func239 [.cell 6 147, .tmp 7] ?_
 intro H0 F0
 unfold i_MatchAtom at hF
 refine au ?_
 refine AbR (fun k1 => ?_)
 refine AbR (fun k2 => ?_)
 refine AbR (fun k3 => ?_)
 refine AnW (fun k4 => ?_)
 iterate 4 refine au ?_
 refine C_cut (fun f' cs' => ∃ (g : Fr), f' = updL g [(3, (pz k1)), (4, (pz k2)), (5, (pz k3)), (6, (pz k4)), (33, (.bool (((a_a.Rel : Int) != a_f.Rel) || ((((a_a.Terms.length : Int) : Int) != (a_f.Values.length : Int)) || (((a_b.Vars.length : Int) : Int) != (a_b.Values.length : Int))))))] ∧ Ent cs' [cboR k1 147 (.agg [v0_0.v, v0_1.v].toArray), crd (RdS 3 rdInt) v0_0.v a_b.Vars, crd (RdS 3 rdInt) v0_1.v a_b.Values, cboR k2 98 (.agg [(.int .i64 a_a.Rel), v1_1.v].toArray), crd (RdS 3 rdInt) v1_1.v a_a.Terms, cboR k3 86 (.agg [(.int .i64 a_f.Rel), v2_1.v].toArray), crd (RdS 3 rdInt) v2_1.v a_f.Values, cbox k4 147 (.agg [(.slice none 0 0), (.slice none 0 0)].toArray)]) ?_ ?_
 · iterate 6 refine au ?_
   rcases Bool.eq_false_or_eq_true ((a_a.Rel : Int) != a_f.Rel) with hg5 | hg5
   · rw [hg5]
     try rw [hg5] at hF; dsimp only [cond_true, cond_false] at hF
     iterate 18 refine au ?_
     exact ⟨_, eqA, entA⟩
   rw [hg5]
   try rw [hg5] at hF; dsimp only [cond_true, cond_false] at hF
   iterate 16 refine au ?_
   rcases Bool.eq_false_or_eq_true (((a_a.Terms.length : Int) : Int) != (a_f.Values.length : Int)) with hg6 | hg6
   · rw [hg6]
     try rw [hg6] at hF; dsimp only [cond_true, cond_false] at hF
     iterate 9 refine au ?_
     exact ⟨_, eqA, entA⟩
   rw [hg6]
   try rw [hg6] at hF; dsimp only [cond_true, cond_false] at hF
   iterate 16 refine au ?_
   exact ⟨_, eqA, entA⟩
 rintro _ _ ⟨g7, rfl, hE⟩
 refine K_ent hE ?_
 refine Ci hF (fun hb156 hF => ?_) (fun hb156 hF => ?_)
 · refine au ?_
   refine C_val (V_build ty147.h rfl (vs := []) .nil (cells := [(.slice none 0 0), (.slice none 0 0)]) rfl) ?_
   refine As (.agg [(.slice none 0 0), (.slice none 0 0)].toArray) ?_
   iterate 3 refine au ?_
   cases hF
   exact End_ret (⟨none, 0, 0⟩, [], ⟨none, 0, 0⟩, []) (.cellA rfl rfl .h rfl ag147.h ty147.h.sz rfl rfl (.tmp rfl rfl .nil)) rfl (.conv .nil (own_nil (Ro := (roE rdInt)) (E := 3)) (.cons .nil) (.conv .nil (own_nil (Ro := (roE rdInt)) (E := 3)) (.cons .nil) (.sel (.cons (.t .h) (.cons .h .nil)))))
 iterate 3 refine au ?_
 refine bnd hF fun r8 hx9 hF => Cx2 (i_copyBinding_ok _ _ _ _ hx9) (fun p10 => ?_)
 refine AnW (fun k11 => ?_)
 refine As (.agg [p10.1.v, p10.2.2.1.v].toArray) ?_
 iterate 8 refine au ?_
 refine CW_block (CW_loop (m := a_a.Terms.length) (fun m87 f' cs' => ∃ (g : Fr) (k89 : Nat) (rest90 : List Int) (c80 : List Int) (c83 : List Int) (v81 : Sv) (F82 : List Nat) (v84 : Sv) (F85 : List Nat), m87 = rest90.length ∧ f' = updL g [(5, (pz k3)), (6, (pz k4)), (8, (pz k11)), (38, v1_1.v), (39, (.int .i64 (a_a.Terms.length : Int))), (40, (.int .i64 (k89 : Int)))] ∧ List.drop k89 a_a.Terms = rest90 ∧ Ent cs' [cboR k3 86 (.agg [(.int .i64 a_f.Rel), v2_1.v].toArray), crd (RdS 3 rdInt) v2_1.v a_f.Values, cbox k4 147 (.agg [(.slice none 0 0), (.slice none 0 0)].toArray), cbox k11 147 (.agg [v81.v, v84.v].toArray), cown (OwnS 3 (roE rdInt)) F82 v81.v c80, cown (OwnS 3 (roE rdInt)) F85 v84.v c83, crd (RdS 3 rdInt) v1_1.v a_a.Terms] ∧ i_MatchAtom_L1 a_f rest90 k89 c80 c83 = some R) ⟨_, 0, _, _, _, p10.1, p10.2.1, p10.2.2.1, p10.2.2.2, rfl, eqA, rfl, entA, hF⟩ ?_)
 rintro m87 _ _ ⟨g88, k89, rest90, c80, c83, v81, F82, v84, F85, rfl, rfl, hd92, hE, hF⟩
 refine Kb hE a_a.Terms (fun hbd97 => ?_)
 rcases rest90 with _ | ⟨x91, rest90⟩
 · have hk93 := dn hd92
   rw [i_MatchAtom_L1] at hF
   iterate 4 refine au ?_
   refine CdF ?_
   iterate 6 refine au ?_
   refine As (.agg [v81.v, v84.v].toArray) ?_
   iterate 3 refine au ?_
   cases hF
   exact End_ret (v81, F82, v84, F85) (.cellA rfl rfl .h rfl ag147.h ty147.h.sz rfl rfl (.tmp rfl rfl .nil)) rfl (.sel (.cons (.t (.t (.t (.t .h)))) (.cons (.t (.t (.t (.t .h)))) .nil)))
 obtain ⟨hk93, hx94, hd95⟩ := drop_cons hd92
 rw [i_MatchAtom_L1] at hF
 iterate 4 refine au ?_
 refine CdT ?_
 refine au ?_
 obtain ⟨o98, hio98, hO99⟩ := bind_some hF
 refine K_cut (fun f' cs' => ∃ (c148 : List Int) (c151 : List Int) (v149 : Sv) (F150 : List Nat) (v152 : Sv) (F153 : List Nat) (g : Fr), o98 = .inr (c148, c151) ∧ f' = updL g [(5, (pz k3)), (6, (pz k4)), (8, (pz k11)), (38, v1_1.v), (39, (.int .i64 (a_a.Terms.length : Int))), (40, (.int .i64 (k89 : Int)))] ∧ Ent cs' [cboR k3 86 (.agg [(.int .i64 a_f.Rel), v2_1.v].toArray), crd (RdS 3 rdInt) v2_1.v a_f.Values, cbox k4 147 (.agg [(.slice none 0 0), (.slice none 0 0)].toArray), cbox k11 147 (.agg [v149.v, v152.v].toArray), cown (OwnS 3 (roE rdInt)) F150 v149.v c148, cown (OwnS 3 (roE rdInt)) F153 v152.v c151, crd (RdS 3 rdInt) v1_1.v a_a.Terms]) ?_ ?_
 · replace hF := hio98
   refine CW_block (K_region (Cm (.int .i64 (k89 : Int)) rfl rfl ?_))
   refine Ai hx94 (fun k100 j101 => ?_)
   refine Al ls3_0 ?_
   iterate 4 refine au ?_
   obtain ⟨o102, hio102, hO103⟩ := bind_some hF
   refine au ?_
   refine C_cut (fun f' cs' => ∃ (c111 : Bool) (g : Fr), c111 = o102 ∧ f' = updL g [(5, (pz k3)), (6, (pz k4)), (8, (pz k11)), (9, (.int .i64 (k89 : Int))), (10, (.int .i64 x91)), (38, v1_1.v), (39, (.int .i64 (a_a.Terms.length : Int))), (40, (.int .i64 (k89 : Int))), (52, (.bool c111))] ∧ Ent cs' [cboR k3 86 (.agg [(.int .i64 a_f.Rel), v2_1.v].toArray), crd (RdS 3 rdInt) v2_1.v a_f.Values, cbox k4 147 (.agg [(.slice none 0 0), (.slice none 0 0)].toArray), cbox k11 147 (.agg [v81.v, v84.v].toArray), cown (OwnS 3 (roE rdInt)) F82 v81.v c80, cown (OwnS 3 (roE rdInt)) F85 v84.v c83, crd (RdS 3 rdInt) v1_1.v a_a.Terms]) ?_ ?_
   · replace hF := hio102
     refine au ?_
     refine bnd hF fun r104 hx105 hF => Cx0 (i_IsVar_ok _ _ hx105) (fun _ => ?_)
     refine au ?_
     rcases Bool.eq_false_or_eq_true r104 with hg107 | hg107
     · rw [hg107]
       try rw [hg107] at hF; dsimp only [cond_true, cond_false] at hF
       iterate 5 refine au ?_
       refine bnd hF fun r108 hx109 hF => C_x2 (.cons (.t (.t (.t (.t (.t (.t .h)))))) (.cons (.t (.t (.t (.t (.t .h))))) .nil)) (XC_borL (pre := []) (.cons frz_own (.cons frz_own .nil)) (fun _ => .nil) (X_callS cf272.h (.cons (.tmp rfl rfl) (.cons (.tmp rfl rfl) .nil)) (i_Binding_entry_ok ({ Vars := c80, Values := c83 } : Binding) v81 v84 x91 _ hx109))) (fun _ => ?_)
       iterate 4 refine au ?_
       cases hF
       exact ⟨_, _, rfl, eqA, entA⟩
     rw [hg107]
     try rw [hg107] at hF; dsimp only [cond_true, cond_false] at hF
     iterate 6 refine au ?_
     cases hF
     exact ⟨_, _, rfl, eqA, entA⟩
   rintro _ _ ⟨c111, g147, rfl, rfl, hE⟩
   replace hF := hO103
   try dsimp only at hF
   refine K_ent hE ?_
   refine Ci hF (fun hb146 hF => ?_) (fun hb146 hF => ?_)
   · refine CW_draw [0, 1, 2, 3, 5, 6, 7, 8, 9, 10, 11, 12, 4, 14, 13, 15, 16, 17] [0, 1, 0, 4, 15, 0, 32, 0, 128, 0, 896, 1920, 3968, 8191, 127, 32767, 65535, 131071] [4, 13, 15, 17] mixed (by decide +kernel) ?_
     refine du ?_
     refine D_atO rfl .no (.t (.t (.t .h))) (fun ha hp => V_load (v := v81.v) ag24.h (EN ha (.tmp rfl rfl) rfl) hp.2 rfl rfl) ?_
     refine du ?_
     refine D_new rfl .no rfl (fun ha => N_buildSliceT (g := true) (len := 1) (parts := [(0, .tmp 55)]) sl24.h ty3.h (.cons (EN ha (.tmp rfl rfl) rfl) .nil) (vs := [(.int .i64 x91)]) rfl rfl rfl (by intro v hv; simp at hv; rcases hv with rfl <;> rfl)) (fun k112 => ?_)
     refine Dv1 (.cons .h .nil) (own_lit (Ro := (roE rdInt)) (E := 3) (F := ([] ++ [])) (xs := ([x91] : List Int)) (MkL_cons (Mk_pure (fun _ => rfl)) MkL_nil apps) rfl rfl) ?_
     refine du ?_
     refine D_atO rfl .no (.t (.t (.t (.t .h)))) (fun ha hp => V_load (v := v84.v) ag24.h (EN ha (.tmp rfl rfl) rfl) hp.2 rfl rfl) ?_
     iterate 3 refine du ?_
     refine bnd hF fun x113 hx114 hF => ?_
     obtain ⟨hp115, hx116⟩ := ix_some hx114
     refine Di hx116 (fun k117 j118 => ?_)
     refine Dl ls3_0 ?_
     refine D_new rfl .no rfl (fun ha => N_buildSliceT (g := true) (len := 1) (parts := [(0, .tmp 64)]) sl24.h ty3.h (.cons (EN ha (.tmp rfl rfl) rfl) .nil) (vs := [(.int .i64 x113)]) rfl rfl rfl (by intro v hv; simp at hv; rcases hv with rfl <;> rfl)) (fun k119 => ?_)
     refine Dv1 (.cons .h .nil) (own_lit (Ro := (roE rdInt)) (E := 3) (F := ([] ++ [])) (xs := ([x113] : List Int)) (MkL_cons (Mk_pure (fun _ => rfl)) MkL_nil apps) rfl rfl) ?_
     refine bnd hF fun z120 hx121 hF => D_act1 rfl rfl .no (.cons (.t (.t (.t (.t (.t (.t (.t .h))))))) (.cons (.t (.t .h)) .nil)) (.own .h (by simp [cown]) (.own (.t (.t (.t (.t (.t .h))))) (fun _ h => h) (.dep rfl (.dep rfl .nil)))) (fun ha => X_appendO (Ro := (roE rdInt)) sl24.h ni24 ty3.h rfl rfl rfl (EN ha (.tmp rfl rfl) rfl) (EN ha (.tmp rfl rfl) rfl) hx121 src_own) (fun p122 => ?_)
     refine du ?_
     refine bnd hF fun z123 hx124 hF => D_act1 rfl rfl .no (.cons (.t (.t (.t (.t (.t (.t (.t .h))))))) (.cons (.t .h) .nil)) (.dep rfl (.dep rfl (.dep rfl (.dep rfl .nil)))) (fun ha => X_appendO (Ro := (roE rdInt)) sl24.h ni24 ty3.h rfl rfl rfl (EN ha (.tmp rfl rfl) rfl) (EN ha (.tmp rfl rfl) rfl) hx124 src_own) (fun p125 => ?_)
     refine D_act1 rfl rfl .no (.cons (.t (.t (.t (.t (.t (.t .h)))))) .nil) (.dep rfl (.dep rfl (.dep rfl (.dep rfl .nil)))) (fun ha => X_storeB (e' := (.agg [p122.1.v, v84.v].toArray)) ty24.h.sz (EN ha (.tmp rfl rfl) rfl) (EN ha (.tmp rfl rfl) rfl) rfl rfl rfl rfl rfl) (fun _ => ?_)
     refine du ?_
     refine D_act1 rfl rfl .no (.cons .h .nil) (.dep rfl (.dep rfl (.dep rfl (.dep rfl .nil)))) (fun ha => X_storeB (e' := (.agg [p122.1.v, p125.1.v].toArray)) ty24.h.sz (EN ha (.tmp rfl rfl) rfl) (EN ha (.tmp rfl rfl) rfl) rfl rfl rfl rfl rfl) (fun _ => ?_)
     refine du ?_
     refine K_draw [0, 1, 3, 4, 5, 6, 7, 2, 8] [0, 0, 3, 0, 8, 0, 56, 120, 255] [2] mixed (by decide +kernel) ?_
     refine D_atO rfl .no .h (fun ha hp => V_loadBox ag147.h ty147.h.sz rfl (EN ha (.tmp rfl rfl) rfl) hp.2 rfl) ?_
     iterate 4 refine du ?_
     refine bnd hF fun x126 hx127 hF => ?_
     obtain ⟨hp128, hx129⟩ := ix_some hx127
     refine Di hx129 (fun k130 j131 => ?_)
     refine Dl ls3_0 ?_
     refine bnd hF fun r132 hx133 hF => D_act2 rfl rfl .no (.cons (.t (.t .h)) (.cons (.t (.t .h)) .nil)) (.dep rfl .nil) (fun ha => XC_borL (pre := []) (.cons frz_own (.cons frz_own .nil)) (fun _ => .nil) (X_callS cf238.h (.cons (EN ha (.tmp rfl rfl) rfl) (.cons (EN ha (.tmp rfl rfl) rfl) .nil)) (i_ValueOf_ok ({ Vars := z120, Values := z123 } : Binding) p122.1 p125.1 x91 _ hx133))) (fun _ => ?_)
     iterate 2 refine du ?_
     refine Ci hF (fun hb135 hF => ?_) (fun hb135 hF => ?_)
     · refine au ?_
       refine C_val (V_build ty147.h rfl (vs := []) .nil (cells := [(.slice none 0 0), (.slice none 0 0)]) rfl) ?_
       refine As (.agg [(.slice none 0 0), (.slice none 0 0)].toArray) ?_
       iterate 3 refine au ?_
       cases hF
       replace hF := hO99
       try dsimp only at hF
       cases hF
       exact End_ret (⟨none, 0, 0⟩, [], ⟨none, 0, 0⟩, []) (.cellA rfl rfl .h rfl ag147.h ty147.h.sz rfl rfl (.tmp rfl rfl .nil)) rfl (.conv .nil (own_nil (Ro := (roE rdInt)) (E := 3)) (.cons .nil) (.conv .nil (own_nil (Ro := (roE rdInt)) (E := 3)) (.cons .nil) (.sel (.cons (.t .h) (.cons .h .nil)))))
     refine au ?_
     cases hF
     exact ⟨_, _, p122.1, p122.2, p125.1, p125.2, _, rfl, eqA, entA⟩
   refine au ?_
   refine K_draw [0, 1, 3, 4, 5, 6, 7, 2, 8] [0, 0, 3, 0, 8, 0, 56, 120, 255] [2] mixed (by decide +kernel) ?_
   refine D_atO rfl .no (.t (.t (.t .h))) (fun ha hp => V_loadBox ag147.h ty147.h.sz rfl (EN ha (.tmp rfl rfl) rfl) hp.2 rfl) ?_
   iterate 4 refine du ?_
   refine bnd hF fun x136 hx137 hF => ?_
   obtain ⟨hp138, hx139⟩ := ix_some hx137
   refine Di hx139 (fun k140 j141 => ?_)
   refine Dl ls3_0 ?_
   refine bnd hF fun r142 hx143 hF => D_act2 rfl rfl .no (.cons (.t (.t (.t (.t (.t (.t .h)))))) (.cons (.t (.t (.t (.t (.t .h))))) .nil)) (.dep rfl .nil) (fun ha => XC_borL (pre := []) (.cons frz_own (.cons frz_own .nil)) (fun _ => .nil) (X_callS cf238.h (.cons (EN ha (.tmp rfl rfl) rfl) (.cons (EN ha (.tmp rfl rfl) rfl) .nil)) (i_ValueOf_ok ({ Vars := c80, Values := c83 } : Binding) v81 v84 x91 _ hx143))) (fun _ => ?_)
   iterate 2 refine du ?_
   refine Ci hF (fun hb145 hF => ?_) (fun hb145 hF => ?_)
   · refine au ?_
     refine C_val (V_build ty147.h rfl (vs := []) .nil (cells := [(.slice none 0 0), (.slice none 0 0)]) rfl) ?_
     refine As (.agg [(.slice none 0 0), (.slice none 0 0)].toArray) ?_
     iterate 3 refine au ?_
     cases hF
     replace hF := hO99
     try dsimp only at hF
     cases hF
     exact End_ret (⟨none, 0, 0⟩, [], ⟨none, 0, 0⟩, []) (.cellA rfl rfl .h rfl ag147.h ty147.h.sz rfl rfl (.tmp rfl rfl .nil)) rfl (.conv .nil (own_nil (Ro := (roE rdInt)) (E := 3)) (.cons .nil) (.conv .nil (own_nil (Ro := (roE rdInt)) (E := 3)) (.cons .nil) (.sel (.cons (.t .h) (.cons .h .nil)))))
   refine au ?_
   cases hF
   exact ⟨_, _, v81, F82, v84, F85, _, rfl, eqA, entA⟩
 rintro _ _ ⟨c148, c151, v149, F150, v152, F153, g155, rfl, rfl, hE⟩
 replace hF := hO99
 try dsimp only at hF
 refine K_ent hE ?_
 iterate 4 refine au ?_
 rw [wk k89]
 exact ⟨_, Nat.lt_succ_self _, _, k89 + 1, rest90, _, _, v149, F150, v152, F153, rfl, eqA, hd95, entA, hF⟩
def i_matchAll_L2 (a_a : Atom) (x11 : Binding) : List Fact → Nat → (List Binding) → Option ((List Binding))
 | [], k30, c24 => some c24
 | x32 :: rest31, k30, c24 => ((i_MatchAtom x11 a_a x32).bind fun r45 =>
     if r45.2 then (
       (app c24 ([r45.1] : List Binding)).bind fun z50 =>
       some z50)
     else (
       some c24)).bind fun o39 =>
   match o39 with
   | c54 => i_matchAll_L2 a_a x11 rest31 (k30 + 1) c54
def i_matchAll_L1 (a_a : Atom) (a_facts : List Fact) : List Binding → Nat → (List Binding) → Option ((List Binding))
 | [], k9, c3 => some c3
 | x11 :: rest10, k9, c3 => (i_matchAll_L2 a_a x11 a_facts 0 c3).bind fun o18 =>
   match o18 with
   | c59 => i_matchAll_L1 a_a a_facts rest10 (k9 + 1) c59
def i_matchAll (a_bindings : List Binding) (a_a : Atom) (a_facts : List Fact) : Option ((List Binding)) :=
 i_matchAll_L1 a_a a_facts a_bindings 0 ([] : List Binding)
theorem i_matchAll_ok (a_bindings : List Binding) (v0_0 : Sv) (a_a : Atom) (v1_1 : Sv) (a_facts : List Fact) (v2_0 : Sv) (R : (List Binding)) (hF : i_matchAll a_bindings a_a a_facts = some R) :
   Fw.Spec Tryz.prog 195 [v0_0.v, (.agg [(.int .i64 a_a.Rel), v1_1.v].toArray), v2_0.v] [crd (RdS 147 rd147) v0_0.v a_bindings, crd (RdS 3 rdInt) v1_1.v a_a.Terms, crd (RdS 86 rd86) v2_0.v a_facts] (fun p : Sv × List Nat => p.1.v) (fun p => [cown (OwnS 147 ow147) p.2 p.1.v R]) := by
 refine Se 42 Tryz.func195 [.tmp 6] ?_
 intro H0 F0
 unfold i_matchAll at hF
 refine au ?_
 refine AbR (fun k1 => ?_)
 iterate 3 refine au ?_
 refine C_new rfl (N_buildSliceT (g := true) sl103.h ty147.h .nil (vs := []) rfl rfl rfl (by simp)) (fun k2 => ?_)
 refine Cv1 (.cons .h .nil) (own_lit (Ro := ow147) (E := 147) (F := []) (xs := ([] : List Binding)) MkL_nil rfl rfl) ?_
 iterate 8 refine au ?_
 refine CW_block (CW_loop (m := a_bindings.length) (fun m7 f' cs' => ∃ (g : Fr) (k9 : Nat) (rest10 : List Binding) (c3 : List Binding) (v4 : Sv) (F5 : List Nat), m7 = rest10.length ∧ f' = updL g [(2, v2_0.v), (4, (pz k1)), (7, v4.v), (15, v0_0.v), (16, (.int .i64 (a_bindings.length : Int))), (17, (.int .i64 (k9 : Int)))] ∧ List.drop k9 a_bindings = rest10 ∧ Ent cs' [crd (RdS 86 rd86) v2_0.v a_facts, cboR k1 98 (.agg [(.int .i64 a_a.Rel), v1_1.v].toArray), crd (RdS 3 rdInt) v1_1.v a_a.Terms, cown (OwnS 147 ow147) F5 v4.v c3, crd (RdS 147 rd147) v0_0.v a_bindings] ∧ i_matchAll_L1 a_a a_facts rest10 k9 c3 = some R) ⟨_, 0, _, _, ⟨(some ⟨k2, 0, none⟩), 0, 1⟩, (k2 :: []), rfl, eqA, rfl, entA, hF⟩ ?_)
 rintro m7 _ _ ⟨g8, k9, rest10, c3, v4, F5, rfl, rfl, hd12, hE, hF⟩
 refine Kb hE a_bindings (fun hbd17 => ?_)
 rcases rest10 with _ | ⟨x11, rest10⟩
 · have hk13 := dn hd12
   rw [i_matchAll_L1] at hF
   iterate 4 refine au ?_
   refine CdF ?_
   iterate 9 refine au ?_
   cases hF
   exact Er (v4, F5)
 obtain ⟨hk13, hx14, hd15⟩ := drop_cons hd12
 rw [i_matchAll_L1] at hF
 iterate 4 refine au ?_
 refine CdT ?_
 refine au ?_
 obtain ⟨o18, hio18, hO19⟩ := bind_some hF
 refine K_cut (fun f' cs' => ∃ (c59 : List Binding) (v60 : Sv) (F61 : List Nat) (g : Fr), c59 = o18 ∧ f' = updL g [(2, v2_0.v), (4, (pz k1)), (7, v60.v), (15, v0_0.v), (16, (.int .i64 (a_bindings.length : Int))), (17, (.int .i64 (k9 : Int)))] ∧ Ent cs' [crd (RdS 86 rd86) v2_0.v a_facts, cboR k1 98 (.agg [(.int .i64 a_a.Rel), v1_1.v].toArray), crd (RdS 3 rdInt) v1_1.v a_a.Terms, cown (OwnS 147 ow147) F61 v60.v c59, crd (RdS 147 rd147) v0_0.v a_bindings]) ?_ ?_
 · replace hF := hio18
   refine CW_block (K_region (C_idx (a := x11) sl103.h ty147.h.sz (.tmp rfl rfl) (.tmp rfl rfl) (.t (.t (.t (.t .h)))) (Int.natCast_nonneg k9) hx14 (fun k20 j21 => ?_)))
   refine AlA2 (ul147_0_147 x11) la147_0_147 (fun p22 => ?_)
   refine AnW (fun k23 => ?_)
   refine As (.agg [p22.1.v, p22.2.v].toArray) ?_
   iterate 6 refine au ?_
   refine CW_block (CW_loop (m := a_facts.length) (fun m28 f' cs' => ∃ (g : Fr) (k30 : Nat) (rest31 : List Fact) (c24 : List Binding) (v25 : Sv) (F26 : List Nat), m28 = rest31.length ∧ f' = updL g [(2, v2_0.v), (4, (pz k1)), (7, v25.v), (9, (pz k23)), (15, v0_0.v), (16, (.int .i64 (a_bindings.length : Int))), (17, (.int .i64 (k9 : Int))), (21, v2_0.v), (22, (.int .i64 (a_facts.length : Int))), (23, (.int .i64 (k30 : Int)))] ∧ List.drop k30 a_facts = rest31 ∧ Ent cs' [crd (RdS 86 rd86) v2_0.v a_facts, cboR k1 98 (.agg [(.int .i64 a_a.Rel), v1_1.v].toArray), crd (RdS 3 rdInt) v1_1.v a_a.Terms, cown (OwnS 147 ow147) F26 v25.v c24, cbox k23 147 (.agg [p22.1.v, p22.2.v].toArray), crd (RdS 3 rdInt) p22.1.v x11.Vars, crd (RdS 3 rdInt) p22.2.v x11.Values, crd (RdS 147 rd147) v0_0.v a_bindings] ∧ i_matchAll_L2 a_a x11 rest31 k30 c24 = some o18) ⟨_, 0, _, _, v4, F5, rfl, eqA, rfl, entA, hF⟩ ?_)
   rintro m28 _ _ ⟨g29, k30, rest31, c24, v25, F26, rfl, rfl, hd33, hE, hF⟩
   refine Kb hE a_facts (fun hbd38 => ?_)
   rcases rest31 with _ | ⟨x32, rest31⟩
   · have hk34 := dn hd33
     rw [i_matchAll_L2] at hF
     iterate 4 refine au ?_
     refine CdF ?_
     iterate 4 refine au ?_
     cases hF
     exact ⟨_, v25, F26, _, rfl, eqA, entA⟩
   obtain ⟨hk34, hx35, hd36⟩ := drop_cons hd33
   rw [i_matchAll_L2] at hF
   iterate 4 refine au ?_
   refine CdT ?_
   refine au ?_
   obtain ⟨o39, hio39, hO40⟩ := bind_some hF
   refine K_cut (fun f' cs' => ∃ (c54 : List Binding) (v55 : Sv) (F56 : List Nat) (g : Fr), c54 = o39 ∧ f' = updL g [(2, v2_0.v), (4, (pz k1)), (7, v55.v), (9, (pz k23)), (15, v0_0.v), (16, (.int .i64 (a_bindings.length : Int))), (17, (.int .i64 (k9 : Int))), (21, v2_0.v), (22, (.int .i64 (a_facts.length : Int))), (23, (.int .i64 (k30 : Int)))] ∧ Ent cs' [crd (RdS 86 rd86) v2_0.v a_facts, cboR k1 98 (.agg [(.int .i64 a_a.Rel), v1_1.v].toArray), crd (RdS 3 rdInt) v1_1.v a_a.Terms, cown (OwnS 147 ow147) F56 v55.v c54, cbox k23 147 (.agg [p22.1.v, p22.2.v].toArray), crd (RdS 3 rdInt) p22.1.v x11.Vars, crd (RdS 3 rdInt) p22.2.v x11.Values, crd (RdS 147 rd147) v0_0.v a_bindings]) ?_ ?_
   · replace hF := hio39
     refine CW_block (K_region (C_idx (a := x32) sl27.h ty86.h.sz (.tmp rfl rfl) (.tmp rfl rfl) .h (Int.natCast_nonneg k30) hx35 (fun k41 j42 => ?_)))
     refine AlA1 (ul86_0_86 x32) la86_0_86 (fun p43 => ?_)
     refine AnW (fun k44 => ?_)
     refine As (.agg [(.int .i64 x32.Rel), p43.v].toArray) ?_
     iterate 5 refine au ?_
     refine bnd hF fun r45 hx46 hF => Cx2 (i_MatchAtom_ok _ _ _ _ _ _ _ _ hx46) (fun p47 => ?_)
     refine au ?_
     refine C_val (V_extract (l := [(.agg [p47.1.v, p47.2.2.1.v].toArray), (.bool r45.2)]) (v := (.agg [p47.1.v, p47.2.2.1.v].toArray)) (.tmp rfl rfl) rfl) ?_
     refine C_val (V_extract (l := [(.agg [p47.1.v, p47.2.2.1.v].toArray), (.bool r45.2)]) (v := (.bool r45.2)) (.tmp rfl rfl) rfl) ?_
     refine AnW (fun k48 => ?_)
     refine As (.agg [p47.1.v, p47.2.2.1.v].toArray) ?_
     iterate 5 refine au ?_
     refine Ci hF (fun hb53 hF => ?_) (fun hb53 hF => ?_)
     · iterate 3 refine au ?_
       refine C_new rfl (N_buildSliceT (g := true) sl103.h ty147.h (.cons (.tmp rfl rfl) .nil) (vs := [(.agg [p47.1.v, p47.2.2.1.v].toArray)]) rfl rfl rfl (by intro v hv; simp at hv; rcases hv with rfl <;> rfl)) (fun k49 => ?_)
       refine Cv1 (.cons .h (.cons (.t .h) (.cons (.t .h) .nil))) (own_lit (Ro := ow147) (E := 147) (F := ((p47.2.1 ++ p47.2.2.2) ++ [])) (xs := ([r45.1] : List Binding)) (MkL_cons mk147 MkL_nil apps) rfl rfl) ?_
       refine bnd hF fun z50 hx51 hF => C_x1 (.cons (.t (.t (.t (.t (.t (.t (.t (.t .h)))))))) (.cons .h .nil)) (X_appendO (Ro := ow147) sl103.h ni103 ty147.h rfl rfl rfl (.tmp rfl rfl) (.tmp rfl rfl) hx51 src_own) (fun p52 => ?_)
       iterate 2 refine au ?_
       cases hF
       exact ⟨_, p52.1, p52.2, _, rfl, eqA, entA⟩
     refine au ?_
     cases hF
     exact ⟨_, v25, F26, _, rfl, eqA, entA⟩
   rintro _ _ ⟨c54, v55, F56, g58, rfl, rfl, hE⟩
   replace hF := hO40
   try dsimp only at hF
   refine K_ent hE ?_
   iterate 4 refine au ?_
   rw [wk k30]
   exact ⟨_, Nat.lt_succ_self _, _, k30 + 1, rest31, _, v55, F56, rfl, eqA, hd36, entA, hF⟩
 rintro _ _ ⟨c59, v60, F61, g63, rfl, rfl, hE⟩
 replace hF := hO19
 try dsimp only at hF
 refine K_ent hE ?_
 iterate 4 refine au ?_
 rw [wk k9]
 exact ⟨_, Nat.lt_succ_self _, _, k9 + 1, rest10, _, v60, F61, rfl, eqA, hd15, entA, hF⟩
def i_BindingsOf_L1 (a_facts : List Fact) : List Atom → Nat → (List Binding) → Option ((List Binding))
 | [], k9, c3 => some c3
 | x11 :: rest10, k9, c3 => (i_matchAll c3 x11 a_facts).bind fun r22 =>
   i_BindingsOf_L1 a_facts rest10 (k9 + 1) r22
def i_BindingsOf (a_q : Query) (a_facts : List Fact) : Option ((List Binding)) :=
 i_BindingsOf_L1 a_facts a_q.Atoms 0 ([({ Vars := [], Values := [] } : Binding)] : List Binding)
theorem i_BindingsOf_ok (a_q : Query) (v0_0 : Sv) (v0_1 : Sv) (a_facts : List Fact) (v1_0 : Sv) (R : (List Binding)) (hF : i_BindingsOf a_q a_facts = some R) :
   Fw.Spec Tryz.prog 129 [(.agg [v0_0.v, v0_1.v].toArray), v1_0.v] [crd (RdS 3 rdInt) v0_0.v a_q.Head, crd (RdS 98 rd98) v0_1.v a_q.Atoms, crd (RdS 86 rd86) v1_0.v a_facts] (fun p : Sv × List Nat => p.1.v) (fun p => [cown (OwnS 147 ow147) p.2 p.1.v R]) := by
 refine Se 23 Tryz.func129 [.tmp 4] ?_
 intro H0 F0
 unfold i_BindingsOf at hF
 refine au ?_
 refine AbR (fun k1 => ?_)
 iterate 3 refine au ?_
 refine C_val (V_build ty147.h rfl (vs := []) .nil (cells := [(.slice none 0 0), (.slice none 0 0)]) rfl) ?_
 refine C_new rfl (N_buildSliceT (g := true) sl103.h ty147.h (.cons (.tmp rfl rfl) .nil) (vs := [(.agg [(.slice none 0 0), (.slice none 0 0)].toArray)]) rfl rfl rfl (by intro v hv; simp at hv; rcases hv with rfl <;> rfl)) (fun k2 => ?_)
 iterate 2 refine C_conv .nil (own_nil (Ro := (roE rdInt)) (E := 3)) apps ?_
 refine Cv1 (.cons (.t (.t .h)) (.cons (.t .h) (.cons .h .nil))) (own_lit (Ro := ow147) (E := 147) (F := (([] ++ []) ++ [])) (xs := ([({ Vars := [], Values := [] } : Binding)] : List Binding)) (MkL_cons (mk147 (v0 := ⟨none, 0, 0⟩) (v1 := ⟨none, 0, 0⟩) (a := ({ Vars := [], Values := [] } : Binding))) MkL_nil apps) rfl rfl) ?_
 iterate 9 refine au ?_
 refine CW_block (CW_loop (m := a_q.Atoms.length) (fun m7 f' cs' => ∃ (g : Fr) (k9 : Nat) (rest10 : List Atom) (c3 : List Binding) (v4 : Sv) (F5 : List Nat), m7 = rest10.length ∧ f' = updL g [(1, v1_0.v), (5, v4.v), (11, v0_1.v), (12, (.int .i64 (a_q.Atoms.length : Int))), (13, (.int .i64 (k9 : Int)))] ∧ List.drop k9 a_q.Atoms = rest10 ∧ Ent cs' [crd (RdS 86 rd86) v1_0.v a_facts, cown (OwnS 147 ow147) F5 v4.v c3, crd (RdS 98 rd98) v0_1.v a_q.Atoms] ∧ i_BindingsOf_L1 a_facts rest10 k9 c3 = some R) ⟨_, 0, _, _, ⟨(some ⟨k2, 0, none⟩), 1, 1⟩, (k2 :: (([] ++ []) ++ [])), rfl, eqA, rfl, entA, hF⟩ ?_)
 rintro m7 _ _ ⟨g8, k9, rest10, c3, v4, F5, rfl, rfl, hd12, hE, hF⟩
 refine Kb hE a_q.Atoms (fun hbd17 => ?_)
 rcases rest10 with _ | ⟨x11, rest10⟩
 · have hk13 := dn hd12
   rw [i_BindingsOf_L1] at hF
   iterate 4 refine au ?_
   refine CdF ?_
   iterate 9 refine au ?_
   cases hF
   exact Er (v4, F5)
 obtain ⟨hk13, hx14, hd15⟩ := drop_cons hd12
 rw [i_BindingsOf_L1] at hF
 iterate 4 refine au ?_
 refine CdT ?_
 iterate 3 refine au ?_
 refine Ai hx14 (fun k18 j19 => ?_)
 refine AlA1 (ul98_0_98 x11) la98_0_98 (fun p20 => ?_)
 refine AnW (fun k21 => ?_)
 refine As (.agg [(.int .i64 x11.Rel), p20.v].toArray) ?_
 iterate 5 refine au ?_
 refine bnd hF fun r22 hx23 hF => C_x2 (.cons (.t (.t (.t (.t .h)))) (.rd (.t .h) rfl (.rd (.t (.t (.t .h))) rfl .nil))) (XC_bor frz_own (fun _ => (.cons .nil)) (X_callS cf195.h (.cons (.tmp rfl rfl) (.cons (.tmp rfl rfl) (.cons (.tmp rfl rfl) .nil))) (i_matchAll_ok c3 v4 x11 p20 a_facts v1_0 _ hx23))) (fun p24 => ?_)
 iterate 6 refine au ?_
 rw [wk k9]
 exact ⟨_, Nat.lt_succ_self _, _, k9 + 1, rest10, _, p24.1, p24.2, rfl, eqA, hd15, entA, hF⟩
def i_TupleOf_L1 (a_b : Binding) : List Int → Nat → (List Int) → Option ((List Int))
 | [], k10, c4 => some c4
 | x12 :: rest11, k10, c4 => (i_ValueOf a_b x12).bind fun r21 =>
   (app c4 ([r21] : List Int)).bind fun z25 =>
   i_TupleOf_L1 a_b rest11 (k10 + 1) z25
def i_TupleOf (a_q : Query) (a_b : Binding) : Option ((List Int)) :=
 i_TupleOf_L1 a_b a_q.Head 0 ([] : List Int)
theorem i_TupleOf_ok (a_q : Query) (v0_0 : Sv) (v0_1 : Sv) (a_b : Binding) (v1_0 : Sv) (v1_1 : Sv) (R : (List Int)) (hF : i_TupleOf a_q a_b = some R) :
   Fw.Spec Tryz.prog 194 [(.agg [v0_0.v, v0_1.v].toArray), (.agg [v1_0.v, v1_1.v].toArray)] [crd (RdS 3 rdInt) v0_0.v a_q.Head, crd (RdS 98 rd98) v0_1.v a_q.Atoms, crd (RdS 3 rdInt) v1_0.v a_b.Vars, crd (RdS 3 rdInt) v1_1.v a_b.Values] (fun p : Sv × List Nat => p.1.v) (fun p => [cown (OwnS 3 (roE rdInt)) p.2 p.1.v R]) := by
 refine Se 24 Tryz.func194 [.tmp 4] ?_
 intro H0 F0
 unfold i_TupleOf at hF
 refine au ?_
 refine AbR (fun k1 => ?_)
 refine AbR (fun k2 => ?_)
 iterate 3 refine au ?_
 refine C_new rfl (N_buildSliceT (g := true) sl24.h ty3.h .nil (vs := []) rfl rfl rfl (by simp)) (fun k3 => ?_)
 refine Cv1 (.cons .h .nil) (own_lit (Ro := (roE rdInt)) (E := 3) (F := []) (xs := ([] : List Int)) MkL_nil rfl rfl) ?_
 iterate 9 refine au ?_
 refine CW_block (CW_loop (m := a_q.Head.length) (fun m8 f' cs' => ∃ (g : Fr) (k10 : Nat) (rest11 : List Int) (c4 : List Int) (v5 : Sv) (F6 : List Nat), m8 = rest11.length ∧ f' = updL g [(3, (pz k2)), (5, v5.v), (10, v0_0.v), (11, (.int .i64 (a_q.Head.length : Int))), (12, (.int .i64 (k10 : Int)))] ∧ List.drop k10 a_q.Head = rest11 ∧ Ent cs' [cboR k2 147 (.agg [v1_0.v, v1_1.v].toArray), crd (RdS 3 rdInt) v1_0.v a_b.Vars, crd (RdS 3 rdInt) v1_1.v a_b.Values, cown (OwnS 3 (roE rdInt)) F6 v5.v c4, crd (RdS 3 rdInt) v0_0.v a_q.Head] ∧ i_TupleOf_L1 a_b rest11 k10 c4 = some R) ⟨_, 0, _, _, ⟨(some ⟨k3, 0, none⟩), 0, 1⟩, (k3 :: []), rfl, eqA, rfl, entA, hF⟩ ?_)
 rintro m8 _ _ ⟨g9, k10, rest11, c4, v5, F6, rfl, rfl, hd13, hE, hF⟩
 refine Kb hE a_q.Head (fun hbd18 => ?_)
 rcases rest11 with _ | ⟨x12, rest11⟩
 · have hk14 := dn hd13
   rw [i_TupleOf_L1] at hF
   iterate 4 refine au ?_
   refine CdF ?_
   iterate 9 refine au ?_
   cases hF
   exact Er (v5, F6)
 obtain ⟨hk14, hx15, hd16⟩ := drop_cons hd13
 rw [i_TupleOf_L1] at hF
 iterate 4 refine au ?_
 refine CdT ?_
 iterate 3 refine au ?_
 refine Ai hx15 (fun k19 j20 => ?_)
 refine Al ls3_0 ?_
 iterate 6 refine au ?_
 refine bnd hF fun r21 hx22 hF => Cx0 (i_ValueOf_ok _ _ _ _ _ hx22) (fun _ => ?_)
 refine C_new rfl (N_buildSliceT (g := true) sl24.h ty3.h (.cons (.tmp rfl rfl) .nil) (vs := [(.int .i64 r21)]) rfl rfl rfl (by intro v hv; simp at hv; rcases hv with rfl <;> rfl)) (fun k24 => ?_)
 refine Cv1 (.cons .h .nil) (own_lit (Ro := (roE rdInt)) (E := 3) (F := ([] ++ [])) (xs := ([r21] : List Int)) (MkL_cons (Mk_pure (fun _ => rfl)) MkL_nil apps) rfl rfl) ?_
 refine bnd hF fun z25 hx26 hF => C_x1 (.cons (.t (.t (.t (.t (.t .h))))) (.cons .h .nil)) (X_appendO (Ro := (roE rdInt)) sl24.h ni24 ty3.h rfl rfl rfl (.tmp rfl rfl) (.tmp rfl rfl) hx26 src_own) (fun p27 => ?_)
 iterate 6 refine au ?_
 rw [wk k10]
 exact ⟨_, Nat.lt_succ_self _, _, k10 + 1, rest11, _, p27.1, p27.2, rfl, eqA, hd16, entA, hF⟩
def i_hasTuple_1 (a_x : List Int) (a_e1 : List Int) : Option (Bool) :=
 (g_slices_Equal_int_int a_x a_e1).bind fun r1 =>
 some r1
theorem i_hasTuple_1_ok (a_x : List Int) (v0_0 : Sv) (kc1 : Nat) (a_e1 : List Int) (vc1_0 : Sv) (R : Bool) (hF : i_hasTuple_1 a_x a_e1 = some R) :
   Fw.Spec Tryz.prog 205 [v0_0.v, (pz kc1)] [crd (RdS 3 rdInt) v0_0.v a_x, cboR kc1 24 vc1_0.v, crd (RdS 3 rdInt) vc1_0.v a_e1] (fun _ : Unit => (.bool R)) (fun _ => []) := by
 refine Se 7 Tryz.func205 [.tmp 3] ?_
 intro H0 F0
 unfold i_hasTuple_1 at hF
 iterate 6 refine au ?_
 refine bnd hF fun r1 hx2 hF => Cx0 (g_slices_Equal_int_int_ok _ _ _ _ _ hx2) (fun _ => ?_)
 iterate 3 refine au ?_
 cases hF
 exact Er ()
end Go.Proofs.YtndckmfbndmkhabGreat
