/-
  Functions of the program as Lean functions, and that the calls return what these say: part 2. No conditions.
-/
import Derived.Shelf.Sort.Plain
import Derived.Shelf.Slices.In.SortNone
import Derived.Shelf.Slices.CompactI
import Derived.Test.YtndckmfbndmkhaaGreatFnReachesG0
import Derived.KernelRfl
set_option maxRecDepth 100000
set_option maxHeartbeats 1000000
set_option linter.unusedVariables false
namespace Go.Proofs.YtndckmfbndmkhaaGreat
open Go Go.Fw

def i_Reached_open_L2 (a_r : Reached) (k9 : Nat) : List (List Int) → Nat → (List Access) → Option ((List Access))
 | [], k50, c43 => some c43
 | x52 :: rest51, k50, c43 => ((i_hasAccess a_r.Log ({ Method := (k9 : Int), Values := x52 } : Access)).bind fun r67 =>
     if (!r67) then (
       (app c43 ([({ Method := (k9 : Int), Values := x52 } : Access)] : List Access)).bind fun z71 =>
       some z71)
     else (
       some c43)).bind fun o59 =>
   match o59 with
   | c75 => i_Reached_open_L2 a_r k9 rest51 (k50 + 1) c75
def i_Reached_open_L1 (a_r : Reached) : List Method → Nat → (List Access) → Option ((List Access))
 | [], k9, c3 => some c3
 | x11 :: rest10, k9, c3 => (if ((x11.Limit : Int) != 0) then (
       some c3)
     else (
       (i_lists a_r.Values (x11.Inputs.length : Int)).bind fun r24 =>
       i_Reached_open_L2 a_r k9 r24 0 c3)).bind fun o18 =>
   match o18 with
   | c82 => i_Reached_open_L1 a_r rest10 (k9 + 1) c82
def i_Reached_open (a_r : Reached) (a_l : List Method) : Option ((List Access)) :=
 i_Reached_open_L1 a_r a_l 0 ([] : List Access)
theorem i_Reached_open_ok (a_r : Reached) (v0_0 : Sv) (v0_1 : Sv) (v0_2 : Sv) (a_l : List Method) (v1_0 : Sv) (R : (List Access)) (hF : i_Reached_open a_r a_l = some R) :
   Fw.Spec Tryz.prog 69 [(.agg [v0_0.v, v0_1.v, v0_2.v, (.int .i64 a_r.Rounds)].toArray), v1_0.v] [crd (RdS 58 rd58) v0_0.v a_r.Facts, crd (RdS 3 rdInt) v0_1.v a_r.Values, crd (RdS 54 rd54) v0_2.v a_r.Log, crd (RdS 97 rd97) v1_0.v a_l] (fun p : Sv × List Nat => p.1.v) (fun p => [cown (OwnS 54 ow54) p.2 p.1.v R]) := by
 refine Se 48 Tryz.func69 [.tmp 4] ?_
 intro H0 F0
 unfold i_Reached_open at hF
 refine au ?_
 refine AbR (fun k1 => ?_)
 iterate 3 refine au ?_
 refine C_new rfl (N_buildSliceT (g := true) sl44.h ty54.h .nil (vs := []) rfl rfl rfl (by simp)) (fun k2 => ?_)
 refine Cv1 (.cons .h .nil) (own_lit (Ro := ow54) (E := 54) (F := []) (xs := ([] : List Access)) MkL_nil rfl rfl) ?_
 iterate 8 refine au ?_
 refine CW_block (CW_loop (m := a_l.length) (fun m7 f' cs' => ∃ (g : Fr) (k9 : Nat) (rest10 : List Method) (c3 : List Access) (v4 : Sv) (F5 : List Nat), m7 = rest10.length ∧ f' = updL g [(2, (pz k1)), (5, v4.v), (12, v1_0.v), (13, (.int .i64 (a_l.length : Int))), (14, (.int .i64 (k9 : Int)))] ∧ List.drop k9 a_l = rest10 ∧ Ent cs' [cboR k1 46 (.agg [v0_0.v, v0_1.v, v0_2.v, (.int .i64 a_r.Rounds)].toArray), crd (RdS 58 rd58) v0_0.v a_r.Facts, crd (RdS 3 rdInt) v0_1.v a_r.Values, crd (RdS 54 rd54) v0_2.v a_r.Log, cown (OwnS 54 ow54) F5 v4.v c3, crd (RdS 97 rd97) v1_0.v a_l] ∧ i_Reached_open_L1 a_r rest10 k9 c3 = some R) ⟨_, 0, _, _, ⟨(some ⟨k2, 0, none⟩), 0, 1⟩, (k2 :: []), rfl, eqA, rfl, entA, hF⟩ ?_)
 rintro m7 _ _ ⟨g8, k9, rest10, c3, v4, F5, rfl, rfl, hd12, hE, hF⟩
 refine Kb hE a_l (fun hbd17 => ?_)
 rcases rest10 with _ | ⟨x11, rest10⟩
 · have hk13 := dn hd12
   rw [i_Reached_open_L1] at hF
   iterate 4 refine au ?_
   refine CdF ?_
   iterate 9 refine au ?_
   cases hF
   exact Er (v4, F5)
 obtain ⟨hk13, hx14, hd15⟩ := drop_cons hd12
 rw [i_Reached_open_L1] at hF
 iterate 4 refine au ?_
 refine CdT ?_
 refine au ?_
 obtain ⟨o18, hio18, hO19⟩ := bind_some hF
 refine K_cut (fun f' cs' => ∃ (c82 : List Access) (v83 : Sv) (F84 : List Nat) (g : Fr), c82 = o18 ∧ f' = updL g [(2, (pz k1)), (5, v83.v), (12, v1_0.v), (13, (.int .i64 (a_l.length : Int))), (14, (.int .i64 (k9 : Int)))] ∧ Ent cs' [cboR k1 46 (.agg [v0_0.v, v0_1.v, v0_2.v, (.int .i64 a_r.Rounds)].toArray), crd (RdS 58 rd58) v0_0.v a_r.Facts, crd (RdS 3 rdInt) v0_1.v a_r.Values, crd (RdS 54 rd54) v0_2.v a_r.Log, cown (OwnS 54 ow54) F84 v83.v c82, crd (RdS 97 rd97) v1_0.v a_l]) ?_ ?_
 · replace hF := hio18
   refine CW_block (K_region (Cm (.int .i64 (k9 : Int)) rfl rfl ?_))
   refine Ai hx14 (fun k20 j21 => ?_)
   refine AlA1 (ul97_0_97 x11) la97_0_97 (fun p22 => ?_)
   refine AnW (fun k23 => ?_)
   refine au ?_
   refine As (.agg [(.int .i64 x11.Rel), p22.v, (.int .i64 x11.Limit), (.int .i64 x11.Cost), (.int .i64 x11.Quota)].toArray) ?_
   iterate 7 refine au ?_
   refine Ci hF (fun hb81 hF => ?_) (fun hb81 hF => ?_)
   · iterate 3 refine au ?_
     cases hF
     exact ⟨_, v4, F5, _, rfl, eqA, entA⟩
   iterate 7 refine au ?_
   refine bnd hF fun r24 hx25 hF => Cx1 (i_lists_ok _ _ _ _ hx25) (fun p26 => ?_)
   iterate 3 refine au ?_
   refine CW_block (K_mov (s := 1) .h (fun es41 G42 => ?_))
   refine CW_loop (m := r24.length) (fun m48 f' cs' => ∃ (g : Fr) (k50 : Nat) (rest51 : List (List Int)) (c43 : List Access) (v44 : Sv) (F45 : List Nat) (G46 : List Nat), m48 = rest51.length ∧ f' = updL g [(2, (pz k1)), (5, v44.v), (6, (.int .i64 (k9 : Int))), (12, v1_0.v), (13, (.int .i64 (a_l.length : Int))), (14, (.int .i64 (k9 : Int))), (27, p26.1.v), (28, (.int .i64 (r24.length : Int))), (29, (.int .i64 (k50 : Int)))] ∧ List.drop k50 r24 = rest51 ∧ Ent cs' [cboR k1 46 (.agg [v0_0.v, v0_1.v, v0_2.v, (.int .i64 a_r.Rounds)].toArray), crd (RdS 58 rd58) v0_0.v a_r.Facts, crd (RdS 3 rdInt) v0_1.v a_r.Values, crd (RdS 54 rd54) v0_2.v a_r.Log, cown (OwnS 54 ow54) F45 v44.v c43, crd (RdS 97 rd97) v1_0.v a_l, cmov 24 1 (OwnS 3 (roE rdInt)) G46 p26.1.v es41 r24.length k50 rest51] ∧ i_Reached_open_L2 a_r k9 rest51 k50 c43 = some o18) ⟨_, 0, _, _, v4, F5, G42, rfl, eqA, rfl, entA, hF⟩ ?_
   rintro m48 _ _ ⟨g49, k50, rest51, c43, v44, F45, G46, rfl, rfl, hd53, hE, hF⟩
   refine K_ent hE ?_
   refine K_pure (c := cmov 24 1 (OwnS 3 (roE rdInt)) G46 p26.1.v es41 r24.length k50 rest51) (.t (.t (.t (.t (.t (.t .h)))))) cmov_bound (fun hbd58 => ?_)
   rcases rest51 with _ | ⟨x52, rest51⟩
   · have hk54 := dn hd53
     rw [i_Reached_open_L2] at hF
     iterate 4 refine au ?_
     refine CdF ?_
     iterate 4 refine au ?_
     cases hF
     exact ⟨_, v44, F45, _, rfl, eqA, entA⟩
   obtain ⟨hk54, hx55, hd56⟩ := drop_cons hd53
   rw [i_Reached_open_L2] at hF
   iterate 4 refine au ?_
   refine CdT ?_
   refine au ?_
   obtain ⟨o59, hio59, hO60⟩ := bind_some hF
   refine K_cut (fun f' cs' => ∃ (c75 : List Access) (v76 : Sv) (F77 : List Nat) (F78 : List Nat) (g : Fr), c75 = o59 ∧ f' = updL g [(2, (pz k1)), (5, v76.v), (6, (.int .i64 (k9 : Int))), (12, v1_0.v), (13, (.int .i64 (a_l.length : Int))), (14, (.int .i64 (k9 : Int))), (27, p26.1.v), (28, (.int .i64 (r24.length : Int))), (29, (.int .i64 (k50 : Int)))] ∧ Ent cs' [cboR k1 46 (.agg [v0_0.v, v0_1.v, v0_2.v, (.int .i64 a_r.Rounds)].toArray), crd (RdS 58 rd58) v0_0.v a_r.Facts, crd (RdS 3 rdInt) v0_1.v a_r.Values, crd (RdS 54 rd54) v0_2.v a_r.Log, cown (OwnS 54 ow54) F77 v76.v c75, crd (RdS 97 rd97) v1_0.v a_l, cmov 24 1 (OwnS 3 (roE rdInt)) F78 p26.1.v es41 r24.length (k50 + 1) rest51]) ?_ ?_
   · replace hF := hio59
     refine CW_block (K_region (C_next1 un_slice (.t (.t (.t (.t (.t (.t .h)))))) (fun p61 G62 he63 => ?_)))
     refine C_idx (R := rdVal 1) (a := p61.1.v) sl38.h ty24.h.sz (.tmp rfl rfl) (.tmp rfl rfl) (.t .h) (Int.natCast_nonneg k50) (idx_hi he63) (fun k64 j65 => ?_)
     refine Al (lo_raw rfl) ?_
     iterate 5 refine au ?_
     refine C_val (V_build ty54.h rfl (vs := [(.int .i64 (k9 : Int)), p61.1.v]) (.cons (.tmp rfl rfl) (.cons (.tmp rfl rfl) .nil)) (cells := [(.int .i64 (k9 : Int)), p61.1.v]) rfl) ?_
     refine AnW (fun k66 => ?_)
     refine As (.agg [(.int .i64 (k9 : Int)), p61.1.v].toArray) ?_
     iterate 5 refine au ?_
     refine bnd hF fun r67 hx68 hF => C_x1 (.cons (.t (.t .h)) (.rd (.t (.t (.t (.t (.t (.t (.t .h))))))) rfl .nil)) (XC_bor frz_own (fun _ => .nil) (XC_pre (.rd (.t .h) rfl (.rd .h rfl .nil)) (X_callS cf126.h (.cons (.tmp rfl rfl) (.cons (.tmp rfl rfl) .nil)) (i_hasAccess_ok a_r.Log v0_2 ({ Method := (k9 : Int), Values := x52 } : Access) p61.1 _ hx68)))) (fun _ => ?_)
     iterate 2 refine au ?_
     refine Ci hF (fun hb74 hF => ?_) (fun hb74 hF => ?_)
     · iterate 3 refine au ?_
       refine C_new rfl (N_buildSliceT (g := true) sl44.h ty54.h (.cons (.tmp rfl rfl) .nil) (vs := [(.agg [(.int .i64 (k9 : Int)), p61.1.v].toArray)]) rfl rfl rfl (by intro v hv; simp at hv; rcases hv with rfl <;> rfl)) (fun k70 => ?_)
       refine Cv1 (.cons .h (.cons .h .nil)) (own_lit (Ro := ow54) (E := 54) (F := (p61.2 ++ [])) (xs := ([({ Method := (k9 : Int), Values := x52 } : Access)] : List Access)) (MkL_cons (mk54 (a := ({ Method := (k9 : Int), Values := x52 } : Access))) MkL_nil apps) rfl rfl) ?_
       refine bnd hF fun z71 hx72 hF => C_x1 (.cons (.t (.t (.t (.t (.t (.t (.t (.t (.t .h))))))))) (.cons .h .nil)) (X_appendO (Ro := ow54) sl44.h ni44 ty54.h rfl rfl rfl (.tmp rfl rfl) (.tmp rfl rfl) hx72 src_own) (fun p73 => ?_)
       iterate 2 refine au ?_
       cases hF
       exact ⟨_, p73.1, p73.2, G62, _, rfl, eqA, entA⟩
     refine au ?_
     cases hF
     exact ⟨_, v44, F45, G62, _, rfl, eqA, entA⟩
   rintro _ _ ⟨c75, v76, F77, F78, g80, rfl, rfl, hE⟩
   replace hF := hO60
   try dsimp only at hF
   refine K_ent hE ?_
   iterate 4 refine au ?_
   rw [wk k50]
   exact ⟨_, Nat.lt_succ_self _, _, k50 + 1, rest51, _, v76, F77, F78, rfl, eqA, hd56, entA, hF⟩
 rintro _ _ ⟨c82, v83, F84, g86, rfl, rfl, hE⟩
 replace hF := hO19
 try dsimp only at hF
 refine K_ent hE ?_
 iterate 4 refine au ?_
 rw [wk k9]
 exact ⟨_, Nat.lt_succ_self _, _, k9 + 1, rest10, _, v83, F84, rfl, eqA, hd15, entA, hF⟩
def i_bit (a_is : Bool) : Option (Int) :=
 if a_is then (
   some 1)
 else (
   some 0)
theorem i_bit_ok (a_is : Bool) (R : Int) (hF : i_bit a_is = some R) :
   Fw.Spec Tryz.prog 127 [(.bool a_is)] [] (fun _ : Unit => (.int .i64 R)) (fun _ => []) := by
 refine Se 4 Tryz.func127 [.tmp 2] ?_
 intro H0 F0
 unfold i_bit at hF
 iterate 7 refine au ?_
 refine Ci hF (fun hb1 hF => ?_) (fun hb1 hF => ?_)
 · iterate 4 refine au ?_
   cases hF
   exact Er ()
 iterate 5 refine au ?_
 cases hF
 exact Er ()
def i_copyFact (a_f : Fact) : Option (Fact) :=
 (g_slices_Clone_int_int a_f.Values).bind fun r3 =>
 some ({ Rel := a_f.Rel, Values := r3 } : Fact)
theorem i_copyFact_ok (a_f : Fact) (v0_1 : Sv) (R : Fact) (hF : i_copyFact a_f = some R) :
   Fw.Spec Tryz.prog 100 [(.agg [(.int .i64 a_f.Rel), v0_1.v].toArray)] [crd (RdS 3 rdInt) v0_1.v a_f.Values] (fun p : Sv × List Nat => (.agg [(.int .i64 R.Rel), p.1.v].toArray)) (fun p => [cown (OwnS 3 (roE rdInt)) p.2 p.1.v R.Values]) := by
 refine Se 9 Tryz.func100 [.cell 2 58] ?_
 intro H0 F0
 unfold i_copyFact at hF
 refine au ?_
 refine AbR (fun k1 => ?_)
 refine AnW (fun k2 => ?_)
 refine au ?_
 refine K_draw [0, 1, 2, 3, 4, 5, 6] [0, 1, 0, 4, 12, 31, 63] [4, 6] mixed (by decide +kernel) ?_
 iterate 4 refine du ?_
 refine bnd hF fun r3 hx4 hF => Dx1 (g_slices_Clone_int_int_ok _ _ _ hx4) (fun p5 => ?_)
 refine D_val rfl .no (fun ha => V_build ty58.h rfl (vs := [(.int .i64 a_f.Rel), p5.1.v]) (.cons (EN ha (.tmp rfl rfl) rfl) (.cons (EN ha (.tmp rfl rfl) rfl) .nil)) (cells := [(.int .i64 a_f.Rel), p5.1.v]) rfl) ?_
 refine D_act1 rfl rfl .no (.cons (.t .h) .nil) .nil (fun ha => X_storeB (e' := (.agg [(.int .i64 a_f.Rel), p5.1.v].toArray)) (v := (.agg [(.int .i64 a_f.Rel), p5.1.v].toArray)) ty58.h.sz (EN ha (.tmp rfl rfl) rfl) (EN ha (.tmp rfl rfl) rfl) rfl rfl rfl rfl rfl) (fun _ => ?_)
 refine du ?_
 refine au ?_
 cases hF
 exact Er (p5.1, p5.2)
def i_copyFacts_L1 : List Fact → Nat → (List Fact) → Option ((List Fact))
 | [], k8, c2 => some c2
 | x10 :: rest9, k8, c2 => (i_copyFact x10).bind fun r21 =>
   (app c2 ([r21] : List Fact)).bind fun z25 =>
   i_copyFacts_L1 rest9 (k8 + 1) z25
def i_copyFacts (a_l : List Fact) : Option ((List Fact)) :=
 i_copyFacts_L1 a_l 0 ([] : List Fact)
theorem i_copyFacts_ok (a_l : List Fact) (v0_0 : Sv) (R : (List Fact)) (hF : i_copyFacts a_l = some R) :
   Fw.Spec Tryz.prog 131 [v0_0.v] [crd (RdS 58 rd58) v0_0.v a_l] (fun p : Sv × List Nat => p.1.v) (fun p => [cown (OwnS 58 ow58) p.2 p.1.v R]) := by
 refine Se 20 Tryz.func131 [.tmp 2] ?_
 intro H0 F0
 unfold i_copyFacts at hF
 iterate 4 refine au ?_
 refine C_new rfl (N_buildSliceT (g := true) sl28.h ty58.h .nil (vs := []) rfl rfl rfl (by simp)) (fun k1 => ?_)
 refine Cv1 (.cons .h .nil) (own_lit (Ro := ow58) (E := 58) (F := []) (xs := ([] : List Fact)) MkL_nil rfl rfl) ?_
 iterate 8 refine au ?_
 refine CW_block (CW_loop (m := a_l.length) (fun m6 f' cs' => ∃ (g : Fr) (k8 : Nat) (rest9 : List Fact) (c2 : List Fact) (v3 : Sv) (F4 : List Nat), m6 = rest9.length ∧ f' = updL g [(3, v3.v), (7, v0_0.v), (8, (.int .i64 (a_l.length : Int))), (9, (.int .i64 (k8 : Int)))] ∧ List.drop k8 a_l = rest9 ∧ Ent cs' [cown (OwnS 58 ow58) F4 v3.v c2, crd (RdS 58 rd58) v0_0.v a_l] ∧ i_copyFacts_L1 rest9 k8 c2 = some R) ⟨_, 0, _, _, ⟨(some ⟨k1, 0, none⟩), 0, 1⟩, (k1 :: []), rfl, eqA, rfl, entA, hF⟩ ?_)
 rintro m6 _ _ ⟨g7, k8, rest9, c2, v3, F4, rfl, rfl, hd11, hE, hF⟩
 refine Kb hE a_l (fun hbd16 => ?_)
 rcases rest9 with _ | ⟨x10, rest9⟩
 · have hk12 := dn hd11
   rw [i_copyFacts_L1] at hF
   iterate 4 refine au ?_
   refine CdF ?_
   iterate 9 refine au ?_
   cases hF
   exact Er (v3, F4)
 obtain ⟨hk12, hx13, hd14⟩ := drop_cons hd11
 rw [i_copyFacts_L1] at hF
 iterate 4 refine au ?_
 refine CdT ?_
 iterate 3 refine au ?_
 refine Ai hx13 (fun k17 j18 => ?_)
 refine AlA1 (ul58_0_58 x10) la58_0_58 (fun p19 => ?_)
 refine AnW (fun k20 => ?_)
 refine As (.agg [(.int .i64 x10.Rel), p19.v].toArray) ?_
 iterate 4 refine au ?_
 refine bnd hF fun r21 hx22 hF => Cx1 (i_copyFact_ok _ _ _ hx22) (fun p23 => ?_)
 refine C_new rfl (N_buildSliceT (g := true) sl28.h ty58.h (.cons (.tmp rfl rfl) .nil) (vs := [(.agg [(.int .i64 r21.Rel), p23.1.v].toArray)]) rfl rfl rfl (by intro v hv; simp at hv; rcases hv with rfl <;> rfl)) (fun k24 => ?_)
 refine Cv1 (.cons .h (.cons .h .nil)) (own_lit (Ro := ow58) (E := 58) (F := (p23.2 ++ [])) (xs := ([r21] : List Fact)) (MkL_cons mk58 MkL_nil apps) rfl rfl) ?_
 refine bnd hF fun z25 hx26 hF => C_x1 (.cons (.t (.t (.t (.t .h)))) (.cons .h .nil)) (X_appendO (Ro := ow58) sl28.h ni28 ty58.h rfl rfl rfl (.tmp rfl rfl) (.tmp rfl rfl) hx26 src_own) (fun p27 => ?_)
 iterate 6 refine au ?_
 rw [wk k8]
 exact ⟨_, Nat.lt_succ_self _, _, k8 + 1, rest9, _, p27.1, p27.2, rfl, eqA, hd14, entA, hF⟩
def i_matches_1_L1 (a_f : Fact) (a_e2 : Access) : List Int → Nat → Option (Bool)
 | [], k5 => some false
 | x7 :: rest6, k5 => (ix a_f.Values x7).bind fun x16 =>
   (ix a_e2.Values (k5 : Int)).bind fun x22 =>
   if ((x16 : Int) != x22) then (
     some true)
   else (
     i_matches_1_L1 a_f a_e2 rest6 (k5 + 1))
def i_matches_1 (a_f : Fact) (a_e1 : Method) (a_e2 : Access) : Option (Bool) :=
 if ((a_f.Rel : Int) != a_e1.Rel) then (
   some true)
 else (
   i_matches_1_L1 a_f a_e2 a_e1.Inputs 0)
theorem i_matches_1_ok (a_f : Fact) (v0_1 : Sv) (kc1 : Nat) (a_e1 : Method) (vc1_1 : Sv) (kc2 : Nat) (a_e2 : Access) (vc2_1 : Sv) (R : Bool) (hF : i_matches_1 a_f a_e1 a_e2 = some R) :
   Fw.Spec Tryz.prog 132 [(.agg [(.int .i64 a_f.Rel), v0_1.v].toArray), (pz kc1), (pz kc2)] [crd (RdS 3 rdInt) v0_1.v a_f.Values, cboR kc1 97 (.agg [(.int .i64 a_e1.Rel), vc1_1.v, (.int .i64 a_e1.Limit), (.int .i64 a_e1.Cost), (.int .i64 a_e1.Quota)].toArray), crd (RdS 3 rdInt) vc1_1.v a_e1.Inputs, cboR kc2 54 (.agg [(.int .i64 a_e2.Method), vc2_1.v].toArray), crd (RdS 3 rdInt) vc2_1.v a_e2.Values] (fun _ : Unit => (.bool R)) (fun _ => []) := by
 refine Se 32 Tryz.func132 [.tmp 4] ?_
 intro H0 F0
 unfold i_matches_1 at hF
 refine au ?_
 refine AbR (fun k1 => ?_)
 iterate 10 refine au ?_
 refine Ci hF (fun hb30 hF => ?_) (fun hb30 hF => ?_)
 · iterate 4 refine au ?_
   cases hF
   exact Er ()
 iterate 8 refine au ?_
 refine CW_block (CW_loop (m := a_e1.Inputs.length) (fun m3 f' cs' => ∃ (g : Fr) (k5 : Nat) (rest6 : List Int), m3 = rest6.length ∧ f' = updL g [(2, (pz kc2)), (3, (pz k1)), (13, vc1_1.v), (14, (.int .i64 (a_e1.Inputs.length : Int))), (15, (.int .i64 (k5 : Int)))] ∧ List.drop k5 a_e1.Inputs = rest6 ∧ Ent cs' [cboR kc2 54 (.agg [(.int .i64 a_e2.Method), vc2_1.v].toArray), crd (RdS 3 rdInt) vc2_1.v a_e2.Values, cboR k1 58 (.agg [(.int .i64 a_f.Rel), v0_1.v].toArray), crd (RdS 3 rdInt) v0_1.v a_f.Values, crd (RdS 3 rdInt) vc1_1.v a_e1.Inputs] ∧ i_matches_1_L1 a_f a_e2 rest6 k5 = some R) ⟨_, 0, _, rfl, eqA, rfl, entA, hF⟩ ?_)
 rintro m3 _ _ ⟨g4, k5, rest6, rfl, rfl, hd8, hE, hF⟩
 refine Kb hE a_e1.Inputs (fun hbd13 => ?_)
 rcases rest6 with _ | ⟨x7, rest6⟩
 · have hk9 := dn hd8
   rw [i_matches_1_L1] at hF
   iterate 4 refine au ?_
   refine CdF ?_
   iterate 8 refine au ?_
   cases hF
   exact Er ()
 obtain ⟨hk9, hx10, hd11⟩ := drop_cons hd8
 rw [i_matches_1_L1] at hF
 iterate 4 refine au ?_
 refine CdT ?_
 iterate 4 refine au ?_
 refine Ai hx10 (fun k14 j15 => ?_)
 refine Al ls3_0 ?_
 iterate 3 refine au ?_
 refine K_draw [0, 1, 2, 3, 4, 5, 6, 7, 8, 9, 10] [0, 1, 0, 7, 15, 0, 32, 0, 224, 480, 1023] [] mixed (by decide +kernel) ?_
 iterate 3 refine du ?_
 refine bnd hF fun x16 hx17 hF => ?_
 obtain ⟨hp18, hx19⟩ := ix_some hx17
 refine Di hx19 (fun k20 j21 => ?_)
 refine Dl ls3_0 ?_
 iterate 3 refine du ?_
 refine bnd hF fun x22 hx23 hF => ?_
 obtain ⟨hp24, hx25⟩ := ix_some hx23
 refine Di hx25 (fun k26 j27 => ?_)
 refine Dl ls3_0 ?_
 iterate 2 refine du ?_
 refine Ci hF (fun hb29 hF => ?_) (fun hb29 hF => ?_)
 · iterate 4 refine au ?_
   cases hF
   exact Er ()
 iterate 5 refine au ?_
 rw [wk k5]
 exact ⟨_, Nat.lt_succ_self _, _, k5 + 1, rest6, rfl, eqA, hd11, entA, hF⟩
def g_slices_IndexFunc_impl_Fact_impl_Fact_imatches1_L1 (a_e1 : Method) (a_e2 : Access) : List Fact → Nat → Option (Int)
 | [], k4 => some (-1)
 | x6 :: rest5, k4 => (i_matches_1 x6 a_e1 a_e2).bind fun r16 =>
   if r16 then (
     some (k4 : Int))
   else (
     g_slices_IndexFunc_impl_Fact_impl_Fact_imatches1_L1 a_e1 a_e2 rest5 (k4 + 1))
def g_slices_IndexFunc_impl_Fact_impl_Fact_imatches1 (a_s : List Fact) (a_e1 : Method) (a_e2 : Access) : Option (Int) :=
 g_slices_IndexFunc_impl_Fact_impl_Fact_imatches1_L1 a_e1 a_e2 a_s 0
theorem g_slices_IndexFunc_impl_Fact_impl_Fact_imatches1_ok (a_s : List Fact) (v0_0 : Sv) (kc1 : Nat) (a_e1 : Method) (vc1_1 : Sv) (kc2 : Nat) (a_e2 : Access) (vc2_1 : Sv) (R : Int) (hF : g_slices_IndexFunc_impl_Fact_impl_Fact_imatches1 a_s a_e1 a_e2 = some R) :
   Fw.Spec Tryz.prog 96 [v0_0.v, (.func (.func 132) [].toArray [(pz kc1), (pz kc2)].toArray)] [crd (RdS 58 rd58) v0_0.v a_s, cboR kc1 97 (.agg [(.int .i64 a_e1.Rel), vc1_1.v, (.int .i64 a_e1.Limit), (.int .i64 a_e1.Cost), (.int .i64 a_e1.Quota)].toArray), crd (RdS 3 rdInt) vc1_1.v a_e1.Inputs, cboR kc2 54 (.agg [(.int .i64 a_e2.Method), vc2_1.v].toArray), crd (RdS 3 rdInt) vc2_1.v a_e2.Values] (fun _ : Unit => (.int .i64 R)) (fun _ => []) := by
 refine Se 19 Tryz.func96 [.tmp 4] ?_
 intro H0 F0
 unfold g_slices_IndexFunc_impl_Fact_impl_Fact_imatches1 at hF
 iterate 9 refine au ?_
 refine CW_block (CW_loop (m := a_s.length) (fun m2 f' cs' => ∃ (g : Fr) (k4 : Nat) (rest5 : List Fact), m2 = rest5.length ∧ f' = updL g [(0, v0_0.v), (1, (.func (.func 132) [].toArray [(pz kc1), (pz kc2)].toArray)), (7, (.int .i64 (a_s.length : Int))), (8, (.int .i64 (k4 : Int)))] ∧ List.drop k4 a_s = rest5 ∧ Ent cs' [crd (RdS 58 rd58) v0_0.v a_s, cboR kc1 97 (.agg [(.int .i64 a_e1.Rel), vc1_1.v, (.int .i64 a_e1.Limit), (.int .i64 a_e1.Cost), (.int .i64 a_e1.Quota)].toArray), crd (RdS 3 rdInt) vc1_1.v a_e1.Inputs, cboR kc2 54 (.agg [(.int .i64 a_e2.Method), vc2_1.v].toArray), crd (RdS 3 rdInt) vc2_1.v a_e2.Values] ∧ g_slices_IndexFunc_impl_Fact_impl_Fact_imatches1_L1 a_e1 a_e2 rest5 k4 = some R) ⟨_, 0, _, rfl, eqA, rfl, entA, hF⟩ ?_)
 rintro m2 _ _ ⟨g3, k4, rest5, rfl, rfl, hd7, hE, hF⟩
 refine Kb hE a_s (fun hbd12 => ?_)
 rcases rest5 with _ | ⟨x6, rest5⟩
 · have hk8 := dn hd7
   rw [g_slices_IndexFunc_impl_Fact_impl_Fact_imatches1_L1] at hF
   iterate 4 refine au ?_
   refine CdF ?_
   iterate 8 refine au ?_
   cases hF
   exact Er ()
 obtain ⟨hk8, hx9, hd10⟩ := drop_cons hd7
 rw [g_slices_IndexFunc_impl_Fact_impl_Fact_imatches1_L1] at hF
 iterate 4 refine au ?_
 refine CdT ?_
 iterate 10 refine au ?_
 refine Ai hx9 (fun k13 j14 => ?_)
 refine AlA1 (ul58_0_58 x6) la58_0_58 (fun p15 => ?_)
 refine bnd hF fun r16 hx17 hF => C_x0 (.rd .h rfl (.rd (.t (.t (.t .h))) rfl (.rd (.t (.t (.t (.t .h)))) rfl (.rd (.t (.t (.t (.t (.t .h))))) rfl (.rd (.t (.t (.t (.t (.t (.t .h)))))) rfl .nil))))) (X_callCS cf132.h (.tmp rfl rfl) (.cons (.tmp rfl rfl) .nil) (i_matches_1_ok x6 p15 kc1 a_e1 vc1_1 kc2 a_e2 vc2_1 _ hx17)) (fun _ => ?_)
 refine au ?_
 refine Ci hF (fun hb20 hF => ?_) (fun hb20 hF => ?_)
 · iterate 5 refine au ?_
   cases hF
   exact Er ()
 iterate 5 refine au ?_
 rw [wk k4]
 exact ⟨_, Nat.lt_succ_self _, _, k4 + 1, rest5, rfl, eqA, hd10, entA, hF⟩
def g_slices_DeleteFunc_impl_Fact_impl_Fact_imatches1 (a_s : List Fact) (a_e1 : Method) (a_e2 : Access) : Option (List Fact) :=
 delL (fun a_q => i_matches_1 a_q a_e1 a_e2) a_s
theorem g_slices_DeleteFunc_impl_Fact_impl_Fact_imatches1_sh (qs : List (Value × Fact)) (v : Sv) (F : List Nat) (kc1 : Nat) (a_e1 : Method) (vc1_1 : Sv) (kc2 : Nat) (a_e2 : Access) (vc2_1 : Sv) (p : Value × Fact → Bool) (hcl : ∀ q ∈ qs, i_matches_1 q.2 a_e1 a_e2 = some (p q)) (hidx : g_slices_IndexFunc_impl_Fact_impl_Fact_imatches1 (qs.map Prod.snd) a_e1 a_e2 = some (ixF p qs 0)) (hbd : qs.length < 4611686018427387904) :
   Fw.Spec Tryz.prog 130 [v.v, (.func (.func 132) [].toArray [(.pointer (some ⟨kc1, 0, some 0⟩)), (.pointer (some ⟨kc2, 0, some 0⟩))].toArray)] [cown (OwnS 58 (roE (rq rd58))) F v.v qs, cboR kc1 97 (.agg [(.int .i64 a_e1.Rel), vc1_1.v, (.int .i64 a_e1.Limit), (.int .i64 a_e1.Cost), (.int .i64 a_e1.Quota)].toArray), crd (RdS 3 rdInt) vc1_1.v a_e1.Inputs, cboR kc2 54 (.agg [(.int .i64 a_e2.Method), vc2_1.v].toArray), crd (RdS 3 rdInt) vc2_1.v a_e2.Values] (fun q : Sv × List Nat => q.1.v) (fun q => [cown (OwnS 58 (roE (rq rd58))) q.2 q.1.v (qs.filter fun a => !p a)]) := by
 refine Spec_enter (n := 42) Tryz.func130 rfl rfl (rs := [.tmp 4]) rfl rfl rfl ?_
 intro H0 F0
 refine K_region ?_
 refine C_val (V_assign (v := (.slice none 0 0)) EV.nilSlice) ?_
 refine C_nil ?_
 refine K_region ?_
 refine C_val (V_move (v := v.v) (.tmp rfl rfl)) ?_
 refine C_val (V_move (v := (.func (.func 132) [].toArray [(.pointer (some ⟨kc1, 0, some 0⟩)), (.pointer (some ⟨kc2, 0, some 0⟩))].toArray)) (.tmp rfl rfl)) ?_
 refine C_x1 (.cons .h (.rd .h rfl (.rd (.t .h) rfl (.rd (.t (.t .h)) rfl (.rd (.t (.t (.t .h))) rfl .nil))))) (XC_borR frz_rq (fun _ => .nil) (XC_pre (.rd (.t (.t (.t (.t .h)))) rfl (.rd .h rfl (.rd (.t .h) rfl (.rd (.t (.t .h)) rfl (.rd (.t (.t (.t .h))) rfl .nil))))) (X_callS cf96.h (.cons (.tmp rfl rfl) (.cons (.tmp rfl rfl) .nil)) (g_slices_IndexFunc_impl_Fact_impl_Fact_imatches1_ok (qs.map Prod.snd) v kc1 a_e1 vc1_1 kc2 a_e2 vc2_1 _ hidx)))) (fun _ => ?_)
 generalize hR : ixF p qs 0 = R0
 refine C_val (V_assign (v := (.int .i64 R0)) (.tmp rfl rfl)) ?_
 refine C_nil ?_
 refine K_in ?_
 refine K_region ?_
 refine C_val (V_move (v := (.int .i64 R0)) (.tmp rfl rfl)) ?_
 refine C_val (V_eql (i := R0) (j := (-1)) (.tmp rfl rfl) (.int _ _)) ?_
 refine C_nil ?_
 refine CW_cond (b := (R0 == (-1 : Int))) (.tmp rfl rfl) (fun hb => ?_) (fun hb => ?_)
 · refine K_region ?_
   refine C_val (V_move (v := v.v) (.tmp rfl rfl)) ?_
   refine C_val (V_assign (v := v.v) (.tmp rfl rfl)) ?_
   refine C_nil ?_
   refine CW_ret ?_
   have e : qs.filter (fun q => !p q) = qs := ixF_none (k := 0) (by rw [hR]; simpa using hb)
   rw [e]
   exact End_ret (v, F) (.tmp rfl rfl .nil) rfl (.sel (.cons .h .nil))
 refine CW_skip ?_
 obtain ⟨i0, hi0, hi1⟩ : ∃ i : Nat, R0 = (i : Int) ∧ i < qs.length := by
   rcases ixF_range p qs 0 with h | ⟨i, h, hi⟩
   · rw [hR] at h; subst h; simp at hb
   · exact ⟨i, by rw [← hR, h], by omega⟩
 subst hi0
 refine K_in ?_
 refine K_region ?_
 refine C_val (V_move (v := (.int .i64 (i0 : Int))) (.tmp rfl rfl)) ?_
 refine C_val (V_add (i := (i0 : Int)) (j := 1) (.tmp rfl rfl) (.int _ _)) ?_
 rw [show IntKind.i64.wrap ((i0 : Int) + 1) = ((i0 + 1 : Nat) : Int) from by rw [wrap_in (by omega) (by omega)]; rfl]
 refine C_val (V_assign (v := (.int .i64 ((i0 + 1 : Nat) : Int))) (.tmp rfl rfl)) ?_
 refine C_nil ?_
 refine CW_block ?_
 refine CW_loop (m := qs.length - (i0 + 1)) (fun m f' cs' => ∃ (g : Fr) (cur : List (Value × Fact)) (i j : Nat) (F' : List Nat), m = qs.length - j ∧ f' = updL g [(0, v.v), (1, (.func (.func 132) [].toArray [(.pointer (some ⟨kc1, 0, some 0⟩)), (.pointer (some ⟨kc2, 0, some 0⟩))].toArray)), (5, (.int .i64 (i : Int))), (6, (.int .i64 (j : Int)))] ∧ DelI p qs cur i j ∧ Ent cs' [cown (OwnS 58 (roE (rq rd58))) F' v.v cur, cboR kc1 97 (.agg [(.int .i64 a_e1.Rel), vc1_1.v, (.int .i64 a_e1.Limit), (.int .i64 a_e1.Cost), (.int .i64 a_e1.Quota)].toArray), crd (RdS 3 rdInt) vc1_1.v a_e1.Inputs, cboR kc2 54 (.agg [(.int .i64 a_e2.Method), vc2_1.v].toArray), crd (RdS 3 rdInt) vc2_1.v a_e2.Values]) ⟨_, qs, i0, i0 + 1, F, rfl, (EqL.cons rfl (EqL.cons rfl (EqL.cons rfl (EqL.cons rfl (EqL.nil))))).eq, DelI.init (by rw [hR]), .sel (.cons .h (.rd .h rfl (.rd (.t .h) rfl (.rd (.t (.t .h)) rfl (.rd (.t (.t (.t .h))) rfl .nil)))))⟩ ?_
 rintro m _ _ ⟨g, cur, i, j, F', rfl, rfl, hI, hE⟩
 refine K_ent hE ?_
 clear hE
 refine K_in ?_
 refine K_region ?_
 refine C_val (V_move (v := (.int .i64 (j : Int))) (.tmp rfl rfl)) ?_
 refine C_val (V_move (v := v.v) (.tmp rfl rfl)) ?_
 refine C_at .h (fun hp => V_lenR (l := cur.length) sl28.h (.tmp rfl rfl) (cown_len hp)) ?_
 refine C_val (V_lss (i := (j : Int)) (j := (cur.length : Int)) (.tmp rfl rfl) (.tmp rfl rfl)) ?_
 refine C_nil ?_
 have hlen := hI.len
 have hij := hI.lt
 have hjl := hI.le
 refine CW_cond (b := (decide ((j : Int) < (cur.length : Int)))) (.tmp rfl rfl) (fun hb2 => ?_) (fun hb2 => ?_)
 · refine CW_skip ?_
   have hj : j < qs.length := by simp at hb2; omega
   obtain ⟨x, hx1, hx2⟩ := hI.at hj
   refine K_block ?_
   refine K_region ?_
   refine C_val (V_move (v := v.v) (.tmp rfl rfl)) ?_
   refine C_val (V_move (v := (.int .i64 (j : Int))) (.tmp rfl rfl)) ?_
   refine C_idxO sl28.h ty58.h.sz (.tmp rfl rfl) (.tmp rfl rfl) .h (by simp; omega) (fun k hk => ?_)
   refine C_ldOW (a := x) (ul := fun i : Sv => [(.int .i64 x.2.Rel), i.v]) (cc := fun i => [crd (RdS 3 rdInt) i.v x.2.Values]) ag58.h ty58.h.sz rfl (.tmp rfl rfl) .h hk (by simpa using hx1) (fun H e h => by obtain ⟨-, v0, h1, h0⟩ := h; exact ⟨v0, h1, rfl, by simp [crd, h0]⟩) (fun w => ?_)
   refine C_new rfl (N_allocT (g := true) ty58.h rfl rfl) (fun k1 => ?_)
   refine C_x1 (.cons .h .nil) (X_storeB (e := (.agg [(.int .i64 0), (.slice none 0 0)].toArray)) (e' := (.agg [(.int .i64 x.2.Rel), w.v].toArray)) (v := (.agg [(.int .i64 x.2.Rel), w.v].toArray)) ty58.h.sz (.tmp rfl rfl) (.tmp rfl rfl) rfl rfl rfl rfl rfl) (fun _ => ?_)
   refine C_nil ?_
   refine K_region ?_
   refine C_val (V_move (v := (.func (.func 132) [].toArray [(.pointer (some ⟨kc1, 0, some 0⟩)), (.pointer (some ⟨kc2, 0, some 0⟩))].toArray)) (.tmp rfl rfl)) ?_
   refine C_at .h (fun hp => V_loadBox ag58.h ty58.h.sz rfl (.tmp rfl rfl) hp.2 rfl) ?_
   refine C_x0 (.rd (.t (.t .h)) rfl (.rd (.t (.t (.t (.t .h)))) rfl (.rd (.t (.t (.t (.t (.t .h))))) rfl (.rd (.t (.t (.t (.t (.t (.t .h)))))) rfl (.rd (.t (.t (.t (.t (.t (.t (.t .h))))))) rfl .nil))))) (X_callCS cf132.h (.tmp rfl rfl) (.cons (.tmp rfl rfl) .nil) (i_matches_1_ok x.2 w kc1 a_e1 vc1_1 kc2 a_e2 vc2_1 _ (hcl x (List.mem_of_getElem? hx2)))) (fun _ => ?_)
   refine C_val (V_not (b := p x) (.tmp rfl rfl)) ?_
   refine C_nil ?_
   refine CW_cond (b := (!p x)) (.tmp rfl rfl) (fun hb3 => ?_) (fun hb3 => ?_)
   · refine K_region ?_
     refine C_val (V_move (v := v.v) (.tmp rfl rfl)) ?_
     refine C_val (V_move (v := (.int .i64 (i : Int))) (.tmp rfl rfl)) ?_
     refine C_at .h (fun hp => V_loadBox ag58.h ty58.h.sz rfl (.tmp rfl rfl) hp.2 rfl) ?_
     have hii : (decide ((0 : Int) ≤ (i : Int)) && decide ((i : Int) < (cur.length : Int))) = true := by simp; omega
     refine C_idxO sl28.h ty58.h.sz (.tmp rfl rfl) (.tmp rfl rfl) (.t (.t (.t .h))) hii (fun k2 hk2 => ?_)
     refine C_x1 (.cons (.t (.t (.t .h))) (.rd (.t .h) rfl .nil)) (X_storeO (Ro := roE (rq rd58)) (a := x) (i := (i : Int)) ty58.h.sz rfl (.tmp rfl rfl) (.tmp rfl rfl) hk2 hii Mk_rd (fun _ _ _ _ h => by obtain ⟨-, -, v0, rfl, _⟩ := h; rfl)) (fun F2 => ?_)
     refine C_nil ?_
     refine CW_region ?_
     refine C_val (V_move (v := (.int .i64 (i : Int))) (.tmp rfl rfl)) ?_
     refine C_val (V_add (i := (i : Int)) (j := 1) (.tmp rfl rfl) (.int _ _)) ?_
     rw [show IntKind.i64.wrap ((i : Int) + 1) = ((i + 1 : Nat) : Int) from by rw [wrap_in (by omega) (by omega)]; rfl]
     refine C_val (V_assign (v := (.int .i64 ((i + 1 : Nat) : Int))) (.tmp rfl rfl)) ?_
     refine C_nil ?_
     refine CW_region ?_
     refine C_val (V_move (v := (.int .i64 (j : Int))) (.tmp rfl rfl)) ?_
     refine C_val (V_add (i := (j : Int)) (j := 1) (.tmp rfl rfl) (.int _ _)) ?_
     rw [show IntKind.i64.wrap ((j : Int) + 1) = ((j + 1 : Nat) : Int) from by rw [wrap_in (by omega) (by omega)]; rfl]
     refine C_val (V_assign (v := (.int .i64 ((j + 1 : Nat) : Int))) (.tmp rfl rfl)) ?_
     refine C_nil ?_
     exact ⟨_, by omega, _, cur.set i x, i + 1, j + 1, F2, rfl, (EqL.cons rfl (EqL.cons rfl (EqL.cons rfl (EqL.cons rfl (EqL.nil))))).eq, hI.no hx2 (by simpa using hb3), .sel (.cons .h (.rd (.t (.t (.t .h))) rfl (.rd (.t (.t (.t (.t .h)))) rfl (.rd (.t (.t (.t (.t (.t .h))))) rfl (.rd (.t (.t (.t (.t (.t (.t .h)))))) rfl .nil)))))⟩
   · refine CW_skip ?_
     refine CW_region ?_
     refine C_val (V_move (v := (.int .i64 (j : Int))) (.tmp rfl rfl)) ?_
     refine C_val (V_add (i := (j : Int)) (j := 1) (.tmp rfl rfl) (.int _ _)) ?_
     rw [show IntKind.i64.wrap ((j : Int) + 1) = ((j + 1 : Nat) : Int) from by rw [wrap_in (by omega) (by omega)]; rfl]
     refine C_val (V_assign (v := (.int .i64 ((j + 1 : Nat) : Int))) (.tmp rfl rfl)) ?_
     refine C_nil ?_
     exact ⟨_, by omega, _, cur, i, j + 1, F', rfl, (EqL.cons rfl (EqL.cons rfl (EqL.cons rfl (EqL.cons rfl (EqL.nil))))).eq, hI.yes hx2 (by simpa using hb3), .sel (.cons (.t (.t (.t .h))) (.rd (.t (.t (.t .h))) rfl (.rd (.t (.t (.t (.t .h)))) rfl (.rd (.t (.t (.t (.t (.t .h))))) rfl (.rd (.t (.t (.t (.t (.t (.t .h)))))) rfl .nil)))))⟩
 · refine CW_exit ?_
   refine CThen_exit ?_
   refine CThen_exit ?_
   refine CIn_self ?_
   have hj : qs.length ≤ j := by simp at hb2; omega
   refine K_pure .h (own_form (by intro e; rw [e] at hlen; simp at hlen; omega)) (fun hv => ?_)
   obtain ⟨k0, m0, rfl, hm0⟩ := hv
   refine K_region ?_
   refine C_val (V_move (v := (.slice (some ⟨k0, 0, none⟩) cur.length m0)) (.tmp rfl rfl)) ?_
   refine C_val (V_move (v := (.int .i64 (i : Int))) (.tmp rfl rfl)) ?_
   refine C_sliceLo sl28.h ty58.h.sz (.tmp rfl rfl) (.tmp rfl rfl) .h (by omega) (by omega) ?_
   refine C_x1 (.cons .h .nil) (X_clear (l := cur.length) (m := m0) (k := k0) (i := i) (j := cur.length - i) sl28.h ty58.h rfl rfl rfl rfl rfl (by omega) (.tmp rfl rfl)) (fun _ => ?_)
   refine C_nil ?_
   refine K_region ?_
   refine C_val (V_move (v := (.slice (some ⟨k0, 0, none⟩) cur.length m0)) (.tmp rfl rfl)) ?_
   refine C_val (V_move (v := (.int .i64 (i : Int))) (.tmp rfl rfl)) ?_
   refine C_sliceHi sl28.h ty58.h.sz (.tmp rfl rfl) hm0 (.tmp rfl rfl) .h rfl (by omega) (by omega) (by omega) ?_
   refine C_val (V_assign (v := (.slice (some ⟨k0, 0, none⟩) i 2)) (.tmp rfl rfl)) ?_
   refine C_nil ?_
   refine CW_ret ?_
   rw [← hI.fin hj]
   exact End_ret (⟨some ⟨k0, 0, none⟩, i, 2⟩, F') (.tmp rfl rfl .nil) rfl (.sel (.cons .h .nil))
theorem g_slices_DeleteFunc_impl_Fact_impl_Fact_imatches1_ok (a_s : List Fact) (v0_0 : Sv) (F0_0 : List Nat) (kc1 : Nat) (a_e1 : Method) (vc1_1 : Sv) (kc2 : Nat) (a_e2 : Access) (vc2_1 : Sv) (R : List Fact) (hF : g_slices_DeleteFunc_impl_Fact_impl_Fact_imatches1 a_s a_e1 a_e2 = some R) :
   Fw.Spec Tryz.prog 130 [v0_0.v, (.func (.func 132) [].toArray [(.pointer (some ⟨kc1, 0, some 0⟩)), (.pointer (some ⟨kc2, 0, some 0⟩))].toArray)] [cown (OwnS 58 ow58) F0_0 v0_0.v a_s, cboR kc1 97 (.agg [(.int .i64 a_e1.Rel), vc1_1.v, (.int .i64 a_e1.Limit), (.int .i64 a_e1.Cost), (.int .i64 a_e1.Quota)].toArray), crd (RdS 3 rdInt) vc1_1.v a_e1.Inputs, cboR kc2 54 (.agg [(.int .i64 a_e2.Method), vc2_1.v].toArray), crd (RdS 3 rdInt) vc2_1.v a_e2.Values] (fun p : Sv × List Nat => p.1.v) (fun p => [cown (OwnS 58 ow58) p.2 p.1.v R]) := by
 unfold g_slices_DeleteFunc_impl_Fact_impl_Fact_imatches1 at hF
 obtain ⟨h1, h2⟩ := delL_some hF
 refine Spec_pure cown_bound (fun hb => ?_)
 refine Spec_deep (R := rd58) rfl (fun es F1 hel => ⟨(es.zip a_s).filter (fun a => !(i_matches_1 a.2 a_e1 a_e2).getD false), List.filter_sublist, by rw [h2]; exact zip_filter (fun a => (i_matches_1 a a_e1 a_e2).getD false) es a_s hel, ?_⟩)
 refine g_slices_DeleteFunc_impl_Fact_impl_Fact_imatches1_sh (es.zip a_s) v0_0 F1 kc1 a_e1 vc1_1 kc2 a_e2 vc2_1 (fun a => (i_matches_1 a.2 a_e1 a_e2).getD false) (fun q hq => h1 q.2 (List.of_mem_zip hq).2) ?_ (by simp; omega)
 rw [List.map_snd_zip (Nat.le_of_eq hel.symm), ← ixF_map Prod.snd (fun a => (i_matches_1 a a_e1 a_e2).getD false), List.map_snd_zip (Nat.le_of_eq hel.symm)]
 exact index_loop (L := g_slices_IndexFunc_impl_Fact_impl_Fact_imatches1_L1 a_e1 a_e2) (fun _ => rfl) (fun _ _ _ => rfl) a_s 0 h1
def i_matches (a_l : List Method) (a_facts : List Fact) (a_a : Access) : Option ((List Fact)) :=
 (ix a_l a_a.Method).bind fun x2 =>
 (i_copyFacts a_facts).bind fun r13 =>
 (g_slices_DeleteFunc_impl_Fact_impl_Fact_imatches1 r13 x2 a_a).bind fun r16 =>
 some r16
theorem i_matches_ok (a_l : List Method) (v0_0 : Sv) (a_facts : List Fact) (v1_0 : Sv) (a_a : Access) (v2_1 : Sv) (R : (List Fact)) (hF : i_matches a_l a_facts a_a = some R) :
   Fw.Spec Tryz.prog 72 [v0_0.v, v1_0.v, (.agg [(.int .i64 a_a.Method), v2_1.v].toArray)] [crd (RdS 97 rd97) v0_0.v a_l, crd (RdS 58 rd58) v1_0.v a_facts, crd (RdS 3 rdInt) v2_1.v a_a.Values] (fun p : Sv × List Nat => p.1.v) (fun p => [cown (OwnS 58 ow58) p.2 p.1.v R]) := by
 refine Se 17 Tryz.func72 [.tmp 6] ?_
 intro H0 F0
 unfold i_matches at hF
 refine au ?_
 refine AbR (fun k1 => ?_)
 iterate 6 refine au ?_
 refine bnd hF fun x2 hx3 hF => ?_
 obtain ⟨hp4, hx5⟩ := ix_some hx3
 refine Ai hx5 (fun k6 j7 => ?_)
 refine AlA1 (ul97_0_97 x2) la97_0_97 (fun p8 => ?_)
 refine AnW (fun k9 => ?_)
 refine As (.agg [(.int .i64 x2.Rel), p8.v, (.int .i64 x2.Limit), (.int .i64 x2.Cost), (.int .i64 x2.Quota)].toArray) ?_
 refine au ?_
 refine K_frz .h frz_blk ?_
 iterate 2 refine au ?_
 refine bnd hF fun r13 hx14 hF => Cx1 (i_copyFacts_ok _ _ _ hx14) (fun p15 => ?_)
 refine C_val (V_makeFunc (fn := .func 132) (vs := []) (us := [(pz k9), (pz k1)]) .nil (.cons (.tmp rfl rfl) (.cons (.tmp rfl rfl) .nil))) ?_
 refine bnd hF fun r16 hx17 hF => Cx1 (g_slices_DeleteFunc_impl_Fact_impl_Fact_imatches1_ok _ _ _ _ _ _ _ _ _ _ hx17) (fun p18 => ?_)
 iterate 3 refine au ?_
 cases hF
 exact Er (p18.1, p18.2)
def i_HasFact_1 (a_x : Fact) (a_e1 : Fact) : Option (Bool) :=
 (i_CompareFacts a_x a_e1).bind fun r2 =>
 some ((r2 : Int) == 0)
theorem i_HasFact_1_ok (a_x : Fact) (v0_1 : Sv) (kc1 : Nat) (a_e1 : Fact) (vc1_1 : Sv) (R : Bool) (hF : i_HasFact_1 a_x a_e1 = some R) :
   Fw.Spec Tryz.prog 129 [(.agg [(.int .i64 a_x.Rel), v0_1.v].toArray), (pz kc1)] [crd (RdS 3 rdInt) v0_1.v a_x.Values, cboR kc1 58 (.agg [(.int .i64 a_e1.Rel), vc1_1.v].toArray), crd (RdS 3 rdInt) vc1_1.v a_e1.Values] (fun _ : Unit => (.bool R)) (fun _ => []) := by
 refine Se 8 Tryz.func129 [.tmp 3] ?_
 intro H0 F0
 unfold i_HasFact_1 at hF
 refine au ?_
 refine AbR (fun k1 => ?_)
 iterate 5 refine au ?_
 refine bnd hF fun r2 hx3 hF => Cx0 (i_CompareFacts_ok _ _ _ _ _ hx3) (fun _ => ?_)
 iterate 4 refine au ?_
 cases hF
 exact Er ()
def g_slices_IndexFunc_impl_Fact_impl_Fact_iHasFact1_L1 (a_e1 : Fact) : List Fact → Nat → Option (Int)
 | [], k4 => some (-1)
 | x6 :: rest5, k4 => (i_HasFact_1 x6 a_e1).bind fun r16 =>
   if r16 then (
     some (k4 : Int))
   else (
     g_slices_IndexFunc_impl_Fact_impl_Fact_iHasFact1_L1 a_e1 rest5 (k4 + 1))
def g_slices_IndexFunc_impl_Fact_impl_Fact_iHasFact1 (a_s : List Fact) (a_e1 : Fact) : Option (Int) :=
 g_slices_IndexFunc_impl_Fact_impl_Fact_iHasFact1_L1 a_e1 a_s 0
theorem g_slices_IndexFunc_impl_Fact_impl_Fact_iHasFact1_ok (a_s : List Fact) (v0_0 : Sv) (kc1 : Nat) (a_e1 : Fact) (vc1_1 : Sv) (R : Int) (hF : g_slices_IndexFunc_impl_Fact_impl_Fact_iHasFact1 a_s a_e1 = some R) :
   Fw.Spec Tryz.prog 96 [v0_0.v, (.func (.func 129) [].toArray [(pz kc1)].toArray)] [crd (RdS 58 rd58) v0_0.v a_s, cboR kc1 58 (.agg [(.int .i64 a_e1.Rel), vc1_1.v].toArray), crd (RdS 3 rdInt) vc1_1.v a_e1.Values] (fun _ : Unit => (.int .i64 R)) (fun _ => []) := by
 refine Se 19 Tryz.func96 [.tmp 4] ?_
 intro H0 F0
 unfold g_slices_IndexFunc_impl_Fact_impl_Fact_iHasFact1 at hF
 iterate 9 refine au ?_
 refine CW_block (CW_loop (m := a_s.length) (fun m2 f' cs' => ∃ (g : Fr) (k4 : Nat) (rest5 : List Fact), m2 = rest5.length ∧ f' = updL g [(0, v0_0.v), (1, (.func (.func 129) [].toArray [(pz kc1)].toArray)), (7, (.int .i64 (a_s.length : Int))), (8, (.int .i64 (k4 : Int)))] ∧ List.drop k4 a_s = rest5 ∧ Ent cs' [crd (RdS 58 rd58) v0_0.v a_s, cboR kc1 58 (.agg [(.int .i64 a_e1.Rel), vc1_1.v].toArray), crd (RdS 3 rdInt) vc1_1.v a_e1.Values] ∧ g_slices_IndexFunc_impl_Fact_impl_Fact_iHasFact1_L1 a_e1 rest5 k4 = some R) ⟨_, 0, _, rfl, eqA, rfl, entA, hF⟩ ?_)
 rintro m2 _ _ ⟨g3, k4, rest5, rfl, rfl, hd7, hE, hF⟩
 refine Kb hE a_s (fun hbd12 => ?_)
 rcases rest5 with _ | ⟨x6, rest5⟩
 · have hk8 := dn hd7
   rw [g_slices_IndexFunc_impl_Fact_impl_Fact_iHasFact1_L1] at hF
   iterate 4 refine au ?_
   refine CdF ?_
   iterate 8 refine au ?_
   cases hF
   exact Er ()
 obtain ⟨hk8, hx9, hd10⟩ := drop_cons hd7
 rw [g_slices_IndexFunc_impl_Fact_impl_Fact_iHasFact1_L1] at hF
 iterate 4 refine au ?_
 refine CdT ?_
 iterate 10 refine au ?_
 refine Ai hx9 (fun k13 j14 => ?_)
 refine AlA1 (ul58_0_58 x6) la58_0_58 (fun p15 => ?_)
 refine bnd hF fun r16 hx17 hF => C_x0 (.rd .h rfl (.rd (.t (.t (.t .h))) rfl (.rd (.t (.t (.t (.t .h)))) rfl .nil))) (X_callCS cf129.h (.tmp rfl rfl) (.cons (.tmp rfl rfl) .nil) (i_HasFact_1_ok x6 p15 kc1 a_e1 vc1_1 _ hx17)) (fun _ => ?_)
 refine au ?_
 refine Ci hF (fun hb20 hF => ?_) (fun hb20 hF => ?_)
 · iterate 5 refine au ?_
   cases hF
   exact Er ()
 iterate 5 refine au ?_
 rw [wk k4]
 exact ⟨_, Nat.lt_succ_self _, _, k4 + 1, rest5, rfl, eqA, hd10, entA, hF⟩
def g_slices_ContainsFunc_impl_Fact_impl_Fact_iHasFact1 (a_s : List Fact) (a_e1 : Fact) : Option (Bool) :=
 (g_slices_IndexFunc_impl_Fact_impl_Fact_iHasFact1 a_s a_e1).bind fun r1 =>
 some (decide ((0 : Int) ≤ r1))
theorem g_slices_ContainsFunc_impl_Fact_impl_Fact_iHasFact1_ok (a_s : List Fact) (v0_0 : Sv) (kc1 : Nat) (a_e1 : Fact) (vc1_1 : Sv) (R : Bool) (hF : g_slices_ContainsFunc_impl_Fact_impl_Fact_iHasFact1 a_s a_e1 = some R) :
   Fw.Spec Tryz.prog 128 [v0_0.v, (.func (.func 129) [].toArray [(pz kc1)].toArray)] [crd (RdS 58 rd58) v0_0.v a_s, cboR kc1 58 (.agg [(.int .i64 a_e1.Rel), vc1_1.v].toArray), crd (RdS 3 rdInt) vc1_1.v a_e1.Values] (fun _ : Unit => (.bool R)) (fun _ => []) := by
 refine Se 9 Tryz.func128 [.tmp 4] ?_
 intro H0 F0
 unfold g_slices_ContainsFunc_impl_Fact_impl_Fact_iHasFact1 at hF
 iterate 6 refine au ?_
 refine bnd hF fun r1 hx2 hF => Cx0 (g_slices_IndexFunc_impl_Fact_impl_Fact_iHasFact1_ok _ _ _ _ _ _ hx2) (fun _ => ?_)
 iterate 4 refine au ?_
 cases hF
 exact Er ()
def i_HasFact (a_l : List Fact) (a_f : Fact) : Option (Bool) :=
 (g_slices_ContainsFunc_impl_Fact_impl_Fact_iHasFact1 a_l a_f).bind fun r2 =>
 some r2
theorem i_HasFact_ok (a_l : List Fact) (v0_0 : Sv) (a_f : Fact) (v1_1 : Sv) (R : Bool) (hF : i_HasFact a_l a_f = some R) :
   Fw.Spec Tryz.prog 71 [v0_0.v, (.agg [(.int .i64 a_f.Rel), v1_1.v].toArray)] [crd (RdS 58 rd58) v0_0.v a_l, crd (RdS 3 rdInt) v1_1.v a_f.Values] (fun _ : Unit => (.bool R)) (fun _ => []) := by
 refine Se 8 Tryz.func71 [.tmp 4] ?_
 intro H0 F0
 unfold i_HasFact at hF
 refine au ?_
 refine AbR (fun k1 => ?_)
 iterate 4 refine au ?_
 refine C_val (V_makeFunc (fn := .func 129) (vs := []) (us := [(pz k1)]) .nil (.cons (.tmp rfl rfl) .nil)) ?_
 refine bnd hF fun r2 hx3 hF => Cx0 (g_slices_ContainsFunc_impl_Fact_impl_Fact_iHasFact1_ok _ _ _ _ _ _ hx3) (fun _ => ?_)
 iterate 3 refine au ?_
 cases hF
 exact Er ()
def i_added_1 (a_x : Fact) (a_e1 : Fact) : Option (Bool) :=
 (i_CompareFacts a_x a_e1).bind fun r2 =>
 some (decide ((0 : Int) < r2))
theorem i_added_1_ok (a_x : Fact) (v0_1 : Sv) (kc1 : Nat) (a_e1 : Fact) (vc1_1 : Sv) (R : Bool) (hF : i_added_1 a_x a_e1 = some R) :
   Fw.Spec Tryz.prog 97 [(.agg [(.int .i64 a_x.Rel), v0_1.v].toArray), (pz kc1)] [crd (RdS 3 rdInt) v0_1.v a_x.Values, cboR kc1 58 (.agg [(.int .i64 a_e1.Rel), vc1_1.v].toArray), crd (RdS 3 rdInt) vc1_1.v a_e1.Values] (fun _ : Unit => (.bool R)) (fun _ => []) := by
 refine Se 8 Tryz.func97 [.tmp 3] ?_
 intro H0 F0
 unfold i_added_1 at hF
 refine au ?_
 refine AbR (fun k1 => ?_)
 iterate 5 refine au ?_
 refine bnd hF fun r2 hx3 hF => Cx0 (i_CompareFacts_ok _ _ _ _ _ hx3) (fun _ => ?_)
 iterate 4 refine au ?_
 cases hF
 exact Er ()
def g_slices_IndexFunc_impl_Fact_impl_Fact_iadded1_L1 (a_e1 : Fact) : List Fact → Nat → Option (Int)
 | [], k4 => some (-1)
 | x6 :: rest5, k4 => (i_added_1 x6 a_e1).bind fun r16 =>
   if r16 then (
     some (k4 : Int))
   else (
     g_slices_IndexFunc_impl_Fact_impl_Fact_iadded1_L1 a_e1 rest5 (k4 + 1))
def g_slices_IndexFunc_impl_Fact_impl_Fact_iadded1 (a_s : List Fact) (a_e1 : Fact) : Option (Int) :=
 g_slices_IndexFunc_impl_Fact_impl_Fact_iadded1_L1 a_e1 a_s 0
theorem g_slices_IndexFunc_impl_Fact_impl_Fact_iadded1_ok (a_s : List Fact) (v0_0 : Sv) (kc1 : Nat) (a_e1 : Fact) (vc1_1 : Sv) (R : Int) (hF : g_slices_IndexFunc_impl_Fact_impl_Fact_iadded1 a_s a_e1 = some R) :
   Fw.Spec Tryz.prog 96 [v0_0.v, (.func (.func 97) [].toArray [(pz kc1)].toArray)] [crd (RdS 58 rd58) v0_0.v a_s, cboR kc1 58 (.agg [(.int .i64 a_e1.Rel), vc1_1.v].toArray), crd (RdS 3 rdInt) vc1_1.v a_e1.Values] (fun _ : Unit => (.int .i64 R)) (fun _ => []) := by
 refine Se 19 Tryz.func96 [.tmp 4] ?_
 intro H0 F0
 unfold g_slices_IndexFunc_impl_Fact_impl_Fact_iadded1 at hF
 iterate 9 refine au ?_
 refine CW_block (CW_loop (m := a_s.length) (fun m2 f' cs' => ∃ (g : Fr) (k4 : Nat) (rest5 : List Fact), m2 = rest5.length ∧ f' = updL g [(0, v0_0.v), (1, (.func (.func 97) [].toArray [(pz kc1)].toArray)), (7, (.int .i64 (a_s.length : Int))), (8, (.int .i64 (k4 : Int)))] ∧ List.drop k4 a_s = rest5 ∧ Ent cs' [crd (RdS 58 rd58) v0_0.v a_s, cboR kc1 58 (.agg [(.int .i64 a_e1.Rel), vc1_1.v].toArray), crd (RdS 3 rdInt) vc1_1.v a_e1.Values] ∧ g_slices_IndexFunc_impl_Fact_impl_Fact_iadded1_L1 a_e1 rest5 k4 = some R) ⟨_, 0, _, rfl, eqA, rfl, entA, hF⟩ ?_)
 rintro m2 _ _ ⟨g3, k4, rest5, rfl, rfl, hd7, hE, hF⟩
 refine Kb hE a_s (fun hbd12 => ?_)
 rcases rest5 with _ | ⟨x6, rest5⟩
 · have hk8 := dn hd7
   rw [g_slices_IndexFunc_impl_Fact_impl_Fact_iadded1_L1] at hF
   iterate 4 refine au ?_
   refine CdF ?_
   iterate 8 refine au ?_
   cases hF
   exact Er ()
 obtain ⟨hk8, hx9, hd10⟩ := drop_cons hd7
 rw [g_slices_IndexFunc_impl_Fact_impl_Fact_iadded1_L1] at hF
 iterate 4 refine au ?_
 refine CdT ?_
 iterate 10 refine au ?_
 refine Ai hx9 (fun k13 j14 => ?_)
 refine AlA1 (ul58_0_58 x6) la58_0_58 (fun p15 => ?_)
 refine bnd hF fun r16 hx17 hF => C_x0 (.rd .h rfl (.rd (.t (.t (.t .h))) rfl (.rd (.t (.t (.t (.t .h)))) rfl .nil))) (X_callCS cf97.h (.tmp rfl rfl) (.cons (.tmp rfl rfl) .nil) (i_added_1_ok x6 p15 kc1 a_e1 vc1_1 _ hx17)) (fun _ => ?_)
 refine au ?_
 refine Ci hF (fun hb20 hF => ?_) (fun hb20 hF => ?_)
 · iterate 5 refine au ?_
   cases hF
   exact Er ()
 iterate 5 refine au ?_
 rw [wk k4]
 exact ⟨_, Nat.lt_succ_self _, _, k4 + 1, rest5, rfl, eqA, hd10, entA, hF⟩
def g_slices_Insert_impl_Fact_impl_Fact (a_s : List Fact) (a_i : Int) (a_v : List Fact) : Option (List Fact) :=
 match a_v with
 | [a] => if 0 ≤ a_i ∧ a_i.toNat ≤ a_s.length ∧ a_s.length + 1 < 4294967296 then some (a_s.take a_i.toNat ++ a :: a_s.drop a_i.toNat) else none
 | _ => none
set_option maxHeartbeats 4000000 in
theorem g_slices_Insert_impl_Fact_impl_Fact_raw (es : List Value) (e : Value) (v u : Sv) (F F2 : List Nat) (i : Nat) (hi : i ≤ es.length) (hb : es.length + 1 < 4294967296) : Fw.Spec Tryz.prog 99 [v.v, .int .i64 (i : Int), u.v] [cown (OwnS 58 (roE (rvs 2))) F v.v es, cown (OwnS 58 (roE (rvs 2))) F2 u.v [e]] (fun q : Sv × List Nat => q.1.v) (fun q => [cown (OwnS 58 (roE (rvs 2))) q.2 q.1.v (es.take i ++ e :: es.drop i)]) := by
 refine Spec_enter (n := 95) Tryz.func99 rfl rfl (rs := [.tmp 6]) rfl rfl rfl ?_
 intro H0 F0
 refine K_region ?_
 refine C_val (V_assign (v := (.slice none 0 0)) EV.nilSlice) ?_
 refine C_nil ?_
 refine K_region ?_
 refine C_val (V_move (v := v.v) (.tmp rfl rfl)) ?_
 refine C_val (V_move (v := (.int .i64 (i : Int))) (.tmp rfl rfl)) ?_
 refine C_x1 (.cons .h .nil) (X_sliceLoE sl28.h ty58.h.sz (.tmp rfl rfl) (.tmp rfl rfl) hi) (fun w0 => ?_)
 refine C_nil ?_
 refine K_region ?_
 refine C_val (V_move (v := u.v) (.tmp rfl rfl)) ?_
 refine C_at (.t .h) (fun hp => V_lenR (l := 1) sl28.h (.tmp rfl rfl) (cown_len hp)) ?_
 refine C_val (V_assign (v := (.int .i64 ((1 : Nat) : Int))) (.tmp rfl rfl)) ?_
 refine C_nil ?_
 refine K_in ?_
 refine K_region ?_
 refine C_val (V_move (v := (.int .i64 ((1 : Nat) : Int))) (.tmp rfl rfl)) ?_
 refine C_val (V_eql (i := ((1 : Nat) : Int)) (j := 0) (.tmp rfl rfl) (.int _ _)) ?_
 refine C_nil ?_
 refine CW_cond (b := (((1 : Nat) : Int) == 0)) (.tmp rfl rfl) (fun hb0 => absurd hb0 (by decide)) (fun _ => ?_)
 refine CW_skip ?_
 refine K_region ?_
 refine C_val (V_move (v := v.v) (.tmp rfl rfl)) ?_
 refine C_at .h (fun hp => V_lenR (l := es.length) sl28.h (.tmp rfl rfl) (cown_len hp)) ?_
 refine C_val (V_assign (v := (.int .i64 (es.length : Int))) (.tmp rfl rfl)) ?_
 refine C_nil ?_
 refine K_in ?_
 refine K_region ?_
 refine C_val (V_move (v := (.int .i64 (i : Int))) (.tmp rfl rfl)) ?_
 refine C_val (V_move (v := (.int .i64 (es.length : Int))) (.tmp rfl rfl)) ?_
 refine C_val (V_eql (i := (i : Int)) (j := (es.length : Int)) (.tmp rfl rfl) (.tmp rfl rfl)) ?_
 refine C_nil ?_
 refine CW_cond (b := ((i : Int) == (es.length : Int))) (.tmp rfl rfl) (fun hb1 => ?_) (fun hb1 => ?_)
 · have hie : i = es.length := by simp only [beq_iff_eq] at hb1; omega
   refine K_region ?_
   refine C_val (V_move (v := v.v) (.tmp rfl rfl)) ?_
   refine C_val (V_move (v := u.v) (.tmp rfl rfl)) ?_
   refine C_x1 (.cons .h (.cons .h .nil)) (X_appendO (Ro := (roE (rvs 2))) sl28.h ni28 ty58.h rfl rfl rfl (.tmp rfl rfl) (.tmp rfl rfl) (app_ok (xs := es) (ys := [e]) (by simpa using hb)) src_own) (fun p => ?_)
   refine C_val (V_assign (v := p.1.v) (.tmp rfl rfl)) ?_
   refine C_nil ?_
   refine CW_ret ?_
   rw [hie, List.take_length, List.drop_length]
   exact End_ret p (.tmp rfl rfl .nil) rfl (.sel (.cons .h .nil))
 refine CW_skip ?_
 have hlt : i < es.length := by simp at hb1; omega
 refine K_pure .h (own_form (by intro h; rw [h] at hlt; simp at hlt)) (fun hv => ?_)
 obtain ⟨k0, m0, rfl, hm0⟩ := hv
 refine K_pure (.t .h) (own_form (by simp)) (fun hu => ?_)
 obtain ⟨k1, m1, rfl, hm1⟩ := hu
 refine K_cap (t := 0) (k := k0) (l := es.length) (m := m0) rfl rfl hm0 (by omega) .h rfl (fun c hc => ?_)
 have w1 : IntKind.i64.wrap ((es.length : Int) + ((1 : Nat) : Int)) = ((es.length + 1 : Nat) : Int) := by rw [wrap_in (by omega) (by omega)]; rfl
 have w2 : IntKind.i64.wrap ((i : Int) + ((1 : Nat) : Int)) = ((i + 1 : Nat) : Int) := by rw [wrap_in (by omega) (by omega)]; rfl
 have w3 : IntKind.i64.wrap (((es.length + 1 : Nat) : Int) - (i : Int)) = ((es.length + 1 - i : Nat) : Int) := by rw [wrap_in (by omega) (by omega)]; omega
 have hel : (es.take i ++ e :: es.drop i).length = es.length + 1 := ins_len hi
 refine K_in ?_
 refine K_region ?_
 refine C_val (V_move (v := (.int .i64 (es.length : Int))) (.tmp rfl rfl)) ?_
 refine C_val (V_move (v := (.int .i64 ((1 : Nat) : Int))) (.tmp rfl rfl)) ?_
 refine C_val (V_add (i := (es.length : Int)) (j := ((1 : Nat) : Int)) (.tmp rfl rfl) (.tmp rfl rfl)) ?_
 rw [w1]
 refine C_val (V_move (v := (.slice (some ⟨k0, 0, none⟩) es.length (c + 3))) (.tmp rfl rfl)) ?_
 refine C_at .h (fun hp => V_capO sl28.h hp rfl (.tmp rfl rfl)) ?_
 refine C_val (V_gtr (i := ((es.length + 1 : Nat) : Int)) (j := (c : Int)) (.tmp rfl rfl) (.tmp rfl rfl)) ?_
 refine C_nil ?_
 refine CW_cond (b := (decide ((c : Int) < ((es.length + 1 : Nat) : Int)))) (.tmp rfl rfl) (fun hb2 => ?_) (fun hb2 => ?_)
 · have hcl : c < es.length + 1 := by simp only [decide_eq_true_eq] at hb2; omega
   refine K_region ?_
   refine C_val (V_move (v := (.slice (some ⟨k0, 0, none⟩) es.length (c + 3))) (.tmp rfl rfl)) ?_
   refine C_val (V_move (v := (.int .i64 (i : Int))) (.tmp rfl rfl)) ?_
   refine C_at .h (fun hp => V_sliceCapO (j := i) sl28.h ty58.h.sz hp rfl (.tmp rfl rfl) (.tmp rfl rfl) (by omega)) ?_
   refine C_val (V_move (v := (.int .i64 (es.length : Int))) (.tmp rfl rfl)) ?_
   refine C_val (V_move (v := (.int .i64 ((1 : Nat) : Int))) (.tmp rfl rfl)) ?_
   refine C_val (V_add (i := (es.length : Int)) (j := ((1 : Nat) : Int)) (.tmp rfl rfl) (.tmp rfl rfl)) ?_
   rw [w1]
   refine C_val (V_move (v := (.int .i64 (i : Int))) (.tmp rfl rfl)) ?_
   refine C_val (V_sub (i := ((es.length + 1 : Nat) : Int)) (j := (i : Int)) (.tmp rfl rfl) (.tmp rfl rfl)) ?_
   rw [w3]
   refine C_x2 (.cons .h .nil) (X_appendMake (c := c) (q := es.length + 1 - i) sl28.h ik3 ty58.h rfl rfl rfl rfl rfl rfl (.tmp rfl rfl) (.tmp rfl rfl) (by omega) (by omega) (by omega) (by omega)) (fun k2 => ?_)
   rw [show i + (es.length + 1 - i) = es.length + 1 from by omega]
   refine C_val (V_assign (v := (.slice (some ⟨k2, 0, none⟩) (es.length + 1) 2)) (.tmp rfl rfl)) ?_
   refine C_nil ?_
   refine K_region ?_
   refine C_val (V_move (v := (.slice (some ⟨k2, 0, none⟩) (es.length + 1) 2)) (.tmp rfl rfl)) ?_
   refine C_val (V_move (v := (.int .i64 (i : Int))) (.tmp rfl rfl)) ?_
   refine C_at .h (fun hp => V_sliceLoO (j := i) sl28.h ty58.h.sz hp rfl (.tmp rfl rfl) (.tmp rfl rfl) (by omega)) ?_
   refine C_val (V_move (v := (.slice (some ⟨k1, 0, none⟩) 1 m1)) (.tmp rfl rfl)) ?_
   refine C_x2 (.cons .h (.cons (.t .h) .nil)) (X_copy2 (m1 := 0) (m2 := m1) (ia := i) (ja := 0) (ld := es.length + 1 - i) (ls := 1) (es2 := [e]) (es' := es.take i ++ e :: List.replicate (es.length - i) (.agg [(.int .i64 0), (.slice none 0 0)].toArray)) sl28.h ty58.h.sz rfl rfl rfl (by exact .tmp rfl rfl) (by exact .tmp rfl rfl) (by omega) (by omega) (by rw [List.length_singleton]; omega) (by simp; omega) (ins_l1 (e := e) (z := (.agg [(.int .i64 0), (.slice none 0 0)].toArray)) hlt) (by simp; omega)) (fun _ => ?_)
   refine C_nil ?_
   refine K_draw [0, 1, 2, 3, 4, 5, 6, 7, 8] [0, 0, 0, 6, 15, 0, 0, 96, 255] [8] mixed (by decide +kernel) ?_
   refine D_val rfl .no (fun ha => V_move (v := (.slice (some ⟨k2, 0, none⟩) (es.length + 1) 2)) (EN ha (.tmp rfl rfl) rfl)) ?_
   refine D_val rfl .no (fun ha => V_move (v := (.int .i64 (i : Int))) (EN ha (.tmp rfl rfl) rfl)) ?_
   refine D_val rfl .no (fun ha => V_move (v := (.int .i64 ((1 : Nat) : Int))) (EN ha (.tmp rfl rfl) rfl)) ?_
   refine D_val rfl .no (fun ha => V_add (i := (i : Int)) (j := ((1 : Nat) : Int)) (EN ha (.tmp rfl rfl) rfl) (EN ha (.tmp rfl rfl) rfl)) ?_
   rw [w2]
   refine D_atO rfl .no .h (fun ha hp => V_sliceLoO (j := i + 1) sl28.h ty58.h.sz hp rfl (EN ha (.tmp rfl rfl) rfl) (EN ha (.tmp rfl rfl) rfl) (by omega)) ?_
   refine D_val rfl .no (fun ha => V_move (v := (.slice (some ⟨k0, 0, none⟩) es.length (c + 3))) (EN ha (.tmp rfl rfl) rfl)) ?_
   refine D_val rfl .no (fun ha => V_move (v := (.int .i64 (i : Int))) (EN ha (.tmp rfl rfl) rfl)) ?_
   refine D_atO rfl .no (.t (.t .h)) (fun ha hp => V_sliceLoO (j := i) sl28.h ty58.h.sz hp rfl (EN ha (.tmp rfl rfl) rfl) (EN ha (.tmp rfl rfl) rfl) (by omega)) ?_
   refine D_act2 rfl rfl .no (.cons .h (.cons (.t .h) .nil)) (.dep rfl (.dep rfl .nil)) (fun ha => X_copy2 sl28.h ty58.h.sz rfl rfl rfl (EN ha (.tmp rfl rfl) rfl) (EN ha (.tmp rfl rfl) rfl) (by omega) (by omega) (by omega) (by simp; omega) (ins_l2 (e := e) (z := (.agg [(.int .i64 0), (.slice none 0 0)].toArray)) hlt) (by omega)) (fun _ => ?_)
   refine D_nil ?_
   refine K_region ?_
   refine C_val (V_move (v := (.slice (some ⟨k2, 0, none⟩) (es.length + 1) 2)) (.tmp rfl rfl)) ?_
   refine C_val (V_assign (v := (.slice (some ⟨k2, 0, none⟩) (es.length + 1) 2)) (.tmp rfl rfl)) ?_
   refine C_nil ?_
   refine CW_ret ?_
   rw [hel]
   exact End_ret (⟨some ⟨k2, 0, none⟩, es.length + 1, 2⟩, [k2]) (.tmp rfl rfl .nil) rfl (.sel (.cons .h .nil))
 refine CW_skip ?_
 have hcl : es.length + 1 ≤ c := by simp only [decide_eq_false_iff_not] at hb2; omega
 refine K_region ?_
 refine C_val (V_move (v := (.slice (some ⟨k0, 0, none⟩) es.length (c + 3))) (.tmp rfl rfl)) ?_
 refine C_val (V_move (v := (.int .i64 (es.length : Int))) (.tmp rfl rfl)) ?_
 refine C_val (V_move (v := (.int .i64 ((1 : Nat) : Int))) (.tmp rfl rfl)) ?_
 refine C_val (V_add (i := (es.length : Int)) (j := ((1 : Nat) : Int)) (.tmp rfl rfl) (.tmp rfl rfl)) ?_
 rw [w1]
 refine C_at .h (fun hp => V_sliceCapO (j := es.length + 1) sl28.h ty58.h.sz hp rfl (.tmp rfl rfl) (.tmp rfl rfl) hcl) ?_
 refine C_val (V_assign (v := (.slice (some ⟨k0, 0, none⟩) (es.length + 1) (c + 3))) (.tmp rfl rfl)) ?_
 refine C_nil ?_
 refine K_in ?_
 refine K_region ?_
 refine C_val (V_move (v := (.slice (some ⟨k1, 0, none⟩) 1 m1)) (.tmp rfl rfl)) ?_
 refine C_val (V_move (v := (.slice (some ⟨k0, 0, none⟩) (es.length + 1) (c + 3))) (.tmp rfl rfl)) ?_
 refine C_val (V_move (v := (.int .i64 (i : Int))) (.tmp rfl rfl)) ?_
 refine C_val (V_move (v := (.int .i64 ((1 : Nat) : Int))) (.tmp rfl rfl)) ?_
 refine C_val (V_add (i := (i : Int)) (j := ((1 : Nat) : Int)) (.tmp rfl rfl) (.tmp rfl rfl)) ?_
 rw [w2]
 refine C_at .h (fun hp => V_sliceLoO (j := i + 1) sl28.h ty58.h.sz hp rfl (.tmp rfl rfl) (.tmp rfl rfl) (by omega)) ?_
 refine C_x2 (.cons (.t .h) (.cons .h .nil)) (X_overlaps sl28.h ty58.h.sz rfl hov150 rfl rfl (.tmp rfl rfl) (.tmp rfl rfl) (by omega) (by omega)) (fun _ => ?_)
 refine C_val (V_not (b := false) (.tmp rfl rfl)) ?_
 refine C_nil ?_
 refine CW_cond (b := (!false)) (.tmp rfl rfl) (fun _ => ?_) (fun h => absurd h (by decide))
 refine K_draw [0, 1, 2, 3, 4, 5, 6, 7, 8] [0, 0, 0, 6, 15, 0, 0, 96, 255] [8] mixed (by decide +kernel) ?_
 refine D_val rfl .no (fun ha => V_move (v := (.slice (some ⟨k0, 0, none⟩) (es.length + 1) (c + 3))) (EN ha (.tmp rfl rfl) rfl)) ?_
 refine D_val rfl .no (fun ha => V_move (v := (.int .i64 (i : Int))) (EN ha (.tmp rfl rfl) rfl)) ?_
 refine D_val rfl .no (fun ha => V_move (v := (.int .i64 ((1 : Nat) : Int))) (EN ha (.tmp rfl rfl) rfl)) ?_
 refine D_val rfl .no (fun ha => V_add (i := (i : Int)) (j := ((1 : Nat) : Int)) (EN ha (.tmp rfl rfl) rfl) (EN ha (.tmp rfl rfl) rfl)) ?_
 rw [w2]
 refine D_atO rfl .no (.t .h) (fun ha hp => V_sliceLoO (j := i + 1) sl28.h ty58.h.sz hp rfl (EN ha (.tmp rfl rfl) rfl) (EN ha (.tmp rfl rfl) rfl) (by omega)) ?_
 refine D_val rfl .no (fun ha => V_move (v := (.slice (some ⟨k0, 0, none⟩) (es.length + 1) (c + 3))) (EN ha (.tmp rfl rfl) rfl)) ?_
 refine D_val rfl .no (fun ha => V_move (v := (.int .i64 (i : Int))) (EN ha (.tmp rfl rfl) rfl)) ?_
 refine D_atO rfl .no (.t .h) (fun ha hp => V_sliceLoO (j := i) sl28.h ty58.h.sz hp rfl (EN ha (.tmp rfl rfl) rfl) (EN ha (.tmp rfl rfl) rfl) (by omega)) ?_
 refine D_act1 rfl rfl .no (.cons (.t .h) .nil) (.dep rfl (.dep rfl .nil)) (fun ha => X_copyS sl28.h ty58.h.sz rfl rfl (EN ha (.tmp rfl rfl) rfl) (EN ha (.tmp rfl rfl) rfl) (by omega) (by omega) (by omega) (by omega) (ins_l3 hlt) (by simp; omega)) (fun _ => ?_)
 refine D_nil ?_
 refine K_region ?_
 refine C_val (V_move (v := (.slice (some ⟨k0, 0, none⟩) (es.length + 1) (c + 3))) (.tmp rfl rfl)) ?_
 refine C_val (V_move (v := (.int .i64 (i : Int))) (.tmp rfl rfl)) ?_
 refine C_at .h (fun hp => V_sliceLoO (j := i) sl28.h ty58.h.sz hp rfl (.tmp rfl rfl) (.tmp rfl rfl) (by omega)) ?_
 refine C_val (V_move (v := (.slice (some ⟨k1, 0, none⟩) 1 m1)) (.tmp rfl rfl)) ?_
 refine C_x2 (.cons .h (.cons .h .nil)) (X_copy2 (m1 := 0) (m2 := m1) (ia := i) (ja := 0) (ld := es.length + 1 - i) (ls := 1) (es2 := [e]) (es' := es.take i ++ e :: es.drop i) sl28.h ty58.h.sz rfl rfl rfl (by exact .tmp rfl rfl) (by exact .tmp rfl rfl) (by omega) (by omega) (by rw [List.length_singleton]; omega) (by simp; omega) (ins_l4 (e := e) hlt) (by omega)) (fun _ => ?_)
 refine C_nil ?_
 refine K_region ?_
 refine C_val (V_move (v := (.slice (some ⟨k0, 0, none⟩) (es.length + 1) (c + 3))) (.tmp rfl rfl)) ?_
 refine C_val (V_assign (v := (.slice (some ⟨k0, 0, none⟩) (es.length + 1) (c + 3))) (.tmp rfl rfl)) ?_
 refine C_nil ?_
 refine K_uncap (t := 6) (k := k0) (l := es.length + 1) (c := c) rfl rfl ?_
 refine CW_ret ?_
 rw [hel]
 exact End_ret (⟨some ⟨k0, 0, none⟩, es.length + 1, 2⟩, F) (.tmp rfl rfl .nil) rfl (.sel (.cons .h .nil))
theorem g_slices_Insert_impl_Fact_impl_Fact_ok (a_s : List Fact) (v0_0 : Sv) (F0_0 : List Nat) (a_i : Int) (a_v : List Fact) (v2_0 : Sv) (F2_0 : List Nat) (R : List Fact) (hF : g_slices_Insert_impl_Fact_impl_Fact a_s a_i a_v = some R) :
   Fw.Spec Tryz.prog 99 [v0_0.v, .int .i64 a_i, v2_0.v] [cown (OwnS 58 ow58) F0_0 v0_0.v a_s, cown (OwnS 58 ow58) F2_0 v2_0.v a_v] (fun p : Sv × List Nat => p.1.v) (fun p => [cown (OwnS 58 ow58) p.2 p.1.v R]) := by
 unfold g_slices_Insert_impl_Fact_impl_Fact at hF
 rcases a_v with _ | ⟨a, _ | ⟨_, _⟩⟩
 · simp at hF
 · dsimp only at hF
   split at hF
   · rename_i h
     obtain ⟨h0, h1, h2⟩ := h
     obtain ⟨i, rfl⟩ : ∃ i : Nat, a_i = (i : Int) := ⟨a_i.toNat, by omega⟩
     cases hF
     rw [Int.toNat_natCast] at h1 ⊢
     exact Spec_insD (s := 2) fun es e Fa Fb hl => g_slices_Insert_impl_Fact_impl_Fact_raw es e v0_0 v2_0 Fa Fb i (by omega) (by omega)
   · simp at hF
 · simp at hF
def i_added (a_l : List Fact) (a_f : Fact) : Option ((List Fact)) :=
 (i_HasFact a_l a_f).bind fun r2 =>
 if r2 then (
   some a_l)
 else (
   (g_slices_IndexFunc_impl_Fact_impl_Fact_iadded1 a_l a_f).bind fun r5 =>
   if (decide ((r5 : Int) < 0)) then (
     (i_copyFact a_f).bind fun r8 =>
     (g_slices_Insert_impl_Fact_impl_Fact a_l (a_l.length : Int) ([r8] : List Fact)).bind fun r12 =>
     some r12)
   else (
     (i_copyFact a_f).bind fun r15 =>
     (g_slices_Insert_impl_Fact_impl_Fact a_l r5 ([r15] : List Fact)).bind fun r19 =>
     some r19))
theorem i_added_ok (a_l : List Fact) (v0_0 : Sv) (F0_0 : List Nat) (a_f : Fact) (v1_1 : Sv) (R : (List Fact)) (hF : i_added a_l a_f = some R) :
   Fw.Spec Tryz.prog 42 [v0_0.v, (.agg [(.int .i64 a_f.Rel), v1_1.v].toArray)] [cown (OwnS 58 ow58) F0_0 v0_0.v a_l, crd (RdS 3 rdInt) v1_1.v a_f.Values] (fun p : Sv × List Nat => p.1.v) (fun p => [cown (OwnS 58 ow58) p.2 p.1.v R]) := by
 refine Se 23 Tryz.func42 [.tmp 4] ?_
 intro H0 F0
 unfold i_added at hF
 refine au ?_
 refine AbR (fun k1 => ?_)
 iterate 6 refine au ?_
 refine bnd hF fun r2 hx3 hF => C_x1 (.cons (.t .h) (.rd (.t .h) rfl .nil)) (XC_bor frz_own (fun _ => .nil) (X_callS cf71.h (.cons (.tmp rfl rfl) (.cons (.tmp rfl rfl) .nil)) (i_HasFact_ok a_l v0_0 a_f v1_1 _ hx3))) (fun _ => ?_)
 refine au ?_
 refine Ci hF (fun hb23 hF => ?_) (fun hb23 hF => ?_)
 · iterate 5 refine au ?_
   cases hF
   exact Er (v0_0, F0_0)
 iterate 3 refine au ?_
 refine C_val (V_makeFunc (fn := .func 97) (vs := []) (us := [(pz k1)]) .nil (.cons (.tmp rfl rfl) .nil)) ?_
 refine bnd hF fun r5 hx6 hF => C_x1 (.cons .h (.rd .h rfl (.rd (.t .h) rfl .nil))) (XC_bor frz_own (fun _ => .nil) (X_callS cf96.h (.cons (.tmp rfl rfl) (.cons (.tmp rfl rfl) .nil)) (g_slices_IndexFunc_impl_Fact_impl_Fact_iadded1_ok a_l v0_0 k1 a_f v1_1 _ hx6))) (fun _ => ?_)
 iterate 7 refine au ?_
 refine Ci hF (fun hb22 hF => ?_) (fun hb22 hF => ?_)
 · iterate 9 refine au ?_
   refine bnd hF fun r8 hx9 hF => Cx1 (i_copyFact_ok _ _ _ hx9) (fun p10 => ?_)
   refine C_new rfl (N_buildSliceT (g := true) sl28.h ty58.h (.cons (.tmp rfl rfl) .nil) (vs := [(.agg [(.int .i64 r8.Rel), p10.1.v].toArray)]) rfl rfl rfl (by intro v hv; simp at hv; rcases hv with rfl <;> rfl)) (fun k11 => ?_)
   refine Cv1 (.cons .h (.cons .h .nil)) (own_lit (Ro := ow58) (E := 58) (F := (p10.2 ++ [])) (xs := ([r8] : List Fact)) (MkL_cons mk58 MkL_nil apps) rfl rfl) ?_
   refine bnd hF fun r12 hx13 hF => Cx1 (g_slices_Insert_impl_Fact_impl_Fact_ok _ _ _ _ _ (⟨(some ⟨k11, 0, none⟩), 1, 1⟩) _ _ hx13) (fun p14 => ?_)
   iterate 3 refine au ?_
   cases hF
   exact Er (p14.1, p14.2)
 iterate 5 refine au ?_
 refine bnd hF fun r15 hx16 hF => Cx1 (i_copyFact_ok _ _ _ hx16) (fun p17 => ?_)
 refine C_new rfl (N_buildSliceT (g := true) sl28.h ty58.h (.cons (.tmp rfl rfl) .nil) (vs := [(.agg [(.int .i64 r15.Rel), p17.1.v].toArray)]) rfl rfl rfl (by intro v hv; simp at hv; rcases hv with rfl <;> rfl)) (fun k18 => ?_)
 refine Cv1 (.cons .h (.cons .h .nil)) (own_lit (Ro := ow58) (E := 58) (F := (p17.2 ++ [])) (xs := ([r15] : List Fact)) (MkL_cons mk58 MkL_nil apps) rfl rfl) ?_
 refine bnd hF fun r19 hx20 hF => Cx1 (g_slices_Insert_impl_Fact_impl_Fact_ok _ _ _ _ _ (⟨(some ⟨k18, 0, none⟩), 1, 1⟩) _ _ hx20) (fun p21 => ?_)
 iterate 3 refine au ?_
 cases hF
 exact Er (p21.1, p21.2)
def i_Reached_told_L4 (z168 : List Access) : List Fact → Nat → (List Fact) → (List Int) → Option ((List Fact) × (List Int) × (List Access))
 | [], k220, c210, c213 => some (c210, c213, z168)
 | x222 :: rest221, k220, c210, c213 => (i_added c210 x222).bind fun r235 =>
   (i_withValues c213 x222.Values).bind fun r238 =>
   i_Reached_told_L4 z168 rest221 (k220 + 1) r235 r238
def i_Reached_told_L1 (a_r : Reached) (a_l : List Method) (a_facts : List Fact) (r1 : (List Access)) : List Access → Nat → (List Fact) → (List Int) → (List Access) → Option (Bool × Reached)
 | [], k143, c130, c133, c136 => (i_bit (decide ((0 : Int) < (r1.length : Int)))).bind fun r152 =>
   some ((decide ((0 : Int) < (r1.length : Int))), ({ Facts := c130, Values := c133, Log := c136, Rounds := (IntKind.i64.wrap (a_r.Rounds + r152)) } : Reached))
 | x145 :: rest144, k143, c130, c133, c136 => ((app c136 [x145]).bind fun z168 =>
     (i_matches a_l a_facts x145).bind fun r171 =>
     i_Reached_told_L4 z168 r171 0 c130 c133).bind fun o155 =>
   match o155 with
   | (c242, c245, c248) => i_Reached_told_L1 a_r a_l a_facts r1 rest144 (k143 + 1) c242 c245 c248
def i_Reached_told (a_r : Reached) (a_l : List Method) (a_facts : List Fact) : Option (Bool × Reached) :=
 (i_Reached_open a_r a_l).bind fun r1 =>
 i_Reached_told_L1 a_r a_l a_facts r1 r1 0 a_r.Facts a_r.Values a_r.Log
theorem i_Reached_told_ok (kq0 : Nat) (a_r : Reached) (v0_0 : Sv) (F0_0 : List Nat) (v0_1 : Sv) (F0_1 : List Nat) (v0_2 : Sv) (F0_2 : List Nat) (a_l : List Method) (v1_0 : Sv) (a_facts : List Fact) (v2_0 : Sv) (R : Bool × Reached) (hF : i_Reached_told a_r a_l a_facts = some R) :
   Fw.Spec Tryz.prog 70 [(.pointer (some ⟨kq0, 0, some 0⟩)), v1_0.v, v2_0.v] [cbox kq0 46 (.agg [v0_0.v, v0_1.v, v0_2.v, (.int .i64 a_r.Rounds)].toArray), cown (OwnS 58 ow58) F0_0 v0_0.v a_r.Facts, cown (OwnS 3 (roE rdInt)) F0_1 v0_1.v a_r.Values, cown (OwnS 54 ow54) F0_2 v0_2.v a_r.Log, crd (RdS 97 rd97) v1_0.v a_l, crd (RdS 58 rd58) v2_0.v a_facts] (fun _ : Sv × List Nat × Sv × List Nat × Sv × List Nat => (.bool R.1)) (fun p => [cbox kq0 46 (.agg [p.1.v, p.2.2.1.v, p.2.2.2.2.1.v, (.int .i64 R.2.Rounds)].toArray), cown (OwnS 58 ow58) p.2.1 p.1.v R.2.Facts, cown (OwnS 3 (roE rdInt)) p.2.2.2.1 p.2.2.1.v R.2.Values, cown (OwnS 54 ow54) p.2.2.2.2.2 p.2.2.2.2.1.v R.2.Log]) := by
 refine Spec_enter (n := 77) Tryz.func70 rfl rfl (rs := [.tmp 6]) rfl rfl rfl ?_
 intro H0 F0
 unfold i_Reached_told at hF
 refine K_region (C_val (V_assign (v := (.bool false)) (.bool _)) ?_)
 refine C_nil (K_region (Cm (.pointer (some ⟨kq0, 0, some 0⟩)) rfl rfl ?_))
 refine C_val (V_nilCheck (v := (.pointer (some ⟨kq0, 0, some 0⟩))) rfl (.tmp rfl rfl)) ?_
 refine C_at .h (fun hp => V_loadBox ag46.h ty46.h.sz rfl (.tmp rfl rfl) hp.2 rfl) ?_
 refine Cm v1_0.v rfl rfl ?_
 obtain ⟨r1, hx2, hF⟩ := bind_some hF
 refine C_x4 (.cons (.t (.t (.t .h))) (.cons (.t (.t .h)) (.cons (.t .h) (.rd (.t .h) rfl .nil)))) (XC_borL (pre := _) (.cons frz_own (.cons frz_own (.cons frz_own .nil))) (fun _ => (.cons .nil)) (X_callS cf69.h (.cons (.tmp rfl rfl) (.cons (.tmp rfl rfl) .nil)) (i_Reached_open_ok a_r v0_0 v0_1 v0_2 a_l v1_0 _ hx2))) (fun p3 => ?_)
 refine Ca p3.1.v rfl rfl ?_
 refine C_nil (K_in (K_region (Cm p3.1.v rfl rfl ?_)))
 refine C_at (.t (.t (.t .h))) (fun hp => V_lenR (l := r1.length) sl44.h (.tmp rfl rfl) (cown_len hp)) ?_
 refine C_val (V_move (v := (.int .i64 0)) (.int _ _)) ?_
 refine C_nil (CW_block (K_mov (s := 2) (.t (.t (.t .h))) (fun es15 G16 => ?_)))
 refine CW_loop (m := r1.length) (fun m141 f' cs' => ∃ (g : Fr) (k143 : Nat) (rest144 : List Access) (c130 : List Fact) (c133 : List Int) (c136 : List Access) (v131 : Sv) (F132 : List Nat) (v134 : Sv) (F135 : List Nat) (v137 : Sv) (F138 : List Nat) (G139 : List Nat), m141 = rest144.length ∧ f' = updL g [(0, (.pointer (some ⟨kq0, 0, some 0⟩))), (1, v1_0.v), (2, v2_0.v), (7, p3.1.v), (17, p3.1.v), (18, (.int .i64 (r1.length : Int))), (19, (.int .i64 (k143 : Int)))] ∧ List.drop k143 r1 = rest144 ∧ Ent cs' [cbox kq0 46 (.agg [v131.v, v134.v, v137.v, (.int .i64 a_r.Rounds)].toArray), cown (OwnS 58 ow58) F132 v131.v c130, cown (OwnS 3 (roE rdInt)) F135 v134.v c133, cown (OwnS 54 ow54) F138 v137.v c136, crd (RdS 97 rd97) v1_0.v a_l, crd (RdS 58 rd58) v2_0.v a_facts, cmov 54 2 ow54 G139 p3.1.v es15 r1.length k143 rest144] ∧ i_Reached_told_L1 a_r a_l a_facts r1 rest144 k143 c130 c133 c136 = some R) ⟨_, 0, _, _, _, _, v0_0, F0_0, v0_1, F0_1, v0_2, F0_2, G16, rfl, (EqL.cons rfl (EqL.cons rfl (EqL.cons rfl (EqL.cons rfl (EqL.cons rfl (EqL.cons rfl (EqL.cons rfl (EqL.nil)))))))).eq, rfl, (.sel (.cons (.t (.t (.t (.t .h)))) (.cons (.t (.t (.t .h))) (.cons (.t (.t .h)) (.cons (.t .h) (.rd (.t .h) rfl (.rd (.t (.t .h)) rfl (.cons .h .nil)))))))), hF⟩ ?_
 clear hF
 rintro m141 _ _ ⟨g142, k143, rest144, c130, c133, c136, v131, F132, v134, F135, v137, F138, G139, rfl, rfl, hd146, hE, hF⟩
 refine K_ent hE ?_
 clear hE
 refine K_pure (c := cmov 54 2 ow54 G139 p3.1.v es15 r1.length k143 rest144) (.t (.t (.t (.t (.t (.t .h)))))) cmov_bound (fun hbd151 => ?_)
 rcases rest144 with _ | ⟨x145, rest144⟩
 · have hk147 := List.drop_eq_nil_iff.1 hd146
   have hfe150 : (decide (((k143 : Int) : Int) < (r1.length : Int))) = false := decide_eq_false (by omega)
   rw [i_Reached_told_L1] at hF
   refine K_region (C_val (V_lss (i := (k143 : Int)) (j := (r1.length : Int)) (.tmp rfl rfl) (.tmp rfl rfl)) ?_)
   refine C_nil (K_in (CW_cond (b := (decide (((k143 : Int) : Int) < (r1.length : Int)))) (.tmp rfl rfl) (fun hb => absurd (hfe150.symm.trans hb) (by decide)) (fun _ => ?_)))
   refine CW_exit ?_
   iterate 2 refine CThen_exit ?_
   refine CIn_self (K_draw [0, 1, 2, 3, 4, 5, 6, 7, 8, 9, 10, 11] [0, 1, 3, 7, 0, 16, 48, 112, 255, 511, 1023, 2047] [7, 11] mixed (by decide +kernel) ?_)
   refine Dm (.pointer (some ⟨kq0, 0, some 0⟩)) rfl rfl rfl rfl ?_
   refine D_val rfl .no (fun ha => V_nilCheck (v := (.pointer (some ⟨kq0, 0, some 0⟩))) rfl (EN ha (.tmp rfl rfl) rfl)) ?_
   refine D_val rfl .no (fun ha => V_fieldAddr (off := 3) fd46_3.h (EN ha (.tmp rfl rfl) rfl)) ?_
   refine D_atO rfl .no .h (fun ha hp => V_load (v := (.int .i64 a_r.Rounds)) ag3.h (EN ha (.tmp rfl rfl) rfl) hp.2 rfl rfl) ?_
   refine Dm p3.1.v rfl rfl rfl rfl ?_
   refine D_atO rfl .no (.t (.t (.t (.t (.t (.t .h)))))) (fun ha hp => V_lenR (l := r1.length) sl44.h (EN ha (.tmp rfl rfl) rfl) (cmov_len hp)) ?_
   refine D_val rfl .no (fun ha => V_gtr (i := (r1.length : Int)) (j := 0) (EN ha (.tmp rfl rfl) rfl) (EN ha (.int _ _) rfl)) ?_
   obtain ⟨r152, hx153, hF⟩ := bind_some hF
   refine D_act0 rfl rfl .no .nil (.dep rfl (.own .h (fun _ h => h) .nil)) (fun ha => X_callS cf127.h (.cons (EN ha (.tmp rfl rfl) rfl) .nil) (i_bit_ok (decide ((0 : Int) < (r1.length : Int))) _ hx153)) (fun _ => ?_)
   refine D_val rfl .no (fun ha => V_add (i := a_r.Rounds) (j := r152) (EN ha (.tmp rfl rfl) rfl) (EN ha (.tmp rfl rfl) rfl)) ?_
   refine D_val rfl .no (fun ha => V_nilCheck (v := (.pointer (some ⟨kq0, 0, some 0⟩))) rfl (EN ha (.tmp rfl rfl) rfl)) ?_
   refine D_val rfl .no (fun ha => V_fieldAddr (off := 3) fd46_3.h (EN ha (.tmp rfl rfl) rfl)) ?_
   refine D_act1 rfl rfl .no (.cons .h .nil) (.dep rfl (.dep rfl .nil)) (fun ha => X_storeB (e' := (.agg [v131.v, v134.v, v137.v, (.int .i64 (IntKind.i64.wrap (a_r.Rounds + r152)))].toArray)) (v := (.int .i64 (IntKind.i64.wrap (a_r.Rounds + r152)))) ty3.h.sz (EN ha (.tmp rfl rfl) rfl) (EN ha (.tmp rfl rfl) rfl) rfl rfl rfl rfl rfl) (fun _ => ?_)
   refine D_nil (K_region (Cm p3.1.v rfl rfl ?_))
   refine C_at (.t (.t (.t (.t (.t (.t .h)))))) (fun hp => V_lenR (l := r1.length) sl44.h (.tmp rfl rfl) (cmov_len hp)) ?_
   refine C_val (V_gtr (i := (r1.length : Int)) (j := 0) (.tmp rfl rfl) (.int _ _)) ?_
   refine Ca (.bool (decide ((0 : Int) < (r1.length : Int)))) rfl rfl ?_
   refine C_nil (CW_ret ?_)
   obtain rfl := Option.some.inj hF
   exact End_ret (v131, F132, v134, F135, v137, F138) (.tmp rfl rfl .nil) rfl (.sel (.cons .h (.cons .h (.cons .h (.cons .h .nil)))))
 obtain ⟨hk147, hx148, hd149⟩ := drop_cons hd146
 have hfe150 : (decide (((k143 : Int) : Int) < (r1.length : Int))) = true := decide_eq_true (by omega)
 rw [i_Reached_told_L1] at hF
 refine K_region (C_val (V_lss (i := (k143 : Int)) (j := (r1.length : Int)) (.tmp rfl rfl) (.tmp rfl rfl)) ?_)
 refine C_nil (K_in (CW_cond (b := (decide (((k143 : Int) : Int) < (r1.length : Int)))) (.tmp rfl rfl) (fun _ => ?_) (fun hb => absurd (hfe150.symm.trans hb) (by decide))))
 refine CW_skip ?_
 obtain ⟨o155, hio155, hO156⟩ := bind_some hF
 refine K_cut (fun f' cs' => ∃ (c242 : List Fact) (c245 : List Int) (c248 : List Access) (v243 : Sv) (F244 : List Nat) (v246 : Sv) (F247 : List Nat) (v249 : Sv) (F250 : List Nat) (F251 : List Nat) (g : Fr), o155 = (c242, c245, c248) ∧ f' = updL g [(0, (.pointer (some ⟨kq0, 0, some 0⟩))), (1, v1_0.v), (2, v2_0.v), (7, p3.1.v), (17, p3.1.v), (18, (.int .i64 (r1.length : Int))), (19, (.int .i64 (k143 : Int)))] ∧ Ent cs' [cbox kq0 46 (.agg [v243.v, v246.v, v249.v, (.int .i64 a_r.Rounds)].toArray), cown (OwnS 58 ow58) F244 v243.v c242, cown (OwnS 3 (roE rdInt)) F247 v246.v c245, cown (OwnS 54 ow54) F250 v249.v c248, crd (RdS 97 rd97) v1_0.v a_l, crd (RdS 58 rd58) v2_0.v a_facts, cmov 54 2 ow54 F251 p3.1.v es15 r1.length (k143 + 1) rest144]) ?_ ?_
 · replace hF := hio155
   refine CW_block (K_region (C_next1 un54 (.t (.t (.t (.t (.t (.t .h)))))) (fun p157 G158 he159 => ?_)))
   refine C_idx (R := rdVal 2) (a := (.agg [(.int .i64 x145.Method), p157.1.v].toArray)) sl44.h ty54.h.sz (.tmp rfl rfl) (.tmp rfl rfl) (.t .h) (Int.natCast_nonneg k143) (idx_hi he159) (fun k160 j161 => ?_)
   refine C_ldRA ag54.h ty54.h.sz rfl (.tmp rfl rfl) .h ?_
   refine C_new rfl (N_allocT (g := true) ty54.h rfl rfl) (fun k162 => ?_)
   refine C_x1 (.cons .h .nil) (X_storeB (e' := (.agg [(.int .i64 x145.Method), p157.1.v].toArray)) (v := (.agg [(.int .i64 x145.Method), p157.1.v].toArray)) ty54.h.sz (.tmp rfl rfl) (.tmp rfl rfl) rfl rfl rfl rfl rfl) (fun _ => ?_)
   refine C_nil (K_draw [0, 1, 2, 3, 4, 5, 6, 7, 8, 9, 10] [0, 0, 2, 6, 14, 0, 32, 126, 255, 511, 1023] [7, 10] mixed (by decide +kernel) ?_)
   iterate 2 refine Dm (.pointer (some ⟨kq0, 0, some 0⟩)) rfl rfl rfl rfl ?_
   refine D_val rfl .no (fun ha => V_nilCheck (v := (.pointer (some ⟨kq0, 0, some 0⟩))) rfl (EN ha (.tmp rfl rfl) rfl)) ?_
   refine D_val rfl .no (fun ha => V_fieldAddr (off := 2) fd46_2.h (EN ha (.tmp rfl rfl) rfl)) ?_
   refine D_atO rfl .no (.t (.t (.t (.t (.t .h))))) (fun ha hp => V_load (v := v137.v) ag44.h (EN ha (.tmp rfl rfl) rfl) hp.2 rfl rfl) ?_
   refine D_atO rfl .no .h (fun ha hp => V_loadBox ag54.h ty54.h.sz rfl (EN ha (.tmp rfl rfl) rfl) hp.2 rfl) ?_
   refine D_new rfl .no rfl (fun ha => N_buildSliceT (g := true) (len := 1) (parts := [(0, .tmp 28)]) sl44.h ty54.h (.cons (EN ha (.tmp rfl rfl) rfl) .nil) (vs := [(.agg [(.int .i64 x145.Method), p157.1.v].toArray)]) rfl rfl rfl (by intro v hv; simp at hv; rcases hv with rfl <;> rfl)) (fun k163 => ?_)
   refine D_conv (.cons .h .nil) (own_lit (Ro := roE (rdVal 2)) (E := 54) (F := ([] ++ [])) (xs := ([(.agg [(.int .i64 x145.Method), p157.1.v].toArray)] : List Value)) (MkL_cons (mk_raw (s := 2) (e := (.agg [(.int .i64 x145.Method), p157.1.v].toArray)) rfl rfl) MkL_nil apps) rfl rfl) apps ?_
   refine D_open (s := 2) (.t (.t (.t (.t (.t (.t (.t (.t (.t .h))))))))) (fun es164 F165 G166 hl167 => ?_)
   obtain ⟨z168, hx169, hF⟩ := bind_some hF
   refine D_act1 rfl rfl .no (.cons .h (.cons (.t .h) .nil)) (.dep rfl (.dep rfl (.dep rfl .nil))) (fun ha => X_appendO (Ro := roE (rdVal 2)) sl44.h ni44 ty54.h rfl rfl rfl (EN ha (.tmp rfl rfl) rfl) (EN ha (.tmp rfl rfl) rfl) (app_raw hx169 hl167) src_own) (fun p170 => ?_)
   refine D_val rfl .no (fun ha => V_nilCheck (v := (.pointer (some ⟨kq0, 0, some 0⟩))) rfl (EN ha (.tmp rfl rfl) rfl)) ?_
   refine D_val rfl .no (fun ha => V_fieldAddr (off := 2) fd46_2.h (EN ha (.tmp rfl rfl) rfl)) ?_
   refine D_act1 rfl rfl .no (.cons (.t (.t (.t (.t (.t (.t (.t .h))))))) .nil) (.dep rfl (.dep rfl (.dep rfl .nil))) (fun ha => X_storeB (e' := (.agg [v131.v, v134.v, p170.1.v, (.int .i64 a_r.Rounds)].toArray)) ty44.h.sz (EN ha (.tmp rfl rfl) rfl) (EN ha (.tmp rfl rfl) rfl) rfl rfl rfl rfl rfl) (fun _ => ?_)
   refine D_nil (K_region (Cm v1_0.v rfl rfl ?_))
   refine Cm v2_0.v rfl rfl ?_
   refine C_at (.t (.t (.t .h))) (fun hp => V_loadBox ag54.h ty54.h.sz rfl (.tmp rfl rfl) hp.2 rfl) ?_
   obtain ⟨r171, hx172, hF⟩ := bind_some hF
   refine C_x2 (.cons (.t (.t (.t (.t (.t .h))))) (.rd (.t (.t (.t (.t (.t (.t (.t (.t (.t .h))))))))) rfl (.rd (.t (.t (.t (.t (.t (.t (.t (.t (.t (.t .h)))))))))) rfl .nil))) (XC_bor frz_own (fun _ => (.cons .nil)) (XC_pre (.rd (.t .h) rfl (.rd (.t (.t .h)) rfl (.rd .h rfl .nil))) (X_callS cf72.h (.cons (.tmp rfl rfl) (.cons (.tmp rfl rfl) (.cons (.tmp rfl rfl) .nil))) (i_matches_ok a_l v1_0 a_facts v2_0 x145 p157.1 _ hx172)))) (fun p173 => ?_)
   refine C_conv (.cons (.t (.t (.t .h))) (.cons (.t (.t (.t .h))) (.cons .h .nil))) ((Cv_late mk54 hx169)) apps ?_
   refine C_at (.t .h) (fun hp => V_lenR (l := r171.length) sl28.h (.tmp rfl rfl) (cown_len hp)) ?_
   refine C_val (V_move (v := (.int .i64 0)) (.int _ _)) ?_
   refine C_nil (CW_block (K_mov (s := 2) (.t .h) (fun es183 G184 => ?_)))
   refine CW_loop (m := r171.length) (fun m218 f' cs' => ∃ (g : Fr) (k220 : Nat) (rest221 : List Fact) (c210 : List Fact) (c213 : List Int) (v211 : Sv) (F212 : List Nat) (v214 : Sv) (F215 : List Nat) (G216 : List Nat), m218 = rest221.length ∧ f' = updL g [(0, (.pointer (some ⟨kq0, 0, some 0⟩))), (1, v1_0.v), (2, v2_0.v), (7, p3.1.v), (17, p3.1.v), (18, (.int .i64 (r1.length : Int))), (19, (.int .i64 (k143 : Int))), (36, p173.1.v), (37, (.int .i64 (r171.length : Int))), (38, (.int .i64 (k220 : Int)))] ∧ List.drop k220 r171 = rest221 ∧ Ent cs' [cbox kq0 46 (.agg [v211.v, v214.v, p170.1.v, (.int .i64 a_r.Rounds)].toArray), cown (OwnS 58 ow58) F212 v211.v c210, cown (OwnS 3 (roE rdInt)) F215 v214.v c213, cown (OwnS 54 ow54) (p170.2 ++ (G166 ++ (p157.2 ++ []))) p170.1.v z168, crd (RdS 97 rd97) v1_0.v a_l, crd (RdS 58 rd58) v2_0.v a_facts, cmov 54 2 ow54 G158 p3.1.v es15 r1.length (k143 + 1) rest144, cmov 58 2 ow58 G216 p173.1.v es183 r171.length k220 rest221] ∧ i_Reached_told_L4 z168 rest221 k220 c210 c213 = some o155) ⟨_, 0, _, _, _, v131, F132, v134, F135, G184, rfl, (EqL.cons rfl (EqL.cons rfl (EqL.cons rfl (EqL.cons rfl (EqL.cons rfl (EqL.cons rfl (EqL.cons rfl (EqL.cons rfl (EqL.cons rfl (EqL.cons rfl (EqL.nil))))))))))).eq, rfl, (.sel (.cons (.t (.t .h)) (.cons (.t (.t (.t (.t (.t (.t .h)))))) (.cons (.t (.t (.t (.t (.t (.t .h)))))) (.cons (.t .h) (.rd (.t (.t (.t (.t (.t .h))))) rfl (.rd (.t (.t (.t (.t (.t (.t .h)))))) rfl (.cons (.t (.t (.t (.t .h)))) (.cons .h .nil))))))))), hF⟩ ?_
   clear hF
   rintro m218 _ _ ⟨g219, k220, rest221, c210, c213, v211, F212, v214, F215, G216, rfl, rfl, hd223, hE, hF⟩
   refine K_ent hE ?_
   clear hE
   refine K_pure (c := cmov 58 2 ow58 G216 p173.1.v es183 r171.length k220 rest221) (.t (.t (.t (.t (.t (.t (.t .h))))))) cmov_bound (fun hbd228 => ?_)
   rcases rest221 with _ | ⟨x222, rest221⟩
   · have hk224 := List.drop_eq_nil_iff.1 hd223
     have hfe227 : (decide (((k220 : Int) : Int) < (r171.length : Int))) = false := decide_eq_false (by omega)
     rw [i_Reached_told_L4] at hF
     refine K_region (C_val (V_lss (i := (k220 : Int)) (j := (r171.length : Int)) (.tmp rfl rfl) (.tmp rfl rfl)) ?_)
     refine C_nil (K_in (CW_cond (b := (decide (((k220 : Int) : Int) < (r171.length : Int)))) (.tmp rfl rfl) (fun hb => absurd (hfe227.symm.trans hb) (by decide)) (fun _ => ?_)))
     refine CW_exit ?_
     iterate 2 refine CThen_exit ?_
     refine CIn_self ?_
     obtain rfl := Option.some.inj hF
     exact ⟨_, _, _, v211, F212, v214, F215, p170.1, (p170.2 ++ (G166 ++ (p157.2 ++ []))), G158, _, rfl, (EqL.cons rfl (EqL.cons rfl (EqL.cons rfl (EqL.cons rfl (EqL.cons rfl (EqL.cons rfl (EqL.cons rfl (EqL.nil)))))))).eq, (.sel (.cons .h (.cons .h (.cons .h (.cons .h (.rd .h rfl (.rd (.t .h) rfl (.cons (.t (.t .h)) .nil))))))))⟩
   obtain ⟨hk224, hx225, hd226⟩ := drop_cons hd223
   have hfe227 : (decide (((k220 : Int) : Int) < (r171.length : Int))) = true := decide_eq_true (by omega)
   rw [i_Reached_told_L4] at hF
   refine K_region (C_val (V_lss (i := (k220 : Int)) (j := (r171.length : Int)) (.tmp rfl rfl) (.tmp rfl rfl)) ?_)
   refine C_nil (K_in (CW_cond (b := (decide (((k220 : Int) : Int) < (r171.length : Int)))) (.tmp rfl rfl) (fun _ => ?_) (fun hb => absurd (hfe227.symm.trans hb) (by decide))))
   refine CW_skip (K_block (K_region (C_next1 un58 (.t (.t (.t (.t (.t (.t (.t .h))))))) (fun p229 G230 he231 => ?_))))
   refine C_idx (R := rdVal 2) (a := (.agg [(.int .i64 x222.Rel), p229.1.v].toArray)) sl28.h ty58.h.sz (.tmp rfl rfl) (.tmp rfl rfl) (.t .h) (Int.natCast_nonneg k220) (idx_hi he231) (fun k232 j233 => ?_)
   refine C_ldRA ag58.h ty58.h.sz rfl (.tmp rfl rfl) .h ?_
   refine C_new rfl (N_allocT (g := true) ty58.h rfl rfl) (fun k234 => ?_)
   refine C_x1 (.cons .h .nil) (X_storeB (e' := (.agg [(.int .i64 x222.Rel), p229.1.v].toArray)) (v := (.agg [(.int .i64 x222.Rel), p229.1.v].toArray)) ty58.h.sz (.tmp rfl rfl) (.tmp rfl rfl) rfl rfl rfl rfl rfl) (fun _ => ?_)
   refine C_nil (K_frz (.t (.t .h)) frz_own ?_)
   refine K_draw [0, 1, 2, 3, 4, 5, 6, 7, 8, 9] [0, 0, 2, 6, 14, 0, 62, 127, 255, 511] [6, 9] mixed (by decide +kernel) ?_
   iterate 2 refine Dm (.pointer (some ⟨kq0, 0, some 0⟩)) rfl rfl rfl rfl ?_
   refine D_val rfl .no (fun ha => V_nilCheck (v := (.pointer (some ⟨kq0, 0, some 0⟩))) rfl (EN ha (.tmp rfl rfl) rfl)) ?_
   refine D_val rfl .no (fun ha => V_fieldAddr (off := 0) fd46_0.h (EN ha (.tmp rfl rfl) rfl)) ?_
   refine D_atO rfl .no (.t (.t (.t (.t (.t .h))))) (fun ha hp => V_load (v := v211.v) ag28.h (EN ha (.tmp rfl rfl) rfl) hp.2 rfl rfl) ?_
   refine D_atO rfl .no (.t .h) (fun ha hp => V_loadBox ag58.h ty58.h.sz rfl (EN ha (.tmp rfl rfl) rfl) hp.2 rfl) ?_
   obtain ⟨r235, hx236, hF⟩ := bind_some hF
   refine D_act1 rfl rfl .no (.cons (.t (.t (.t (.t (.t (.t .h)))))) (.rd .h rfl .nil)) (.dep rfl (.dep rfl .nil)) (fun ha => X_callS cf42.h (.cons (EN ha (.tmp rfl rfl) rfl) (.cons (EN ha (.tmp rfl rfl) rfl) .nil)) (i_added_ok c210 v211 F212 x222 p229.1 _ hx236)) (fun p237 => ?_)
   refine D_val rfl .no (fun ha => V_nilCheck (v := (.pointer (some ⟨kq0, 0, some 0⟩))) rfl (EN ha (.tmp rfl rfl) rfl)) ?_
   refine D_val rfl .no (fun ha => V_fieldAddr (off := 0) fd46_0.h (EN ha (.tmp rfl rfl) rfl)) ?_
   refine D_act1 rfl rfl .no (.cons (.t (.t (.t (.t (.t (.t .h)))))) .nil) (.dep rfl (.dep rfl .nil)) (fun ha => X_storeB (e' := (.agg [p237.1.v, v214.v, p170.1.v, (.int .i64 a_r.Rounds)].toArray)) ty28.h.sz (EN ha (.tmp rfl rfl) rfl) (EN ha (.tmp rfl rfl) rfl) rfl rfl rfl rfl rfl) (fun _ => ?_)
   refine D_nil (CW_draw [0, 1, 2, 3, 4, 5, 6, 7, 8, 9, 10] [0, 0, 2, 6, 14, 0, 32, 126, 255, 511, 1023] [7, 10] mixed (by decide +kernel) ?_)
   iterate 2 refine Dm (.pointer (some ⟨kq0, 0, some 0⟩)) rfl rfl rfl rfl ?_
   refine D_val rfl .no (fun ha => V_nilCheck (v := (.pointer (some ⟨kq0, 0, some 0⟩))) rfl (EN ha (.tmp rfl rfl) rfl)) ?_
   refine D_val rfl .no (fun ha => V_fieldAddr (off := 1) fd46_1.h (EN ha (.tmp rfl rfl) rfl)) ?_
   refine D_atO rfl .no .h (fun ha hp => V_load (v := v214.v) ag24.h (EN ha (.tmp rfl rfl) rfl) hp.2 rfl rfl) ?_
   refine D_val rfl .no (fun ha => V_fieldAddr (off := 1) fd58_1.h (EN ha (.tmp rfl rfl) rfl)) ?_
   refine D_atO rfl .no (.t (.t (.t .h))) (fun ha hp => V_load (v := p229.1.v) ag24.h (EN ha (.tmp rfl rfl) rfl) hp.2 rfl rfl) ?_
   obtain ⟨r238, hx239, hF⟩ := bind_some hF
   refine D_act2 rfl rfl .no (.cons (.t (.t (.t (.t (.t (.t (.t .h))))))) (.rd (.t (.t .h)) rfl .nil)) (.dep rfl (.dep rfl .nil)) (fun ha => XC_bor frz_own (fun _ => (.cons .nil)) (X_callS cf88.h (.cons (EN ha (.tmp rfl rfl) rfl) (.cons (EN ha (.tmp rfl rfl) rfl) .nil)) (i_withValues_ok c213 v214 x222.Values p229.1 _ hx239))) (fun p240 => ?_)
   refine D_val rfl .no (fun ha => V_nilCheck (v := (.pointer (some ⟨kq0, 0, some 0⟩))) rfl (EN ha (.tmp rfl rfl) rfl)) ?_
   refine D_val rfl .no (fun ha => V_fieldAddr (off := 1) fd46_1.h (EN ha (.tmp rfl rfl) rfl)) ?_
   refine D_act1 rfl rfl .no (.cons (.t (.t .h)) .nil) (.dep rfl (.dep rfl .nil)) (fun ha => X_storeB (e' := (.agg [p237.1.v, p240.1.v, p170.1.v, (.int .i64 a_r.Rounds)].toArray)) ty24.h.sz (EN ha (.tmp rfl rfl) rfl) (EN ha (.tmp rfl rfl) rfl) rfl rfl rfl rfl rfl) (fun _ => ?_)
   refine D_nil (CW_region (C_val (V_add (i := (k220 : Int)) (j := 1) (.tmp rfl rfl) (.int _ _)) ?_))
   refine Cm (.int .i64 (IntKind.i64.wrap ((k220 : Int) + 1))) rfl rfl ?_
   refine C_nil ?_
   have hw241 : IntKind.i64.wrap ((k220 : Int) + 1) = ((k220 + 1 : Nat) : Int) := by rw [wrap_in (by omega) (by omega)]; rfl
   rw [hw241]
   exact ⟨_, Nat.lt_succ_self _, _, k220 + 1, rest221, _, _, p237.1, p237.2, p240.1, p240.2, G230, rfl, (EqL.cons rfl (EqL.cons rfl (EqL.cons rfl (EqL.cons rfl (EqL.cons rfl (EqL.cons rfl (EqL.cons rfl (EqL.cons rfl (EqL.cons rfl (EqL.cons rfl (EqL.nil))))))))))).eq, hd226, (.sel (.cons .h (.cons (.t (.t .h)) (.cons (.t .h) (.cons (.t (.t (.t (.t (.t (.t .h)))))) (.rd (.t (.t (.t (.t (.t (.t .h)))))) rfl (.rd (.t (.t (.t (.t (.t (.t (.t .h))))))) rfl (.cons (.t (.t (.t (.t (.t (.t (.t (.t .h)))))))) (.cons (.t (.t (.t (.t (.t .h))))) .nil))))))))), hF⟩
 rintro _ _ ⟨c242, c245, c248, v243, F244, v246, F247, v249, F250, F251, g253, rfl, rfl, hE⟩
 replace hF := hO156
 clear hO156
 try dsimp only at hF
 refine K_ent hE ?_
 refine CW_region (C_val (V_add (i := (k143 : Int)) (j := 1) (.tmp rfl rfl) (.int _ _)) ?_)
 refine Cm (.int .i64 (IntKind.i64.wrap ((k143 : Int) + 1))) rfl rfl ?_
 refine C_nil ?_
 have hw252 : IntKind.i64.wrap ((k143 : Int) + 1) = ((k143 + 1 : Nat) : Int) := by rw [wrap_in (by omega) (by omega)]; rfl
 rw [hw252]
 exact ⟨_, Nat.lt_succ_self _, _, k143 + 1, rest144, _, _, _, v243, F244, v246, F247, v249, F250, F251, rfl, (EqL.cons rfl (EqL.cons rfl (EqL.cons rfl (EqL.cons rfl (EqL.cons rfl (EqL.cons rfl (EqL.cons rfl (EqL.nil)))))))).eq, hd149, (.sel (.cons .h (.cons .h (.cons .h (.cons .h (.rd .h rfl (.rd (.t .h) rfl (.cons (.t (.t .h)) .nil)))))))), hF⟩
def i_reach_L1 (a_l : List Method) (a_facts : List Fact) : Nat → (List Fact) → (List Int) → (List Access) → Int → Int → Option (Reached)
 | 0, _, _, _, _, _ => none
 | m29 + 1, c18, c21, c24, c27, c28 => if (decide ((c28 : Int) < 40)) then (
     (i_Reached_told ({ Facts := c18, Values := c21, Log := c24, Rounds := c27 } : Reached) a_l a_facts).bind fun r37 =>
     if (!r37.1) then (
       some r37.2)
     else (
       i_reach_L1 a_l a_facts m29 r37.2.Facts r37.2.Values r37.2.Log r37.2.Rounds (IntKind.i64.wrap (c28 + 1))))
   else (
     some ({ Facts := c18, Values := c21, Log := c24, Rounds := c27 } : Reached))
def i_reach (a_l : List Method) (a_facts : List Fact) (a_seeds : List Int) : Option (Reached) :=
 (i_StartReach a_seeds).bind fun r2 =>
 i_reach_L1 a_l a_facts (((40 : Int) - 0).toNat + 2) r2.Facts r2.Values r2.Log r2.Rounds 0
theorem i_reach_ok (a_l : List Method) (v0_0 : Sv) (a_facts : List Fact) (v1_0 : Sv) (a_seeds : List Int) (v2_0 : Sv) (R : Reached) (hF : i_reach a_l a_facts a_seeds = some R) :
   Fw.Spec Tryz.prog 65 [v0_0.v, v1_0.v, v2_0.v] [crd (RdS 97 rd97) v0_0.v a_l, crd (RdS 58 rd58) v1_0.v a_facts, crd (RdS 3 rdInt) v2_0.v a_seeds] (fun p : Sv × List Nat × Sv × List Nat × Sv × List Nat => (.agg [p.1.v, p.2.2.1.v, p.2.2.2.2.1.v, (.int .i64 R.Rounds)].toArray)) (fun p => [cown (OwnS 58 ow58) p.2.1 p.1.v R.Facts, cown (OwnS 3 (roE rdInt)) p.2.2.2.1 p.2.2.1.v R.Values, cown (OwnS 54 ow54) p.2.2.2.2.2 p.2.2.2.2.1.v R.Log]) := by
 refine Se 18 Tryz.func65 [.cell 6 46] ?_
 intro H0 F0
 unfold i_reach at hF
 refine au ?_
 refine AnW (fun k1 => ?_)
 iterate 3 refine au ?_
 refine bnd hF fun r2 hx3 hF => Cx3 (i_StartReach_ok _ _ _ hx3) (fun p4 => ?_)
 refine AnW (fun k5 => ?_)
 refine As (.agg [p4.1.v, p4.2.2.1.v, p4.2.2.2.2.1.v, (.int .i64 r2.Rounds)].toArray) ?_
 iterate 5 refine au ?_
 refine CW_block (CW_loop (m := (((40 : Int) - 0).toNat + 2)) (fun m29 f' cs' => ∃ (g : Fr) (c18 : List Fact) (c21 : List Int) (c24 : List Access) (c27 : Int) (c28 : Int) (v19 : Sv) (F20 : List Nat) (v22 : Sv) (F23 : List Nat) (v25 : Sv) (F26 : List Nat), f' = updL g [(0, v0_0.v), (1, v1_0.v), (6, (pz k1)), (7, (pz k5)), (10, (.int .i64 c28))] ∧ Ent cs' [crd (RdS 97 rd97) v0_0.v a_l, crd (RdS 58 rd58) v1_0.v a_facts, cbox k1 46 (.agg [(.slice none 0 0), (.slice none 0 0), (.slice none 0 0), (.int .i64 0)].toArray), cbox k5 46 (.agg [v19.v, v22.v, v25.v, (.int .i64 c27)].toArray), cown (OwnS 58 ow58) F20 v19.v c18, cown (OwnS 3 (roE rdInt)) F23 v22.v c21, cown (OwnS 54 ow54) F26 v25.v c24] ∧ i_reach_L1 a_l a_facts m29 c18 c21 c24 c27 c28 = some R) ⟨_, _, _, _, _, _, p4.1, p4.2.1, p4.2.2.1, p4.2.2.2.1, p4.2.2.2.2.1, p4.2.2.2.2.2, eqA, entA, hF⟩ ?_)
 rintro m29 _ _ ⟨g30, c18, c21, c24, c27, c28, v19, F20, v22, F23, v25, F26, rfl, hE, hF⟩
 refine K_ent hE ?_
 rcases m29 with _ | m29
 · rw [i_reach_L1] at hF
   exact absurd hF (by simp)
 rw [i_reach_L1] at hF
 iterate 4 refine au ?_
 refine Ci hF (fun hb41 hF => ?_) (fun hb41 hF => ?_)
 · iterate 5 refine au ?_
   refine bnd hF fun r37 hx38 hF => Cx4 (i_Reached_told_ok _ _ _ _ _ _ _ _ _ _ _ _ _ hx38) (fun p39 => ?_)
   iterate 2 refine au ?_
   refine Ci hF (fun hb40 hF => ?_) (fun hb40 hF => ?_)
   · refine au ?_
     refine CIn_ne rfl ?_
     iterate 5 refine au ?_
     refine As (.agg [p39.1.v, p39.2.2.1.v, p39.2.2.2.2.1.v, (.int .i64 r37.2.Rounds)].toArray) ?_
     iterate 2 refine au ?_
     cases hF
     exact Er (p39.1, p39.2.1, p39.2.2.1, p39.2.2.2.1, p39.2.2.2.2.1, p39.2.2.2.2.2)
   iterate 5 refine au ?_
   exact ⟨m29, Nat.lt_succ_self _, _, _, _, _, _, _, p39.1, p39.2.1, p39.2.2.1, p39.2.2.2.1, p39.2.2.2.2.1, p39.2.2.2.2.2, eqA, entA, hF⟩
 iterate 6 refine au ?_
 refine As (.agg [v19.v, v22.v, v25.v, (.int .i64 c27)].toArray) ?_
 iterate 2 refine au ?_
 cases hF
 exact Er (v19, F20, v22, F23, v25, F26)
def i_ReachAll (a_s : List Int) (a_l : List Method) (a_facts : List Fact) (a_seeds : List Int) : Option (Reached) :=
 ((i_AreMethods a_s a_l).bind fun r4 =>
   bif (!r4) then (some true)
   else ((i_AreFacts a_s a_facts).bind fun r8 =>
     some (!r8))).bind fun o2 =>
 match o2 with
 | c11 => if c11 then (
     (i_StartReach a_seeds).bind fun r12 =>
     some r12)
   else (
     (i_reach a_l a_facts a_seeds).bind fun r15 =>
     some r15)
theorem i_ReachAll_ok (a_s : List Int) (v0_0 : Sv) (a_l : List Method) (v1_0 : Sv) (a_facts : List Fact) (v2_0 : Sv) (a_seeds : List Int) (v3_0 : Sv) (R : Reached) (hF : i_ReachAll a_s a_l a_facts a_seeds = some R) :
   Fw.Spec Tryz.prog 20 [v0_0.v, v1_0.v, v2_0.v, v3_0.v] [crd (RdS 3 rdInt) v0_0.v a_s, crd (RdS 97 rd97) v1_0.v a_l, crd (RdS 58 rd58) v2_0.v a_facts, crd (RdS 3 rdInt) v3_0.v a_seeds] (fun p : Sv × List Nat × Sv × List Nat × Sv × List Nat => (.agg [p.1.v, p.2.2.1.v, p.2.2.2.2.1.v, (.int .i64 R.Rounds)].toArray)) (fun p => [cown (OwnS 58 ow58) p.2.1 p.1.v R.Facts, cown (OwnS 3 (roE rdInt)) p.2.2.2.1 p.2.2.1.v R.Values, cown (OwnS 54 ow54) p.2.2.2.2.2 p.2.2.2.2.1.v R.Log]) := by
 refine Se 25 Tryz.func20 [.cell 8 46] ?_
 intro H0 F0
 unfold i_ReachAll at hF
 refine au ?_
 refine AnW (fun k1 => ?_)
 iterate 2 refine au ?_
 obtain ⟨o2, hio2, hO3⟩ := bind_some hF
 refine au ?_
 refine C_cut (fun f' cs' => ∃ (c11 : Bool) (g : Fr), c11 = o2 ∧ f' = updL g [(1, v1_0.v), (2, v2_0.v), (3, v3_0.v), (8, (pz k1)), (18, (.bool c11))] ∧ Ent cs' [crd (RdS 97 rd97) v1_0.v a_l, crd (RdS 58 rd58) v2_0.v a_facts, crd (RdS 3 rdInt) v3_0.v a_seeds, cbox k1 46 (.agg [(.slice none 0 0), (.slice none 0 0), (.slice none 0 0), (.int .i64 0)].toArray)]) ?_ ?_
 · replace hF := hio2
   iterate 2 refine au ?_
   refine bnd hF fun r4 hx5 hF => Cx0 (i_AreMethods_ok _ _ _ _ _ hx5) (fun _ => ?_)
   iterate 2 refine au ?_
   rcases Bool.eq_false_or_eq_true (!r4) with hg7 | hg7
   · rw [hg7]
     try rw [hg7] at hF; dsimp only [cond_true, cond_false] at hF
     iterate 6 refine au ?_
     cases hF
     exact ⟨_, _, rfl, eqA, entA⟩
   rw [hg7]
   try rw [hg7] at hF; dsimp only [cond_true, cond_false] at hF
   iterate 5 refine au ?_
   refine bnd hF fun r8 hx9 hF => Cx0 (i_AreFacts_ok _ _ _ _ _ hx9) (fun _ => ?_)
   iterate 4 refine au ?_
   cases hF
   exact ⟨_, _, rfl, eqA, entA⟩
 rintro _ _ ⟨c11, g19, rfl, rfl, hE⟩
 replace hF := hO3
 try dsimp only at hF
 refine K_ent hE ?_
 refine Ci hF (fun hb18 hF => ?_) (fun hb18 hF => ?_)
 · iterate 2 refine au ?_
   refine bnd hF fun r12 hx13 hF => Cx3 (i_StartReach_ok _ _ _ hx13) (fun p14 => ?_)
   refine As (.agg [p14.1.v, p14.2.2.1.v, p14.2.2.2.2.1.v, (.int .i64 r12.Rounds)].toArray) ?_
   iterate 2 refine au ?_
   cases hF
   exact Er (p14.1, p14.2.1, p14.2.2.1, p14.2.2.2.1, p14.2.2.2.2.1, p14.2.2.2.2.2)
 iterate 5 refine au ?_
 refine bnd hF fun r15 hx16 hF => Cx3 (i_reach_ok _ _ _ _ _ _ _ hx16) (fun p17 => ?_)
 refine As (.agg [p17.1.v, p17.2.2.1.v, p17.2.2.2.2.1.v, (.int .i64 r15.Rounds)].toArray) ?_
 iterate 2 refine au ?_
 cases hF
 exact Er (p17.1, p17.2.1, p17.2.2.1, p17.2.2.2.1, p17.2.2.2.2.1, p17.2.2.2.2.2)
def s_l2Has_L1 (a_x : Int) : List Int → Nat → Option (Bool)
 | [], k4 => some false
 | x6 :: rest5, k4 => if ((x6 : Int) == a_x) then (
     some true)
   else (
     s_l2Has_L1 a_x rest5 (k4 + 1))
def s_l2Has (a_l : List Int) (a_x : Int) : Option (Bool) :=
 s_l2Has_L1 a_x a_l 0
theorem s_l2Has_ok (a_l : List Int) (v0_0 : Sv) (a_x : Int) (R : Bool) (hF : s_l2Has a_l a_x = some R) :
   Fw.Spec Tryz.prog 54 [v0_0.v, (.int .i64 a_x)] [crd (RdS 3 rdInt) v0_0.v a_l] (fun _ : Unit => (.bool R)) (fun _ => []) := by
 refine Se 18 Tryz.func54 [.tmp 4] ?_
 intro H0 F0
 unfold s_l2Has at hF
 iterate 7 refine au ?_
 refine CW_block (CW_loop (m := a_l.length) (fun m2 f' cs' => ∃ (g : Fr) (k4 : Nat) (rest5 : List Int), m2 = rest5.length ∧ f' = updL g [(0, v0_0.v), (1, (.int .i64 a_x)), (5, (.int .i64 (k4 : Int)))] ∧ List.drop k4 a_l = rest5 ∧ Ent cs' [crd (RdS 3 rdInt) v0_0.v a_l] ∧ s_l2Has_L1 a_x rest5 k4 = some R) ⟨_, 0, _, rfl, eqA, rfl, entA, hF⟩ ?_)
 rintro m2 _ _ ⟨g3, k4, rest5, rfl, rfl, hd7, hE, hF⟩
 refine Kb hE a_l (fun hbd12 => ?_)
 rcases rest5 with _ | ⟨x6, rest5⟩
 · have hk8 := dn hd7
   rw [s_l2Has_L1] at hF
   iterate 7 refine au ?_
   refine CdF ?_
   iterate 8 refine au ?_
   cases hF
   exact Er ()
 obtain ⟨hk8, hx9, hd10⟩ := drop_cons hd7
 rw [s_l2Has_L1] at hF
 iterate 7 refine au ?_
 refine CdT ?_
 iterate 5 refine au ?_
 refine Ai hx9 (fun k13 j14 => ?_)
 refine Al ls3_0 ?_
 iterate 3 refine au ?_
 refine Ci hF (fun hb16 hF => ?_) (fun hb16 hF => ?_)
 · iterate 4 refine au ?_
   cases hF
   exact Er ()
 iterate 6 refine au ?_
 rw [wk k4]
 exact ⟨_, Nat.lt_succ_self _, _, k4 + 1, rest5, rfl, eqA, hd10, entA, hF⟩
def s_l3Put_L1 (a_l : List Int) (a_x : Int) : Nat → (List Int) → Bool → Int → Option ((List Int))
 | 0, _, _, _ => none
 | m10 + 1, c5, c8, c9 => if (decide ((c9 : Int) < (a_l.length : Int))) then (
     ((bif (!c8) then ((ix a_l c9).bind fun x26 =>
           some (decide ((a_x : Int) < x26)))
         else (some false)).bind fun o20 =>
       match o20 with
       | c30 => if c30 then (
           (app c5 ([a_x] : List Int)).bind fun z32 =>
           (ix a_l c9).bind fun x38 =>
           (app z32 ([x38] : List Int)).bind fun z43 =>
           some (z43, true))
         else (
           (ix a_l c9).bind fun x49 =>
           (app c5 ([x49] : List Int)).bind fun z54 =>
           some (z54, c8))).bind fun o18 =>
     match o18 with
     | (c59, c62) => s_l3Put_L1 a_l a_x m10 c59 c62 (IntKind.i64.wrap (c9 + 1)))
   else (
     if (!c8) then (
       (app c5 ([a_x] : List Int)).bind fun z65 =>
       some z65)
     else (
       some c5))
def s_l3Put (a_l : List Int) (a_x : Int) : Option ((List Int)) :=
 (s_l2Has a_l a_x).bind fun r1 =>
 if r1 then (
   some a_l)
 else (
   s_l3Put_L1 a_l a_x (((a_l.length : Int) - 0).toNat + 2) ([] : List Int) false 0)
theorem s_l3Put_ok (a_l : List Int) (v0_0 : Sv) (F0_0 : List Nat) (a_x : Int) (R : (List Int)) (hF : s_l3Put a_l a_x = some R) :
   Fw.Spec Tryz.prog 89 [v0_0.v, (.int .i64 a_x)] [cown (OwnS 3 (roE rdInt)) F0_0 v0_0.v a_l] (fun p : Sv × List Nat => p.1.v) (fun p => [cown (OwnS 3 (roE rdInt)) p.2 p.1.v R]) := by
 refine Se 47 Tryz.func89 [.tmp 4] ?_
 intro H0 F0
 unfold s_l3Put at hF
 iterate 7 refine au ?_
 refine bnd hF fun r1 hx2 hF => C_x1 (.cons .h .nil) (XC_bor frz_own (fun _ => .nil) (X_callS cf54.h (.cons (.tmp rfl rfl) (.cons (.tmp rfl rfl) .nil)) (s_l2Has_ok a_l v0_0 a_x _ hx2))) (fun _ => ?_)
 refine au ?_
 refine Ci hF (fun hb70 hF => ?_) (fun hb70 hF => ?_)
 · iterate 5 refine au ?_
   cases hF
   exact Er (v0_0, F0_0)
 iterate 2 refine au ?_
 refine C_new rfl (N_buildSliceT (g := true) sl24.h ty3.h .nil (vs := []) rfl rfl rfl (by simp)) (fun k4 => ?_)
 refine Cv1 (.cons .h .nil) (own_lit (Ro := (roE rdInt)) (E := 3) (F := []) (xs := ([] : List Int)) MkL_nil rfl rfl) ?_
 iterate 9 refine au ?_
 refine CW_block (CW_loop (m := (((a_l.length : Int) - 0).toNat + 2)) (fun m10 f' cs' => ∃ (g : Fr) (c5 : List Int) (c8 : Bool) (c9 : Int) (v6 : Sv) (F7 : List Nat), f' = updL g [(0, v0_0.v), (1, (.int .i64 a_x)), (5, v6.v), (6, (.bool c8)), (7, (.int .i64 c9))] ∧ Ent cs' [cown (OwnS 3 (roE rdInt)) F0_0 v0_0.v a_l, cown (OwnS 3 (roE rdInt)) F7 v6.v c5] ∧ s_l3Put_L1 a_l a_x m10 c5 c8 c9 = some R) ⟨_, _, _, _, ⟨(some ⟨k4, 0, none⟩), 0, 1⟩, (k4 :: []), eqA, entA, hF⟩ ?_)
 rintro m10 _ _ ⟨g11, c5, c8, c9, v6, F7, rfl, hE, hF⟩
 refine K_ent hE ?_
 rcases m10 with _ | m10
 · rw [s_l3Put_L1] at hF
   exact absurd hF (by simp)
 rw [s_l3Put_L1] at hF
 iterate 7 refine au ?_
 refine Ci hF (fun hb69 hF => ?_) (fun hb69 hF => ?_)
 · refine au ?_
   obtain ⟨o18, hio18, hO19⟩ := bind_some hF
   refine K_cut (fun f' cs' => ∃ (c59 : List Int) (c62 : Bool) (v60 : Sv) (F61 : List Nat) (g : Fr), o18 = (c59, c62) ∧ f' = updL g [(0, v0_0.v), (1, (.int .i64 a_x)), (5, v60.v), (6, (.bool c62)), (7, (.int .i64 c9))] ∧ Ent cs' [cown (OwnS 3 (roE rdInt)) F0_0 v0_0.v a_l, cown (OwnS 3 (roE rdInt)) F61 v60.v c59]) ?_ ?_
   · replace hF := hio18
     refine CW_block (K_in ?_)
     obtain ⟨o20, hio20, hO21⟩ := bind_some hF
     refine au ?_
     refine C_cut (fun f' cs' => ∃ (c30 : Bool) (g : Fr), c30 = o20 ∧ f' = updL g [(0, v0_0.v), (1, (.int .i64 a_x)), (5, v6.v), (6, (.bool c8)), (7, (.int .i64 c9)), (28, (.bool c30))] ∧ Ent cs' [cown (OwnS 3 (roE rdInt)) F0_0 v0_0.v a_l, cown (OwnS 3 (roE rdInt)) F7 v6.v c5]) ?_ ?_
     · replace hF := hio20
       iterate 3 refine au ?_
       rcases Bool.eq_false_or_eq_true (!c8) with hg22 | hg22
       · rw [hg22]
         try rw [hg22] at hF; dsimp only [cond_true, cond_false] at hF
         iterate 5 refine au ?_
         refine bnd hF fun x26 hx27 hF => ?_
         have hi25 := ix_chk hx27
         obtain ⟨hp28, hx29⟩ := ix_some hx27
         refine C_idxO sl24.h ty3.h.sz (.tmp rfl rfl) (.tmp rfl rfl) .h hi25 (fun k23 hk24 => ?_)
         refine au ?_
         refine C_ldO (w := (.int .i64 x26)) ag3.h (.tmp rfl rfl) .h hk24 hx29 lo3_0 ?_
         iterate 6 refine au ?_
         cases hF
         exact ⟨_, _, rfl, eqA, entA⟩
       rw [hg22]
       try rw [hg22] at hF; dsimp only [cond_true, cond_false] at hF
       iterate 8 refine au ?_
       cases hF
       exact ⟨_, _, rfl, eqA, entA⟩
     rintro _ _ ⟨c30, g58, rfl, rfl, hE⟩
     replace hF := hO21
     try dsimp only at hF
     refine K_ent hE ?_
     refine Ci hF (fun hb57 hF => ?_) (fun hb57 hF => ?_)
     · iterate 3 refine au ?_
       refine C_new rfl (N_buildSliceT (g := true) sl24.h ty3.h (.cons (.tmp rfl rfl) .nil) (vs := [(.int .i64 a_x)]) rfl rfl rfl (by intro v hv; simp at hv; rcases hv with rfl <;> rfl)) (fun k31 => ?_)
       refine Cv1 (.cons .h .nil) (own_lit (Ro := (roE rdInt)) (E := 3) (F := ([] ++ [])) (xs := ([a_x] : List Int)) (MkL_cons (Mk_pure (fun _ => rfl)) MkL_nil apps) rfl rfl) ?_
       refine bnd hF fun z32 hx33 hF => C_x1 (.cons (.t (.t .h)) (.cons .h .nil)) (X_appendO (Ro := (roE rdInt)) sl24.h ni24 ty3.h rfl rfl rfl (.tmp rfl rfl) (.tmp rfl rfl) hx33 src_own) (fun p34 => ?_)
       iterate 9 refine au ?_
       refine bnd hF fun x38 hx39 hF => ?_
       have hi37 := ix_chk hx39
       obtain ⟨hp40, hx41⟩ := ix_some hx39
       refine C_idxO sl24.h ty3.h.sz (.tmp rfl rfl) (.tmp rfl rfl) (.t .h) hi37 (fun k35 hk36 => ?_)
       refine C_ldO (w := (.int .i64 x38)) ag3.h (.tmp rfl rfl) (.t .h) hk36 hx41 lo3_0 ?_
       refine C_new rfl (N_buildSliceT (g := true) sl24.h ty3.h (.cons (.tmp rfl rfl) .nil) (vs := [(.int .i64 x38)]) rfl rfl rfl (by intro v hv; simp at hv; rcases hv with rfl <;> rfl)) (fun k42 => ?_)
       refine Cv1 (.cons .h .nil) (own_lit (Ro := (roE rdInt)) (E := 3) (F := ([] ++ [])) (xs := ([x38] : List Int)) (MkL_cons (Mk_pure (fun _ => rfl)) MkL_nil apps) rfl rfl) ?_
       refine bnd hF fun z43 hx44 hF => C_x1 (.cons (.t .h) (.cons .h .nil)) (X_appendO (Ro := (roE rdInt)) sl24.h ni24 ty3.h rfl rfl rfl (.tmp rfl rfl) (.tmp rfl rfl) hx44 src_own) (fun p45 => ?_)
       iterate 2 refine au ?_
       cases hF
       exact ⟨_, _, p45.1, p45.2, _, rfl, eqA, entA⟩
     iterate 5 refine au ?_
     refine bnd hF fun x49 hx50 hF => ?_
     have hi48 := ix_chk hx50
     obtain ⟨hp51, hx52⟩ := ix_some hx50
     refine C_idxO sl24.h ty3.h.sz (.tmp rfl rfl) (.tmp rfl rfl) .h hi48 (fun k46 hk47 => ?_)
     refine C_ldO (w := (.int .i64 x49)) ag3.h (.tmp rfl rfl) .h hk47 hx52 lo3_0 ?_
     refine C_new rfl (N_buildSliceT (g := true) sl24.h ty3.h (.cons (.tmp rfl rfl) .nil) (vs := [(.int .i64 x49)]) rfl rfl rfl (by intro v hv; simp at hv; rcases hv with rfl <;> rfl)) (fun k53 => ?_)
     refine Cv1 (.cons .h .nil) (own_lit (Ro := (roE rdInt)) (E := 3) (F := ([] ++ [])) (xs := ([x49] : List Int)) (MkL_cons (Mk_pure (fun _ => rfl)) MkL_nil apps) rfl rfl) ?_
     refine bnd hF fun z54 hx55 hF => C_x1 (.cons (.t (.t .h)) (.cons .h .nil)) (X_appendO (Ro := (roE rdInt)) sl24.h ni24 ty3.h rfl rfl rfl (.tmp rfl rfl) (.tmp rfl rfl) hx55 src_own) (fun p56 => ?_)
     iterate 2 refine au ?_
     cases hF
     exact ⟨_, _, p56.1, p56.2, _, rfl, eqA, entA⟩
   rintro _ _ ⟨c59, c62, v60, F61, g63, rfl, rfl, hE⟩
   replace hF := hO19
   try dsimp only at hF
   refine K_ent hE ?_
   iterate 5 refine au ?_
   exact ⟨m10, Nat.lt_succ_self _, _, _, _, _, v60, F61, eqA, entA, hF⟩
 iterate 9 refine au ?_
 refine Ci hF (fun hb68 hF => ?_) (fun hb68 hF => ?_)
 · iterate 3 refine au ?_
   refine C_new rfl (N_buildSliceT (g := true) sl24.h ty3.h (.cons (.tmp rfl rfl) .nil) (vs := [(.int .i64 a_x)]) rfl rfl rfl (by intro v hv; simp at hv; rcases hv with rfl <;> rfl)) (fun k64 => ?_)
   refine Cv1 (.cons .h .nil) (own_lit (Ro := (roE rdInt)) (E := 3) (F := ([] ++ [])) (xs := ([a_x] : List Int)) (MkL_cons (Mk_pure (fun _ => rfl)) MkL_nil apps) rfl rfl) ?_
   refine bnd hF fun z65 hx66 hF => C_x1 (.cons (.t (.t .h)) (.cons .h .nil)) (X_appendO (Ro := (roE rdInt)) sl24.h ni24 ty3.h rfl rfl rfl (.tmp rfl rfl) (.tmp rfl rfl) hx66 src_own) (fun p67 => ?_)
   iterate 7 refine au ?_
   cases hF
   exact Er (p67.1, p67.2)
 iterate 6 refine au ?_
 cases hF
 exact Er (v6, F7)
def s_StartReach_L1 : List Int → Nat → (List Int) → Option (Reached)
 | [], k37, c31 => some ({ Facts := [], Values := c31, Log := [], Rounds := 0 } : Reached)
 | x39 :: rest38, k37, c31 => ((s_l1In x39 0 9).bind fun r50 =>
     if r50 then (
       (s_l3Put c31 x39).bind fun r55 =>
       some r55)
     else (
       some c31)).bind fun o46 =>
   match o46 with
   | c59 => s_StartReach_L1 rest38 (k37 + 1) c59
def s_StartReach (a_seeds : List Int) : Option (Reached) :=
 s_StartReach_L1 a_seeds 0 ([] : List Int)
theorem s_StartReach_ok (a_seeds : List Int) (v0_0 : Sv) (R : Reached) (hF : s_StartReach a_seeds = some R) :
   Fw.Spec Tryz.prog 39 [v0_0.v] [crd (RdS 3 rdInt) v0_0.v a_seeds] (fun p : Sv × List Nat × Sv × List Nat × Sv × List Nat => (.agg [p.1.v, p.2.2.1.v, p.2.2.2.2.1.v, (.int .i64 R.Rounds)].toArray)) (fun p => [cown (OwnS 58 ow58) p.2.1 p.1.v R.Facts, cown (OwnS 3 (roE rdInt)) p.2.2.2.1 p.2.2.1.v R.Values, cown (OwnS 54 ow54) p.2.2.2.2.2 p.2.2.2.2.1.v R.Log]) := by
 refine Se 26 Tryz.func39 [.cell 2 46] ?_
 intro H0 F0
 unfold s_StartReach at hF
 refine au ?_
 refine AnW (fun k1 => ?_)
 iterate 2 refine au ?_
 refine C_val (V_build ty46.h rfl (vs := []) .nil (cells := [(.slice none 0 0), (.slice none 0 0), (.slice none 0 0), (.int .i64 0)]) rfl) ?_
 refine AnW (fun k2 => ?_)
 refine As (.agg [(.slice none 0 0), (.slice none 0 0), (.slice none 0 0), (.int .i64 0)].toArray) ?_
 iterate 5 refine au ?_
 refine CW_block (CW_loop (m := a_seeds.length) (fun m35 f' cs' => ∃ (g : Fr) (k37 : Nat) (rest38 : List Int) (c31 : List Int) (v32 : Sv) (F33 : List Nat), m35 = rest38.length ∧ f' = updL g [(0, v0_0.v), (2, (pz k1)), (3, (pz k2)), (4, (.int .i64 (k37 : Int)))] ∧ List.drop k37 a_seeds = rest38 ∧ Ent cs' [crd (RdS 3 rdInt) v0_0.v a_seeds, cbox k1 46 (.agg [(.slice none 0 0), (.slice none 0 0), (.slice none 0 0), (.int .i64 0)].toArray), cbox k2 46 (.agg [(.slice none 0 0), v32.v, (.slice none 0 0), (.int .i64 0)].toArray), cown (OwnS 3 (roE rdInt)) F33 v32.v c31] ∧ s_StartReach_L1 rest38 k37 c31 = some R) ⟨_, 0, _, _, ⟨none, 0, 0⟩, [], rfl, eqA, rfl, (.conv .nil (own_nil (Ro := (roE rdInt)) (E := 3)) (.cons .nil) entA), hF⟩ ?_)
 rintro m35 _ _ ⟨g36, k37, rest38, c31, v32, F33, rfl, rfl, hd40, hE, hF⟩
 refine Kb hE a_seeds (fun hbd45 => ?_)
 rcases rest38 with _ | ⟨x39, rest38⟩
 · have hk41 := dn hd40
   rw [s_StartReach_L1] at hF
   iterate 7 refine au ?_
   refine CdF ?_
   iterate 6 refine au ?_
   refine As (.agg [(.slice none 0 0), v32.v, (.slice none 0 0), (.int .i64 0)].toArray) ?_
   iterate 2 refine au ?_
   cases hF
   exact End_ret (⟨none, 0, 0⟩, [], v32, F33, ⟨none, 0, 0⟩, []) (.cellA rfl rfl .h rfl ag46.h ty46.h.sz rfl rfl .nil) rfl (.conv .nil (own_nil (Ro := ow58) (E := 58)) (.cons .nil) (.conv .nil (own_nil (Ro := ow54) (E := 54)) (.cons .nil) (.sel (.cons (.t .h) (.cons (.t (.t (.t (.t .h)))) (.cons .h .nil))))))
 obtain ⟨hk41, hx42, hd43⟩ := drop_cons hd40
 rw [s_StartReach_L1] at hF
 iterate 7 refine au ?_
 refine CdT ?_
 refine au ?_
 obtain ⟨o46, hio46, hO47⟩ := bind_some hF
 refine K_cut (fun f' cs' => ∃ (c59 : List Int) (v60 : Sv) (F61 : List Nat) (g : Fr), c59 = o46 ∧ f' = updL g [(0, v0_0.v), (2, (pz k1)), (3, (pz k2)), (4, (.int .i64 (k37 : Int)))] ∧ Ent cs' [crd (RdS 3 rdInt) v0_0.v a_seeds, cbox k1 46 (.agg [(.slice none 0 0), (.slice none 0 0), (.slice none 0 0), (.int .i64 0)].toArray), cbox k2 46 (.agg [(.slice none 0 0), v60.v, (.slice none 0 0), (.int .i64 0)].toArray), cown (OwnS 3 (roE rdInt)) F61 v60.v c59]) ?_ ?_
 · replace hF := hio46
   refine CW_block (K_region (Cm v0_0.v rfl rfl ?_))
   refine au ?_
   refine Ai hx42 (fun k48 j49 => ?_)
   refine Al ls3_0 ?_
   refine bnd hF fun r50 hx51 hF => Cx0 (s_l1In_ok _ _ _ _ hx51) (fun _ => ?_)
   refine au ?_
   refine Ci hF (fun hb58 hF => ?_) (fun hb58 hF => ?_)
   · refine CW_draw [0, 1, 2, 3, 4, 5, 6, 7, 8] [0, 1, 0, 0, 12, 28, 63, 127, 255] [6, 8] mixed (by decide +kernel) ?_
     refine du ?_
     refine D_atO rfl .no (.t (.t (.t .h))) (fun ha hp => V_load (v := v32.v) ag24.h (EN ha (.tmp rfl rfl) rfl) hp.2 rfl rfl) ?_
     iterate 2 refine du ?_
     refine Di hx42 (fun k53 j54 => ?_)
     refine Dl ls3_0 ?_
     refine bnd hF fun r55 hx56 hF => Dx1 (s_l3Put_ok _ _ _ _ _ hx56) (fun p57 => ?_)
     refine du ?_
     refine D_act1 rfl rfl .no (.cons (.t (.t (.t (.t (.t .h))))) .nil) (.dep rfl .nil) (fun ha => X_storeB (e' := (.agg [(.slice none 0 0), p57.1.v, (.slice none 0 0), (.int .i64 0)].toArray)) ty24.h.sz (EN ha (.tmp rfl rfl) rfl) (EN ha (.tmp rfl rfl) rfl) rfl rfl rfl rfl rfl) (fun _ => ?_)
     refine du ?_
     cases hF
     exact ⟨_, p57.1, p57.2, _, rfl, eqA, entA⟩
   refine au ?_
   cases hF
   exact ⟨_, v32, F33, _, rfl, eqA, entA⟩
 rintro _ _ ⟨c59, v60, F61, g63, rfl, rfl, hE⟩
 replace hF := hO47
 try dsimp only at hF
 refine K_ent hE ?_
 iterate 5 refine au ?_
 rw [wk k37]
 exact ⟨_, Nat.lt_succ_self _, _, k37 + 1, rest38, _, v60, F61, rfl, eqA, hd43, entA, hF⟩
def s_IsMethod_L1 (a_s : List Int) (a_m : Method) : List Int → Nat → Option (Bool)
 | [], k27 => some true
 | x29 :: rest28, k27 => ((ix a_s a_m.Rel).bind fun x40 =>
     (s_l1In x29 0 (IntKind.i64.wrap (x40 - 1))).bind fun r46 =>
     bif (!r46) then (some true)
     else (bif (decide ((0 : Int) < (k27 : Int))) then ((ix a_m.Inputs (IntKind.i64.wrap ((k27 : Int) - 1))).bind fun x53 =>
         some (decide ((x29 : Int) ≤ x53)))
       else (some false))).bind fun o36 =>
   match o36 with
   | c59 => if c59 then (
       some false)
     else (
       s_IsMethod_L1 a_s a_m rest28 (k27 + 1))
def s_IsMethod (a_s : List Int) (a_m : Method) : Option (Bool) :=
 ((s_IsSchema a_s).bind fun r4 =>
   bif (!r4) then (some true)
   else ((s_l1In a_m.Rel 0 (IntKind.i64.wrap ((a_s.length : Int) - 1))).bind fun r8 =>
     bif (!r8) then (some true)
     else ((s_l1In a_m.Limit 0 9).bind fun r12 =>
       bif (!r12) then (some true)
       else ((s_l1In a_m.Cost 0 99).bind fun r16 =>
         bif (!r16) then (some true)
         else ((s_l1In a_m.Quota 1 99).bind fun r20 =>
           some (!r20)))))).bind fun o2 =>
 match o2 with
 | c23 => if c23 then (
     some false)
   else (
     s_IsMethod_L1 a_s a_m a_m.Inputs 0)
theorem s_IsMethod_ok (a_s : List Int) (v0_0 : Sv) (a_m : Method) (v1_1 : Sv) (R : Bool) (hF : s_IsMethod a_s a_m = some R) :
   Fw.Spec Tryz.prog 67 [v0_0.v, (.agg [(.int .i64 a_m.Rel), v1_1.v, (.int .i64 a_m.Limit), (.int .i64 a_m.Cost), (.int .i64 a_m.Quota)].toArray)] [crd (RdS 3 rdInt) v0_0.v a_s, crd (RdS 3 rdInt) v1_1.v a_m.Inputs] (fun _ : Unit => (.bool R)) (fun _ => []) := by
 refine Se 74 Tryz.func67 [.tmp 4] ?_
 intro H0 F0
 unfold s_IsMethod at hF
 refine au ?_
 refine AbR (fun k1 => ?_)
 iterate 3 refine au ?_
 obtain ⟨o2, hio2, hO3⟩ := bind_some hF
 refine au ?_
 refine C_cut (fun f' cs' => ∃ (c23 : Bool) (g : Fr), c23 = o2 ∧ f' = updL g [(0, v0_0.v), (3, (pz k1)), (35, (.bool c23))] ∧ Ent cs' [crd (RdS 3 rdInt) v0_0.v a_s, cboR k1 97 (.agg [(.int .i64 a_m.Rel), v1_1.v, (.int .i64 a_m.Limit), (.int .i64 a_m.Cost), (.int .i64 a_m.Quota)].toArray), crd (RdS 3 rdInt) v1_1.v a_m.Inputs]) ?_ ?_
 · replace hF := hio2
   refine au ?_
   refine bnd hF fun r4 hx5 hF => Cx0 (s_IsSchema_ok _ _ _ hx5) (fun _ => ?_)
   iterate 2 refine au ?_
   rcases Bool.eq_false_or_eq_true (!r4) with hg7 | hg7
   · rw [hg7]
     try rw [hg7] at hF; dsimp only [cond_true, cond_false] at hF
     iterate 27 refine au ?_
     cases hF
     exact ⟨_, _, rfl, eqA, entA⟩
   rw [hg7]
   try rw [hg7] at hF; dsimp only [cond_true, cond_false] at hF
   iterate 11 refine au ?_
   refine bnd hF fun r8 hx9 hF => Cx0 (s_l1In_ok _ _ _ _ hx9) (fun _ => ?_)
   iterate 4 refine au ?_
   rcases Bool.eq_false_or_eq_true (!r8) with hg11 | hg11
   · rw [hg11]
     try rw [hg11] at hF; dsimp only [cond_true, cond_false] at hF
     iterate 18 refine au ?_
     cases hF
     exact ⟨_, _, rfl, eqA, entA⟩
   rw [hg11]
   try rw [hg11] at hF; dsimp only [cond_true, cond_false] at hF
   iterate 5 refine au ?_
   refine bnd hF fun r12 hx13 hF => Cx0 (s_l1In_ok _ _ _ _ hx13) (fun _ => ?_)
   iterate 4 refine au ?_
   rcases Bool.eq_false_or_eq_true (!r12) with hg15 | hg15
   · rw [hg15]
     try rw [hg15] at hF; dsimp only [cond_true, cond_false] at hF
     iterate 12 refine au ?_
     cases hF
     exact ⟨_, _, rfl, eqA, entA⟩
   rw [hg15]
   try rw [hg15] at hF; dsimp only [cond_true, cond_false] at hF
   iterate 5 refine au ?_
   refine bnd hF fun r16 hx17 hF => Cx0 (s_l1In_ok _ _ _ _ hx17) (fun _ => ?_)
   iterate 4 refine au ?_
   rcases Bool.eq_false_or_eq_true (!r16) with hg19 | hg19
   · rw [hg19]
     try rw [hg19] at hF; dsimp only [cond_true, cond_false] at hF
     iterate 6 refine au ?_
     cases hF
     exact ⟨_, _, rfl, eqA, entA⟩
   rw [hg19]
   try rw [hg19] at hF; dsimp only [cond_true, cond_false] at hF
   iterate 5 refine au ?_
   refine bnd hF fun r20 hx21 hF => Cx0 (s_l1In_ok _ _ _ _ hx21) (fun _ => ?_)
   iterate 4 refine au ?_
   cases hF
   exact ⟨_, _, rfl, eqA, entA⟩
 rintro _ _ ⟨c23, g64, rfl, rfl, hE⟩
 replace hF := hO3
 try dsimp only at hF
 refine K_ent hE ?_
 refine Ci hF (fun hb63 hF => ?_) (fun hb63 hF => ?_)
 · iterate 4 refine au ?_
   cases hF
   exact Er ()
 iterate 5 refine au ?_
 refine CW_block (CW_loop (m := a_m.Inputs.length) (fun m25 f' cs' => ∃ (g : Fr) (k27 : Nat) (rest28 : List Int), m25 = rest28.length ∧ f' = updL g [(0, v0_0.v), (3, (pz k1)), (5, (.int .i64 (k27 : Int)))] ∧ List.drop k27 a_m.Inputs = rest28 ∧ Ent cs' [crd (RdS 3 rdInt) v0_0.v a_s, cboR k1 97 (.agg [(.int .i64 a_m.Rel), v1_1.v, (.int .i64 a_m.Limit), (.int .i64 a_m.Cost), (.int .i64 a_m.Quota)].toArray), crd (RdS 3 rdInt) v1_1.v a_m.Inputs] ∧ s_IsMethod_L1 a_s a_m rest28 k27 = some R) ⟨_, 0, _, rfl, eqA, rfl, entA, hF⟩ ?_)
 rintro m25 _ _ ⟨g26, k27, rest28, rfl, rfl, hd30, hE, hF⟩
 refine Kb hE a_m.Inputs (fun hbd35 => ?_)
 rcases rest28 with _ | ⟨x29, rest28⟩
 · have hk31 := dn hd30
   rw [s_IsMethod_L1] at hF
   iterate 8 refine au ?_
   refine CdF ?_
   iterate 8 refine au ?_
   cases hF
   exact Er ()
 obtain ⟨hk31, hx32, hd33⟩ := drop_cons hd30
 rw [s_IsMethod_L1] at hF
 iterate 8 refine au ?_
 refine CdT ?_
 iterate 2 refine au ?_
 obtain ⟨o36, hio36, hO37⟩ := bind_some hF
 refine K_draw [0, 1, 2, 3, 4, 5, 6, 7, 8, 9, 10, 11, 12, 13, 14, 15, 16, 17, 18, 19, 20, 21, 22, 23, 24, 25, 26, 27, 28, 29, 30] [0, 1, 0, 7, 15, 0, 0, 64, 224, 480, 992, 2047, 4095, 8191, 16383, 32767, 65535, 131071, 262143, 131071, 1048575, 2097151, 131071, 4325375, 131071, 16908287, 63045631, 130154495, 268435455, 536870911, 1073741823] [11] mixed (by decide +kernel) ?_
 refine D_cut (fun f' cs' => ∃ (c59 : Bool) (g : Fr), c59 = o36 ∧ f' = updL g [(0, v0_0.v), (3, (pz k1)), (5, (.int .i64 (k27 : Int))), (73, (.bool c59))] ∧ Ent cs' [crd (RdS 3 rdInt) v0_0.v a_s, cboR k1 97 (.agg [(.int .i64 a_m.Rel), v1_1.v, (.int .i64 a_m.Limit), (.int .i64 a_m.Cost), (.int .i64 a_m.Quota)].toArray), crd (RdS 3 rdInt) v1_1.v a_m.Inputs]) ?_ ?_
 · replace hF := hio36
   iterate 3 refine du ?_
   refine Di hx32 (fun k38 j39 => ?_)
   refine Dl ls3_0 ?_
   iterate 3 refine du ?_
   refine bnd hF fun x40 hx41 hF => ?_
   obtain ⟨hp42, hx43⟩ := ix_some hx41
   refine Di hx43 (fun k44 j45 => ?_)
   refine Dl ls3_0 ?_
   refine du ?_
   refine bnd hF fun r46 hx47 hF => Dx0 (s_l1In_ok _ _ _ _ hx47) (fun _ => ?_)
   iterate 2 refine du ?_
   rcases Bool.eq_false_or_eq_true (!r46) with hg49 | hg49
   · rw [hg49]
     try rw [hg49] at hF; dsimp only [cond_true, cond_false] at hF
     iterate 18 refine du ?_
     cases hF
     exact ⟨_, _, rfl, eqA, entA⟩
   rw [hg49]
   try rw [hg49] at hF; dsimp only [cond_true, cond_false] at hF
   iterate 3 refine du ?_
   rcases Bool.eq_false_or_eq_true (decide ((0 : Int) < (k27 : Int))) with hg50 | hg50
   · rw [hg50]
     try rw [hg50] at hF; dsimp only [cond_true, cond_false] at hF
     iterate 3 refine du ?_
     refine Di hx32 (fun k51 j52 => ?_)
     refine Dl ls3_0 ?_
     iterate 4 refine du ?_
     refine bnd hF fun x53 hx54 hF => ?_
     obtain ⟨hp55, hx56⟩ := ix_some hx54
     refine Di hx56 (fun k57 j58 => ?_)
     refine Dl ls3_0 ?_
     iterate 4 refine du ?_
     cases hF
     exact ⟨_, _, rfl, eqA, entA⟩
   rw [hg50]
   try rw [hg50] at hF; dsimp only [cond_true, cond_false] at hF
   iterate 15 refine du ?_
   cases hF
   exact ⟨_, _, rfl, eqA, entA⟩
 rintro _ _ ⟨c59, g62, rfl, rfl, hE⟩
 replace hF := hO37
 try dsimp only at hF
 refine K_ent hE ?_
 refine Ci hF (fun hb61 hF => ?_) (fun hb61 hF => ?_)
 · iterate 4 refine au ?_
   cases hF
   exact Er ()
 iterate 6 refine au ?_
 rw [wk k27]
 exact ⟨_, Nat.lt_succ_self _, _, k27 + 1, rest28, rfl, eqA, hd33, entA, hF⟩
def s_AreMethods_L1 (a_s : List Int) (a_l : List Method) : List Method → Nat → Option (Bool)
 | [], k4 => ((s_IsSchema a_s).bind fun r15 =>
     bif r15 then (some (decide (((a_l.length : Int) : Int) ≤ 5)))
     else (some false)).bind fun o13 =>
   match o13 with
   | c19 => some c19
 | x6 :: rest5, k4 => (s_IsMethod a_s x6).bind fun r24 =>
   if (!r24) then (
     some false)
   else (
     s_AreMethods_L1 a_s a_l rest5 (k4 + 1))
def s_AreMethods (a_s : List Int) (a_l : List Method) : Option (Bool) :=
 s_AreMethods_L1 a_s a_l a_l 0
theorem s_AreMethods_ok (a_s : List Int) (v0_0 : Sv) (a_l : List Method) (v1_0 : Sv) (R : Bool) (hF : s_AreMethods a_s a_l = some R) :
   Fw.Spec Tryz.prog 25 [v0_0.v, v1_0.v] [crd (RdS 3 rdInt) v0_0.v a_s, crd (RdS 97 rd97) v1_0.v a_l] (fun _ : Unit => (.bool R)) (fun _ => []) := by
 refine Se 26 Tryz.func25 [.tmp 4] ?_
 intro H0 F0
 unfold s_AreMethods at hF
 iterate 7 refine au ?_
 refine CW_block (CW_loop (m := a_l.length) (fun m2 f' cs' => ∃ (g : Fr) (k4 : Nat) (rest5 : List Method), m2 = rest5.length ∧ f' = updL g [(0, v0_0.v), (1, v1_0.v), (5, (.int .i64 (k4 : Int)))] ∧ List.drop k4 a_l = rest5 ∧ Ent cs' [crd (RdS 3 rdInt) v0_0.v a_s, crd (RdS 97 rd97) v1_0.v a_l] ∧ s_AreMethods_L1 a_s a_l rest5 k4 = some R) ⟨_, 0, _, rfl, eqA, rfl, entA, hF⟩ ?_)
 rintro m2 _ _ ⟨g3, k4, rest5, rfl, rfl, hd7, hE, hF⟩
 refine Kb hE a_l (fun hbd12 => ?_)
 rcases rest5 with _ | ⟨x6, rest5⟩
 · have hk8 := dn hd7
   rw [s_AreMethods_L1] at hF
   iterate 7 refine au ?_
   refine CdF ?_
   iterate 4 refine au ?_
   obtain ⟨o13, hio13, hO14⟩ := bind_some hF
   refine au ?_
   refine C_cut (fun f' cs' => ∃ (c19 : Bool) (g : Fr), c19 = o13 ∧ f' = updL g [(4, (.bool c19))] ∧ Ent cs' []) ?_ ?_
   · replace hF := hio13
     refine au ?_
     refine bnd hF fun r15 hx16 hF => Cx0 (s_IsSchema_ok _ _ _ hx16) (fun _ => ?_)
     refine au ?_
     rcases Bool.eq_false_or_eq_true r15 with hg18 | hg18
     · rw [hg18]
       try rw [hg18] at hF; dsimp only [cond_true, cond_false] at hF
       iterate 9 refine au ?_
       cases hF
       exact ⟨_, _, rfl, eqA, entA⟩
     rw [hg18]
     try rw [hg18] at hF; dsimp only [cond_true, cond_false] at hF
     iterate 6 refine au ?_
     cases hF
     exact ⟨_, _, rfl, eqA, entA⟩
   rintro _ _ ⟨c19, g20, rfl, rfl, hE⟩
   replace hF := hO14
   try dsimp only at hF
   refine K_ent hE ?_
   refine au ?_
   cases hF
   exact Er ()
 obtain ⟨hk8, hx9, hd10⟩ := drop_cons hd7
 rw [s_AreMethods_L1] at hF
 iterate 7 refine au ?_
 refine CdT ?_
 iterate 6 refine au ?_
 refine Ai hx9 (fun k21 j22 => ?_)
 refine AlA1 (ul97_0_97 x6) la97_0_97 (fun p23 => ?_)
 refine bnd hF fun r24 hx25 hF => Cx0 (s_IsMethod_ok _ _ _ _ _ hx25) (fun _ => ?_)
 iterate 2 refine au ?_
 refine Ci hF (fun hb28 hF => ?_) (fun hb28 hF => ?_)
 · iterate 4 refine au ?_
   cases hF
   exact Er ()
 iterate 6 refine au ?_
 rw [wk k4]
 exact ⟨_, Nat.lt_succ_self _, _, k4 + 1, rest5, rfl, eqA, hd10, entA, hF⟩
def s_IsFact_L1 : List Int → Nat → Option (Bool)
 | [], k22 => some true
 | x24 :: rest23, k22 => (s_l1In x24 0 9).bind fun r33 =>
   if (!r33) then (
     some false)
   else (
     s_IsFact_L1 rest23 (k22 + 1))
def s_IsFact (a_s : List Int) (a_f : Fact) : Option (Bool) :=
 ((s_IsSchema a_s).bind fun r4 =>
   bif (!r4) then (some true)
   else ((s_l1In a_f.Rel 0 (IntKind.i64.wrap ((a_s.length : Int) - 1))).bind fun r8 =>
     bif (!r8) then (some true)
     else ((ix a_s a_f.Rel).bind fun x12 =>
       some (((a_f.Values.length : Int) : Int) != x12)))).bind fun o2 =>
 match o2 with
 | c18 => if c18 then (
     some false)
   else (
     s_IsFact_L1 a_f.Values 0)
theorem s_IsFact_ok (a_s : List Int) (v0_0 : Sv) (a_f : Fact) (v1_1 : Sv) (R : Bool) (hF : s_IsFact a_s a_f = some R) :
   Fw.Spec Tryz.prog 56 [v0_0.v, (.agg [(.int .i64 a_f.Rel), v1_1.v].toArray)] [crd (RdS 3 rdInt) v0_0.v a_s, crd (RdS 3 rdInt) v1_1.v a_f.Values] (fun _ : Unit => (.bool R)) (fun _ => []) := by
 refine Se 43 Tryz.func56 [.tmp 4] ?_
 intro H0 F0
 unfold s_IsFact at hF
 refine au ?_
 refine AbR (fun k1 => ?_)
 iterate 3 refine au ?_
 obtain ⟨o2, hio2, hO3⟩ := bind_some hF
 refine K_draw [0, 1, 2, 3, 4, 5, 6, 7, 8, 9, 10, 11, 12, 13, 14, 15, 16, 17, 18, 19, 20, 21, 22] [0, 1, 3, 7, 15, 31, 15, 79, 207, 511, 1023, 2047, 4095, 8191, 16383, 32767, 8191, 8191, 139263, 466943, 991231, 2097151, 4194303] [1, 9] mixed (by decide +kernel) ?_
 refine D_cut (fun f' cs' => ∃ (c18 : Bool) (g : Fr), c18 = o2 ∧ f' = updL g [(3, (pz k1)), (28, (.bool c18))] ∧ Ent cs' [cboR k1 58 (.agg [(.int .i64 a_f.Rel), v1_1.v].toArray), crd (RdS 3 rdInt) v1_1.v a_f.Values]) ?_ ?_
 · replace hF := hio2
   refine du ?_
   refine bnd hF fun r4 hx5 hF => Dx0 (s_IsSchema_ok _ _ _ hx5) (fun _ => ?_)
   iterate 2 refine du ?_
   rcases Bool.eq_false_or_eq_true (!r4) with hg7 | hg7
   · rw [hg7]
     try rw [hg7] at hF; dsimp only [cond_true, cond_false] at hF
     iterate 20 refine du ?_
     cases hF
     exact ⟨_, _, rfl, eqA, entA⟩
   rw [hg7]
   try rw [hg7] at hF; dsimp only [cond_true, cond_false] at hF
   iterate 5 refine du ?_
   refine bnd hF fun r8 hx9 hF => Dx0 (s_l1In_ok _ _ _ _ hx9) (fun _ => ?_)
   iterate 3 refine du ?_
   rcases Bool.eq_false_or_eq_true (!r8) with hg11 | hg11
   · rw [hg11]
     try rw [hg11] at hF; dsimp only [cond_true, cond_false] at hF
     iterate 11 refine du ?_
     cases hF
     exact ⟨_, _, rfl, eqA, entA⟩
   rw [hg11]
   try rw [hg11] at hF; dsimp only [cond_true, cond_false] at hF
   iterate 6 refine du ?_
   refine bnd hF fun x12 hx13 hF => ?_
   obtain ⟨hp14, hx15⟩ := ix_some hx13
   refine Di hx15 (fun k16 j17 => ?_)
   refine Dl ls3_0 ?_
   iterate 3 refine du ?_
   cases hF
   exact ⟨_, _, rfl, eqA, entA⟩
 rintro _ _ ⟨c18, g39, rfl, rfl, hE⟩
 replace hF := hO3
 try dsimp only at hF
 refine K_ent hE ?_
 refine Ci hF (fun hb38 hF => ?_) (fun hb38 hF => ?_)
 · iterate 4 refine au ?_
   cases hF
   exact Er ()
 iterate 5 refine au ?_
 refine CW_block (CW_loop (m := a_f.Values.length) (fun m20 f' cs' => ∃ (g : Fr) (k22 : Nat) (rest23 : List Int), m20 = rest23.length ∧ f' = updL g [(3, (pz k1)), (5, (.int .i64 (k22 : Int)))] ∧ List.drop k22 a_f.Values = rest23 ∧ Ent cs' [cboR k1 58 (.agg [(.int .i64 a_f.Rel), v1_1.v].toArray), crd (RdS 3 rdInt) v1_1.v a_f.Values] ∧ s_IsFact_L1 rest23 k22 = some R) ⟨_, 0, _, rfl, eqA, rfl, entA, hF⟩ ?_)
 rintro m20 _ _ ⟨g21, k22, rest23, rfl, rfl, hd25, hE, hF⟩
 refine Kb hE a_f.Values (fun hbd30 => ?_)
 rcases rest23 with _ | ⟨x24, rest23⟩
 · have hk26 := dn hd25
   rw [s_IsFact_L1] at hF
   iterate 8 refine au ?_
   refine CdF ?_
   iterate 8 refine au ?_
   cases hF
   exact Er ()
 obtain ⟨hk26, hx27, hd28⟩ := drop_cons hd25
 rw [s_IsFact_L1] at hF
 iterate 8 refine au ?_
 refine CdT ?_
 iterate 6 refine au ?_
 refine Ai hx27 (fun k31 j32 => ?_)
 refine Al ls3_0 ?_
 refine bnd hF fun r33 hx34 hF => Cx0 (s_l1In_ok _ _ _ _ hx34) (fun _ => ?_)
 iterate 2 refine au ?_
 refine Ci hF (fun hb37 hF => ?_) (fun hb37 hF => ?_)
 · iterate 4 refine au ?_
   cases hF
   exact Er ()
 iterate 6 refine au ?_
 rw [wk k22]
 exact ⟨_, Nat.lt_succ_self _, _, k22 + 1, rest23, rfl, eqA, hd28, entA, hF⟩
def s_AreFacts_L1 (a_s : List Int) (a_l : List Fact) : List Fact → Nat → Option (Bool)
 | [], k4 => ((s_IsSchema a_s).bind fun r15 =>
     bif r15 then (some (decide (((a_l.length : Int) : Int) ≤ 24)))
     else (some false)).bind fun o13 =>
   match o13 with
   | c19 => some c19
 | x6 :: rest5, k4 => ((s_IsFact a_s x6).bind fun r26 =>
     bif (!r26) then (some true)
     else (bif (decide ((0 : Int) < (k4 : Int))) then ((ix a_l (IntKind.i64.wrap ((k4 : Int) - 1))).bind fun x31 =>
         (s_CompareFacts x31 x6).bind fun r41 =>
         some (decide ((0 : Int) ≤ r41)))
       else (some false))).bind fun o21 =>
   match o21 with
   | c44 => if c44 then (
       some false)
     else (
       s_AreFacts_L1 a_s a_l rest5 (k4 + 1))
def s_AreFacts (a_s : List Int) (a_l : List Fact) : Option (Bool) :=
 s_AreFacts_L1 a_s a_l a_l 0
theorem s_AreFacts_ok (a_s : List Int) (v0_0 : Sv) (a_l : List Fact) (v1_0 : Sv) (R : Bool) (hF : s_AreFacts a_s a_l = some R) :
   Fw.Spec Tryz.prog 15 [v0_0.v, v1_0.v] [crd (RdS 3 rdInt) v0_0.v a_s, crd (RdS 58 rd58) v1_0.v a_l] (fun _ : Unit => (.bool R)) (fun _ => []) := by
 refine Se 43 Tryz.func15 [.tmp 4] ?_
 intro H0 F0
 unfold s_AreFacts at hF
 iterate 7 refine au ?_
 refine CW_block (CW_loop (m := a_l.length) (fun m2 f' cs' => ∃ (g : Fr) (k4 : Nat) (rest5 : List Fact), m2 = rest5.length ∧ f' = updL g [(0, v0_0.v), (1, v1_0.v), (5, (.int .i64 (k4 : Int)))] ∧ List.drop k4 a_l = rest5 ∧ Ent cs' [crd (RdS 3 rdInt) v0_0.v a_s, crd (RdS 58 rd58) v1_0.v a_l] ∧ s_AreFacts_L1 a_s a_l rest5 k4 = some R) ⟨_, 0, _, rfl, eqA, rfl, entA, hF⟩ ?_)
 rintro m2 _ _ ⟨g3, k4, rest5, rfl, rfl, hd7, hE, hF⟩
 refine Kb hE a_l (fun hbd12 => ?_)
 rcases rest5 with _ | ⟨x6, rest5⟩
 · have hk8 := dn hd7
   rw [s_AreFacts_L1] at hF
   iterate 7 refine au ?_
   refine CdF ?_
   iterate 4 refine au ?_
   obtain ⟨o13, hio13, hO14⟩ := bind_some hF
   refine au ?_
   refine C_cut (fun f' cs' => ∃ (c19 : Bool) (g : Fr), c19 = o13 ∧ f' = updL g [(4, (.bool c19))] ∧ Ent cs' []) ?_ ?_
   · replace hF := hio13
     refine au ?_
     refine bnd hF fun r15 hx16 hF => Cx0 (s_IsSchema_ok _ _ _ hx16) (fun _ => ?_)
     refine au ?_
     rcases Bool.eq_false_or_eq_true r15 with hg18 | hg18
     · rw [hg18]
       try rw [hg18] at hF; dsimp only [cond_true, cond_false] at hF
       iterate 9 refine au ?_
       cases hF
       exact ⟨_, _, rfl, eqA, entA⟩
     rw [hg18]
     try rw [hg18] at hF; dsimp only [cond_true, cond_false] at hF
     iterate 6 refine au ?_
     cases hF
     exact ⟨_, _, rfl, eqA, entA⟩
   rintro _ _ ⟨c19, g20, rfl, rfl, hE⟩
   replace hF := hO14
   try dsimp only at hF
   refine K_ent hE ?_
   refine au ?_
   cases hF
   exact Er ()
 obtain ⟨hk8, hx9, hd10⟩ := drop_cons hd7
 rw [s_AreFacts_L1] at hF
 iterate 7 refine au ?_
 refine CdT ?_
 iterate 2 refine au ?_
 obtain ⟨o21, hio21, hO22⟩ := bind_some hF
 refine K_draw [0, 1, 2, 3, 4, 5, 6, 7, 8, 9, 10, 11, 12, 13, 14, 15, 16, 17, 18, 19, 20, 21, 22, 23] [0, 0, 0, 6, 14, 31, 63, 127, 255, 511, 1023, 2047, 2047, 6143, 16383, 32767, 2047, 2047, 198655, 460799, 1048575, 2097151, 4194303, 8388607] [5, 20] mixed (by decide +kernel) ?_
 refine D_cut (fun f' cs' => ∃ (c44 : Bool) (g : Fr), c44 = o21 ∧ f' = updL g [(0, v0_0.v), (1, v1_0.v), (5, (.int .i64 (k4 : Int))), (35, (.bool c44))] ∧ Ent cs' [crd (RdS 3 rdInt) v0_0.v a_s, crd (RdS 58 rd58) v1_0.v a_l]) ?_ ?_
 · replace hF := hio21
   iterate 3 refine du ?_
   refine Di hx9 (fun k23 j24 => ?_)
   refine DlA1 (ul58_0_58 x6) la58_0_58 (fun p25 => ?_)
   refine bnd hF fun r26 hx27 hF => Dx0 (s_IsFact_ok _ _ _ _ _ hx27) (fun _ => ?_)
   iterate 2 refine du ?_
   rcases Bool.eq_false_or_eq_true (!r26) with hg29 | hg29
   · rw [hg29]
     try rw [hg29] at hF; dsimp only [cond_true, cond_false] at hF
     iterate 17 refine du ?_
     cases hF
     exact ⟨_, _, rfl, eqA, entA⟩
   rw [hg29]
   try rw [hg29] at hF; dsimp only [cond_true, cond_false] at hF
   iterate 3 refine du ?_
   rcases Bool.eq_false_or_eq_true (decide ((0 : Int) < (k4 : Int))) with hg30 | hg30
   · rw [hg30]
     try rw [hg30] at hF; dsimp only [cond_true, cond_false] at hF
     iterate 3 refine du ?_
     refine bnd hF fun x31 hx32 hF => ?_
     obtain ⟨hp33, hx34⟩ := ix_some hx32
     refine Di hx34 (fun k35 j36 => ?_)
     refine DlA1 (ul58_0_58 x31) la58_0_58 (fun p37 => ?_)
     iterate 2 refine du ?_
     refine Di hx9 (fun k38 j39 => ?_)
     refine DlA1 (ul58_0_58 x6) la58_0_58 (fun p40 => ?_)
     refine bnd hF fun r41 hx42 hF => Dx0 (s_CompareFacts_ok _ _ _ _ _ hx42) (fun _ => ?_)
     iterate 4 refine du ?_
     cases hF
     exact ⟨_, _, rfl, eqA, entA⟩
   rw [hg30]
   try rw [hg30] at hF; dsimp only [cond_true, cond_false] at hF
   iterate 14 refine du ?_
   cases hF
   exact ⟨_, _, rfl, eqA, entA⟩
 rintro _ _ ⟨c44, g47, rfl, rfl, hE⟩
 replace hF := hO22
 try dsimp only at hF
 refine K_ent hE ?_
 refine Ci hF (fun hb46 hF => ?_) (fun hb46 hF => ?_)
 · iterate 4 refine au ?_
   cases hF
   exact Er ()
 iterate 6 refine au ?_
 rw [wk k4]
 exact ⟨_, Nat.lt_succ_self _, _, k4 + 1, rest5, rfl, eqA, hd10, entA, hF⟩
def s_l8Values_L1 (a_l : List Int) : List Int → Nat → Option (Bool)
 | [], k4 => some true
 | x6 :: rest5, k4 => ((s_l1In x6 0 9).bind fun r17 =>
     bif (!r17) then (some true)
     else (bif (decide ((0 : Int) < (k4 : Int))) then ((ix a_l (IntKind.i64.wrap ((k4 : Int) - 1))).bind fun x24 =>
         some (decide ((x6 : Int) ≤ x24)))
       else (some false))).bind fun o13 =>
   match o13 with
   | c30 => if c30 then (
       some false)
     else (
       s_l8Values_L1 a_l rest5 (k4 + 1))
def s_l8Values (a_l : List Int) : Option (Bool) :=
 s_l8Values_L1 a_l a_l 0
theorem s_l8Values_ok (a_l : List Int) (v0_0 : Sv) (R : Bool) (hF : s_l8Values a_l = some R) :
   Fw.Spec Tryz.prog 79 [v0_0.v] [crd (RdS 3 rdInt) v0_0.v a_l] (fun _ : Unit => (.bool R)) (fun _ => []) := by
 refine Se 32 Tryz.func79 [.tmp 2] ?_
 intro H0 F0
 unfold s_l8Values at hF
 iterate 7 refine au ?_
 refine CW_block (CW_loop (m := a_l.length) (fun m2 f' cs' => ∃ (g : Fr) (k4 : Nat) (rest5 : List Int), m2 = rest5.length ∧ f' = updL g [(0, v0_0.v), (3, (.int .i64 (k4 : Int)))] ∧ List.drop k4 a_l = rest5 ∧ Ent cs' [crd (RdS 3 rdInt) v0_0.v a_l] ∧ s_l8Values_L1 a_l rest5 k4 = some R) ⟨_, 0, _, rfl, eqA, rfl, entA, hF⟩ ?_)
 rintro m2 _ _ ⟨g3, k4, rest5, rfl, rfl, hd7, hE, hF⟩
 refine Kb hE a_l (fun hbd12 => ?_)
 rcases rest5 with _ | ⟨x6, rest5⟩
 · have hk8 := dn hd7
   rw [s_l8Values_L1] at hF
   iterate 7 refine au ?_
   refine CdF ?_
   iterate 8 refine au ?_
   cases hF
   exact Er ()
 obtain ⟨hk8, hx9, hd10⟩ := drop_cons hd7
 rw [s_l8Values_L1] at hF
 iterate 7 refine au ?_
 refine CdT ?_
 iterate 2 refine au ?_
 obtain ⟨o13, hio13, hO14⟩ := bind_some hF
 refine K_draw [0, 1, 2, 3, 4, 5, 6, 7, 8, 9, 10, 11, 12, 13, 14, 15, 16, 17, 18, 19, 20, 21] [0, 0, 3, 7, 15, 31, 63, 127, 255, 511, 1023, 1023, 4095, 8191, 1023, 1023, 33791, 115711, 246783, 524287, 1048575, 2097151] [4] mixed (by decide +kernel) ?_
 refine D_cut (fun f' cs' => ∃ (c30 : Bool) (g : Fr), c30 = o13 ∧ f' = updL g [(0, v0_0.v), (3, (.int .i64 (k4 : Int))), (31, (.bool c30))] ∧ Ent cs' [crd (RdS 3 rdInt) v0_0.v a_l]) ?_ ?_
 · replace hF := hio13
   iterate 2 refine du ?_
   refine Di hx9 (fun k15 j16 => ?_)
   refine Dl ls3_0 ?_
   refine bnd hF fun r17 hx18 hF => Dx0 (s_l1In_ok _ _ _ _ hx18) (fun _ => ?_)
   iterate 2 refine du ?_
   rcases Bool.eq_false_or_eq_true (!r17) with hg20 | hg20
   · rw [hg20]
     try rw [hg20] at hF; dsimp only [cond_true, cond_false] at hF
     iterate 16 refine du ?_
     cases hF
     exact ⟨_, _, rfl, eqA, entA⟩
   rw [hg20]
   try rw [hg20] at hF; dsimp only [cond_true, cond_false] at hF
   iterate 3 refine du ?_
   rcases Bool.eq_false_or_eq_true (decide ((0 : Int) < (k4 : Int))) with hg21 | hg21
   · rw [hg21]
     try rw [hg21] at hF; dsimp only [cond_true, cond_false] at hF
     iterate 2 refine du ?_
     refine Di hx9 (fun k22 j23 => ?_)
     refine Dl ls3_0 ?_
     iterate 3 refine du ?_
     refine bnd hF fun x24 hx25 hF => ?_
     obtain ⟨hp26, hx27⟩ := ix_some hx25
     refine Di hx27 (fun k28 j29 => ?_)
     refine Dl ls3_0 ?_
     iterate 4 refine du ?_
     cases hF
     exact ⟨_, _, rfl, eqA, entA⟩
   rw [hg21]
   try rw [hg21] at hF; dsimp only [cond_true, cond_false] at hF
   iterate 13 refine du ?_
   cases hF
   exact ⟨_, _, rfl, eqA, entA⟩
 rintro _ _ ⟨c30, g33, rfl, rfl, hE⟩
 replace hF := hO14
 try dsimp only at hF
 refine K_ent hE ?_
 refine Ci hF (fun hb32 hF => ?_) (fun hb32 hF => ?_)
 · iterate 4 refine au ?_
   cases hF
   exact Er ()
 iterate 6 refine au ?_
 rw [wk k4]
 exact ⟨_, Nat.lt_succ_self _, _, k4 + 1, rest5, rfl, eqA, hd10, entA, hF⟩
def s_l2Copy_L1 : List Fact → Nat → (List Fact) → Option ((List Fact))
 | [], k8, c2 => some c2
 | x10 :: rest9, k8, c2 => (s_l2One x10.Rel x10.Values).bind fun r22 =>
   (app c2 ([r22] : List Fact)).bind fun z26 =>
   s_l2Copy_L1 rest9 (k8 + 1) z26
def s_l2Copy (a_l : List Fact) : Option ((List Fact)) :=
 s_l2Copy_L1 a_l 0 ([] : List Fact)
theorem s_l2Copy_ok (a_l : List Fact) (v0_0 : Sv) (R : (List Fact)) (hF : s_l2Copy a_l = some R) :
   Fw.Spec Tryz.prog 84 [v0_0.v] [crd (RdS 58 rd58) v0_0.v a_l] (fun p : Sv × List Nat => p.1.v) (fun p => [cown (OwnS 58 ow58) p.2 p.1.v R]) := by
 refine Se 27 Tryz.func84 [.tmp 2] ?_
 intro H0 F0
 unfold s_l2Copy at hF
 iterate 4 refine au ?_
 refine C_new rfl (N_buildSliceT (g := true) sl28.h ty58.h .nil (vs := []) rfl rfl rfl (by simp)) (fun k1 => ?_)
 refine Cv1 (.cons .h .nil) (own_lit (Ro := ow58) (E := 58) (F := []) (xs := ([] : List Fact)) MkL_nil rfl rfl) ?_
 iterate 6 refine au ?_
 refine CW_block (CW_loop (m := a_l.length) (fun m6 f' cs' => ∃ (g : Fr) (k8 : Nat) (rest9 : List Fact) (c2 : List Fact) (v3 : Sv) (F4 : List Nat), m6 = rest9.length ∧ f' = updL g [(0, v0_0.v), (3, v3.v), (4, (.int .i64 (k8 : Int)))] ∧ List.drop k8 a_l = rest9 ∧ Ent cs' [crd (RdS 58 rd58) v0_0.v a_l, cown (OwnS 58 ow58) F4 v3.v c2] ∧ s_l2Copy_L1 rest9 k8 c2 = some R) ⟨_, 0, _, _, ⟨(some ⟨k1, 0, none⟩), 0, 1⟩, (k1 :: []), rfl, eqA, rfl, entA, hF⟩ ?_)
 rintro m6 _ _ ⟨g7, k8, rest9, c2, v3, F4, rfl, rfl, hd11, hE, hF⟩
 refine Kb hE a_l (fun hbd16 => ?_)
 rcases rest9 with _ | ⟨x10, rest9⟩
 · have hk12 := dn hd11
   rw [s_l2Copy_L1] at hF
   iterate 7 refine au ?_
   refine CdF ?_
   iterate 9 refine au ?_
   cases hF
   exact Er (v3, F4)
 obtain ⟨hk12, hx13, hd14⟩ := drop_cons hd11
 rw [s_l2Copy_L1] at hF
 iterate 7 refine au ?_
 refine CdT ?_
 iterate 2 refine au ?_
 refine CW_draw [0, 1, 2, 3, 4, 5, 6, 7, 8, 9, 10, 11, 12, 13, 14] [0, 0, 0, 6, 14, 30, 0, 0, 192, 448, 960, 2046, 4094, 8191, 16383] [11, 13] mixed (by decide +kernel) ?_
 iterate 3 refine du ?_
 refine Di hx13 (fun k17 j18 => ?_)
 refine du ?_
 refine Dl ls58_0 ?_
 iterate 2 refine du ?_
 refine Di hx13 (fun k19 j20 => ?_)
 refine du ?_
 refine D_ldV (R' := (RdS 3 rdInt)) ag24.h rfl .no (.tmp rfl rfl) rfl .h lv58_1 (fun w21 => ?_)
 refine bnd hF fun r22 hx23 hF => Dx1 (s_l2One_ok _ _ _ _ hx23) (fun p24 => ?_)
 refine D_new rfl .no rfl (fun ha => N_buildSliceT (g := true) (len := 1) (parts := [(0, .tmp 23)]) sl28.h ty58.h (.cons (EN ha (.tmp rfl rfl) rfl) .nil) (vs := [(.agg [(.int .i64 r22.Rel), p24.1.v].toArray)]) rfl rfl rfl (by intro v hv; simp at hv; rcases hv with rfl <;> rfl)) (fun k25 => ?_)
 refine Dv1 (.cons .h (.cons .h .nil)) (own_lit (Ro := ow58) (E := 58) (F := (p24.2 ++ [])) (xs := ([r22] : List Fact)) (MkL_cons mk58 MkL_nil apps) rfl rfl) ?_
 refine bnd hF fun z26 hx27 hF => D_act1 rfl rfl .no (.cons (.t (.t (.t (.t (.t .h))))) (.cons .h .nil)) (.dep rfl .nil) (fun ha => X_appendO (Ro := ow58) sl28.h ni28 ty58.h rfl rfl rfl (EN ha (.tmp rfl rfl) rfl) (EN ha (.tmp rfl rfl) rfl) hx27 src_own) (fun p28 => ?_)
 iterate 2 refine du ?_
 iterate 5 refine au ?_
 rw [wk k8]
 exact ⟨_, Nat.lt_succ_self _, _, k8 + 1, rest9, _, p28.1, p28.2, rfl, eqA, hd14, entA, hF⟩
def s_l8Access (a_m : Int) (a_values : List Int) : Option (Access) :=
 (app ([] : List Int) a_values).bind fun z3 =>
 some ({ Method := a_m, Values := z3 } : Access)
theorem s_l8Access_ok (a_m : Int) (a_values : List Int) (v1_0 : Sv) (R : Access) (hF : s_l8Access a_m a_values = some R) :
   Fw.Spec Tryz.prog 174 [(.int .i64 a_m), v1_0.v] [crd (RdS 3 rdInt) v1_0.v a_values] (fun p : Sv × List Nat => (.agg [(.int .i64 R.Method), p.1.v].toArray)) (fun p => [cown (OwnS 3 (roE rdInt)) p.2 p.1.v R.Values]) := by
 refine Se 10 Tryz.func174 [.cell 4 54] ?_
 intro H0 F0
 unfold s_l8Access at hF
 refine au ?_
 refine AnW (fun k1 => ?_)
 iterate 3 refine au ?_
 refine C_new rfl (N_buildSliceT (g := true) sl24.h ty3.h .nil (vs := []) rfl rfl rfl (by simp)) (fun k2 => ?_)
 refine Cv1 (.cons .h .nil) (own_lit (Ro := (roE rdInt)) (E := 3) (F := []) (xs := ([] : List Int)) MkL_nil rfl rfl) ?_
 refine au ?_
 refine bnd hF fun z3 hx4 hF => C_x1 (.cons .h (.rd (.t .h) rfl .nil)) (X_appendO (Ro := (roE rdInt)) sl24.h ni24 ty3.h rfl rfl rfl (.tmp rfl rfl) (.tmp rfl rfl) hx4 src_rd) (fun p5 => ?_)
 refine C_val (V_build ty54.h rfl (vs := [(.int .i64 a_m), p5.1.v]) (.cons (.tmp rfl rfl) (.cons (.tmp rfl rfl) .nil)) (cells := [(.int .i64 a_m), p5.1.v]) rfl) ?_
 refine As (.agg [(.int .i64 a_m), p5.1.v].toArray) ?_
 iterate 2 refine au ?_
 cases hF
 exact Er (p5.1, p5.2)
def s_l8Log_L1 : List Access → Nat → (List Access) → Option ((List Access))
 | [], k8, c2 => some c2
 | x10 :: rest9, k8, c2 => (s_l8Access x10.Method x10.Values).bind fun r22 =>
   (app c2 ([r22] : List Access)).bind fun z26 =>
   s_l8Log_L1 rest9 (k8 + 1) z26
def s_l8Log (a_l : List Access) : Option ((List Access)) :=
 s_l8Log_L1 a_l 0 ([] : List Access)
theorem s_l8Log_ok (a_l : List Access) (v0_0 : Sv) (R : (List Access)) (hF : s_l8Log a_l = some R) :
   Fw.Spec Tryz.prog 136 [v0_0.v] [crd (RdS 54 rd54) v0_0.v a_l] (fun p : Sv × List Nat => p.1.v) (fun p => [cown (OwnS 54 ow54) p.2 p.1.v R]) := by
 refine Se 27 Tryz.func136 [.tmp 2] ?_
 intro H0 F0
 unfold s_l8Log at hF
 iterate 4 refine au ?_
 refine C_new rfl (N_buildSliceT (g := true) sl44.h ty54.h .nil (vs := []) rfl rfl rfl (by simp)) (fun k1 => ?_)
 refine Cv1 (.cons .h .nil) (own_lit (Ro := ow54) (E := 54) (F := []) (xs := ([] : List Access)) MkL_nil rfl rfl) ?_
 iterate 6 refine au ?_
 refine CW_block (CW_loop (m := a_l.length) (fun m6 f' cs' => ∃ (g : Fr) (k8 : Nat) (rest9 : List Access) (c2 : List Access) (v3 : Sv) (F4 : List Nat), m6 = rest9.length ∧ f' = updL g [(0, v0_0.v), (3, v3.v), (4, (.int .i64 (k8 : Int)))] ∧ List.drop k8 a_l = rest9 ∧ Ent cs' [crd (RdS 54 rd54) v0_0.v a_l, cown (OwnS 54 ow54) F4 v3.v c2] ∧ s_l8Log_L1 rest9 k8 c2 = some R) ⟨_, 0, _, _, ⟨(some ⟨k1, 0, none⟩), 0, 1⟩, (k1 :: []), rfl, eqA, rfl, entA, hF⟩ ?_)
 rintro m6 _ _ ⟨g7, k8, rest9, c2, v3, F4, rfl, rfl, hd11, hE, hF⟩
 refine Kb hE a_l (fun hbd16 => ?_)
 rcases rest9 with _ | ⟨x10, rest9⟩
 · have hk12 := dn hd11
   rw [s_l8Log_L1] at hF
   iterate 7 refine au ?_
   refine CdF ?_
   iterate 9 refine au ?_
   cases hF
   exact Er (v3, F4)
 obtain ⟨hk12, hx13, hd14⟩ := drop_cons hd11
 rw [s_l8Log_L1] at hF
 iterate 7 refine au ?_
 refine CdT ?_
 iterate 2 refine au ?_
 refine CW_draw [0, 1, 2, 3, 4, 5, 6, 7, 8, 9, 10, 11, 12, 13, 14] [0, 0, 0, 6, 14, 30, 0, 0, 192, 448, 960, 2046, 4094, 8191, 16383] [11, 13] mixed (by decide +kernel) ?_
 iterate 3 refine du ?_
 refine Di hx13 (fun k17 j18 => ?_)
 refine du ?_
 refine Dl ls54_0 ?_
 iterate 2 refine du ?_
 refine Di hx13 (fun k19 j20 => ?_)
 refine du ?_
 refine D_ldV (R' := (RdS 3 rdInt)) ag24.h rfl .no (.tmp rfl rfl) rfl .h lv54_1 (fun w21 => ?_)
 refine bnd hF fun r22 hx23 hF => Dx1 (s_l8Access_ok _ _ _ _ hx23) (fun p24 => ?_)
 refine D_new rfl .no rfl (fun ha => N_buildSliceT (g := true) (len := 1) (parts := [(0, .tmp 23)]) sl44.h ty54.h (.cons (EN ha (.tmp rfl rfl) rfl) .nil) (vs := [(.agg [(.int .i64 r22.Method), p24.1.v].toArray)]) rfl rfl rfl (by intro v hv; simp at hv; rcases hv with rfl <;> rfl)) (fun k25 => ?_)
 refine Dv1 (.cons .h (.cons .h .nil)) (own_lit (Ro := ow54) (E := 54) (F := (p24.2 ++ [])) (xs := ([r22] : List Access)) (MkL_cons mk54 MkL_nil apps) rfl rfl) ?_
 refine bnd hF fun z26 hx27 hF => D_act1 rfl rfl .no (.cons (.t (.t (.t (.t (.t .h))))) (.cons .h .nil)) (.dep rfl .nil) (fun ha => X_appendO (Ro := ow54) sl44.h ni44 ty54.h rfl rfl rfl (EN ha (.tmp rfl rfl) rfl) (EN ha (.tmp rfl rfl) rfl) hx27 src_own) (fun p28 => ?_)
 iterate 2 refine du ?_
 iterate 5 refine au ?_
 rw [wk k8]
 exact ⟨_, Nat.lt_succ_self _, _, k8 + 1, rest9, _, p28.1, p28.2, rfl, eqA, hd14, entA, hF⟩
def s_l8Copy (a_r : Reached) : Option (Reached) :=
 (s_l2Copy a_r.Facts).bind fun r5 =>
 (app ([] : List Int) a_r.Values).bind fun z8 =>
 (s_l8Log a_r.Log).bind fun r11 =>
 some ({ Facts := r5, Values := z8, Log := r11, Rounds := a_r.Rounds } : Reached)
theorem s_l8Copy_ok (a_r : Reached) (v0_0 : Sv) (v0_1 : Sv) (v0_2 : Sv) (R : Reached) (hF : s_l8Copy a_r = some R) :
   Fw.Spec Tryz.prog 80 [(.agg [v0_0.v, v0_1.v, v0_2.v, (.int .i64 a_r.Rounds)].toArray)] [crd (RdS 58 rd58) v0_0.v a_r.Facts, crd (RdS 3 rdInt) v0_1.v a_r.Values, crd (RdS 54 rd54) v0_2.v a_r.Log] (fun p : Sv × List Nat × Sv × List Nat × Sv × List Nat => (.agg [p.1.v, p.2.2.1.v, p.2.2.2.2.1.v, (.int .i64 R.Rounds)].toArray)) (fun p => [cown (OwnS 58 ow58) p.2.1 p.1.v R.Facts, cown (OwnS 3 (roE rdInt)) p.2.2.2.1 p.2.2.1.v R.Values, cown (OwnS 54 ow54) p.2.2.2.2.2 p.2.2.2.2.1.v R.Log]) := by
 refine Se 19 Tryz.func80 [.cell 2 46] ?_
 intro H0 F0
 unfold s_l8Copy at hF
 refine au ?_
 refine AbR (fun k1 => ?_)
 refine AnW (fun k2 => ?_)
 refine au ?_
 refine K_draw [0, 1, 3, 4, 5, 7, 8, 10, 2, 6, 9, 11] [0, 1, 3, 0, 0, 16, 63, 0, 128, 511, 0, 2047] [2, 6, 11] mixed (by decide +kernel) ?_
 iterate 2 refine du ?_
 refine D_new rfl .no rfl (fun ha => N_buildSliceT (g := true) (len := 0) (parts := []) sl24.h ty3.h .nil (vs := []) rfl rfl rfl (by simp)) (fun k3 => ?_)
 refine Dv1 (.cons .h .nil) (own_lit (Ro := (roE rdInt)) (E := 3) (F := []) (xs := ([] : List Int)) MkL_nil rfl rfl) ?_
 iterate 4 refine du ?_
 refine D_new rfl .no rfl (fun ha => N_allocT (g := true) ty46.h rfl rfl) (fun k4 => ?_)
 refine bnd hF fun r5 hx6 hF => D_act1 rfl rfl .no (.rd (.t (.t (.t (.t .h)))) rfl .nil) (.own .h (fun _ h => h) (.own (.t .h) (by simp [cown]) .nil)) (fun ha => X_callS cf84.h (.cons (EN ha (.tmp rfl rfl) rfl) .nil) (s_l2Copy_ok a_r.Facts v0_0 _ hx6)) (fun p7 => ?_)
 refine bnd hF fun z8 hx9 hF => D_act1 rfl rfl .no (.cons (.t (.t .h)) (.rd (.t (.t (.t (.t (.t .h))))) rfl .nil)) (.own (.t .h) (fun _ h => h) (.dep rfl .nil)) (fun ha => X_appendO (Ro := (roE rdInt)) sl24.h ni24 ty3.h rfl rfl rfl (EN ha (.tmp rfl rfl) rfl) (EN ha (.tmp rfl rfl) rfl) hx9 src_rd) (fun p10 => ?_)
 refine D_val rfl .no (fun ha => V_build ty46.h rfl (vs := [p7.1.v, p10.1.v, (.int .i64 a_r.Rounds)]) (.cons (EN ha (.tmp rfl rfl) rfl) (.cons (EN ha (.tmp rfl rfl) rfl) (.cons (EN ha (.tmp rfl rfl) rfl) .nil))) (cells := [p7.1.v, p10.1.v, (.slice none 0 0), (.int .i64 a_r.Rounds)]) rfl) ?_
 refine D_act1 rfl rfl .no (.cons (.t (.t .h)) .nil) (.dep rfl (.dep rfl .nil)) (fun ha => X_storeB (e' := (.agg [p7.1.v, p10.1.v, (.slice none 0 0), (.int .i64 a_r.Rounds)].toArray)) (v := (.agg [p7.1.v, p10.1.v, (.slice none 0 0), (.int .i64 a_r.Rounds)].toArray)) ty46.h.sz (EN ha (.tmp rfl rfl) rfl) (EN ha (.tmp rfl rfl) rfl) rfl rfl rfl rfl rfl) (fun _ => ?_)
 refine du ?_
 iterate 3 refine au ?_
 refine bnd hF fun r11 hx12 hF => Cx1 (s_l8Log_ok _ _ _ hx12) (fun p13 => ?_)
 refine au ?_
 refine As (.agg [p7.1.v, p10.1.v, p13.1.v, (.int .i64 a_r.Rounds)].toArray) ?_
 iterate 3 refine au ?_
 refine As (.agg [p7.1.v, p10.1.v, p13.1.v, (.int .i64 a_r.Rounds)].toArray) ?_
 iterate 2 refine au ?_
 cases hF
 exact Er (p7.1, p7.2, p10.1, p10.2, p13.1, p13.2)
def s_l8Lists_L5 (c207 : List (List Int)) (c212 : Int) : List Int → Nat → (List (List Int)) → Option ((List (List Int)))
 | [], k229, c223 => some c223
 | x231 :: rest230, k229, c223 => (ix c207 c212).bind fun x239 =>
   (app ([] : List Int) x239).bind fun z249 =>
   (app z249 ([x231] : List Int)).bind fun z252 =>
   (app c223 ([z252] : List (List Int))).bind fun z256 =>
   s_l8Lists_L5 c207 c212 rest230 (k229 + 1) z256
def s_l8Lists_L2 (a_values : List Int) : Nat → (List (List Int)) → (List (List Int)) → Int → Option ((List (List Int)))
 | 0, _, _, _ => none
 | m213 + 1, c207, c209, c212 => if (decide ((c212 : Int) < (c207.length : Int))) then (
     (s_l8Lists_L5 c207 c212 a_values 0 c209).bind fun o221 =>
     match o221 with
     | c260 => s_l8Lists_L2 a_values m213 c207 c260 (IntKind.i64.wrap (c212 + 1)))
   else (
     some c209)
def s_l8Lists_L1 (a_values : List Int) (a_n : Int) : Nat → (List (List Int)) → Int → Option ((List (List Int)))
 | 0, _, _ => none
 | m7 + 1, c3, c6 => if (decide ((c6 : Int) < a_n)) then (
     (s_l8Lists_L2 a_values (((c3.length : Int) - 0).toNat + 2) c3 ([] : List (List Int)) 0).bind fun o15 =>
     match o15 with
     | c265 => s_l8Lists_L1 a_values a_n m7 c265 (IntKind.i64.wrap (c6 + 1)))
   else (
     some c3)
def s_l8Lists (a_values : List Int) (a_n : Int) : Option ((List (List Int))) :=
 s_l8Lists_L1 a_values a_n ((a_n - 0).toNat + 2) ([([] : List Int)] : List (List Int)) 0
theorem s_l8Lists_ok (a_values : List Int) (v0_0 : Sv) (a_n : Int) (R : (List (List Int))) (hF : s_l8Lists a_values a_n = some R) :
   Fw.Spec Tryz.prog 175 [v0_0.v, (.int .i64 a_n)] [crd (RdS 3 rdInt) v0_0.v a_values] (fun p : Sv × List Nat => p.1.v) (fun p => [cown (OwnS 24 (OwnS 3 (roE rdInt))) p.2 p.1.v R]) := by
 refine Se 47 Tryz.func175 [.tmp 4] ?_
 intro H0 F0
 unfold s_l8Lists at hF
 iterate 4 refine au ?_
 refine C_new rfl (N_buildSliceT (g := true) sl24.h ty3.h .nil (vs := []) rfl rfl rfl (by simp)) (fun k1 => ?_)
 refine Cv1 (.cons .h .nil) (own_lit (Ro := (roE rdInt)) (E := 3) (F := []) (xs := ([] : List Int)) MkL_nil rfl rfl) ?_
 refine C_new rfl (N_buildSliceT (g := true) sl38.h ty24.h (.cons (.tmp rfl rfl) .nil) (vs := [(.slice (some ⟨k1, 0, none⟩) 0 1)]) rfl rfl rfl (by intro v hv; simp at hv; rcases hv with rfl <;> rfl)) (fun k2 => ?_)
 refine Cv1 (.cons .h (.cons .h .nil)) (own_lit (Ro := (OwnS 3 (roE rdInt))) (E := 24) (F := ((k1 :: []) ++ [])) (xs := ([([] : List Int)] : List (List Int))) (MkL_cons Mk_own MkL_nil apps) rfl rfl) ?_
 iterate 6 refine au ?_
 refine CW_block (CW_loop (m := ((a_n - 0).toNat + 2)) (fun m7 f' cs' => ∃ (g : Fr) (c3 : List (List Int)) (c6 : Int) (v4 : Sv) (F5 : List Nat), f' = updL g [(0, v0_0.v), (1, (.int .i64 a_n)), (5, v4.v), (6, (.int .i64 c6))] ∧ Ent cs' [crd (RdS 3 rdInt) v0_0.v a_values, cown (OwnS 24 (OwnS 3 (roE rdInt))) F5 v4.v c3] ∧ s_l8Lists_L1 a_values a_n m7 c3 c6 = some R) ⟨_, _, _, ⟨(some ⟨k2, 0, none⟩), 1, 1⟩, (k2 :: ((k1 :: []) ++ [])), eqA, entA, hF⟩ ?_)
 rintro m7 _ _ ⟨g8, c3, c6, v4, F5, rfl, hE, hF⟩
 refine K_ent hE ?_
 rcases m7 with _ | m7
 · rw [s_l8Lists_L1] at hF
   exact absurd hF (by simp)
 rw [s_l8Lists_L1] at hF
 iterate 6 refine au ?_
 refine Ci hF (fun hb269 hF => ?_) (fun hb269 hF => ?_)
 · refine au ?_
   obtain ⟨o15, hio15, hO16⟩ := bind_some hF
   refine K_cut (fun f' cs' => ∃ (c265 : List (List Int)) (v266 : Sv) (F267 : List Nat) (g : Fr), c265 = o15 ∧ f' = updL g [(0, v0_0.v), (1, (.int .i64 a_n)), (5, v266.v), (6, (.int .i64 c6))] ∧ Ent cs' [crd (RdS 3 rdInt) v0_0.v a_values, cown (OwnS 24 (OwnS 3 (roE rdInt))) F267 v266.v c265]) ?_ ?_
   · replace hF := hio15
     refine CW_block (K_region (C_new rfl (N_buildSliceT (g := true) sl38.h ty24.h .nil (vs := []) rfl rfl rfl (by simp)) (fun k17 => ?_)))
     refine Cv1 (.cons .h .nil) (own_lit (Ro := (OwnS 3 (roE rdInt))) (E := 24) (F := []) (xs := ([] : List (List Int))) MkL_nil rfl rfl) ?_
     iterate 6 refine au ?_
     refine CW_block (CW_loop (m := (((c3.length : Int) - 0).toNat + 2)) (fun m213 f' cs' => ∃ (g : Fr) (c207 : List (List Int)) (c209 : List (List Int)) (c212 : Int) (v208 : Sv) (v210 : Sv) (F211 : List Nat), f' = updL g [(0, v0_0.v), (1, (.int .i64 a_n)), (5, v208.v), (6, (.int .i64 c6)), (7, v210.v), (8, (.int .i64 c212))] ∧ Ent cs' [crd (RdS 3 rdInt) v0_0.v a_values, crd (RdS 24 (RdS 3 rdInt)) v208.v c207, cown (OwnS 24 (OwnS 3 (roE rdInt))) F211 v210.v c209] ∧ s_l8Lists_L2 a_values m213 c207 c209 c212 = some o15) ⟨_, _, _, _, v4, ⟨(some ⟨k17, 0, none⟩), 0, 1⟩, (k17 :: []), eqA, (.frz (.t (.t .h)) frz_own entA), hF⟩ ?_)
     rintro m213 _ _ ⟨g214, c207, c209, c212, v208, v210, F211, rfl, hE, hF⟩
     refine K_ent hE ?_
     rcases m213 with _ | m213
     · rw [s_l8Lists_L2] at hF
       exact absurd hF (by simp)
     rw [s_l8Lists_L2] at hF
     iterate 7 refine au ?_
     refine Ci hF (fun hb264 hF => ?_) (fun hb264 hF => ?_)
     · refine au ?_
       obtain ⟨o221, hio221, hO222⟩ := bind_some hF
       refine K_cut (fun f' cs' => ∃ (c260 : List (List Int)) (v261 : Sv) (F262 : List Nat) (g : Fr), c260 = o221 ∧ f' = updL g [(0, v0_0.v), (1, (.int .i64 a_n)), (5, v208.v), (6, (.int .i64 c6)), (7, v261.v), (8, (.int .i64 c212))] ∧ Ent cs' [crd (RdS 3 rdInt) v0_0.v a_values, crd (RdS 24 (RdS 3 rdInt)) v208.v c207, cown (OwnS 24 (OwnS 3 (roE rdInt))) F262 v261.v c260]) ?_ ?_
       · replace hF := hio221
         refine CW_block (K_region (C_val (V_assign (v := (.int .i64 0)) (.int _ _)) ?_))
         refine au ?_
         refine CW_block (CW_loop (m := a_values.length) (fun m227 f' cs' => ∃ (g : Fr) (k229 : Nat) (rest230 : List Int) (c223 : List (List Int)) (v224 : Sv) (F225 : List Nat), m227 = rest230.length ∧ f' = updL g [(0, v0_0.v), (1, (.int .i64 a_n)), (5, v208.v), (6, (.int .i64 c6)), (7, v224.v), (8, (.int .i64 c212)), (9, (.int .i64 (k229 : Int)))] ∧ List.drop k229 a_values = rest230 ∧ Ent cs' [crd (RdS 3 rdInt) v0_0.v a_values, crd (RdS 24 (RdS 3 rdInt)) v208.v c207, cown (OwnS 24 (OwnS 3 (roE rdInt))) F225 v224.v c223] ∧ s_l8Lists_L5 c207 c212 rest230 k229 c223 = some o221) ⟨_, 0, _, _, v210, F211, rfl, eqA, rfl, entA, hF⟩ ?_)
         rintro m227 _ _ ⟨g228, k229, rest230, c223, v224, F225, rfl, rfl, hd232, hE, hF⟩
         refine Kb hE a_values (fun hbd237 => ?_)
         rcases rest230 with _ | ⟨x231, rest230⟩
         · have hk233 := dn hd232
           rw [s_l8Lists_L5] at hF
           iterate 7 refine au ?_
           refine CdF ?_
           iterate 4 refine au ?_
           cases hF
           exact ⟨_, v224, F225, _, rfl, eqA, entA⟩
         obtain ⟨hk233, hx234, hd235⟩ := drop_cons hd232
         rw [s_l8Lists_L5] at hF
         iterate 7 refine au ?_
         refine CdT ?_
         iterate 2 refine au ?_
         refine CW_draw [0, 1, 2, 3, 4, 5, 7, 8, 9, 10, 11, 6, 12, 13, 14, 15] [0, 0, 0, 0, 12, 28, 62, 0, 0, 384, 896, 1920, 4094, 8190, 16383, 32767] [6, 12, 14] mixed (by decide +kernel) ?_
         refine du ?_
         refine D_new rfl .no rfl (fun ha => N_buildSliceT (g := true) (len := 0) (parts := []) sl24.h ty3.h .nil (vs := []) rfl rfl rfl (by simp)) (fun k238 => ?_)
         refine Dv1 (.cons .h .nil) (own_lit (Ro := (roE rdInt)) (E := 3) (F := []) (xs := ([] : List Int)) MkL_nil rfl rfl) ?_
         iterate 2 refine du ?_
         refine bnd hF fun x239 hx240 hF => ?_
         obtain ⟨hp241, hx242⟩ := ix_some hx240
         refine Di hx242 (fun k243 j244 => ?_)
         refine D_ldV (R' := (RdS 3 rdInt)) ag24.h rfl .no (.tmp rfl rfl) rfl .h lv24_0 (fun w245 => ?_)
         iterate 2 refine du ?_
         refine Di hx234 (fun k246 j247 => ?_)
         refine Dl ls3_0 ?_
         refine D_new rfl .no rfl (fun ha => N_buildSliceT (g := true) (len := 1) (parts := [(0, .tmp 40)]) sl24.h ty3.h (.cons (EN ha (.tmp rfl rfl) rfl) .nil) (vs := [(.int .i64 x231)]) rfl rfl rfl (by intro v hv; simp at hv; rcases hv with rfl <;> rfl)) (fun k248 => ?_)
         refine Dv1 (.cons .h .nil) (own_lit (Ro := (roE rdInt)) (E := 3) (F := ([] ++ [])) (xs := ([x231] : List Int)) (MkL_cons (Mk_pure (fun _ => rfl)) MkL_nil apps) rfl rfl) ?_
         refine bnd hF fun z249 hx250 hF => D_act1 rfl rfl .no (.cons (.t (.t (.t (.t .h)))) (.rd (.t (.t .h)) rfl .nil)) (.own .h (by simp [cown]) (.dep rfl .nil)) (fun ha => X_appendO (Ro := (roE rdInt)) sl24.h ni24 ty3.h rfl rfl rfl (EN ha (.tmp rfl rfl) rfl) (EN ha (.tmp rfl rfl) rfl) hx250 src_rd) (fun p251 => ?_)
         refine bnd hF fun z252 hx253 hF => D_act1 rfl rfl .no (.cons .h (.cons .h .nil)) (.dep rfl (.dep rfl .nil)) (fun ha => X_appendO (Ro := (roE rdInt)) sl24.h ni24 ty3.h rfl rfl rfl (EN ha (.tmp rfl rfl) rfl) (EN ha (.tmp rfl rfl) rfl) hx253 src_own) (fun p254 => ?_)
         refine D_new rfl .no rfl (fun ha => N_buildSliceT (g := true) (len := 1) (parts := [(0, .tmp 42)]) sl38.h ty24.h (.cons (EN ha (.tmp rfl rfl) rfl) .nil) (vs := [p254.1.v]) rfl rfl rfl (by intro v hv; simp at hv; rcases hv with rfl <;> rfl)) (fun k255 => ?_)
         refine Dv1 (.cons .h (.cons .h .nil)) (own_lit (Ro := (OwnS 3 (roE rdInt))) (E := 24) (F := (p254.2 ++ [])) (xs := ([z252] : List (List Int))) (MkL_cons Mk_own MkL_nil apps) rfl rfl) ?_
         refine bnd hF fun z256 hx257 hF => D_act1 rfl rfl .no (.cons (.t (.t (.t (.t (.t (.t .h)))))) (.cons .h .nil)) (.dep rfl (.dep rfl (.dep rfl .nil))) (fun ha => X_appendO (Ro := (OwnS 3 (roE rdInt))) sl38.h ni38 ty24.h rfl rfl rfl (EN ha (.tmp rfl rfl) rfl) (EN ha (.tmp rfl rfl) rfl) hx257 src_own) (fun p258 => ?_)
         iterate 2 refine du ?_
         iterate 5 refine au ?_
         rw [wk k229]
         exact ⟨_, Nat.lt_succ_self _, _, k229 + 1, rest230, _, p258.1, p258.2, rfl, eqA, hd235, entA, hF⟩
       rintro _ _ ⟨c260, v261, F262, g263, rfl, rfl, hE⟩
       replace hF := hO222
       try dsimp only at hF
       refine K_ent hE ?_
       iterate 5 refine au ?_
       exact ⟨m213, Nat.lt_succ_self _, _, _, _, _, v208, v261, F262, eqA, entA, hF⟩
     iterate 8 refine au ?_
     cases hF
     exact ⟨_, v210, F211, _, rfl, eqA, entA⟩
   rintro _ _ ⟨c265, v266, F267, g268, rfl, rfl, hE⟩
   replace hF := hO16
   try dsimp only at hF
   refine K_ent hE ?_
   iterate 5 refine au ?_
   exact ⟨m7, Nat.lt_succ_self _, _, _, _, v266, F267, eqA, entA, hF⟩
 iterate 9 refine au ?_
 cases hF
 exact Er (v4, F5)
def s_l2Ints_L1 (a_b : List Int) : List Int → Nat → Option (Bool)
 | [], k4 => some true
 | x6 :: rest5, k4 => (ix a_b (k4 : Int)).bind fun x15 =>
   if ((x6 : Int) != x15) then (
     some false)
   else (
     s_l2Ints_L1 a_b rest5 (k4 + 1))
def s_l2Ints (a_a : List Int) (a_b : List Int) : Option (Bool) :=
 if (((a_a.length : Int) : Int) != (a_b.length : Int)) then (
   some false)
 else (
   s_l2Ints_L1 a_b a_a 0)
theorem s_l2Ints_ok (a_a : List Int) (v0_0 : Sv) (a_b : List Int) (v1_0 : Sv) (R : Bool) (hF : s_l2Ints a_a a_b = some R) :
   Fw.Spec Tryz.prog 49 [v0_0.v, v1_0.v] [crd (RdS 3 rdInt) v0_0.v a_a, crd (RdS 3 rdInt) v1_0.v a_b] (fun _ : Unit => (.bool R)) (fun _ => []) := by
 refine Se 26 Tryz.func49 [.tmp 4] ?_
 intro H0 F0
 unfold s_l2Ints at hF
 iterate 11 refine au ?_
 refine Ci hF (fun hb23 hF => ?_) (fun hb23 hF => ?_)
 · iterate 4 refine au ?_
   cases hF
   exact Er ()
 iterate 5 refine au ?_
 refine CW_block (CW_loop (m := a_a.length) (fun m2 f' cs' => ∃ (g : Fr) (k4 : Nat) (rest5 : List Int), m2 = rest5.length ∧ f' = updL g [(0, v0_0.v), (1, v1_0.v), (5, (.int .i64 (k4 : Int)))] ∧ List.drop k4 a_a = rest5 ∧ Ent cs' [crd (RdS 3 rdInt) v0_0.v a_a, crd (RdS 3 rdInt) v1_0.v a_b] ∧ s_l2Ints_L1 a_b rest5 k4 = some R) ⟨_, 0, _, rfl, eqA, rfl, entA, hF⟩ ?_)
 rintro m2 _ _ ⟨g3, k4, rest5, rfl, rfl, hd7, hE, hF⟩
 refine Kb hE a_a (fun hbd12 => ?_)
 rcases rest5 with _ | ⟨x6, rest5⟩
 · have hk8 := dn hd7
   rw [s_l2Ints_L1] at hF
   iterate 7 refine au ?_
   refine CdF ?_
   iterate 8 refine au ?_
   cases hF
   exact Er ()
 obtain ⟨hk8, hx9, hd10⟩ := drop_cons hd7
 rw [s_l2Ints_L1] at hF
 iterate 7 refine au ?_
 refine CdT ?_
 iterate 2 refine au ?_
 refine K_draw [0, 1, 2, 3, 4, 5, 6, 7, 8] [0, 0, 3, 7, 0, 0, 48, 112, 255] [] mixed (by decide +kernel) ?_
 iterate 2 refine du ?_
 refine Di hx9 (fun k13 j14 => ?_)
 refine Dl ls3_0 ?_
 iterate 2 refine du ?_
 refine bnd hF fun x15 hx16 hF => ?_
 obtain ⟨hp17, hx18⟩ := ix_some hx16
 refine Di hx18 (fun k19 j20 => ?_)
 refine Dl ls3_0 ?_
 iterate 2 refine du ?_
 refine Ci hF (fun hb22 hF => ?_) (fun hb22 hF => ?_)
 · iterate 4 refine au ?_
   cases hF
   exact Er ()
 iterate 6 refine au ?_
 rw [wk k4]
 exact ⟨_, Nat.lt_succ_self _, _, k4 + 1, rest5, rfl, eqA, hd10, entA, hF⟩
def s_l5Same (a_a : Access) (a_b : Access) : Option (Bool) :=
 (bif ((a_a.Method : Int) == a_b.Method) then ((s_l2Ints a_a.Values a_b.Values).bind fun r6 =>
     some r6)
   else (some false)).bind fun o3 =>
 match o3 with
 | c9 => some c9
theorem s_l5Same_ok (a_a : Access) (v0_1 : Sv) (a_b : Access) (v1_1 : Sv) (R : Bool) (hF : s_l5Same a_a a_b = some R) :
   Fw.Spec Tryz.prog 122 [(.agg [(.int .i64 a_a.Method), v0_1.v].toArray), (.agg [(.int .i64 a_b.Method), v1_1.v].toArray)] [crd (RdS 3 rdInt) v0_1.v a_a.Values, crd (RdS 3 rdInt) v1_1.v a_b.Values] (fun _ : Unit => (.bool R)) (fun _ => []) := by
 refine Se 17 Tryz.func122 [.tmp 4] ?_
 intro H0 F0
 unfold s_l5Same at hF
 refine au ?_
 refine AbR (fun k1 => ?_)
 refine AbR (fun k2 => ?_)
 iterate 2 refine au ?_
 obtain ⟨o3, hio3, hO4⟩ := bind_some hF
 refine au ?_
 refine C_cut (fun f' cs' => ∃ (c9 : Bool) (g : Fr), c9 = o3 ∧ f' = updL g [(4, (.bool c9))] ∧ Ent cs' []) ?_ ?_
 · replace hF := hio3
   iterate 6 refine au ?_
   rcases Bool.eq_false_or_eq_true ((a_a.Method : Int) == a_b.Method) with hg5 | hg5
   · rw [hg5]
     try rw [hg5] at hF; dsimp only [cond_true, cond_false] at hF
     iterate 9 refine au ?_
     refine bnd hF fun r6 hx7 hF => Cx0 (s_l2Ints_ok _ _ _ _ _ hx7) (fun _ => ?_)
     iterate 3 refine au ?_
     cases hF
     exact ⟨_, _, rfl, eqA, entA⟩
   rw [hg5]
   try rw [hg5] at hF; dsimp only [cond_true, cond_false] at hF
   iterate 8 refine au ?_
   cases hF
   exact ⟨_, _, rfl, eqA, entA⟩
 rintro _ _ ⟨c9, g10, rfl, rfl, hE⟩
 replace hF := hO4
 try dsimp only at hF
 refine K_ent hE ?_
 refine au ?_
 cases hF
 exact Er ()
def s_l7Logged_L1 (a_a : Access) : List Access → Nat → Option (Bool)
 | [], k5 => some false
 | x7 :: rest6, k5 => (s_l5Same x7 a_a).bind fun r17 =>
   if r17 then (
     some true)
   else (
     s_l7Logged_L1 a_a rest6 (k5 + 1))
def s_l7Logged (a_log : List Access) (a_a : Access) : Option (Bool) :=
 s_l7Logged_L1 a_a a_log 0
theorem s_l7Logged_ok (a_log : List Access) (v0_0 : Sv) (a_a : Access) (v1_1 : Sv) (R : Bool) (hF : s_l7Logged a_log a_a = some R) :
   Fw.Spec Tryz.prog 176 [v0_0.v, (.agg [(.int .i64 a_a.Method), v1_1.v].toArray)] [crd (RdS 54 rd54) v0_0.v a_log, crd (RdS 3 rdInt) v1_1.v a_a.Values] (fun _ : Unit => (.bool R)) (fun _ => []) := by
 refine Se 18 Tryz.func176 [.tmp 4] ?_
 intro H0 F0
 unfold s_l7Logged at hF
 refine au ?_
 refine AbR (fun k1 => ?_)
 iterate 6 refine au ?_
 refine CW_block (CW_loop (m := a_log.length) (fun m3 f' cs' => ∃ (g : Fr) (k5 : Nat) (rest6 : List Access), m3 = rest6.length ∧ f' = updL g [(0, v0_0.v), (3, (pz k1)), (5, (.int .i64 (k5 : Int)))] ∧ List.drop k5 a_log = rest6 ∧ Ent cs' [crd (RdS 54 rd54) v0_0.v a_log, cboR k1 54 (.agg [(.int .i64 a_a.Method), v1_1.v].toArray), crd (RdS 3 rdInt) v1_1.v a_a.Values] ∧ s_l7Logged_L1 a_a rest6 k5 = some R) ⟨_, 0, _, rfl, eqA, rfl, entA, hF⟩ ?_)
 rintro m3 _ _ ⟨g4, k5, rest6, rfl, rfl, hd8, hE, hF⟩
 refine Kb hE a_log (fun hbd13 => ?_)
 rcases rest6 with _ | ⟨x7, rest6⟩
 · have hk9 := dn hd8
   rw [s_l7Logged_L1] at hF
   iterate 7 refine au ?_
   refine CdF ?_
   iterate 8 refine au ?_
   cases hF
   exact Er ()
 obtain ⟨hk9, hx10, hd11⟩ := drop_cons hd8
 rw [s_l7Logged_L1] at hF
 iterate 7 refine au ?_
 refine CdT ?_
 iterate 2 refine au ?_
 refine K_draw [0, 1, 2, 3, 4, 5] [0, 0, 3, 7, 0, 31] [5] mixed (by decide +kernel) ?_
 iterate 2 refine du ?_
 refine Di hx10 (fun k14 j15 => ?_)
 refine DlA1 (ul54_0_54 x7) la54_0_54 (fun p16 => ?_)
 refine du ?_
 refine bnd hF fun r17 hx18 hF => Dx0 (s_l5Same_ok _ _ _ _ _ hx18) (fun _ => ?_)
 refine du ?_
 refine Ci hF (fun hb21 hF => ?_) (fun hb21 hF => ?_)
 · iterate 4 refine au ?_
   cases hF
   exact Er ()
 iterate 6 refine au ?_
 rw [wk k5]
 exact ⟨_, Nat.lt_succ_self _, _, k5 + 1, rest6, rfl, eqA, hd11, entA, hF⟩
def s_l8Open_L2 (a_r : Reached) (k9 : Nat) : List (List Int) → Nat → (List Access) → Option ((List Access))
 | [], k70, c64 => some c64
 | x72 :: rest71, k70, c64 => ((s_l8Access (k9 : Int) x72).bind fun r84 =>
     (s_l7Logged a_r.Log r84).bind fun r88 =>
     if (!r88) then (
       (app c64 ([r84] : List Access)).bind fun z92 =>
       some z92)
     else (
       some c64)).bind fun o79 =>
   match o79 with
   | c96 => s_l8Open_L2 a_r k9 rest71 (k70 + 1) c96
def s_l8Open_L1 (a_r : Reached) : List Method → Nat → (List Access) → Option ((List Access))
 | [], k9, c3 => some c3
 | x11 :: rest10, k9, c3 => (if ((x11.Limit : Int) != 0) then (
       some c3)
     else (
       (s_l8Lists a_r.Values (x11.Inputs.length : Int)).bind fun r25 =>
       s_l8Open_L2 a_r k9 r25 0 c3)).bind fun o18 =>
   match o18 with
   | c102 => s_l8Open_L1 a_r rest10 (k9 + 1) c102
def s_l8Open (a_l : List Method) (a_r : Reached) : Option ((List Access)) :=
 s_l8Open_L1 a_r a_l 0 ([] : List Access)
theorem s_l8Open_ok (a_l : List Method) (v0_0 : Sv) (a_r : Reached) (v1_0 : Sv) (v1_1 : Sv) (v1_2 : Sv) (R : (List Access)) (hF : s_l8Open a_l a_r = some R) :
   Fw.Spec Tryz.prog 137 [v0_0.v, (.agg [v1_0.v, v1_1.v, v1_2.v, (.int .i64 a_r.Rounds)].toArray)] [crd (RdS 97 rd97) v0_0.v a_l, crd (RdS 58 rd58) v1_0.v a_r.Facts, crd (RdS 3 rdInt) v1_1.v a_r.Values, crd (RdS 54 rd54) v1_2.v a_r.Log] (fun p : Sv × List Nat => p.1.v) (fun p => [cown (OwnS 54 ow54) p.2 p.1.v R]) := by
 refine Se 54 Tryz.func137 [.tmp 4] ?_
 intro H0 F0
 unfold s_l8Open at hF
 refine au ?_
 refine AbR (fun k1 => ?_)
 iterate 3 refine au ?_
 refine C_new rfl (N_buildSliceT (g := true) sl44.h ty54.h .nil (vs := []) rfl rfl rfl (by simp)) (fun k2 => ?_)
 refine Cv1 (.cons .h .nil) (own_lit (Ro := ow54) (E := 54) (F := []) (xs := ([] : List Access)) MkL_nil rfl rfl) ?_
 iterate 6 refine au ?_
 refine CW_block (CW_loop (m := a_l.length) (fun m7 f' cs' => ∃ (g : Fr) (k9 : Nat) (rest10 : List Method) (c3 : List Access) (v4 : Sv) (F5 : List Nat), m7 = rest10.length ∧ f' = updL g [(0, v0_0.v), (3, (pz k1)), (5, v4.v), (6, (.int .i64 (k9 : Int)))] ∧ List.drop k9 a_l = rest10 ∧ Ent cs' [crd (RdS 97 rd97) v0_0.v a_l, cboR k1 46 (.agg [v1_0.v, v1_1.v, v1_2.v, (.int .i64 a_r.Rounds)].toArray), crd (RdS 58 rd58) v1_0.v a_r.Facts, crd (RdS 3 rdInt) v1_1.v a_r.Values, crd (RdS 54 rd54) v1_2.v a_r.Log, cown (OwnS 54 ow54) F5 v4.v c3] ∧ s_l8Open_L1 a_r rest10 k9 c3 = some R) ⟨_, 0, _, _, ⟨(some ⟨k2, 0, none⟩), 0, 1⟩, (k2 :: []), rfl, eqA, rfl, entA, hF⟩ ?_)
 rintro m7 _ _ ⟨g8, k9, rest10, c3, v4, F5, rfl, rfl, hd12, hE, hF⟩
 refine Kb hE a_l (fun hbd17 => ?_)
 rcases rest10 with _ | ⟨x11, rest10⟩
 · have hk13 := dn hd12
   rw [s_l8Open_L1] at hF
   iterate 7 refine au ?_
   refine CdF ?_
   iterate 9 refine au ?_
   cases hF
   exact Er (v4, F5)
 obtain ⟨hk13, hx14, hd15⟩ := drop_cons hd12
 rw [s_l8Open_L1] at hF
 iterate 7 refine au ?_
 refine CdT ?_
 refine au ?_
 obtain ⟨o18, hio18, hO19⟩ := bind_some hF
 refine K_cut (fun f' cs' => ∃ (c102 : List Access) (v103 : Sv) (F104 : List Nat) (g : Fr), c102 = o18 ∧ f' = updL g [(0, v0_0.v), (3, (pz k1)), (5, v103.v), (6, (.int .i64 (k9 : Int)))] ∧ Ent cs' [crd (RdS 97 rd97) v0_0.v a_l, cboR k1 46 (.agg [v1_0.v, v1_1.v, v1_2.v, (.int .i64 a_r.Rounds)].toArray), crd (RdS 58 rd58) v1_0.v a_r.Facts, crd (RdS 3 rdInt) v1_1.v a_r.Values, crd (RdS 54 rd54) v1_2.v a_r.Log, cown (OwnS 54 ow54) F104 v103.v c102]) ?_ ?_
 · replace hF := hio18
   refine CW_block (K_in (K_region (Cm v0_0.v rfl rfl ?_)))
   refine au ?_
   refine Ai hx14 (fun k20 j21 => ?_)
   refine au ?_
   refine Al ls97_2 ?_
   iterate 2 refine au ?_
   refine Ci hF (fun hb101 hF => ?_) (fun hb101 hF => ?_)
   · iterate 3 refine au ?_
     cases hF
     exact ⟨_, v4, F5, _, rfl, eqA, entA⟩
   refine au ?_
   refine K_draw [0, 1, 2, 3, 4, 5, 6, 7, 8, 9] [0, 1, 0, 0, 12, 28, 60, 124, 255, 511] [8] mixed (by decide +kernel) ?_
   iterate 4 refine du ?_
   refine Di hx14 (fun k22 j23 => ?_)
   refine du ?_
   refine D_ldV (R' := (RdS 3 rdInt)) ag24.h rfl .no (.tmp rfl rfl) rfl .h lv97_1 (fun w24 => ?_)
   refine du ?_
   refine bnd hF fun r25 hx26 hF => Dx1 (s_l8Lists_ok _ _ _ _ hx26) (fun p27 => ?_)
   iterate 2 refine du ?_
   iterate 3 refine au ?_
   refine CW_block (K_frz .h frz_own ?_)
   refine CW_loop (m := r25.length) (fun m68 f' cs' => ∃ (g : Fr) (k70 : Nat) (rest71 : List (List Int)) (c64 : List Access) (v65 : Sv) (F66 : List Nat), m68 = rest71.length ∧ f' = updL g [(0, v0_0.v), (3, (pz k1)), (5, v65.v), (6, (.int .i64 (k9 : Int))), (7, p27.1.v), (8, (.int .i64 (k70 : Int)))] ∧ List.drop k70 r25 = rest71 ∧ Ent cs' [crd (RdS 97 rd97) v0_0.v a_l, cboR k1 46 (.agg [v1_0.v, v1_1.v, v1_2.v, (.int .i64 a_r.Rounds)].toArray), crd (RdS 58 rd58) v1_0.v a_r.Facts, crd (RdS 3 rdInt) v1_1.v a_r.Values, crd (RdS 54 rd54) v1_2.v a_r.Log, cown (OwnS 54 ow54) F66 v65.v c64, crd (RdS 24 (RdS 3 rdInt)) p27.1.v r25] ∧ s_l8Open_L2 a_r k9 rest71 k70 c64 = some o18) ⟨_, 0, _, _, v4, F5, rfl, eqA, rfl, entA, hF⟩ ?_
   rintro m68 _ _ ⟨g69, k70, rest71, c64, v65, F66, rfl, rfl, hd73, hE, hF⟩
   refine Kb hE r25 (fun hbd78 => ?_)
   rcases rest71 with _ | ⟨x72, rest71⟩
   · have hk74 := dn hd73
     rw [s_l8Open_L2] at hF
     iterate 7 refine au ?_
     refine CdF ?_
     iterate 4 refine au ?_
     cases hF
     exact ⟨_, v65, F66, _, rfl, eqA, entA⟩
   obtain ⟨hk74, hx75, hd76⟩ := drop_cons hd73
   rw [s_l8Open_L2] at hF
   iterate 7 refine au ?_
   refine CdT ?_
   refine au ?_
   obtain ⟨o79, hio79, hO80⟩ := bind_some hF
   refine K_cut (fun f' cs' => ∃ (c96 : List Access) (v97 : Sv) (F98 : List Nat) (g : Fr), c96 = o79 ∧ f' = updL g [(0, v0_0.v), (3, (pz k1)), (5, v97.v), (6, (.int .i64 (k9 : Int))), (7, p27.1.v), (8, (.int .i64 (k70 : Int)))] ∧ Ent cs' [crd (RdS 97 rd97) v0_0.v a_l, cboR k1 46 (.agg [v1_0.v, v1_1.v, v1_2.v, (.int .i64 a_r.Rounds)].toArray), crd (RdS 58 rd58) v1_0.v a_r.Facts, crd (RdS 3 rdInt) v1_1.v a_r.Values, crd (RdS 54 rd54) v1_2.v a_r.Log, cown (OwnS 54 ow54) F98 v97.v c96, crd (RdS 24 (RdS 3 rdInt)) p27.1.v r25]) ?_ ?_
   · replace hF := hio79
     refine CW_block (K_region (Cm (.int .i64 (k9 : Int)) rfl rfl ?_))
     iterate 2 refine au ?_
     refine Ai hx75 (fun k81 j82 => ?_)
     refine C_ldV (R' := (RdS 3 rdInt)) ag24.h (.tmp rfl rfl) .h lv24_0 (fun w83 => ?_)
     refine bnd hF fun r84 hx85 hF => Cx1 (s_l8Access_ok _ _ _ _ hx85) (fun p86 => ?_)
     refine AnW (fun k87 => ?_)
     refine As (.agg [(.int .i64 r84.Method), p86.1.v].toArray) ?_
     iterate 5 refine au ?_
     refine bnd hF fun r88 hx89 hF => C_x1 (.cons (.t .h) (.rd (.t (.t (.t (.t (.t (.t (.t .h))))))) rfl .nil)) (XC_bor frz_own (fun _ => .nil) (XC_pre (.rd (.t .h) rfl (.rd .h rfl .nil)) (X_callS cf176.h (.cons (.tmp rfl rfl) (.cons (.tmp rfl rfl) .nil)) (s_l7Logged_ok a_r.Log v1_2 r84 p86.1 _ hx89)))) (fun _ => ?_)
     iterate 2 refine au ?_
     refine Ci hF (fun hb95 hF => ?_) (fun hb95 hF => ?_)
     · iterate 3 refine au ?_
       refine C_new rfl (N_buildSliceT (g := true) sl44.h ty54.h (.cons (.tmp rfl rfl) .nil) (vs := [(.agg [(.int .i64 r84.Method), p86.1.v].toArray)]) rfl rfl rfl (by intro v hv; simp at hv; rcases hv with rfl <;> rfl)) (fun k91 => ?_)
       refine Cv1 (.cons .h (.cons .h .nil)) (own_lit (Ro := ow54) (E := 54) (F := (p86.2 ++ [])) (xs := ([r84] : List Access)) (MkL_cons mk54 MkL_nil apps) rfl rfl) ?_
       refine bnd hF fun z92 hx93 hF => C_x1 (.cons (.t (.t (.t (.t (.t (.t (.t (.t (.t .h))))))))) (.cons .h .nil)) (X_appendO (Ro := ow54) sl44.h ni44 ty54.h rfl rfl rfl (.tmp rfl rfl) (.tmp rfl rfl) hx93 src_own) (fun p94 => ?_)
       iterate 2 refine au ?_
       cases hF
       exact ⟨_, p94.1, p94.2, _, rfl, eqA, entA⟩
     refine au ?_
     cases hF
     exact ⟨_, v65, F66, _, rfl, eqA, entA⟩
   rintro _ _ ⟨c96, v97, F98, g100, rfl, rfl, hE⟩
   replace hF := hO80
   try dsimp only at hF
   refine K_ent hE ?_
   iterate 5 refine au ?_
   rw [wk k70]
   exact ⟨_, Nat.lt_succ_self _, _, k70 + 1, rest71, _, v97, F98, rfl, eqA, hd76, entA, hF⟩
 rintro _ _ ⟨c102, v103, F104, g106, rfl, rfl, hE⟩
 replace hF := hO19
 try dsimp only at hF
 refine K_ent hE ?_
 iterate 5 refine au ?_
 rw [wk k9]
 exact ⟨_, Nat.lt_succ_self _, _, k9 + 1, rest10, _, v103, F104, rfl, eqA, hd15, entA, hF⟩
def s_l5Fits_L1 (a_values : List Int) (a_f : Fact) : List Int → Nat → Option (Bool)
 | [], k6 => some true
 | x8 :: rest7, k6 => (ix a_f.Values x8).bind fun x17 =>
   (ix a_values (k6 : Int)).bind fun x23 =>
   if ((x17 : Int) != x23) then (
     some false)
   else (
     s_l5Fits_L1 a_values a_f rest7 (k6 + 1))
def s_l5Fits (a_m : Method) (a_values : List Int) (a_f : Fact) : Option (Bool) :=
 if ((a_f.Rel : Int) != a_m.Rel) then (
   some false)
 else (
   s_l5Fits_L1 a_values a_f a_m.Inputs 0)
theorem s_l5Fits_ok (a_m : Method) (v0_1 : Sv) (a_values : List Int) (v1_0 : Sv) (a_f : Fact) (v2_1 : Sv) (R : Bool) (hF : s_l5Fits a_m a_values a_f = some R) :
   Fw.Spec Tryz.prog 133 [(.agg [(.int .i64 a_m.Rel), v0_1.v, (.int .i64 a_m.Limit), (.int .i64 a_m.Cost), (.int .i64 a_m.Quota)].toArray), v1_0.v, (.agg [(.int .i64 a_f.Rel), v2_1.v].toArray)] [crd (RdS 3 rdInt) v0_1.v a_m.Inputs, crd (RdS 3 rdInt) v1_0.v a_values, crd (RdS 3 rdInt) v2_1.v a_f.Values] (fun _ : Unit => (.bool R)) (fun _ => []) := by
 refine Se 34 Tryz.func133 [.tmp 6] ?_
 intro H0 F0
 unfold s_l5Fits at hF
 refine au ?_
 refine AbR (fun k1 => ?_)
 refine AbR (fun k2 => ?_)
 iterate 10 refine au ?_
 refine Ci hF (fun hb31 hF => ?_) (fun hb31 hF => ?_)
 · iterate 4 refine au ?_
   cases hF
   exact Er ()
 iterate 5 refine au ?_
 refine CW_block (CW_loop (m := a_m.Inputs.length) (fun m4 f' cs' => ∃ (g : Fr) (k6 : Nat) (rest7 : List Int), m4 = rest7.length ∧ f' = updL g [(1, v1_0.v), (3, (pz k1)), (5, (pz k2)), (7, (.int .i64 (k6 : Int)))] ∧ List.drop k6 a_m.Inputs = rest7 ∧ Ent cs' [crd (RdS 3 rdInt) v1_0.v a_values, cboR k1 97 (.agg [(.int .i64 a_m.Rel), v0_1.v, (.int .i64 a_m.Limit), (.int .i64 a_m.Cost), (.int .i64 a_m.Quota)].toArray), crd (RdS 3 rdInt) v0_1.v a_m.Inputs, cboR k2 58 (.agg [(.int .i64 a_f.Rel), v2_1.v].toArray), crd (RdS 3 rdInt) v2_1.v a_f.Values] ∧ s_l5Fits_L1 a_values a_f rest7 k6 = some R) ⟨_, 0, _, rfl, eqA, rfl, entA, hF⟩ ?_)
 rintro m4 _ _ ⟨g5, k6, rest7, rfl, rfl, hd9, hE, hF⟩
 refine Kb hE a_m.Inputs (fun hbd14 => ?_)
 rcases rest7 with _ | ⟨x8, rest7⟩
 · have hk10 := dn hd9
   rw [s_l5Fits_L1] at hF
   iterate 8 refine au ?_
   refine CdF ?_
   iterate 8 refine au ?_
   cases hF
   exact Er ()
 obtain ⟨hk10, hx11, hd12⟩ := drop_cons hd9
 rw [s_l5Fits_L1] at hF
 iterate 8 refine au ?_
 refine CdT ?_
 iterate 2 refine au ?_
 refine K_draw [0, 1, 2, 3, 4, 5, 6, 7, 8, 9, 10, 11, 12, 13] [0, 1, 0, 4, 0, 28, 60, 127, 255, 0, 0, 1536, 3584, 8191] [] mixed (by decide +kernel) ?_
 iterate 5 refine du ?_
 refine Di hx11 (fun k15 j16 => ?_)
 refine Dl ls3_0 ?_
 refine bnd hF fun x17 hx18 hF => ?_
 obtain ⟨hp19, hx20⟩ := ix_some hx18
 refine Di hx20 (fun k21 j22 => ?_)
 refine Dl ls3_0 ?_
 iterate 2 refine du ?_
 refine bnd hF fun x23 hx24 hF => ?_
 obtain ⟨hp25, hx26⟩ := ix_some hx24
 refine Di hx26 (fun k27 j28 => ?_)
 refine Dl ls3_0 ?_
 iterate 2 refine du ?_
 refine Ci hF (fun hb30 hF => ?_) (fun hb30 hF => ?_)
 · iterate 4 refine au ?_
   cases hF
   exact Er ()
 iterate 6 refine au ?_
 rw [wk k6]
 exact ⟨_, Nat.lt_succ_self _, _, k6 + 1, rest7, rfl, eqA, hd12, entA, hF⟩
def s_l5Matches_L1 (a_m : Method) (a_values : List Int) : List Fact → Nat → (List Fact) → Option ((List Fact))
 | [], k9, c3 => some c3
 | x11 :: rest10, k9, c3 => ((s_l5Fits a_m a_values x11).bind fun r23 =>
     if r23 then (
       (s_l2One x11.Rel x11.Values).bind fun r31 =>
       (app c3 ([r31] : List Fact)).bind fun z35 =>
       some z35)
     else (
       some c3)).bind fun o18 =>
   match o18 with
   | c39 => s_l5Matches_L1 a_m a_values rest10 (k9 + 1) c39
def s_l5Matches (a_m : Method) (a_values : List Int) (a_facts : List Fact) : Option ((List Fact)) :=
 s_l5Matches_L1 a_m a_values a_facts 0 ([] : List Fact)
theorem s_l5Matches_ok (a_m : Method) (v0_1 : Sv) (a_values : List Int) (v1_0 : Sv) (a_facts : List Fact) (v2_0 : Sv) (R : (List Fact)) (hF : s_l5Matches a_m a_values a_facts = some R) :
   Fw.Spec Tryz.prog 74 [(.agg [(.int .i64 a_m.Rel), v0_1.v, (.int .i64 a_m.Limit), (.int .i64 a_m.Cost), (.int .i64 a_m.Quota)].toArray), v1_0.v, v2_0.v] [crd (RdS 3 rdInt) v0_1.v a_m.Inputs, crd (RdS 3 rdInt) v1_0.v a_values, crd (RdS 58 rd58) v2_0.v a_facts] (fun p : Sv × List Nat => p.1.v) (fun p => [cown (OwnS 58 ow58) p.2 p.1.v R]) := by
 refine Se 38 Tryz.func74 [.tmp 6] ?_
 intro H0 F0
 unfold s_l5Matches at hF
 refine au ?_
 refine AbR (fun k1 => ?_)
 iterate 3 refine au ?_
 refine C_new rfl (N_buildSliceT (g := true) sl28.h ty58.h .nil (vs := []) rfl rfl rfl (by simp)) (fun k2 => ?_)
 refine Cv1 (.cons .h .nil) (own_lit (Ro := ow58) (E := 58) (F := []) (xs := ([] : List Fact)) MkL_nil rfl rfl) ?_
 iterate 6 refine au ?_
 refine CW_block (CW_loop (m := a_facts.length) (fun m7 f' cs' => ∃ (g : Fr) (k9 : Nat) (rest10 : List Fact) (c3 : List Fact) (v4 : Sv) (F5 : List Nat), m7 = rest10.length ∧ f' = updL g [(1, v1_0.v), (2, v2_0.v), (3, (pz k1)), (7, v4.v), (8, (.int .i64 (k9 : Int)))] ∧ List.drop k9 a_facts = rest10 ∧ Ent cs' [crd (RdS 3 rdInt) v1_0.v a_values, crd (RdS 58 rd58) v2_0.v a_facts, cboR k1 97 (.agg [(.int .i64 a_m.Rel), v0_1.v, (.int .i64 a_m.Limit), (.int .i64 a_m.Cost), (.int .i64 a_m.Quota)].toArray), crd (RdS 3 rdInt) v0_1.v a_m.Inputs, cown (OwnS 58 ow58) F5 v4.v c3] ∧ s_l5Matches_L1 a_m a_values rest10 k9 c3 = some R) ⟨_, 0, _, _, ⟨(some ⟨k2, 0, none⟩), 0, 1⟩, (k2 :: []), rfl, eqA, rfl, entA, hF⟩ ?_)
 rintro m7 _ _ ⟨g8, k9, rest10, c3, v4, F5, rfl, rfl, hd12, hE, hF⟩
 refine Kb hE a_facts (fun hbd17 => ?_)
 rcases rest10 with _ | ⟨x11, rest10⟩
 · have hk13 := dn hd12
   rw [s_l5Matches_L1] at hF
   iterate 7 refine au ?_
   refine CdF ?_
   iterate 9 refine au ?_
   cases hF
   exact Er (v4, F5)
 obtain ⟨hk13, hx14, hd15⟩ := drop_cons hd12
 rw [s_l5Matches_L1] at hF
 iterate 7 refine au ?_
 refine CdT ?_
 refine au ?_
 obtain ⟨o18, hio18, hO19⟩ := bind_some hF
 refine K_cut (fun f' cs' => ∃ (c39 : List Fact) (v40 : Sv) (F41 : List Nat) (g : Fr), c39 = o18 ∧ f' = updL g [(1, v1_0.v), (2, v2_0.v), (3, (pz k1)), (7, v40.v), (8, (.int .i64 (k9 : Int)))] ∧ Ent cs' [crd (RdS 3 rdInt) v1_0.v a_values, crd (RdS 58 rd58) v2_0.v a_facts, cboR k1 97 (.agg [(.int .i64 a_m.Rel), v0_1.v, (.int .i64 a_m.Limit), (.int .i64 a_m.Cost), (.int .i64 a_m.Quota)].toArray), crd (RdS 3 rdInt) v0_1.v a_m.Inputs, cown (OwnS 58 ow58) F41 v40.v c39]) ?_ ?_
 · replace hF := hio18
   refine CW_block (K_draw [0, 1, 2, 3, 4, 5, 6] [0, 0, 0, 0, 12, 28, 63] [6] mixed (by decide +kernel) ?_)
   iterate 4 refine du ?_
   refine Di hx14 (fun k20 j21 => ?_)
   refine DlA1 (ul58_0_58 x11) la58_0_58 (fun p22 => ?_)
   refine bnd hF fun r23 hx24 hF => Dx0 (s_l5Fits_ok _ _ _ _ _ _ _ hx24) (fun _ => ?_)
   refine du ?_
   refine Ci hF (fun hb38 hF => ?_) (fun hb38 hF => ?_)
   · refine CW_draw [0, 1, 2, 3, 4, 5, 6, 7, 8, 9, 10, 11, 12, 13, 14] [0, 0, 0, 6, 14, 30, 0, 0, 192, 448, 960, 2046, 4094, 8191, 16383] [11, 13] mixed (by decide +kernel) ?_
     iterate 3 refine du ?_
     refine Di hx14 (fun k26 j27 => ?_)
     refine du ?_
     refine Dl ls58_0 ?_
     iterate 2 refine du ?_
     refine Di hx14 (fun k28 j29 => ?_)
     refine du ?_
     refine D_ldV (R' := (RdS 3 rdInt)) ag24.h rfl .no (.tmp rfl rfl) rfl .h lv58_1 (fun w30 => ?_)
     refine bnd hF fun r31 hx32 hF => Dx1 (s_l2One_ok _ _ _ _ hx32) (fun p33 => ?_)
     refine D_new rfl .no rfl (fun ha => N_buildSliceT (g := true) (len := 1) (parts := [(0, .tmp 34)]) sl28.h ty58.h (.cons (EN ha (.tmp rfl rfl) rfl) .nil) (vs := [(.agg [(.int .i64 r31.Rel), p33.1.v].toArray)]) rfl rfl rfl (by intro v hv; simp at hv; rcases hv with rfl <;> rfl)) (fun k34 => ?_)
     refine Dv1 (.cons .h (.cons .h .nil)) (own_lit (Ro := ow58) (E := 58) (F := (p33.2 ++ [])) (xs := ([r31] : List Fact)) (MkL_cons mk58 MkL_nil apps) rfl rfl) ?_
     refine bnd hF fun z35 hx36 hF => D_act1 rfl rfl .no (.cons (.t (.t (.t (.t (.t (.t (.t (.t (.t (.t .h)))))))))) (.cons .h .nil)) (.dep rfl .nil) (fun ha => X_appendO (Ro := ow58) sl28.h ni28 ty58.h rfl rfl rfl (EN ha (.tmp rfl rfl) rfl) (EN ha (.tmp rfl rfl) rfl) hx36 src_own) (fun p37 => ?_)
     iterate 2 refine du ?_
     cases hF
     exact ⟨_, p37.1, p37.2, _, rfl, eqA, entA⟩
   refine au ?_
   cases hF
   exact ⟨_, v4, F5, _, rfl, eqA, entA⟩
 rintro _ _ ⟨c39, v40, F41, g43, rfl, rfl, hE⟩
 replace hF := hO19
 try dsimp only at hF
 refine K_ent hE ?_
 iterate 5 refine au ?_
 rw [wk k9]
 exact ⟨_, Nat.lt_succ_self _, _, k9 + 1, rest10, _, v40, F41, rfl, eqA, hd15, entA, hF⟩
def s_l8Step_L24 (x1188 : Fact) (r1200 : (List Fact)) : Nat → (List Int) → Int → Option ((List Fact) × (List Int))
 | 0, _, _ => none
 | m1231 + 1, c1227, c1230 => if (decide ((c1230 : Int) < (x1188.Values.length : Int))) then (
     (ix x1188.Values c1230).bind fun x1245 =>
     (s_l3Put c1227 x1245).bind fun r1251 =>
     s_l8Step_L24 x1188 r1200 m1231 r1251 (IntKind.i64.wrap (c1230 + 1)))
   else (
     some (r1200, c1227))
def s_l8Step_L21 (z986 : List Access) : List Fact → Nat → (List Fact) → (List Int) → Option ((List Fact) × (List Int) × (List Access))
 | [], k1186, c1177, c1180 => some (c1177, c1180, z986)
 | x1188 :: rest1187, k1186, c1177, c1180 => ((s_AddFact c1177 x1188).bind fun r1200 =>
     s_l8Step_L24 x1188 r1200 (((x1188.Values.length : Int) - 0).toNat + 2) c1180 0).bind fun o1195 =>
   match o1195 with
   | (c1255, c1258) => s_l8Step_L21 z986 rest1187 (k1186 + 1) c1255 c1258
def s_l8Step_L1 (a_l : List Method) (a_facts : List Fact) (a_r : Reached) (r3 : Reached) (r7 : (List Access)) : List Access → Nat → (List Fact) → (List Int) → (List Access) → Option (Reached × Bool)
 | [], k970, c958, c961, c964 => if (((r7.length : Int) : Int) == 0) then (
     some (({ Facts := c958, Values := c961, Log := c964, Rounds := r3.Rounds } : Reached), false))
   else (
     some (({ Facts := c958, Values := c961, Log := c964, Rounds := (IntKind.i64.wrap (a_r.Rounds + 1)) } : Reached), true))
 | x972 :: rest971, k970, c958, c961, c964 => ((app c964 ([x972] : List Access)).bind fun z986 =>
     (ix a_l x972.Method).bind fun x991 =>
     (s_l5Matches x991 x972.Values a_facts).bind fun r1001 =>
     s_l8Step_L21 z986 r1001 0 c958 c961).bind fun o980 =>
   match o980 with
   | (c1263, c1266, c1269) => s_l8Step_L1 a_l a_facts a_r r3 r7 rest971 (k970 + 1) c1263 c1266 c1269
def s_l8Step (a_l : List Method) (a_facts : List Fact) (a_r : Reached) : Option (Reached × Bool) :=
 (s_l8Copy a_r).bind fun r3 =>
 (s_l8Open a_l a_r).bind fun r7 =>
 s_l8Step_L1 a_l a_facts a_r r3 r7 r7 0 r3.Facts r3.Values r3.Log
theorem s_l8Step_ok (a_l : List Method) (v0_0 : Sv) (a_facts : List Fact) (v1_0 : Sv) (a_r : Reached) (v2_0 : Sv) (v2_1 : Sv) (v2_2 : Sv) (R : Reached × Bool) (hF : s_l8Step a_l a_facts a_r = some R) :
   Fw.Spec Tryz.prog 81 [v0_0.v, v1_0.v, (.agg [v2_0.v, v2_1.v, v2_2.v, (.int .i64 a_r.Rounds)].toArray)] [crd (RdS 97 rd97) v0_0.v a_l, crd (RdS 58 rd58) v1_0.v a_facts, crd (RdS 58 rd58) v2_0.v a_r.Facts, crd (RdS 3 rdInt) v2_1.v a_r.Values, crd (RdS 54 rd54) v2_2.v a_r.Log] (fun p : Sv × List Nat × Sv × List Nat × Sv => (.tuple [(.agg [p.1.v, p.2.2.1.v, p.2.2.2.2.v, (.int .i64 R.1.Rounds)].toArray), (.bool R.2)].toArray)) (fun p => [cown (OwnS 58 ow58) p.2.1 p.1.v R.1.Facts, cown (OwnS 3 (roE rdInt)) p.2.2.2.1 p.2.2.1.v R.1.Values, crd (RdS 54 rd54) p.2.2.2.2.v R.1.Log]) := by
 refine Se 94 Tryz.func81 [.cell 6 46, .tmp 7] ?_
 intro H0 F0
 unfold s_l8Step at hF
 refine au ?_
 refine AbR (fun k1 => ?_)
 refine AnW (fun k2 => ?_)
 iterate 4 refine au ?_
 refine bnd hF fun r3 hx4 hF => Cx3 (s_l8Copy_ok _ _ _ _ _ hx4) (fun p5 => ?_)
 refine AnW (fun k6 => ?_)
 refine As (.agg [p5.1.v, p5.2.2.1.v, p5.2.2.2.2.1.v, (.int .i64 r3.Rounds)].toArray) ?_
 iterate 4 refine au ?_
 refine bnd hF fun r7 hx8 hF => Cx1 (s_l8Open_ok _ _ _ _ _ _ _ hx8) (fun p9 => ?_)
 iterate 6 refine au ?_
 refine CW_block (K_frz .h frz_own ?_)
 refine CW_loop (m := r7.length) (fun m968 f' cs' => ∃ (g : Fr) (k970 : Nat) (rest971 : List Access) (c958 : List Fact) (c961 : List Int) (c964 : List Access) (v959 : Sv) (F960 : List Nat) (v962 : Sv) (F963 : List Nat) (v965 : Sv) (F966 : List Nat), m968 = rest971.length ∧ f' = updL g [(0, v0_0.v), (1, v1_0.v), (5, (pz k1)), (6, (pz k2)), (8, (pz k6)), (9, p9.1.v), (10, (.int .i64 (k970 : Int)))] ∧ List.drop k970 r7 = rest971 ∧ Ent cs' [crd (RdS 97 rd97) v0_0.v a_l, crd (RdS 58 rd58) v1_0.v a_facts, cboR k1 46 (.agg [v2_0.v, v2_1.v, v2_2.v, (.int .i64 a_r.Rounds)].toArray), crd (RdS 58 rd58) v2_0.v a_r.Facts, crd (RdS 3 rdInt) v2_1.v a_r.Values, crd (RdS 54 rd54) v2_2.v a_r.Log, cbox k2 46 (.agg [(.slice none 0 0), (.slice none 0 0), (.slice none 0 0), (.int .i64 0)].toArray), cbox k6 46 (.agg [v959.v, v962.v, v965.v, (.int .i64 r3.Rounds)].toArray), cown (OwnS 58 ow58) F960 v959.v c958, cown (OwnS 3 (roE rdInt)) F963 v962.v c961, cown (OwnS 54 (roE rd54)) F966 v965.v c964, crd (RdS 54 rd54) p9.1.v r7] ∧ s_l8Step_L1 a_l a_facts a_r r3 r7 rest971 k970 c958 c961 c964 = some R) ⟨_, 0, _, _, _, _, p5.1, p5.2.1, p5.2.2.1, p5.2.2.2.1, p5.2.2.2.2.1, (p5.2.2.2.2.2.take 1), rfl, eqA, rfl, (.half (.t (.t (.t (.t .h)))) entA), hF⟩ ?_
 rintro m968 _ _ ⟨g969, k970, rest971, c958, c961, c964, v959, F960, v962, F963, v965, F966, rfl, rfl, hd973, hE, hF⟩
 refine Kb hE r7 (fun hbd978 => ?_)
 rcases rest971 with _ | ⟨x972, rest971⟩
 · have hk974 := dn hd973
   rw [s_l8Step_L1] at hF
   iterate 7 refine au ?_
   refine CdF ?_
   iterate 10 refine au ?_
   refine Ci hF (fun hb979 hF => ?_) (fun hb979 hF => ?_)
   · iterate 2 refine au ?_
     refine As (.agg [v959.v, v962.v, v965.v, (.int .i64 r3.Rounds)].toArray) ?_
     iterate 3 refine au ?_
     cases hF
     exact End_ret (v959, F960, v962, F963, v965) (.cellA rfl rfl .h rfl ag46.h ty46.h.sz rfl rfl (.tmp rfl rfl .nil)) rfl (.frz (.t (.t (.t (.t (.t (.t (.t (.t (.t (.t .h)))))))))) frz_own (.sel (.cons (.t (.t (.t (.t (.t (.t (.t (.t (.t .h))))))))) (.cons (.t (.t (.t (.t (.t (.t (.t (.t (.t .h))))))))) (.rd .h rfl .nil)))))
   iterate 6 refine au ?_
   refine As (.agg [v959.v, v962.v, v965.v, (.int .i64 (IntKind.i64.wrap (a_r.Rounds + 1)))].toArray) ?_
   iterate 3 refine au ?_
   refine As (.agg [v959.v, v962.v, v965.v, (.int .i64 (IntKind.i64.wrap (a_r.Rounds + 1)))].toArray) ?_
   iterate 3 refine au ?_
   cases hF
   exact End_ret (v959, F960, v962, F963, v965) (.cellA rfl rfl .h rfl ag46.h ty46.h.sz rfl rfl (.tmp rfl rfl .nil)) rfl (.frz (.t (.t (.t (.t (.t (.t (.t (.t (.t (.t .h)))))))))) frz_own (.sel (.cons (.t (.t (.t (.t (.t (.t (.t (.t (.t .h))))))))) (.cons (.t (.t (.t (.t (.t (.t (.t (.t (.t .h))))))))) (.rd .h rfl .nil)))))
 obtain ⟨hk974, hx975, hd976⟩ := drop_cons hd973
 rw [s_l8Step_L1] at hF
 iterate 7 refine au ?_
 refine CdT ?_
 refine au ?_
 obtain ⟨o980, hio980, hO981⟩ := bind_some hF
 refine K_cut (fun f' cs' => ∃ (c1263 : List Fact) (c1266 : List Int) (c1269 : List Access) (v1264 : Sv) (F1265 : List Nat) (v1267 : Sv) (F1268 : List Nat) (v1270 : Sv) (F1271 : List Nat) (g : Fr), o980 = (c1263, c1266, c1269) ∧ f' = updL g [(0, v0_0.v), (1, v1_0.v), (5, (pz k1)), (6, (pz k2)), (8, (pz k6)), (9, p9.1.v), (10, (.int .i64 (k970 : Int)))] ∧ Ent cs' [crd (RdS 97 rd97) v0_0.v a_l, crd (RdS 58 rd58) v1_0.v a_facts, cboR k1 46 (.agg [v2_0.v, v2_1.v, v2_2.v, (.int .i64 a_r.Rounds)].toArray), crd (RdS 58 rd58) v2_0.v a_r.Facts, crd (RdS 3 rdInt) v2_1.v a_r.Values, crd (RdS 54 rd54) v2_2.v a_r.Log, cbox k2 46 (.agg [(.slice none 0 0), (.slice none 0 0), (.slice none 0 0), (.int .i64 0)].toArray), cbox k6 46 (.agg [v1264.v, v1267.v, v1270.v, (.int .i64 r3.Rounds)].toArray), cown (OwnS 58 ow58) F1265 v1264.v c1263, cown (OwnS 3 (roE rdInt)) F1268 v1267.v c1266, cown (OwnS 54 (roE rd54)) F1271 v1270.v c1269, crd (RdS 54 rd54) p9.1.v r7]) ?_ ?_
 · replace hF := hio980
   refine CW_block (K_draw [0, 1, 2, 3, 4, 5, 6, 7, 8, 9] [0, 1, 0, 0, 12, 28, 60, 127, 255, 511] [7, 9] mixed (by decide +kernel) ?_)
   refine du ?_
   refine D_atO rfl .no (.t (.t (.t (.t (.t (.t (.t .h))))))) (fun ha hp => V_load (v := v965.v) ag44.h (EN ha (.tmp rfl rfl) rfl) hp.2 rfl rfl) ?_
   iterate 2 refine du ?_
   refine Di hx975 (fun k982 j983 => ?_)
   refine DlA1 (ul54_0_54 x972) la54_0_54 (fun p984 => ?_)
   refine D_new rfl .no rfl (fun ha => N_buildSliceT (g := true) (len := 1) (parts := [(0, .tmp 30)]) sl44.h ty54.h (.cons (EN ha (.tmp rfl rfl) rfl) .nil) (vs := [(.agg [(.int .i64 x972.Method), p984.v].toArray)]) rfl rfl rfl (by intro v hv; simp at hv; rcases hv with rfl <;> rfl)) (fun k985 => ?_)
   refine Dv1 (.cons .h (.rd .h rfl .nil)) (own_lit (Ro := (roE rd54)) (E := 54) (F := ([] ++ [])) (xs := ([x972] : List Access)) (MkL_cons mr54 MkL_nil apps) rfl rfl) ?_
   refine bnd hF fun z986 hx987 hF => D_act1 rfl rfl .no (.cons (.t (.t (.t (.t (.t (.t (.t (.t (.t (.t (.t (.t (.t .h))))))))))))) (.cons .h .nil)) (.dep rfl (.dep rfl .nil)) (fun ha => X_appendO (Ro := (roE rd54)) sl44.h ni44 ty54.h rfl rfl rfl (EN ha (.tmp rfl rfl) rfl) (EN ha (.tmp rfl rfl) rfl) hx987 src_own) (fun p988 => ?_)
   refine du ?_
   refine D_act1 rfl rfl .no (.cons (.t (.t (.t (.t (.t (.t (.t (.t (.t (.t .h)))))))))) .nil) (.dep rfl (.dep rfl .nil)) (fun ha => X_storeB (e' := (.agg [v959.v, v962.v, p988.1.v, (.int .i64 r3.Rounds)].toArray)) ty44.h.sz (EN ha (.tmp rfl rfl) rfl) (EN ha (.tmp rfl rfl) rfl) rfl rfl rfl rfl rfl) (fun _ => ?_)
   refine du ?_
   refine K_draw [0, 1, 2, 3, 4, 5, 6, 7, 8, 9, 10, 11, 12, 13, 14, 15] [0, 0, 0, 6, 14, 30, 63, 127, 0, 0, 768, 1792, 3840, 0, 16383, 32767] [14] mixed (by decide +kernel) ?_
   iterate 3 refine du ?_
   refine Di hx975 (fun k989 j990 => ?_)
   refine du ?_
   refine Dl ls54_0 ?_
   refine bnd hF fun x991 hx992 hF => ?_
   obtain ⟨hp993, hx994⟩ := ix_some hx992
   refine Di hx994 (fun k995 j996 => ?_)
   refine DlA1 (ul97_0_97 x991) la97_0_97 (fun p997 => ?_)
   iterate 2 refine du ?_
   refine Di hx975 (fun k998 j999 => ?_)
   refine du ?_
   refine D_ldV (R' := (RdS 3 rdInt)) ag24.h rfl .no (.tmp rfl rfl) rfl .h lv54_1 (fun w1000 => ?_)
   refine du ?_
   refine bnd hF fun r1001 hx1002 hF => Dx1 (s_l5Matches_ok _ _ _ _ _ _ _ hx1002) (fun p1003 => ?_)
   iterate 2 refine du ?_
   iterate 3 refine au ?_
   refine CW_block (K_frz .h frz_own ?_)
   refine CW_loop (m := r1001.length) (fun m1184 f' cs' => ∃ (g : Fr) (k1186 : Nat) (rest1187 : List Fact) (c1177 : List Fact) (c1180 : List Int) (v1178 : Sv) (F1179 : List Nat) (v1181 : Sv) (F1182 : List Nat), m1184 = rest1187.length ∧ f' = updL g [(0, v0_0.v), (1, v1_0.v), (5, (pz k1)), (6, (pz k2)), (8, (pz k6)), (9, p9.1.v), (10, (.int .i64 (k970 : Int))), (11, p1003.1.v), (12, (.int .i64 (k1186 : Int)))] ∧ List.drop k1186 r1001 = rest1187 ∧ Ent cs' [crd (RdS 97 rd97) v0_0.v a_l, crd (RdS 58 rd58) v1_0.v a_facts, cboR k1 46 (.agg [v2_0.v, v2_1.v, v2_2.v, (.int .i64 a_r.Rounds)].toArray), crd (RdS 58 rd58) v2_0.v a_r.Facts, crd (RdS 3 rdInt) v2_1.v a_r.Values, crd (RdS 54 rd54) v2_2.v a_r.Log, cbox k2 46 (.agg [(.slice none 0 0), (.slice none 0 0), (.slice none 0 0), (.int .i64 0)].toArray), cbox k6 46 (.agg [v1178.v, v1181.v, p988.1.v, (.int .i64 r3.Rounds)].toArray), cown (OwnS 58 ow58) F1179 v1178.v c1177, cown (OwnS 3 (roE rdInt)) F1182 v1181.v c1180, cown (OwnS 54 (roE rd54)) p988.2 p988.1.v z986, crd (RdS 54 rd54) p9.1.v r7, crd (RdS 58 rd58) p1003.1.v r1001] ∧ s_l8Step_L21 z986 rest1187 k1186 c1177 c1180 = some o980) ⟨_, 0, _, _, _, v959, F960, v962, F963, rfl, eqA, rfl, entA, hF⟩ ?_
   rintro m1184 _ _ ⟨g1185, k1186, rest1187, c1177, c1180, v1178, F1179, v1181, F1182, rfl, rfl, hd1189, hE, hF⟩
   refine Kb hE r1001 (fun hbd1194 => ?_)
   rcases rest1187 with _ | ⟨x1188, rest1187⟩
   · have hk1190 := dn hd1189
     rw [s_l8Step_L21] at hF
     iterate 7 refine au ?_
     refine CdF ?_
     iterate 4 refine au ?_
     cases hF
     exact ⟨_, _, _, v1178, F1179, v1181, F1182, p988.1, p988.2, _, rfl, eqA, entA⟩
   obtain ⟨hk1190, hx1191, hd1192⟩ := drop_cons hd1189
   rw [s_l8Step_L21] at hF
   iterate 7 refine au ?_
   refine CdT ?_
   refine au ?_
   obtain ⟨o1195, hio1195, hO1196⟩ := bind_some hF
   refine K_cut (fun f' cs' => ∃ (c1255 : List Fact) (c1258 : List Int) (v1256 : Sv) (F1257 : List Nat) (v1259 : Sv) (F1260 : List Nat) (g : Fr), o1195 = (c1255, c1258) ∧ f' = updL g [(0, v0_0.v), (1, v1_0.v), (5, (pz k1)), (6, (pz k2)), (8, (pz k6)), (9, p9.1.v), (10, (.int .i64 (k970 : Int))), (11, p1003.1.v), (12, (.int .i64 (k1186 : Int)))] ∧ Ent cs' [crd (RdS 97 rd97) v0_0.v a_l, crd (RdS 58 rd58) v1_0.v a_facts, cboR k1 46 (.agg [v2_0.v, v2_1.v, v2_2.v, (.int .i64 a_r.Rounds)].toArray), crd (RdS 58 rd58) v2_0.v a_r.Facts, crd (RdS 3 rdInt) v2_1.v a_r.Values, crd (RdS 54 rd54) v2_2.v a_r.Log, cbox k2 46 (.agg [(.slice none 0 0), (.slice none 0 0), (.slice none 0 0), (.int .i64 0)].toArray), cbox k6 46 (.agg [v1256.v, v1259.v, p988.1.v, (.int .i64 r3.Rounds)].toArray), cown (OwnS 58 ow58) F1257 v1256.v c1255, cown (OwnS 3 (roE rdInt)) F1260 v1259.v c1258, cown (OwnS 54 (roE rd54)) p988.2 p988.1.v z986, crd (RdS 54 rd54) p9.1.v r7, crd (RdS 58 rd58) p1003.1.v r1001]) ?_ ?_
   · replace hF := hio1195
     refine CW_block (K_draw [0, 1, 2, 3, 4, 5, 6, 7, 8] [0, 1, 0, 0, 12, 28, 63, 127, 255] [6, 8] mixed (by decide +kernel) ?_)
     refine du ?_
     refine D_atO rfl .no (.t (.t (.t (.t (.t (.t (.t .h))))))) (fun ha hp => V_load (v := v1178.v) ag28.h (EN ha (.tmp rfl rfl) rfl) hp.2 rfl rfl) ?_
     iterate 2 refine du ?_
     refine Di hx1191 (fun k1197 j1198 => ?_)
     refine DlA1 (ul58_0_58 x1188) la58_0_58 (fun p1199 => ?_)
     refine bnd hF fun r1200 hx1201 hF => D_act2 rfl rfl .no (.cons (.t (.t (.t (.t (.t (.t (.t (.t (.t (.t .h)))))))))) (.rd .h rfl .nil)) (.dep rfl .nil) (fun ha => XC_bor frz_own (fun _ => (.cons .nil)) (X_callS cf48.h (.cons (EN ha (.tmp rfl rfl) rfl) (.cons (EN ha (.tmp rfl rfl) rfl) .nil)) (s_AddFact_ok c1177 v1178 x1188 p1199 _ hx1201))) (fun p1202 => ?_)
     refine du ?_
     refine D_act1 rfl rfl .no (.cons (.t (.t (.t (.t (.t (.t (.t (.t (.t (.t (.t .h))))))))))) .nil) (.dep rfl .nil) (fun ha => X_storeB (e' := (.agg [p1202.1.v, v1181.v, p988.1.v, (.int .i64 r3.Rounds)].toArray)) ty28.h.sz (EN ha (.tmp rfl rfl) rfl) (EN ha (.tmp rfl rfl) rfl) rfl rfl rfl rfl rfl) (fun _ => ?_)
     refine du ?_
     iterate 3 refine au ?_
     refine CW_block (CW_loop (m := (((x1188.Values.length : Int) - 0).toNat + 2)) (fun m1231 f' cs' => ∃ (g : Fr) (c1227 : List Int) (c1230 : Int) (v1228 : Sv) (F1229 : List Nat), f' = updL g [(0, v0_0.v), (1, v1_0.v), (5, (pz k1)), (6, (pz k2)), (8, (pz k6)), (9, p9.1.v), (10, (.int .i64 (k970 : Int))), (11, p1003.1.v), (12, (.int .i64 (k1186 : Int))), (13, (.int .i64 c1230))] ∧ Ent cs' [crd (RdS 97 rd97) v0_0.v a_l, crd (RdS 58 rd58) v1_0.v a_facts, cboR k1 46 (.agg [v2_0.v, v2_1.v, v2_2.v, (.int .i64 a_r.Rounds)].toArray), crd (RdS 58 rd58) v2_0.v a_r.Facts, crd (RdS 3 rdInt) v2_1.v a_r.Values, crd (RdS 54 rd54) v2_2.v a_r.Log, cbox k2 46 (.agg [(.slice none 0 0), (.slice none 0 0), (.slice none 0 0), (.int .i64 0)].toArray), cbox k6 46 (.agg [p1202.1.v, v1228.v, p988.1.v, (.int .i64 r3.Rounds)].toArray), cown (OwnS 58 ow58) p1202.2 p1202.1.v r1200, cown (OwnS 3 (roE rdInt)) F1229 v1228.v c1227, cown (OwnS 54 (roE rd54)) p988.2 p988.1.v z986, crd (RdS 54 rd54) p9.1.v r7, crd (RdS 58 rd58) p1003.1.v r1001] ∧ s_l8Step_L24 x1188 r1200 m1231 c1227 c1230 = some o1195) ⟨_, _, _, v1181, F1182, eqA, entA, hF⟩ ?_)
     rintro m1231 _ _ ⟨g1232, c1227, c1230, v1228, F1229, rfl, hE, hF⟩
     refine K_ent hE ?_
     rcases m1231 with _ | m1231
     · rw [s_l8Step_L24] at hF
       exact absurd hF (by simp)
     rw [s_l8Step_L24] at hF
     iterate 5 refine au ?_
     refine Ai hx1191 (fun k1239 j1240 => ?_)
     refine au ?_
     refine C_ldV (R' := (RdS 3 rdInt)) ag24.h (.tmp rfl rfl) .h lv58_1 (fun w1241 => ?_)
     iterate 3 refine au ?_
     refine Ci hF (fun hb1254 hF => ?_) (fun hb1254 hF => ?_)
     · iterate 2 refine au ?_
       refine CW_draw [0, 1, 2, 3, 4, 5, 6, 7, 8, 9, 10, 11, 12] [0, 1, 0, 0, 12, 28, 60, 0, 252, 508, 1023, 2047, 4095] [10, 12] mixed (by decide +kernel) ?_
       refine du ?_
       refine D_atO rfl .no (.t (.t (.t (.t (.t (.t (.t (.t (.t .h))))))))) (fun ha hp => V_load (v := v1228.v) ag24.h (EN ha (.tmp rfl rfl) rfl) hp.2 rfl rfl) ?_
       iterate 2 refine du ?_
       refine Di hx1191 (fun k1242 j1243 => ?_)
       refine du ?_
       refine D_ldV (R' := (RdS 3 rdInt)) ag24.h rfl .no (.tmp rfl rfl) rfl .h lv58_1 (fun w1244 => ?_)
       refine du ?_
       refine bnd hF fun x1245 hx1246 hF => ?_
       obtain ⟨hp1247, hx1248⟩ := ix_some hx1246
       refine Di hx1248 (fun k1249 j1250 => ?_)
       refine Dl ls3_0 ?_
       refine bnd hF fun r1251 hx1252 hF => Dx1 (s_l3Put_ok _ _ _ _ _ hx1252) (fun p1253 => ?_)
       refine du ?_
       refine D_act1 rfl rfl .no (.cons (.t (.t (.t (.t (.t (.t (.t (.t (.t (.t (.t (.t (.t .h))))))))))))) .nil) (.dep rfl .nil) (fun ha => X_storeB (e' := (.agg [p1202.1.v, p1253.1.v, p988.1.v, (.int .i64 r3.Rounds)].toArray)) ty24.h.sz (EN ha (.tmp rfl rfl) rfl) (EN ha (.tmp rfl rfl) rfl) rfl rfl rfl rfl rfl) (fun _ => ?_)
       refine du ?_
       iterate 5 refine au ?_
       exact ⟨m1231, Nat.lt_succ_self _, _, _, _, p1253.1, p1253.2, eqA, entA, hF⟩
     iterate 4 refine au ?_
     cases hF
     exact ⟨_, _, p1202.1, p1202.2, v1228, F1229, _, rfl, eqA, entA⟩
   rintro _ _ ⟨c1255, c1258, v1256, F1257, v1259, F1260, g1262, rfl, rfl, hE⟩
   replace hF := hO1196
   try dsimp only at hF
   refine K_ent hE ?_
   iterate 5 refine au ?_
   rw [wk k1186]
   exact ⟨_, Nat.lt_succ_self _, _, k1186 + 1, rest1187, _, _, v1256, F1257, v1259, F1260, rfl, eqA, hd1192, entA, hF⟩
 rintro _ _ ⟨c1263, c1266, c1269, v1264, F1265, v1267, F1268, v1270, F1271, g1273, rfl, rfl, hE⟩
 replace hF := hO981
 try dsimp only at hF
 refine K_ent hE ?_
 iterate 5 refine au ?_
 rw [wk k970]
 exact ⟨_, Nat.lt_succ_self _, _, k970 + 1, rest971, _, _, _, v1264, F1265, v1267, F1268, v1270, F1271, rfl, eqA, hd976, entA, hF⟩
def s_StepReach (a_s : List Int) (a_l : List Method) (a_facts : List Fact) (a_r : Reached) : Option (Reached × Bool) :=
 ((s_AreMethods a_s a_l).bind fun r5 =>
   bif (!r5) then (some true)
   else ((s_AreFacts a_s a_facts).bind fun r9 =>
     bif (!r9) then (some true)
     else ((s_l8Values a_r.Values).bind fun r13 =>
       bif (!r13) then (some true)
       else ((s_AreFacts a_s a_r.Facts).bind fun r17 =>
         bif (!r17) then (some true)
         else ((s_l1In a_r.Rounds 0 100).bind fun r21 =>
           some (!r21)))))).bind fun o3 =>
 match o3 with
 | c24 => if c24 then (
     (s_l8Copy a_r).bind fun r25 =>
     some (r25, false))
   else (
     (s_l8Step a_l a_facts a_r).bind fun r28 =>
     some (r28.1, r28.2))
theorem s_StepReach_ok (a_s : List Int) (v0_0 : Sv) (a_l : List Method) (v1_0 : Sv) (a_facts : List Fact) (v2_0 : Sv) (a_r : Reached) (v3_0 : Sv) (v3_1 : Sv) (v3_2 : Sv) (R : Reached × Bool) (hF : s_StepReach a_s a_l a_facts a_r = some R) :
   Fw.Spec Tryz.prog 33 [v0_0.v, v1_0.v, v2_0.v, (.agg [v3_0.v, v3_1.v, v3_2.v, (.int .i64 a_r.Rounds)].toArray)] [crd (RdS 3 rdInt) v0_0.v a_s, crd (RdS 97 rd97) v1_0.v a_l, crd (RdS 58 rd58) v2_0.v a_facts, crd (RdS 58 rd58) v3_0.v a_r.Facts, crd (RdS 3 rdInt) v3_1.v a_r.Values, crd (RdS 54 rd54) v3_2.v a_r.Log] (fun p : Sv × List Nat × Sv × List Nat × Sv => (.tuple [(.agg [p.1.v, p.2.2.1.v, p.2.2.2.2.v, (.int .i64 R.1.Rounds)].toArray), (.bool R.2)].toArray)) (fun p => [cown (OwnS 58 ow58) p.2.1 p.1.v R.1.Facts, cown (OwnS 3 (roE rdInt)) p.2.2.2.1 p.2.2.1.v R.1.Values, crd (RdS 54 rd54) p.2.2.2.2.v R.1.Log]) := by
 refine Se 52 Tryz.func33 [.cell 8 46, .tmp 9] ?_
 intro H0 F0
 unfold s_StepReach at hF
 refine au ?_
 refine AbR (fun k1 => ?_)
 refine AnW (fun k2 => ?_)
 iterate 3 refine au ?_
 obtain ⟨o3, hio3, hO4⟩ := bind_some hF
 refine au ?_
 refine C_cut (fun f' cs' => ∃ (c24 : Bool) (g : Fr), c24 = o3 ∧ f' = updL g [(1, v1_0.v), (2, v2_0.v), (7, (pz k1)), (8, (pz k2)), (40, (.bool c24))] ∧ Ent cs' [crd (RdS 97 rd97) v1_0.v a_l, crd (RdS 58 rd58) v2_0.v a_facts, cboR k1 46 (.agg [v3_0.v, v3_1.v, v3_2.v, (.int .i64 a_r.Rounds)].toArray), crd (RdS 58 rd58) v3_0.v a_r.Facts, crd (RdS 3 rdInt) v3_1.v a_r.Values, crd (RdS 54 rd54) v3_2.v a_r.Log, cbox k2 46 (.agg [(.slice none 0 0), (.slice none 0 0), (.slice none 0 0), (.int .i64 0)].toArray)]) ?_ ?_
 · replace hF := hio3
   iterate 2 refine au ?_
   refine bnd hF fun r5 hx6 hF => Cx0 (s_AreMethods_ok _ _ _ _ _ hx6) (fun _ => ?_)
   iterate 2 refine au ?_
   rcases Bool.eq_false_or_eq_true (!r5) with hg8 | hg8
   · rw [hg8]
     try rw [hg8] at hF; dsimp only [cond_true, cond_false] at hF
     iterate 25 refine au ?_
     cases hF
     exact ⟨_, _, rfl, eqA, entA⟩
   rw [hg8]
   try rw [hg8] at hF; dsimp only [cond_true, cond_false] at hF
   iterate 5 refine au ?_
   refine bnd hF fun r9 hx10 hF => Cx0 (s_AreFacts_ok _ _ _ _ _ hx10) (fun _ => ?_)
   iterate 4 refine au ?_
   rcases Bool.eq_false_or_eq_true (!r9) with hg12 | hg12
   · rw [hg12]
     try rw [hg12] at hF; dsimp only [cond_true, cond_false] at hF
     iterate 19 refine au ?_
     cases hF
     exact ⟨_, _, rfl, eqA, entA⟩
   rw [hg12]
   try rw [hg12] at hF; dsimp only [cond_true, cond_false] at hF
   iterate 5 refine au ?_
   refine bnd hF fun r13 hx14 hF => Cx0 (s_l8Values_ok _ _ _ hx14) (fun _ => ?_)
   iterate 4 refine au ?_
   rcases Bool.eq_false_or_eq_true (!r13) with hg16 | hg16
   · rw [hg16]
     try rw [hg16] at hF; dsimp only [cond_true, cond_false] at hF
     iterate 13 refine au ?_
     cases hF
     exact ⟨_, _, rfl, eqA, entA⟩
   rw [hg16]
   try rw [hg16] at hF; dsimp only [cond_true, cond_false] at hF
   iterate 7 refine au ?_
   refine bnd hF fun r17 hx18 hF => Cx0 (s_AreFacts_ok _ _ _ _ _ hx18) (fun _ => ?_)
   iterate 4 refine au ?_
   rcases Bool.eq_false_or_eq_true (!r17) with hg20 | hg20
   · rw [hg20]
     try rw [hg20] at hF; dsimp only [cond_true, cond_false] at hF
     iterate 6 refine au ?_
     cases hF
     exact ⟨_, _, rfl, eqA, entA⟩
   rw [hg20]
   try rw [hg20] at hF; dsimp only [cond_true, cond_false] at hF
   iterate 5 refine au ?_
   refine bnd hF fun r21 hx22 hF => Cx0 (s_l1In_ok _ _ _ _ hx22) (fun _ => ?_)
   iterate 4 refine au ?_
   cases hF
   exact ⟨_, _, rfl, eqA, entA⟩
 rintro _ _ ⟨c24, g33, rfl, rfl, hE⟩
 replace hF := hO4
 try dsimp only at hF
 refine K_ent hE ?_
 refine Ci hF (fun hb32 hF => ?_) (fun hb32 hF => ?_)
 · iterate 2 refine au ?_
   refine bnd hF fun r25 hx26 hF => Cx3 (s_l8Copy_ok _ _ _ _ _ hx26) (fun p27 => ?_)
   refine As (.agg [p27.1.v, p27.2.2.1.v, p27.2.2.2.2.1.v, (.int .i64 r25.Rounds)].toArray) ?_
   iterate 3 refine au ?_
   cases hF
   exact End_ret (p27.1, p27.2.1, p27.2.2.1, p27.2.2.2.1, p27.2.2.2.2.1) (.cellA rfl rfl .h rfl ag46.h ty46.h.sz rfl rfl (.tmp rfl rfl .nil)) rfl (.frz (.t (.t (.t .h))) frz_own (.sel (.cons (.t (.t .h)) (.cons (.t (.t .h)) (.rd .h rfl .nil)))))
 iterate 5 refine au ?_
 refine bnd hF fun r28 hx29 hF => Cx3 (s_l8Step_ok _ _ _ _ _ _ _ _ _ hx29) (fun p30 => ?_)
 refine au ?_
 refine C_val (V_extract (l := [(.agg [p30.1.v, p30.2.2.1.v, p30.2.2.2.2.v, (.int .i64 r28.1.Rounds)].toArray), (.bool r28.2)]) (v := (.agg [p30.1.v, p30.2.2.1.v, p30.2.2.2.2.v, (.int .i64 r28.1.Rounds)].toArray)) (.tmp rfl rfl) rfl) ?_
 refine C_val (V_extract (l := [(.agg [p30.1.v, p30.2.2.1.v, p30.2.2.2.2.v, (.int .i64 r28.1.Rounds)].toArray), (.bool r28.2)]) (v := (.bool r28.2)) (.tmp rfl rfl) rfl) ?_
 refine AnW (fun k31 => ?_)
 refine As (.agg [p30.1.v, p30.2.2.1.v, p30.2.2.2.2.v, (.int .i64 r28.1.Rounds)].toArray) ?_
 iterate 5 refine au ?_
 refine As (.agg [p30.1.v, p30.2.2.1.v, p30.2.2.2.2.v, (.int .i64 r28.1.Rounds)].toArray) ?_
 iterate 3 refine au ?_
 cases hF
 exact End_ret (p30.1, p30.2.1, p30.2.2.1, p30.2.2.2.1, p30.2.2.2.2) (.cellA rfl rfl .h rfl ag46.h ty46.h.sz rfl rfl (.tmp rfl rfl .nil)) rfl (.sel (.cons (.t (.t .h)) (.cons (.t (.t .h)) (.rd (.t (.t .h)) rfl .nil))))
def s_ReachAll_L1 (a_s : List Int) (a_l : List Method) (a_facts : List Fact) : Nat → (List Fact) → (List Int) → (List Access) → Int → Int → Option (Reached)
 | 0, _, _, _, _, _ => none
 | m52 + 1, c42, c45, c48, c50, c51 => if (decide ((c51 : Int) < 40)) then (
     (s_StepReach a_s a_l a_facts ({ Facts := c42, Values := c45, Log := c48, Rounds := c50 } : Reached)).bind fun r60 =>
     if (!r60.2) then (
       some ({ Facts := c42, Values := c45, Log := c48, Rounds := c50 } : Reached))
     else (
       s_ReachAll_L1 a_s a_l a_facts m52 r60.1.Facts r60.1.Values r60.1.Log r60.1.Rounds (IntKind.i64.wrap (c51 + 1))))
   else (
     some ({ Facts := c42, Values := c45, Log := c48, Rounds := c50 } : Reached))
def s_ReachAll (a_s : List Int) (a_l : List Method) (a_facts : List Fact) (a_seeds : List Int) : Option (Reached) :=
 (s_StartReach a_seeds).bind fun r2 =>
 s_ReachAll_L1 a_s a_l a_facts (((40 : Int) - 0).toNat + 2) r2.Facts r2.Values r2.Log r2.Rounds 0
theorem s_ReachAll_ok (a_s : List Int) (v0_0 : Sv) (a_l : List Method) (v1_0 : Sv) (a_facts : List Fact) (v2_0 : Sv) (a_seeds : List Int) (v3_0 : Sv) (R : Reached) (hF : s_ReachAll a_s a_l a_facts a_seeds = some R) :
   Fw.Spec Tryz.prog 21 [v0_0.v, v1_0.v, v2_0.v, v3_0.v] [crd (RdS 3 rdInt) v0_0.v a_s, crd (RdS 97 rd97) v1_0.v a_l, crd (RdS 58 rd58) v2_0.v a_facts, crd (RdS 3 rdInt) v3_0.v a_seeds] (fun p : Sv × Sv × Sv => (.agg [p.1.v, p.2.1.v, p.2.2.v, (.int .i64 R.Rounds)].toArray)) (fun p => [crd (RdS 58 rd58) p.1.v R.Facts, crd (RdS 3 rdInt) p.2.1.v R.Values, crd (RdS 54 rd54) p.2.2.v R.Log]) := by
 refine Se 32 Tryz.func21 [.cell 8 46] ?_
 intro H0 F0
 unfold s_ReachAll at hF
 refine au ?_
 refine AnW (fun k1 => ?_)
 iterate 3 refine au ?_
 refine bnd hF fun r2 hx3 hF => Cx3 (s_StartReach_ok _ _ _ hx3) (fun p4 => ?_)
 refine AnW (fun k5 => ?_)
 refine As (.agg [p4.1.v, p4.2.2.1.v, p4.2.2.2.2.1.v, (.int .i64 r2.Rounds)].toArray) ?_
 iterate 5 refine au ?_
 refine CW_block (CW_loop (m := (((40 : Int) - 0).toNat + 2)) (fun m52 f' cs' => ∃ (g : Fr) (c42 : List Fact) (c45 : List Int) (c48 : List Access) (c50 : Int) (c51 : Int) (v43 : Sv) (F44 : List Nat) (v46 : Sv) (F47 : List Nat) (v49 : Sv), f' = updL g [(0, v0_0.v), (1, v1_0.v), (2, v2_0.v), (8, (pz k1)), (9, (pz k5)), (10, (.int .i64 c51))] ∧ Ent cs' [crd (RdS 3 rdInt) v0_0.v a_s, crd (RdS 97 rd97) v1_0.v a_l, crd (RdS 58 rd58) v2_0.v a_facts, cbox k1 46 (.agg [(.slice none 0 0), (.slice none 0 0), (.slice none 0 0), (.int .i64 0)].toArray), cbox k5 46 (.agg [v43.v, v46.v, v49.v, (.int .i64 c50)].toArray), cown (OwnS 58 ow58) F44 v43.v c42, cown (OwnS 3 (roE rdInt)) F47 v46.v c45, crd (RdS 54 rd54) v49.v c48] ∧ s_ReachAll_L1 a_s a_l a_facts m52 c42 c45 c48 c50 c51 = some R) ⟨_, _, _, _, _, _, p4.1, p4.2.1, p4.2.2.1, p4.2.2.2.1, p4.2.2.2.2.1, eqA, (.frz (.t (.t (.t .h))) frz_own entA), hF⟩ ?_)
 rintro m52 _ _ ⟨g53, c42, c45, c48, c50, c51, v43, F44, v46, F47, v49, rfl, hE, hF⟩
 refine K_ent hE ?_
 rcases m52 with _ | m52
 · rw [s_ReachAll_L1] at hF
   exact absurd hF (by simp)
 rw [s_ReachAll_L1] at hF
 iterate 5 refine au ?_
 refine Ci hF (fun hb65 hF => ?_) (fun hb65 hF => ?_)
 · iterate 2 refine au ?_
   refine K_frz (.t (.t (.t (.t (.t .h))))) frz_own ?_
   refine K_frz (.t (.t (.t (.t (.t (.t .h)))))) frz_own ?_
   iterate 5 refine au ?_
   refine bnd hF fun r60 hx61 hF => Cx3 (s_StepReach_ok _ _ _ _ _ _ _ _ _ _ _ hx61) (fun p62 => ?_)
   refine au ?_
   refine C_val (V_extract (l := [(.agg [p62.1.v, p62.2.2.1.v, p62.2.2.2.2.v, (.int .i64 r60.1.Rounds)].toArray), (.bool r60.2)]) (v := (.agg [p62.1.v, p62.2.2.1.v, p62.2.2.2.2.v, (.int .i64 r60.1.Rounds)].toArray)) (.tmp rfl rfl) rfl) ?_
   refine C_val (V_extract (l := [(.agg [p62.1.v, p62.2.2.1.v, p62.2.2.2.2.v, (.int .i64 r60.1.Rounds)].toArray), (.bool r60.2)]) (v := (.bool r60.2)) (.tmp rfl rfl) rfl) ?_
   refine AnW (fun k63 => ?_)
   refine As (.agg [p62.1.v, p62.2.2.1.v, p62.2.2.2.2.v, (.int .i64 r60.1.Rounds)].toArray) ?_
   iterate 7 refine au ?_
   refine Ci hF (fun hb64 hF => ?_) (fun hb64 hF => ?_)
   · iterate 2 refine au ?_
     refine As (.agg [v43.v, v46.v, v49.v, (.int .i64 c50)].toArray) ?_
     iterate 2 refine au ?_
     cases hF
     exact Er (v43, v46, v49)
   iterate 3 refine au ?_
   refine As (.agg [p62.1.v, p62.2.2.1.v, p62.2.2.2.2.v, (.int .i64 r60.1.Rounds)].toArray) ?_
   iterate 6 refine au ?_
   exact ⟨m52, Nat.lt_succ_self _, _, _, _, _, _, _, p62.1, p62.2.1, p62.2.2.1, p62.2.2.2.1, p62.2.2.2.2, eqA, entA, hF⟩
 iterate 6 refine au ?_
 refine As (.agg [v43.v, v46.v, v49.v, (.int .i64 c50)].toArray) ?_
 iterate 2 refine au ?_
 cases hF
 exact End_ret (v43, v46, v49) (.cellA rfl rfl .h rfl ag46.h ty46.h.sz rfl rfl .nil) rfl (.frz (.t (.t (.t (.t (.t .h))))) frz_own (.frz (.t (.t (.t (.t (.t (.t .h)))))) frz_own (.sel (.rd (.t .h) rfl (.rd .h rfl (.rd (.t (.t (.t (.t (.t (.t (.t .h))))))) rfl .nil))))))
def s_SameFacts_L1 (a_b : List Fact) : List Fact → Nat → Option (Bool)
 | [], k4 => some true
 | x6 :: rest5, k4 => (ix a_b (k4 : Int)).bind fun x16 =>
   (s_CompareFacts x6 x16).bind fun r23 =>
   if ((r23 : Int) != 0) then (
     some false)
   else (
     s_SameFacts_L1 a_b rest5 (k4 + 1))
def s_SameFacts (a_a : List Fact) (a_b : List Fact) : Option (Bool) :=
 if (((a_a.length : Int) : Int) != (a_b.length : Int)) then (
   some false)
 else (
   s_SameFacts_L1 a_b a_a 0)
theorem s_SameFacts_ok (a_a : List Fact) (v0_0 : Sv) (a_b : List Fact) (v1_0 : Sv) (R : Bool) (hF : s_SameFacts a_a a_b = some R) :
   Fw.Spec Tryz.prog 10 [v0_0.v, v1_0.v] [crd (RdS 58 rd58) v0_0.v a_a, crd (RdS 58 rd58) v1_0.v a_b] (fun _ : Unit => (.bool R)) (fun _ => []) := by
 refine Se 27 Tryz.func10 [.tmp 4] ?_
 intro H0 F0
 unfold s_SameFacts at hF
 iterate 11 refine au ?_
 refine Ci hF (fun hb28 hF => ?_) (fun hb28 hF => ?_)
 · iterate 4 refine au ?_
   cases hF
   exact Er ()
 iterate 5 refine au ?_
 refine CW_block (CW_loop (m := a_a.length) (fun m2 f' cs' => ∃ (g : Fr) (k4 : Nat) (rest5 : List Fact), m2 = rest5.length ∧ f' = updL g [(0, v0_0.v), (1, v1_0.v), (5, (.int .i64 (k4 : Int)))] ∧ List.drop k4 a_a = rest5 ∧ Ent cs' [crd (RdS 58 rd58) v0_0.v a_a, crd (RdS 58 rd58) v1_0.v a_b] ∧ s_SameFacts_L1 a_b rest5 k4 = some R) ⟨_, 0, _, rfl, eqA, rfl, entA, hF⟩ ?_)
 rintro m2 _ _ ⟨g3, k4, rest5, rfl, rfl, hd7, hE, hF⟩
 refine Kb hE a_a (fun hbd12 => ?_)
 rcases rest5 with _ | ⟨x6, rest5⟩
 · have hk8 := dn hd7
   rw [s_SameFacts_L1] at hF
   iterate 7 refine au ?_
   refine CdF ?_
   iterate 8 refine au ?_
   cases hF
   exact Er ()
 obtain ⟨hk8, hx9, hd10⟩ := drop_cons hd7
 rw [s_SameFacts_L1] at hF
 iterate 7 refine au ?_
 refine CdT ?_
 iterate 2 refine au ?_
 refine K_draw [0, 1, 2, 3, 4, 5, 6, 7, 8, 9] [0, 0, 3, 7, 0, 0, 48, 112, 255, 511] [8] mixed (by decide +kernel) ?_
 iterate 2 refine du ?_
 refine Di hx9 (fun k13 j14 => ?_)
 refine DlA1 (ul58_0_58 x6) la58_0_58 (fun p15 => ?_)
 iterate 2 refine du ?_
 refine bnd hF fun x16 hx17 hF => ?_
 obtain ⟨hp18, hx19⟩ := ix_some hx17
 refine Di hx19 (fun k20 j21 => ?_)
 refine DlA1 (ul58_0_58 x16) la58_0_58 (fun p22 => ?_)
 refine bnd hF fun r23 hx24 hF => Dx0 (s_CompareFacts_ok _ _ _ _ _ hx24) (fun _ => ?_)
 iterate 2 refine du ?_
 refine Ci hF (fun hb27 hF => ?_) (fun hb27 hF => ?_)
 · iterate 4 refine au ?_
   cases hF
   exact Er ()
 iterate 6 refine au ?_
 rw [wk k4]
 exact ⟨_, Nat.lt_succ_self _, _, k4 + 1, rest5, rfl, eqA, hd10, entA, hF⟩
def s_SameAccesses_L1 (a_b : List Access) : List Access → Nat → Option (Bool)
 | [], k4 => some true
 | x6 :: rest5, k4 => (ix a_b (k4 : Int)).bind fun x16 =>
   (s_l5Same x6 x16).bind fun r23 =>
   if (!r23) then (
     some false)
   else (
     s_SameAccesses_L1 a_b rest5 (k4 + 1))
def s_SameAccesses (a_a : List Access) (a_b : List Access) : Option (Bool) :=
 if (((a_a.length : Int) : Int) != (a_b.length : Int)) then (
   some false)
 else (
   s_SameAccesses_L1 a_b a_a 0)
theorem s_SameAccesses_ok (a_a : List Access) (v0_0 : Sv) (a_b : List Access) (v1_0 : Sv) (R : Bool) (hF : s_SameAccesses a_a a_b = some R) :
   Fw.Spec Tryz.prog 66 [v0_0.v, v1_0.v] [crd (RdS 54 rd54) v0_0.v a_a, crd (RdS 54 rd54) v1_0.v a_b] (fun _ : Unit => (.bool R)) (fun _ => []) := by
 refine Se 27 Tryz.func66 [.tmp 4] ?_
 intro H0 F0
 unfold s_SameAccesses at hF
 iterate 11 refine au ?_
 refine Ci hF (fun hb28 hF => ?_) (fun hb28 hF => ?_)
 · iterate 4 refine au ?_
   cases hF
   exact Er ()
 iterate 5 refine au ?_
 refine CW_block (CW_loop (m := a_a.length) (fun m2 f' cs' => ∃ (g : Fr) (k4 : Nat) (rest5 : List Access), m2 = rest5.length ∧ f' = updL g [(0, v0_0.v), (1, v1_0.v), (5, (.int .i64 (k4 : Int)))] ∧ List.drop k4 a_a = rest5 ∧ Ent cs' [crd (RdS 54 rd54) v0_0.v a_a, crd (RdS 54 rd54) v1_0.v a_b] ∧ s_SameAccesses_L1 a_b rest5 k4 = some R) ⟨_, 0, _, rfl, eqA, rfl, entA, hF⟩ ?_)
 rintro m2 _ _ ⟨g3, k4, rest5, rfl, rfl, hd7, hE, hF⟩
 refine Kb hE a_a (fun hbd12 => ?_)
 rcases rest5 with _ | ⟨x6, rest5⟩
 · have hk8 := dn hd7
   rw [s_SameAccesses_L1] at hF
   iterate 7 refine au ?_
   refine CdF ?_
   iterate 8 refine au ?_
   cases hF
   exact Er ()
 obtain ⟨hk8, hx9, hd10⟩ := drop_cons hd7
 rw [s_SameAccesses_L1] at hF
 iterate 7 refine au ?_
 refine CdT ?_
 iterate 2 refine au ?_
 refine K_draw [0, 1, 2, 3, 4, 5, 6, 7, 8, 9] [0, 0, 3, 7, 0, 0, 48, 112, 255, 511] [8] mixed (by decide +kernel) ?_
 iterate 2 refine du ?_
 refine Di hx9 (fun k13 j14 => ?_)
 refine DlA1 (ul54_0_54 x6) la54_0_54 (fun p15 => ?_)
 iterate 2 refine du ?_
 refine bnd hF fun x16 hx17 hF => ?_
 obtain ⟨hp18, hx19⟩ := ix_some hx17
 refine Di hx19 (fun k20 j21 => ?_)
 refine DlA1 (ul54_0_54 x16) la54_0_54 (fun p22 => ?_)
 refine bnd hF fun r23 hx24 hF => Dx0 (s_l5Same_ok _ _ _ _ _ hx24) (fun _ => ?_)
 iterate 2 refine du ?_
 refine Ci hF (fun hb27 hF => ?_) (fun hb27 hF => ?_)
 · iterate 4 refine au ?_
   cases hF
   exact Er ()
 iterate 6 refine au ?_
 rw [wk k4]
 exact ⟨_, Nat.lt_succ_self _, _, k4 + 1, rest5, rfl, eqA, hd10, entA, hF⟩
def s_EqualReached (a_a : Reached) (a_b : Reached) : Option (Bool) :=
 ((s_SameFacts a_a.Facts a_b.Facts).bind fun r5 =>
   bif r5 then ((s_l2Ints a_a.Values a_b.Values).bind fun r9 =>
     bif r9 then ((s_SameAccesses a_a.Log a_b.Log).bind fun r13 =>
       bif r13 then (some ((a_a.Rounds : Int) == a_b.Rounds))
       else (some false))
     else (some false))
   else (some false)).bind fun o3 =>
 match o3 with
 | c17 => some c17
theorem s_EqualReached_ok (a_a : Reached) (v0_0 : Sv) (v0_1 : Sv) (v0_2 : Sv) (a_b : Reached) (v1_0 : Sv) (v1_1 : Sv) (v1_2 : Sv) (R : Bool) (hF : s_EqualReached a_a a_b = some R) :
   Fw.Spec Tryz.prog 22 [(.agg [v0_0.v, v0_1.v, v0_2.v, (.int .i64 a_a.Rounds)].toArray), (.agg [v1_0.v, v1_1.v, v1_2.v, (.int .i64 a_b.Rounds)].toArray)] [crd (RdS 58 rd58) v0_0.v a_a.Facts, crd (RdS 3 rdInt) v0_1.v a_a.Values, crd (RdS 54 rd54) v0_2.v a_a.Log, crd (RdS 58 rd58) v1_0.v a_b.Facts, crd (RdS 3 rdInt) v1_1.v a_b.Values, crd (RdS 54 rd54) v1_2.v a_b.Log] (fun _ : Unit => (.bool R)) (fun _ => []) := by
 refine Se 31 Tryz.func22 [.tmp 4] ?_
 intro H0 F0
 unfold s_EqualReached at hF
 refine au ?_
 refine AbR (fun k1 => ?_)
 refine AbR (fun k2 => ?_)
 iterate 2 refine au ?_
 obtain ⟨o3, hio3, hO4⟩ := bind_some hF
 refine au ?_
 refine C_cut (fun f' cs' => ∃ (c17 : Bool) (g : Fr), c17 = o3 ∧ f' = updL g [(4, (.bool c17))] ∧ Ent cs' []) ?_ ?_
 · replace hF := hio3
   iterate 4 refine au ?_
   refine bnd hF fun r5 hx6 hF => Cx0 (s_SameFacts_ok _ _ _ _ _ hx6) (fun _ => ?_)
   refine au ?_
   rcases Bool.eq_false_or_eq_true r5 with hg8 | hg8
   · rw [hg8]
     try rw [hg8] at hF; dsimp only [cond_true, cond_false] at hF
     iterate 9 refine au ?_
     refine bnd hF fun r9 hx10 hF => Cx0 (s_l2Ints_ok _ _ _ _ _ hx10) (fun _ => ?_)
     iterate 2 refine au ?_
     rcases Bool.eq_false_or_eq_true r9 with hg12 | hg12
     · rw [hg12]
       try rw [hg12] at hF; dsimp only [cond_true, cond_false] at hF
       iterate 9 refine au ?_
       refine bnd hF fun r13 hx14 hF => Cx0 (s_SameAccesses_ok _ _ _ _ _ hx14) (fun _ => ?_)
       iterate 2 refine au ?_
       rcases Bool.eq_false_or_eq_true r13 with hg16 | hg16
       · rw [hg16]
         try rw [hg16] at hF; dsimp only [cond_true, cond_false] at hF
         iterate 13 refine au ?_
         cases hF
         exact ⟨_, _, rfl, eqA, entA⟩
       rw [hg16]
       try rw [hg16] at hF; dsimp only [cond_true, cond_false] at hF
       iterate 8 refine au ?_
       cases hF
       exact ⟨_, _, rfl, eqA, entA⟩
     rw [hg12]
     try rw [hg12] at hF; dsimp only [cond_true, cond_false] at hF
     iterate 15 refine au ?_
     cases hF
     exact ⟨_, _, rfl, eqA, entA⟩
   rw [hg8]
   try rw [hg8] at hF; dsimp only [cond_true, cond_false] at hF
   iterate 22 refine au ?_
   cases hF
   exact ⟨_, _, rfl, eqA, entA⟩
 rintro _ _ ⟨c17, g18, rfl, rfl, hE⟩
 replace hF := hO4
 try dsimp only at hF
 refine K_ent hE ?_
 refine au ?_
 cases hF
 exact Er ()
def l_inside_L1 (a_b : List Fact) : List Fact → Nat → Option (Bool)
 | [], k4 => some true
 | x6 :: rest5, k4 => (s_HasFact a_b x6).bind fun r16 =>
   if (!r16) then (
     some false)
   else (
     l_inside_L1 a_b rest5 (k4 + 1))
def l_inside (a_a : List Fact) (a_b : List Fact) : Option (Bool) :=
 l_inside_L1 a_b a_a 0
theorem l_inside_ok (a_a : List Fact) (v0_0 : Sv) (a_b : List Fact) (v1_0 : Sv) (R : Bool) (hF : l_inside a_a a_b = some R) :
   Fw.Spec Tryz.prog 23 [v0_0.v, v1_0.v] [crd (RdS 58 rd58) v0_0.v a_a, crd (RdS 58 rd58) v1_0.v a_b] (fun _ : Unit => (.bool R)) (fun _ => []) := by
 refine Se 19 Tryz.func23 [.tmp 4] ?_
 intro H0 F0
 unfold l_inside at hF
 iterate 7 refine au ?_
 refine CW_block (CW_loop (m := a_a.length) (fun m2 f' cs' => ∃ (g : Fr) (k4 : Nat) (rest5 : List Fact), m2 = rest5.length ∧ f' = updL g [(0, v0_0.v), (1, v1_0.v), (5, (.int .i64 (k4 : Int)))] ∧ List.drop k4 a_a = rest5 ∧ Ent cs' [crd (RdS 58 rd58) v0_0.v a_a, crd (RdS 58 rd58) v1_0.v a_b] ∧ l_inside_L1 a_b rest5 k4 = some R) ⟨_, 0, _, rfl, eqA, rfl, entA, hF⟩ ?_)
 rintro m2 _ _ ⟨g3, k4, rest5, rfl, rfl, hd7, hE, hF⟩
 refine Kb hE a_a (fun hbd12 => ?_)
 rcases rest5 with _ | ⟨x6, rest5⟩
 · have hk8 := dn hd7
   rw [l_inside_L1] at hF
   iterate 7 refine au ?_
   refine CdF ?_
   iterate 8 refine au ?_
   cases hF
   exact Er ()
 obtain ⟨hk8, hx9, hd10⟩ := drop_cons hd7
 rw [l_inside_L1] at hF
 iterate 7 refine au ?_
 refine CdT ?_
 iterate 6 refine au ?_
 refine Ai hx9 (fun k13 j14 => ?_)
 refine AlA1 (ul58_0_58 x6) la58_0_58 (fun p15 => ?_)
 refine bnd hF fun r16 hx17 hF => Cx0 (s_HasFact_ok _ _ _ _ _ hx17) (fun _ => ?_)
 iterate 2 refine au ?_
 refine Ci hF (fun hb20 hF => ?_) (fun hb20 hF => ?_)
 · iterate 4 refine au ?_
   cases hF
   exact Er ()
 iterate 6 refine au ?_
 rw [wk k4]
 exact ⟨_, Nat.lt_succ_self _, _, k4 + 1, rest5, rfl, eqA, hd10, entA, hF⟩
def l_sameInts_L1 (a_b : List Int) : List Int → Nat → Option (Bool)
 | [], k4 => some true
 | x6 :: rest5, k4 => (ix a_b (k4 : Int)).bind fun x15 =>
   if ((x6 : Int) != x15) then (
     some false)
   else (
     l_sameInts_L1 a_b rest5 (k4 + 1))
def l_sameInts (a_a : List Int) (a_b : List Int) : Option (Bool) :=
 if (((a_a.length : Int) : Int) != (a_b.length : Int)) then (
   some false)
 else (
   l_sameInts_L1 a_b a_a 0)
theorem l_sameInts_ok (a_a : List Int) (v0_0 : Sv) (a_b : List Int) (v1_0 : Sv) (R : Bool) (hF : l_sameInts a_a a_b = some R) :
   Fw.Spec Tryz.prog 62 [v0_0.v, v1_0.v] [crd (RdS 3 rdInt) v0_0.v a_a, crd (RdS 3 rdInt) v1_0.v a_b] (fun _ : Unit => (.bool R)) (fun _ => []) := by
 refine Se 26 Tryz.func62 [.tmp 4] ?_
 intro H0 F0
 unfold l_sameInts at hF
 iterate 11 refine au ?_
 refine Ci hF (fun hb23 hF => ?_) (fun hb23 hF => ?_)
 · iterate 4 refine au ?_
   cases hF
   exact Er ()
 iterate 5 refine au ?_
 refine CW_block (CW_loop (m := a_a.length) (fun m2 f' cs' => ∃ (g : Fr) (k4 : Nat) (rest5 : List Int), m2 = rest5.length ∧ f' = updL g [(0, v0_0.v), (1, v1_0.v), (5, (.int .i64 (k4 : Int)))] ∧ List.drop k4 a_a = rest5 ∧ Ent cs' [crd (RdS 3 rdInt) v0_0.v a_a, crd (RdS 3 rdInt) v1_0.v a_b] ∧ l_sameInts_L1 a_b rest5 k4 = some R) ⟨_, 0, _, rfl, eqA, rfl, entA, hF⟩ ?_)
 rintro m2 _ _ ⟨g3, k4, rest5, rfl, rfl, hd7, hE, hF⟩
 refine Kb hE a_a (fun hbd12 => ?_)
 rcases rest5 with _ | ⟨x6, rest5⟩
 · have hk8 := dn hd7
   rw [l_sameInts_L1] at hF
   iterate 7 refine au ?_
   refine CdF ?_
   iterate 8 refine au ?_
   cases hF
   exact Er ()
 obtain ⟨hk8, hx9, hd10⟩ := drop_cons hd7
 rw [l_sameInts_L1] at hF
 iterate 7 refine au ?_
 refine CdT ?_
 iterate 2 refine au ?_
 refine K_draw [0, 1, 2, 3, 4, 5, 6, 7, 8] [0, 0, 3, 7, 0, 0, 48, 112, 255] [] mixed (by decide +kernel) ?_
 iterate 2 refine du ?_
 refine Di hx9 (fun k13 j14 => ?_)
 refine Dl ls3_0 ?_
 iterate 2 refine du ?_
 refine bnd hF fun x15 hx16 hF => ?_
 obtain ⟨hp17, hx18⟩ := ix_some hx16
 refine Di hx18 (fun k19 j20 => ?_)
 refine Dl ls3_0 ?_
 iterate 2 refine du ?_
 refine Ci hF (fun hb22 hF => ?_) (fun hb22 hF => ?_)
 · iterate 4 refine au ?_
   cases hF
   exact Er ()
 iterate 6 refine au ?_
 rw [wk k4]
 exact ⟨_, Nat.lt_succ_self _, _, k4 + 1, rest5, rfl, eqA, hd10, entA, hF⟩
def l_single_L2 (a_l : List Access) (k4 : Nat) (x6 : Access) : Nat → Int → Option (Sum (Bool) (Unit))
 | 0, _ => none
 | m16 + 1, c15 => if (decide ((c15 : Int) < (k4 : Int))) then (
     ((ix a_l c15).bind fun x28 =>
       bif ((x6.Method : Int) == x28.Method) then ((ix a_l c15).bind fun x38 =>
         (l_sameInts x6.Values x38.Values).bind fun r45 =>
         some r45)
       else (some false)).bind fun o24 =>
     match o24 with
     | c48 => if c48 then (
         some (.inl false))
       else (
         l_single_L2 a_l k4 x6 m16 (IntKind.i64.wrap (c15 + 1))))
   else (
     some (.inr ()))
def l_single_L1 (a_l : List Access) : List Access → Nat → Option (Bool)
 | [], k4 => some true
 | x6 :: rest5, k4 => ((l_single_L2 a_l k4 x6 (((k4 : Int) - 0).toNat + 2) 0) : Option (Sum (Bool) (Unit))).bind fun o13 =>
   match o13 with
   | .inl r => some r
   | .inr _ => l_single_L1 a_l rest5 (k4 + 1)
def l_single (a_l : List Access) : Option (Bool) :=
 l_single_L1 a_l a_l 0
theorem l_single_ok (a_l : List Access) (v0_0 : Sv) (R : Bool) (hF : l_single a_l = some R) :
   Fw.Spec Tryz.prog 24 [v0_0.v] [crd (RdS 54 rd54) v0_0.v a_l] (fun _ : Unit => (.bool R)) (fun _ => []) := by
 refine Se 40 Tryz.func24 [.tmp 2] ?_
 intro H0 F0
 unfold l_single at hF
 iterate 7 refine au ?_
 refine CW_block (CW_loop (m := a_l.length) (fun m2 f' cs' => ∃ (g : Fr) (k4 : Nat) (rest5 : List Access), m2 = rest5.length ∧ f' = updL g [(0, v0_0.v), (3, (.int .i64 (k4 : Int)))] ∧ List.drop k4 a_l = rest5 ∧ Ent cs' [crd (RdS 54 rd54) v0_0.v a_l] ∧ l_single_L1 a_l rest5 k4 = some R) ⟨_, 0, _, rfl, eqA, rfl, entA, hF⟩ ?_)
 rintro m2 _ _ ⟨g3, k4, rest5, rfl, rfl, hd7, hE, hF⟩
 refine Kb hE a_l (fun hbd12 => ?_)
 rcases rest5 with _ | ⟨x6, rest5⟩
 · have hk8 := dn hd7
   rw [l_single_L1] at hF
   iterate 7 refine au ?_
   refine CdF ?_
   iterate 8 refine au ?_
   cases hF
   exact Er ()
 obtain ⟨hk8, hx9, hd10⟩ := drop_cons hd7
 rw [l_single_L1] at hF
 iterate 7 refine au ?_
 refine CdT ?_
 refine au ?_
 obtain ⟨o13, hio13, hO14⟩ := bind_some hF
 refine K_cut (fun f' cs' => ∃ (g : Fr), o13 = .inr () ∧ f' = updL g [(0, v0_0.v), (3, (.int .i64 (k4 : Int)))] ∧ Ent cs' [crd (RdS 54 rd54) v0_0.v a_l]) ?_ ?_
 · replace hF := hio13
   refine CW_block (K_region (C_val (V_assign (v := (.int .i64 0)) (.int _ _)) ?_))
   refine au ?_
   refine CW_block (CW_loop (m := (((k4 : Int) - 0).toNat + 2)) (fun m16 f' cs' => ∃ (g : Fr) (c15 : Int), f' = updL g [(0, v0_0.v), (3, (.int .i64 (k4 : Int))), (4, (.int .i64 c15))] ∧ Ent cs' [crd (RdS 54 rd54) v0_0.v a_l] ∧ l_single_L2 a_l k4 x6 m16 c15 = some o13) ⟨_, _, eqA, entA, hF⟩ ?_)
   rintro m16 _ _ ⟨g17, c15, rfl, hE, hF⟩
   refine K_ent hE ?_
   rcases m16 with _ | m16
   · rw [l_single_L2] at hF
     exact absurd hF (by simp)
   rw [l_single_L2] at hF
   iterate 6 refine au ?_
   refine Ci hF (fun hb51 hF => ?_) (fun hb51 hF => ?_)
   · iterate 2 refine au ?_
     obtain ⟨o24, hio24, hO25⟩ := bind_some hF
     refine K_draw [0, 1, 2, 3, 4, 5, 6, 7, 8, 9, 10, 11, 12, 13, 14, 15, 16, 17, 18, 19, 20, 21, 22, 23] [0, 0, 3, 7, 15, 0, 0, 96, 224, 480, 1023, 2047, 4095, 4095, 16383, 32767, 65535, 4095, 4095, 397311, 921599, 1970175, 4194303, 8388607] [22] mixed (by decide +kernel) ?_
     refine D_cut (fun f' cs' => ∃ (c48 : Bool) (g : Fr), c48 = o24 ∧ f' = updL g [(0, v0_0.v), (3, (.int .i64 (k4 : Int))), (4, (.int .i64 c15)), (39, (.bool c48))] ∧ Ent cs' [crd (RdS 54 rd54) v0_0.v a_l]) ?_ ?_
     · replace hF := hio24
       iterate 2 refine du ?_
       refine Di hx9 (fun k26 j27 => ?_)
       refine du ?_
       refine Dl ls54_0 ?_
       iterate 2 refine du ?_
       refine bnd hF fun x28 hx29 hF => ?_
       obtain ⟨hp30, hx31⟩ := ix_some hx29
       refine Di hx31 (fun k32 j33 => ?_)
       refine du ?_
       refine Dl ls54_0 ?_
       iterate 2 refine du ?_
       rcases Bool.eq_false_or_eq_true ((x6.Method : Int) == x28.Method) with hg34 | hg34
       · rw [hg34]
         try rw [hg34] at hF; dsimp only [cond_true, cond_false] at hF
         iterate 2 refine du ?_
         refine Di hx9 (fun k35 j36 => ?_)
         refine du ?_
         refine D_ldV (R' := (RdS 3 rdInt)) ag24.h rfl (.on 27 rfl rfl rfl) (.tmp rfl rfl) rfl .h lv54_1 (fun w37 => ?_)
         iterate 2 refine du ?_
         refine bnd hF fun x38 hx39 hF => ?_
         obtain ⟨hp40, hx41⟩ := ix_some hx39
         refine Di hx41 (fun k42 j43 => ?_)
         refine du ?_
         refine D_ldV (R' := (RdS 3 rdInt)) ag24.h rfl (.on 27 rfl rfl rfl) (.tmp rfl rfl) rfl .h lv54_1 (fun w44 => ?_)
         refine bnd hF fun r45 hx46 hF => Dx0 (l_sameInts_ok _ _ _ _ _ hx46) (fun _ => ?_)
         iterate 2 refine du ?_
         cases hF
         exact ⟨_, _, rfl, eqA, entA⟩
       rw [hg34]
       try rw [hg34] at hF; dsimp only [cond_true, cond_false] at hF
       iterate 13 refine du ?_
       cases hF
       exact ⟨_, _, rfl, eqA, entA⟩
     rintro _ _ ⟨c48, g50, rfl, rfl, hE⟩
     replace hF := hO25
     try dsimp only at hF
     refine K_ent hE ?_
     refine Ci hF (fun hb49 hF => ?_) (fun hb49 hF => ?_)
     · iterate 4 refine au ?_
       cases hF
       replace hF := hO14
       try dsimp only at hF
       cases hF
       exact Er ()
     iterate 6 refine au ?_
     exact ⟨m16, Nat.lt_succ_self _, _, _, eqA, entA, hF⟩
   iterate 4 refine au ?_
   cases hF
   exact ⟨_, rfl, eqA, entA⟩
 rintro _ _ ⟨g53, rfl, rfl, hE⟩
 replace hF := hO14
 try dsimp only at hF
 refine K_ent hE ?_
 iterate 5 refine au ?_
 rw [wk k4]
 exact ⟨_, Nat.lt_succ_self _, _, k4 + 1, rest5, rfl, eqA, hd10, entA, hF⟩
def i_areReached (a_values : List Int) : Option (Bool) :=
 ((i_ascending a_values).bind fun r3 =>
   bif r3 then ((i_areValues a_values).bind fun r7 =>
     some r7)
   else (some false)).bind fun o1 =>
 match o1 with
 | c10 => some c10
theorem i_areReached_ok (a_values : List Int) (v0_0 : Sv) (R : Bool) (hF : i_areReached a_values = some R) :
   Fw.Spec Tryz.prog 68 [v0_0.v] [crd (RdS 3 rdInt) v0_0.v a_values] (fun _ : Unit => (.bool R)) (fun _ => []) := by
 refine Se 9 Tryz.func68 [.tmp 2] ?_
 intro H0 F0
 unfold i_areReached at hF
 iterate 3 refine au ?_
 obtain ⟨o1, hio1, hO2⟩ := bind_some hF
 refine au ?_
 refine C_cut (fun f' cs' => ∃ (c10 : Bool) (g : Fr), c10 = o1 ∧ f' = updL g [(2, (.bool c10))] ∧ Ent cs' []) ?_ ?_
 · replace hF := hio1
   refine au ?_
   refine bnd hF fun r3 hx4 hF => Cx0 (i_ascending_ok _ _ _ hx4) (fun _ => ?_)
   refine au ?_
   rcases Bool.eq_false_or_eq_true r3 with hg6 | hg6
   · rw [hg6]
     try rw [hg6] at hF; dsimp only [cond_true, cond_false] at hF
     iterate 3 refine au ?_
     refine bnd hF fun r7 hx8 hF => Cx0 (i_areValues_ok _ _ _ hx8) (fun _ => ?_)
     iterate 3 refine au ?_
     cases hF
     exact ⟨_, _, rfl, eqA, entA⟩
   rw [hg6]
   try rw [hg6] at hF; dsimp only [cond_true, cond_false] at hF
   iterate 5 refine au ?_
   cases hF
   exact ⟨_, _, rfl, eqA, entA⟩
 rintro _ _ ⟨c10, g11, rfl, rfl, hE⟩
 replace hF := hO2
 try dsimp only at hF
 refine K_ent hE ?_
 refine au ?_
 cases hF
 exact Er ()
def i_OpenAccesses (a_s : List Int) (a_l : List Method) (a_r : Reached) : Option ((List Access)) :=
 ((i_AreMethods a_s a_l).bind fun r4 =>
   bif (!r4) then (some true)
   else ((i_areReached a_r.Values).bind fun r8 =>
     some (!r8))).bind fun o2 =>
 match o2 with
 | c11 => if c11 then (
     some [])
   else (
     (i_Reached_open a_r a_l).bind fun r12 =>
     some r12)
theorem i_OpenAccesses_ok (a_s : List Int) (v0_0 : Sv) (a_l : List Method) (v1_0 : Sv) (a_r : Reached) (v2_0 : Sv) (v2_1 : Sv) (v2_2 : Sv) (R : (List Access)) (hF : i_OpenAccesses a_s a_l a_r = some R) :
   Fw.Spec Tryz.prog 26 [v0_0.v, v1_0.v, (.agg [v2_0.v, v2_1.v, v2_2.v, (.int .i64 a_r.Rounds)].toArray)] [crd (RdS 3 rdInt) v0_0.v a_s, crd (RdS 97 rd97) v1_0.v a_l, crd (RdS 58 rd58) v2_0.v a_r.Facts, crd (RdS 3 rdInt) v2_1.v a_r.Values, crd (RdS 54 rd54) v2_2.v a_r.Log] (fun p : Sv × List Nat => p.1.v) (fun p => [cown (OwnS 54 ow54) p.2 p.1.v R]) := by
 refine Se 20 Tryz.func26 [.tmp 6] ?_
 intro H0 F0
 unfold i_OpenAccesses at hF
 refine au ?_
 refine AbR (fun k1 => ?_)
 iterate 3 refine au ?_
 obtain ⟨o2, hio2, hO3⟩ := bind_some hF
 refine au ?_
 refine C_cut (fun f' cs' => ∃ (c11 : Bool) (g : Fr), c11 = o2 ∧ f' = updL g [(1, v1_0.v), (5, (pz k1)), (16, (.bool c11))] ∧ Ent cs' [crd (RdS 97 rd97) v1_0.v a_l, cboR k1 46 (.agg [v2_0.v, v2_1.v, v2_2.v, (.int .i64 a_r.Rounds)].toArray), crd (RdS 58 rd58) v2_0.v a_r.Facts, crd (RdS 3 rdInt) v2_1.v a_r.Values, crd (RdS 54 rd54) v2_2.v a_r.Log]) ?_ ?_
 · replace hF := hio2
   iterate 2 refine au ?_
   refine bnd hF fun r4 hx5 hF => Cx0 (i_AreMethods_ok _ _ _ _ _ hx5) (fun _ => ?_)
   iterate 2 refine au ?_
   rcases Bool.eq_false_or_eq_true (!r4) with hg7 | hg7
   · rw [hg7]
     try rw [hg7] at hF; dsimp only [cond_true, cond_false] at hF
     iterate 6 refine au ?_
     cases hF
     exact ⟨_, _, rfl, eqA, entA⟩
   rw [hg7]
   try rw [hg7] at hF; dsimp only [cond_true, cond_false] at hF
   iterate 5 refine au ?_
   refine bnd hF fun r8 hx9 hF => Cx0 (i_areReached_ok _ _ _ hx9) (fun _ => ?_)
   iterate 4 refine au ?_
   cases hF
   exact ⟨_, _, rfl, eqA, entA⟩
 rintro _ _ ⟨c11, g16, rfl, rfl, hE⟩
 replace hF := hO3
 try dsimp only at hF
 refine K_ent hE ?_
 refine Ci hF (fun hb15 hF => ?_) (fun hb15 hF => ?_)
 · iterate 4 refine au ?_
   cases hF
   exact End_ret (⟨none, 0, 0⟩, []) (.tmp rfl rfl .nil) rfl (.conv .nil (own_nil (Ro := ow54) (E := 54)) (.cons .nil) (.sel (.cons .h .nil)))
 iterate 4 refine au ?_
 refine bnd hF fun r12 hx13 hF => Cx1 (i_Reached_open_ok _ _ _ _ _ _ _ hx13) (fun p14 => ?_)
 iterate 3 refine au ?_
 cases hF
 exact Er (p14.1, p14.2)
def i_SameFacts_1 (a_x : Fact) (a_y : Fact) : Option (Bool) :=
 (i_CompareFacts a_x a_y).bind fun r3 =>
 some ((r3 : Int) == 0)
theorem i_SameFacts_1_ok (a_x : Fact) (v0_1 : Sv) (a_y : Fact) (v1_1 : Sv) (R : Bool) (hF : i_SameFacts_1 a_x a_y = some R) :
   Fw.Spec Tryz.prog 139 [(.agg [(.int .i64 a_x.Rel), v0_1.v].toArray), (.agg [(.int .i64 a_y.Rel), v1_1.v].toArray)] [crd (RdS 3 rdInt) v0_1.v a_x.Values, crd (RdS 3 rdInt) v1_1.v a_y.Values] (fun _ : Unit => (.bool R)) (fun _ => []) := by
 refine Se 9 Tryz.func139 [.tmp 4] ?_
 intro H0 F0
 unfold i_SameFacts_1 at hF
 refine au ?_
 refine AbR (fun k1 => ?_)
 refine AbR (fun k2 => ?_)
 iterate 5 refine au ?_
 refine bnd hF fun r3 hx4 hF => Cx0 (i_CompareFacts_ok _ _ _ _ _ hx4) (fun _ => ?_)
 iterate 4 refine au ?_
 cases hF
 exact Er ()
def g_slices_EqualFunc_impl_Fact_impl_Fact_impl_Fact_impl_Fact_iSameFacts1_L1 (a_s2 : List Fact) : List Fact → Nat → Option (Bool)
 | [], k4 => some true
 | x6 :: rest5, k4 => (ix a_s2 (k4 : Int)).bind fun x17 =>
   (i_SameFacts_1 x6 x17).bind fun r25 =>
   if (!r25) then (
     some false)
   else (
     g_slices_EqualFunc_impl_Fact_impl_Fact_impl_Fact_impl_Fact_iSameFacts1_L1 a_s2 rest5 (k4 + 1))
def g_slices_EqualFunc_impl_Fact_impl_Fact_impl_Fact_impl_Fact_iSameFacts1 (a_s1 : List Fact) (a_s2 : List Fact) : Option (Bool) :=
 if (((a_s1.length : Int) : Int) != (a_s2.length : Int)) then (
   some false)
 else (
   g_slices_EqualFunc_impl_Fact_impl_Fact_impl_Fact_impl_Fact_iSameFacts1_L1 a_s2 a_s1 0)
theorem g_slices_EqualFunc_impl_Fact_impl_Fact_impl_Fact_impl_Fact_iSameFacts1_ok (a_s1 : List Fact) (v0_0 : Sv) (a_s2 : List Fact) (v1_0 : Sv) (R : Bool) (hF : g_slices_EqualFunc_impl_Fact_impl_Fact_impl_Fact_impl_Fact_iSameFacts1 a_s1 a_s2 = some R) :
   Fw.Spec Tryz.prog 138 [v0_0.v, v1_0.v, (.func (.func 139) [].toArray [].toArray)] [crd (RdS 58 rd58) v0_0.v a_s1, crd (RdS 58 rd58) v1_0.v a_s2] (fun _ : Unit => (.bool R)) (fun _ => []) := by
 refine Se 32 Tryz.func138 [.tmp 6] ?_
 intro H0 F0
 unfold g_slices_EqualFunc_impl_Fact_impl_Fact_impl_Fact_impl_Fact_iSameFacts1 at hF
 iterate 11 refine au ?_
 refine Ci hF (fun hb30 hF => ?_) (fun hb30 hF => ?_)
 · iterate 4 refine au ?_
   cases hF
   exact Er ()
 iterate 7 refine au ?_
 refine CW_block (CW_loop (m := a_s1.length) (fun m2 f' cs' => ∃ (g : Fr) (k4 : Nat) (rest5 : List Fact), m2 = rest5.length ∧ f' = updL g [(1, v1_0.v), (2, (.func (.func 139) [].toArray [].toArray)), (15, v0_0.v), (16, (.int .i64 (a_s1.length : Int))), (17, (.int .i64 (k4 : Int)))] ∧ List.drop k4 a_s1 = rest5 ∧ Ent cs' [crd (RdS 58 rd58) v1_0.v a_s2, crd (RdS 58 rd58) v0_0.v a_s1] ∧ g_slices_EqualFunc_impl_Fact_impl_Fact_impl_Fact_impl_Fact_iSameFacts1_L1 a_s2 rest5 k4 = some R) ⟨_, 0, _, rfl, eqA, rfl, entA, hF⟩ ?_)
 rintro m2 _ _ ⟨g3, k4, rest5, rfl, rfl, hd7, hE, hF⟩
 refine Kb hE a_s1 (fun hbd12 => ?_)
 rcases rest5 with _ | ⟨x6, rest5⟩
 · have hk8 := dn hd7
   rw [g_slices_EqualFunc_impl_Fact_impl_Fact_impl_Fact_impl_Fact_iSameFacts1_L1] at hF
   iterate 4 refine au ?_
   refine CdF ?_
   iterate 8 refine au ?_
   cases hF
   exact Er ()
 obtain ⟨hk8, hx9, hd10⟩ := drop_cons hd7
 rw [g_slices_EqualFunc_impl_Fact_impl_Fact_impl_Fact_impl_Fact_iSameFacts1_L1] at hF
 iterate 4 refine au ?_
 refine CdT ?_
 iterate 4 refine au ?_
 refine Ai hx9 (fun k13 j14 => ?_)
 refine AlA1 (ul58_0_58 x6) la58_0_58 (fun p15 => ?_)
 refine AnW (fun k16 => ?_)
 refine au ?_
 refine As (.agg [(.int .i64 x6.Rel), p15.v].toArray) ?_
 iterate 4 refine au ?_
 refine bnd hF fun x17 hx18 hF => ?_
 obtain ⟨hp19, hx20⟩ := ix_some hx18
 refine Ai hx20 (fun k21 j22 => ?_)
 refine AlA1 (ul58_0_58 x17) la58_0_58 (fun p23 => ?_)
 refine AnW (fun k24 => ?_)
 refine As (.agg [(.int .i64 x17.Rel), p23.v].toArray) ?_
 iterate 5 refine au ?_
 refine bnd hF fun r25 hx26 hF => C_x0 (.rd (.t (.t (.t (.t .h)))) rfl (.rd (.t .h) rfl .nil)) (X_callCS cf139.h (.tmp rfl rfl) (.cons (.tmp rfl rfl) (.cons (.tmp rfl rfl) .nil)) (i_SameFacts_1_ok x6 p15 x17 p23 _ hx26)) (fun _ => ?_)
 iterate 2 refine au ?_
 refine Ci hF (fun hb29 hF => ?_) (fun hb29 hF => ?_)
 · iterate 4 refine au ?_
   cases hF
   exact Er ()
 iterate 5 refine au ?_
 rw [wk k4]
 exact ⟨_, Nat.lt_succ_self _, _, k4 + 1, rest5, rfl, eqA, hd10, entA, hF⟩
def i_SameFacts (a_a : List Fact) (a_b : List Fact) : Option (Bool) :=
 (g_slices_EqualFunc_impl_Fact_impl_Fact_impl_Fact_impl_Fact_iSameFacts1 a_a a_b).bind fun r1 =>
 some r1
theorem i_SameFacts_ok (a_a : List Fact) (v0_0 : Sv) (a_b : List Fact) (v1_0 : Sv) (R : Bool) (hF : i_SameFacts a_a a_b = some R) :
   Fw.Spec Tryz.prog 85 [v0_0.v, v1_0.v] [crd (RdS 58 rd58) v0_0.v a_a, crd (RdS 58 rd58) v1_0.v a_b] (fun _ : Unit => (.bool R)) (fun _ => []) := by
 refine Se 8 Tryz.func85 [.tmp 4] ?_
 intro H0 F0
 unfold i_SameFacts at hF
 iterate 6 refine au ?_
 refine bnd hF fun r1 hx2 hF => Cx0 (g_slices_EqualFunc_impl_Fact_impl_Fact_impl_Fact_impl_Fact_iSameFacts1_ok _ _ _ _ _ hx2) (fun _ => ?_)
 iterate 3 refine au ?_
 cases hF
 exact Er ()
def g_slices_EqualFunc_impl_Access_impl_Access_impl_Access_impl_Access_isameAccess_L1 (a_s2 : List Access) : List Access → Nat → Option (Bool)
 | [], k4 => some true
 | x6 :: rest5, k4 => (ix a_s2 (k4 : Int)).bind fun x17 =>
   (i_sameAccess x6 x17).bind fun r25 =>
   if (!r25) then (
     some false)
   else (
     g_slices_EqualFunc_impl_Access_impl_Access_impl_Access_impl_Access_isameAccess_L1 a_s2 rest5 (k4 + 1))
def g_slices_EqualFunc_impl_Access_impl_Access_impl_Access_impl_Access_isameAccess (a_s1 : List Access) (a_s2 : List Access) : Option (Bool) :=
 if (((a_s1.length : Int) : Int) != (a_s2.length : Int)) then (
   some false)
 else (
   g_slices_EqualFunc_impl_Access_impl_Access_impl_Access_impl_Access_isameAccess_L1 a_s2 a_s1 0)
theorem g_slices_EqualFunc_impl_Access_impl_Access_impl_Access_impl_Access_isameAccess_ok (a_s1 : List Access) (v0_0 : Sv) (a_s2 : List Access) (v1_0 : Sv) (R : Bool) (hF : g_slices_EqualFunc_impl_Access_impl_Access_impl_Access_impl_Access_isameAccess a_s1 a_s2 = some R) :
   Fw.Spec Tryz.prog 140 [v0_0.v, v1_0.v, (.func (.func 141) [].toArray [].toArray)] [crd (RdS 54 rd54) v0_0.v a_s1, crd (RdS 54 rd54) v1_0.v a_s2] (fun _ : Unit => (.bool R)) (fun _ => []) := by
 refine Se 32 Tryz.func140 [.tmp 6] ?_
 intro H0 F0
 unfold g_slices_EqualFunc_impl_Access_impl_Access_impl_Access_impl_Access_isameAccess at hF
 iterate 11 refine au ?_
 refine Ci hF (fun hb30 hF => ?_) (fun hb30 hF => ?_)
 · iterate 4 refine au ?_
   cases hF
   exact Er ()
 iterate 7 refine au ?_
 refine CW_block (CW_loop (m := a_s1.length) (fun m2 f' cs' => ∃ (g : Fr) (k4 : Nat) (rest5 : List Access), m2 = rest5.length ∧ f' = updL g [(1, v1_0.v), (2, (.func (.func 141) [].toArray [].toArray)), (15, v0_0.v), (16, (.int .i64 (a_s1.length : Int))), (17, (.int .i64 (k4 : Int)))] ∧ List.drop k4 a_s1 = rest5 ∧ Ent cs' [crd (RdS 54 rd54) v1_0.v a_s2, crd (RdS 54 rd54) v0_0.v a_s1] ∧ g_slices_EqualFunc_impl_Access_impl_Access_impl_Access_impl_Access_isameAccess_L1 a_s2 rest5 k4 = some R) ⟨_, 0, _, rfl, eqA, rfl, entA, hF⟩ ?_)
 rintro m2 _ _ ⟨g3, k4, rest5, rfl, rfl, hd7, hE, hF⟩
 refine Kb hE a_s1 (fun hbd12 => ?_)
 rcases rest5 with _ | ⟨x6, rest5⟩
 · have hk8 := dn hd7
   rw [g_slices_EqualFunc_impl_Access_impl_Access_impl_Access_impl_Access_isameAccess_L1] at hF
   iterate 4 refine au ?_
   refine CdF ?_
   iterate 8 refine au ?_
   cases hF
   exact Er ()
 obtain ⟨hk8, hx9, hd10⟩ := drop_cons hd7
 rw [g_slices_EqualFunc_impl_Access_impl_Access_impl_Access_impl_Access_isameAccess_L1] at hF
 iterate 4 refine au ?_
 refine CdT ?_
 iterate 4 refine au ?_
 refine Ai hx9 (fun k13 j14 => ?_)
 refine AlA1 (ul54_0_54 x6) la54_0_54 (fun p15 => ?_)
 refine AnW (fun k16 => ?_)
 refine au ?_
 refine As (.agg [(.int .i64 x6.Method), p15.v].toArray) ?_
 iterate 4 refine au ?_
 refine bnd hF fun x17 hx18 hF => ?_
 obtain ⟨hp19, hx20⟩ := ix_some hx18
 refine Ai hx20 (fun k21 j22 => ?_)
 refine AlA1 (ul54_0_54 x17) la54_0_54 (fun p23 => ?_)
 refine AnW (fun k24 => ?_)
 refine As (.agg [(.int .i64 x17.Method), p23.v].toArray) ?_
 iterate 5 refine au ?_
 refine bnd hF fun r25 hx26 hF => C_x0 (.rd (.t (.t (.t (.t .h)))) rfl (.rd (.t .h) rfl .nil)) (X_callCS cf141.h (.tmp rfl rfl) (.cons (.tmp rfl rfl) (.cons (.tmp rfl rfl) .nil)) (i_sameAccess_ok x6 p15 x17 p23 _ hx26)) (fun _ => ?_)
 iterate 2 refine au ?_
 refine Ci hF (fun hb29 hF => ?_) (fun hb29 hF => ?_)
 · iterate 4 refine au ?_
   cases hF
   exact Er ()
 iterate 5 refine au ?_
 rw [wk k4]
 exact ⟨_, Nat.lt_succ_self _, _, k4 + 1, rest5, rfl, eqA, hd10, entA, hF⟩
def i_SameAccesses (a_a : List Access) (a_b : List Access) : Option (Bool) :=
 (g_slices_EqualFunc_impl_Access_impl_Access_impl_Access_impl_Access_isameAccess a_a a_b).bind fun r1 =>
 some r1
theorem i_SameAccesses_ok (a_a : List Access) (v0_0 : Sv) (a_b : List Access) (v1_0 : Sv) (R : Bool) (hF : i_SameAccesses a_a a_b = some R) :
   Fw.Spec Tryz.prog 87 [v0_0.v, v1_0.v] [crd (RdS 54 rd54) v0_0.v a_a, crd (RdS 54 rd54) v1_0.v a_b] (fun _ : Unit => (.bool R)) (fun _ => []) := by
 refine Se 8 Tryz.func87 [.tmp 4] ?_
 intro H0 F0
 unfold i_SameAccesses at hF
 iterate 6 refine au ?_
 refine bnd hF fun r1 hx2 hF => Cx0 (g_slices_EqualFunc_impl_Access_impl_Access_impl_Access_impl_Access_isameAccess_ok _ _ _ _ _ hx2) (fun _ => ?_)
 iterate 3 refine au ?_
 cases hF
 exact Er ()
def i_EqualReached (a_a : Reached) (a_b : Reached) : Option (Bool) :=
 ((i_SameFacts a_a.Facts a_b.Facts).bind fun r5 =>
   bif r5 then ((g_slices_Equal_int_int a_a.Values a_b.Values).bind fun r9 =>
     bif r9 then ((i_SameAccesses a_a.Log a_b.Log).bind fun r13 =>
       bif r13 then (some ((a_a.Rounds : Int) == a_b.Rounds))
       else (some false))
     else (some false))
   else (some false)).bind fun o3 =>
 match o3 with
 | c17 => some c17
theorem i_EqualReached_ok (a_a : Reached) (v0_0 : Sv) (v0_1 : Sv) (v0_2 : Sv) (a_b : Reached) (v1_0 : Sv) (v1_1 : Sv) (v1_2 : Sv) (R : Bool) (hF : i_EqualReached a_a a_b = some R) :
   Fw.Spec Tryz.prog 36 [(.agg [v0_0.v, v0_1.v, v0_2.v, (.int .i64 a_a.Rounds)].toArray), (.agg [v1_0.v, v1_1.v, v1_2.v, (.int .i64 a_b.Rounds)].toArray)] [crd (RdS 58 rd58) v0_0.v a_a.Facts, crd (RdS 3 rdInt) v0_1.v a_a.Values, crd (RdS 54 rd54) v0_2.v a_a.Log, crd (RdS 58 rd58) v1_0.v a_b.Facts, crd (RdS 3 rdInt) v1_1.v a_b.Values, crd (RdS 54 rd54) v1_2.v a_b.Log] (fun _ : Unit => (.bool R)) (fun _ => []) := by
 refine Se 31 Tryz.func36 [.tmp 4] ?_
 intro H0 F0
 unfold i_EqualReached at hF
 refine au ?_
 refine AbR (fun k1 => ?_)
 refine AbR (fun k2 => ?_)
 iterate 2 refine au ?_
 obtain ⟨o3, hio3, hO4⟩ := bind_some hF
 refine au ?_
 refine C_cut (fun f' cs' => ∃ (c17 : Bool) (g : Fr), c17 = o3 ∧ f' = updL g [(4, (.bool c17))] ∧ Ent cs' []) ?_ ?_
 · replace hF := hio3
   iterate 4 refine au ?_
   refine bnd hF fun r5 hx6 hF => Cx0 (i_SameFacts_ok _ _ _ _ _ hx6) (fun _ => ?_)
   refine au ?_
   rcases Bool.eq_false_or_eq_true r5 with hg8 | hg8
   · rw [hg8]
     try rw [hg8] at hF; dsimp only [cond_true, cond_false] at hF
     iterate 9 refine au ?_
     refine bnd hF fun r9 hx10 hF => Cx0 (g_slices_Equal_int_int_ok _ _ _ _ _ hx10) (fun _ => ?_)
     iterate 2 refine au ?_
     rcases Bool.eq_false_or_eq_true r9 with hg12 | hg12
     · rw [hg12]
       try rw [hg12] at hF; dsimp only [cond_true, cond_false] at hF
       iterate 9 refine au ?_
       refine bnd hF fun r13 hx14 hF => Cx0 (i_SameAccesses_ok _ _ _ _ _ hx14) (fun _ => ?_)
       iterate 2 refine au ?_
       rcases Bool.eq_false_or_eq_true r13 with hg16 | hg16
       · rw [hg16]
         try rw [hg16] at hF; dsimp only [cond_true, cond_false] at hF
         iterate 13 refine au ?_
         cases hF
         exact ⟨_, _, rfl, eqA, entA⟩
       rw [hg16]
       try rw [hg16] at hF; dsimp only [cond_true, cond_false] at hF
       iterate 8 refine au ?_
       cases hF
       exact ⟨_, _, rfl, eqA, entA⟩
     rw [hg12]
     try rw [hg12] at hF; dsimp only [cond_true, cond_false] at hF
     iterate 15 refine au ?_
     cases hF
     exact ⟨_, _, rfl, eqA, entA⟩
   rw [hg8]
   try rw [hg8] at hF; dsimp only [cond_true, cond_false] at hF
   iterate 22 refine au ?_
   cases hF
   exact ⟨_, _, rfl, eqA, entA⟩
 rintro _ _ ⟨c17, g18, rfl, rfl, hE⟩
 replace hF := hO4
 try dsimp only at hF
 refine K_ent hE ?_
 refine au ?_
 cases hF
 exact Er ()
end Go.Proofs.YtndckmfbndmkhaaGreat
