/-
  Functions of the program as Lean functions, and that the calls return what these say: part 2. No conditions.
-/
import Derived.Shelf.Sort.Plain
import Derived.Shelf.Slices.In.SortNone
import Derived.Shelf.Slices.CompactI
import Derived.Test.YtopbakibjfoccaaGreatWhyReachedG0
import Derived.KernelRfl
set_option maxRecDepth 100000
set_option maxHeartbeats 1000000
set_option linter.unusedVariables false
namespace Go.Proofs.YtopbakibjfoccaaGreat
open Go Go.Fw

def i_CompareFacts (a_a : Fact) (a_b : Fact) : Option (Int) :=
 (g_cmp_Compare_int a_a.Rel a_b.Rel).bind fun r3 =>
 (g_slices_Compare_int_int a_a.Values a_b.Values).bind fun r6 =>
 (g_cmp_Or_int ([r3, r6] : List Int)).bind fun r10 =>
 some r10
theorem i_CompareFacts_ok (a_a : Fact) (v0_1 : Sv) (a_b : Fact) (v1_1 : Sv) (R : Int) (hF : i_CompareFacts a_a a_b = some R) :
   Fw.Spec Tryz.prog 59 [(.agg [(.int .i64 a_a.Rel), v0_1.v].toArray), (.agg [(.int .i64 a_b.Rel), v1_1.v].toArray)] [crd (RdS 3 rdInt) v0_1.v a_a.Values, crd (RdS 3 rdInt) v1_1.v a_b.Values] (fun _ : Unit => (.int .i64 R)) (fun _ => []) := by
 refine Se 17 Tryz.func59 [.tmp 4] ?_
 intro H0 F0
 unfold i_CompareFacts at hF
 refine au ?_
 refine AbR (fun k1 => ?_)
 refine AbR (fun k2 => ?_)
 iterate 2 refine au ?_
 refine K_draw [0, 1, 2, 3, 5, 6, 7, 8, 4, 9, 10, 11, 12] [0, 1, 0, 4, 15, 0, 32, 0, 128, 511, 1023, 2047, 4095] [4, 9, 11] mixed (by decide +kernel) ?_
 iterate 8 refine du ?_
 refine bnd hF fun r3 hx4 hF => Dx0 (g_cmp_Compare_int_ok _ _ _ hx4) (fun _ => ?_)
 refine bnd hF fun r6 hx7 hF => Dx0 (g_slices_Compare_int_int_ok _ _ _ _ _ hx7) (fun _ => ?_)
 refine D_new rfl .no rfl (fun ha => N_buildSliceT (g := true) (len := 2) (parts := [(0, .tmp 9), (1, .tmp 14)]) sl22.h ty3.h (.cons (EN ha (.tmp rfl rfl) rfl) (.cons (EN ha (.tmp rfl rfl) rfl) .nil)) (vs := [(.int .i64 r3), (.int .i64 r6)]) rfl rfl rfl (by intro v hv; simp at hv; rcases hv with rfl | rfl <;> rfl)) (fun k9 => ?_)
 refine Dv1 (.cons .h .nil) (own_lit (Ro := (roE rdInt)) (E := 3) (F := ([] ++ ([] ++ []))) (xs := ([r3, r6] : List Int)) (MkL_cons (Mk_pure (fun _ => rfl)) (MkL_cons (Mk_pure (fun _ => rfl)) MkL_nil apps) apps) rfl rfl) ?_
 refine bnd hF fun r10 hx11 hF => D_act1 rfl rfl .no (.cons .h .nil) (.dep rfl .nil) (fun ha => XC_bor frz_own (fun _ => .nil) (X_callS cf84.h (.cons (EN ha (.tmp rfl rfl) rfl) .nil) (g_cmp_Or_int_ok ([r3, r6] : List Int) (⟨(some ⟨k9, 0, none⟩), 2, 1⟩) _ hx11))) (fun _ => ?_)
 iterate 2 refine du ?_
 refine au ?_
 cases hF
 exact Er ()
def i_AreFacts_L1 (a_s : List Int) (a_l : List Fact) : List Fact → Nat → Option (Bool)
 | [], k4 => ((i_IsSchema a_s).bind fun r15 =>
     bif r15 then (some (decide (((a_l.length : Int) : Int) ≤ 24)))
     else (some false)).bind fun o13 =>
   match o13 with
   | c19 => some c19
 | x6 :: rest5, k4 => ((i_IsFact a_s x6).bind fun r27 =>
     bif (!r27) then (some true)
     else (bif (decide ((0 : Int) < (k4 : Int))) then ((ix a_l (IntKind.i64.wrap ((k4 : Int) - 1))).bind fun x32 =>
         (i_CompareFacts x32 x6).bind fun r39 =>
         some (decide ((0 : Int) ≤ r39)))
       else (some false))).bind fun o25 =>
   match o25 with
   | c42 => if c42 then (
       some false)
     else (
       i_AreFacts_L1 a_s a_l rest5 (k4 + 1))
def i_AreFacts (a_s : List Int) (a_l : List Fact) : Option (Bool) :=
 i_AreFacts_L1 a_s a_l a_l 0
theorem i_AreFacts_ok (a_s : List Int) (v0_0 : Sv) (a_l : List Fact) (v1_0 : Sv) (R : Bool) (hF : i_AreFacts a_s a_l = some R) :
   Fw.Spec Tryz.prog 37 [v0_0.v, v1_0.v] [crd (RdS 3 rdInt) v0_0.v a_s, crd (RdS 39 rd39) v1_0.v a_l] (fun _ : Unit => (.bool R)) (fun _ => []) := by
 refine Se 40 Tryz.func37 [.tmp 4] ?_
 intro H0 F0
 unfold i_AreFacts at hF
 iterate 9 refine au ?_
 refine CW_block (CW_loop (m := a_l.length) (fun m2 f' cs' => ∃ (g : Fr) (k4 : Nat) (rest5 : List Fact), m2 = rest5.length ∧ f' = updL g [(0, v0_0.v), (1, v1_0.v), (7, v1_0.v), (8, (.int .i64 (a_l.length : Int))), (9, (.int .i64 (k4 : Int)))] ∧ List.drop k4 a_l = rest5 ∧ Ent cs' [crd (RdS 3 rdInt) v0_0.v a_s, crd (RdS 39 rd39) v1_0.v a_l] ∧ i_AreFacts_L1 a_s a_l rest5 k4 = some R) ⟨_, 0, _, rfl, eqA, rfl, entA, hF⟩ ?_)
 rintro m2 _ _ ⟨g3, k4, rest5, rfl, rfl, hd7, hE, hF⟩
 refine Kb hE a_l (fun hbd12 => ?_)
 rcases rest5 with _ | ⟨x6, rest5⟩
 · have hk8 := dn hd7
   rw [i_AreFacts_L1] at hF
   iterate 4 refine au ?_
   refine CdF ?_
   iterate 4 refine au ?_
   obtain ⟨o13, hio13, hO14⟩ := bind_some hF
   refine au ?_
   refine C_cut (fun f' cs' => ∃ (c19 : Bool) (g : Fr), c19 = o13 ∧ f' = updL g [(4, (.bool c19))] ∧ Ent cs' []) ?_ ?_
   · replace hF := hio13
     refine au ?_
     refine bnd hF fun r15 hx16 hF => Cx0 (i_IsSchema_ok _ _ _ hx16) (fun _ => ?_)
     refine au ?_
     rcases Bool.eq_false_or_eq_true r15 with hg18 | hg18
     · rw [hg18]
       try rw [hg18] at hF; dsimp only [cond_true, cond_false] at hF
       iterate 9 refine au ?_
       cases hF
       exact ⟨_, _, rfl, eqA, entA⟩
     rw [hg18]
     try rw [hg18] at hF; dsimp only [cond_true, cond_false] at hF
     iterate 6 refine au ?_
     cases hF
     exact ⟨_, _, rfl, eqA, entA⟩
   rintro _ _ ⟨c19, g20, rfl, rfl, hE⟩
   replace hF := hO14
   try dsimp only at hF
   refine K_ent hE ?_
   refine au ?_
   cases hF
   exact Er ()
 obtain ⟨hk8, hx9, hd10⟩ := drop_cons hd7
 rw [i_AreFacts_L1] at hF
 iterate 4 refine au ?_
 refine CdT ?_
 iterate 4 refine au ?_
 refine Ai hx9 (fun k21 j22 => ?_)
 refine AlA1 (ul39_0_39 x6) la39_0_39 (fun p23 => ?_)
 refine AnW (fun k24 => ?_)
 refine au ?_
 refine As (.agg [(.int .i64 x6.Rel), p23.v].toArray) ?_
 refine au ?_
 obtain ⟨o25, hio25, hO26⟩ := bind_some hF
 refine K_draw [0, 1, 2, 3, 4, 5, 6, 7, 8, 9, 10, 11, 12, 13, 14, 15, 16, 17] [0, 0, 3, 7, 15, 31, 63, 127, 255, 255, 767, 2047, 4095, 255, 16383, 32767, 65535, 131071] [2, 14] mixed (by decide +kernel) ?_
 refine D_cut (fun f' cs' => ∃ (c42 : Bool) (g : Fr), c42 = o25 ∧ f' = updL g [(0, v0_0.v), (1, v1_0.v), (7, v1_0.v), (8, (.int .i64 (a_l.length : Int))), (9, (.int .i64 (k4 : Int))), (31, (.bool c42))] ∧ Ent cs' [crd (RdS 3 rdInt) v0_0.v a_s, crd (RdS 39 rd39) v1_0.v a_l]) ?_ ?_
 · replace hF := hio25
   refine du ?_
   refine D_atO rfl .no .h (fun ha hp => V_loadBox ag39.h ty39.h.sz rfl (EN ha (.tmp rfl rfl) rfl) hp.2 rfl) ?_
   refine bnd hF fun r27 hx28 hF => Dx0 (i_IsFact_ok _ _ _ _ _ hx28) (fun _ => ?_)
   iterate 2 refine du ?_
   rcases Bool.eq_false_or_eq_true (!r27) with hg30 | hg30
   · rw [hg30]
     try rw [hg30] at hF; dsimp only [cond_true, cond_false] at hF
     iterate 14 refine du ?_
     cases hF
     exact ⟨_, _, rfl, eqA, entA⟩
   rw [hg30]
   try rw [hg30] at hF; dsimp only [cond_true, cond_false] at hF
   iterate 3 refine du ?_
   rcases Bool.eq_false_or_eq_true (decide ((0 : Int) < (k4 : Int))) with hg31 | hg31
   · rw [hg31]
     try rw [hg31] at hF; dsimp only [cond_true, cond_false] at hF
     iterate 3 refine du ?_
     refine bnd hF fun x32 hx33 hF => ?_
     obtain ⟨hp34, hx35⟩ := ix_some hx33
     refine Di hx35 (fun k36 j37 => ?_)
     refine DlA1 (ul39_0_39 x32) la39_0_39 (fun p38 => ?_)
     refine D_atO rfl (.on 21 rfl rfl rfl) (.t (.t .h)) (fun ha hp => V_loadBox ag39.h ty39.h.sz rfl (EN ha (.tmp rfl rfl) rfl) hp.2 rfl) ?_
     refine bnd hF fun r39 hx40 hF => Dx0 (i_CompareFacts_ok _ _ _ _ _ hx40) (fun _ => ?_)
     iterate 4 refine du ?_
     cases hF
     exact ⟨_, _, rfl, eqA, entA⟩
   rw [hg31]
   try rw [hg31] at hF; dsimp only [cond_true, cond_false] at hF
   iterate 11 refine du ?_
   cases hF
   exact ⟨_, _, rfl, eqA, entA⟩
 rintro _ _ ⟨c42, g45, rfl, rfl, hE⟩
 replace hF := hO26
 try dsimp only at hF
 refine K_ent hE ?_
 refine Ci hF (fun hb44 hF => ?_) (fun hb44 hF => ?_)
 · iterate 4 refine au ?_
   cases hF
   exact Er ()
 iterate 5 refine au ?_
 rw [wk k4]
 exact ⟨_, Nat.lt_succ_self _, _, k4 + 1, rest5, rfl, eqA, hd10, entA, hF⟩
def g_slices_Grow_int_int_nil (a_n : Int) : Option (List Int) :=
 if 0 ≤ a_n ∧ a_n < 4294967296 then some [] else none
theorem g_slices_Grow_int_int_nil_ok (a_n : Int) (R : List Int) (hF : g_slices_Grow_int_int_nil a_n = some R) :
   Fw.Spec Tryz.prog 115 [(.slice none 0 0), .int .i64 a_n] [] (fun p : Sv × List Nat => p.1.v) (fun p => [cown (OwnS 3 (roE rdInt)) p.2 p.1.v R]) := by
 unfold g_slices_Grow_int_int_nil at hF
 split at hF
 · rename_i h
   obtain ⟨h0, h1⟩ := h
   cases hF
   obtain ⟨q, rfl⟩ : ∃ q : Nat, a_n = (q : Int) := ⟨a_n.toNat, by omega⟩
   have w0 : IntKind.i64.wrap ((0 : Int) - ((0 : Nat) : Int)) = 0 := by decide
   have w1 : IntKind.i64.wrap ((q : Int) - 0) = (q : Int) := by rw [wrap_in (by omega) (by omega)]; omega
   refine Spec_enter (n := 27) Tryz.func115 rfl rfl (rs := [.tmp 4]) rfl rfl rfl ?_
   intro H0 F0
   iterate 8 refine au ?_
   refine CW_cond (b := (decide ((q : Int) < 0))) (.tmp rfl rfl) (fun hb => absurd hb (by simp only [decide_eq_true_eq]; omega)) (fun _ => ?_)
   iterate 5 refine au ?_
   refine C_val (V_capNil sl22.h (.tmp rfl rfl)) ?_
   refine au ?_
   refine C_val (V_lenR (l := 0) sl22.h (.tmp rfl rfl) ⟨none, 0, rfl⟩) ?_
   refine au ?_
   rw [w0]
   refine au ?_
   rw [w1]
   iterate 6 refine au ?_
   refine CW_cond (b := (decide ((0 : Int) < (q : Int)))) (.tmp rfl rfl) (fun hb => ?_) (fun hb => ?_)
   · have hq : 0 < q := by simp only [decide_eq_true_eq] at hb; omega
     iterate 3 refine au ?_
     refine C_val (V_capNil sl22.h (.tmp rfl rfl)) ?_
     refine C_val (V_sliceNilHi sl22.h ty3.h.sz (.tmp rfl rfl) (.tmp rfl rfl)) ?_
     refine au ?_
     refine C_x1 .nil (X_growNil (Ro := (roE rdInt)) (E := 3) sl22.h ik3 ty3.h rfl rfl rfl (by exact .tmp rfl rfl) (by exact .tmp rfl rfl) hq (by omega)) (fun k => ?_)
     refine au ?_
     refine C_val (V_lenR (l := 0) sl22.h (.tmp rfl rfl) ⟨none, 0, rfl⟩) ?_
     refine C_sliceHiD (i := ((0 : Nat) : Int)) sl22.h ty3.h.sz (by exact .tmp rfl rfl) (.inr rfl) (by exact .tmp rfl rfl) .h rfl (by omega) (by omega) (by omega) ?_
     iterate 7 refine au ?_
     exact End_ret (⟨some ⟨k, 0, none⟩, 0, 2⟩, [k]) (.tmp rfl rfl .nil) rfl (.sel (.cons .h .nil))
   · iterate 6 refine au ?_
     exact End_ret (⟨none, 0, 0⟩, []) (.tmp rfl rfl .nil) rfl (.conv .nil (own_nil (Ro := (roE rdInt)) (E := 3)) (.cons .nil) (.sel (.cons .h .nil)))
 · simp at hF
def g_slices_Concat_int_int_L2 : List (List Int) → Nat → (List Int) → Option ((List Int))
 | [], k23, c17 => some c17
 | x25 :: rest24, k23, c17 => (app c17 x25).bind fun z35 =>
   g_slices_Concat_int_int_L2 rest24 (k23 + 1) z35
def g_slices_Concat_int_int_L1 (a_slices : List (List Int)) : List (List Int) → Nat → Int → Option ((List Int))
 | [], k5, c1 => (g_slices_Grow_int_int_nil c1).bind fun r14 =>
   g_slices_Concat_int_int_L2 a_slices 0 r14
 | x7 :: rest6, k5, c1 => (if (decide (((IntKind.i64.wrap (c1 + (x7.length : Int))) : Int) < 0)) then (
       none)
     else (
       some ())).bind fun o39 =>
   match o39 with
   | _ => g_slices_Concat_int_int_L1 a_slices rest6 (k5 + 1) (IntKind.i64.wrap (c1 + (x7.length : Int)))
def g_slices_Concat_int_int (a_slices : List (List Int)) : Option ((List Int)) :=
 g_slices_Concat_int_int_L1 a_slices a_slices 0 0
theorem g_slices_Concat_int_int_ok (a_slices : List (List Int)) (v0_0 : Sv) (R : (List Int)) (hF : g_slices_Concat_int_int a_slices = some R) :
   Fw.Spec Tryz.prog 98 [v0_0.v] [crd (RdS 22 (RdS 3 rdInt)) v0_0.v a_slices] (fun p : Sv × List Nat => p.1.v) (fun p => [cown (OwnS 3 (roE rdInt)) p.2 p.1.v R]) := by
 refine Se 36 Tryz.func98 [.tmp 2] ?_
 intro H0 F0
 unfold g_slices_Concat_int_int at hF
 iterate 12 refine au ?_
 refine CW_block (CW_loop (m := a_slices.length) (fun m3 f' cs' => ∃ (g : Fr) (k5 : Nat) (rest6 : List (List Int)) (c1 : Int), m3 = rest6.length ∧ f' = updL g [(0, v0_0.v), (3, (.int .i64 c1)), (9, v0_0.v), (10, (.int .i64 (a_slices.length : Int))), (11, (.int .i64 (k5 : Int)))] ∧ List.drop k5 a_slices = rest6 ∧ Ent cs' [crd (RdS 22 (RdS 3 rdInt)) v0_0.v a_slices] ∧ g_slices_Concat_int_int_L1 a_slices rest6 k5 c1 = some R) ⟨_, 0, _, _, rfl, eqA, rfl, entA, hF⟩ ?_)
 rintro m3 _ _ ⟨g4, k5, rest6, c1, rfl, rfl, hd8, hE, hF⟩
 refine Kb hE a_slices (fun hbd13 => ?_)
 rcases rest6 with _ | ⟨x7, rest6⟩
 · have hk9 := dn hd8
   rw [g_slices_Concat_int_int_L1] at hF
   iterate 4 refine au ?_
   refine CdF ?_
   iterate 6 refine au ?_
   refine bnd hF fun r14 hx15 hF => Cx1 (g_slices_Grow_int_int_nil_ok _ _ hx15) (fun p16 => ?_)
   iterate 8 refine au ?_
   refine CW_block (CW_loop (m := a_slices.length) (fun m21 f' cs' => ∃ (g : Fr) (k23 : Nat) (rest24 : List (List Int)) (c17 : List Int) (v18 : Sv) (F19 : List Nat), m21 = rest24.length ∧ f' = updL g [(6, v18.v), (25, v0_0.v), (26, (.int .i64 (a_slices.length : Int))), (27, (.int .i64 (k23 : Int)))] ∧ List.drop k23 a_slices = rest24 ∧ Ent cs' [cown (OwnS 3 (roE rdInt)) F19 v18.v c17, crd (RdS 22 (RdS 3 rdInt)) v0_0.v a_slices] ∧ g_slices_Concat_int_int_L2 rest24 k23 c17 = some R) ⟨_, 0, _, _, p16.1, p16.2, rfl, eqA, rfl, entA, hF⟩ ?_)
   rintro m21 _ _ ⟨g22, k23, rest24, c17, v18, F19, rfl, rfl, hd26, hE, hF⟩
   refine Kb hE a_slices (fun hbd31 => ?_)
   rcases rest24 with _ | ⟨x25, rest24⟩
   · have hk27 := dn hd26
     rw [g_slices_Concat_int_int_L2] at hF
     iterate 4 refine au ?_
     refine CdF ?_
     iterate 9 refine au ?_
     cases hF
     exact Er (v18, F19)
   obtain ⟨hk27, hx28, hd29⟩ := drop_cons hd26
   rw [g_slices_Concat_int_int_L2] at hF
   iterate 4 refine au ?_
   refine CdT ?_
   iterate 3 refine au ?_
   refine Ai hx28 (fun k32 j33 => ?_)
   refine C_ldV (R' := (RdS 3 rdInt)) ag22.h (.tmp rfl rfl) .h lv22_0 (fun w34 => ?_)
   iterate 5 refine au ?_
   refine bnd hF fun z35 hx36 hF => C_x1 (.cons (.t (.t .h)) (.rd .h rfl .nil)) (X_appendO (Ro := (roE rdInt)) sl22.h ni22 ty3.h rfl rfl rfl (.tmp rfl rfl) (.tmp rfl rfl) hx36 src_rd) (fun p37 => ?_)
   iterate 6 refine au ?_
   rw [wk k23]
   exact ⟨_, Nat.lt_succ_self _, _, k23 + 1, rest24, _, p37.1, p37.2, rfl, eqA, hd29, entA, hF⟩
 obtain ⟨hk9, hx10, hd11⟩ := drop_cons hd8
 rw [g_slices_Concat_int_int_L1] at hF
 iterate 4 refine au ?_
 refine CdT ?_
 refine au ?_
 obtain ⟨o39, hio39, hO40⟩ := bind_some hF
 refine K_cut (fun f' cs' => ∃ (g : Fr), o39 = () ∧ f' = updL g [(0, v0_0.v), (3, (.int .i64 (IntKind.i64.wrap (c1 + (x7.length : Int))))), (9, v0_0.v), (10, (.int .i64 (a_slices.length : Int))), (11, (.int .i64 (k5 : Int)))] ∧ Ent cs' [crd (RdS 22 (RdS 3 rdInt)) v0_0.v a_slices]) ?_ ?_
 · replace hF := hio39
   refine CW_block (K_region (C_idx (a := x7) sl115.h ty22.h.sz (.tmp rfl rfl) (.tmp rfl rfl) .h (Int.natCast_nonneg k5) hx10 (fun k41 j42 => ?_)))
   refine C_ldV (R' := (RdS 3 rdInt)) ag22.h (.tmp rfl rfl) .h lv22_0 (fun w43 => ?_)
   iterate 13 refine au ?_
   refine Ci hF (fun hb44 hF => ?_) (fun hb44 hF => ?_)
   · exact absurd hF (by simp)
   refine au ?_
   cases hF
   exact ⟨_, rfl, eqA, entA⟩
 rintro _ _ ⟨g46, rfl, rfl, hE⟩
 replace hF := hO40
 try dsimp only at hF
 refine K_ent hE ?_
 iterate 4 refine au ?_
 rw [wk k5]
 exact ⟨_, Nat.lt_succ_self _, _, k5 + 1, rest6, _, rfl, eqA, hd11, entA, hF⟩
def g_slices_Sort_int_int (a_x : List Int) : Option (List Int) :=
 some (a_x.mergeSort fun x y => decide (x ≤ y))
theorem g_slices_Sort_int_int_ok (a_x : List Int) (v0_0 : Sv) (F0_0 : List Nat) (R : List Int) (hF : g_slices_Sort_int_int a_x = some R) :
   Fw.Spec Tryz.prog 100 [v0_0.v] [cown (OwnS 3 (roE rdInt)) F0_0 v0_0.v a_x] (fun _ : List Nat => (.tuple [].toArray)) (fun p => [cown (OwnS 3 (roE rdInt)) p v0_0.v R]) := by
 cases hF
 exact Spec_sort ty3.h (Go.Proofs.Any.slices_Sort_int_none lays189) (Go.Proofs.Any.slices_Sort_int lays189)
def g_slices_Compact_int_int (a_x : List Int) : Option (List Int) :=
 some (Lib.compact a_x)
theorem g_slices_Compact_int_int_ok (a_x : List Int) (v0_0 : Sv) (F0_0 : List Nat) (R : List Int) (hF : g_slices_Compact_int_int a_x = some R) :
   Fw.Spec Tryz.prog 101 [v0_0.v] [cown (OwnS 3 (roE rdInt)) F0_0 v0_0.v a_x] (fun p : Sv × List Nat => p.1.v) (fun p => [cown (OwnS 3 (roE rdInt)) p.2 p.1.v R]) := by
 cases hF
 exact Spec_compact ty3.h compact_le rfl (Go.Proofs.Any.slices_Compact_int_empty lays2020) (Go.Proofs.Any.slices_Compact_int lays2020)
def i_withValues_L1 (r3 : (List Int)) : Nat → (List Int) → Int → Option ((List Int))
 | 0, _, _ => none
 | m10 + 1, c6, c9 => if (decide ((c9 : Int) < (r3.length : Int))) then (
     ((ix r3 c9).bind fun x23 =>
       (i_isValue x23).bind fun r27 =>
       if r27 then (
         (app c6 ([x23] : List Int)).bind fun z31 =>
         some z31)
       else (
         some c6)).bind fun o18 =>
     match o18 with
     | c35 => i_withValues_L1 r3 m10 c35 (IntKind.i64.wrap (c9 + 1)))
   else (
     (g_slices_Sort_int_int c6).bind fun r39 =>
     (g_slices_Compact_int_int r39).bind fun r42 =>
     some r42)
def i_withValues (a_l : List Int) (a_more : List Int) : Option ((List Int)) :=
 (g_slices_Concat_int_int ([a_l, a_more] : List (List Int))).bind fun r3 =>
 i_withValues_L1 r3 (((r3.length : Int) - 0).toNat + 2) ([] : List Int) 0
theorem i_withValues_ok (a_l : List Int) (v0_0 : Sv) (a_more : List Int) (v1_0 : Sv) (R : (List Int)) (hF : i_withValues a_l a_more = some R) :
   Fw.Spec Tryz.prog 72 [v0_0.v, v1_0.v] [crd (RdS 3 rdInt) v0_0.v a_l, crd (RdS 3 rdInt) v1_0.v a_more] (fun p : Sv × List Nat => p.1.v) (fun p => [cown (OwnS 3 (roE rdInt)) p.2 p.1.v R]) := by
 refine Se 29 Tryz.func72 [.tmp 4] ?_
 intro H0 F0
 unfold i_withValues at hF
 iterate 4 refine au ?_
 refine C_new rfl (N_buildSliceT (g := true) sl22.h ty3.h .nil (vs := []) rfl rfl rfl (by simp)) (fun k1 => ?_)
 refine Cv1 (.cons .h .nil) (own_lit (Ro := (roE rdInt)) (E := 3) (F := []) (xs := ([] : List Int)) MkL_nil rfl rfl) ?_
 iterate 6 refine au ?_
 refine C_new rfl (N_buildSliceT (g := true) sl115.h ty22.h (.cons (.tmp rfl rfl) (.cons (.tmp rfl rfl) .nil)) (vs := [v0_0.v, v1_0.v]) rfl rfl rfl (by intro v hv; simp at hv; rcases hv with rfl | rfl <;> rfl)) (fun k2 => ?_)
 refine Cv1 (.cons .h (.rd (.t .h) rfl (.rd (.t (.t .h)) rfl .nil))) (own_lit (Ro := (roE (RdS 3 rdInt))) (E := 22) (F := ([] ++ ([] ++ []))) (xs := ([a_l, a_more] : List (List Int))) (MkL_cons Mk_rd (MkL_cons Mk_rd MkL_nil apps) apps) rfl rfl) ?_
 refine bnd hF fun r3 hx4 hF => C_x2 (.cons .h .nil) (XC_bor frz_own (fun _ => (.cons .nil)) (X_callS cf98.h (.cons (.tmp rfl rfl) .nil) (g_slices_Concat_int_int_ok ([a_l, a_more] : List (List Int)) (⟨(some ⟨k2, 0, none⟩), 2, 1⟩) _ hx4))) (fun p5 => ?_)
 iterate 3 refine au ?_
 refine CW_block (CW_loop (m := (((r3.length : Int) - 0).toNat + 2)) (fun m10 f' cs' => ∃ (g : Fr) (c6 : List Int) (c9 : Int) (v7 : Sv) (F8 : List Nat), f' = updL g [(5, v7.v), (12, p5.1.v), (13, (.int .i64 (r3.length : Int))), (14, (.int .i64 c9))] ∧ Ent cs' [cown (OwnS 3 (roE rdInt)) F8 v7.v c6, cown (OwnS 3 (roE rdInt)) p5.2 p5.1.v r3] ∧ i_withValues_L1 r3 m10 c6 c9 = some R) ⟨_, _, _, ⟨(some ⟨k1, 0, none⟩), 0, 1⟩, (k1 :: []), eqA, entA, hF⟩ ?_)
 rintro m10 _ _ ⟨g11, c6, c9, v7, F8, rfl, hE, hF⟩
 refine K_ent hE ?_
 rcases m10 with _ | m10
 · rw [i_withValues_L1] at hF
   exact absurd hF (by simp)
 rw [i_withValues_L1] at hF
 iterate 4 refine au ?_
 refine Ci hF (fun hb45 hF => ?_) (fun hb45 hF => ?_)
 · refine au ?_
   obtain ⟨o18, hio18, hO19⟩ := bind_some hF
   refine K_cut (fun f' cs' => ∃ (c35 : List Int) (v36 : Sv) (F37 : List Nat) (g : Fr), c35 = o18 ∧ f' = updL g [(5, v36.v), (12, p5.1.v), (13, (.int .i64 (r3.length : Int))), (14, (.int .i64 c9))] ∧ Ent cs' [cown (OwnS 3 (roE rdInt)) F37 v36.v c35, cown (OwnS 3 (roE rdInt)) p5.2 p5.1.v r3]) ?_ ?_
   · replace hF := hio18
     refine CW_block (K_region ?_)
     refine bnd hF fun x23 hx24 hF => ?_
     have hi22 := ix_chk hx24
     obtain ⟨hp25, hx26⟩ := ix_some hx24
     refine C_idxO sl22.h ty3.h.sz (.tmp rfl rfl) (.tmp rfl rfl) (.t .h) hi22 (fun k20 hk21 => ?_)
     refine C_ldO (w := (.int .i64 x23)) ag3.h (.tmp rfl rfl) (.t .h) hk21 hx26 lo3_0 ?_
     iterate 4 refine au ?_
     refine bnd hF fun r27 hx28 hF => Cx0 (i_isValue_ok _ _ hx28) (fun _ => ?_)
     refine au ?_
     refine Ci hF (fun hb34 hF => ?_) (fun hb34 hF => ?_)
     · iterate 3 refine au ?_
       refine C_new rfl (N_buildSliceT (g := true) sl22.h ty3.h (.cons (.tmp rfl rfl) .nil) (vs := [(.int .i64 x23)]) rfl rfl rfl (by intro v hv; simp at hv; rcases hv with rfl <;> rfl)) (fun k30 => ?_)
       refine Cv1 (.cons .h .nil) (own_lit (Ro := (roE rdInt)) (E := 3) (F := ([] ++ [])) (xs := ([x23] : List Int)) (MkL_cons (Mk_pure (fun _ => rfl)) MkL_nil apps) rfl rfl) ?_
       refine bnd hF fun z31 hx32 hF => C_x1 (.cons (.t .h) (.cons .h .nil)) (X_appendO (Ro := (roE rdInt)) sl22.h ni22 ty3.h rfl rfl rfl (.tmp rfl rfl) (.tmp rfl rfl) hx32 src_own) (fun p33 => ?_)
       iterate 2 refine au ?_
       cases hF
       exact ⟨_, p33.1, p33.2, _, rfl, eqA, entA⟩
     refine au ?_
     cases hF
     exact ⟨_, v7, F8, _, rfl, eqA, entA⟩
   rintro _ _ ⟨c35, v36, F37, g38, rfl, rfl, hE⟩
   replace hF := hO19
   try dsimp only at hF
   refine K_ent hE ?_
   iterate 4 refine au ?_
   exact ⟨m10, Nat.lt_succ_self _, _, _, _, v36, F37, eqA, entA, hF⟩
 iterate 6 refine au ?_
 refine bnd hF fun r39 hx40 hF => Cx1 (g_slices_Sort_int_int_ok _ _ _ _ hx40) (fun p41 => ?_)
 iterate 3 refine au ?_
 refine bnd hF fun r42 hx43 hF => Cx1 (g_slices_Compact_int_int_ok _ _ _ _ hx43) (fun p44 => ?_)
 iterate 3 refine au ?_
 cases hF
 exact Er (p44.1, p44.2)
def i_StartReach (a_seeds : List Int) : Option (Reached) :=
 (i_withValues a_seeds []).bind fun r2 =>
 some ({ Facts := [], Values := r2, Log := [], Rounds := 0 } : Reached)
theorem i_StartReach_ok (a_seeds : List Int) (v0_0 : Sv) (R : Reached) (hF : i_StartReach a_seeds = some R) :
   Fw.Spec Tryz.prog 45 [v0_0.v] [crd (RdS 3 rdInt) v0_0.v a_seeds] (fun p : Sv × List Nat × Sv × List Nat × Sv × List Nat => (.agg [p.1.v, p.2.2.1.v, p.2.2.2.2.1.v, (.int .i64 R.Rounds)].toArray)) (fun p => [cown (OwnS 39 ow39) p.2.1 p.1.v R.Facts, cown (OwnS 3 (roE rdInt)) p.2.2.2.1 p.2.2.1.v R.Values, cown (OwnS 31 ow31) p.2.2.2.2.2 p.2.2.2.2.1.v R.Log]) := by
 refine Se 6 Tryz.func45 [.cell 2 54] ?_
 intro H0 F0
 unfold i_StartReach at hF
 refine au ?_
 refine AnW (fun k1 => ?_)
 iterate 3 refine au ?_
 refine Cv1 .nil (rd_nil (R := rdInt) (E := 3)) ?_
 refine bnd hF fun r2 hx3 hF => Cx1 (i_withValues_ok _ _ _ (⟨none, 0, 0⟩) _ hx3) (fun p4 => ?_)
 refine C_val (V_build ty54.h rfl (vs := [p4.1.v]) (.cons (.tmp rfl rfl) .nil) (cells := [(.slice none 0 0), p4.1.v, (.slice none 0 0), (.int .i64 0)]) rfl) ?_
 refine As (.agg [(.slice none 0 0), p4.1.v, (.slice none 0 0), (.int .i64 0)].toArray) ?_
 iterate 2 refine au ?_
 cases hF
 exact End_ret (⟨none, 0, 0⟩, [], p4.1, p4.2, ⟨none, 0, 0⟩, []) (.cellA rfl rfl .h rfl ag54.h ty54.h.sz rfl rfl .nil) rfl (.conv .nil (own_nil (Ro := ow39) (E := 39)) (.cons .nil) (.conv .nil (own_nil (Ro := ow31) (E := 31)) (.cons .nil) (.sel (.cons (.t .h) (.cons (.t (.t .h)) (.cons .h .nil))))))
def g_slices_Clone_int_int (a_s : List Int) : Option ((List Int)) :=
 (app ([] : List Int) a_s).bind fun z5 =>
 some z5
theorem g_slices_Clone_int_int_ok (a_s : List Int) (v0_0 : Sv) (R : (List Int)) (hF : g_slices_Clone_int_int a_s = some R) :
   Fw.Spec Tryz.prog 112 [v0_0.v] [crd (RdS 3 rdInt) v0_0.v a_s] (fun p : Sv × List Nat => p.1.v) (fun p => [cown (OwnS 3 (roE rdInt)) p.2 p.1.v R]) := by
 refine Se 8 Tryz.func112 [.tmp 2] ?_
 intro H0 F0
 unfold g_slices_Clone_int_int at hF
 iterate 6 refine au ?_
 refine C_eqNil (xs := a_s) sl22.h (.tmp rfl rfl) .h crd_nilc (fun bn1 hn2 => ?_)
 refine au ?_
 refine Cc (fun hb3 => ?_) (fun hb3 => ?_)
 · have hnil := hn2 hb3
   replace hF : some [] = some R := by rw [hnil] at hF; simpa [app] using hF
   iterate 4 refine au ?_
   cases hF
   exact End_ret (⟨none, 0, 0⟩, []) (.tmp rfl rfl .nil) rfl (.conv .nil (own_nil (Ro := (roE rdInt)) (E := 3)) (.cons .nil) (.sel (.cons .h .nil)))
 iterate 2 refine au ?_
 refine C_new rfl (N_buildSliceT (g := true) sl22.h ty3.h .nil (vs := []) rfl rfl rfl (by simp)) (fun k4 => ?_)
 refine Cv1 (.cons .h .nil) (own_lit (Ro := (roE rdInt)) (E := 3) (F := []) (xs := ([] : List Int)) MkL_nil rfl rfl) ?_
 refine au ?_
 refine bnd hF fun z5 hx6 hF => C_x1 (.cons .h (.rd .h rfl .nil)) (X_appendO (Ro := (roE rdInt)) sl22.h ni22 ty3.h rfl rfl rfl (.tmp rfl rfl) (.tmp rfl rfl) hx6 src_rd) (fun p7 => ?_)
 iterate 3 refine au ?_
 cases hF
 exact Er (p7.1, p7.2)
def i_lists_L4 (x79 : List Int) : List Int → Nat → (List (List Int)) → Option ((List (List Int)))
 | [], k97, c91 => some c91
 | x99 :: rest98, k97, c91 => (g_slices_Clone_int_int x79).bind fun r108 =>
   (app r108 ([x99] : List Int)).bind fun z112 =>
   (app c91 ([z112] : List (List Int))).bind fun z116 =>
   i_lists_L4 x79 rest98 (k97 + 1) z116
def i_lists_L2 (a_values : List Int) : List (List Int) → Nat → (List (List Int)) → Option ((List (List Int)))
 | [], k77, c71 => some c71
 | x79 :: rest78, k77, c71 => (i_lists_L4 x79 a_values 0 c71).bind fun o86 =>
   match o86 with
   | c120 => i_lists_L2 a_values rest78 (k77 + 1) c120
def i_lists_L1 (a_values : List Int) (a_n : Int) : Nat → (List (List Int)) → Int → Option ((List (List Int)))
 | 0, _, _ => none
 | m7 + 1, c3, c6 => if (decide ((c6 : Int) < a_n)) then (
     (i_lists_L2 a_values c3 0 ([] : List (List Int))).bind fun o15 =>
     match o15 with
     | c125 => i_lists_L1 a_values a_n m7 c125 (IntKind.i64.wrap (c6 + 1)))
   else (
     some c3)
def i_lists (a_values : List Int) (a_n : Int) : Option ((List (List Int))) :=
 i_lists_L1 a_values a_n ((a_n - 0).toNat + 2) ([([] : List Int)] : List (List Int)) 0
theorem i_lists_ok (a_values : List Int) (v0_0 : Sv) (a_n : Int) (R : (List (List Int))) (hF : i_lists a_values a_n = some R) :
   Fw.Spec Tryz.prog 108 [v0_0.v, (.int .i64 a_n)] [crd (RdS 3 rdInt) v0_0.v a_values] (fun p : Sv × List Nat => p.1.v) (fun p => [cown (OwnS 22 (OwnS 3 (roE rdInt))) p.2 p.1.v R]) := by
 refine Se 42 Tryz.func108 [.tmp 4] ?_
 intro H0 F0
 unfold i_lists at hF
 iterate 4 refine au ?_
 refine C_new rfl (N_buildSliceT (g := true) sl22.h ty3.h .nil (vs := []) rfl rfl rfl (by simp)) (fun k1 => ?_)
 refine Cv1 (.cons .h .nil) (own_lit (Ro := (roE rdInt)) (E := 3) (F := []) (xs := ([] : List Int)) MkL_nil rfl rfl) ?_
 refine C_new rfl (N_buildSliceT (g := true) sl115.h ty22.h (.cons (.tmp rfl rfl) .nil) (vs := [(.slice (some ⟨k1, 0, none⟩) 0 1)]) rfl rfl rfl (by intro v hv; simp at hv; rcases hv with rfl <;> rfl)) (fun k2 => ?_)
 refine Cv1 (.cons .h (.cons .h .nil)) (own_lit (Ro := (OwnS 3 (roE rdInt))) (E := 22) (F := ((k1 :: []) ++ [])) (xs := ([([] : List Int)] : List (List Int))) (MkL_cons Mk_own MkL_nil apps) rfl rfl) ?_
 iterate 7 refine au ?_
 refine CW_block (CW_loop (m := ((a_n - 0).toNat + 2)) (fun m7 f' cs' => ∃ (g : Fr) (c3 : List (List Int)) (c6 : Int) (v4 : Sv) (F5 : List Nat), f' = updL g [(0, v0_0.v), (5, v4.v), (13, (.int .i64 a_n)), (14, (.int .i64 c6))] ∧ Ent cs' [crd (RdS 3 rdInt) v0_0.v a_values, cown (OwnS 22 (OwnS 3 (roE rdInt))) F5 v4.v c3] ∧ i_lists_L1 a_values a_n m7 c3 c6 = some R) ⟨_, _, _, ⟨(some ⟨k2, 0, none⟩), 1, 1⟩, (k2 :: ((k1 :: []) ++ [])), eqA, entA, hF⟩ ?_)
 rintro m7 _ _ ⟨g8, c3, c6, v4, F5, rfl, hE, hF⟩
 refine K_ent hE ?_
 rcases m7 with _ | m7
 · rw [i_lists_L1] at hF
   exact absurd hF (by simp)
 rw [i_lists_L1] at hF
 iterate 4 refine au ?_
 refine Ci hF (fun hb129 hF => ?_) (fun hb129 hF => ?_)
 · refine au ?_
   obtain ⟨o15, hio15, hO16⟩ := bind_some hF
   refine K_cut (fun f' cs' => ∃ (c125 : List (List Int)) (v126 : Sv) (F127 : List Nat) (g : Fr), c125 = o15 ∧ f' = updL g [(0, v0_0.v), (5, v126.v), (13, (.int .i64 a_n)), (14, (.int .i64 c6))] ∧ Ent cs' [crd (RdS 3 rdInt) v0_0.v a_values, cown (OwnS 22 (OwnS 3 (roE rdInt))) F127 v126.v c125]) ?_ ?_
   · replace hF := hio15
     refine CW_block (K_region (C_new rfl (N_buildSliceT (g := true) sl115.h ty22.h .nil (vs := []) rfl rfl rfl (by simp)) (fun k17 => ?_)))
     refine Cv1 (.cons .h .nil) (own_lit (Ro := (OwnS 3 (roE rdInt))) (E := 22) (F := []) (xs := ([] : List (List Int))) MkL_nil rfl rfl) ?_
     iterate 8 refine au ?_
     refine CW_block (K_frz (.t (.t .h)) frz_own ?_)
     refine CW_loop (m := c3.length) (fun m75 f' cs' => ∃ (g : Fr) (k77 : Nat) (rest78 : List (List Int)) (c71 : List (List Int)) (v72 : Sv) (F73 : List Nat), m75 = rest78.length ∧ f' = updL g [(0, v0_0.v), (6, v72.v), (13, (.int .i64 a_n)), (14, (.int .i64 c6)), (17, v4.v), (18, (.int .i64 (c3.length : Int))), (19, (.int .i64 (k77 : Int)))] ∧ List.drop k77 c3 = rest78 ∧ Ent cs' [crd (RdS 3 rdInt) v0_0.v a_values, cown (OwnS 22 (OwnS 3 (roE rdInt))) F73 v72.v c71, crd (RdS 22 (RdS 3 rdInt)) v4.v c3] ∧ i_lists_L2 a_values rest78 k77 c71 = some o15) ⟨_, 0, _, _, ⟨(some ⟨k17, 0, none⟩), 0, 1⟩, (k17 :: []), rfl, eqA, rfl, entA, hF⟩ ?_
     rintro m75 _ _ ⟨g76, k77, rest78, c71, v72, F73, rfl, rfl, hd80, hE, hF⟩
     refine Kb hE c3 (fun hbd85 => ?_)
     rcases rest78 with _ | ⟨x79, rest78⟩
     · have hk81 := dn hd80
       rw [i_lists_L2] at hF
       iterate 4 refine au ?_
       refine CdF ?_
       iterate 8 refine au ?_
       cases hF
       exact ⟨_, v72, F73, _, rfl, eqA, entA⟩
     obtain ⟨hk81, hx82, hd83⟩ := drop_cons hd80
     rw [i_lists_L2] at hF
     iterate 4 refine au ?_
     refine CdT ?_
     refine au ?_
     obtain ⟨o86, hio86, hO87⟩ := bind_some hF
     refine K_cut (fun f' cs' => ∃ (c120 : List (List Int)) (v121 : Sv) (F122 : List Nat) (g : Fr), c120 = o86 ∧ f' = updL g [(0, v0_0.v), (6, v121.v), (13, (.int .i64 a_n)), (14, (.int .i64 c6)), (17, v4.v), (18, (.int .i64 (c3.length : Int))), (19, (.int .i64 (k77 : Int)))] ∧ Ent cs' [crd (RdS 3 rdInt) v0_0.v a_values, cown (OwnS 22 (OwnS 3 (roE rdInt))) F122 v121.v c120, crd (RdS 22 (RdS 3 rdInt)) v4.v c3]) ?_ ?_
     · replace hF := hio86
       refine CW_block (K_region (C_idx (a := x79) sl115.h ty22.h.sz (.tmp rfl rfl) (.tmp rfl rfl) (.t (.t .h)) (Int.natCast_nonneg k77) hx82 (fun k88 j89 => ?_)))
       refine C_ldV (R' := (RdS 3 rdInt)) ag22.h (.tmp rfl rfl) .h lv22_0 (fun w90 => ?_)
       iterate 7 refine au ?_
       refine CW_block (CW_loop (m := a_values.length) (fun m95 f' cs' => ∃ (g : Fr) (k97 : Nat) (rest98 : List Int) (c91 : List (List Int)) (v92 : Sv) (F93 : List Nat), m95 = rest98.length ∧ f' = updL g [(0, v0_0.v), (6, v92.v), (8, w90.v), (13, (.int .i64 a_n)), (14, (.int .i64 c6)), (17, v4.v), (18, (.int .i64 (c3.length : Int))), (19, (.int .i64 (k77 : Int))), (23, v0_0.v), (24, (.int .i64 (a_values.length : Int))), (25, (.int .i64 (k97 : Int)))] ∧ List.drop k97 a_values = rest98 ∧ Ent cs' [crd (RdS 3 rdInt) v0_0.v a_values, cown (OwnS 22 (OwnS 3 (roE rdInt))) F93 v92.v c91, crd (RdS 3 rdInt) w90.v x79, crd (RdS 22 (RdS 3 rdInt)) v4.v c3] ∧ i_lists_L4 x79 rest98 k97 c91 = some o86) ⟨_, 0, _, _, v72, F73, rfl, eqA, rfl, entA, hF⟩ ?_)
       rintro m95 _ _ ⟨g96, k97, rest98, c91, v92, F93, rfl, rfl, hd100, hE, hF⟩
       refine Kb hE a_values (fun hbd105 => ?_)
       rcases rest98 with _ | ⟨x99, rest98⟩
       · have hk101 := dn hd100
         rw [i_lists_L4] at hF
         iterate 4 refine au ?_
         refine CdF ?_
         iterate 4 refine au ?_
         cases hF
         exact ⟨_, v92, F93, _, rfl, eqA, entA⟩
       obtain ⟨hk101, hx102, hd103⟩ := drop_cons hd100
       rw [i_lists_L4] at hF
       iterate 4 refine au ?_
       refine CdT ?_
       iterate 3 refine au ?_
       refine Ai hx102 (fun k106 j107 => ?_)
       refine Al ls3_0 ?_
       iterate 5 refine au ?_
       refine bnd hF fun r108 hx109 hF => Cx1 (g_slices_Clone_int_int_ok _ _ _ hx109) (fun p110 => ?_)
       refine au ?_
       refine C_new rfl (N_buildSliceT (g := true) sl22.h ty3.h (.cons (.tmp rfl rfl) .nil) (vs := [(.int .i64 x99)]) rfl rfl rfl (by intro v hv; simp at hv; rcases hv with rfl <;> rfl)) (fun k111 => ?_)
       refine Cv1 (.cons .h .nil) (own_lit (Ro := (roE rdInt)) (E := 3) (F := ([] ++ [])) (xs := ([x99] : List Int)) (MkL_cons (Mk_pure (fun _ => rfl)) MkL_nil apps) rfl rfl) ?_
       refine bnd hF fun z112 hx113 hF => C_x1 (.cons (.t .h) (.cons .h .nil)) (X_appendO (Ro := (roE rdInt)) sl22.h ni22 ty3.h rfl rfl rfl (.tmp rfl rfl) (.tmp rfl rfl) hx113 src_own) (fun p114 => ?_)
       refine C_new rfl (N_buildSliceT (g := true) sl115.h ty22.h (.cons (.tmp rfl rfl) .nil) (vs := [p114.1.v]) rfl rfl rfl (by intro v hv; simp at hv; rcases hv with rfl <;> rfl)) (fun k115 => ?_)
       refine Cv1 (.cons .h (.cons .h .nil)) (own_lit (Ro := (OwnS 3 (roE rdInt))) (E := 22) (F := (p114.2 ++ [])) (xs := ([z112] : List (List Int))) (MkL_cons Mk_own MkL_nil apps) rfl rfl) ?_
       refine bnd hF fun z116 hx117 hF => C_x1 (.cons (.t (.t (.t .h))) (.cons .h .nil)) (X_appendO (Ro := (OwnS 3 (roE rdInt))) sl115.h ni115 ty22.h rfl rfl rfl (.tmp rfl rfl) (.tmp rfl rfl) hx117 src_own) (fun p118 => ?_)
       iterate 6 refine au ?_
       rw [wk k97]
       exact ⟨_, Nat.lt_succ_self _, _, k97 + 1, rest98, _, p118.1, p118.2, rfl, eqA, hd103, entA, hF⟩
     rintro _ _ ⟨c120, v121, F122, g124, rfl, rfl, hE⟩
     replace hF := hO87
     try dsimp only at hF
     refine K_ent hE ?_
     iterate 4 refine au ?_
     rw [wk k77]
     exact ⟨_, Nat.lt_succ_self _, _, k77 + 1, rest78, _, v121, F122, rfl, eqA, hd83, entA, hF⟩
   rintro _ _ ⟨c125, v126, F127, g128, rfl, rfl, hE⟩
   replace hF := hO16
   try dsimp only at hF
   refine K_ent hE ?_
   iterate 4 refine au ?_
   exact ⟨m7, Nat.lt_succ_self _, _, _, _, v126, F127, eqA, entA, hF⟩
 iterate 9 refine au ?_
 cases hF
 exact Er (v4, F5)
def g_slices_Equal_int_int_L1 (a_s2 : List Int) : List Int → Nat → Option (Bool)
 | [], k4 => some true
 | x6 :: rest5, k4 => (ix a_s2 (k4 : Int)).bind fun x15 =>
   if ((x6 : Int) != x15) then (
     some false)
   else (
     g_slices_Equal_int_int_L1 a_s2 rest5 (k4 + 1))
def g_slices_Equal_int_int (a_s1 : List Int) (a_s2 : List Int) : Option (Bool) :=
 if (((a_s1.length : Int) : Int) != (a_s2.length : Int)) then (
   some false)
 else (
   g_slices_Equal_int_int_L1 a_s2 a_s1 0)
theorem g_slices_Equal_int_int_ok (a_s1 : List Int) (v0_0 : Sv) (a_s2 : List Int) (v1_0 : Sv) (R : Bool) (hF : g_slices_Equal_int_int a_s1 a_s2 = some R) :
   Fw.Spec Tryz.prog 136 [v0_0.v, v1_0.v] [crd (RdS 3 rdInt) v0_0.v a_s1, crd (RdS 3 rdInt) v1_0.v a_s2] (fun _ : Unit => (.bool R)) (fun _ => []) := by
 refine Se 26 Tryz.func136 [.tmp 4] ?_
 intro H0 F0
 unfold g_slices_Equal_int_int at hF
 iterate 11 refine au ?_
 refine Ci hF (fun hb23 hF => ?_) (fun hb23 hF => ?_)
 · iterate 4 refine au ?_
   cases hF
   exact Er ()
 iterate 7 refine au ?_
 refine CW_block (CW_loop (m := a_s1.length) (fun m2 f' cs' => ∃ (g : Fr) (k4 : Nat) (rest5 : List Int), m2 = rest5.length ∧ f' = updL g [(0, v0_0.v), (1, v1_0.v), (12, (.int .i64 (a_s1.length : Int))), (13, (.int .i64 (k4 : Int)))] ∧ List.drop k4 a_s1 = rest5 ∧ Ent cs' [crd (RdS 3 rdInt) v0_0.v a_s1, crd (RdS 3 rdInt) v1_0.v a_s2] ∧ g_slices_Equal_int_int_L1 a_s2 rest5 k4 = some R) ⟨_, 0, _, rfl, eqA, rfl, entA, hF⟩ ?_)
 rintro m2 _ _ ⟨g3, k4, rest5, rfl, rfl, hd7, hE, hF⟩
 refine Kb hE a_s1 (fun hbd12 => ?_)
 rcases rest5 with _ | ⟨x6, rest5⟩
 · have hk8 := dn hd7
   rw [g_slices_Equal_int_int_L1] at hF
   iterate 4 refine au ?_
   refine CdF ?_
   iterate 8 refine au ?_
   cases hF
   exact Er ()
 obtain ⟨hk8, hx9, hd10⟩ := drop_cons hd7
 rw [g_slices_Equal_int_int_L1] at hF
 iterate 4 refine au ?_
 refine CdT ?_
 iterate 6 refine au ?_
 refine K_draw [0, 1, 2, 3, 4, 5, 6, 7, 8] [0, 0, 3, 7, 0, 0, 48, 112, 255] [] mixed (by decide +kernel) ?_
 iterate 2 refine du ?_
 refine Di hx9 (fun k13 j14 => ?_)
 refine Dl ls3_0 ?_
 iterate 2 refine du ?_
 refine bnd hF fun x15 hx16 hF => ?_
 obtain ⟨hp17, hx18⟩ := ix_some hx16
 refine Di hx18 (fun k19 j20 => ?_)
 refine Dl ls3_0 ?_
 iterate 2 refine du ?_
 refine Ci hF (fun hb22 hF => ?_) (fun hb22 hF => ?_)
 · iterate 4 refine au ?_
   cases hF
   exact Er ()
 iterate 5 refine au ?_
 rw [wk k4]
 exact ⟨_, Nat.lt_succ_self _, _, k4 + 1, rest5, rfl, eqA, hd10, entA, hF⟩
def i_sameAccess (a_a : Access) (a_b : Access) : Option (Bool) :=
 (bif ((a_a.Method : Int) == a_b.Method) then ((g_slices_Equal_int_int a_a.Values a_b.Values).bind fun r6 =>
     some r6)
   else (some false)).bind fun o3 =>
 match o3 with
 | c9 => some c9
theorem i_sameAccess_ok (a_a : Access) (v0_1 : Sv) (a_b : Access) (v1_1 : Sv) (R : Bool) (hF : i_sameAccess a_a a_b = some R) :
   Fw.Spec Tryz.prog 120 [(.agg [(.int .i64 a_a.Method), v0_1.v].toArray), (.agg [(.int .i64 a_b.Method), v1_1.v].toArray)] [crd (RdS 3 rdInt) v0_1.v a_a.Values, crd (RdS 3 rdInt) v1_1.v a_b.Values] (fun _ : Unit => (.bool R)) (fun _ => []) := by
 refine Se 17 Tryz.func120 [.tmp 4] ?_
 intro H0 F0
 unfold i_sameAccess at hF
 refine au ?_
 refine AbR (fun k1 => ?_)
 refine AbR (fun k2 => ?_)
 iterate 2 refine au ?_
 obtain ⟨o3, hio3, hO4⟩ := bind_some hF
 refine au ?_
 refine C_cut (fun f' cs' => ∃ (c9 : Bool) (g : Fr), c9 = o3 ∧ f' = updL g [(4, (.bool c9))] ∧ Ent cs' []) ?_ ?_
 · replace hF := hio3
   iterate 6 refine au ?_
   rcases Bool.eq_false_or_eq_true ((a_a.Method : Int) == a_b.Method) with hg5 | hg5
   · rw [hg5]
     try rw [hg5] at hF; dsimp only [cond_true, cond_false] at hF
     iterate 9 refine au ?_
     refine bnd hF fun r6 hx7 hF => Cx0 (g_slices_Equal_int_int_ok _ _ _ _ _ hx7) (fun _ => ?_)
     iterate 3 refine au ?_
     cases hF
     exact ⟨_, _, rfl, eqA, entA⟩
   rw [hg5]
   try rw [hg5] at hF; dsimp only [cond_true, cond_false] at hF
   iterate 8 refine au ?_
   cases hF
   exact ⟨_, _, rfl, eqA, entA⟩
 rintro _ _ ⟨c9, g10, rfl, rfl, hE⟩
 replace hF := hO4
 try dsimp only at hF
 refine K_ent hE ?_
 refine au ?_
 cases hF
 exact Er ()
def i_hasAccess_1 (a_x : Access) (a_e1 : Access) : Option (Bool) :=
 (i_sameAccess a_x a_e1).bind fun r2 =>
 some r2
theorem i_hasAccess_1_ok (a_x : Access) (v0_1 : Sv) (kc1 : Nat) (a_e1 : Access) (vc1_1 : Sv) (R : Bool) (hF : i_hasAccess_1 a_x a_e1 = some R) :
   Fw.Spec Tryz.prog 119 [(.agg [(.int .i64 a_x.Method), v0_1.v].toArray), (pz kc1)] [crd (RdS 3 rdInt) v0_1.v a_x.Values, cboR kc1 31 (.agg [(.int .i64 a_e1.Method), vc1_1.v].toArray), crd (RdS 3 rdInt) vc1_1.v a_e1.Values] (fun _ : Unit => (.bool R)) (fun _ => []) := by
 refine Se 7 Tryz.func119 [.tmp 3] ?_
 intro H0 F0
 unfold i_hasAccess_1 at hF
 refine au ?_
 refine AbR (fun k1 => ?_)
 iterate 5 refine au ?_
 refine bnd hF fun r2 hx3 hF => Cx0 (i_sameAccess_ok _ _ _ _ _ hx3) (fun _ => ?_)
 iterate 3 refine au ?_
 cases hF
 exact Er ()
def g_slices_IndexFunc_impl_Access_impl_Access_ihasAccess1_L1 (a_e1 : Access) : List Access → Nat → Option (Int)
 | [], k4 => some (-1)
 | x6 :: rest5, k4 => (i_hasAccess_1 x6 a_e1).bind fun r16 =>
   if r16 then (
     some (k4 : Int))
   else (
     g_slices_IndexFunc_impl_Access_impl_Access_ihasAccess1_L1 a_e1 rest5 (k4 + 1))
def g_slices_IndexFunc_impl_Access_impl_Access_ihasAccess1 (a_s : List Access) (a_e1 : Access) : Option (Int) :=
 g_slices_IndexFunc_impl_Access_impl_Access_ihasAccess1_L1 a_e1 a_s 0
theorem g_slices_IndexFunc_impl_Access_impl_Access_ihasAccess1_ok (a_s : List Access) (v0_0 : Sv) (kc1 : Nat) (a_e1 : Access) (vc1_1 : Sv) (R : Int) (hF : g_slices_IndexFunc_impl_Access_impl_Access_ihasAccess1 a_s a_e1 = some R) :
   Fw.Spec Tryz.prog 135 [v0_0.v, (.func (.func 119) [].toArray [(pz kc1)].toArray)] [crd (RdS 31 rd31) v0_0.v a_s, cboR kc1 31 (.agg [(.int .i64 a_e1.Method), vc1_1.v].toArray), crd (RdS 3 rdInt) vc1_1.v a_e1.Values] (fun _ : Unit => (.int .i64 R)) (fun _ => []) := by
 refine Se 19 Tryz.func135 [.tmp 4] ?_
 intro H0 F0
 unfold g_slices_IndexFunc_impl_Access_impl_Access_ihasAccess1 at hF
 iterate 9 refine au ?_
 refine CW_block (CW_loop (m := a_s.length) (fun m2 f' cs' => ∃ (g : Fr) (k4 : Nat) (rest5 : List Access), m2 = rest5.length ∧ f' = updL g [(0, v0_0.v), (1, (.func (.func 119) [].toArray [(pz kc1)].toArray)), (7, (.int .i64 (a_s.length : Int))), (8, (.int .i64 (k4 : Int)))] ∧ List.drop k4 a_s = rest5 ∧ Ent cs' [crd (RdS 31 rd31) v0_0.v a_s, cboR kc1 31 (.agg [(.int .i64 a_e1.Method), vc1_1.v].toArray), crd (RdS 3 rdInt) vc1_1.v a_e1.Values] ∧ g_slices_IndexFunc_impl_Access_impl_Access_ihasAccess1_L1 a_e1 rest5 k4 = some R) ⟨_, 0, _, rfl, eqA, rfl, entA, hF⟩ ?_)
 rintro m2 _ _ ⟨g3, k4, rest5, rfl, rfl, hd7, hE, hF⟩
 refine Kb hE a_s (fun hbd12 => ?_)
 rcases rest5 with _ | ⟨x6, rest5⟩
 · have hk8 := dn hd7
   rw [g_slices_IndexFunc_impl_Access_impl_Access_ihasAccess1_L1] at hF
   iterate 4 refine au ?_
   refine CdF ?_
   iterate 8 refine au ?_
   cases hF
   exact Er ()
 obtain ⟨hk8, hx9, hd10⟩ := drop_cons hd7
 rw [g_slices_IndexFunc_impl_Access_impl_Access_ihasAccess1_L1] at hF
 iterate 4 refine au ?_
 refine CdT ?_
 iterate 10 refine au ?_
 refine Ai hx9 (fun k13 j14 => ?_)
 refine AlA1 (ul31_0_31 x6) la31_0_31 (fun p15 => ?_)
 refine bnd hF fun r16 hx17 hF => C_x0 (.rd .h rfl (.rd (.t (.t (.t .h))) rfl (.rd (.t (.t (.t (.t .h)))) rfl .nil))) (X_callCS cf119.h (.tmp rfl rfl) (.cons (.tmp rfl rfl) .nil) (i_hasAccess_1_ok x6 p15 kc1 a_e1 vc1_1 _ hx17)) (fun _ => ?_)
 refine au ?_
 refine Ci hF (fun hb20 hF => ?_) (fun hb20 hF => ?_)
 · iterate 5 refine au ?_
   cases hF
   exact Er ()
 iterate 5 refine au ?_
 rw [wk k4]
 exact ⟨_, Nat.lt_succ_self _, _, k4 + 1, rest5, rfl, eqA, hd10, entA, hF⟩
def g_slices_ContainsFunc_impl_Access_impl_Access_ihasAccess1 (a_s : List Access) (a_e1 : Access) : Option (Bool) :=
 (g_slices_IndexFunc_impl_Access_impl_Access_ihasAccess1 a_s a_e1).bind fun r1 =>
 some (decide ((0 : Int) ≤ r1))
theorem g_slices_ContainsFunc_impl_Access_impl_Access_ihasAccess1_ok (a_s : List Access) (v0_0 : Sv) (kc1 : Nat) (a_e1 : Access) (vc1_1 : Sv) (R : Bool) (hF : g_slices_ContainsFunc_impl_Access_impl_Access_ihasAccess1 a_s a_e1 = some R) :
   Fw.Spec Tryz.prog 118 [v0_0.v, (.func (.func 119) [].toArray [(pz kc1)].toArray)] [crd (RdS 31 rd31) v0_0.v a_s, cboR kc1 31 (.agg [(.int .i64 a_e1.Method), vc1_1.v].toArray), crd (RdS 3 rdInt) vc1_1.v a_e1.Values] (fun _ : Unit => (.bool R)) (fun _ => []) := by
 refine Se 9 Tryz.func118 [.tmp 4] ?_
 intro H0 F0
 unfold g_slices_ContainsFunc_impl_Access_impl_Access_ihasAccess1 at hF
 iterate 6 refine au ?_
 refine bnd hF fun r1 hx2 hF => Cx0 (g_slices_IndexFunc_impl_Access_impl_Access_ihasAccess1_ok _ _ _ _ _ _ hx2) (fun _ => ?_)
 iterate 4 refine au ?_
 cases hF
 exact Er ()
def i_hasAccess (a_l : List Access) (a_a : Access) : Option (Bool) :=
 (g_slices_ContainsFunc_impl_Access_impl_Access_ihasAccess1 a_l a_a).bind fun r2 =>
 some r2
theorem i_hasAccess_ok (a_l : List Access) (v0_0 : Sv) (a_a : Access) (v1_1 : Sv) (R : Bool) (hF : i_hasAccess a_l a_a = some R) :
   Fw.Spec Tryz.prog 109 [v0_0.v, (.agg [(.int .i64 a_a.Method), v1_1.v].toArray)] [crd (RdS 31 rd31) v0_0.v a_l, crd (RdS 3 rdInt) v1_1.v a_a.Values] (fun _ : Unit => (.bool R)) (fun _ => []) := by
 refine Se 8 Tryz.func109 [.tmp 4] ?_
 intro H0 F0
 unfold i_hasAccess at hF
 refine au ?_
 refine AbR (fun k1 => ?_)
 iterate 4 refine au ?_
 refine C_val (V_makeFunc (fn := .func 119) (vs := []) (us := [(pz k1)]) .nil (.cons (.tmp rfl rfl) .nil)) ?_
 refine bnd hF fun r2 hx3 hF => Cx0 (g_slices_ContainsFunc_impl_Access_impl_Access_ihasAccess1_ok _ _ _ _ _ _ hx3) (fun _ => ?_)
 iterate 3 refine au ?_
 cases hF
 exact Er ()
def i_Reached_open_L2 (a_r : Reached) (k9 : Nat) : List (List Int) → Nat → (List Access) → Option ((List Access))
 | [], k50, c43 => some c43
 | x52 :: rest51, k50, c43 => ((i_hasAccess a_r.Log ({ Method := (k9 : Int), Values := x52 } : Access)).bind fun r67 =>
     if (!r67) then (
       (app c43 ([({ Method := (k9 : Int), Values := x52 } : Access)] : List Access)).bind fun z71 =>
       some z71)
     else (
       some c43)).bind fun o59 =>
   match o59 with
   | c75 => i_Reached_open_L2 a_r k9 rest51 (k50 + 1) c75
def i_Reached_open_L1 (a_r : Reached) : List Method → Nat → (List Access) → Option ((List Access) × Reached)
 | [], k9, c3 => some (c3, a_r)
 | x11 :: rest10, k9, c3 => (if ((x11.Limit : Int) != 0) then (
       some c3)
     else (
       (i_lists a_r.Values (x11.Inputs.length : Int)).bind fun r24 =>
       i_Reached_open_L2 a_r k9 r24 0 c3)).bind fun o18 =>
   match o18 with
   | c82 => i_Reached_open_L1 a_r rest10 (k9 + 1) c82
def i_Reached_open (a_r : Reached) (a_l : List Method) : Option ((List Access) × Reached) :=
 i_Reached_open_L1 a_r a_l 0 ([] : List Access)
theorem i_Reached_open_ok (a_r : Reached) (v0_0 : Sv) (F0_0 : List Nat) (v0_1 : Sv) (F0_1 : List Nat) (v0_2 : Sv) (F0_2 : List Nat) (a_l : List Method) (v1_0 : Sv) (R : (List Access) × Reached) (hF : i_Reached_open a_r a_l = some R) :
   Fw.Spec Tryz.prog 87 [(.agg [v0_0.v, v0_1.v, v0_2.v, (.int .i64 a_r.Rounds)].toArray), v1_0.v] [cown (OwnS 39 ow39) F0_0 v0_0.v a_r.Facts, cown (OwnS 3 (roE rdInt)) F0_1 v0_1.v a_r.Values, cown (OwnS 31 ow31) F0_2 v0_2.v a_r.Log, crd (RdS 65 rd65) v1_0.v a_l] (fun p : Sv × List Nat × List Nat × List Nat × List Nat => p.1.v) (fun p => [cown (OwnS 31 ow31) p.2.1 p.1.v R.1, cown (OwnS 39 ow39) p.2.2.1 v0_0.v R.2.Facts, cown (OwnS 3 (roE rdInt)) p.2.2.2.1 v0_1.v R.2.Values, cown (OwnS 31 ow31) p.2.2.2.2 v0_2.v R.2.Log]) := by
 refine Se 48 Tryz.func87 [.tmp 4] ?_
 intro H0 F0
 unfold i_Reached_open at hF
 refine au ?_
 refine AbR (fun k1 => ?_)
 iterate 3 refine au ?_
 refine C_new rfl (N_buildSliceT (g := true) sl52.h ty31.h .nil (vs := []) rfl rfl rfl (by simp)) (fun k2 => ?_)
 refine Cv1 (.cons .h .nil) (own_lit (Ro := ow31) (E := 31) (F := []) (xs := ([] : List Access)) MkL_nil rfl rfl) ?_
 iterate 8 refine au ?_
 refine CW_block (CW_loop (m := a_l.length) (fun m7 f' cs' => ∃ (g : Fr) (k9 : Nat) (rest10 : List Method) (c3 : List Access) (v4 : Sv) (F5 : List Nat), m7 = rest10.length ∧ f' = updL g [(2, (pz k1)), (5, v4.v), (12, v1_0.v), (13, (.int .i64 (a_l.length : Int))), (14, (.int .i64 (k9 : Int)))] ∧ List.drop k9 a_l = rest10 ∧ Ent cs' [cboR k1 54 (.agg [v0_0.v, v0_1.v, v0_2.v, (.int .i64 a_r.Rounds)].toArray), cown (OwnS 39 ow39) F0_0 v0_0.v a_r.Facts, cown (OwnS 3 (roE rdInt)) F0_1 v0_1.v a_r.Values, cown (OwnS 31 ow31) F0_2 v0_2.v a_r.Log, cown (OwnS 31 ow31) F5 v4.v c3, crd (RdS 65 rd65) v1_0.v a_l] ∧ i_Reached_open_L1 a_r rest10 k9 c3 = some R) ⟨_, 0, _, _, ⟨(some ⟨k2, 0, none⟩), 0, 1⟩, (k2 :: []), rfl, eqA, rfl, entA, hF⟩ ?_)
 rintro m7 _ _ ⟨g8, k9, rest10, c3, v4, F5, rfl, rfl, hd12, hE, hF⟩
 refine Kb hE a_l (fun hbd17 => ?_)
 rcases rest10 with _ | ⟨x11, rest10⟩
 · have hk13 := dn hd12
   rw [i_Reached_open_L1] at hF
   iterate 4 refine au ?_
   refine CdF ?_
   iterate 9 refine au ?_
   cases hF
   exact Er (v4, F5, F0_0, F0_1, F0_2)
 obtain ⟨hk13, hx14, hd15⟩ := drop_cons hd12
 rw [i_Reached_open_L1] at hF
 iterate 4 refine au ?_
 refine CdT ?_
 refine au ?_
 obtain ⟨o18, hio18, hO19⟩ := bind_some hF
 refine K_cut (fun f' cs' => ∃ (c82 : List Access) (v83 : Sv) (F84 : List Nat) (g : Fr), c82 = o18 ∧ f' = updL g [(2, (pz k1)), (5, v83.v), (12, v1_0.v), (13, (.int .i64 (a_l.length : Int))), (14, (.int .i64 (k9 : Int)))] ∧ Ent cs' [cboR k1 54 (.agg [v0_0.v, v0_1.v, v0_2.v, (.int .i64 a_r.Rounds)].toArray), cown (OwnS 39 ow39) F0_0 v0_0.v a_r.Facts, cown (OwnS 3 (roE rdInt)) F0_1 v0_1.v a_r.Values, cown (OwnS 31 ow31) F0_2 v0_2.v a_r.Log, cown (OwnS 31 ow31) F84 v83.v c82, crd (RdS 65 rd65) v1_0.v a_l]) ?_ ?_
 · replace hF := hio18
   refine CW_block (K_region (Cm (.int .i64 (k9 : Int)) rfl rfl ?_))
   refine Ai hx14 (fun k20 j21 => ?_)
   refine AlA1 (ul65_0_65 x11) la65_0_65 (fun p22 => ?_)
   refine AnW (fun k23 => ?_)
   refine au ?_
   refine As (.agg [(.int .i64 x11.Rel), p22.v, (.int .i64 x11.Limit), (.int .i64 x11.Cost), (.int .i64 x11.Quota)].toArray) ?_
   iterate 7 refine au ?_
   refine Ci hF (fun hb81 hF => ?_) (fun hb81 hF => ?_)
   · iterate 3 refine au ?_
     cases hF
     exact ⟨_, v4, F5, _, rfl, eqA, entA⟩
   iterate 7 refine au ?_
   refine bnd hF fun r24 hx25 hF => C_x2 (.cons (.t (.t (.t (.t (.t .h))))) .nil) (XC_bor frz_own (fun _ => (.cons .nil)) (X_callS cf108.h (.cons (.tmp rfl rfl) (.cons (.tmp rfl rfl) .nil)) (i_lists_ok a_r.Values v0_1 (x11.Inputs.length : Int) _ hx25))) (fun p26 => ?_)
   iterate 3 refine au ?_
   refine CW_block (K_mov (s := 1) (.t .h) (fun es41 G42 => ?_))
   refine CW_loop (m := r24.length) (fun m48 f' cs' => ∃ (g : Fr) (k50 : Nat) (rest51 : List (List Int)) (c43 : List Access) (v44 : Sv) (F45 : List Nat) (G46 : List Nat), m48 = rest51.length ∧ f' = updL g [(2, (pz k1)), (5, v44.v), (6, (.int .i64 (k9 : Int))), (12, v1_0.v), (13, (.int .i64 (a_l.length : Int))), (14, (.int .i64 (k9 : Int))), (27, p26.1.v), (28, (.int .i64 (r24.length : Int))), (29, (.int .i64 (k50 : Int)))] ∧ List.drop k50 r24 = rest51 ∧ Ent cs' [cboR k1 54 (.agg [v0_0.v, v0_1.v, v0_2.v, (.int .i64 a_r.Rounds)].toArray), cown (OwnS 39 ow39) F0_0 v0_0.v a_r.Facts, cown (OwnS 3 (roE rdInt)) F0_1 v0_1.v a_r.Values, cown (OwnS 31 ow31) F0_2 v0_2.v a_r.Log, cown (OwnS 31 ow31) F45 v44.v c43, crd (RdS 65 rd65) v1_0.v a_l, cmov 22 1 (OwnS 3 (roE rdInt)) G46 p26.1.v es41 r24.length k50 rest51] ∧ i_Reached_open_L2 a_r k9 rest51 k50 c43 = some o18) ⟨_, 0, _, _, v4, F5, G42, rfl, eqA, rfl, entA, hF⟩ ?_
   rintro m48 _ _ ⟨g49, k50, rest51, c43, v44, F45, G46, rfl, rfl, hd53, hE, hF⟩
   refine K_ent hE ?_
   refine K_pure (c := cmov 22 1 (OwnS 3 (roE rdInt)) G46 p26.1.v es41 r24.length k50 rest51) (.t (.t (.t (.t (.t (.t .h)))))) cmov_bound (fun hbd58 => ?_)
   rcases rest51 with _ | ⟨x52, rest51⟩
   · have hk54 := dn hd53
     rw [i_Reached_open_L2] at hF
     iterate 4 refine au ?_
     refine CdF ?_
     iterate 4 refine au ?_
     cases hF
     exact ⟨_, v44, F45, _, rfl, eqA, entA⟩
   obtain ⟨hk54, hx55, hd56⟩ := drop_cons hd53
   rw [i_Reached_open_L2] at hF
   iterate 4 refine au ?_
   refine CdT ?_
   refine au ?_
   obtain ⟨o59, hio59, hO60⟩ := bind_some hF
   refine K_cut (fun f' cs' => ∃ (c75 : List Access) (v76 : Sv) (F77 : List Nat) (F78 : List Nat) (g : Fr), c75 = o59 ∧ f' = updL g [(2, (pz k1)), (5, v76.v), (6, (.int .i64 (k9 : Int))), (12, v1_0.v), (13, (.int .i64 (a_l.length : Int))), (14, (.int .i64 (k9 : Int))), (27, p26.1.v), (28, (.int .i64 (r24.length : Int))), (29, (.int .i64 (k50 : Int)))] ∧ Ent cs' [cboR k1 54 (.agg [v0_0.v, v0_1.v, v0_2.v, (.int .i64 a_r.Rounds)].toArray), cown (OwnS 39 ow39) F0_0 v0_0.v a_r.Facts, cown (OwnS 3 (roE rdInt)) F0_1 v0_1.v a_r.Values, cown (OwnS 31 ow31) F0_2 v0_2.v a_r.Log, cown (OwnS 31 ow31) F77 v76.v c75, crd (RdS 65 rd65) v1_0.v a_l, cmov 22 1 (OwnS 3 (roE rdInt)) F78 p26.1.v es41 r24.length (k50 + 1) rest51]) ?_ ?_
   · replace hF := hio59
     refine CW_block (K_region (C_next1 un_slice (.t (.t (.t (.t (.t (.t .h)))))) (fun p61 G62 he63 => ?_)))
     refine C_idx (R := rdVal 1) (a := p61.1.v) sl115.h ty22.h.sz (.tmp rfl rfl) (.tmp rfl rfl) (.t .h) (Int.natCast_nonneg k50) (idx_hi he63) (fun k64 j65 => ?_)
     refine Al (lo_raw rfl) ?_
     iterate 5 refine au ?_
     refine C_val (V_build ty31.h rfl (vs := [(.int .i64 (k9 : Int)), p61.1.v]) (.cons (.tmp rfl rfl) (.cons (.tmp rfl rfl) .nil)) (cells := [(.int .i64 (k9 : Int)), p61.1.v]) rfl) ?_
     refine AnW (fun k66 => ?_)
     refine As (.agg [(.int .i64 (k9 : Int)), p61.1.v].toArray) ?_
     iterate 5 refine au ?_
     refine bnd hF fun r67 hx68 hF => C_x2 (.cons (.t (.t .h)) (.cons (.t (.t (.t (.t (.t (.t (.t .h))))))) .nil)) (XC_borL (pre := []) (.cons frz_own (.cons frz_own .nil)) (fun _ => .nil) (X_callS cf109.h (.cons (.tmp rfl rfl) (.cons (.tmp rfl rfl) .nil)) (i_hasAccess_ok a_r.Log v0_2 ({ Method := (k9 : Int), Values := x52 } : Access) p61.1 _ hx68))) (fun _ => ?_)
     iterate 2 refine au ?_
     refine Ci hF (fun hb74 hF => ?_) (fun hb74 hF => ?_)
     · iterate 3 refine au ?_
       refine C_new rfl (N_buildSliceT (g := true) sl52.h ty31.h (.cons (.tmp rfl rfl) .nil) (vs := [(.agg [(.int .i64 (k9 : Int)), p61.1.v].toArray)]) rfl rfl rfl (by intro v hv; simp at hv; rcases hv with rfl <;> rfl)) (fun k70 => ?_)
       refine Cv1 (.cons .h (.cons .h .nil)) (own_lit (Ro := ow31) (E := 31) (F := (p61.2 ++ [])) (xs := ([({ Method := (k9 : Int), Values := x52 } : Access)] : List Access)) (MkL_cons (mk31 (a := ({ Method := (k9 : Int), Values := x52 } : Access))) MkL_nil apps) rfl rfl) ?_
       refine bnd hF fun z71 hx72 hF => C_x1 (.cons (.t (.t (.t (.t (.t (.t (.t (.t (.t .h))))))))) (.cons .h .nil)) (X_appendO (Ro := ow31) sl52.h ni52 ty31.h rfl rfl rfl (.tmp rfl rfl) (.tmp rfl rfl) hx72 src_own) (fun p73 => ?_)
       iterate 2 refine au ?_
       cases hF
       exact ⟨_, p73.1, p73.2, G62, _, rfl, eqA, entA⟩
     refine au ?_
     cases hF
     exact ⟨_, v44, F45, G62, _, rfl, eqA, entA⟩
   rintro _ _ ⟨c75, v76, F77, F78, g80, rfl, rfl, hE⟩
   replace hF := hO60
   try dsimp only at hF
   refine K_ent hE ?_
   iterate 4 refine au ?_
   rw [wk k50]
   exact ⟨_, Nat.lt_succ_self _, _, k50 + 1, rest51, _, v76, F77, F78, rfl, eqA, hd56, entA, hF⟩
 rintro _ _ ⟨c82, v83, F84, g86, rfl, rfl, hE⟩
 replace hF := hO19
 try dsimp only at hF
 refine K_ent hE ?_
 iterate 4 refine au ?_
 rw [wk k9]
 exact ⟨_, Nat.lt_succ_self _, _, k9 + 1, rest10, _, v83, F84, rfl, eqA, hd15, entA, hF⟩
def i_bit (a_is : Bool) : Option (Int) :=
 if a_is then (
   some 1)
 else (
   some 0)
theorem i_bit_ok (a_is : Bool) (R : Int) (hF : i_bit a_is = some R) :
   Fw.Spec Tryz.prog 89 [(.bool a_is)] [] (fun _ : Unit => (.int .i64 R)) (fun _ => []) := by
 refine Se 4 Tryz.func89 [.tmp 2] ?_
 intro H0 F0
 unfold i_bit at hF
 iterate 7 refine au ?_
 refine Ci hF (fun hb1 hF => ?_) (fun hb1 hF => ?_)
 · iterate 4 refine au ?_
   cases hF
   exact Er ()
 iterate 5 refine au ?_
 cases hF
 exact Er ()
def i_copyFact (a_f : Fact) : Option (Fact) :=
 (g_slices_Clone_int_int a_f.Values).bind fun r3 =>
 some ({ Rel := a_f.Rel, Values := r3 } : Fact)
theorem i_copyFact_ok (a_f : Fact) (v0_1 : Sv) (R : Fact) (hF : i_copyFact a_f = some R) :
   Fw.Spec Tryz.prog 91 [(.agg [(.int .i64 a_f.Rel), v0_1.v].toArray)] [crd (RdS 3 rdInt) v0_1.v a_f.Values] (fun p : Sv × List Nat => (.agg [(.int .i64 R.Rel), p.1.v].toArray)) (fun p => [cown (OwnS 3 (roE rdInt)) p.2 p.1.v R.Values]) := by
 refine Se 9 Tryz.func91 [.cell 2 39] ?_
 intro H0 F0
 unfold i_copyFact at hF
 refine au ?_
 refine AbR (fun k1 => ?_)
 refine AnW (fun k2 => ?_)
 refine au ?_
 refine K_draw [0, 1, 2, 3, 4, 5, 6] [0, 1, 0, 4, 12, 31, 63] [4, 6] mixed (by decide +kernel) ?_
 iterate 4 refine du ?_
 refine bnd hF fun r3 hx4 hF => Dx1 (g_slices_Clone_int_int_ok _ _ _ hx4) (fun p5 => ?_)
 refine D_val rfl .no (fun ha => V_build ty39.h rfl (vs := [(.int .i64 a_f.Rel), p5.1.v]) (.cons (EN ha (.tmp rfl rfl) rfl) (.cons (EN ha (.tmp rfl rfl) rfl) .nil)) (cells := [(.int .i64 a_f.Rel), p5.1.v]) rfl) ?_
 refine D_act1 rfl rfl .no (.cons (.t .h) .nil) .nil (fun ha => X_storeB (e' := (.agg [(.int .i64 a_f.Rel), p5.1.v].toArray)) (v := (.agg [(.int .i64 a_f.Rel), p5.1.v].toArray)) ty39.h.sz (EN ha (.tmp rfl rfl) rfl) (EN ha (.tmp rfl rfl) rfl) rfl rfl rfl rfl rfl) (fun _ => ?_)
 refine du ?_
 refine au ?_
 cases hF
 exact Er (p5.1, p5.2)
def i_copyFacts_L1 : List Fact → Nat → (List Fact) → Option ((List Fact))
 | [], k8, c2 => some c2
 | x10 :: rest9, k8, c2 => (i_copyFact x10).bind fun r21 =>
   (app c2 ([r21] : List Fact)).bind fun z25 =>
   i_copyFacts_L1 rest9 (k8 + 1) z25
def i_copyFacts (a_l : List Fact) : Option ((List Fact)) :=
 i_copyFacts_L1 a_l 0 ([] : List Fact)
theorem i_copyFacts_ok (a_l : List Fact) (v0_0 : Sv) (R : (List Fact)) (hF : i_copyFacts a_l = some R) :
   Fw.Spec Tryz.prog 64 [v0_0.v] [crd (RdS 39 rd39) v0_0.v a_l] (fun p : Sv × List Nat => p.1.v) (fun p => [cown (OwnS 39 ow39) p.2 p.1.v R]) := by
 refine Se 20 Tryz.func64 [.tmp 2] ?_
 intro H0 F0
 unfold i_copyFacts at hF
 iterate 4 refine au ?_
 refine C_new rfl (N_buildSliceT (g := true) sl37.h ty39.h .nil (vs := []) rfl rfl rfl (by simp)) (fun k1 => ?_)
 refine Cv1 (.cons .h .nil) (own_lit (Ro := ow39) (E := 39) (F := []) (xs := ([] : List Fact)) MkL_nil rfl rfl) ?_
 iterate 8 refine au ?_
 refine CW_block (CW_loop (m := a_l.length) (fun m6 f' cs' => ∃ (g : Fr) (k8 : Nat) (rest9 : List Fact) (c2 : List Fact) (v3 : Sv) (F4 : List Nat), m6 = rest9.length ∧ f' = updL g [(3, v3.v), (7, v0_0.v), (8, (.int .i64 (a_l.length : Int))), (9, (.int .i64 (k8 : Int)))] ∧ List.drop k8 a_l = rest9 ∧ Ent cs' [cown (OwnS 39 ow39) F4 v3.v c2, crd (RdS 39 rd39) v0_0.v a_l] ∧ i_copyFacts_L1 rest9 k8 c2 = some R) ⟨_, 0, _, _, ⟨(some ⟨k1, 0, none⟩), 0, 1⟩, (k1 :: []), rfl, eqA, rfl, entA, hF⟩ ?_)
 rintro m6 _ _ ⟨g7, k8, rest9, c2, v3, F4, rfl, rfl, hd11, hE, hF⟩
 refine Kb hE a_l (fun hbd16 => ?_)
 rcases rest9 with _ | ⟨x10, rest9⟩
 · have hk12 := dn hd11
   rw [i_copyFacts_L1] at hF
   iterate 4 refine au ?_
   refine CdF ?_
   iterate 9 refine au ?_
   cases hF
   exact Er (v3, F4)
 obtain ⟨hk12, hx13, hd14⟩ := drop_cons hd11
 rw [i_copyFacts_L1] at hF
 iterate 4 refine au ?_
 refine CdT ?_
 iterate 3 refine au ?_
 refine Ai hx13 (fun k17 j18 => ?_)
 refine AlA1 (ul39_0_39 x10) la39_0_39 (fun p19 => ?_)
 refine AnW (fun k20 => ?_)
 refine As (.agg [(.int .i64 x10.Rel), p19.v].toArray) ?_
 iterate 4 refine au ?_
 refine bnd hF fun r21 hx22 hF => Cx1 (i_copyFact_ok _ _ _ hx22) (fun p23 => ?_)
 refine C_new rfl (N_buildSliceT (g := true) sl37.h ty39.h (.cons (.tmp rfl rfl) .nil) (vs := [(.agg [(.int .i64 r21.Rel), p23.1.v].toArray)]) rfl rfl rfl (by intro v hv; simp at hv; rcases hv with rfl <;> rfl)) (fun k24 => ?_)
 refine Cv1 (.cons .h (.cons .h .nil)) (own_lit (Ro := ow39) (E := 39) (F := (p23.2 ++ [])) (xs := ([r21] : List Fact)) (MkL_cons mk39 MkL_nil apps) rfl rfl) ?_
 refine bnd hF fun z25 hx26 hF => C_x1 (.cons (.t (.t (.t (.t .h)))) (.cons .h .nil)) (X_appendO (Ro := ow39) sl37.h ni37 ty39.h rfl rfl rfl (.tmp rfl rfl) (.tmp rfl rfl) hx26 src_own) (fun p27 => ?_)
 iterate 6 refine au ?_
 rw [wk k8]
 exact ⟨_, Nat.lt_succ_self _, _, k8 + 1, rest9, _, p27.1, p27.2, rfl, eqA, hd14, entA, hF⟩
def i_matches_1_L1 (a_f : Fact) (a_e2 : Access) : List Int → Nat → Option (Bool)
 | [], k5 => some false
 | x7 :: rest6, k5 => (ix a_f.Values x7).bind fun x16 =>
   (ix a_e2.Values (k5 : Int)).bind fun x22 =>
   if ((x16 : Int) != x22) then (
     some true)
   else (
     i_matches_1_L1 a_f a_e2 rest6 (k5 + 1))
def i_matches_1 (a_f : Fact) (a_e1 : Method) (a_e2 : Access) : Option (Bool) :=
 if ((a_f.Rel : Int) != a_e1.Rel) then (
   some true)
 else (
   i_matches_1_L1 a_f a_e2 a_e1.Inputs 0)
theorem i_matches_1_ok (a_f : Fact) (v0_1 : Sv) (kc1 : Nat) (a_e1 : Method) (vc1_1 : Sv) (kc2 : Nat) (a_e2 : Access) (vc2_1 : Sv) (R : Bool) (hF : i_matches_1 a_f a_e1 a_e2 = some R) :
   Fw.Spec Tryz.prog 65 [(.agg [(.int .i64 a_f.Rel), v0_1.v].toArray), (pz kc1), (pz kc2)] [crd (RdS 3 rdInt) v0_1.v a_f.Values, cboR kc1 65 (.agg [(.int .i64 a_e1.Rel), vc1_1.v, (.int .i64 a_e1.Limit), (.int .i64 a_e1.Cost), (.int .i64 a_e1.Quota)].toArray), crd (RdS 3 rdInt) vc1_1.v a_e1.Inputs, cboR kc2 31 (.agg [(.int .i64 a_e2.Method), vc2_1.v].toArray), crd (RdS 3 rdInt) vc2_1.v a_e2.Values] (fun _ : Unit => (.bool R)) (fun _ => []) := by
 refine Se 32 Tryz.func65 [.tmp 4] ?_
 intro H0 F0
 unfold i_matches_1 at hF
 refine au ?_
 refine AbR (fun k1 => ?_)
 iterate 10 refine au ?_
 refine Ci hF (fun hb30 hF => ?_) (fun hb30 hF => ?_)
 · iterate 4 refine au ?_
   cases hF
   exact Er ()
 iterate 8 refine au ?_
 refine CW_block (CW_loop (m := a_e1.Inputs.length) (fun m3 f' cs' => ∃ (g : Fr) (k5 : Nat) (rest6 : List Int), m3 = rest6.length ∧ f' = updL g [(2, (pz kc2)), (3, (pz k1)), (13, vc1_1.v), (14, (.int .i64 (a_e1.Inputs.length : Int))), (15, (.int .i64 (k5 : Int)))] ∧ List.drop k5 a_e1.Inputs = rest6 ∧ Ent cs' [cboR kc2 31 (.agg [(.int .i64 a_e2.Method), vc2_1.v].toArray), crd (RdS 3 rdInt) vc2_1.v a_e2.Values, cboR k1 39 (.agg [(.int .i64 a_f.Rel), v0_1.v].toArray), crd (RdS 3 rdInt) v0_1.v a_f.Values, crd (RdS 3 rdInt) vc1_1.v a_e1.Inputs] ∧ i_matches_1_L1 a_f a_e2 rest6 k5 = some R) ⟨_, 0, _, rfl, eqA, rfl, entA, hF⟩ ?_)
 rintro m3 _ _ ⟨g4, k5, rest6, rfl, rfl, hd8, hE, hF⟩
 refine Kb hE a_e1.Inputs (fun hbd13 => ?_)
 rcases rest6 with _ | ⟨x7, rest6⟩
 · have hk9 := dn hd8
   rw [i_matches_1_L1] at hF
   iterate 4 refine au ?_
   refine CdF ?_
   iterate 8 refine au ?_
   cases hF
   exact Er ()
 obtain ⟨hk9, hx10, hd11⟩ := drop_cons hd8
 rw [i_matches_1_L1] at hF
 iterate 4 refine au ?_
 refine CdT ?_
 iterate 4 refine au ?_
 refine Ai hx10 (fun k14 j15 => ?_)
 refine Al ls3_0 ?_
 iterate 3 refine au ?_
 refine K_draw [0, 1, 2, 3, 4, 5, 6, 7, 8, 9, 10] [0, 1, 0, 7, 15, 0, 32, 0, 224, 480, 1023] [] mixed (by decide +kernel) ?_
 iterate 3 refine du ?_
 refine bnd hF fun x16 hx17 hF => ?_
 obtain ⟨hp18, hx19⟩ := ix_some hx17
 refine Di hx19 (fun k20 j21 => ?_)
 refine Dl ls3_0 ?_
 iterate 3 refine du ?_
 refine bnd hF fun x22 hx23 hF => ?_
 obtain ⟨hp24, hx25⟩ := ix_some hx23
 refine Di hx25 (fun k26 j27 => ?_)
 refine Dl ls3_0 ?_
 iterate 2 refine du ?_
 refine Ci hF (fun hb29 hF => ?_) (fun hb29 hF => ?_)
 · iterate 4 refine au ?_
   cases hF
   exact Er ()
 iterate 5 refine au ?_
 rw [wk k5]
 exact ⟨_, Nat.lt_succ_self _, _, k5 + 1, rest6, rfl, eqA, hd11, entA, hF⟩
def g_slices_IndexFunc_impl_Fact_impl_Fact_imatches1_L1 (a_e1 : Method) (a_e2 : Access) : List Fact → Nat → Option (Int)
 | [], k4 => some (-1)
 | x6 :: rest5, k4 => (i_matches_1 x6 a_e1 a_e2).bind fun r16 =>
   if r16 then (
     some (k4 : Int))
   else (
     g_slices_IndexFunc_impl_Fact_impl_Fact_imatches1_L1 a_e1 a_e2 rest5 (k4 + 1))
def g_slices_IndexFunc_impl_Fact_impl_Fact_imatches1 (a_s : List Fact) (a_e1 : Method) (a_e2 : Access) : Option (Int) :=
 g_slices_IndexFunc_impl_Fact_impl_Fact_imatches1_L1 a_e1 a_e2 a_s 0
theorem g_slices_IndexFunc_impl_Fact_impl_Fact_imatches1_ok (a_s : List Fact) (v0_0 : Sv) (kc1 : Nat) (a_e1 : Method) (vc1_1 : Sv) (kc2 : Nat) (a_e2 : Access) (vc2_1 : Sv) (R : Int) (hF : g_slices_IndexFunc_impl_Fact_impl_Fact_imatches1 a_s a_e1 a_e2 = some R) :
   Fw.Spec Tryz.prog 90 [v0_0.v, (.func (.func 65) [].toArray [(pz kc1), (pz kc2)].toArray)] [crd (RdS 39 rd39) v0_0.v a_s, cboR kc1 65 (.agg [(.int .i64 a_e1.Rel), vc1_1.v, (.int .i64 a_e1.Limit), (.int .i64 a_e1.Cost), (.int .i64 a_e1.Quota)].toArray), crd (RdS 3 rdInt) vc1_1.v a_e1.Inputs, cboR kc2 31 (.agg [(.int .i64 a_e2.Method), vc2_1.v].toArray), crd (RdS 3 rdInt) vc2_1.v a_e2.Values] (fun _ : Unit => (.int .i64 R)) (fun _ => []) := by
 refine Se 19 Tryz.func90 [.tmp 4] ?_
 intro H0 F0
 unfold g_slices_IndexFunc_impl_Fact_impl_Fact_imatches1 at hF
 iterate 9 refine au ?_
 refine CW_block (CW_loop (m := a_s.length) (fun m2 f' cs' => ∃ (g : Fr) (k4 : Nat) (rest5 : List Fact), m2 = rest5.length ∧ f' = updL g [(0, v0_0.v), (1, (.func (.func 65) [].toArray [(pz kc1), (pz kc2)].toArray)), (7, (.int .i64 (a_s.length : Int))), (8, (.int .i64 (k4 : Int)))] ∧ List.drop k4 a_s = rest5 ∧ Ent cs' [crd (RdS 39 rd39) v0_0.v a_s, cboR kc1 65 (.agg [(.int .i64 a_e1.Rel), vc1_1.v, (.int .i64 a_e1.Limit), (.int .i64 a_e1.Cost), (.int .i64 a_e1.Quota)].toArray), crd (RdS 3 rdInt) vc1_1.v a_e1.Inputs, cboR kc2 31 (.agg [(.int .i64 a_e2.Method), vc2_1.v].toArray), crd (RdS 3 rdInt) vc2_1.v a_e2.Values] ∧ g_slices_IndexFunc_impl_Fact_impl_Fact_imatches1_L1 a_e1 a_e2 rest5 k4 = some R) ⟨_, 0, _, rfl, eqA, rfl, entA, hF⟩ ?_)
 rintro m2 _ _ ⟨g3, k4, rest5, rfl, rfl, hd7, hE, hF⟩
 refine Kb hE a_s (fun hbd12 => ?_)
 rcases rest5 with _ | ⟨x6, rest5⟩
 · have hk8 := dn hd7
   rw [g_slices_IndexFunc_impl_Fact_impl_Fact_imatches1_L1] at hF
   iterate 4 refine au ?_
   refine CdF ?_
   iterate 8 refine au ?_
   cases hF
   exact Er ()
 obtain ⟨hk8, hx9, hd10⟩ := drop_cons hd7
 rw [g_slices_IndexFunc_impl_Fact_impl_Fact_imatches1_L1] at hF
 iterate 4 refine au ?_
 refine CdT ?_
 iterate 10 refine au ?_
 refine Ai hx9 (fun k13 j14 => ?_)
 refine AlA1 (ul39_0_39 x6) la39_0_39 (fun p15 => ?_)
 refine bnd hF fun r16 hx17 hF => C_x0 (.rd .h rfl (.rd (.t (.t (.t .h))) rfl (.rd (.t (.t (.t (.t .h)))) rfl (.rd (.t (.t (.t (.t (.t .h))))) rfl (.rd (.t (.t (.t (.t (.t (.t .h)))))) rfl .nil))))) (X_callCS cf65.h (.tmp rfl rfl) (.cons (.tmp rfl rfl) .nil) (i_matches_1_ok x6 p15 kc1 a_e1 vc1_1 kc2 a_e2 vc2_1 _ hx17)) (fun _ => ?_)
 refine au ?_
 refine Ci hF (fun hb20 hF => ?_) (fun hb20 hF => ?_)
 · iterate 5 refine au ?_
   cases hF
   exact Er ()
 iterate 5 refine au ?_
 rw [wk k4]
 exact ⟨_, Nat.lt_succ_self _, _, k4 + 1, rest5, rfl, eqA, hd10, entA, hF⟩
def g_slices_DeleteFunc_impl_Fact_impl_Fact_imatches1 (a_s : List Fact) (a_e1 : Method) (a_e2 : Access) : Option (List Fact) :=
 delL (fun a_q => i_matches_1 a_q a_e1 a_e2) a_s
theorem g_slices_DeleteFunc_impl_Fact_impl_Fact_imatches1_sh (qs : List (Value × Fact)) (v : Sv) (F : List Nat) (kc1 : Nat) (a_e1 : Method) (vc1_1 : Sv) (kc2 : Nat) (a_e2 : Access) (vc2_1 : Sv) (p : Value × Fact → Bool) (hcl : ∀ q ∈ qs, i_matches_1 q.2 a_e1 a_e2 = some (p q)) (hidx : g_slices_IndexFunc_impl_Fact_impl_Fact_imatches1 (qs.map Prod.snd) a_e1 a_e2 = some (ixF p qs 0)) (hbd : qs.length < 4611686018427387904) :
   Fw.Spec Tryz.prog 63 [v.v, (.func (.func 65) [].toArray [(.pointer (some ⟨kc1, 0, some 0⟩)), (.pointer (some ⟨kc2, 0, some 0⟩))].toArray)] [cown (OwnS 39 (roE (rq rd39))) F v.v qs, cboR kc1 65 (.agg [(.int .i64 a_e1.Rel), vc1_1.v, (.int .i64 a_e1.Limit), (.int .i64 a_e1.Cost), (.int .i64 a_e1.Quota)].toArray), crd (RdS 3 rdInt) vc1_1.v a_e1.Inputs, cboR kc2 31 (.agg [(.int .i64 a_e2.Method), vc2_1.v].toArray), crd (RdS 3 rdInt) vc2_1.v a_e2.Values] (fun q : Sv × List Nat => q.1.v) (fun q => [cown (OwnS 39 (roE (rq rd39))) q.2 q.1.v (qs.filter fun a => !p a)]) := by
 refine Spec_enter (n := 42) Tryz.func63 rfl rfl (rs := [.tmp 4]) rfl rfl rfl ?_
 intro H0 F0
 refine K_region ?_
 refine C_val (V_assign (v := (.slice none 0 0)) EV.nilSlice) ?_
 refine C_nil ?_
 refine K_region ?_
 refine C_val (V_move (v := v.v) (.tmp rfl rfl)) ?_
 refine C_val (V_move (v := (.func (.func 65) [].toArray [(.pointer (some ⟨kc1, 0, some 0⟩)), (.pointer (some ⟨kc2, 0, some 0⟩))].toArray)) (.tmp rfl rfl)) ?_
 refine C_x1 (.cons .h (.rd .h rfl (.rd (.t .h) rfl (.rd (.t (.t .h)) rfl (.rd (.t (.t (.t .h))) rfl .nil))))) (XC_borR frz_rq (fun _ => .nil) (XC_pre (.rd (.t (.t (.t (.t .h)))) rfl (.rd .h rfl (.rd (.t .h) rfl (.rd (.t (.t .h)) rfl (.rd (.t (.t (.t .h))) rfl .nil))))) (X_callS cf90.h (.cons (.tmp rfl rfl) (.cons (.tmp rfl rfl) .nil)) (g_slices_IndexFunc_impl_Fact_impl_Fact_imatches1_ok (qs.map Prod.snd) v kc1 a_e1 vc1_1 kc2 a_e2 vc2_1 _ hidx)))) (fun _ => ?_)
 generalize hR : ixF p qs 0 = R0
 refine C_val (V_assign (v := (.int .i64 R0)) (.tmp rfl rfl)) ?_
 refine C_nil ?_
 refine K_in ?_
 refine K_region ?_
 refine C_val (V_move (v := (.int .i64 R0)) (.tmp rfl rfl)) ?_
 refine C_val (V_eql (i := R0) (j := (-1)) (.tmp rfl rfl) (.int _ _)) ?_
 refine C_nil ?_
 refine CW_cond (b := (R0 == (-1 : Int))) (.tmp rfl rfl) (fun hb => ?_) (fun hb => ?_)
 · refine K_region ?_
   refine C_val (V_move (v := v.v) (.tmp rfl rfl)) ?_
   refine C_val (V_assign (v := v.v) (.tmp rfl rfl)) ?_
   refine C_nil ?_
   refine CW_ret ?_
   have e : qs.filter (fun q => !p q) = qs := ixF_none (k := 0) (by rw [hR]; simpa using hb)
   rw [e]
   exact End_ret (v, F) (.tmp rfl rfl .nil) rfl (.sel (.cons .h .nil))
 refine CW_skip ?_
 obtain ⟨i0, hi0, hi1⟩ : ∃ i : Nat, R0 = (i : Int) ∧ i < qs.length := by
   rcases ixF_range p qs 0 with h | ⟨i, h, hi⟩
   · rw [hR] at h; subst h; simp at hb
   · exact ⟨i, by rw [← hR, h], by omega⟩
 subst hi0
 refine K_in ?_
 refine K_region ?_
 refine C_val (V_move (v := (.int .i64 (i0 : Int))) (.tmp rfl rfl)) ?_
 refine C_val (V_add (i := (i0 : Int)) (j := 1) (.tmp rfl rfl) (.int _ _)) ?_
 rw [show IntKind.i64.wrap ((i0 : Int) + 1) = ((i0 + 1 : Nat) : Int) from by rw [wrap_in (by omega) (by omega)]; rfl]
 refine C_val (V_assign (v := (.int .i64 ((i0 + 1 : Nat) : Int))) (.tmp rfl rfl)) ?_
 refine C_nil ?_
 refine CW_block ?_
 refine CW_loop (m := qs.length - (i0 + 1)) (fun m f' cs' => ∃ (g : Fr) (cur : List (Value × Fact)) (i j : Nat) (F' : List Nat), m = qs.length - j ∧ f' = updL g [(0, v.v), (1, (.func (.func 65) [].toArray [(.pointer (some ⟨kc1, 0, some 0⟩)), (.pointer (some ⟨kc2, 0, some 0⟩))].toArray)), (5, (.int .i64 (i : Int))), (6, (.int .i64 (j : Int)))] ∧ DelI p qs cur i j ∧ Ent cs' [cown (OwnS 39 (roE (rq rd39))) F' v.v cur, cboR kc1 65 (.agg [(.int .i64 a_e1.Rel), vc1_1.v, (.int .i64 a_e1.Limit), (.int .i64 a_e1.Cost), (.int .i64 a_e1.Quota)].toArray), crd (RdS 3 rdInt) vc1_1.v a_e1.Inputs, cboR kc2 31 (.agg [(.int .i64 a_e2.Method), vc2_1.v].toArray), crd (RdS 3 rdInt) vc2_1.v a_e2.Values]) ⟨_, qs, i0, i0 + 1, F, rfl, (EqL.cons rfl (EqL.cons rfl (EqL.cons rfl (EqL.cons rfl (EqL.nil))))).eq, DelI.init (by rw [hR]), .sel (.cons .h (.rd .h rfl (.rd (.t .h) rfl (.rd (.t (.t .h)) rfl (.rd (.t (.t (.t .h))) rfl .nil)))))⟩ ?_
 rintro m _ _ ⟨g, cur, i, j, F', rfl, rfl, hI, hE⟩
 refine K_ent hE ?_
 clear hE
 refine K_in ?_
 refine K_region ?_
 refine C_val (V_move (v := (.int .i64 (j : Int))) (.tmp rfl rfl)) ?_
 refine C_val (V_move (v := v.v) (.tmp rfl rfl)) ?_
 refine C_at .h (fun hp => V_lenR (l := cur.length) sl37.h (.tmp rfl rfl) (cown_len hp)) ?_
 refine C_val (V_lss (i := (j : Int)) (j := (cur.length : Int)) (.tmp rfl rfl) (.tmp rfl rfl)) ?_
 refine C_nil ?_
 have hlen := hI.len
 have hij := hI.lt
 have hjl := hI.le
 refine CW_cond (b := (decide ((j : Int) < (cur.length : Int)))) (.tmp rfl rfl) (fun hb2 => ?_) (fun hb2 => ?_)
 · refine CW_skip ?_
   have hj : j < qs.length := by simp at hb2; omega
   obtain ⟨x, hx1, hx2⟩ := hI.at hj
   refine K_block ?_
   refine K_region ?_
   refine C_val (V_move (v := v.v) (.tmp rfl rfl)) ?_
   refine C_val (V_move (v := (.int .i64 (j : Int))) (.tmp rfl rfl)) ?_
   refine C_idxO sl37.h ty39.h.sz (.tmp rfl rfl) (.tmp rfl rfl) .h (by simp; omega) (fun k hk => ?_)
   refine C_ldOW (a := x) (ul := fun i : Sv => [(.int .i64 x.2.Rel), i.v]) (cc := fun i => [crd (RdS 3 rdInt) i.v x.2.Values]) ag39.h ty39.h.sz rfl (.tmp rfl rfl) .h hk (by simpa using hx1) (fun H e h => by obtain ⟨-, v0, h1, h0⟩ := h; exact ⟨v0, h1, rfl, by simp [crd, h0]⟩) (fun w => ?_)
   refine C_new rfl (N_allocT (g := true) ty39.h rfl rfl) (fun k1 => ?_)
   refine C_x1 (.cons .h .nil) (X_storeB (e := (.agg [(.int .i64 0), (.slice none 0 0)].toArray)) (e' := (.agg [(.int .i64 x.2.Rel), w.v].toArray)) (v := (.agg [(.int .i64 x.2.Rel), w.v].toArray)) ty39.h.sz (.tmp rfl rfl) (.tmp rfl rfl) rfl rfl rfl rfl rfl) (fun _ => ?_)
   refine C_nil ?_
   refine K_region ?_
   refine C_val (V_move (v := (.func (.func 65) [].toArray [(.pointer (some ⟨kc1, 0, some 0⟩)), (.pointer (some ⟨kc2, 0, some 0⟩))].toArray)) (.tmp rfl rfl)) ?_
   refine C_at .h (fun hp => V_loadBox ag39.h ty39.h.sz rfl (.tmp rfl rfl) hp.2 rfl) ?_
   refine C_x0 (.rd (.t (.t .h)) rfl (.rd (.t (.t (.t (.t .h)))) rfl (.rd (.t (.t (.t (.t (.t .h))))) rfl (.rd (.t (.t (.t (.t (.t (.t .h)))))) rfl (.rd (.t (.t (.t (.t (.t (.t (.t .h))))))) rfl .nil))))) (X_callCS cf65.h (.tmp rfl rfl) (.cons (.tmp rfl rfl) .nil) (i_matches_1_ok x.2 w kc1 a_e1 vc1_1 kc2 a_e2 vc2_1 _ (hcl x (List.mem_of_getElem? hx2)))) (fun _ => ?_)
   refine C_val (V_not (b := p x) (.tmp rfl rfl)) ?_
   refine C_nil ?_
   refine CW_cond (b := (!p x)) (.tmp rfl rfl) (fun hb3 => ?_) (fun hb3 => ?_)
   · refine K_region ?_
     refine C_val (V_move (v := v.v) (.tmp rfl rfl)) ?_
     refine C_val (V_move (v := (.int .i64 (i : Int))) (.tmp rfl rfl)) ?_
     refine C_at .h (fun hp => V_loadBox ag39.h ty39.h.sz rfl (.tmp rfl rfl) hp.2 rfl) ?_
     have hii : (decide ((0 : Int) ≤ (i : Int)) && decide ((i : Int) < (cur.length : Int))) = true := by simp; omega
     refine C_idxO sl37.h ty39.h.sz (.tmp rfl rfl) (.tmp rfl rfl) (.t (.t (.t .h))) hii (fun k2 hk2 => ?_)
     refine C_x1 (.cons (.t (.t (.t .h))) (.rd (.t .h) rfl .nil)) (X_storeO (Ro := roE (rq rd39)) (a := x) (i := (i : Int)) ty39.h.sz rfl (.tmp rfl rfl) (.tmp rfl rfl) hk2 hii Mk_rd (fun _ _ _ _ h => by obtain ⟨-, -, v0, rfl, _⟩ := h; rfl)) (fun F2 => ?_)
     refine C_nil ?_
     refine CW_region ?_
     refine C_val (V_move (v := (.int .i64 (i : Int))) (.tmp rfl rfl)) ?_
     refine C_val (V_add (i := (i : Int)) (j := 1) (.tmp rfl rfl) (.int _ _)) ?_
     rw [show IntKind.i64.wrap ((i : Int) + 1) = ((i + 1 : Nat) : Int) from by rw [wrap_in (by omega) (by omega)]; rfl]
     refine C_val (V_assign (v := (.int .i64 ((i + 1 : Nat) : Int))) (.tmp rfl rfl)) ?_
     refine C_nil ?_
     refine CW_region ?_
     refine C_val (V_move (v := (.int .i64 (j : Int))) (.tmp rfl rfl)) ?_
     refine C_val (V_add (i := (j : Int)) (j := 1) (.tmp rfl rfl) (.int _ _)) ?_
     rw [show IntKind.i64.wrap ((j : Int) + 1) = ((j + 1 : Nat) : Int) from by rw [wrap_in (by omega) (by omega)]; rfl]
     refine C_val (V_assign (v := (.int .i64 ((j + 1 : Nat) : Int))) (.tmp rfl rfl)) ?_
     refine C_nil ?_
     exact ⟨_, by omega, _, cur.set i x, i + 1, j + 1, F2, rfl, (EqL.cons rfl (EqL.cons rfl (EqL.cons rfl (EqL.cons rfl (EqL.nil))))).eq, hI.no hx2 (by simpa using hb3), .sel (.cons .h (.rd (.t (.t (.t .h))) rfl (.rd (.t (.t (.t (.t .h)))) rfl (.rd (.t (.t (.t (.t (.t .h))))) rfl (.rd (.t (.t (.t (.t (.t (.t .h)))))) rfl .nil)))))⟩
   · refine CW_skip ?_
     refine CW_region ?_
     refine C_val (V_move (v := (.int .i64 (j : Int))) (.tmp rfl rfl)) ?_
     refine C_val (V_add (i := (j : Int)) (j := 1) (.tmp rfl rfl) (.int _ _)) ?_
     rw [show IntKind.i64.wrap ((j : Int) + 1) = ((j + 1 : Nat) : Int) from by rw [wrap_in (by omega) (by omega)]; rfl]
     refine C_val (V_assign (v := (.int .i64 ((j + 1 : Nat) : Int))) (.tmp rfl rfl)) ?_
     refine C_nil ?_
     exact ⟨_, by omega, _, cur, i, j + 1, F', rfl, (EqL.cons rfl (EqL.cons rfl (EqL.cons rfl (EqL.cons rfl (EqL.nil))))).eq, hI.yes hx2 (by simpa using hb3), .sel (.cons (.t (.t (.t .h))) (.rd (.t (.t (.t .h))) rfl (.rd (.t (.t (.t (.t .h)))) rfl (.rd (.t (.t (.t (.t (.t .h))))) rfl (.rd (.t (.t (.t (.t (.t (.t .h)))))) rfl .nil)))))⟩
 · refine CW_exit ?_
   refine CThen_exit ?_
   refine CThen_exit ?_
   refine CIn_self ?_
   have hj : qs.length ≤ j := by simp at hb2; omega
   refine K_pure .h (own_form (by intro e; rw [e] at hlen; simp at hlen; omega)) (fun hv => ?_)
   obtain ⟨k0, m0, rfl, hm0⟩ := hv
   refine K_region ?_
   refine C_val (V_move (v := (.slice (some ⟨k0, 0, none⟩) cur.length m0)) (.tmp rfl rfl)) ?_
   refine C_val (V_move (v := (.int .i64 (i : Int))) (.tmp rfl rfl)) ?_
   refine C_sliceLo sl37.h ty39.h.sz (.tmp rfl rfl) (.tmp rfl rfl) .h (by omega) (by omega) ?_
   refine C_x1 (.cons .h .nil) (X_clear (l := cur.length) (m := m0) (k := k0) (i := i) (j := cur.length - i) sl37.h ty39.h rfl rfl rfl rfl rfl (by omega) (.tmp rfl rfl)) (fun _ => ?_)
   refine C_nil ?_
   refine K_region ?_
   refine C_val (V_move (v := (.slice (some ⟨k0, 0, none⟩) cur.length m0)) (.tmp rfl rfl)) ?_
   refine C_val (V_move (v := (.int .i64 (i : Int))) (.tmp rfl rfl)) ?_
   refine C_sliceHi sl37.h ty39.h.sz (.tmp rfl rfl) hm0 (.tmp rfl rfl) .h rfl (by omega) (by omega) (by omega) ?_
   refine C_val (V_assign (v := (.slice (some ⟨k0, 0, none⟩) i 2)) (.tmp rfl rfl)) ?_
   refine C_nil ?_
   refine CW_ret ?_
   rw [← hI.fin hj]
   exact End_ret (⟨some ⟨k0, 0, none⟩, i, 2⟩, F') (.tmp rfl rfl .nil) rfl (.sel (.cons .h .nil))
theorem g_slices_DeleteFunc_impl_Fact_impl_Fact_imatches1_ok (a_s : List Fact) (v0_0 : Sv) (F0_0 : List Nat) (kc1 : Nat) (a_e1 : Method) (vc1_1 : Sv) (kc2 : Nat) (a_e2 : Access) (vc2_1 : Sv) (R : List Fact) (hF : g_slices_DeleteFunc_impl_Fact_impl_Fact_imatches1 a_s a_e1 a_e2 = some R) :
   Fw.Spec Tryz.prog 63 [v0_0.v, (.func (.func 65) [].toArray [(.pointer (some ⟨kc1, 0, some 0⟩)), (.pointer (some ⟨kc2, 0, some 0⟩))].toArray)] [cown (OwnS 39 ow39) F0_0 v0_0.v a_s, cboR kc1 65 (.agg [(.int .i64 a_e1.Rel), vc1_1.v, (.int .i64 a_e1.Limit), (.int .i64 a_e1.Cost), (.int .i64 a_e1.Quota)].toArray), crd (RdS 3 rdInt) vc1_1.v a_e1.Inputs, cboR kc2 31 (.agg [(.int .i64 a_e2.Method), vc2_1.v].toArray), crd (RdS 3 rdInt) vc2_1.v a_e2.Values] (fun p : Sv × List Nat => p.1.v) (fun p => [cown (OwnS 39 ow39) p.2 p.1.v R]) := by
 unfold g_slices_DeleteFunc_impl_Fact_impl_Fact_imatches1 at hF
 obtain ⟨h1, h2⟩ := delL_some hF
 refine Spec_pure cown_bound (fun hb => ?_)
 refine Spec_deep (R := rd39) rfl (fun es F1 hel => ⟨(es.zip a_s).filter (fun a => !(i_matches_1 a.2 a_e1 a_e2).getD false), List.filter_sublist, by rw [h2]; exact zip_filter (fun a => (i_matches_1 a a_e1 a_e2).getD false) es a_s hel, ?_⟩)
 refine g_slices_DeleteFunc_impl_Fact_impl_Fact_imatches1_sh (es.zip a_s) v0_0 F1 kc1 a_e1 vc1_1 kc2 a_e2 vc2_1 (fun a => (i_matches_1 a.2 a_e1 a_e2).getD false) (fun q hq => h1 q.2 (List.of_mem_zip hq).2) ?_ (by simp; omega)
 rw [List.map_snd_zip (Nat.le_of_eq hel.symm), ← ixF_map Prod.snd (fun a => (i_matches_1 a a_e1 a_e2).getD false), List.map_snd_zip (Nat.le_of_eq hel.symm)]
 exact index_loop (L := g_slices_IndexFunc_impl_Fact_impl_Fact_imatches1_L1 a_e1 a_e2) (fun _ => rfl) (fun _ _ _ => rfl) a_s 0 h1
def i_matches (a_l : List Method) (a_facts : List Fact) (a_a : Access) : Option ((List Fact)) :=
 (ix a_l a_a.Method).bind fun x2 =>
 (i_copyFacts a_facts).bind fun r13 =>
 (g_slices_DeleteFunc_impl_Fact_impl_Fact_imatches1 r13 x2 a_a).bind fun r16 =>
 some r16
theorem i_matches_ok (a_l : List Method) (v0_0 : Sv) (a_facts : List Fact) (v1_0 : Sv) (a_a : Access) (v2_1 : Sv) (R : (List Fact)) (hF : i_matches a_l a_facts a_a = some R) :
   Fw.Spec Tryz.prog 40 [v0_0.v, v1_0.v, (.agg [(.int .i64 a_a.Method), v2_1.v].toArray)] [crd (RdS 65 rd65) v0_0.v a_l, crd (RdS 39 rd39) v1_0.v a_facts, crd (RdS 3 rdInt) v2_1.v a_a.Values] (fun p : Sv × List Nat => p.1.v) (fun p => [cown (OwnS 39 ow39) p.2 p.1.v R]) := by
 refine Se 17 Tryz.func40 [.tmp 6] ?_
 intro H0 F0
 unfold i_matches at hF
 refine au ?_
 refine AbR (fun k1 => ?_)
 iterate 6 refine au ?_
 refine bnd hF fun x2 hx3 hF => ?_
 obtain ⟨hp4, hx5⟩ := ix_some hx3
 refine Ai hx5 (fun k6 j7 => ?_)
 refine AlA1 (ul65_0_65 x2) la65_0_65 (fun p8 => ?_)
 refine AnW (fun k9 => ?_)
 refine As (.agg [(.int .i64 x2.Rel), p8.v, (.int .i64 x2.Limit), (.int .i64 x2.Cost), (.int .i64 x2.Quota)].toArray) ?_
 refine au ?_
 refine K_frz .h frz_blk ?_
 iterate 2 refine au ?_
 refine bnd hF fun r13 hx14 hF => Cx1 (i_copyFacts_ok _ _ _ hx14) (fun p15 => ?_)
 refine C_val (V_makeFunc (fn := .func 65) (vs := []) (us := [(pz k9), (pz k1)]) .nil (.cons (.tmp rfl rfl) (.cons (.tmp rfl rfl) .nil))) ?_
 refine bnd hF fun r16 hx17 hF => Cx1 (g_slices_DeleteFunc_impl_Fact_impl_Fact_imatches1_ok _ _ _ _ _ _ _ _ _ _ hx17) (fun p18 => ?_)
 iterate 3 refine au ?_
 cases hF
 exact Er (p18.1, p18.2)
def i_HasFact_1 (a_x : Fact) (a_e1 : Fact) : Option (Bool) :=
 (i_CompareFacts a_x a_e1).bind fun r2 =>
 some ((r2 : Int) == 0)
theorem i_HasFact_1_ok (a_x : Fact) (v0_1 : Sv) (kc1 : Nat) (a_e1 : Fact) (vc1_1 : Sv) (R : Bool) (hF : i_HasFact_1 a_x a_e1 = some R) :
   Fw.Spec Tryz.prog 62 [(.agg [(.int .i64 a_x.Rel), v0_1.v].toArray), (pz kc1)] [crd (RdS 3 rdInt) v0_1.v a_x.Values, cboR kc1 39 (.agg [(.int .i64 a_e1.Rel), vc1_1.v].toArray), crd (RdS 3 rdInt) vc1_1.v a_e1.Values] (fun _ : Unit => (.bool R)) (fun _ => []) := by
 refine Se 8 Tryz.func62 [.tmp 3] ?_
 intro H0 F0
 unfold i_HasFact_1 at hF
 refine au ?_
 refine AbR (fun k1 => ?_)
 iterate 5 refine au ?_
 refine bnd hF fun r2 hx3 hF => Cx0 (i_CompareFacts_ok _ _ _ _ _ hx3) (fun _ => ?_)
 iterate 4 refine au ?_
 cases hF
 exact Er ()
def g_slices_IndexFunc_impl_Fact_impl_Fact_iHasFact1_L1 (a_e1 : Fact) : List Fact → Nat → Option (Int)
 | [], k4 => some (-1)
 | x6 :: rest5, k4 => (i_HasFact_1 x6 a_e1).bind fun r16 =>
   if r16 then (
     some (k4 : Int))
   else (
     g_slices_IndexFunc_impl_Fact_impl_Fact_iHasFact1_L1 a_e1 rest5 (k4 + 1))
def g_slices_IndexFunc_impl_Fact_impl_Fact_iHasFact1 (a_s : List Fact) (a_e1 : Fact) : Option (Int) :=
 g_slices_IndexFunc_impl_Fact_impl_Fact_iHasFact1_L1 a_e1 a_s 0
theorem g_slices_IndexFunc_impl_Fact_impl_Fact_iHasFact1_ok (a_s : List Fact) (v0_0 : Sv) (kc1 : Nat) (a_e1 : Fact) (vc1_1 : Sv) (R : Int) (hF : g_slices_IndexFunc_impl_Fact_impl_Fact_iHasFact1 a_s a_e1 = some R) :
   Fw.Spec Tryz.prog 90 [v0_0.v, (.func (.func 62) [].toArray [(pz kc1)].toArray)] [crd (RdS 39 rd39) v0_0.v a_s, cboR kc1 39 (.agg [(.int .i64 a_e1.Rel), vc1_1.v].toArray), crd (RdS 3 rdInt) vc1_1.v a_e1.Values] (fun _ : Unit => (.int .i64 R)) (fun _ => []) := by
 refine Se 19 Tryz.func90 [.tmp 4] ?_
 intro H0 F0
 unfold g_slices_IndexFunc_impl_Fact_impl_Fact_iHasFact1 at hF
 iterate 9 refine au ?_
 refine CW_block (CW_loop (m := a_s.length) (fun m2 f' cs' => ∃ (g : Fr) (k4 : Nat) (rest5 : List Fact), m2 = rest5.length ∧ f' = updL g [(0, v0_0.v), (1, (.func (.func 62) [].toArray [(pz kc1)].toArray)), (7, (.int .i64 (a_s.length : Int))), (8, (.int .i64 (k4 : Int)))] ∧ List.drop k4 a_s = rest5 ∧ Ent cs' [crd (RdS 39 rd39) v0_0.v a_s, cboR kc1 39 (.agg [(.int .i64 a_e1.Rel), vc1_1.v].toArray), crd (RdS 3 rdInt) vc1_1.v a_e1.Values] ∧ g_slices_IndexFunc_impl_Fact_impl_Fact_iHasFact1_L1 a_e1 rest5 k4 = some R) ⟨_, 0, _, rfl, eqA, rfl, entA, hF⟩ ?_)
 rintro m2 _ _ ⟨g3, k4, rest5, rfl, rfl, hd7, hE, hF⟩
 refine Kb hE a_s (fun hbd12 => ?_)
 rcases rest5 with _ | ⟨x6, rest5⟩
 · have hk8 := dn hd7
   rw [g_slices_IndexFunc_impl_Fact_impl_Fact_iHasFact1_L1] at hF
   iterate 4 refine au ?_
   refine CdF ?_
   iterate 8 refine au ?_
   cases hF
   exact Er ()
 obtain ⟨hk8, hx9, hd10⟩ := drop_cons hd7
 rw [g_slices_IndexFunc_impl_Fact_impl_Fact_iHasFact1_L1] at hF
 iterate 4 refine au ?_
 refine CdT ?_
 iterate 10 refine au ?_
 refine Ai hx9 (fun k13 j14 => ?_)
 refine AlA1 (ul39_0_39 x6) la39_0_39 (fun p15 => ?_)
 refine bnd hF fun r16 hx17 hF => C_x0 (.rd .h rfl (.rd (.t (.t (.t .h))) rfl (.rd (.t (.t (.t (.t .h)))) rfl .nil))) (X_callCS cf62.h (.tmp rfl rfl) (.cons (.tmp rfl rfl) .nil) (i_HasFact_1_ok x6 p15 kc1 a_e1 vc1_1 _ hx17)) (fun _ => ?_)
 refine au ?_
 refine Ci hF (fun hb20 hF => ?_) (fun hb20 hF => ?_)
 · iterate 5 refine au ?_
   cases hF
   exact Er ()
 iterate 5 refine au ?_
 rw [wk k4]
 exact ⟨_, Nat.lt_succ_self _, _, k4 + 1, rest5, rfl, eqA, hd10, entA, hF⟩
def g_slices_ContainsFunc_impl_Fact_impl_Fact_iHasFact1 (a_s : List Fact) (a_e1 : Fact) : Option (Bool) :=
 (g_slices_IndexFunc_impl_Fact_impl_Fact_iHasFact1 a_s a_e1).bind fun r1 =>
 some (decide ((0 : Int) ≤ r1))
theorem g_slices_ContainsFunc_impl_Fact_impl_Fact_iHasFact1_ok (a_s : List Fact) (v0_0 : Sv) (kc1 : Nat) (a_e1 : Fact) (vc1_1 : Sv) (R : Bool) (hF : g_slices_ContainsFunc_impl_Fact_impl_Fact_iHasFact1 a_s a_e1 = some R) :
   Fw.Spec Tryz.prog 61 [v0_0.v, (.func (.func 62) [].toArray [(pz kc1)].toArray)] [crd (RdS 39 rd39) v0_0.v a_s, cboR kc1 39 (.agg [(.int .i64 a_e1.Rel), vc1_1.v].toArray), crd (RdS 3 rdInt) vc1_1.v a_e1.Values] (fun _ : Unit => (.bool R)) (fun _ => []) := by
 refine Se 9 Tryz.func61 [.tmp 4] ?_
 intro H0 F0
 unfold g_slices_ContainsFunc_impl_Fact_impl_Fact_iHasFact1 at hF
 iterate 6 refine au ?_
 refine bnd hF fun r1 hx2 hF => Cx0 (g_slices_IndexFunc_impl_Fact_impl_Fact_iHasFact1_ok _ _ _ _ _ _ hx2) (fun _ => ?_)
 iterate 4 refine au ?_
 cases hF
 exact Er ()
def i_HasFact (a_l : List Fact) (a_f : Fact) : Option (Bool) :=
 (g_slices_ContainsFunc_impl_Fact_impl_Fact_iHasFact1 a_l a_f).bind fun r2 =>
 some r2
theorem i_HasFact_ok (a_l : List Fact) (v0_0 : Sv) (a_f : Fact) (v1_1 : Sv) (R : Bool) (hF : i_HasFact a_l a_f = some R) :
   Fw.Spec Tryz.prog 39 [v0_0.v, (.agg [(.int .i64 a_f.Rel), v1_1.v].toArray)] [crd (RdS 39 rd39) v0_0.v a_l, crd (RdS 3 rdInt) v1_1.v a_f.Values] (fun _ : Unit => (.bool R)) (fun _ => []) := by
 refine Se 8 Tryz.func39 [.tmp 4] ?_
 intro H0 F0
 unfold i_HasFact at hF
 refine au ?_
 refine AbR (fun k1 => ?_)
 iterate 4 refine au ?_
 refine C_val (V_makeFunc (fn := .func 62) (vs := []) (us := [(pz k1)]) .nil (.cons (.tmp rfl rfl) .nil)) ?_
 refine bnd hF fun r2 hx3 hF => Cx0 (g_slices_ContainsFunc_impl_Fact_impl_Fact_iHasFact1_ok _ _ _ _ _ _ hx3) (fun _ => ?_)
 iterate 3 refine au ?_
 cases hF
 exact Er ()
def i_added_1 (a_x : Fact) (a_e1 : Fact) : Option (Bool) :=
 (i_CompareFacts a_x a_e1).bind fun r2 =>
 some (decide ((0 : Int) < r2))
theorem i_added_1_ok (a_x : Fact) (v0_1 : Sv) (kc1 : Nat) (a_e1 : Fact) (vc1_1 : Sv) (R : Bool) (hF : i_added_1 a_x a_e1 = some R) :
   Fw.Spec Tryz.prog 110 [(.agg [(.int .i64 a_x.Rel), v0_1.v].toArray), (pz kc1)] [crd (RdS 3 rdInt) v0_1.v a_x.Values, cboR kc1 39 (.agg [(.int .i64 a_e1.Rel), vc1_1.v].toArray), crd (RdS 3 rdInt) vc1_1.v a_e1.Values] (fun _ : Unit => (.bool R)) (fun _ => []) := by
 refine Se 8 Tryz.func110 [.tmp 3] ?_
 intro H0 F0
 unfold i_added_1 at hF
 refine au ?_
 refine AbR (fun k1 => ?_)
 iterate 5 refine au ?_
 refine bnd hF fun r2 hx3 hF => Cx0 (i_CompareFacts_ok _ _ _ _ _ hx3) (fun _ => ?_)
 iterate 4 refine au ?_
 cases hF
 exact Er ()
def g_slices_IndexFunc_impl_Fact_impl_Fact_iadded1_L1 (a_e1 : Fact) : List Fact → Nat → Option (Int)
 | [], k4 => some (-1)
 | x6 :: rest5, k4 => (i_added_1 x6 a_e1).bind fun r16 =>
   if r16 then (
     some (k4 : Int))
   else (
     g_slices_IndexFunc_impl_Fact_impl_Fact_iadded1_L1 a_e1 rest5 (k4 + 1))
def g_slices_IndexFunc_impl_Fact_impl_Fact_iadded1 (a_s : List Fact) (a_e1 : Fact) : Option (Int) :=
 g_slices_IndexFunc_impl_Fact_impl_Fact_iadded1_L1 a_e1 a_s 0
theorem g_slices_IndexFunc_impl_Fact_impl_Fact_iadded1_ok (a_s : List Fact) (v0_0 : Sv) (kc1 : Nat) (a_e1 : Fact) (vc1_1 : Sv) (R : Int) (hF : g_slices_IndexFunc_impl_Fact_impl_Fact_iadded1 a_s a_e1 = some R) :
   Fw.Spec Tryz.prog 90 [v0_0.v, (.func (.func 110) [].toArray [(pz kc1)].toArray)] [crd (RdS 39 rd39) v0_0.v a_s, cboR kc1 39 (.agg [(.int .i64 a_e1.Rel), vc1_1.v].toArray), crd (RdS 3 rdInt) vc1_1.v a_e1.Values] (fun _ : Unit => (.int .i64 R)) (fun _ => []) := by
 refine Se 19 Tryz.func90 [.tmp 4] ?_
 intro H0 F0
 unfold g_slices_IndexFunc_impl_Fact_impl_Fact_iadded1 at hF
 iterate 9 refine au ?_
 refine CW_block (CW_loop (m := a_s.length) (fun m2 f' cs' => ∃ (g : Fr) (k4 : Nat) (rest5 : List Fact), m2 = rest5.length ∧ f' = updL g [(0, v0_0.v), (1, (.func (.func 110) [].toArray [(pz kc1)].toArray)), (7, (.int .i64 (a_s.length : Int))), (8, (.int .i64 (k4 : Int)))] ∧ List.drop k4 a_s = rest5 ∧ Ent cs' [crd (RdS 39 rd39) v0_0.v a_s, cboR kc1 39 (.agg [(.int .i64 a_e1.Rel), vc1_1.v].toArray), crd (RdS 3 rdInt) vc1_1.v a_e1.Values] ∧ g_slices_IndexFunc_impl_Fact_impl_Fact_iadded1_L1 a_e1 rest5 k4 = some R) ⟨_, 0, _, rfl, eqA, rfl, entA, hF⟩ ?_)
 rintro m2 _ _ ⟨g3, k4, rest5, rfl, rfl, hd7, hE, hF⟩
 refine Kb hE a_s (fun hbd12 => ?_)
 rcases rest5 with _ | ⟨x6, rest5⟩
 · have hk8 := dn hd7
   rw [g_slices_IndexFunc_impl_Fact_impl_Fact_iadded1_L1] at hF
   iterate 4 refine au ?_
   refine CdF ?_
   iterate 8 refine au ?_
   cases hF
   exact Er ()
 obtain ⟨hk8, hx9, hd10⟩ := drop_cons hd7
 rw [g_slices_IndexFunc_impl_Fact_impl_Fact_iadded1_L1] at hF
 iterate 4 refine au ?_
 refine CdT ?_
 iterate 10 refine au ?_
 refine Ai hx9 (fun k13 j14 => ?_)
 refine AlA1 (ul39_0_39 x6) la39_0_39 (fun p15 => ?_)
 refine bnd hF fun r16 hx17 hF => C_x0 (.rd .h rfl (.rd (.t (.t (.t .h))) rfl (.rd (.t (.t (.t (.t .h)))) rfl .nil))) (X_callCS cf110.h (.tmp rfl rfl) (.cons (.tmp rfl rfl) .nil) (i_added_1_ok x6 p15 kc1 a_e1 vc1_1 _ hx17)) (fun _ => ?_)
 refine au ?_
 refine Ci hF (fun hb20 hF => ?_) (fun hb20 hF => ?_)
 · iterate 5 refine au ?_
   cases hF
   exact Er ()
 iterate 5 refine au ?_
 rw [wk k4]
 exact ⟨_, Nat.lt_succ_self _, _, k4 + 1, rest5, rfl, eqA, hd10, entA, hF⟩
def g_slices_Insert_impl_Fact_impl_Fact (a_s : List Fact) (a_i : Int) (a_v : List Fact) : Option (List Fact) :=
 match a_v with
 | [a] => if 0 ≤ a_i ∧ a_i.toNat ≤ a_s.length ∧ a_s.length + 1 < 4294967296 then some (a_s.take a_i.toNat ++ a :: a_s.drop a_i.toNat) else none
 | _ => none
set_option maxHeartbeats 4000000 in
theorem g_slices_Insert_impl_Fact_impl_Fact_raw (es : List Value) (e : Value) (v u : Sv) (F F2 : List Nat) (i : Nat) (hi : i ≤ es.length) (hb : es.length + 1 < 4294967296) : Fw.Spec Tryz.prog 111 [v.v, .int .i64 (i : Int), u.v] [cown (OwnS 39 (roE (rvs 2))) F v.v es, cown (OwnS 39 (roE (rvs 2))) F2 u.v [e]] (fun q : Sv × List Nat => q.1.v) (fun q => [cown (OwnS 39 (roE (rvs 2))) q.2 q.1.v (es.take i ++ e :: es.drop i)]) := by
 refine Spec_enter (n := 95) Tryz.func111 rfl rfl (rs := [.tmp 6]) rfl rfl rfl ?_
 intro H0 F0
 refine K_region ?_
 refine C_val (V_assign (v := (.slice none 0 0)) EV.nilSlice) ?_
 refine C_nil ?_
 refine K_region ?_
 refine C_val (V_move (v := v.v) (.tmp rfl rfl)) ?_
 refine C_val (V_move (v := (.int .i64 (i : Int))) (.tmp rfl rfl)) ?_
 refine C_x1 (.cons .h .nil) (X_sliceLoE sl37.h ty39.h.sz (.tmp rfl rfl) (.tmp rfl rfl) hi) (fun w0 => ?_)
 refine C_nil ?_
 refine K_region ?_
 refine C_val (V_move (v := u.v) (.tmp rfl rfl)) ?_
 refine C_at (.t .h) (fun hp => V_lenR (l := 1) sl37.h (.tmp rfl rfl) (cown_len hp)) ?_
 refine C_val (V_assign (v := (.int .i64 ((1 : Nat) : Int))) (.tmp rfl rfl)) ?_
 refine C_nil ?_
 refine K_in ?_
 refine K_region ?_
 refine C_val (V_move (v := (.int .i64 ((1 : Nat) : Int))) (.tmp rfl rfl)) ?_
 refine C_val (V_eql (i := ((1 : Nat) : Int)) (j := 0) (.tmp rfl rfl) (.int _ _)) ?_
 refine C_nil ?_
 refine CW_cond (b := (((1 : Nat) : Int) == 0)) (.tmp rfl rfl) (fun hb0 => absurd hb0 (by decide)) (fun _ => ?_)
 refine CW_skip ?_
 refine K_region ?_
 refine C_val (V_move (v := v.v) (.tmp rfl rfl)) ?_
 refine C_at .h (fun hp => V_lenR (l := es.length) sl37.h (.tmp rfl rfl) (cown_len hp)) ?_
 refine C_val (V_assign (v := (.int .i64 (es.length : Int))) (.tmp rfl rfl)) ?_
 refine C_nil ?_
 refine K_in ?_
 refine K_region ?_
 refine C_val (V_move (v := (.int .i64 (i : Int))) (.tmp rfl rfl)) ?_
 refine C_val (V_move (v := (.int .i64 (es.length : Int))) (.tmp rfl rfl)) ?_
 refine C_val (V_eql (i := (i : Int)) (j := (es.length : Int)) (.tmp rfl rfl) (.tmp rfl rfl)) ?_
 refine C_nil ?_
 refine CW_cond (b := ((i : Int) == (es.length : Int))) (.tmp rfl rfl) (fun hb1 => ?_) (fun hb1 => ?_)
 · have hie : i = es.length := by simp only [beq_iff_eq] at hb1; omega
   refine K_region ?_
   refine C_val (V_move (v := v.v) (.tmp rfl rfl)) ?_
   refine C_val (V_move (v := u.v) (.tmp rfl rfl)) ?_
   refine C_x1 (.cons .h (.cons .h .nil)) (X_appendO (Ro := (roE (rvs 2))) sl37.h ni37 ty39.h rfl rfl rfl (.tmp rfl rfl) (.tmp rfl rfl) (app_ok (xs := es) (ys := [e]) (by simpa using hb)) src_own) (fun p => ?_)
   refine C_val (V_assign (v := p.1.v) (.tmp rfl rfl)) ?_
   refine C_nil ?_
   refine CW_ret ?_
   rw [hie, List.take_length, List.drop_length]
   exact End_ret p (.tmp rfl rfl .nil) rfl (.sel (.cons .h .nil))
 refine CW_skip ?_
 have hlt : i < es.length := by simp at hb1; omega
 refine K_pure .h (own_form (by intro h; rw [h] at hlt; simp at hlt)) (fun hv => ?_)
 obtain ⟨k0, m0, rfl, hm0⟩ := hv
 refine K_pure (.t .h) (own_form (by simp)) (fun hu => ?_)
 obtain ⟨k1, m1, rfl, hm1⟩ := hu
 refine K_cap (t := 0) (k := k0) (l := es.length) (m := m0) rfl rfl hm0 (by omega) .h rfl (fun c hc => ?_)
 have w1 : IntKind.i64.wrap ((es.length : Int) + ((1 : Nat) : Int)) = ((es.length + 1 : Nat) : Int) := by rw [wrap_in (by omega) (by omega)]; rfl
 have w2 : IntKind.i64.wrap ((i : Int) + ((1 : Nat) : Int)) = ((i + 1 : Nat) : Int) := by rw [wrap_in (by omega) (by omega)]; rfl
 have w3 : IntKind.i64.wrap (((es.length + 1 : Nat) : Int) - (i : Int)) = ((es.length + 1 - i : Nat) : Int) := by rw [wrap_in (by omega) (by omega)]; omega
 have hel : (es.take i ++ e :: es.drop i).length = es.length + 1 := ins_len hi
 refine K_in ?_
 refine K_region ?_
 refine C_val (V_move (v := (.int .i64 (es.length : Int))) (.tmp rfl rfl)) ?_
 refine C_val (V_move (v := (.int .i64 ((1 : Nat) : Int))) (.tmp rfl rfl)) ?_
 refine C_val (V_add (i := (es.length : Int)) (j := ((1 : Nat) : Int)) (.tmp rfl rfl) (.tmp rfl rfl)) ?_
 rw [w1]
 refine C_val (V_move (v := (.slice (some ⟨k0, 0, none⟩) es.length (c + 3))) (.tmp rfl rfl)) ?_
 refine C_at .h (fun hp => V_capO sl37.h hp rfl (.tmp rfl rfl)) ?_
 refine C_val (V_gtr (i := ((es.length + 1 : Nat) : Int)) (j := (c : Int)) (.tmp rfl rfl) (.tmp rfl rfl)) ?_
 refine C_nil ?_
 refine CW_cond (b := (decide ((c : Int) < ((es.length + 1 : Nat) : Int)))) (.tmp rfl rfl) (fun hb2 => ?_) (fun hb2 => ?_)
 · have hcl : c < es.length + 1 := by simp only [decide_eq_true_eq] at hb2; omega
   refine K_region ?_
   refine C_val (V_move (v := (.slice (some ⟨k0, 0, none⟩) es.length (c + 3))) (.tmp rfl rfl)) ?_
   refine C_val (V_move (v := (.int .i64 (i : Int))) (.tmp rfl rfl)) ?_
   refine C_at .h (fun hp => V_sliceCapO (j := i) sl37.h ty39.h.sz hp rfl (.tmp rfl rfl) (.tmp rfl rfl) (by omega)) ?_
   refine C_val (V_move (v := (.int .i64 (es.length : Int))) (.tmp rfl rfl)) ?_
   refine C_val (V_move (v := (.int .i64 ((1 : Nat) : Int))) (.tmp rfl rfl)) ?_
   refine C_val (V_add (i := (es.length : Int)) (j := ((1 : Nat) : Int)) (.tmp rfl rfl) (.tmp rfl rfl)) ?_
   rw [w1]
   refine C_val (V_move (v := (.int .i64 (i : Int))) (.tmp rfl rfl)) ?_
   refine C_val (V_sub (i := ((es.length + 1 : Nat) : Int)) (j := (i : Int)) (.tmp rfl rfl) (.tmp rfl rfl)) ?_
   rw [w3]
   refine C_x2 (.cons .h .nil) (X_appendMake (c := c) (q := es.length + 1 - i) sl37.h ik3 ty39.h rfl rfl rfl rfl rfl rfl (.tmp rfl rfl) (.tmp rfl rfl) (by omega) (by omega) (by omega) (by omega)) (fun k2 => ?_)
   rw [show i + (es.length + 1 - i) = es.length + 1 from by omega]
   refine C_val (V_assign (v := (.slice (some ⟨k2, 0, none⟩) (es.length + 1) 2)) (.tmp rfl rfl)) ?_
   refine C_nil ?_
   refine K_region ?_
   refine C_val (V_move (v := (.slice (some ⟨k2, 0, none⟩) (es.length + 1) 2)) (.tmp rfl rfl)) ?_
   refine C_val (V_move (v := (.int .i64 (i : Int))) (.tmp rfl rfl)) ?_
   refine C_at .h (fun hp => V_sliceLoO (j := i) sl37.h ty39.h.sz hp rfl (.tmp rfl rfl) (.tmp rfl rfl) (by omega)) ?_
   refine C_val (V_move (v := (.slice (some ⟨k1, 0, none⟩) 1 m1)) (.tmp rfl rfl)) ?_
   refine C_x2 (.cons .h (.cons (.t .h) .nil)) (X_copy2 (m1 := 0) (m2 := m1) (ia := i) (ja := 0) (ld := es.length + 1 - i) (ls := 1) (es2 := [e]) (es' := es.take i ++ e :: List.replicate (es.length - i) (.agg [(.int .i64 0), (.slice none 0 0)].toArray)) sl37.h ty39.h.sz rfl rfl rfl (by exact .tmp rfl rfl) (by exact .tmp rfl rfl) (by omega) (by omega) (by rw [List.length_singleton]; omega) (by simp; omega) (ins_l1 (e := e) (z := (.agg [(.int .i64 0), (.slice none 0 0)].toArray)) hlt) (by simp; omega)) (fun _ => ?_)
   refine C_nil ?_
   refine K_draw [0, 1, 2, 3, 4, 5, 6, 7, 8] [0, 0, 0, 6, 15, 0, 0, 96, 255] [8] mixed (by decide +kernel) ?_
   refine D_val rfl .no (fun ha => V_move (v := (.slice (some ⟨k2, 0, none⟩) (es.length + 1) 2)) (EN ha (.tmp rfl rfl) rfl)) ?_
   refine D_val rfl .no (fun ha => V_move (v := (.int .i64 (i : Int))) (EN ha (.tmp rfl rfl) rfl)) ?_
   refine D_val rfl .no (fun ha => V_move (v := (.int .i64 ((1 : Nat) : Int))) (EN ha (.tmp rfl rfl) rfl)) ?_
   refine D_val rfl .no (fun ha => V_add (i := (i : Int)) (j := ((1 : Nat) : Int)) (EN ha (.tmp rfl rfl) rfl) (EN ha (.tmp rfl rfl) rfl)) ?_
   rw [w2]
   refine D_atO rfl .no .h (fun ha hp => V_sliceLoO (j := i + 1) sl37.h ty39.h.sz hp rfl (EN ha (.tmp rfl rfl) rfl) (EN ha (.tmp rfl rfl) rfl) (by omega)) ?_
   refine D_val rfl .no (fun ha => V_move (v := (.slice (some ⟨k0, 0, none⟩) es.length (c + 3))) (EN ha (.tmp rfl rfl) rfl)) ?_
   refine D_val rfl .no (fun ha => V_move (v := (.int .i64 (i : Int))) (EN ha (.tmp rfl rfl) rfl)) ?_
   refine D_atO rfl .no (.t (.t .h)) (fun ha hp => V_sliceLoO (j := i) sl37.h ty39.h.sz hp rfl (EN ha (.tmp rfl rfl) rfl) (EN ha (.tmp rfl rfl) rfl) (by omega)) ?_
   refine D_act2 rfl rfl .no (.cons .h (.cons (.t .h) .nil)) (.dep rfl (.dep rfl .nil)) (fun ha => X_copy2 sl37.h ty39.h.sz rfl rfl rfl (EN ha (.tmp rfl rfl) rfl) (EN ha (.tmp rfl rfl) rfl) (by omega) (by omega) (by omega) (by simp; omega) (ins_l2 (e := e) (z := (.agg [(.int .i64 0), (.slice none 0 0)].toArray)) hlt) (by omega)) (fun _ => ?_)
   refine D_nil ?_
   refine K_region ?_
   refine C_val (V_move (v := (.slice (some ⟨k2, 0, none⟩) (es.length + 1) 2)) (.tmp rfl rfl)) ?_
   refine C_val (V_assign (v := (.slice (some ⟨k2, 0, none⟩) (es.length + 1) 2)) (.tmp rfl rfl)) ?_
   refine C_nil ?_
   refine CW_ret ?_
   rw [hel]
   exact End_ret (⟨some ⟨k2, 0, none⟩, es.length + 1, 2⟩, [k2]) (.tmp rfl rfl .nil) rfl (.sel (.cons .h .nil))
 refine CW_skip ?_
 have hcl : es.length + 1 ≤ c := by simp only [decide_eq_false_iff_not] at hb2; omega
 refine K_region ?_
 refine C_val (V_move (v := (.slice (some ⟨k0, 0, none⟩) es.length (c + 3))) (.tmp rfl rfl)) ?_
 refine C_val (V_move (v := (.int .i64 (es.length : Int))) (.tmp rfl rfl)) ?_
 refine C_val (V_move (v := (.int .i64 ((1 : Nat) : Int))) (.tmp rfl rfl)) ?_
 refine C_val (V_add (i := (es.length : Int)) (j := ((1 : Nat) : Int)) (.tmp rfl rfl) (.tmp rfl rfl)) ?_
 rw [w1]
 refine C_at .h (fun hp => V_sliceCapO (j := es.length + 1) sl37.h ty39.h.sz hp rfl (.tmp rfl rfl) (.tmp rfl rfl) hcl) ?_
 refine C_val (V_assign (v := (.slice (some ⟨k0, 0, none⟩) (es.length + 1) (c + 3))) (.tmp rfl rfl)) ?_
 refine C_nil ?_
 refine K_in ?_
 refine K_region ?_
 refine C_val (V_move (v := (.slice (some ⟨k1, 0, none⟩) 1 m1)) (.tmp rfl rfl)) ?_
 refine C_val (V_move (v := (.slice (some ⟨k0, 0, none⟩) (es.length + 1) (c + 3))) (.tmp rfl rfl)) ?_
 refine C_val (V_move (v := (.int .i64 (i : Int))) (.tmp rfl rfl)) ?_
 refine C_val (V_move (v := (.int .i64 ((1 : Nat) : Int))) (.tmp rfl rfl)) ?_
 refine C_val (V_add (i := (i : Int)) (j := ((1 : Nat) : Int)) (.tmp rfl rfl) (.tmp rfl rfl)) ?_
 rw [w2]
 refine C_at .h (fun hp => V_sliceLoO (j := i + 1) sl37.h ty39.h.sz hp rfl (.tmp rfl rfl) (.tmp rfl rfl) (by omega)) ?_
 refine C_x2 (.cons (.t .h) (.cons .h .nil)) (X_overlaps sl37.h ty39.h.sz rfl hov121 rfl rfl (.tmp rfl rfl) (.tmp rfl rfl) (by omega) (by omega)) (fun _ => ?_)
 refine C_val (V_not (b := false) (.tmp rfl rfl)) ?_
 refine C_nil ?_
 refine CW_cond (b := (!false)) (.tmp rfl rfl) (fun _ => ?_) (fun h => absurd h (by decide))
 refine K_draw [0, 1, 2, 3, 4, 5, 6, 7, 8] [0, 0, 0, 6, 15, 0, 0, 96, 255] [8] mixed (by decide +kernel) ?_
 refine D_val rfl .no (fun ha => V_move (v := (.slice (some ⟨k0, 0, none⟩) (es.length + 1) (c + 3))) (EN ha (.tmp rfl rfl) rfl)) ?_
 refine D_val rfl .no (fun ha => V_move (v := (.int .i64 (i : Int))) (EN ha (.tmp rfl rfl) rfl)) ?_
 refine D_val rfl .no (fun ha => V_move (v := (.int .i64 ((1 : Nat) : Int))) (EN ha (.tmp rfl rfl) rfl)) ?_
 refine D_val rfl .no (fun ha => V_add (i := (i : Int)) (j := ((1 : Nat) : Int)) (EN ha (.tmp rfl rfl) rfl) (EN ha (.tmp rfl rfl) rfl)) ?_
 rw [w2]
 refine D_atO rfl .no (.t .h) (fun ha hp => V_sliceLoO (j := i + 1) sl37.h ty39.h.sz hp rfl (EN ha (.tmp rfl rfl) rfl) (EN ha (.tmp rfl rfl) rfl) (by omega)) ?_
 refine D_val rfl .no (fun ha => V_move (v := (.slice (some ⟨k0, 0, none⟩) (es.length + 1) (c + 3))) (EN ha (.tmp rfl rfl) rfl)) ?_
 refine D_val rfl .no (fun ha => V_move (v := (.int .i64 (i : Int))) (EN ha (.tmp rfl rfl) rfl)) ?_
 refine D_atO rfl .no (.t .h) (fun ha hp => V_sliceLoO (j := i) sl37.h ty39.h.sz hp rfl (EN ha (.tmp rfl rfl) rfl) (EN ha (.tmp rfl rfl) rfl) (by omega)) ?_
 refine D_act1 rfl rfl .no (.cons (.t .h) .nil) (.dep rfl (.dep rfl .nil)) (fun ha => X_copyS sl37.h ty39.h.sz rfl rfl (EN ha (.tmp rfl rfl) rfl) (EN ha (.tmp rfl rfl) rfl) (by omega) (by omega) (by omega) (by omega) (ins_l3 hlt) (by simp; omega)) (fun _ => ?_)
 refine D_nil ?_
 refine K_region ?_
 refine C_val (V_move (v := (.slice (some ⟨k0, 0, none⟩) (es.length + 1) (c + 3))) (.tmp rfl rfl)) ?_
 refine C_val (V_move (v := (.int .i64 (i : Int))) (.tmp rfl rfl)) ?_
 refine C_at .h (fun hp => V_sliceLoO (j := i) sl37.h ty39.h.sz hp rfl (.tmp rfl rfl) (.tmp rfl rfl) (by omega)) ?_
 refine C_val (V_move (v := (.slice (some ⟨k1, 0, none⟩) 1 m1)) (.tmp rfl rfl)) ?_
 refine C_x2 (.cons .h (.cons .h .nil)) (X_copy2 (m1 := 0) (m2 := m1) (ia := i) (ja := 0) (ld := es.length + 1 - i) (ls := 1) (es2 := [e]) (es' := es.take i ++ e :: es.drop i) sl37.h ty39.h.sz rfl rfl rfl (by exact .tmp rfl rfl) (by exact .tmp rfl rfl) (by omega) (by omega) (by rw [List.length_singleton]; omega) (by simp; omega) (ins_l4 (e := e) hlt) (by omega)) (fun _ => ?_)
 refine C_nil ?_
 refine K_region ?_
 refine C_val (V_move (v := (.slice (some ⟨k0, 0, none⟩) (es.length + 1) (c + 3))) (.tmp rfl rfl)) ?_
 refine C_val (V_assign (v := (.slice (some ⟨k0, 0, none⟩) (es.length + 1) (c + 3))) (.tmp rfl rfl)) ?_
 refine C_nil ?_
 refine K_uncap (t := 6) (k := k0) (l := es.length + 1) (c := c) rfl rfl ?_
 refine CW_ret ?_
 rw [hel]
 exact End_ret (⟨some ⟨k0, 0, none⟩, es.length + 1, 2⟩, F) (.tmp rfl rfl .nil) rfl (.sel (.cons .h .nil))
theorem g_slices_Insert_impl_Fact_impl_Fact_ok (a_s : List Fact) (v0_0 : Sv) (F0_0 : List Nat) (a_i : Int) (a_v : List Fact) (v2_0 : Sv) (F2_0 : List Nat) (R : List Fact) (hF : g_slices_Insert_impl_Fact_impl_Fact a_s a_i a_v = some R) :
   Fw.Spec Tryz.prog 111 [v0_0.v, .int .i64 a_i, v2_0.v] [cown (OwnS 39 ow39) F0_0 v0_0.v a_s, cown (OwnS 39 ow39) F2_0 v2_0.v a_v] (fun p : Sv × List Nat => p.1.v) (fun p => [cown (OwnS 39 ow39) p.2 p.1.v R]) := by
 unfold g_slices_Insert_impl_Fact_impl_Fact at hF
 rcases a_v with _ | ⟨a, _ | ⟨_, _⟩⟩
 · simp at hF
 · dsimp only at hF
   split at hF
   · rename_i h
     obtain ⟨h0, h1, h2⟩ := h
     obtain ⟨i, rfl⟩ : ∃ i : Nat, a_i = (i : Int) := ⟨a_i.toNat, by omega⟩
     cases hF
     rw [Int.toNat_natCast] at h1 ⊢
     exact Spec_insD (s := 2) fun es e Fa Fb hl => g_slices_Insert_impl_Fact_impl_Fact_raw es e v0_0 v2_0 Fa Fb i (by omega) (by omega)
   · simp at hF
 · simp at hF
def i_added (a_l : List Fact) (a_f : Fact) : Option ((List Fact)) :=
 (i_HasFact a_l a_f).bind fun r2 =>
 if r2 then (
   some a_l)
 else (
   (g_slices_IndexFunc_impl_Fact_impl_Fact_iadded1 a_l a_f).bind fun r5 =>
   if (decide ((r5 : Int) < 0)) then (
     (i_copyFact a_f).bind fun r8 =>
     (g_slices_Insert_impl_Fact_impl_Fact a_l (a_l.length : Int) ([r8] : List Fact)).bind fun r12 =>
     some r12)
   else (
     (i_copyFact a_f).bind fun r15 =>
     (g_slices_Insert_impl_Fact_impl_Fact a_l r5 ([r15] : List Fact)).bind fun r19 =>
     some r19))
theorem i_added_ok (a_l : List Fact) (v0_0 : Sv) (F0_0 : List Nat) (a_f : Fact) (v1_1 : Sv) (R : (List Fact)) (hF : i_added a_l a_f = some R) :
   Fw.Spec Tryz.prog 88 [v0_0.v, (.agg [(.int .i64 a_f.Rel), v1_1.v].toArray)] [cown (OwnS 39 ow39) F0_0 v0_0.v a_l, crd (RdS 3 rdInt) v1_1.v a_f.Values] (fun p : Sv × List Nat => p.1.v) (fun p => [cown (OwnS 39 ow39) p.2 p.1.v R]) := by
 refine Se 23 Tryz.func88 [.tmp 4] ?_
 intro H0 F0
 unfold i_added at hF
 refine au ?_
 refine AbR (fun k1 => ?_)
 iterate 6 refine au ?_
 refine bnd hF fun r2 hx3 hF => C_x1 (.cons (.t .h) (.rd (.t .h) rfl .nil)) (XC_bor frz_own (fun _ => .nil) (X_callS cf39.h (.cons (.tmp rfl rfl) (.cons (.tmp rfl rfl) .nil)) (i_HasFact_ok a_l v0_0 a_f v1_1 _ hx3))) (fun _ => ?_)
 refine au ?_
 refine Ci hF (fun hb23 hF => ?_) (fun hb23 hF => ?_)
 · iterate 5 refine au ?_
   cases hF
   exact Er (v0_0, F0_0)
 iterate 3 refine au ?_
 refine C_val (V_makeFunc (fn := .func 110) (vs := []) (us := [(pz k1)]) .nil (.cons (.tmp rfl rfl) .nil)) ?_
 refine bnd hF fun r5 hx6 hF => C_x1 (.cons .h (.rd .h rfl (.rd (.t .h) rfl .nil))) (XC_bor frz_own (fun _ => .nil) (X_callS cf90.h (.cons (.tmp rfl rfl) (.cons (.tmp rfl rfl) .nil)) (g_slices_IndexFunc_impl_Fact_impl_Fact_iadded1_ok a_l v0_0 k1 a_f v1_1 _ hx6))) (fun _ => ?_)
 iterate 7 refine au ?_
 refine Ci hF (fun hb22 hF => ?_) (fun hb22 hF => ?_)
 · iterate 9 refine au ?_
   refine bnd hF fun r8 hx9 hF => Cx1 (i_copyFact_ok _ _ _ hx9) (fun p10 => ?_)
   refine C_new rfl (N_buildSliceT (g := true) sl37.h ty39.h (.cons (.tmp rfl rfl) .nil) (vs := [(.agg [(.int .i64 r8.Rel), p10.1.v].toArray)]) rfl rfl rfl (by intro v hv; simp at hv; rcases hv with rfl <;> rfl)) (fun k11 => ?_)
   refine Cv1 (.cons .h (.cons .h .nil)) (own_lit (Ro := ow39) (E := 39) (F := (p10.2 ++ [])) (xs := ([r8] : List Fact)) (MkL_cons mk39 MkL_nil apps) rfl rfl) ?_
   refine bnd hF fun r12 hx13 hF => Cx1 (g_slices_Insert_impl_Fact_impl_Fact_ok _ _ _ _ _ (⟨(some ⟨k11, 0, none⟩), 1, 1⟩) _ _ hx13) (fun p14 => ?_)
   iterate 3 refine au ?_
   cases hF
   exact Er (p14.1, p14.2)
 iterate 5 refine au ?_
 refine bnd hF fun r15 hx16 hF => Cx1 (i_copyFact_ok _ _ _ hx16) (fun p17 => ?_)
 refine C_new rfl (N_buildSliceT (g := true) sl37.h ty39.h (.cons (.tmp rfl rfl) .nil) (vs := [(.agg [(.int .i64 r15.Rel), p17.1.v].toArray)]) rfl rfl rfl (by intro v hv; simp at hv; rcases hv with rfl <;> rfl)) (fun k18 => ?_)
 refine Cv1 (.cons .h (.cons .h .nil)) (own_lit (Ro := ow39) (E := 39) (F := (p17.2 ++ [])) (xs := ([r15] : List Fact)) (MkL_cons mk39 MkL_nil apps) rfl rfl) ?_
 refine bnd hF fun r19 hx20 hF => Cx1 (g_slices_Insert_impl_Fact_impl_Fact_ok _ _ _ _ _ (⟨(some ⟨k18, 0, none⟩), 1, 1⟩) _ _ hx20) (fun p21 => ?_)
 iterate 3 refine au ?_
 cases hF
 exact Er (p21.1, p21.2)
def i_Reached_told_L4 (z168 : List Access) : List Fact → Nat → (List Fact) → (List Int) → Option ((List Fact) × (List Int) × (List Access))
 | [], k220, c210, c213 => some (c210, c213, z168)
 | x222 :: rest221, k220, c210, c213 => (i_added c210 x222).bind fun r235 =>
   (i_withValues c213 x222.Values).bind fun r238 =>
   i_Reached_told_L4 z168 rest221 (k220 + 1) r235 r238
def i_Reached_told_L1 (a_r : Reached) (a_l : List Method) (a_facts : List Fact) (r1 : (List Access) × Reached) : List Access → Nat → (List Fact) → (List Int) → (List Access) → Option (Bool × Reached)
 | [], k143, c130, c133, c136 => (i_bit (decide ((0 : Int) < (r1.1.length : Int)))).bind fun r152 =>
   some ((decide ((0 : Int) < (r1.1.length : Int))), ({ Facts := c130, Values := c133, Log := c136, Rounds := (IntKind.i64.wrap (a_r.Rounds + r152)) } : Reached))
 | x145 :: rest144, k143, c130, c133, c136 => ((app c136 [x145]).bind fun z168 =>
     (i_matches a_l a_facts x145).bind fun r171 =>
     i_Reached_told_L4 z168 r171 0 c130 c133).bind fun o155 =>
   match o155 with
   | (c242, c245, c248) => i_Reached_told_L1 a_r a_l a_facts r1 rest144 (k143 + 1) c242 c245 c248
def i_Reached_told (a_r : Reached) (a_l : List Method) (a_facts : List Fact) : Option (Bool × Reached) :=
 (i_Reached_open a_r a_l).bind fun r1 =>
 i_Reached_told_L1 a_r a_l a_facts r1 r1.1 0 r1.2.Facts r1.2.Values r1.2.Log
theorem i_Reached_told_ok (kq0 : Nat) (a_r : Reached) (v0_0 : Sv) (F0_0 : List Nat) (v0_1 : Sv) (F0_1 : List Nat) (v0_2 : Sv) (F0_2 : List Nat) (a_l : List Method) (v1_0 : Sv) (a_facts : List Fact) (v2_0 : Sv) (R : Bool × Reached) (hF : i_Reached_told a_r a_l a_facts = some R) :
   Fw.Spec Tryz.prog 60 [(.pointer (some ⟨kq0, 0, some 0⟩)), v1_0.v, v2_0.v] [cbox kq0 54 (.agg [v0_0.v, v0_1.v, v0_2.v, (.int .i64 a_r.Rounds)].toArray), cown (OwnS 39 ow39) F0_0 v0_0.v a_r.Facts, cown (OwnS 3 (roE rdInt)) F0_1 v0_1.v a_r.Values, cown (OwnS 31 ow31) F0_2 v0_2.v a_r.Log, crd (RdS 65 rd65) v1_0.v a_l, crd (RdS 39 rd39) v2_0.v a_facts] (fun _ : Sv × List Nat × Sv × List Nat × Sv × List Nat => (.bool R.1)) (fun p => [cbox kq0 54 (.agg [p.1.v, p.2.2.1.v, p.2.2.2.2.1.v, (.int .i64 R.2.Rounds)].toArray), cown (OwnS 39 ow39) p.2.1 p.1.v R.2.Facts, cown (OwnS 3 (roE rdInt)) p.2.2.2.1 p.2.2.1.v R.2.Values, cown (OwnS 31 ow31) p.2.2.2.2.2 p.2.2.2.2.1.v R.2.Log]) := by
 refine Spec_enter (n := 77) Tryz.func60 rfl rfl (rs := [.tmp 6]) rfl rfl rfl ?_
 intro H0 F0
 unfold i_Reached_told at hF
 refine K_region (C_val (V_assign (v := (.bool false)) (.bool _)) ?_)
 refine C_nil (K_region (Cm (.pointer (some ⟨kq0, 0, some 0⟩)) rfl rfl ?_))
 refine C_val (V_nilCheck (v := (.pointer (some ⟨kq0, 0, some 0⟩))) rfl (.tmp rfl rfl)) ?_
 refine C_at .h (fun hp => V_loadBox ag54.h ty54.h.sz rfl (.tmp rfl rfl) hp.2 rfl) ?_
 refine Cm v1_0.v rfl rfl ?_
 obtain ⟨r1, hx2, hF⟩ := bind_some hF
 refine C_x4 (.cons (.t .h) (.cons (.t .h) (.cons (.t .h) (.rd (.t .h) rfl .nil)))) (X_callS cf87.h (.cons (.tmp rfl rfl) (.cons (.tmp rfl rfl) .nil)) (i_Reached_open_ok a_r v0_0 F0_0 v0_1 F0_1 v0_2 F0_2 a_l v1_0 _ hx2)) (fun p3 => ?_)
 refine Ca p3.1.v rfl rfl ?_
 refine C_nil (K_in (K_region (Cm p3.1.v rfl rfl ?_)))
 refine C_at .h (fun hp => V_lenR (l := r1.1.length) sl52.h (.tmp rfl rfl) (cown_len hp)) ?_
 refine C_val (V_move (v := (.int .i64 0)) (.int _ _)) ?_
 refine C_nil (CW_block (K_mov (s := 2) .h (fun es15 G16 => ?_)))
 refine CW_loop (m := r1.1.length) (fun m141 f' cs' => ∃ (g : Fr) (k143 : Nat) (rest144 : List Access) (c130 : List Fact) (c133 : List Int) (c136 : List Access) (v131 : Sv) (F132 : List Nat) (v134 : Sv) (F135 : List Nat) (v137 : Sv) (F138 : List Nat) (G139 : List Nat), m141 = rest144.length ∧ f' = updL g [(0, (.pointer (some ⟨kq0, 0, some 0⟩))), (1, v1_0.v), (2, v2_0.v), (7, p3.1.v), (17, p3.1.v), (18, (.int .i64 (r1.1.length : Int))), (19, (.int .i64 (k143 : Int)))] ∧ List.drop k143 r1.1 = rest144 ∧ Ent cs' [cbox kq0 54 (.agg [v131.v, v134.v, v137.v, (.int .i64 a_r.Rounds)].toArray), cown (OwnS 39 ow39) F132 v131.v c130, cown (OwnS 3 (roE rdInt)) F135 v134.v c133, cown (OwnS 31 ow31) F138 v137.v c136, crd (RdS 65 rd65) v1_0.v a_l, crd (RdS 39 rd39) v2_0.v a_facts, cmov 31 2 ow31 G139 p3.1.v es15 r1.1.length k143 rest144] ∧ i_Reached_told_L1 a_r a_l a_facts r1 rest144 k143 c130 c133 c136 = some R) ⟨_, 0, _, _, _, _, v0_0, p3.2.2.1, v0_1, p3.2.2.2.1, v0_2, p3.2.2.2.2, G16, rfl, (EqL.cons rfl (EqL.cons rfl (EqL.cons rfl (EqL.cons rfl (EqL.cons rfl (EqL.cons rfl (EqL.cons rfl (EqL.nil)))))))).eq, rfl, (.sel (.cons (.t (.t (.t (.t .h)))) (.cons (.t .h) (.cons (.t .h) (.cons (.t .h) (.rd (.t .h) rfl (.rd (.t (.t .h)) rfl (.cons .h .nil)))))))), hF⟩ ?_
 clear hF
 rintro m141 _ _ ⟨g142, k143, rest144, c130, c133, c136, v131, F132, v134, F135, v137, F138, G139, rfl, rfl, hd146, hE, hF⟩
 refine K_ent hE ?_
 clear hE
 refine K_pure (c := cmov 31 2 ow31 G139 p3.1.v es15 r1.1.length k143 rest144) (.t (.t (.t (.t (.t (.t .h)))))) cmov_bound (fun hbd151 => ?_)
 rcases rest144 with _ | ⟨x145, rest144⟩
 · have hk147 := List.drop_eq_nil_iff.1 hd146
   have hfe150 : (decide (((k143 : Int) : Int) < (r1.1.length : Int))) = false := decide_eq_false (by omega)
   rw [i_Reached_told_L1] at hF
   refine K_region (C_val (V_lss (i := (k143 : Int)) (j := (r1.1.length : Int)) (.tmp rfl rfl) (.tmp rfl rfl)) ?_)
   refine C_nil (K_in (CW_cond (b := (decide (((k143 : Int) : Int) < (r1.1.length : Int)))) (.tmp rfl rfl) (fun hb => absurd (hfe150.symm.trans hb) (by decide)) (fun _ => ?_)))
   refine CW_exit ?_
   iterate 2 refine CThen_exit ?_
   refine CIn_self (K_draw [0, 1, 2, 3, 4, 5, 6, 7, 8, 9, 10, 11] [0, 1, 3, 7, 0, 16, 48, 112, 255, 511, 1023, 2047] [7, 11] mixed (by decide +kernel) ?_)
   refine Dm (.pointer (some ⟨kq0, 0, some 0⟩)) rfl rfl rfl rfl ?_
   refine D_val rfl .no (fun ha => V_nilCheck (v := (.pointer (some ⟨kq0, 0, some 0⟩))) rfl (EN ha (.tmp rfl rfl) rfl)) ?_
   refine D_val rfl .no (fun ha => V_fieldAddr (off := 3) fd54_3.h (EN ha (.tmp rfl rfl) rfl)) ?_
   refine D_atO rfl .no .h (fun ha hp => V_load (v := (.int .i64 a_r.Rounds)) ag3.h (EN ha (.tmp rfl rfl) rfl) hp.2 rfl rfl) ?_
   refine Dm p3.1.v rfl rfl rfl rfl ?_
   refine D_atO rfl .no (.t (.t (.t (.t (.t (.t .h)))))) (fun ha hp => V_lenR (l := r1.1.length) sl52.h (EN ha (.tmp rfl rfl) rfl) (cmov_len hp)) ?_
   refine D_val rfl .no (fun ha => V_gtr (i := (r1.1.length : Int)) (j := 0) (EN ha (.tmp rfl rfl) rfl) (EN ha (.int _ _) rfl)) ?_
   obtain ⟨r152, hx153, hF⟩ := bind_some hF
   refine D_act0 rfl rfl .no .nil (.dep rfl (.own .h (fun _ h => h) .nil)) (fun ha => X_callS cf89.h (.cons (EN ha (.tmp rfl rfl) rfl) .nil) (i_bit_ok (decide ((0 : Int) < (r1.1.length : Int))) _ hx153)) (fun _ => ?_)
   refine D_val rfl .no (fun ha => V_add (i := a_r.Rounds) (j := r152) (EN ha (.tmp rfl rfl) rfl) (EN ha (.tmp rfl rfl) rfl)) ?_
   refine D_val rfl .no (fun ha => V_nilCheck (v := (.pointer (some ⟨kq0, 0, some 0⟩))) rfl (EN ha (.tmp rfl rfl) rfl)) ?_
   refine D_val rfl .no (fun ha => V_fieldAddr (off := 3) fd54_3.h (EN ha (.tmp rfl rfl) rfl)) ?_
   refine D_act1 rfl rfl .no (.cons .h .nil) (.dep rfl (.dep rfl .nil)) (fun ha => X_storeB (e' := (.agg [v131.v, v134.v, v137.v, (.int .i64 (IntKind.i64.wrap (a_r.Rounds + r152)))].toArray)) (v := (.int .i64 (IntKind.i64.wrap (a_r.Rounds + r152)))) ty3.h.sz (EN ha (.tmp rfl rfl) rfl) (EN ha (.tmp rfl rfl) rfl) rfl rfl rfl rfl rfl) (fun _ => ?_)
   refine D_nil (K_region (Cm p3.1.v rfl rfl ?_))
   refine C_at (.t (.t (.t (.t (.t (.t .h)))))) (fun hp => V_lenR (l := r1.1.length) sl52.h (.tmp rfl rfl) (cmov_len hp)) ?_
   refine C_val (V_gtr (i := (r1.1.length : Int)) (j := 0) (.tmp rfl rfl) (.int _ _)) ?_
   refine Ca (.bool (decide ((0 : Int) < (r1.1.length : Int)))) rfl rfl ?_
   refine C_nil (CW_ret ?_)
   obtain rfl := Option.some.inj hF
   exact End_ret (v131, F132, v134, F135, v137, F138) (.tmp rfl rfl .nil) rfl (.sel (.cons .h (.cons .h (.cons .h (.cons .h .nil)))))
 obtain ⟨hk147, hx148, hd149⟩ := drop_cons hd146
 have hfe150 : (decide (((k143 : Int) : Int) < (r1.1.length : Int))) = true := decide_eq_true (by omega)
 rw [i_Reached_told_L1] at hF
 refine K_region (C_val (V_lss (i := (k143 : Int)) (j := (r1.1.length : Int)) (.tmp rfl rfl) (.tmp rfl rfl)) ?_)
 refine C_nil (K_in (CW_cond (b := (decide (((k143 : Int) : Int) < (r1.1.length : Int)))) (.tmp rfl rfl) (fun _ => ?_) (fun hb => absurd (hfe150.symm.trans hb) (by decide))))
 refine CW_skip ?_
 obtain ⟨o155, hio155, hO156⟩ := bind_some hF
 refine K_cut (fun f' cs' => ∃ (c242 : List Fact) (c245 : List Int) (c248 : List Access) (v243 : Sv) (F244 : List Nat) (v246 : Sv) (F247 : List Nat) (v249 : Sv) (F250 : List Nat) (F251 : List Nat) (g : Fr), o155 = (c242, c245, c248) ∧ f' = updL g [(0, (.pointer (some ⟨kq0, 0, some 0⟩))), (1, v1_0.v), (2, v2_0.v), (7, p3.1.v), (17, p3.1.v), (18, (.int .i64 (r1.1.length : Int))), (19, (.int .i64 (k143 : Int)))] ∧ Ent cs' [cbox kq0 54 (.agg [v243.v, v246.v, v249.v, (.int .i64 a_r.Rounds)].toArray), cown (OwnS 39 ow39) F244 v243.v c242, cown (OwnS 3 (roE rdInt)) F247 v246.v c245, cown (OwnS 31 ow31) F250 v249.v c248, crd (RdS 65 rd65) v1_0.v a_l, crd (RdS 39 rd39) v2_0.v a_facts, cmov 31 2 ow31 F251 p3.1.v es15 r1.1.length (k143 + 1) rest144]) ?_ ?_
 · replace hF := hio155
   refine CW_block (K_region (C_next1 un31 (.t (.t (.t (.t (.t (.t .h)))))) (fun p157 G158 he159 => ?_)))
   refine C_idx (R := rdVal 2) (a := (.agg [(.int .i64 x145.Method), p157.1.v].toArray)) sl52.h ty31.h.sz (.tmp rfl rfl) (.tmp rfl rfl) (.t .h) (Int.natCast_nonneg k143) (idx_hi he159) (fun k160 j161 => ?_)
   refine C_ldRA ag31.h ty31.h.sz rfl (.tmp rfl rfl) .h ?_
   refine C_new rfl (N_allocT (g := true) ty31.h rfl rfl) (fun k162 => ?_)
   refine C_x1 (.cons .h .nil) (X_storeB (e' := (.agg [(.int .i64 x145.Method), p157.1.v].toArray)) (v := (.agg [(.int .i64 x145.Method), p157.1.v].toArray)) ty31.h.sz (.tmp rfl rfl) (.tmp rfl rfl) rfl rfl rfl rfl rfl) (fun _ => ?_)
   refine C_nil (K_draw [0, 1, 2, 3, 4, 5, 6, 7, 8, 9, 10] [0, 0, 2, 6, 14, 0, 32, 126, 255, 511, 1023] [7, 10] mixed (by decide +kernel) ?_)
   iterate 2 refine Dm (.pointer (some ⟨kq0, 0, some 0⟩)) rfl rfl rfl rfl ?_
   refine D_val rfl .no (fun ha => V_nilCheck (v := (.pointer (some ⟨kq0, 0, some 0⟩))) rfl (EN ha (.tmp rfl rfl) rfl)) ?_
   refine D_val rfl .no (fun ha => V_fieldAddr (off := 2) fd54_2.h (EN ha (.tmp rfl rfl) rfl)) ?_
   refine D_atO rfl .no (.t (.t (.t (.t (.t .h))))) (fun ha hp => V_load (v := v137.v) ag52.h (EN ha (.tmp rfl rfl) rfl) hp.2 rfl rfl) ?_
   refine D_atO rfl .no .h (fun ha hp => V_loadBox ag31.h ty31.h.sz rfl (EN ha (.tmp rfl rfl) rfl) hp.2 rfl) ?_
   refine D_new rfl .no rfl (fun ha => N_buildSliceT (g := true) (len := 1) (parts := [(0, .tmp 28)]) sl52.h ty31.h (.cons (EN ha (.tmp rfl rfl) rfl) .nil) (vs := [(.agg [(.int .i64 x145.Method), p157.1.v].toArray)]) rfl rfl rfl (by intro v hv; simp at hv; rcases hv with rfl <;> rfl)) (fun k163 => ?_)
   refine D_conv (.cons .h .nil) (own_lit (Ro := roE (rdVal 2)) (E := 31) (F := ([] ++ [])) (xs := ([(.agg [(.int .i64 x145.Method), p157.1.v].toArray)] : List Value)) (MkL_cons (mk_raw (s := 2) (e := (.agg [(.int .i64 x145.Method), p157.1.v].toArray)) rfl rfl) MkL_nil apps) rfl rfl) apps ?_
   refine D_open (s := 2) (.t (.t (.t (.t (.t (.t (.t (.t (.t .h))))))))) (fun es164 F165 G166 hl167 => ?_)
   obtain ⟨z168, hx169, hF⟩ := bind_some hF
   refine D_act1 rfl rfl .no (.cons .h (.cons (.t .h) .nil)) (.dep rfl (.dep rfl (.dep rfl .nil))) (fun ha => X_appendO (Ro := roE (rdVal 2)) sl52.h ni52 ty31.h rfl rfl rfl (EN ha (.tmp rfl rfl) rfl) (EN ha (.tmp rfl rfl) rfl) (app_raw hx169 hl167) src_own) (fun p170 => ?_)
   refine D_val rfl .no (fun ha => V_nilCheck (v := (.pointer (some ⟨kq0, 0, some 0⟩))) rfl (EN ha (.tmp rfl rfl) rfl)) ?_
   refine D_val rfl .no (fun ha => V_fieldAddr (off := 2) fd54_2.h (EN ha (.tmp rfl rfl) rfl)) ?_
   refine D_act1 rfl rfl .no (.cons (.t (.t (.t (.t (.t (.t (.t .h))))))) .nil) (.dep rfl (.dep rfl (.dep rfl .nil))) (fun ha => X_storeB (e' := (.agg [v131.v, v134.v, p170.1.v, (.int .i64 a_r.Rounds)].toArray)) ty52.h.sz (EN ha (.tmp rfl rfl) rfl) (EN ha (.tmp rfl rfl) rfl) rfl rfl rfl rfl rfl) (fun _ => ?_)
   refine D_nil (K_region (Cm v1_0.v rfl rfl ?_))
   refine Cm v2_0.v rfl rfl ?_
   refine C_at (.t (.t (.t .h))) (fun hp => V_loadBox ag31.h ty31.h.sz rfl (.tmp rfl rfl) hp.2 rfl) ?_
   obtain ⟨r171, hx172, hF⟩ := bind_some hF
   refine C_x2 (.cons (.t (.t (.t (.t (.t .h))))) (.rd (.t (.t (.t (.t (.t (.t (.t (.t (.t .h))))))))) rfl (.rd (.t (.t (.t (.t (.t (.t (.t (.t (.t (.t .h)))))))))) rfl .nil))) (XC_bor frz_own (fun _ => (.cons .nil)) (XC_pre (.rd (.t .h) rfl (.rd (.t (.t .h)) rfl (.rd .h rfl .nil))) (X_callS cf40.h (.cons (.tmp rfl rfl) (.cons (.tmp rfl rfl) (.cons (.tmp rfl rfl) .nil))) (i_matches_ok a_l v1_0 a_facts v2_0 x145 p157.1 _ hx172)))) (fun p173 => ?_)
   refine C_conv (.cons (.t (.t (.t .h))) (.cons (.t (.t (.t .h))) (.cons .h .nil))) ((Cv_late mk31 hx169)) apps ?_
   refine C_at (.t .h) (fun hp => V_lenR (l := r171.length) sl37.h (.tmp rfl rfl) (cown_len hp)) ?_
   refine C_val (V_move (v := (.int .i64 0)) (.int _ _)) ?_
   refine C_nil (CW_block (K_mov (s := 2) (.t .h) (fun es183 G184 => ?_)))
   refine CW_loop (m := r171.length) (fun m218 f' cs' => ∃ (g : Fr) (k220 : Nat) (rest221 : List Fact) (c210 : List Fact) (c213 : List Int) (v211 : Sv) (F212 : List Nat) (v214 : Sv) (F215 : List Nat) (G216 : List Nat), m218 = rest221.length ∧ f' = updL g [(0, (.pointer (some ⟨kq0, 0, some 0⟩))), (1, v1_0.v), (2, v2_0.v), (7, p3.1.v), (17, p3.1.v), (18, (.int .i64 (r1.1.length : Int))), (19, (.int .i64 (k143 : Int))), (36, p173.1.v), (37, (.int .i64 (r171.length : Int))), (38, (.int .i64 (k220 : Int)))] ∧ List.drop k220 r171 = rest221 ∧ Ent cs' [cbox kq0 54 (.agg [v211.v, v214.v, p170.1.v, (.int .i64 a_r.Rounds)].toArray), cown (OwnS 39 ow39) F212 v211.v c210, cown (OwnS 3 (roE rdInt)) F215 v214.v c213, cown (OwnS 31 ow31) (p170.2 ++ (G166 ++ (p157.2 ++ []))) p170.1.v z168, crd (RdS 65 rd65) v1_0.v a_l, crd (RdS 39 rd39) v2_0.v a_facts, cmov 31 2 ow31 G158 p3.1.v es15 r1.1.length (k143 + 1) rest144, cmov 39 2 ow39 G216 p173.1.v es183 r171.length k220 rest221] ∧ i_Reached_told_L4 z168 rest221 k220 c210 c213 = some o155) ⟨_, 0, _, _, _, v131, F132, v134, F135, G184, rfl, (EqL.cons rfl (EqL.cons rfl (EqL.cons rfl (EqL.cons rfl (EqL.cons rfl (EqL.cons rfl (EqL.cons rfl (EqL.cons rfl (EqL.cons rfl (EqL.cons rfl (EqL.nil))))))))))).eq, rfl, (.sel (.cons (.t (.t .h)) (.cons (.t (.t (.t (.t (.t (.t .h)))))) (.cons (.t (.t (.t (.t (.t (.t .h)))))) (.cons (.t .h) (.rd (.t (.t (.t (.t (.t .h))))) rfl (.rd (.t (.t (.t (.t (.t (.t .h)))))) rfl (.cons (.t (.t (.t (.t .h)))) (.cons .h .nil))))))))), hF⟩ ?_
   clear hF
   rintro m218 _ _ ⟨g219, k220, rest221, c210, c213, v211, F212, v214, F215, G216, rfl, rfl, hd223, hE, hF⟩
   refine K_ent hE ?_
   clear hE
   refine K_pure (c := cmov 39 2 ow39 G216 p173.1.v es183 r171.length k220 rest221) (.t (.t (.t (.t (.t (.t (.t .h))))))) cmov_bound (fun hbd228 => ?_)
   rcases rest221 with _ | ⟨x222, rest221⟩
   · have hk224 := List.drop_eq_nil_iff.1 hd223
     have hfe227 : (decide (((k220 : Int) : Int) < (r171.length : Int))) = false := decide_eq_false (by omega)
     rw [i_Reached_told_L4] at hF
     refine K_region (C_val (V_lss (i := (k220 : Int)) (j := (r171.length : Int)) (.tmp rfl rfl) (.tmp rfl rfl)) ?_)
     refine C_nil (K_in (CW_cond (b := (decide (((k220 : Int) : Int) < (r171.length : Int)))) (.tmp rfl rfl) (fun hb => absurd (hfe227.symm.trans hb) (by decide)) (fun _ => ?_)))
     refine CW_exit ?_
     iterate 2 refine CThen_exit ?_
     refine CIn_self ?_
     obtain rfl := Option.some.inj hF
     exact ⟨_, _, _, v211, F212, v214, F215, p170.1, (p170.2 ++ (G166 ++ (p157.2 ++ []))), G158, _, rfl, (EqL.cons rfl (EqL.cons rfl (EqL.cons rfl (EqL.cons rfl (EqL.cons rfl (EqL.cons rfl (EqL.cons rfl (EqL.nil)))))))).eq, (.sel (.cons .h (.cons .h (.cons .h (.cons .h (.rd .h rfl (.rd (.t .h) rfl (.cons (.t (.t .h)) .nil))))))))⟩
   obtain ⟨hk224, hx225, hd226⟩ := drop_cons hd223
   have hfe227 : (decide (((k220 : Int) : Int) < (r171.length : Int))) = true := decide_eq_true (by omega)
   rw [i_Reached_told_L4] at hF
   refine K_region (C_val (V_lss (i := (k220 : Int)) (j := (r171.length : Int)) (.tmp rfl rfl) (.tmp rfl rfl)) ?_)
   refine C_nil (K_in (CW_cond (b := (decide (((k220 : Int) : Int) < (r171.length : Int)))) (.tmp rfl rfl) (fun _ => ?_) (fun hb => absurd (hfe227.symm.trans hb) (by decide))))
   refine CW_skip (K_block (K_region (C_next1 un39 (.t (.t (.t (.t (.t (.t (.t .h))))))) (fun p229 G230 he231 => ?_))))
   refine C_idx (R := rdVal 2) (a := (.agg [(.int .i64 x222.Rel), p229.1.v].toArray)) sl37.h ty39.h.sz (.tmp rfl rfl) (.tmp rfl rfl) (.t .h) (Int.natCast_nonneg k220) (idx_hi he231) (fun k232 j233 => ?_)
   refine C_ldRA ag39.h ty39.h.sz rfl (.tmp rfl rfl) .h ?_
   refine C_new rfl (N_allocT (g := true) ty39.h rfl rfl) (fun k234 => ?_)
   refine C_x1 (.cons .h .nil) (X_storeB (e' := (.agg [(.int .i64 x222.Rel), p229.1.v].toArray)) (v := (.agg [(.int .i64 x222.Rel), p229.1.v].toArray)) ty39.h.sz (.tmp rfl rfl) (.tmp rfl rfl) rfl rfl rfl rfl rfl) (fun _ => ?_)
   refine C_nil (K_frz (.t (.t .h)) frz_own ?_)
   refine K_draw [0, 1, 2, 3, 4, 5, 6, 7, 8, 9] [0, 0, 2, 6, 14, 0, 62, 127, 255, 511] [6, 9] mixed (by decide +kernel) ?_
   iterate 2 refine Dm (.pointer (some ⟨kq0, 0, some 0⟩)) rfl rfl rfl rfl ?_
   refine D_val rfl .no (fun ha => V_nilCheck (v := (.pointer (some ⟨kq0, 0, some 0⟩))) rfl (EN ha (.tmp rfl rfl) rfl)) ?_
   refine D_val rfl .no (fun ha => V_fieldAddr (off := 0) fd54_0.h (EN ha (.tmp rfl rfl) rfl)) ?_
   refine D_atO rfl .no (.t (.t (.t (.t (.t .h))))) (fun ha hp => V_load (v := v211.v) ag37.h (EN ha (.tmp rfl rfl) rfl) hp.2 rfl rfl) ?_
   refine D_atO rfl .no (.t .h) (fun ha hp => V_loadBox ag39.h ty39.h.sz rfl (EN ha (.tmp rfl rfl) rfl) hp.2 rfl) ?_
   obtain ⟨r235, hx236, hF⟩ := bind_some hF
   refine D_act1 rfl rfl .no (.cons (.t (.t (.t (.t (.t (.t .h)))))) (.rd .h rfl .nil)) (.dep rfl (.dep rfl .nil)) (fun ha => X_callS cf88.h (.cons (EN ha (.tmp rfl rfl) rfl) (.cons (EN ha (.tmp rfl rfl) rfl) .nil)) (i_added_ok c210 v211 F212 x222 p229.1 _ hx236)) (fun p237 => ?_)
   refine D_val rfl .no (fun ha => V_nilCheck (v := (.pointer (some ⟨kq0, 0, some 0⟩))) rfl (EN ha (.tmp rfl rfl) rfl)) ?_
   refine D_val rfl .no (fun ha => V_fieldAddr (off := 0) fd54_0.h (EN ha (.tmp rfl rfl) rfl)) ?_
   refine D_act1 rfl rfl .no (.cons (.t (.t (.t (.t (.t (.t .h)))))) .nil) (.dep rfl (.dep rfl .nil)) (fun ha => X_storeB (e' := (.agg [p237.1.v, v214.v, p170.1.v, (.int .i64 a_r.Rounds)].toArray)) ty37.h.sz (EN ha (.tmp rfl rfl) rfl) (EN ha (.tmp rfl rfl) rfl) rfl rfl rfl rfl rfl) (fun _ => ?_)
   refine D_nil (CW_draw [0, 1, 2, 3, 4, 5, 6, 7, 8, 9, 10] [0, 0, 2, 6, 14, 0, 32, 126, 255, 511, 1023] [7, 10] mixed (by decide +kernel) ?_)
   iterate 2 refine Dm (.pointer (some ⟨kq0, 0, some 0⟩)) rfl rfl rfl rfl ?_
   refine D_val rfl .no (fun ha => V_nilCheck (v := (.pointer (some ⟨kq0, 0, some 0⟩))) rfl (EN ha (.tmp rfl rfl) rfl)) ?_
   refine D_val rfl .no (fun ha => V_fieldAddr (off := 1) fd54_1.h (EN ha (.tmp rfl rfl) rfl)) ?_
   refine D_atO rfl .no .h (fun ha hp => V_load (v := v214.v) ag22.h (EN ha (.tmp rfl rfl) rfl) hp.2 rfl rfl) ?_
   refine D_val rfl .no (fun ha => V_fieldAddr (off := 1) fd39_1.h (EN ha (.tmp rfl rfl) rfl)) ?_
   refine D_atO rfl .no (.t (.t (.t .h))) (fun ha hp => V_load (v := p229.1.v) ag22.h (EN ha (.tmp rfl rfl) rfl) hp.2 rfl rfl) ?_
   obtain ⟨r238, hx239, hF⟩ := bind_some hF
   refine D_act2 rfl rfl .no (.cons (.t (.t (.t (.t (.t (.t (.t .h))))))) (.rd (.t (.t .h)) rfl .nil)) (.dep rfl (.dep rfl .nil)) (fun ha => XC_bor frz_own (fun _ => (.cons .nil)) (X_callS cf72.h (.cons (EN ha (.tmp rfl rfl) rfl) (.cons (EN ha (.tmp rfl rfl) rfl) .nil)) (i_withValues_ok c213 v214 x222.Values p229.1 _ hx239))) (fun p240 => ?_)
   refine D_val rfl .no (fun ha => V_nilCheck (v := (.pointer (some ⟨kq0, 0, some 0⟩))) rfl (EN ha (.tmp rfl rfl) rfl)) ?_
   refine D_val rfl .no (fun ha => V_fieldAddr (off := 1) fd54_1.h (EN ha (.tmp rfl rfl) rfl)) ?_
   refine D_act1 rfl rfl .no (.cons (.t (.t .h)) .nil) (.dep rfl (.dep rfl .nil)) (fun ha => X_storeB (e' := (.agg [p237.1.v, p240.1.v, p170.1.v, (.int .i64 a_r.Rounds)].toArray)) ty22.h.sz (EN ha (.tmp rfl rfl) rfl) (EN ha (.tmp rfl rfl) rfl) rfl rfl rfl rfl rfl) (fun _ => ?_)
   refine D_nil (CW_region (C_val (V_add (i := (k220 : Int)) (j := 1) (.tmp rfl rfl) (.int _ _)) ?_))
   refine Cm (.int .i64 (IntKind.i64.wrap ((k220 : Int) + 1))) rfl rfl ?_
   refine C_nil ?_
   have hw241 : IntKind.i64.wrap ((k220 : Int) + 1) = ((k220 + 1 : Nat) : Int) := by rw [wrap_in (by omega) (by omega)]; rfl
   rw [hw241]
   exact ⟨_, Nat.lt_succ_self _, _, k220 + 1, rest221, _, _, p237.1, p237.2, p240.1, p240.2, G230, rfl, (EqL.cons rfl (EqL.cons rfl (EqL.cons rfl (EqL.cons rfl (EqL.cons rfl (EqL.cons rfl (EqL.cons rfl (EqL.cons rfl (EqL.cons rfl (EqL.cons rfl (EqL.nil))))))))))).eq, hd226, (.sel (.cons .h (.cons (.t (.t .h)) (.cons (.t .h) (.cons (.t (.t (.t (.t (.t (.t .h)))))) (.rd (.t (.t (.t (.t (.t (.t .h)))))) rfl (.rd (.t (.t (.t (.t (.t (.t (.t .h))))))) rfl (.cons (.t (.t (.t (.t (.t (.t (.t (.t .h)))))))) (.cons (.t (.t (.t (.t (.t .h))))) .nil))))))))), hF⟩
 rintro _ _ ⟨c242, c245, c248, v243, F244, v246, F247, v249, F250, F251, g253, rfl, rfl, hE⟩
 replace hF := hO156
 clear hO156
 try dsimp only at hF
 refine K_ent hE ?_
 refine CW_region (C_val (V_add (i := (k143 : Int)) (j := 1) (.tmp rfl rfl) (.int _ _)) ?_)
 refine Cm (.int .i64 (IntKind.i64.wrap ((k143 : Int) + 1))) rfl rfl ?_
 refine C_nil ?_
 have hw252 : IntKind.i64.wrap ((k143 : Int) + 1) = ((k143 + 1 : Nat) : Int) := by rw [wrap_in (by omega) (by omega)]; rfl
 rw [hw252]
 exact ⟨_, Nat.lt_succ_self _, _, k143 + 1, rest144, _, _, _, v243, F244, v246, F247, v249, F250, F251, rfl, (EqL.cons rfl (EqL.cons rfl (EqL.cons rfl (EqL.cons rfl (EqL.cons rfl (EqL.cons rfl (EqL.cons rfl (EqL.nil)))))))).eq, hd149, (.sel (.cons .h (.cons .h (.cons .h (.cons .h (.rd .h rfl (.rd (.t .h) rfl (.cons (.t (.t .h)) .nil)))))))), hF⟩
def i_reach_L1 (a_l : List Method) (a_facts : List Fact) : Nat → (List Fact) → (List Int) → (List Access) → Int → Int → Option (Reached)
 | 0, _, _, _, _, _ => none
 | m29 + 1, c18, c21, c24, c27, c28 => if (decide ((c28 : Int) < 40)) then (
     (i_Reached_told ({ Facts := c18, Values := c21, Log := c24, Rounds := c27 } : Reached) a_l a_facts).bind fun r37 =>
     if (!r37.1) then (
       some r37.2)
     else (
       i_reach_L1 a_l a_facts m29 r37.2.Facts r37.2.Values r37.2.Log r37.2.Rounds (IntKind.i64.wrap (c28 + 1))))
   else (
     some ({ Facts := c18, Values := c21, Log := c24, Rounds := c27 } : Reached))
def i_reach (a_l : List Method) (a_facts : List Fact) (a_seeds : List Int) : Option (Reached) :=
 (i_StartReach a_seeds).bind fun r2 =>
 i_reach_L1 a_l a_facts (((40 : Int) - 0).toNat + 2) r2.Facts r2.Values r2.Log r2.Rounds 0
theorem i_reach_ok (a_l : List Method) (v0_0 : Sv) (a_facts : List Fact) (v1_0 : Sv) (a_seeds : List Int) (v2_0 : Sv) (R : Reached) (hF : i_reach a_l a_facts a_seeds = some R) :
   Fw.Spec Tryz.prog 38 [v0_0.v, v1_0.v, v2_0.v] [crd (RdS 65 rd65) v0_0.v a_l, crd (RdS 39 rd39) v1_0.v a_facts, crd (RdS 3 rdInt) v2_0.v a_seeds] (fun p : Sv × List Nat × Sv × List Nat × Sv × List Nat => (.agg [p.1.v, p.2.2.1.v, p.2.2.2.2.1.v, (.int .i64 R.Rounds)].toArray)) (fun p => [cown (OwnS 39 ow39) p.2.1 p.1.v R.Facts, cown (OwnS 3 (roE rdInt)) p.2.2.2.1 p.2.2.1.v R.Values, cown (OwnS 31 ow31) p.2.2.2.2.2 p.2.2.2.2.1.v R.Log]) := by
 refine Se 18 Tryz.func38 [.cell 6 54] ?_
 intro H0 F0
 unfold i_reach at hF
 refine au ?_
 refine AnW (fun k1 => ?_)
 iterate 3 refine au ?_
 refine bnd hF fun r2 hx3 hF => Cx3 (i_StartReach_ok _ _ _ hx3) (fun p4 => ?_)
 refine AnW (fun k5 => ?_)
 refine As (.agg [p4.1.v, p4.2.2.1.v, p4.2.2.2.2.1.v, (.int .i64 r2.Rounds)].toArray) ?_
 iterate 5 refine au ?_
 refine CW_block (CW_loop (m := (((40 : Int) - 0).toNat + 2)) (fun m29 f' cs' => ∃ (g : Fr) (c18 : List Fact) (c21 : List Int) (c24 : List Access) (c27 : Int) (c28 : Int) (v19 : Sv) (F20 : List Nat) (v22 : Sv) (F23 : List Nat) (v25 : Sv) (F26 : List Nat), f' = updL g [(0, v0_0.v), (1, v1_0.v), (6, (pz k1)), (7, (pz k5)), (10, (.int .i64 c28))] ∧ Ent cs' [crd (RdS 65 rd65) v0_0.v a_l, crd (RdS 39 rd39) v1_0.v a_facts, cbox k1 54 (.agg [(.slice none 0 0), (.slice none 0 0), (.slice none 0 0), (.int .i64 0)].toArray), cbox k5 54 (.agg [v19.v, v22.v, v25.v, (.int .i64 c27)].toArray), cown (OwnS 39 ow39) F20 v19.v c18, cown (OwnS 3 (roE rdInt)) F23 v22.v c21, cown (OwnS 31 ow31) F26 v25.v c24] ∧ i_reach_L1 a_l a_facts m29 c18 c21 c24 c27 c28 = some R) ⟨_, _, _, _, _, _, p4.1, p4.2.1, p4.2.2.1, p4.2.2.2.1, p4.2.2.2.2.1, p4.2.2.2.2.2, eqA, entA, hF⟩ ?_)
 rintro m29 _ _ ⟨g30, c18, c21, c24, c27, c28, v19, F20, v22, F23, v25, F26, rfl, hE, hF⟩
 refine K_ent hE ?_
 rcases m29 with _ | m29
 · rw [i_reach_L1] at hF
   exact absurd hF (by simp)
 rw [i_reach_L1] at hF
 iterate 4 refine au ?_
 refine Ci hF (fun hb41 hF => ?_) (fun hb41 hF => ?_)
 · iterate 5 refine au ?_
   refine bnd hF fun r37 hx38 hF => Cx4 (i_Reached_told_ok _ _ _ _ _ _ _ _ _ _ _ _ _ hx38) (fun p39 => ?_)
   iterate 2 refine au ?_
   refine Ci hF (fun hb40 hF => ?_) (fun hb40 hF => ?_)
   · refine au ?_
     refine CIn_ne rfl ?_
     iterate 5 refine au ?_
     refine As (.agg [p39.1.v, p39.2.2.1.v, p39.2.2.2.2.1.v, (.int .i64 r37.2.Rounds)].toArray) ?_
     iterate 2 refine au ?_
     cases hF
     exact Er (p39.1, p39.2.1, p39.2.2.1, p39.2.2.2.1, p39.2.2.2.2.1, p39.2.2.2.2.2)
   iterate 5 refine au ?_
   exact ⟨m29, Nat.lt_succ_self _, _, _, _, _, _, _, p39.1, p39.2.1, p39.2.2.1, p39.2.2.2.1, p39.2.2.2.2.1, p39.2.2.2.2.2, eqA, entA, hF⟩
 iterate 6 refine au ?_
 refine As (.agg [v19.v, v22.v, v25.v, (.int .i64 c27)].toArray) ?_
 iterate 2 refine au ?_
 cases hF
 exact Er (v19, F20, v22, F23, v25, F26)
def i_WhyReached_L1 (a_l : List Method) (a_facts : List Fact) (a_f : Fact) : List Access → Nat → Option (Access × Bool)
 | [], k31 => some (({ Method := 0, Values := [] } : Access), false)
 | x33 :: rest32, k31 => (i_matches a_l a_facts x33).bind fun r46 =>
   (i_HasFact r46 a_f).bind fun r49 =>
   if r49 then (
     some (x33, true))
   else (
     i_WhyReached_L1 a_l a_facts a_f rest32 (k31 + 1))
def i_WhyReached (a_s : List Int) (a_l : List Method) (a_facts : List Fact) (a_seeds : List Int) (a_f : Fact) : Option (Access × Bool) :=
 ((i_AreMethods a_s a_l).bind fun r5 =>
   bif (!r5) then (some true)
   else ((i_AreFacts a_s a_facts).bind fun r9 =>
     some (!r9))).bind fun o3 =>
 match o3 with
 | c12 => if c12 then (
     some (({ Method := 0, Values := [] } : Access), false))
   else (
     (i_reach a_l a_facts a_seeds).bind fun r13 =>
     i_WhyReached_L1 a_l a_facts a_f r13.Log 0)
theorem i_WhyReached_ok (a_s : List Int) (v0_0 : Sv) (a_l : List Method) (v1_0 : Sv) (a_facts : List Fact) (v2_0 : Sv) (a_seeds : List Int) (v3_0 : Sv) (a_f : Fact) (v4_1 : Sv) (R : Access × Bool) (hF : i_WhyReached a_s a_l a_facts a_seeds a_f = some R) :
   Fw.Spec Tryz.prog 13 [v0_0.v, v1_0.v, v2_0.v, v3_0.v, (.agg [(.int .i64 a_f.Rel), v4_1.v].toArray)] [crd (RdS 3 rdInt) v0_0.v a_s, crd (RdS 65 rd65) v1_0.v a_l, crd (RdS 39 rd39) v2_0.v a_facts, crd (RdS 3 rdInt) v3_0.v a_seeds, crd (RdS 3 rdInt) v4_1.v a_f.Values] (fun p : Sv × List Nat => (.tuple [(.agg [(.int .i64 R.1.Method), p.1.v].toArray), (.bool R.2)].toArray)) (fun p => [cown (OwnS 3 (roE rdInt)) p.2 p.1.v R.1.Values]) := by
 refine Se 44 Tryz.func13 [.cell 10 31, .tmp 11] ?_
 intro H0 F0
 unfold i_WhyReached at hF
 refine au ?_
 refine AbR (fun k1 => ?_)
 refine AnW (fun k2 => ?_)
 iterate 3 refine au ?_
 obtain ⟨o3, hio3, hO4⟩ := bind_some hF
 refine au ?_
 refine C_cut (fun f' cs' => ∃ (c12 : Bool) (g : Fr), c12 = o3 ∧ f' = updL g [(1, v1_0.v), (2, v2_0.v), (3, v3_0.v), (9, (pz k1)), (10, (pz k2)), (23, (.bool c12))] ∧ Ent cs' [crd (RdS 65 rd65) v1_0.v a_l, crd (RdS 39 rd39) v2_0.v a_facts, crd (RdS 3 rdInt) v3_0.v a_seeds, cboR k1 39 (.agg [(.int .i64 a_f.Rel), v4_1.v].toArray), crd (RdS 3 rdInt) v4_1.v a_f.Values, cbox k2 31 (.agg [(.int .i64 0), (.slice none 0 0)].toArray)]) ?_ ?_
 · replace hF := hio3
   iterate 2 refine au ?_
   refine bnd hF fun r5 hx6 hF => Cx0 (i_AreMethods_ok _ _ _ _ _ hx6) (fun _ => ?_)
   iterate 2 refine au ?_
   rcases Bool.eq_false_or_eq_true (!r5) with hg8 | hg8
   · rw [hg8]
     try rw [hg8] at hF; dsimp only [cond_true, cond_false] at hF
     iterate 6 refine au ?_
     cases hF
     exact ⟨_, _, rfl, eqA, entA⟩
   rw [hg8]
   try rw [hg8] at hF; dsimp only [cond_true, cond_false] at hF
   iterate 5 refine au ?_
   refine bnd hF fun r9 hx10 hF => Cx0 (i_AreFacts_ok _ _ _ _ _ hx10) (fun _ => ?_)
   iterate 4 refine au ?_
   cases hF
   exact ⟨_, _, rfl, eqA, entA⟩
 rintro _ _ ⟨c12, g55, rfl, rfl, hE⟩
 replace hF := hO4
 try dsimp only at hF
 refine K_ent hE ?_
 refine Ci hF (fun hb54 hF => ?_) (fun hb54 hF => ?_)
 · refine au ?_
   refine C_val (V_build ty31.h rfl (vs := []) .nil (cells := [(.int .i64 0), (.slice none 0 0)]) rfl) ?_
   refine As (.agg [(.int .i64 0), (.slice none 0 0)].toArray) ?_
   iterate 3 refine au ?_
   cases hF
   exact End_ret (⟨none, 0, 0⟩, []) (.cellA rfl rfl .h rfl ag31.h ty31.h.sz rfl rfl (.tmp rfl rfl .nil)) rfl (.conv .nil (own_nil (Ro := (roE rdInt)) (E := 3)) (.cons .nil) (.sel (.cons .h .nil)))
 iterate 6 refine au ?_
 refine bnd hF fun r13 hx14 hF => Cx3 (i_reach_ok _ _ _ _ _ _ _ hx14) (fun p15 => ?_)
 refine C_val (V_field (v := p15.2.2.2.2.1.v) fdt54_2 ag52.h (.tmp rfl rfl) rfl) ?_
 iterate 3 refine au ?_
 refine CW_block (K_mov (s := 2) (.t (.t .h)) (fun es25 G26 => ?_))
 refine CW_loop (m := r13.Log.length) (fun m29 f' cs' => ∃ (g : Fr) (k31 : Nat) (rest32 : List Access) (G27 : List Nat), m29 = rest32.length ∧ f' = updL g [(1, v1_0.v), (2, v2_0.v), (9, (pz k1)), (10, (pz k2)), (29, p15.2.2.2.2.1.v), (30, (.int .i64 (r13.Log.length : Int))), (31, (.int .i64 (k31 : Int)))] ∧ List.drop k31 r13.Log = rest32 ∧ Ent cs' [crd (RdS 65 rd65) v1_0.v a_l, crd (RdS 39 rd39) v2_0.v a_facts, cboR k1 39 (.agg [(.int .i64 a_f.Rel), v4_1.v].toArray), crd (RdS 3 rdInt) v4_1.v a_f.Values, cbox k2 31 (.agg [(.int .i64 0), (.slice none 0 0)].toArray), cmov 31 2 ow31 G27 p15.2.2.2.2.1.v es25 r13.Log.length k31 rest32] ∧ i_WhyReached_L1 a_l a_facts a_f rest32 k31 = some R) ⟨_, 0, _, G26, rfl, eqA, rfl, entA, hF⟩ ?_
 rintro m29 _ _ ⟨g30, k31, rest32, G27, rfl, rfl, hd34, hE, hF⟩
 refine K_ent hE ?_
 refine K_pure (c := cmov 31 2 ow31 G27 p15.2.2.2.2.1.v es25 r13.Log.length k31 rest32) (.t (.t (.t (.t (.t .h))))) cmov_bound (fun hbd39 => ?_)
 rcases rest32 with _ | ⟨x33, rest32⟩
 · have hk35 := dn hd34
   rw [i_WhyReached_L1] at hF
   iterate 4 refine au ?_
   refine CdF ?_
   iterate 5 refine au ?_
   refine C_val (V_build ty31.h rfl (vs := []) .nil (cells := [(.int .i64 0), (.slice none 0 0)]) rfl) ?_
   refine As (.agg [(.int .i64 0), (.slice none 0 0)].toArray) ?_
   iterate 3 refine au ?_
   cases hF
   exact End_ret (⟨none, 0, 0⟩, []) (.cellA rfl rfl .h rfl ag31.h ty31.h.sz rfl rfl (.tmp rfl rfl .nil)) rfl (.conv .nil (own_nil (Ro := (roE rdInt)) (E := 3)) (.cons .nil) (.sel (.cons .h .nil)))
 obtain ⟨hk35, hx36, hd37⟩ := drop_cons hd34
 rw [i_WhyReached_L1] at hF
 iterate 4 refine au ?_
 refine CdT ?_
 iterate 3 refine au ?_
 refine C_next1 un31 (.t (.t (.t (.t (.t .h))))) (fun p40 G41 he42 => ?_)
 refine C_idx (R := rdVal 2) (a := (.agg [(.int .i64 x33.Method), p40.1.v].toArray)) sl52.h ty31.h.sz (.tmp rfl rfl) (.tmp rfl rfl) (.t .h) (Int.natCast_nonneg k31) (idx_hi he42) (fun k43 j44 => ?_)
 refine C_ldRA ag31.h ty31.h.sz rfl (.tmp rfl rfl) .h ?_
 refine AnW (fun k45 => ?_)
 refine As (.agg [(.int .i64 x33.Method), p40.1.v].toArray) ?_
 refine au ?_
 refine K_draw [0, 1, 2, 4, 3, 5] [0, 0, 0, 7, 0, 31] [3, 5] mixed (by decide +kernel) ?_
 iterate 2 refine du ?_
 refine D_atO rfl .no .h (fun ha hp => V_loadBox ag31.h ty31.h.sz rfl (EN ha (.tmp rfl rfl) rfl) hp.2 rfl) ?_
 refine du ?_
 refine bnd hF fun r46 hx47 hF => D_act2 rfl rfl .no (.cons (.t (.t .h)) (.rd (.t (.t (.t (.t .h)))) rfl (.rd (.t (.t (.t (.t (.t .h))))) rfl .nil))) (.dep rfl .nil) (fun ha => XC_bor frz_own (fun _ => (.cons .nil)) (XC_pre (.rd (.t .h) rfl (.rd (.t (.t .h)) rfl (.rd .h rfl .nil))) (X_callS cf40.h (.cons (EN ha (.tmp rfl rfl) rfl) (.cons (EN ha (.tmp rfl rfl) rfl) (.cons (EN ha (.tmp rfl rfl) rfl) .nil))) (i_matches_ok a_l v1_0 a_facts v2_0 x33 p40.1 _ hx47)))) (fun p48 => ?_)
 refine bnd hF fun r49 hx50 hF => D_act1 rfl rfl .no (.cons (.t .h) (.rd (.t (.t (.t (.t (.t (.t (.t (.t .h)))))))) rfl .nil)) (.dep rfl .nil) (fun ha => XC_bor frz_own (fun _ => .nil) (X_callS cf39.h (.cons (EN ha (.tmp rfl rfl) rfl) (.cons (EN ha (.tmp rfl rfl) rfl) .nil)) (i_HasFact_ok r46 p48.1 a_f v4_1 _ hx50))) (fun _ => ?_)
 refine du ?_
 refine Ci hF (fun hb53 hF => ?_) (fun hb53 hF => ?_)
 · iterate 2 refine au ?_
   refine As (.agg [(.int .i64 x33.Method), p40.1.v].toArray) ?_
   iterate 3 refine au ?_
   cases hF
   exact End_ret (p40.1, p40.2) (.cellA rfl rfl .h rfl ag31.h ty31.h.sz rfl rfl (.tmp rfl rfl .nil)) rfl (.sel (.cons (.t (.t .h)) .nil))
 iterate 5 refine au ?_
 rw [wk k31]
 exact ⟨_, Nat.lt_succ_self _, _, k31 + 1, rest32, G41, rfl, eqA, hd37, entA, hF⟩
def l_eqIntS_L1 (a_b : List Int) : List Int → Nat → Option (Bool)
 | [], k4 => some true
 | x6 :: rest5, k4 => (ix a_b (k4 : Int)).bind fun x15 =>
   if ((x6 : Int) != x15) then (
     some false)
   else (
     l_eqIntS_L1 a_b rest5 (k4 + 1))
def l_eqIntS (a_a : List Int) (a_b : List Int) : Option (Bool) :=
 if (((a_a.length : Int) : Int) != (a_b.length : Int)) then (
   some false)
 else (
   l_eqIntS_L1 a_b a_a 0)
theorem l_eqIntS_ok (a_a : List Int) (v0_0 : Sv) (a_b : List Int) (v1_0 : Sv) (R : Bool) (hF : l_eqIntS a_a a_b = some R) :
   Fw.Spec Tryz.prog 15 [v0_0.v, v1_0.v] [crd (RdS 3 rdInt) v0_0.v a_a, crd (RdS 3 rdInt) v1_0.v a_b] (fun _ : Unit => (.bool R)) (fun _ => []) := by
 refine Se 26 Tryz.func15 [.tmp 4] ?_
 intro H0 F0
 unfold l_eqIntS at hF
 iterate 11 refine au ?_
 refine Ci hF (fun hb23 hF => ?_) (fun hb23 hF => ?_)
 · iterate 4 refine au ?_
   cases hF
   exact Er ()
 iterate 5 refine au ?_
 refine CW_block (CW_loop (m := a_a.length) (fun m2 f' cs' => ∃ (g : Fr) (k4 : Nat) (rest5 : List Int), m2 = rest5.length ∧ f' = updL g [(0, v0_0.v), (1, v1_0.v), (5, (.int .i64 (k4 : Int)))] ∧ List.drop k4 a_a = rest5 ∧ Ent cs' [crd (RdS 3 rdInt) v0_0.v a_a, crd (RdS 3 rdInt) v1_0.v a_b] ∧ l_eqIntS_L1 a_b rest5 k4 = some R) ⟨_, 0, _, rfl, eqA, rfl, entA, hF⟩ ?_)
 rintro m2 _ _ ⟨g3, k4, rest5, rfl, rfl, hd7, hE, hF⟩
 refine Kb hE a_a (fun hbd12 => ?_)
 rcases rest5 with _ | ⟨x6, rest5⟩
 · have hk8 := dn hd7
   rw [l_eqIntS_L1] at hF
   iterate 7 refine au ?_
   refine CdF ?_
   iterate 8 refine au ?_
   cases hF
   exact Er ()
 obtain ⟨hk8, hx9, hd10⟩ := drop_cons hd7
 rw [l_eqIntS_L1] at hF
 iterate 7 refine au ?_
 refine CdT ?_
 iterate 2 refine au ?_
 refine K_draw [0, 1, 2, 3, 4, 5, 6, 7, 8] [0, 0, 3, 7, 0, 0, 48, 112, 255] [] mixed (by decide +kernel) ?_
 iterate 2 refine du ?_
 refine Di hx9 (fun k13 j14 => ?_)
 refine Dl ls3_0 ?_
 iterate 2 refine du ?_
 refine bnd hF fun x15 hx16 hF => ?_
 obtain ⟨hp17, hx18⟩ := ix_some hx16
 refine Di hx18 (fun k19 j20 => ?_)
 refine Dl ls3_0 ?_
 iterate 2 refine du ?_
 refine Ci hF (fun hb22 hF => ?_) (fun hb22 hF => ?_)
 · iterate 4 refine au ?_
   cases hF
   exact Er ()
 iterate 6 refine au ?_
 rw [wk k4]
 exact ⟨_, Nat.lt_succ_self _, _, k4 + 1, rest5, rfl, eqA, hd10, entA, hF⟩
def l_eqAccess (a_a : Access) (a_b : Access) : Option (Bool) :=
 if ((a_a.Method : Int) != a_b.Method) then (
   some false)
 else (
   (l_eqIntS a_a.Values a_b.Values).bind fun r3 =>
   if (!r3) then (
     some false)
   else (
     some true))
theorem l_eqAccess_ok (a_a : Access) (v0_1 : Sv) (a_b : Access) (v1_1 : Sv) (R : Bool) (hF : l_eqAccess a_a a_b = some R) :
   Fw.Spec Tryz.prog 14 [(.agg [(.int .i64 a_a.Method), v0_1.v].toArray), (.agg [(.int .i64 a_b.Method), v1_1.v].toArray)] [crd (RdS 3 rdInt) v0_1.v a_a.Values, crd (RdS 3 rdInt) v1_1.v a_b.Values] (fun _ : Unit => (.bool R)) (fun _ => []) := by
 refine Se 16 Tryz.func14 [.tmp 4] ?_
 intro H0 F0
 unfold l_eqAccess at hF
 refine au ?_
 refine AbR (fun k1 => ?_)
 refine AbR (fun k2 => ?_)
 iterate 10 refine au ?_
 refine Ci hF (fun hb7 hF => ?_) (fun hb7 hF => ?_)
 · iterate 4 refine au ?_
   cases hF
   exact Er ()
 iterate 7 refine au ?_
 refine bnd hF fun r3 hx4 hF => Cx0 (l_eqIntS_ok _ _ _ _ _ hx4) (fun _ => ?_)
 iterate 2 refine au ?_
 refine Ci hF (fun hb6 hF => ?_) (fun hb6 hF => ?_)
 · iterate 4 refine au ?_
   cases hF
   exact Er ()
 iterate 5 refine au ?_
 cases hF
 exact Er ()
def l_eqMethod (a_a : Method) (a_b : Method) : Option (Bool) :=
 if ((a_a.Rel : Int) != a_b.Rel) then (
   some false)
 else (
   (l_eqIntS a_a.Inputs a_b.Inputs).bind fun r3 =>
   if (!r3) then (
     some false)
   else (
     if ((a_a.Limit : Int) != a_b.Limit) then (
       some false)
     else (
       if ((a_a.Cost : Int) != a_b.Cost) then (
         some false)
       else (
         if ((a_a.Quota : Int) != a_b.Quota) then (
           some false)
         else (
           some true)))))
theorem l_eqMethod_ok (a_a : Method) (v0_1 : Sv) (a_b : Method) (v1_1 : Sv) (R : Bool) (hF : l_eqMethod a_a a_b = some R) :
   Fw.Spec Tryz.prog 41 [(.agg [(.int .i64 a_a.Rel), v0_1.v, (.int .i64 a_a.Limit), (.int .i64 a_a.Cost), (.int .i64 a_a.Quota)].toArray), (.agg [(.int .i64 a_b.Rel), v1_1.v, (.int .i64 a_b.Limit), (.int .i64 a_b.Cost), (.int .i64 a_b.Quota)].toArray)] [crd (RdS 3 rdInt) v0_1.v a_a.Inputs, crd (RdS 3 rdInt) v1_1.v a_b.Inputs] (fun _ : Unit => (.bool R)) (fun _ => []) := by
 refine Se 31 Tryz.func41 [.tmp 4] ?_
 intro H0 F0
 unfold l_eqMethod at hF
 refine au ?_
 refine AbR (fun k1 => ?_)
 refine AbR (fun k2 => ?_)
 iterate 10 refine au ?_
 refine Ci hF (fun hb10 hF => ?_) (fun hb10 hF => ?_)
 · iterate 4 refine au ?_
   cases hF
   exact Er ()
 iterate 7 refine au ?_
 refine bnd hF fun r3 hx4 hF => Cx0 (l_eqIntS_ok _ _ _ _ _ hx4) (fun _ => ?_)
 iterate 2 refine au ?_
 refine Ci hF (fun hb9 hF => ?_) (fun hb9 hF => ?_)
 · iterate 4 refine au ?_
   cases hF
   exact Er ()
 iterate 9 refine au ?_
 refine Ci hF (fun hb8 hF => ?_) (fun hb8 hF => ?_)
 · iterate 4 refine au ?_
   cases hF
   exact Er ()
 iterate 9 refine au ?_
 refine Ci hF (fun hb7 hF => ?_) (fun hb7 hF => ?_)
 · iterate 4 refine au ?_
   cases hF
   exact Er ()
 iterate 9 refine au ?_
 refine Ci hF (fun hb6 hF => ?_) (fun hb6 hF => ?_)
 · iterate 4 refine au ?_
   cases hF
   exact Er ()
 iterate 5 refine au ?_
 cases hF
 exact Er ()
def l_eqMethodS_L1 (a_b : List Method) : List Method → Nat → Option (Bool)
 | [], k4 => some true
 | x6 :: rest5, k4 => (ix a_b (k4 : Int)).bind fun x16 =>
   (l_eqMethod x6 x16).bind fun r23 =>
   if (!r23) then (
     some false)
   else (
     l_eqMethodS_L1 a_b rest5 (k4 + 1))
def l_eqMethodS (a_a : List Method) (a_b : List Method) : Option (Bool) :=
 if (((a_a.length : Int) : Int) != (a_b.length : Int)) then (
   some false)
 else (
   l_eqMethodS_L1 a_b a_a 0)
theorem l_eqMethodS_ok (a_a : List Method) (v0_0 : Sv) (a_b : List Method) (v1_0 : Sv) (R : Bool) (hF : l_eqMethodS a_a a_b = some R) :
   Fw.Spec Tryz.prog 16 [v0_0.v, v1_0.v] [crd (RdS 65 rd65) v0_0.v a_a, crd (RdS 65 rd65) v1_0.v a_b] (fun _ : Unit => (.bool R)) (fun _ => []) := by
 refine Se 27 Tryz.func16 [.tmp 4] ?_
 intro H0 F0
 unfold l_eqMethodS at hF
 iterate 11 refine au ?_
 refine Ci hF (fun hb28 hF => ?_) (fun hb28 hF => ?_)
 · iterate 4 refine au ?_
   cases hF
   exact Er ()
 iterate 5 refine au ?_
 refine CW_block (CW_loop (m := a_a.length) (fun m2 f' cs' => ∃ (g : Fr) (k4 : Nat) (rest5 : List Method), m2 = rest5.length ∧ f' = updL g [(0, v0_0.v), (1, v1_0.v), (5, (.int .i64 (k4 : Int)))] ∧ List.drop k4 a_a = rest5 ∧ Ent cs' [crd (RdS 65 rd65) v0_0.v a_a, crd (RdS 65 rd65) v1_0.v a_b] ∧ l_eqMethodS_L1 a_b rest5 k4 = some R) ⟨_, 0, _, rfl, eqA, rfl, entA, hF⟩ ?_)
 rintro m2 _ _ ⟨g3, k4, rest5, rfl, rfl, hd7, hE, hF⟩
 refine Kb hE a_a (fun hbd12 => ?_)
 rcases rest5 with _ | ⟨x6, rest5⟩
 · have hk8 := dn hd7
   rw [l_eqMethodS_L1] at hF
   iterate 7 refine au ?_
   refine CdF ?_
   iterate 8 refine au ?_
   cases hF
   exact Er ()
 obtain ⟨hk8, hx9, hd10⟩ := drop_cons hd7
 rw [l_eqMethodS_L1] at hF
 iterate 7 refine au ?_
 refine CdT ?_
 iterate 2 refine au ?_
 refine K_draw [0, 1, 2, 3, 4, 5, 6, 7, 8, 9] [0, 0, 3, 7, 0, 0, 48, 112, 255, 511] [8] mixed (by decide +kernel) ?_
 iterate 2 refine du ?_
 refine Di hx9 (fun k13 j14 => ?_)
 refine DlA1 (ul65_0_65 x6) la65_0_65 (fun p15 => ?_)
 iterate 2 refine du ?_
 refine bnd hF fun x16 hx17 hF => ?_
 obtain ⟨hp18, hx19⟩ := ix_some hx17
 refine Di hx19 (fun k20 j21 => ?_)
 refine DlA1 (ul65_0_65 x16) la65_0_65 (fun p22 => ?_)
 refine bnd hF fun r23 hx24 hF => Dx0 (l_eqMethod_ok _ _ _ _ _ hx24) (fun _ => ?_)
 iterate 2 refine du ?_
 refine Ci hF (fun hb27 hF => ?_) (fun hb27 hF => ?_)
 · iterate 4 refine au ?_
   cases hF
   exact Er ()
 iterate 6 refine au ?_
 rw [wk k4]
 exact ⟨_, Nat.lt_succ_self _, _, k4 + 1, rest5, rfl, eqA, hd10, entA, hF⟩
def l_eqFact (a_a : Fact) (a_b : Fact) : Option (Bool) :=
 if ((a_a.Rel : Int) != a_b.Rel) then (
   some false)
 else (
   (l_eqIntS a_a.Values a_b.Values).bind fun r3 =>
   if (!r3) then (
     some false)
   else (
     some true))
theorem l_eqFact_ok (a_a : Fact) (v0_1 : Sv) (a_b : Fact) (v1_1 : Sv) (R : Bool) (hF : l_eqFact a_a a_b = some R) :
   Fw.Spec Tryz.prog 18 [(.agg [(.int .i64 a_a.Rel), v0_1.v].toArray), (.agg [(.int .i64 a_b.Rel), v1_1.v].toArray)] [crd (RdS 3 rdInt) v0_1.v a_a.Values, crd (RdS 3 rdInt) v1_1.v a_b.Values] (fun _ : Unit => (.bool R)) (fun _ => []) := by
 refine Se 16 Tryz.func18 [.tmp 4] ?_
 intro H0 F0
 unfold l_eqFact at hF
 refine au ?_
 refine AbR (fun k1 => ?_)
 refine AbR (fun k2 => ?_)
 iterate 10 refine au ?_
 refine Ci hF (fun hb7 hF => ?_) (fun hb7 hF => ?_)
 · iterate 4 refine au ?_
   cases hF
   exact Er ()
 iterate 7 refine au ?_
 refine bnd hF fun r3 hx4 hF => Cx0 (l_eqIntS_ok _ _ _ _ _ hx4) (fun _ => ?_)
 iterate 2 refine au ?_
 refine Ci hF (fun hb6 hF => ?_) (fun hb6 hF => ?_)
 · iterate 4 refine au ?_
   cases hF
   exact Er ()
 iterate 5 refine au ?_
 cases hF
 exact Er ()
def l_eqFactS_L1 (a_b : List Fact) : List Fact → Nat → Option (Bool)
 | [], k4 => some true
 | x6 :: rest5, k4 => (ix a_b (k4 : Int)).bind fun x16 =>
   (l_eqFact x6 x16).bind fun r23 =>
   if (!r23) then (
     some false)
   else (
     l_eqFactS_L1 a_b rest5 (k4 + 1))
def l_eqFactS (a_a : List Fact) (a_b : List Fact) : Option (Bool) :=
 if (((a_a.length : Int) : Int) != (a_b.length : Int)) then (
   some false)
 else (
   l_eqFactS_L1 a_b a_a 0)
theorem l_eqFactS_ok (a_a : List Fact) (v0_0 : Sv) (a_b : List Fact) (v1_0 : Sv) (R : Bool) (hF : l_eqFactS a_a a_b = some R) :
   Fw.Spec Tryz.prog 17 [v0_0.v, v1_0.v] [crd (RdS 39 rd39) v0_0.v a_a, crd (RdS 39 rd39) v1_0.v a_b] (fun _ : Unit => (.bool R)) (fun _ => []) := by
 refine Se 27 Tryz.func17 [.tmp 4] ?_
 intro H0 F0
 unfold l_eqFactS at hF
 iterate 11 refine au ?_
 refine Ci hF (fun hb28 hF => ?_) (fun hb28 hF => ?_)
 · iterate 4 refine au ?_
   cases hF
   exact Er ()
 iterate 5 refine au ?_
 refine CW_block (CW_loop (m := a_a.length) (fun m2 f' cs' => ∃ (g : Fr) (k4 : Nat) (rest5 : List Fact), m2 = rest5.length ∧ f' = updL g [(0, v0_0.v), (1, v1_0.v), (5, (.int .i64 (k4 : Int)))] ∧ List.drop k4 a_a = rest5 ∧ Ent cs' [crd (RdS 39 rd39) v0_0.v a_a, crd (RdS 39 rd39) v1_0.v a_b] ∧ l_eqFactS_L1 a_b rest5 k4 = some R) ⟨_, 0, _, rfl, eqA, rfl, entA, hF⟩ ?_)
 rintro m2 _ _ ⟨g3, k4, rest5, rfl, rfl, hd7, hE, hF⟩
 refine Kb hE a_a (fun hbd12 => ?_)
 rcases rest5 with _ | ⟨x6, rest5⟩
 · have hk8 := dn hd7
   rw [l_eqFactS_L1] at hF
   iterate 7 refine au ?_
   refine CdF ?_
   iterate 8 refine au ?_
   cases hF
   exact Er ()
 obtain ⟨hk8, hx9, hd10⟩ := drop_cons hd7
 rw [l_eqFactS_L1] at hF
 iterate 7 refine au ?_
 refine CdT ?_
 iterate 2 refine au ?_
 refine K_draw [0, 1, 2, 3, 4, 5, 6, 7, 8, 9] [0, 0, 3, 7, 0, 0, 48, 112, 255, 511] [8] mixed (by decide +kernel) ?_
 iterate 2 refine du ?_
 refine Di hx9 (fun k13 j14 => ?_)
 refine DlA1 (ul39_0_39 x6) la39_0_39 (fun p15 => ?_)
 iterate 2 refine du ?_
 refine bnd hF fun x16 hx17 hF => ?_
 obtain ⟨hp18, hx19⟩ := ix_some hx17
 refine Di hx19 (fun k20 j21 => ?_)
 refine DlA1 (ul39_0_39 x16) la39_0_39 (fun p22 => ?_)
 refine bnd hF fun r23 hx24 hF => Dx0 (l_eqFact_ok _ _ _ _ _ hx24) (fun _ => ?_)
 iterate 2 refine du ?_
 refine Ci hF (fun hb27 hF => ?_) (fun hb27 hF => ?_)
 · iterate 4 refine au ?_
   cases hF
   exact Er ()
 iterate 6 refine au ?_
 rw [wk k4]
 exact ⟨_, Nat.lt_succ_self _, _, k4 + 1, rest5, rfl, eqA, hd10, entA, hF⟩
def l_markIntS_L1 : Nat → (List Int) → Int → Int → Option (Int × (List Int))
 | 0, _, _, _ => none
 | m23 + 1, c19, c21, c22 => if (decide ((c22 : Int) < (c19.length : Int))) then (
     (chk (decide (0 ≤ c22) && decide (c22 < (c19.length : Int)))).bind fun u34 =>
     (some (c19.set (c22).toNat c21)).bind fun z36 =>
     l_markIntS_L1 m23 z36 (IntKind.i64.wrap (c21 + 1)) (IntKind.i64.wrap (c22 + 1)))
   else (
     some (c21, c19))
def l_markIntS (a_a : List Int) (a_k : Int) : Option (Int × (List Int)) :=
 l_markIntS_L1 (((a_a.length : Int) - 0).toNat + 2) a_a a_k 0
theorem l_markIntS_ok (a_a : List Int) (v0_0 : Sv) (F0_0 : List Nat) (a_k : Int) (R : Int × (List Int)) (hF : l_markIntS a_a a_k = some R) :
   Fw.Spec Tryz.prog 19 [v0_0.v, (.int .i64 a_k)] [cown (OwnS 3 (roE rdInt)) F0_0 v0_0.v a_a] (fun _ : List Nat => (.int .i64 R.1)) (fun p => [cown (OwnS 3 (roE rdInt)) p v0_0.v R.2]) := by
 refine Se 19 Tryz.func19 [.tmp 4] ?_
 intro H0 F0
 unfold l_markIntS at hF
 iterate 7 refine au ?_
 refine CW_block (CW_loop (m := (((a_a.length : Int) - 0).toNat + 2)) (fun m23 f' cs' => ∃ (g : Fr) (c19 : List Int) (c21 : Int) (c22 : Int) (F20 : List Nat), f' = updL g [(0, v0_0.v), (1, (.int .i64 c21)), (5, (.int .i64 c22))] ∧ Ent cs' [cown (OwnS 3 (roE rdInt)) F20 v0_0.v c19] ∧ l_markIntS_L1 m23 c19 c21 c22 = some R) ⟨_, _, _, _, F0_0, eqA, entA, hF⟩ ?_)
 rintro m23 _ _ ⟨g24, c19, c21, c22, F20, rfl, hE, hF⟩
 refine K_ent hE ?_
 rcases m23 with _ | m23
 · rw [l_markIntS_L1] at hF
   exact absurd hF (by simp)
 rw [l_markIntS_L1] at hF
 iterate 7 refine au ?_
 refine Ci hF (fun hb39 hF => ?_) (fun hb39 hF => ?_)
 · iterate 6 refine au ?_
   refine bnd hF fun u34 hx35 hF => ?_
   have hi33 := chk_some hx35
   refine C_idxO sl22.h ty3.h.sz (.tmp rfl rfl) (.tmp rfl rfl) .h hi33 (fun k31 hk32 => ?_)
   refine bnd hF fun z36 hx37 hF => ?_
   replace hx37 := Option.some.inj hx37
   refine C_x1 (.cons .h .nil) (X_storeO (Ro := (roE rdInt)) (a := c21) (i := c22) ty3.h.sz rfl (.tmp rfl rfl) (.tmp rfl rfl) hk32 hi33 (Mk_pure (fun _ => rfl)) (fun _ _ _ _ h => by obtain ⟨-, h⟩ := h; cases h; rfl)) (fun F38 => ?_)
   rw [hx37]
   iterate 11 refine au ?_
   exact ⟨m23, Nat.lt_succ_self _, _, _, _, _, F38, eqA, entA, hF⟩
 iterate 9 refine au ?_
 cases hF
 exact Er F20
def l_markMethodS_L1 : Nat → (List Method) → Int → Int → Option (Int × (List Method))
 | 0, _, _, _ => none
 | m64 + 1, c60, c62, c63 => if (decide ((c63 : Int) < (c60.length : Int))) then (
     (ix c60 c63).bind fun x75 =>
     (some (c60.set (c63).toNat { x75 with Rel := c62 })).bind fun z79 =>
     (ix z79 c63).bind fun x84 =>
     (l_markIntS x84.Inputs (IntKind.i64.wrap (c62 + 1))).bind fun r89 =>
     (some (z79.set (c63).toNat { x84 with Inputs := r89.2 })).bind fun z92 =>
     (ix z92 c63).bind fun x97 =>
     (some (z92.set (c63).toNat { x97 with Limit := r89.1 })).bind fun z101 =>
     (ix z101 c63).bind fun x106 =>
     (some (z101.set (c63).toNat { x106 with Cost := (IntKind.i64.wrap (r89.1 + 1)) })).bind fun z110 =>
     (ix z110 c63).bind fun x115 =>
     (some (z110.set (c63).toNat { x115 with Quota := (IntKind.i64.wrap ((IntKind.i64.wrap (r89.1 + 1)) + 1)) })).bind fun z119 =>
     l_markMethodS_L1 m64 z119 (IntKind.i64.wrap ((IntKind.i64.wrap ((IntKind.i64.wrap (r89.1 + 1)) + 1)) + 1)) (IntKind.i64.wrap (c63 + 1)))
   else (
     some (c62, c60))
def l_markMethodS (a_a : List Method) (a_k : Int) : Option (Int × (List Method)) :=
 l_markMethodS_L1 (((a_a.length : Int) - 0).toNat + 2) a_a a_k 0
theorem l_markMethodS_ok (a_a : List Method) (v0_0 : Sv) (F0_0 : List Nat) (a_k : Int) (R : Int × (List Method)) (hF : l_markMethodS a_a a_k = some R) :
   Fw.Spec Tryz.prog 20 [v0_0.v, (.int .i64 a_k)] [cown (OwnS 65 ow65) F0_0 v0_0.v a_a] (fun _ : List Nat => (.int .i64 R.1)) (fun p => [cown (OwnS 65 ow65) p v0_0.v R.2]) := by
 refine Se 48 Tryz.func20 [.tmp 4] ?_
 intro H0 F0
 unfold l_markMethodS at hF
 iterate 7 refine au ?_
 refine CW_block (CW_loop (m := (((a_a.length : Int) - 0).toNat + 2)) (fun m64 f' cs' => ∃ (g : Fr) (c60 : List Method) (c62 : Int) (c63 : Int) (F61 : List Nat), f' = updL g [(0, v0_0.v), (1, (.int .i64 c62)), (5, (.int .i64 c63))] ∧ Ent cs' [cown (OwnS 65 ow65) F61 v0_0.v c60] ∧ l_markMethodS_L1 m64 c60 c62 c63 = some R) ⟨_, _, _, _, F0_0, eqA, entA, hF⟩ ?_)
 rintro m64 _ _ ⟨g65, c60, c62, c63, F61, rfl, hE, hF⟩
 refine K_ent hE ?_
 rcases m64 with _ | m64
 · rw [l_markMethodS_L1] at hF
   exact absurd hF (by simp)
 rw [l_markMethodS_L1] at hF
 iterate 7 refine au ?_
 refine Ci hF (fun hb121 hF => ?_) (fun hb121 hF => ?_)
 · iterate 6 refine au ?_
   refine bnd hF fun x75 hx76 hF => ?_
   have hi74 := ix_chk hx76
   obtain ⟨hp77, hx78⟩ := ix_some hx76
   refine C_idxO sl35.h ty65.h.sz (.tmp rfl rfl) (.tmp rfl rfl) .h hi74 (fun k72 hk73 => ?_)
   refine au ?_
   refine bnd hF fun z79 hx80 hF => ?_
   replace hx80 := Option.some.inj hx80
   refine C_x1 (.cons .h .nil) (X_storeF (Ro := ow65) (i := c63) ty3.h.sz rfl (.tmp rfl rfl) (.tmp rfl rfl) hk73 hx78 rfl rfl fsf65_0 (sf65_0 (d := c62))) (fun _ => ?_)
   rw [hx80]
   iterate 9 refine au ?_
   refine bnd hF fun x84 hx85 hF => ?_
   have hi83 := ix_chk hx85
   obtain ⟨hp86, hx87⟩ := ix_some hx85
   refine C_idxO sl35.h ty65.h.sz (.tmp rfl rfl) (.tmp rfl rfl) .h hi83 (fun k81 hk82 => ?_)
   refine au ?_
   refine C_ldOV ag22.h (.tmp rfl rfl) .h hk82 hx87 pt65_1 (fun w88 => ?_)
   refine au ?_
   refine bnd hF fun r89 hx90 hF => ?_
   refine bnd hF fun z92 hx93 hF => ?_
   replace hx93 := Option.some.inj hx93
   refine C_x1 (.cons .h .nil) (X_part hx87 pt65_1 (fun Fw => X_callS cf19.h (.cons (.tmp rfl rfl) (.cons (.tmp rfl rfl) .nil)) (l_markIntS_ok x84.Inputs w88 Fw (IntKind.i64.wrap (c62 + 1)) _ hx90)) rfl) (fun p91 => ?_)
   rw [hx93]
   iterate 6 refine au ?_
   refine bnd hF fun x97 hx98 hF => ?_
   have hi96 := ix_chk hx98
   obtain ⟨hp99, hx100⟩ := ix_some hx98
   refine C_idxO sl35.h ty65.h.sz (.tmp rfl rfl) (.tmp rfl rfl) .h hi96 (fun k94 hk95 => ?_)
   refine au ?_
   refine bnd hF fun z101 hx102 hF => ?_
   replace hx102 := Option.some.inj hx102
   refine C_x1 (.cons .h .nil) (X_storeF (Ro := ow65) (i := c63) ty3.h.sz rfl (.tmp rfl rfl) (.tmp rfl rfl) hk95 hx100 rfl rfl fsf65_2 (sf65_2 (d := r89.1))) (fun _ => ?_)
   rw [hx102]
   iterate 10 refine au ?_
   refine bnd hF fun x106 hx107 hF => ?_
   have hi105 := ix_chk hx107
   obtain ⟨hp108, hx109⟩ := ix_some hx107
   refine C_idxO sl35.h ty65.h.sz (.tmp rfl rfl) (.tmp rfl rfl) .h hi105 (fun k103 hk104 => ?_)
   refine au ?_
   refine bnd hF fun z110 hx111 hF => ?_
   replace hx111 := Option.some.inj hx111
   refine C_x1 (.cons .h .nil) (X_storeF (Ro := ow65) (i := c63) ty3.h.sz rfl (.tmp rfl rfl) (.tmp rfl rfl) hk104 hx109 rfl rfl fsf65_3 (sf65_3 (d := (IntKind.i64.wrap (r89.1 + 1))))) (fun _ => ?_)
   rw [hx111]
   iterate 10 refine au ?_
   refine bnd hF fun x115 hx116 hF => ?_
   have hi114 := ix_chk hx116
   obtain ⟨hp117, hx118⟩ := ix_some hx116
   refine C_idxO sl35.h ty65.h.sz (.tmp rfl rfl) (.tmp rfl rfl) .h hi114 (fun k112 hk113 => ?_)
   refine au ?_
   refine bnd hF fun z119 hx120 hF => ?_
   replace hx120 := Option.some.inj hx120
   refine C_x1 (.cons .h .nil) (X_storeF (Ro := ow65) (i := c63) ty3.h.sz rfl (.tmp rfl rfl) (.tmp rfl rfl) hk113 hx118 rfl rfl fsf65_4 (sf65_4 (d := (IntKind.i64.wrap ((IntKind.i64.wrap (r89.1 + 1)) + 1))))) (fun _ => ?_)
   rw [hx120]
   iterate 11 refine au ?_
   exact ⟨m64, Nat.lt_succ_self _, _, _, _, _, p91.2, eqA, entA, hF⟩
 iterate 9 refine au ?_
 cases hF
 exact Er F61
def l_markFactS_L1 : Nat → (List Fact) → Int → Int → Option (Int × (List Fact))
 | 0, _, _, _ => none
 | m37 + 1, c33, c35, c36 => if (decide ((c36 : Int) < (c33.length : Int))) then (
     (ix c33 c36).bind fun x48 =>
     (some (c33.set (c36).toNat { x48 with Rel := c35 })).bind fun z52 =>
     (ix z52 c36).bind fun x57 =>
     (l_markIntS x57.Values (IntKind.i64.wrap (c35 + 1))).bind fun r62 =>
     (some (z52.set (c36).toNat { x57 with Values := r62.2 })).bind fun z65 =>
     l_markFactS_L1 m37 z65 r62.1 (IntKind.i64.wrap (c36 + 1)))
   else (
     some (c35, c33))
def l_markFactS (a_a : List Fact) (a_k : Int) : Option (Int × (List Fact)) :=
 l_markFactS_L1 (((a_a.length : Int) - 0).toNat + 2) a_a a_k 0
theorem l_markFactS_ok (a_a : List Fact) (v0_0 : Sv) (F0_0 : List Nat) (a_k : Int) (R : Int × (List Fact)) (hF : l_markFactS a_a a_k = some R) :
   Fw.Spec Tryz.prog 21 [v0_0.v, (.int .i64 a_k)] [cown (OwnS 39 ow39) F0_0 v0_0.v a_a] (fun _ : List Nat => (.int .i64 R.1)) (fun p => [cown (OwnS 39 ow39) p v0_0.v R.2]) := by
 refine Se 27 Tryz.func21 [.tmp 4] ?_
 intro H0 F0
 unfold l_markFactS at hF
 iterate 7 refine au ?_
 refine CW_block (CW_loop (m := (((a_a.length : Int) - 0).toNat + 2)) (fun m37 f' cs' => ∃ (g : Fr) (c33 : List Fact) (c35 : Int) (c36 : Int) (F34 : List Nat), f' = updL g [(0, v0_0.v), (1, (.int .i64 c35)), (5, (.int .i64 c36))] ∧ Ent cs' [cown (OwnS 39 ow39) F34 v0_0.v c33] ∧ l_markFactS_L1 m37 c33 c35 c36 = some R) ⟨_, _, _, _, F0_0, eqA, entA, hF⟩ ?_)
 rintro m37 _ _ ⟨g38, c33, c35, c36, F34, rfl, hE, hF⟩
 refine K_ent hE ?_
 rcases m37 with _ | m37
 · rw [l_markFactS_L1] at hF
   exact absurd hF (by simp)
 rw [l_markFactS_L1] at hF
 iterate 7 refine au ?_
 refine Ci hF (fun hb67 hF => ?_) (fun hb67 hF => ?_)
 · iterate 6 refine au ?_
   refine bnd hF fun x48 hx49 hF => ?_
   have hi47 := ix_chk hx49
   obtain ⟨hp50, hx51⟩ := ix_some hx49
   refine C_idxO sl37.h ty39.h.sz (.tmp rfl rfl) (.tmp rfl rfl) .h hi47 (fun k45 hk46 => ?_)
   refine au ?_
   refine bnd hF fun z52 hx53 hF => ?_
   replace hx53 := Option.some.inj hx53
   refine C_x1 (.cons .h .nil) (X_storeF (Ro := ow39) (i := c36) ty3.h.sz rfl (.tmp rfl rfl) (.tmp rfl rfl) hk46 hx51 rfl rfl fsf39_0 (sf39_0 (d := c35))) (fun _ => ?_)
   rw [hx53]
   iterate 9 refine au ?_
   refine bnd hF fun x57 hx58 hF => ?_
   have hi56 := ix_chk hx58
   obtain ⟨hp59, hx60⟩ := ix_some hx58
   refine C_idxO sl37.h ty39.h.sz (.tmp rfl rfl) (.tmp rfl rfl) .h hi56 (fun k54 hk55 => ?_)
   refine au ?_
   refine C_ldOV ag22.h (.tmp rfl rfl) .h hk55 hx60 pt39_1 (fun w61 => ?_)
   refine au ?_
   refine bnd hF fun r62 hx63 hF => ?_
   refine bnd hF fun z65 hx66 hF => ?_
   replace hx66 := Option.some.inj hx66
   refine C_x1 (.cons .h .nil) (X_part hx60 pt39_1 (fun Fw => X_callS cf19.h (.cons (.tmp rfl rfl) (.cons (.tmp rfl rfl) .nil)) (l_markIntS_ok x57.Values w61 Fw (IntKind.i64.wrap (c35 + 1)) _ hx63)) rfl) (fun p64 => ?_)
   rw [hx66]
   iterate 7 refine au ?_
   exact ⟨m37, Nat.lt_succ_self _, _, _, _, _, p64.2, eqA, entA, hF⟩
 iterate 9 refine au ?_
 cases hF
 exact Er F34
def l_markFact (a_a : Fact) (a_k : Int) : Option (Int × Fact) :=
 (l_markIntS a_a.Values a_k).bind fun r2 =>
 some (r2.1, ({ Rel := a_a.Rel, Values := r2.2 } : Fact))
theorem l_markFact_ok (a_a : Fact) (v0_1 : Sv) (F0_1 : List Nat) (a_k : Int) (R : Int × Fact) (hF : l_markFact a_a a_k = some R) :
   Fw.Spec Tryz.prog 22 [(.agg [(.int .i64 a_a.Rel), v0_1.v].toArray), (.int .i64 a_k)] [cown (OwnS 3 (roE rdInt)) F0_1 v0_1.v a_a.Values] (fun _ : List Nat => (.int .i64 R.1)) (fun p => [cown (OwnS 3 (roE rdInt)) p v0_1.v R.2.Values]) := by
 refine Se 10 Tryz.func22 [.tmp 4] ?_
 intro H0 F0
 unfold l_markFact at hF
 refine au ?_
 refine AbR (fun k1 => ?_)
 iterate 6 refine au ?_
 refine bnd hF fun r2 hx3 hF => Cx1 (l_markIntS_ok _ _ _ _ _ hx3) (fun p4 => ?_)
 iterate 7 refine au ?_
 cases hF
 exact Er p4
def l_markAccess (a_a : Access) (a_k : Int) : Option (Int × Access) :=
 (l_markIntS a_a.Values a_k).bind fun r2 =>
 some (r2.1, ({ Method := a_a.Method, Values := r2.2 } : Access))
theorem l_markAccess_ok (a_a : Access) (v0_1 : Sv) (F0_1 : List Nat) (a_k : Int) (R : Int × Access) (hF : l_markAccess a_a a_k = some R) :
   Fw.Spec Tryz.prog 23 [(.agg [(.int .i64 a_a.Method), v0_1.v].toArray), (.int .i64 a_k)] [cown (OwnS 3 (roE rdInt)) F0_1 v0_1.v a_a.Values] (fun _ : List Nat => (.int .i64 R.1)) (fun p => [cown (OwnS 3 (roE rdInt)) p v0_1.v R.2.Values]) := by
 refine Se 10 Tryz.func23 [.tmp 4] ?_
 intro H0 F0
 unfold l_markAccess at hF
 refine au ?_
 refine AbR (fun k1 => ?_)
 iterate 6 refine au ?_
 refine bnd hF fun r2 hx3 hF => Cx1 (l_markIntS_ok _ _ _ _ _ hx3) (fun p4 => ?_)
 iterate 7 refine au ?_
 cases hF
 exact Er p4
def l_heldIntS_L1 : List Int → Nat → Int → Option (Int)
 | [], k5, c1 => some c1
 | x7 :: rest6, k5, c1 => if ((x7 : Int) != c1) then (
     some (-1))
   else (
     l_heldIntS_L1 rest6 (k5 + 1) (IntKind.i64.wrap (c1 + 1)))
def l_heldIntS (a_a : List Int) (a_k : Int) : Option (Int) :=
 l_heldIntS_L1 a_a 0 a_k
theorem l_heldIntS_ok (a_a : List Int) (v0_0 : Sv) (a_k : Int) (R : Int) (hF : l_heldIntS a_a a_k = some R) :
   Fw.Spec Tryz.prog 42 [v0_0.v, (.int .i64 a_k)] [crd (RdS 3 rdInt) v0_0.v a_a] (fun _ : Unit => (.int .i64 R)) (fun _ => []) := by
 refine Se 21 Tryz.func42 [.tmp 4] ?_
 intro H0 F0
 unfold l_heldIntS at hF
 iterate 7 refine au ?_
 refine CW_block (CW_loop (m := a_a.length) (fun m3 f' cs' => ∃ (g : Fr) (k5 : Nat) (rest6 : List Int) (c1 : Int), m3 = rest6.length ∧ f' = updL g [(0, v0_0.v), (1, (.int .i64 c1)), (5, (.int .i64 (k5 : Int)))] ∧ List.drop k5 a_a = rest6 ∧ Ent cs' [crd (RdS 3 rdInt) v0_0.v a_a] ∧ l_heldIntS_L1 rest6 k5 c1 = some R) ⟨_, 0, _, _, rfl, eqA, rfl, entA, hF⟩ ?_)
 rintro m3 _ _ ⟨g4, k5, rest6, c1, rfl, rfl, hd8, hE, hF⟩
 refine Kb hE a_a (fun hbd13 => ?_)
 rcases rest6 with _ | ⟨x7, rest6⟩
 · have hk9 := dn hd8
   rw [l_heldIntS_L1] at hF
   iterate 7 refine au ?_
   refine CdF ?_
   iterate 9 refine au ?_
   cases hF
   exact Er ()
 obtain ⟨hk9, hx10, hd11⟩ := drop_cons hd8
 rw [l_heldIntS_L1] at hF
 iterate 7 refine au ?_
 refine CdT ?_
 iterate 6 refine au ?_
 refine Ai hx10 (fun k14 j15 => ?_)
 refine Al ls3_0 ?_
 iterate 3 refine au ?_
 refine Ci hF (fun hb17 hF => ?_) (fun hb17 hF => ?_)
 · iterate 4 refine au ?_
   cases hF
   exact Er ()
 iterate 11 refine au ?_
 rw [wk k5]
 exact ⟨_, Nat.lt_succ_self _, _, k5 + 1, rest6, _, rfl, eqA, hd11, entA, hF⟩
def l_heldAccess (a_a : Access) (a_k : Int) : Option (Int) :=
 (l_heldIntS a_a.Values a_k).bind fun r2 =>
 if (decide ((r2 : Int) < 0)) then (
   some (-1))
 else (
   some r2)
theorem l_heldAccess_ok (a_a : Access) (v0_1 : Sv) (a_k : Int) (R : Int) (hF : l_heldAccess a_a a_k = some R) :
   Fw.Spec Tryz.prog 24 [(.agg [(.int .i64 a_a.Method), v0_1.v].toArray), (.int .i64 a_k)] [crd (RdS 3 rdInt) v0_1.v a_a.Values] (fun _ : Unit => (.int .i64 R)) (fun _ => []) := by
 refine Se 12 Tryz.func24 [.tmp 4] ?_
 intro H0 F0
 unfold l_heldAccess at hF
 refine au ?_
 refine AbR (fun k1 => ?_)
 iterate 6 refine au ?_
 refine bnd hF fun r2 hx3 hF => Cx0 (l_heldIntS_ok _ _ _ _ hx3) (fun _ => ?_)
 iterate 7 refine au ?_
 refine Ci hF (fun hb5 hF => ?_) (fun hb5 hF => ?_)
 · iterate 4 refine au ?_
   cases hF
   exact Er ()
 iterate 6 refine au ?_
 cases hF
 exact Er ()
def l_FnExactWhyReached (a_aS : List Int) (a_aL : List Method) (a_aFacts : List Fact) (a_aSeeds : List Int) (a_aF : Fact) : Option (Bool) :=
 if (decide ((1048576 : Int) < (a_aS.length : Int))) then (
   some true)
 else (
   if (decide ((1048576 : Int) < (a_aSeeds.length : Int))) then (
     some true)
   else (
     (l_szMethodS a_aL 1048576).bind fun r2 =>
     if (decide ((r2 : Int) < 0)) then (
       some true)
     else (
       (l_szFactS a_aFacts r2).bind fun r5 =>
       if (decide ((r5 : Int) < 0)) then (
         some true)
       else (
         (l_szFact a_aF r5).bind fun r8 =>
         if (decide ((r8 : Int) < 0)) then (
           some true)
         else (
           (l_toIntS a_aS).bind fun r12 =>
           (l_toMethodS a_aL).bind fun r15 =>
           (l_toFactS a_aFacts).bind fun r18 =>
           (l_toIntS a_aSeeds).bind fun r21 =>
           (l_toFact a_aF).bind fun r24 =>
           (s_WhyReached r12 r15 r18 r21 r24).bind fun r27 =>
           (l_toIntS a_aS).bind fun r30 =>
           (l_toMethodS a_aL).bind fun r33 =>
           (l_toFactS a_aFacts).bind fun r36 =>
           (l_toIntS a_aSeeds).bind fun r39 =>
           (l_toFact a_aF).bind fun r42 =>
           (i_WhyReached r30 r33 r36 r39 r42).bind fun r46 =>
           ((l_eqAccess r46.1 r27.1).bind fun r52 =>
             bif (!r52) then (some true)
             else (some (!(r46.2 == r27.2)))).bind fun o50 =>
           match o50 with
           | c56 => if c56 then (
               some false)
             else (
               (l_toIntS a_aS).bind fun r57 =>
               (l_eqIntS r30 r57).bind fun r60 =>
               if (!r60) then (
                 some false)
               else (
                 (l_toMethodS a_aL).bind fun r63 =>
                 (l_eqMethodS r33 r63).bind fun r66 =>
                 if (!r66) then (
                   some false)
                 else (
                   (l_toFactS a_aFacts).bind fun r69 =>
                   (l_eqFactS r36 r69).bind fun r72 =>
                   if (!r72) then (
                     some false)
                   else (
                     (l_toIntS a_aSeeds).bind fun r75 =>
                     (l_eqIntS r39 r75).bind fun r78 =>
                     if (!r78) then (
                       some false)
                     else (
                       (l_toFact a_aF).bind fun r81 =>
                       (l_eqFact r42 r81).bind fun r84 =>
                       if (!r84) then (
                         some false)
                       else (
                         (l_markIntS r30 1).bind fun r87 =>
                         (l_markMethodS r33 r87.1).bind fun r90 =>
                         (l_markFactS r36 r90.1).bind fun r93 =>
                         (l_markIntS r39 r93.1).bind fun r96 =>
                         (l_markFact r42 r96.1).bind fun r99 =>
                         (bif (decide ((r99.1 : Int) < 0)) then (some true)
                           else ((l_eqAccess r46.1 r27.1).bind fun r105 =>
                             bif (!r105) then (some true)
                             else (some (!(r46.2 == r27.2))))).bind fun o102 =>
                         match o102 with
                         | c109 => if c109 then (
                             some false)
                           else (
                             (l_markAccess r46.1 1).bind fun r110 =>
                             (l_heldAccess ({ Method := r46.1.Method, Values := r110.2.Values } : Access) 1).bind fun r113 =>
                             if (decide ((r113 : Int) < 0)) then (
                               some false)
                             else (
                               if ((r113 : Int) != r110.1) then (
                                 some false)
                               else (
                                 (l_toIntS a_aS).bind fun r117 =>
                                 (l_toMethodS a_aL).bind fun r120 =>
                                 (l_toFactS a_aFacts).bind fun r123 =>
                                 (l_toIntS a_aSeeds).bind fun r126 =>
                                 (l_toFact a_aF).bind fun r129 =>
                                 (i_WhyReached r117 r120 r123 r126 r129).bind fun r132 =>
                                 ((l_eqAccess r132.1 r27.1).bind fun r137 =>
                                   bif (!r137) then (some true)
                                   else (some (!(r132.2 == r27.2)))).bind fun o135 =>
                                 match o135 with
                                 | c141 => if c141 then (
                                     some false)
                                   else (
                                     (l_heldAccess ({ Method := r46.1.Method, Values := r110.2.Values } : Access) 1).bind fun r142 =>
                                     if (decide ((r142 : Int) < 0)) then (
                                       some false)
                                     else (
                                       if ((r142 : Int) != r110.1) then (
                                         some false)
                                       else (
                                         some true)))))))))))))))))
theorem l_FnExactWhyReached_ok (a_aS : List Int) (v0_0 : Sv) (a_aL : List Method) (v1_0 : Sv) (a_aFacts : List Fact) (v2_0 : Sv) (a_aSeeds : List Int) (v3_0 : Sv) (a_aF : Fact) (v4_1 : Sv) (R : Bool) (hF : l_FnExactWhyReached a_aS a_aL a_aFacts a_aSeeds a_aF = some R) :
   Fw.Spec Tryz.prog 3 [v0_0.v, v1_0.v, v2_0.v, v3_0.v, (.agg [(.int .i64 a_aF.Rel), v4_1.v].toArray)] [crd (RdS 3 rdInt) v0_0.v a_aS, crd (RdS 61 rd61) v1_0.v a_aL, crd (RdS 26 rd26) v2_0.v a_aFacts, crd (RdS 3 rdInt) v3_0.v a_aSeeds, crd (RdS 3 rdInt) v4_1.v a_aF.Values] (fun _ : Unit => (.bool R)) (fun _ => []) := by
 refine Se 184 Tryz.func3 [.tmp 10] ?_
 intro H0 F0
 unfold l_FnExactWhyReached at hF
 refine au ?_
 refine AbR (fun k1 => ?_)
 iterate 8 refine au ?_
 refine Ci hF (fun hb164 hF => ?_) (fun hb164 hF => ?_)
 · iterate 4 refine au ?_
   cases hF
   exact Er ()
 iterate 7 refine au ?_
 refine Ci hF (fun hb163 hF => ?_) (fun hb163 hF => ?_)
 · iterate 4 refine au ?_
   cases hF
   exact Er ()
 iterate 7 refine au ?_
 refine bnd hF fun r2 hx3 hF => Cx0 (l_szMethodS_ok _ _ _ _ hx3) (fun _ => ?_)
 iterate 7 refine au ?_
 refine Ci hF (fun hb162 hF => ?_) (fun hb162 hF => ?_)
 · iterate 4 refine au ?_
   cases hF
   exact Er ()
 iterate 4 refine au ?_
 refine bnd hF fun r5 hx6 hF => Cx0 (l_szFactS_ok _ _ _ _ hx6) (fun _ => ?_)
 iterate 7 refine au ?_
 refine Ci hF (fun hb161 hF => ?_) (fun hb161 hF => ?_)
 · iterate 4 refine au ?_
   cases hF
   exact Er ()
 iterate 4 refine au ?_
 refine bnd hF fun r8 hx9 hF => Cx0 (l_szFact_ok _ _ _ _ hx9) (fun _ => ?_)
 iterate 7 refine au ?_
 refine Ci hF (fun hb160 hF => ?_) (fun hb160 hF => ?_)
 · iterate 4 refine au ?_
   cases hF
   exact Er ()
 refine au ?_
 refine K_draw [0, 2, 4, 6, 8, 14, 1, 3, 5, 7, 9, 10, 11, 12, 13, 15, 16] [0, 1, 0, 7, 0, 31, 0, 127, 0, 511, 1023, 2047, 4095, 4095, 0, 24575, 65535] [1, 3, 5, 7, 9, 10, 15] mixed (by decide +kernel) ?_
 iterate 5 refine du ?_
 refine D_new rfl .no rfl (fun ha => N_allocT (g := true) ty31.h rfl rfl) (fun k11 => ?_)
 refine bnd hF fun r12 hx13 hF => D_act1 rfl rfl .no (.rd (.t (.t .h)) rfl .nil) (.own .h (fun _ h => h) .nil) (fun ha => X_callS cf9.h (.cons (EN ha (.tmp rfl rfl) rfl) .nil) (l_toIntS_ok a_aS v0_0 _ hx13)) (fun p14 => ?_)
 refine bnd hF fun r15 hx16 hF => D_act1 rfl rfl .no (.rd (.t (.t (.t (.t .h)))) rfl .nil) (.own (.t .h) (fun _ h => h) .nil) (fun ha => X_callS cf10.h (.cons (EN ha (.tmp rfl rfl) rfl) .nil) (l_toMethodS_ok a_aL v1_0 _ hx16)) (fun p17 => ?_)
 refine bnd hF fun r18 hx19 hF => D_act1 rfl rfl .no (.rd (.t (.t (.t (.t (.t (.t .h)))))) rfl .nil) (.own (.t (.t .h)) (fun _ h => h) .nil) (fun ha => X_callS cf11.h (.cons (EN ha (.tmp rfl rfl) rfl) .nil) (l_toFactS_ok a_aFacts v2_0 _ hx19)) (fun p20 => ?_)
 refine bnd hF fun r21 hx22 hF => D_act1 rfl rfl .no (.rd (.t (.t (.t (.t (.t (.t (.t (.t .h)))))))) rfl .nil) (.own (.t (.t (.t .h))) (fun _ h => h) .nil) (fun ha => X_callS cf9.h (.cons (EN ha (.tmp rfl rfl) rfl) .nil) (l_toIntS_ok a_aSeeds v3_0 _ hx22)) (fun p23 => ?_)
 refine bnd hF fun r24 hx25 hF => D_act1 rfl rfl .no (.rd (.t (.t (.t (.t (.t (.t (.t (.t (.t (.t .h)))))))))) rfl .nil) (.own (.t (.t (.t (.t .h)))) (fun _ h => h) .nil) (fun ha => X_callS cf12.h (.cons (EN ha (.tmp rfl rfl) rfl) .nil) (l_toFact_ok a_aF v4_1 _ hx25)) (fun p26 => ?_)
 refine bnd hF fun r27 hx28 hF => D_act6 rfl rfl .no (.cons .h (.cons .h (.cons .h (.cons .h (.cons .h .nil))))) (.own .h (fun _ h => h) .nil) (fun ha => XC_borL (pre := []) (.cons frz_own (.cons frz_own (.cons frz_own (.cons frz_own (.cons frz_own .nil))))) (fun _ => (.cons .nil)) (X_callS cf8.h (.cons (EN ha (.tmp rfl rfl) rfl) (.cons (EN ha (.tmp rfl rfl) rfl) (.cons (EN ha (.tmp rfl rfl) rfl) (.cons (EN ha (.tmp rfl rfl) rfl) (.cons (EN ha (.tmp rfl rfl) rfl) .nil))))) (s_WhyReached_ok r12 p14.1 r15 p17.1 r18 p20.1 r21 p23.1 r24 p26.1 _ hx28))) (fun p29 => ?_)
 refine du ?_
 refine D_val rfl .no (fun ha => V_extract (l := [(.agg [(.int .i64 r27.1.Method), p29.1.v].toArray), (.bool r27.2)]) (v := (.agg [(.int .i64 r27.1.Method), p29.1.v].toArray)) (EN ha (.tmp rfl rfl) rfl) rfl) ?_
 refine D_val rfl .no (fun ha => V_extract (l := [(.agg [(.int .i64 r27.1.Method), p29.1.v].toArray), (.bool r27.2)]) (v := (.bool r27.2)) (EN ha (.tmp rfl rfl) rfl) rfl) ?_
 refine D_act1 rfl rfl .no (.cons (.t (.t (.t (.t (.t (.t .h)))))) .nil) (.dep rfl .nil) (fun ha => X_storeB (e' := (.agg [(.int .i64 r27.1.Method), p29.1.v].toArray)) (v := (.agg [(.int .i64 r27.1.Method), p29.1.v].toArray)) ty31.h.sz (EN ha (.tmp rfl rfl) rfl) (EN ha (.tmp rfl rfl) rfl) rfl rfl rfl rfl rfl) (fun _ => ?_)
 iterate 2 refine du ?_
 iterate 2 refine au ?_
 refine bnd hF fun r30 hx31 hF => Cx1 (l_toIntS_ok _ _ _ hx31) (fun p32 => ?_)
 iterate 4 refine au ?_
 refine bnd hF fun r33 hx34 hF => Cx1 (l_toMethodS_ok _ _ _ hx34) (fun p35 => ?_)
 iterate 4 refine au ?_
 refine bnd hF fun r36 hx37 hF => Cx1 (l_toFactS_ok _ _ _ hx37) (fun p38 => ?_)
 iterate 4 refine au ?_
 refine bnd hF fun r39 hx40 hF => Cx1 (l_toIntS_ok _ _ _ hx40) (fun p41 => ?_)
 iterate 4 refine au ?_
 refine bnd hF fun r42 hx43 hF => Cx1 (l_toFact_ok _ _ _ hx43) (fun p44 => ?_)
 refine AnW (fun k45 => ?_)
 refine As (.agg [(.int .i64 r42.Rel), p44.1.v].toArray) ?_
 iterate 7 refine au ?_
 refine bnd hF fun r46 hx47 hF => C_x6 (.cons (.t .h) (.cons (.t .h) (.cons (.t .h) (.cons (.t .h) (.cons (.t .h) .nil))))) (XC_borL (pre := []) (.cons frz_own (.cons frz_own (.cons frz_own (.cons frz_own (.cons frz_own .nil))))) (fun _ => (.cons .nil)) (X_callS cf13.h (.cons (.tmp rfl rfl) (.cons (.tmp rfl rfl) (.cons (.tmp rfl rfl) (.cons (.tmp rfl rfl) (.cons (.tmp rfl rfl) .nil))))) (i_WhyReached_ok r30 p32.1 r33 p35.1 r36 p38.1 r39 p41.1 r42 p44.1 _ hx47))) (fun p48 => ?_)
 refine au ?_
 refine C_val (V_extract (l := [(.agg [(.int .i64 r46.1.Method), p48.1.v].toArray), (.bool r46.2)]) (v := (.agg [(.int .i64 r46.1.Method), p48.1.v].toArray)) (.tmp rfl rfl) rfl) ?_
 refine C_val (V_extract (l := [(.agg [(.int .i64 r46.1.Method), p48.1.v].toArray), (.bool r46.2)]) (v := (.bool r46.2)) (.tmp rfl rfl) rfl) ?_
 refine AnW (fun k49 => ?_)
 refine As (.agg [(.int .i64 r46.1.Method), p48.1.v].toArray) ?_
 iterate 3 refine au ?_
 obtain ⟨o50, hio50, hO51⟩ := bind_some hF
 refine au ?_
 refine C_cut (fun f' cs' => ∃ (c56 : Bool) (g : Fr), c56 = o50 ∧ f' = updL g [(0, v0_0.v), (1, v1_0.v), (2, v2_0.v), (3, v3_0.v), (9, (pz k1)), (12, (pz k11)), (13, (.bool r27.2)), (14, p32.1.v), (15, p35.1.v), (16, p38.1.v), (17, p41.1.v), (18, (pz k45)), (19, (pz k49)), (20, (.bool r46.2)), (88, (.bool c56))] ∧ Ent cs' [crd (RdS 3 rdInt) v0_0.v a_aS, crd (RdS 61 rd61) v1_0.v a_aL, crd (RdS 26 rd26) v2_0.v a_aFacts, crd (RdS 3 rdInt) v3_0.v a_aSeeds, cboR k1 26 (.agg [(.int .i64 a_aF.Rel), v4_1.v].toArray), crd (RdS 3 rdInt) v4_1.v a_aF.Values, cbox k11 31 (.agg [(.int .i64 r27.1.Method), p29.1.v].toArray), cown (OwnS 3 (roE rdInt)) p29.2 p29.1.v r27.1.Values, cown (OwnS 3 (roE rdInt)) p32.2 p32.1.v r30, cown (OwnS 65 ow65) p35.2 p35.1.v r33, cown (OwnS 39 ow39) p38.2 p38.1.v r36, cown (OwnS 3 (roE rdInt)) p41.2 p41.1.v r39, cbox k45 39 (.agg [(.int .i64 r42.Rel), p44.1.v].toArray), cown (OwnS 3 (roE rdInt)) p44.2 p44.1.v r42.Values, cbox k49 31 (.agg [(.int .i64 r46.1.Method), p48.1.v].toArray), cown (OwnS 3 (roE rdInt)) p48.2 p48.1.v r46.1.Values]) ?_ ?_
 · replace hF := hio50
   iterate 2 refine au ?_
   refine bnd hF fun r52 hx53 hF => C_x2 (.cons (.t (.t (.t (.t (.t (.t (.t (.t (.t (.t (.t (.t (.t (.t .h)))))))))))))) (.cons (.t (.t (.t (.t (.t (.t .h)))))) .nil)) (XC_borL (pre := []) (.cons frz_own (.cons frz_own .nil)) (fun _ => .nil) (X_callS cf14.h (.cons (.tmp rfl rfl) (.cons (.tmp rfl rfl) .nil)) (l_eqAccess_ok r46.1 p48.1 r27.1 p29.1 _ hx53))) (fun _ => ?_)
   iterate 2 refine au ?_
   rcases Bool.eq_false_or_eq_true (!r52) with hg55 | hg55
   · rw [hg55]
     try rw [hg55] at hF; dsimp only [cond_true, cond_false] at hF
     iterate 5 refine au ?_
     cases hF
     exact ⟨_, _, rfl, eqA, entA⟩
   rw [hg55]
   try rw [hg55] at hF; dsimp only [cond_true, cond_false] at hF
   iterate 5 refine au ?_
   refine C_val (V_neB (a := r46.2) (b := r27.2) Tryz.underlying4 (.tmp rfl rfl) (.tmp rfl rfl)) ?_
   iterate 2 refine au ?_
   cases hF
   exact ⟨_, _, rfl, eqA, entA⟩
 rintro _ _ ⟨c56, g159, rfl, rfl, hE⟩
 replace hF := hO51
 try dsimp only at hF
 refine K_ent hE ?_
 refine Ci hF (fun hb158 hF => ?_) (fun hb158 hF => ?_)
 · iterate 4 refine au ?_
   cases hF
   exact Er ()
 iterate 5 refine au ?_
 refine bnd hF fun r57 hx58 hF => Cx1 (l_toIntS_ok _ _ _ hx58) (fun p59 => ?_)
 refine bnd hF fun r60 hx61 hF => C_x2 (.cons .h (.cons (.t (.t (.t (.t (.t (.t (.t (.t .h)))))))) .nil)) (XC_borL (pre := []) (.cons frz_own (.cons frz_own .nil)) (fun _ => .nil) (X_callS cf15.h (.cons (.tmp rfl rfl) (.cons (.tmp rfl rfl) .nil)) (l_eqIntS_ok r30 p32.1 r57 p59.1 _ hx61))) (fun _ => ?_)
 iterate 2 refine au ?_
 refine Ci hF (fun hb157 hF => ?_) (fun hb157 hF => ?_)
 · iterate 4 refine au ?_
   cases hF
   exact Er ()
 iterate 5 refine au ?_
 refine bnd hF fun r63 hx64 hF => Cx1 (l_toMethodS_ok _ _ _ hx64) (fun p65 => ?_)
 refine bnd hF fun r66 hx67 hF => C_x2 (.cons .h (.cons (.t (.t (.t (.t (.t (.t (.t (.t (.t (.t .h)))))))))) .nil)) (XC_borL (pre := []) (.cons frz_own (.cons frz_own .nil)) (fun _ => .nil) (X_callS cf16.h (.cons (.tmp rfl rfl) (.cons (.tmp rfl rfl) .nil)) (l_eqMethodS_ok r33 p35.1 r63 p65.1 _ hx67))) (fun _ => ?_)
 iterate 2 refine au ?_
 refine Ci hF (fun hb156 hF => ?_) (fun hb156 hF => ?_)
 · iterate 4 refine au ?_
   cases hF
   exact Er ()
 iterate 5 refine au ?_
 refine bnd hF fun r69 hx70 hF => Cx1 (l_toFactS_ok _ _ _ hx70) (fun p71 => ?_)
 refine bnd hF fun r72 hx73 hF => C_x2 (.cons .h (.cons (.t (.t (.t (.t (.t (.t (.t (.t (.t (.t (.t (.t .h)))))))))))) .nil)) (XC_borL (pre := []) (.cons frz_own (.cons frz_own .nil)) (fun _ => .nil) (X_callS cf17.h (.cons (.tmp rfl rfl) (.cons (.tmp rfl rfl) .nil)) (l_eqFactS_ok r36 p38.1 r69 p71.1 _ hx73))) (fun _ => ?_)
 iterate 2 refine au ?_
 refine Ci hF (fun hb155 hF => ?_) (fun hb155 hF => ?_)
 · iterate 4 refine au ?_
   cases hF
   exact Er ()
 iterate 5 refine au ?_
 refine bnd hF fun r75 hx76 hF => Cx1 (l_toIntS_ok _ _ _ hx76) (fun p77 => ?_)
 refine bnd hF fun r78 hx79 hF => C_x2 (.cons .h (.cons (.t (.t (.t (.t (.t (.t (.t (.t (.t (.t (.t (.t (.t (.t .h)))))))))))))) .nil)) (XC_borL (pre := []) (.cons frz_own (.cons frz_own .nil)) (fun _ => .nil) (X_callS cf15.h (.cons (.tmp rfl rfl) (.cons (.tmp rfl rfl) .nil)) (l_eqIntS_ok r39 p41.1 r75 p77.1 _ hx79))) (fun _ => ?_)
 iterate 2 refine au ?_
 refine Ci hF (fun hb154 hF => ?_) (fun hb154 hF => ?_)
 · iterate 4 refine au ?_
   cases hF
   exact Er ()
 iterate 2 refine au ?_
 refine K_draw [0, 1, 2, 3, 4] [0, 0, 2, 7, 15] [2, 3] mixed (by decide +kernel) ?_
 refine D_atO rfl .no (.t (.t (.t (.t (.t (.t (.t (.t (.t (.t (.t (.t (.t (.t (.t (.t .h)))))))))))))))) (fun ha hp => V_loadBox ag39.h ty39.h.sz rfl (EN ha (.tmp rfl rfl) rfl) hp.2 rfl) ?_
 refine du ?_
 refine bnd hF fun r81 hx82 hF => D_act1 rfl rfl .no (.rd (.t (.t (.t (.t (.t (.t (.t (.t (.t (.t (.t (.t (.t .h))))))))))))) rfl .nil) (.own (.t (.t (.t (.t (.t (.t (.t (.t (.t (.t (.t (.t (.t (.t (.t (.t .h)))))))))))))))) (fun _ h => h) .nil) (fun ha => X_callS cf12.h (.cons (EN ha (.tmp rfl rfl) rfl) .nil) (l_toFact_ok a_aF v4_1 _ hx82)) (fun p83 => ?_)
 refine bnd hF fun r84 hx85 hF => D_act2 rfl rfl .no (.cons .h (.cons (.t (.t (.t (.t (.t (.t (.t (.t (.t (.t (.t (.t (.t (.t (.t (.t (.t .h))))))))))))))))) .nil)) (.dep rfl .nil) (fun ha => XC_borL (pre := []) (.cons frz_own (.cons frz_own .nil)) (fun _ => .nil) (X_callS cf18.h (.cons (EN ha (.tmp rfl rfl) rfl) (.cons (EN ha (.tmp rfl rfl) rfl) .nil)) (l_eqFact_ok r42 p44.1 r81 p83.1 _ hx85))) (fun _ => ?_)
 iterate 2 refine du ?_
 refine Ci hF (fun hb153 hF => ?_) (fun hb153 hF => ?_)
 · iterate 4 refine au ?_
   cases hF
   exact Er ()
 iterate 7 refine au ?_
 refine bnd hF fun r87 hx88 hF => Cx1 (l_markIntS_ok _ _ _ _ _ hx88) (fun p89 => ?_)
 iterate 5 refine au ?_
 refine bnd hF fun r90 hx91 hF => Cx1 (l_markMethodS_ok _ _ _ _ _ hx91) (fun p92 => ?_)
 iterate 5 refine au ?_
 refine bnd hF fun r93 hx94 hF => Cx1 (l_markFactS_ok _ _ _ _ _ hx94) (fun p95 => ?_)
 iterate 5 refine au ?_
 refine bnd hF fun r96 hx97 hF => Cx1 (l_markIntS_ok _ _ _ _ _ hx97) (fun p98 => ?_)
 iterate 5 refine au ?_
 refine bnd hF fun r99 hx100 hF => Cx1 (l_markFact_ok _ _ _ _ _ hx100) (fun p101 => ?_)
 iterate 3 refine au ?_
 obtain ⟨o102, hio102, hO103⟩ := bind_some hF
 refine au ?_
 refine C_cut (fun f' cs' => ∃ (c109 : Bool) (g : Fr), c109 = o102 ∧ f' = updL g [(0, v0_0.v), (1, v1_0.v), (2, v2_0.v), (3, v3_0.v), (9, (pz k1)), (12, (pz k11)), (13, (.bool r27.2)), (19, (pz k49)), (141, (.bool c109))] ∧ Ent cs' [crd (RdS 3 rdInt) v0_0.v a_aS, crd (RdS 61 rd61) v1_0.v a_aL, crd (RdS 26 rd26) v2_0.v a_aFacts, crd (RdS 3 rdInt) v3_0.v a_aSeeds, cboR k1 26 (.agg [(.int .i64 a_aF.Rel), v4_1.v].toArray), crd (RdS 3 rdInt) v4_1.v a_aF.Values, cbox k11 31 (.agg [(.int .i64 r27.1.Method), p29.1.v].toArray), cown (OwnS 3 (roE rdInt)) p29.2 p29.1.v r27.1.Values, cbox k49 31 (.agg [(.int .i64 r46.1.Method), p48.1.v].toArray), cown (OwnS 3 (roE rdInt)) p48.2 p48.1.v r46.1.Values]) ?_ ?_
 · replace hF := hio102
   iterate 3 refine au ?_
   rcases Bool.eq_false_or_eq_true (decide ((r99.1 : Int) < 0)) with hg104 | hg104
   · rw [hg104]
     try rw [hg104] at hF; dsimp only [cond_true, cond_false] at hF
     iterate 11 refine au ?_
     cases hF
     exact ⟨_, _, rfl, eqA, entA⟩
   rw [hg104]
   try rw [hg104] at hF; dsimp only [cond_true, cond_false] at hF
   iterate 5 refine au ?_
   refine bnd hF fun r105 hx106 hF => C_x2 (.cons (.t (.t (.t (.t (.t (.t (.t (.t (.t (.t (.t (.t (.t (.t (.t (.t (.t .h))))))))))))))))) (.cons (.t (.t (.t (.t (.t (.t (.t (.t (.t (.t (.t (.t (.t (.t (.t (.t (.t (.t (.t .h))))))))))))))))))) .nil)) (XC_borL (pre := []) (.cons frz_own (.cons frz_own .nil)) (fun _ => .nil) (X_callS cf14.h (.cons (.tmp rfl rfl) (.cons (.tmp rfl rfl) .nil)) (l_eqAccess_ok r46.1 p48.1 r27.1 p29.1 _ hx106))) (fun _ => ?_)
   iterate 4 refine au ?_
   rcases Bool.eq_false_or_eq_true (!r105) with hg108 | hg108
   · rw [hg108]
     try rw [hg108] at hF; dsimp only [cond_true, cond_false] at hF
     iterate 5 refine au ?_
     cases hF
     exact ⟨_, _, rfl, eqA, entA⟩
   rw [hg108]
   try rw [hg108] at hF; dsimp only [cond_true, cond_false] at hF
   iterate 5 refine au ?_
   refine C_val (V_neB (a := r46.2) (b := r27.2) Tryz.underlying4 (.tmp rfl rfl) (.tmp rfl rfl)) ?_
   iterate 2 refine au ?_
   cases hF
   exact ⟨_, _, rfl, eqA, entA⟩
 rintro _ _ ⟨c109, g152, rfl, rfl, hE⟩
 replace hF := hO103
 try dsimp only at hF
 refine K_ent hE ?_
 refine Ci hF (fun hb151 hF => ?_) (fun hb151 hF => ?_)
 · iterate 4 refine au ?_
   cases hF
   exact Er ()
 iterate 7 refine au ?_
 refine bnd hF fun r110 hx111 hF => Cx1 (l_markAccess_ok _ _ _ _ _ hx111) (fun p112 => ?_)
 iterate 8 refine au ?_
 refine bnd hF fun r113 hx114 hF => C_x1 (.cons .h .nil) (XC_bor frz_own (fun _ => .nil) (X_callS cf24.h (.cons (.tmp rfl rfl) (.cons (.tmp rfl rfl) .nil)) (l_heldAccess_ok ({ Method := r46.1.Method, Values := r110.2.Values } : Access) p48.1 1 _ hx114))) (fun _ => ?_)
 iterate 7 refine au ?_
 refine Ci hF (fun hb150 hF => ?_) (fun hb150 hF => ?_)
 · iterate 4 refine au ?_
   cases hF
   exact Er ()
 iterate 7 refine au ?_
 refine Ci hF (fun hb149 hF => ?_) (fun hb149 hF => ?_)
 · iterate 4 refine au ?_
   cases hF
   exact Er ()
 refine au ?_
 refine K_draw [0, 2, 4, 6, 8, 14, 1, 3, 5, 7, 9, 10, 11, 12, 13, 15, 16] [0, 1, 0, 7, 0, 31, 0, 127, 0, 511, 1023, 2047, 4095, 4095, 0, 24575, 65535] [1, 3, 5, 7, 9, 10, 15] mixed (by decide +kernel) ?_
 iterate 5 refine du ?_
 refine D_new rfl .no rfl (fun ha => N_allocT (g := true) ty31.h rfl rfl) (fun k116 => ?_)
 refine bnd hF fun r117 hx118 hF => D_act1 rfl rfl .no (.rd (.t (.t .h)) rfl .nil) (.own .h (fun _ h => h) .nil) (fun ha => X_callS cf9.h (.cons (EN ha (.tmp rfl rfl) rfl) .nil) (l_toIntS_ok a_aS v0_0 _ hx118)) (fun p119 => ?_)
 refine bnd hF fun r120 hx121 hF => D_act1 rfl rfl .no (.rd (.t (.t (.t (.t .h)))) rfl .nil) (.own (.t .h) (fun _ h => h) .nil) (fun ha => X_callS cf10.h (.cons (EN ha (.tmp rfl rfl) rfl) .nil) (l_toMethodS_ok a_aL v1_0 _ hx121)) (fun p122 => ?_)
 refine bnd hF fun r123 hx124 hF => D_act1 rfl rfl .no (.rd (.t (.t (.t (.t (.t (.t .h)))))) rfl .nil) (.own (.t (.t .h)) (fun _ h => h) .nil) (fun ha => X_callS cf11.h (.cons (EN ha (.tmp rfl rfl) rfl) .nil) (l_toFactS_ok a_aFacts v2_0 _ hx124)) (fun p125 => ?_)
 refine bnd hF fun r126 hx127 hF => D_act1 rfl rfl .no (.rd (.t (.t (.t (.t (.t (.t (.t (.t .h)))))))) rfl .nil) (.own (.t (.t (.t .h))) (fun _ h => h) .nil) (fun ha => X_callS cf9.h (.cons (EN ha (.tmp rfl rfl) rfl) .nil) (l_toIntS_ok a_aSeeds v3_0 _ hx127)) (fun p128 => ?_)
 refine bnd hF fun r129 hx130 hF => D_act1 rfl rfl .no (.rd (.t (.t (.t (.t (.t (.t (.t (.t (.t (.t (.t .h))))))))))) rfl .nil) (.own (.t (.t (.t (.t .h)))) (fun _ h => h) .nil) (fun ha => X_callS cf12.h (.cons (EN ha (.tmp rfl rfl) rfl) .nil) (l_toFact_ok a_aF v4_1 _ hx130)) (fun p131 => ?_)
 refine bnd hF fun r132 hx133 hF => D_act6 rfl rfl .no (.cons .h (.cons .h (.cons .h (.cons .h (.cons .h .nil))))) (.own .h (fun _ h => h) .nil) (fun ha => XC_borL (pre := []) (.cons frz_own (.cons frz_own (.cons frz_own (.cons frz_own (.cons frz_own .nil))))) (fun _ => (.cons .nil)) (X_callS cf13.h (.cons (EN ha (.tmp rfl rfl) rfl) (.cons (EN ha (.tmp rfl rfl) rfl) (.cons (EN ha (.tmp rfl rfl) rfl) (.cons (EN ha (.tmp rfl rfl) rfl) (.cons (EN ha (.tmp rfl rfl) rfl) .nil))))) (i_WhyReached_ok r117 p119.1 r120 p122.1 r123 p125.1 r126 p128.1 r129 p131.1 _ hx133))) (fun p134 => ?_)
 refine du ?_
 refine D_val rfl .no (fun ha => V_extract (l := [(.agg [(.int .i64 r132.1.Method), p134.1.v].toArray), (.bool r132.2)]) (v := (.agg [(.int .i64 r132.1.Method), p134.1.v].toArray)) (EN ha (.tmp rfl rfl) rfl) rfl) ?_
 refine D_val rfl .no (fun ha => V_extract (l := [(.agg [(.int .i64 r132.1.Method), p134.1.v].toArray), (.bool r132.2)]) (v := (.bool r132.2)) (EN ha (.tmp rfl rfl) rfl) rfl) ?_
 refine D_act1 rfl rfl .no (.cons (.t (.t (.t (.t (.t (.t .h)))))) .nil) (.dep rfl .nil) (fun ha => X_storeB (e' := (.agg [(.int .i64 r132.1.Method), p134.1.v].toArray)) (v := (.agg [(.int .i64 r132.1.Method), p134.1.v].toArray)) ty31.h.sz (EN ha (.tmp rfl rfl) rfl) (EN ha (.tmp rfl rfl) rfl) rfl rfl rfl rfl rfl) (fun _ => ?_)
 iterate 2 refine du ?_
 refine au ?_
 obtain ⟨o135, hio135, hO136⟩ := bind_some hF
 refine au ?_
 refine C_cut (fun f' cs' => ∃ (c141 : Bool) (g : Fr), c141 = o135 ∧ f' = updL g [(19, (pz k49)), (22, (.int .i64 r110.1)), (175, (.bool c141))] ∧ Ent cs' [cbox k49 31 (.agg [(.int .i64 r46.1.Method), p48.1.v].toArray), cown (OwnS 3 (roE rdInt)) p112 p48.1.v r110.2.Values]) ?_ ?_
 · replace hF := hio135
   iterate 2 refine au ?_
   refine bnd hF fun r137 hx138 hF => C_x2 (.cons (.t (.t (.t (.t (.t (.t (.t (.t (.t (.t (.t (.t (.t (.t (.t .h))))))))))))))) (.cons (.t (.t (.t (.t (.t (.t .h)))))) .nil)) (XC_borL (pre := []) (.cons frz_own (.cons frz_own .nil)) (fun _ => .nil) (X_callS cf14.h (.cons (.tmp rfl rfl) (.cons (.tmp rfl rfl) .nil)) (l_eqAccess_ok r132.1 p134.1 r27.1 p29.1 _ hx138))) (fun _ => ?_)
   iterate 2 refine au ?_
   rcases Bool.eq_false_or_eq_true (!r137) with hg140 | hg140
   · rw [hg140]
     try rw [hg140] at hF; dsimp only [cond_true, cond_false] at hF
     iterate 5 refine au ?_
     cases hF
     exact ⟨_, _, rfl, eqA, entA⟩
   rw [hg140]
   try rw [hg140] at hF; dsimp only [cond_true, cond_false] at hF
   iterate 5 refine au ?_
   refine C_val (V_neB (a := r132.2) (b := r27.2) Tryz.underlying4 (.tmp rfl rfl) (.tmp rfl rfl)) ?_
   iterate 2 refine au ?_
   cases hF
   exact ⟨_, _, rfl, eqA, entA⟩
 rintro _ _ ⟨c141, g148, rfl, rfl, hE⟩
 replace hF := hO136
 try dsimp only at hF
 refine K_ent hE ?_
 refine Ci hF (fun hb147 hF => ?_) (fun hb147 hF => ?_)
 · iterate 4 refine au ?_
   cases hF
   exact Er ()
 iterate 7 refine au ?_
 refine bnd hF fun r142 hx143 hF => C_x1 (.cons (.t .h) .nil) (XC_bor frz_own (fun _ => .nil) (X_callS cf24.h (.cons (.tmp rfl rfl) (.cons (.tmp rfl rfl) .nil)) (l_heldAccess_ok ({ Method := r46.1.Method, Values := r110.2.Values } : Access) p48.1 1 _ hx143))) (fun _ => ?_)
 iterate 7 refine au ?_
 refine Ci hF (fun hb146 hF => ?_) (fun hb146 hF => ?_)
 · iterate 4 refine au ?_
   cases hF
   exact Er ()
 iterate 7 refine au ?_
 refine Ci hF (fun hb145 hF => ?_) (fun hb145 hF => ?_)
 · iterate 4 refine au ?_
   cases hF
   exact Er ()
 iterate 5 refine au ?_
 cases hF
 exact Er ()
end Go.Proofs.YtopbakibjfoccaaGreat
