/-
  Functions of the program as Lean functions, and that the calls return what these say: part 3. No conditions.
-/
import Derived.Shelf.Sort.Plain
import Derived.Shelf.Slices.In.SortNone
import Derived.Shelf.Slices.CompactI
import Derived.Test.YtlfebfhfgfjceacGreatCertificateForG1
import Derived.KernelRfl
set_option maxRecDepth 100000
set_option maxHeartbeats 1000000
set_option linter.unusedVariables false
namespace Go.Proofs.YtlfebfhfgfjceacGreat
open Go Go.Fw

def g_slices_Clone_int_int (a_s : List Int) : Option ((List Int)) :=
 (app ([] : List Int) a_s).bind fun z5 =>
 some z5
theorem g_slices_Clone_int_int_ok (a_s : List Int) (v0_0 : Sv) (R : (List Int)) (hF : g_slices_Clone_int_int a_s = some R) :
   Fw.Spec Tryz.prog 133 [v0_0.v] [crd (RdS 3 rdInt) v0_0.v a_s] (fun p : Sv × List Nat => p.1.v) (fun p => [cown (OwnS 3 (roE rdInt)) p.2 p.1.v R]) := by
 refine Se 8 Tryz.func133 [.tmp 2] ?_
 intro H0 F0
 unfold g_slices_Clone_int_int at hF
 iterate 6 refine au ?_
 refine C_eqNil (xs := a_s) sl22.h (.tmp rfl rfl) .h crd_nilc (fun bn1 hn2 => ?_)
 refine au ?_
 refine Cc (fun hb3 => ?_) (fun hb3 => ?_)
 · have hnil := hn2 hb3
   replace hF : some [] = some R := by rw [hnil] at hF; simpa [app] using hF
   iterate 4 refine au ?_
   cases hF
   exact End_ret (⟨none, 0, 0⟩, []) (.tmp rfl rfl .nil) rfl (.conv .nil (own_nil (Ro := (roE rdInt)) (E := 3)) (.cons .nil) (.sel (.cons .h .nil)))
 iterate 2 refine au ?_
 refine C_new rfl (N_buildSliceT (g := true) sl22.h ty3.h .nil (vs := []) rfl rfl rfl (by simp)) (fun k4 => ?_)
 refine Cv1 (.cons .h .nil) (own_lit (Ro := (roE rdInt)) (E := 3) (F := []) (xs := ([] : List Int)) MkL_nil rfl rfl) ?_
 refine au ?_
 refine bnd hF fun z5 hx6 hF => C_x1 (.cons .h (.rd .h rfl .nil)) (X_appendO (Ro := (roE rdInt)) sl22.h ni22 ty3.h rfl rfl rfl (.tmp rfl rfl) (.tmp rfl rfl) hx6 src_rd) (fun p7 => ?_)
 iterate 3 refine au ?_
 cases hF
 exact Er (p7.1, p7.2)
def i_copyAtom (a_a : Atom) : Option (Atom) :=
 (g_slices_Clone_int_int a_a.Terms).bind fun r3 =>
 some ({ Rel := a_a.Rel, Terms := r3 } : Atom)
theorem i_copyAtom_ok (a_a : Atom) (v0_1 : Sv) (R : Atom) (hF : i_copyAtom a_a = some R) :
   Fw.Spec Tryz.prog 134 [(.agg [(.int .i64 a_a.Rel), v0_1.v].toArray)] [crd (RdS 3 rdInt) v0_1.v a_a.Terms] (fun p : Sv × List Nat => (.agg [(.int .i64 R.Rel), p.1.v].toArray)) (fun p => [cown (OwnS 3 (roE rdInt)) p.2 p.1.v R.Terms]) := by
 refine Se 9 Tryz.func134 [.cell 2 84] ?_
 intro H0 F0
 unfold i_copyAtom at hF
 refine au ?_
 refine AbR (fun k1 => ?_)
 refine AnW (fun k2 => ?_)
 refine au ?_
 refine K_draw [0, 1, 2, 3, 4, 5, 6] [0, 1, 0, 4, 12, 31, 63] [4, 6] mixed (by decide +kernel) ?_
 iterate 4 refine du ?_
 refine bnd hF fun r3 hx4 hF => Dx1 (g_slices_Clone_int_int_ok _ _ _ hx4) (fun p5 => ?_)
 refine D_val rfl .no (fun ha => V_build ty84.h rfl (vs := [(.int .i64 a_a.Rel), p5.1.v]) (.cons (EN ha (.tmp rfl rfl) rfl) (.cons (EN ha (.tmp rfl rfl) rfl) .nil)) (cells := [(.int .i64 a_a.Rel), p5.1.v]) rfl) ?_
 refine D_act1 rfl rfl .no (.cons (.t .h) .nil) .nil (fun ha => X_storeB (e' := (.agg [(.int .i64 a_a.Rel), p5.1.v].toArray)) (v := (.agg [(.int .i64 a_a.Rel), p5.1.v].toArray)) ty84.h.sz (EN ha (.tmp rfl rfl) rfl) (EN ha (.tmp rfl rfl) rfl) rfl rfl rfl rfl rfl) (fun _ => ?_)
 refine du ?_
 refine au ?_
 cases hF
 exact Er (p5.1, p5.2)
def i_part_L1 (a_s : List Int) (r6 : (List Step) × (List Bool)) (r9 : (List Int)) : List Atom → Nat → (List Atom) → Option (Query × Bool)
 | [], k58, c52 => (i_IsQuery a_s ({ Head := r9, Atoms := c52 } : Query)).bind fun r67 =>
   some (({ Head := r9, Atoms := c52 } : Query), r67)
 | x60 :: rest59, k58, c52 => ((ix r6.2 (k58 : Int)).bind fun x79 =>
     if x79 then (
       (i_copyAtom x60).bind fun r83 =>
       (app c52 ([r83] : List Atom)).bind fun z87 =>
       some z87)
     else (
       some c52)).bind fun o70 =>
   match o70 with
   | c91 => i_part_L1 a_s r6 r9 rest59 (k58 + 1) c91
def i_part (fuel : Nat) (a_s : List Int) (a_l : List Method) (a_q : Query) : Option (Query × Bool) :=
 (i_exactOnly a_l).bind fun r3 =>
 (i_greedy fuel r3 a_q.Atoms).bind fun r6 =>
 (g_slices_Clone_int_int a_q.Head).bind fun r9 =>
 i_part_L1 a_s r6 r9 a_q.Atoms 0 ([] : List Atom)
theorem i_part_ok (fuel : Nat) (a_s : List Int) (v0_0 : Sv) (a_l : List Method) (v1_0 : Sv) (a_q : Query) (v2_0 : Sv) (v2_1 : Sv) (R : Query × Bool) (hF : i_part fuel a_s a_l a_q = some R) :
   Fw.Spec Tryz.prog 96 [v0_0.v, v1_0.v, (.agg [v2_0.v, v2_1.v].toArray)] [crd (RdS 3 rdInt) v0_0.v a_s, crd (RdS 65 rd65) v1_0.v a_l, crd (RdS 3 rdInt) v2_0.v a_q.Head, crd (RdS 84 rd84) v2_1.v a_q.Atoms] (fun p : Sv × List Nat × Sv × List Nat => (.tuple [(.agg [p.1.v, p.2.2.1.v].toArray), (.bool R.2)].toArray)) (fun p => [cown (OwnS 3 (roE rdInt)) p.2.1 p.1.v R.1.Head, cown (OwnS 84 ow84) p.2.2.2 p.2.2.1.v R.1.Atoms]) := by
 refine Se 49 Tryz.func96 [.cell 6 39, .tmp 7] ?_
 intro H0 F0
 unfold i_part at hF
 refine au ?_
 refine AbR (fun k1 => ?_)
 refine AnW (fun k2 => ?_)
 iterate 2 refine au ?_
 refine K_draw [0, 2, 3, 1, 4, 5, 6, 7, 8, 9] [0, 1, 0, 4, 15, 31, 63, 63, 127, 511] [1, 4] mixed (by decide +kernel) ?_
 iterate 3 refine du ?_
 refine bnd hF fun r3 hx4 hF => Dx1 (i_exactOnly_ok _ _ _ hx4) (fun p5 => ?_)
 refine bnd hF fun r6 hx7 hF => D_act3 rfl rfl .no (.cons .h (.rd (.t (.t (.t (.t (.t .h))))) rfl .nil)) .nil (fun ha => XC_bor frz_own (fun _ => (.cons (.cons .nil))) (X_callS cf131.h (.cons (EN ha (.tmp rfl rfl) rfl) (.cons (EN ha (.tmp rfl rfl) rfl) .nil)) (i_greedy_ok fuel r3 p5.1 a_q.Atoms v2_1 _ hx7))) (fun p8 => ?_)
 refine du ?_
 refine D_val rfl .no (fun ha => V_extract (l := [p8.1.v, p8.2.2.1.v]) (v := p8.1.v) (EN ha (.tmp rfl rfl) rfl) rfl) ?_
 refine D_val rfl .no (fun ha => V_extract (l := [p8.1.v, p8.2.2.1.v]) (v := p8.2.2.1.v) (EN ha (.tmp rfl rfl) rfl) rfl) ?_
 iterate 3 refine du ?_
 iterate 3 refine au ?_
 refine bnd hF fun r9 hx10 hF => Cx1 (g_slices_Clone_int_int_ok _ _ _ hx10) (fun p11 => ?_)
 refine C_val (V_build ty39.h rfl (vs := [p11.1.v]) (.cons (.tmp rfl rfl) .nil) (cells := [p11.1.v, (.slice none 0 0)]) rfl) ?_
 refine AnW (fun k12 => ?_)
 refine As (.agg [p11.1.v, (.slice none 0 0)].toArray) ?_
 iterate 8 refine au ?_
 refine CW_block (CW_loop (m := a_q.Atoms.length) (fun m56 f' cs' => ∃ (g : Fr) (k58 : Nat) (rest59 : List Atom) (c52 : List Atom) (v53 : Sv) (F54 : List Nat), m56 = rest59.length ∧ f' = updL g [(0, v0_0.v), (6, (pz k2)), (9, p8.2.2.1.v), (10, (pz k12)), (26, v2_1.v), (27, (.int .i64 (a_q.Atoms.length : Int))), (28, (.int .i64 (k58 : Int)))] ∧ List.drop k58 a_q.Atoms = rest59 ∧ Ent cs' [crd (RdS 3 rdInt) v0_0.v a_s, cbox k2 39 (.agg [(.slice none 0 0), (.slice none 0 0)].toArray), cown (OwnS 4 (roE rdBool)) p8.2.2.2 p8.2.2.1.v r6.2, cbox k12 39 (.agg [p11.1.v, v53.v].toArray), cown (OwnS 3 (roE rdInt)) p11.2 p11.1.v r9, cown (OwnS 84 ow84) F54 v53.v c52, crd (RdS 84 rd84) v2_1.v a_q.Atoms] ∧ i_part_L1 a_s r6 r9 rest59 k58 c52 = some R) ⟨_, 0, _, _, ⟨none, 0, 0⟩, [], rfl, eqA, rfl, (.conv .nil (own_nil (Ro := ow84) (E := 84)) (.cons .nil) entA), hF⟩ ?_)
 rintro m56 _ _ ⟨g57, k58, rest59, c52, v53, F54, rfl, rfl, hd61, hE, hF⟩
 refine Kb hE a_q.Atoms (fun hbd66 => ?_)
 rcases rest59 with _ | ⟨x60, rest59⟩
 · have hk62 := dn hd61
   rw [i_part_L1] at hF
   iterate 4 refine au ?_
   refine CdF ?_
   iterate 4 refine au ?_
   refine K_draw [0, 1, 2, 3, 4, 5] [0, 0, 0, 6, 15, 31] [3, 4] mixed (by decide +kernel) ?_
   refine D_atO rfl .no (.t (.t (.t .h))) (fun ha hp => V_loadBox ag39.h ty39.h.sz rfl (EN ha (.tmp rfl rfl) rfl) hp.2 rfl) ?_
   refine du ?_
   refine D_atO rfl .no (.t (.t (.t .h))) (fun ha hp => V_loadBox ag39.h ty39.h.sz rfl (EN ha (.tmp rfl rfl) rfl) hp.2 rfl) ?_
   refine bnd hF fun r67 hx68 hF => D_act2 rfl rfl .no (.cons (.t (.t (.t (.t (.t .h))))) (.cons (.t (.t (.t (.t .h)))) (.rd .h rfl .nil))) (.dep rfl (.own (.t (.t (.t .h))) (fun _ h => h) .nil)) (fun ha => XC_borL (pre := _) (.cons frz_own (.cons frz_own .nil)) (fun _ => .nil) (XC_pre (.rd (.t (.t .h)) rfl (.rd .h rfl (.rd (.t .h) rfl .nil))) (X_callS cf60.h (.cons (EN ha (.tmp rfl rfl) rfl) (.cons (EN ha (.tmp rfl rfl) rfl) .nil)) (i_IsQuery_ok a_s v0_0 ({ Head := r9, Atoms := c52 } : Query) p11.1 v53 _ hx68)))) (fun _ => ?_)
   refine D_act1 rfl rfl .no (.cons (.t (.t (.t .h))) .nil) (.dep rfl (.dep rfl .nil)) (fun ha => X_storeB (e' := (.agg [p11.1.v, v53.v].toArray)) (v := (.agg [p11.1.v, v53.v].toArray)) ty39.h.sz (EN ha (.tmp rfl rfl) rfl) (EN ha (.tmp rfl rfl) rfl) rfl rfl rfl rfl rfl) (fun _ => ?_)
   iterate 2 refine du ?_
   refine au ?_
   cases hF
   exact End_ret (p11.1, p11.2, v53, F54) (.cellA rfl rfl .h rfl ag39.h ty39.h.sz rfl rfl (.tmp rfl rfl .nil)) rfl (.sel (.cons (.t (.t .h)) (.cons (.t .h) .nil)))
 obtain ⟨hk62, hx63, hd64⟩ := drop_cons hd61
 rw [i_part_L1] at hF
 iterate 4 refine au ?_
 refine CdT ?_
 refine au ?_
 obtain ⟨o70, hio70, hO71⟩ := bind_some hF
 refine K_cut (fun f' cs' => ∃ (c91 : List Atom) (v92 : Sv) (F93 : List Nat) (g : Fr), c91 = o70 ∧ f' = updL g [(0, v0_0.v), (6, (pz k2)), (9, p8.2.2.1.v), (10, (pz k12)), (26, v2_1.v), (27, (.int .i64 (a_q.Atoms.length : Int))), (28, (.int .i64 (k58 : Int)))] ∧ Ent cs' [crd (RdS 3 rdInt) v0_0.v a_s, cbox k2 39 (.agg [(.slice none 0 0), (.slice none 0 0)].toArray), cown (OwnS 4 (roE rdBool)) p8.2.2.2 p8.2.2.1.v r6.2, cbox k12 39 (.agg [p11.1.v, v92.v].toArray), cown (OwnS 3 (roE rdInt)) p11.2 p11.1.v r9, cown (OwnS 84 ow84) F93 v92.v c91, crd (RdS 84 rd84) v2_1.v a_q.Atoms]) ?_ ?_
 · replace hF := hio70
   refine CW_block (K_region (Cm (.int .i64 (k58 : Int)) rfl rfl ?_))
   refine Ai hx63 (fun k72 j73 => ?_)
   refine AlA1 (ul84_0_84 x60) la84_0_84 (fun p74 => ?_)
   refine AnW (fun k75 => ?_)
   refine au ?_
   refine As (.agg [(.int .i64 x60.Rel), p74.v].toArray) ?_
   iterate 4 refine au ?_
   refine bnd hF fun x79 hx80 hF => ?_
   have hi78 := ix_chk hx80
   obtain ⟨hp81, hx82⟩ := ix_some hx80
   refine C_idxO sl149.h ty4.h.sz (.tmp rfl rfl) (.tmp rfl rfl) (.t (.t (.t (.t (.t .h))))) hi78 (fun k76 hk77 => ?_)
   refine C_ldO (w := (.bool x79)) ag4.h (.tmp rfl rfl) (.t (.t (.t (.t (.t .h))))) hk77 hx82 lo4_0 ?_
   refine au ?_
   refine Ci hF (fun hb90 hF => ?_) (fun hb90 hF => ?_)
   · refine CW_draw [0, 1, 2, 3, 4, 5, 6, 7] [0, 1, 0, 4, 12, 31, 63, 127] [3, 5, 7] mixed (by decide +kernel) ?_
     refine du ?_
     refine D_atO rfl .no (.t (.t (.t (.t (.t (.t .h)))))) (fun ha hp => V_load (v := v53.v) ag37.h (EN ha (.tmp rfl rfl) rfl) hp.2 rfl rfl) ?_
     refine D_atO rfl .no .h (fun ha hp => V_loadBox ag84.h ty84.h.sz rfl (EN ha (.tmp rfl rfl) rfl) hp.2 rfl) ?_
     refine bnd hF fun r83 hx84 hF => D_act1 rfl rfl .no (.rd (.t .h) rfl .nil) (.dep rfl (.own (.t (.t (.t (.t (.t (.t .h)))))) (fun _ h => h) .nil)) (fun ha => X_callS cf134.h (.cons (EN ha (.tmp rfl rfl) rfl) .nil) (i_copyAtom_ok x60 p74 _ hx84)) (fun p85 => ?_)
     refine D_new rfl .no rfl (fun ha => N_buildSliceT (g := true) (len := 1) (parts := [(0, .tmp 40)]) sl37.h ty84.h (.cons (EN ha (.tmp rfl rfl) rfl) .nil) (vs := [(.agg [(.int .i64 r83.Rel), p85.1.v].toArray)]) rfl rfl rfl (by intro v hv; simp at hv; rcases hv with rfl <;> rfl)) (fun k86 => ?_)
     refine Dv1 (.cons .h (.cons .h .nil)) (own_lit (Ro := ow84) (E := 84) (F := (p85.2 ++ [])) (xs := ([r83] : List Atom)) (MkL_cons mk84 MkL_nil apps) rfl rfl) ?_
     refine bnd hF fun z87 hx88 hF => D_act1 rfl rfl .no (.cons (.t (.t (.t (.t (.t (.t (.t (.t (.t .h))))))))) (.cons .h .nil)) (.dep rfl (.dep rfl (.dep rfl .nil))) (fun ha => X_appendO (Ro := ow84) sl37.h ni37 ty84.h rfl rfl rfl (EN ha (.tmp rfl rfl) rfl) (EN ha (.tmp rfl rfl) rfl) hx88 src_own) (fun p89 => ?_)
     refine du ?_
     refine D_act1 rfl rfl .no (.cons (.t (.t (.t (.t (.t (.t (.t .h))))))) .nil) (.dep rfl (.dep rfl (.dep rfl .nil))) (fun ha => X_storeB (e' := (.agg [p11.1.v, p89.1.v].toArray)) ty37.h.sz (EN ha (.tmp rfl rfl) rfl) (EN ha (.tmp rfl rfl) rfl) rfl rfl rfl rfl rfl) (fun _ => ?_)
     refine du ?_
     cases hF
     exact ⟨_, p89.1, p89.2, _, rfl, eqA, entA⟩
   refine au ?_
   cases hF
   exact ⟨_, v53, F54, _, rfl, eqA, entA⟩
 rintro _ _ ⟨c91, v92, F93, g95, rfl, rfl, hE⟩
 replace hF := hO71
 try dsimp only at hF
 refine K_ent hE ?_
 iterate 4 refine au ?_
 rw [wk k58]
 exact ⟨_, Nat.lt_succ_self _, _, k58 + 1, rest59, _, v92, F93, rfl, eqA, hd64, entA, hF⟩
def i_AnswerablePart (fuel : Nat) (a_s : List Int) (a_l : List Method) (a_q : Query) : Option (Query × Bool) :=
 (i_areAsked a_s a_l a_q).bind fun r3 =>
 if (!r3) then (
   some (({ Head := [], Atoms := [] } : Query), false))
 else (
   (i_part fuel a_s a_l a_q).bind fun r6 =>
   if (!r6.2) then (
     some (({ Head := [], Atoms := [] } : Query), false))
   else (
     some (r6.1, true)))
theorem i_AnswerablePart_ok (fuel : Nat) (a_s : List Int) (v0_0 : Sv) (a_l : List Method) (v1_0 : Sv) (a_q : Query) (v2_0 : Sv) (v2_1 : Sv) (R : Query × Bool) (hF : i_AnswerablePart fuel a_s a_l a_q = some R) :
   Fw.Spec Tryz.prog 61 [v0_0.v, v1_0.v, (.agg [v2_0.v, v2_1.v].toArray)] [crd (RdS 3 rdInt) v0_0.v a_s, crd (RdS 65 rd65) v1_0.v a_l, crd (RdS 3 rdInt) v2_0.v a_q.Head, crd (RdS 84 rd84) v2_1.v a_q.Atoms] (fun p : Sv × List Nat × Sv × List Nat => (.tuple [(.agg [p.1.v, p.2.2.1.v].toArray), (.bool R.2)].toArray)) (fun p => [cown (OwnS 3 (roE rdInt)) p.2.1 p.1.v R.1.Head, cown (OwnS 84 ow84) p.2.2.2 p.2.2.1.v R.1.Atoms]) := by
 refine Se 27 Tryz.func61 [.cell 6 39, .tmp 7] ?_
 intro H0 F0
 unfold i_AnswerablePart at hF
 refine au ?_
 refine AbR (fun k1 => ?_)
 refine AnW (fun k2 => ?_)
 iterate 7 refine au ?_
 refine bnd hF fun r3 hx4 hF => Cx0 (i_areAsked_ok _ _ _ _ _ _ _ _ hx4) (fun _ => ?_)
 iterate 2 refine au ?_
 refine Ci hF (fun hb11 hF => ?_) (fun hb11 hF => ?_)
 · refine au ?_
   refine C_val (V_build ty39.h rfl (vs := []) .nil (cells := [(.slice none 0 0), (.slice none 0 0)]) rfl) ?_
   refine As (.agg [(.slice none 0 0), (.slice none 0 0)].toArray) ?_
   iterate 3 refine au ?_
   cases hF
   exact End_ret (⟨none, 0, 0⟩, [], ⟨none, 0, 0⟩, []) (.cellA rfl rfl .h rfl ag39.h ty39.h.sz rfl rfl (.tmp rfl rfl .nil)) rfl (.conv .nil (own_nil (Ro := (roE rdInt)) (E := 3)) (.cons .nil) (.conv .nil (own_nil (Ro := ow84) (E := 84)) (.cons .nil) (.sel (.cons (.t .h) (.cons .h .nil)))))
 iterate 5 refine au ?_
 refine bnd hF fun r6 hx7 hF => Cx2 (i_part_ok _ _ _ _ _ _ _ _ _ hx7) (fun p8 => ?_)
 refine au ?_
 refine C_val (V_extract (l := [(.agg [p8.1.v, p8.2.2.1.v].toArray), (.bool r6.2)]) (v := (.agg [p8.1.v, p8.2.2.1.v].toArray)) (.tmp rfl rfl) rfl) ?_
 refine C_val (V_extract (l := [(.agg [p8.1.v, p8.2.2.1.v].toArray), (.bool r6.2)]) (v := (.bool r6.2)) (.tmp rfl rfl) rfl) ?_
 refine AnW (fun k9 => ?_)
 refine As (.agg [p8.1.v, p8.2.2.1.v].toArray) ?_
 iterate 7 refine au ?_
 refine Ci hF (fun hb10 hF => ?_) (fun hb10 hF => ?_)
 · refine au ?_
   refine C_val (V_build ty39.h rfl (vs := []) .nil (cells := [(.slice none 0 0), (.slice none 0 0)]) rfl) ?_
   refine As (.agg [(.slice none 0 0), (.slice none 0 0)].toArray) ?_
   iterate 3 refine au ?_
   cases hF
   exact End_ret (⟨none, 0, 0⟩, [], ⟨none, 0, 0⟩, []) (.cellA rfl rfl .h rfl ag39.h ty39.h.sz rfl rfl (.tmp rfl rfl .nil)) rfl (.conv .nil (own_nil (Ro := (roE rdInt)) (E := 3)) (.cons .nil) (.conv .nil (own_nil (Ro := ow84) (E := 84)) (.cons .nil) (.sel (.cons (.t .h) (.cons .h .nil)))))
 iterate 3 refine au ?_
 refine As (.agg [p8.1.v, p8.2.2.1.v].toArray) ?_
 iterate 3 refine au ?_
 cases hF
 exact End_ret (p8.1, p8.2.1, p8.2.2.1, p8.2.2.2) (.cellA rfl rfl .h rfl ag39.h ty39.h.sz rfl rfl (.tmp rfl rfl .nil)) rfl (.sel (.cons (.t (.t .h)) (.cons (.t (.t .h)) .nil)))
def i_termsOf_iisValue_L2 : List Int → Nat → (List Int) → Option ((List Int))
 | [], k35, c29 => some c29
 | x37 :: rest36, k35, c29 => ((i_isValue x37).bind fun r48 =>
     if r48 then (
       (app c29 ([x37] : List Int)).bind fun z52 =>
       some z52)
     else (
       some c29)).bind fun o44 =>
   match o44 with
   | c56 => i_termsOf_iisValue_L2 rest36 (k35 + 1) c56
def i_termsOf_iisValue_L1 : List Atom → Nat → (List Int) → Option ((List Int))
 | [], k8, c2 => (g_slices_Sort_int_int c2).bind fun r17 =>
   (g_slices_Compact_int_int r17).bind fun r20 =>
   some r20
 | x10 :: rest9, k8, c2 => (i_termsOf_iisValue_L2 x10.Terms 0 c2).bind fun o23 =>
   match o23 with
   | c61 => i_termsOf_iisValue_L1 rest9 (k8 + 1) c61
def i_termsOf_iisValue (a_atoms : List Atom) : Option ((List Int)) :=
 i_termsOf_iisValue_L1 a_atoms 0 ([] : List Int)
theorem i_termsOf_iisValue_ok (a_atoms : List Atom) (v0_0 : Sv) (R : (List Int)) (hF : i_termsOf_iisValue a_atoms = some R) :
   Fw.Spec Tryz.prog 66 [v0_0.v, (.func (.func 67) [].toArray [].toArray)] [crd (RdS 84 rd84) v0_0.v a_atoms] (fun p : Sv × List Nat => p.1.v) (fun p => [cown (OwnS 3 (roE rdInt)) p.2 p.1.v R]) := by
 refine Se 37 Tryz.func66 [.tmp 4] ?_
 intro H0 F0
 unfold i_termsOf_iisValue at hF
 iterate 4 refine au ?_
 refine C_new rfl (N_buildSliceT (g := true) sl22.h ty3.h .nil (vs := []) rfl rfl rfl (by simp)) (fun k1 => ?_)
 refine Cv1 (.cons .h .nil) (own_lit (Ro := (roE rdInt)) (E := 3) (F := []) (xs := ([] : List Int)) MkL_nil rfl rfl) ?_
 iterate 8 refine au ?_
 refine CW_block (CW_loop (m := a_atoms.length) (fun m6 f' cs' => ∃ (g : Fr) (k8 : Nat) (rest9 : List Atom) (c2 : List Int) (v3 : Sv) (F4 : List Nat), m6 = rest9.length ∧ f' = updL g [(1, (.func (.func 67) [].toArray [].toArray)), (5, v3.v), (11, v0_0.v), (12, (.int .i64 (a_atoms.length : Int))), (13, (.int .i64 (k8 : Int)))] ∧ List.drop k8 a_atoms = rest9 ∧ Ent cs' [cown (OwnS 3 (roE rdInt)) F4 v3.v c2, crd (RdS 84 rd84) v0_0.v a_atoms] ∧ i_termsOf_iisValue_L1 rest9 k8 c2 = some R) ⟨_, 0, _, _, ⟨(some ⟨k1, 0, none⟩), 0, 1⟩, (k1 :: []), rfl, eqA, rfl, entA, hF⟩ ?_)
 rintro m6 _ _ ⟨g7, k8, rest9, c2, v3, F4, rfl, rfl, hd11, hE, hF⟩
 refine Kb hE a_atoms (fun hbd16 => ?_)
 rcases rest9 with _ | ⟨x10, rest9⟩
 · have hk12 := dn hd11
   rw [i_termsOf_iisValue_L1] at hF
   iterate 4 refine au ?_
   refine CdF ?_
   iterate 6 refine au ?_
   refine bnd hF fun r17 hx18 hF => Cx1 (g_slices_Sort_int_int_ok _ _ _ _ hx18) (fun p19 => ?_)
   iterate 3 refine au ?_
   refine bnd hF fun r20 hx21 hF => Cx1 (g_slices_Compact_int_int_ok _ _ _ _ hx21) (fun p22 => ?_)
   iterate 3 refine au ?_
   cases hF
   exact Er (p22.1, p22.2)
 obtain ⟨hk12, hx13, hd14⟩ := drop_cons hd11
 rw [i_termsOf_iisValue_L1] at hF
 iterate 4 refine au ?_
 refine CdT ?_
 refine au ?_
 obtain ⟨o23, hio23, hO24⟩ := bind_some hF
 refine K_cut (fun f' cs' => ∃ (c61 : List Int) (v62 : Sv) (F63 : List Nat) (g : Fr), c61 = o23 ∧ f' = updL g [(1, (.func (.func 67) [].toArray [].toArray)), (5, v62.v), (11, v0_0.v), (12, (.int .i64 (a_atoms.length : Int))), (13, (.int .i64 (k8 : Int)))] ∧ Ent cs' [cown (OwnS 3 (roE rdInt)) F63 v62.v c61, crd (RdS 84 rd84) v0_0.v a_atoms]) ?_ ?_
 · replace hF := hio23
   refine CW_block (K_region (C_idx (a := x10) sl37.h ty84.h.sz (.tmp rfl rfl) (.tmp rfl rfl) (.t .h) (Int.natCast_nonneg k8) hx13 (fun k25 j26 => ?_)))
   refine AlA1 (ul84_0_84 x10) la84_0_84 (fun p27 => ?_)
   refine AnW (fun k28 => ?_)
   refine As (.agg [(.int .i64 x10.Rel), p27.v].toArray) ?_
   iterate 7 refine au ?_
   refine CW_block (CW_loop (m := x10.Terms.length) (fun m33 f' cs' => ∃ (g : Fr) (k35 : Nat) (rest36 : List Int) (c29 : List Int) (v30 : Sv) (F31 : List Nat), m33 = rest36.length ∧ f' = updL g [(1, (.func (.func 67) [].toArray [].toArray)), (5, v30.v), (11, v0_0.v), (12, (.int .i64 (a_atoms.length : Int))), (13, (.int .i64 (k8 : Int))), (18, p27.v), (19, (.int .i64 (x10.Terms.length : Int))), (20, (.int .i64 (k35 : Int)))] ∧ List.drop k35 x10.Terms = rest36 ∧ Ent cs' [cown (OwnS 3 (roE rdInt)) F31 v30.v c29, crd (RdS 84 rd84) v0_0.v a_atoms, crd (RdS 3 rdInt) p27.v x10.Terms] ∧ i_termsOf_iisValue_L2 rest36 k35 c29 = some o23) ⟨_, 0, _, _, v3, F4, rfl, eqA, rfl, entA, hF⟩ ?_)
   rintro m33 _ _ ⟨g34, k35, rest36, c29, v30, F31, rfl, rfl, hd38, hE, hF⟩
   refine Kb hE x10.Terms (fun hbd43 => ?_)
   rcases rest36 with _ | ⟨x37, rest36⟩
   · have hk39 := dn hd38
     rw [i_termsOf_iisValue_L2] at hF
     iterate 4 refine au ?_
     refine CdF ?_
     iterate 4 refine au ?_
     cases hF
     exact ⟨_, v30, F31, _, rfl, eqA, entA⟩
   obtain ⟨hk39, hx40, hd41⟩ := drop_cons hd38
   rw [i_termsOf_iisValue_L2] at hF
   iterate 4 refine au ?_
   refine CdT ?_
   refine au ?_
   obtain ⟨o44, hio44, hO45⟩ := bind_some hF
   refine K_cut (fun f' cs' => ∃ (c56 : List Int) (v57 : Sv) (F58 : List Nat) (g : Fr), c56 = o44 ∧ f' = updL g [(1, (.func (.func 67) [].toArray [].toArray)), (5, v57.v), (11, v0_0.v), (12, (.int .i64 (a_atoms.length : Int))), (13, (.int .i64 (k8 : Int))), (18, p27.v), (19, (.int .i64 (x10.Terms.length : Int))), (20, (.int .i64 (k35 : Int)))] ∧ Ent cs' [cown (OwnS 3 (roE rdInt)) F58 v57.v c56, crd (RdS 84 rd84) v0_0.v a_atoms, crd (RdS 3 rdInt) p27.v x10.Terms]) ?_ ?_
   · replace hF := hio44
     refine CW_block (K_region (C_idx (a := x37) sl22.h ty3.h.sz (.tmp rfl rfl) (.tmp rfl rfl) (.t (.t .h)) (Int.natCast_nonneg k35) hx40 (fun k46 j47 => ?_)))
     refine Al ls3_0 ?_
     iterate 5 refine au ?_
     refine bnd hF fun r48 hx49 hF => C_x0 .nil (X_callCS cf67.h (.tmp rfl rfl) (.cons (.tmp rfl rfl) .nil) (i_isValue_ok x37 _ hx49)) (fun _ => ?_)
     refine au ?_
     refine Ci hF (fun hb55 hF => ?_) (fun hb55 hF => ?_)
     · iterate 3 refine au ?_
       refine C_new rfl (N_buildSliceT (g := true) sl22.h ty3.h (.cons (.tmp rfl rfl) .nil) (vs := [(.int .i64 x37)]) rfl rfl rfl (by intro v hv; simp at hv; rcases hv with rfl <;> rfl)) (fun k51 => ?_)
       refine Cv1 (.cons .h .nil) (own_lit (Ro := (roE rdInt)) (E := 3) (F := ([] ++ [])) (xs := ([x37] : List Int)) (MkL_cons (Mk_pure (fun _ => rfl)) MkL_nil apps) rfl rfl) ?_
       refine bnd hF fun z52 hx53 hF => C_x1 (.cons (.t (.t .h)) (.cons .h .nil)) (X_appendO (Ro := (roE rdInt)) sl22.h ni22 ty3.h rfl rfl rfl (.tmp rfl rfl) (.tmp rfl rfl) hx53 src_own) (fun p54 => ?_)
       iterate 2 refine au ?_
       cases hF
       exact ⟨_, p54.1, p54.2, _, rfl, eqA, entA⟩
     refine au ?_
     cases hF
     exact ⟨_, v30, F31, _, rfl, eqA, entA⟩
   rintro _ _ ⟨c56, v57, F58, g60, rfl, rfl, hE⟩
   replace hF := hO45
   try dsimp only at hF
   refine K_ent hE ?_
   iterate 4 refine au ?_
   rw [wk k35]
   exact ⟨_, Nat.lt_succ_self _, _, k35 + 1, rest36, _, v57, F58, rfl, eqA, hd41, entA, hF⟩
 rintro _ _ ⟨c61, v62, F63, g65, rfl, rfl, hE⟩
 replace hF := hO24
 try dsimp only at hF
 refine K_ent hE ?_
 iterate 4 refine au ?_
 rw [wk k8]
 exact ⟨_, Nat.lt_succ_self _, _, k8 + 1, rest9, _, v62, F63, rfl, eqA, hd14, entA, hF⟩
def i_ConstantsOf (a_q : Query) : Option ((List Int)) :=
 (i_termsOf_iisValue a_q.Atoms).bind fun r2 =>
 some r2
theorem i_ConstantsOf_ok (a_q : Query) (v0_0 : Sv) (v0_1 : Sv) (R : (List Int)) (hF : i_ConstantsOf a_q = some R) :
   Fw.Spec Tryz.prog 35 [(.agg [v0_0.v, v0_1.v].toArray)] [crd (RdS 3 rdInt) v0_0.v a_q.Head, crd (RdS 84 rd84) v0_1.v a_q.Atoms] (fun p : Sv × List Nat => p.1.v) (fun p => [cown (OwnS 3 (roE rdInt)) p.2 p.1.v R]) := by
 refine Se 6 Tryz.func35 [.tmp 2] ?_
 intro H0 F0
 unfold i_ConstantsOf at hF
 refine au ?_
 refine AbR (fun k1 => ?_)
 iterate 5 refine au ?_
 refine bnd hF fun r2 hx3 hF => Cx1 (i_termsOf_iisValue_ok _ _ _ hx3) (fun p4 => ?_)
 iterate 3 refine au ?_
 cases hF
 exact Er (p4.1, p4.2)
def g_slices_Grow_int_int_nil (a_n : Int) : Option (List Int) :=
 if 0 ≤ a_n ∧ a_n < 4294967296 then some [] else none
theorem g_slices_Grow_int_int_nil_ok (a_n : Int) (R : List Int) (hF : g_slices_Grow_int_int_nil a_n = some R) :
   Fw.Spec Tryz.prog 135 [(.slice none 0 0), .int .i64 a_n] [] (fun p : Sv × List Nat => p.1.v) (fun p => [cown (OwnS 3 (roE rdInt)) p.2 p.1.v R]) := by
 unfold g_slices_Grow_int_int_nil at hF
 split at hF
 · rename_i h
   obtain ⟨h0, h1⟩ := h
   cases hF
   obtain ⟨q, rfl⟩ : ∃ q : Nat, a_n = (q : Int) := ⟨a_n.toNat, by omega⟩
   have w0 : IntKind.i64.wrap ((0 : Int) - ((0 : Nat) : Int)) = 0 := by decide
   have w1 : IntKind.i64.wrap ((q : Int) - 0) = (q : Int) := by rw [wrap_in (by omega) (by omega)]; omega
   refine Spec_enter (n := 27) Tryz.func135 rfl rfl (rs := [.tmp 4]) rfl rfl rfl ?_
   intro H0 F0
   iterate 8 refine au ?_
   refine CW_cond (b := (decide ((q : Int) < 0))) (.tmp rfl rfl) (fun hb => absurd hb (by simp only [decide_eq_true_eq]; omega)) (fun _ => ?_)
   iterate 5 refine au ?_
   refine C_val (V_capNil sl22.h (.tmp rfl rfl)) ?_
   refine au ?_
   refine C_val (V_lenR (l := 0) sl22.h (.tmp rfl rfl) ⟨none, 0, rfl⟩) ?_
   refine au ?_
   rw [w0]
   refine au ?_
   rw [w1]
   iterate 6 refine au ?_
   refine CW_cond (b := (decide ((0 : Int) < (q : Int)))) (.tmp rfl rfl) (fun hb => ?_) (fun hb => ?_)
   · have hq : 0 < q := by simp only [decide_eq_true_eq] at hb; omega
     iterate 3 refine au ?_
     refine C_val (V_capNil sl22.h (.tmp rfl rfl)) ?_
     refine C_val (V_sliceNilHi sl22.h ty3.h.sz (.tmp rfl rfl) (.tmp rfl rfl)) ?_
     refine au ?_
     refine C_x1 .nil (X_growNil (Ro := (roE rdInt)) (E := 3) sl22.h ik3 ty3.h rfl rfl rfl (by exact .tmp rfl rfl) (by exact .tmp rfl rfl) hq (by omega)) (fun k => ?_)
     refine au ?_
     refine C_val (V_lenR (l := 0) sl22.h (.tmp rfl rfl) ⟨none, 0, rfl⟩) ?_
     refine C_sliceHiD (i := ((0 : Nat) : Int)) sl22.h ty3.h.sz (by exact .tmp rfl rfl) (.inr rfl) (by exact .tmp rfl rfl) .h rfl (by omega) (by omega) (by omega) ?_
     iterate 7 refine au ?_
     exact End_ret (⟨some ⟨k, 0, none⟩, 0, 2⟩, [k]) (.tmp rfl rfl .nil) rfl (.sel (.cons .h .nil))
   · iterate 6 refine au ?_
     exact End_ret (⟨none, 0, 0⟩, []) (.tmp rfl rfl .nil) rfl (.conv .nil (own_nil (Ro := (roE rdInt)) (E := 3)) (.cons .nil) (.sel (.cons .h .nil)))
 · simp at hF
def g_slices_Concat_int_int_L2 : List (List Int) → Nat → (List Int) → Option ((List Int))
 | [], k23, c17 => some c17
 | x25 :: rest24, k23, c17 => (app c17 x25).bind fun z35 =>
   g_slices_Concat_int_int_L2 rest24 (k23 + 1) z35
def g_slices_Concat_int_int_L1 (a_slices : List (List Int)) : List (List Int) → Nat → Int → Option ((List Int))
 | [], k5, c1 => (g_slices_Grow_int_int_nil c1).bind fun r14 =>
   g_slices_Concat_int_int_L2 a_slices 0 r14
 | x7 :: rest6, k5, c1 => (if (decide (((IntKind.i64.wrap (c1 + (x7.length : Int))) : Int) < 0)) then (
       none)
     else (
       some ())).bind fun o39 =>
   match o39 with
   | _ => g_slices_Concat_int_int_L1 a_slices rest6 (k5 + 1) (IntKind.i64.wrap (c1 + (x7.length : Int)))
def g_slices_Concat_int_int (a_slices : List (List Int)) : Option ((List Int)) :=
 g_slices_Concat_int_int_L1 a_slices a_slices 0 0
theorem g_slices_Concat_int_int_ok (a_slices : List (List Int)) (v0_0 : Sv) (R : (List Int)) (hF : g_slices_Concat_int_int a_slices = some R) :
   Fw.Spec Tryz.prog 97 [v0_0.v] [crd (RdS 22 (RdS 3 rdInt)) v0_0.v a_slices] (fun p : Sv × List Nat => p.1.v) (fun p => [cown (OwnS 3 (roE rdInt)) p.2 p.1.v R]) := by
 refine Se 36 Tryz.func97 [.tmp 2] ?_
 intro H0 F0
 unfold g_slices_Concat_int_int at hF
 iterate 12 refine au ?_
 refine CW_block (CW_loop (m := a_slices.length) (fun m3 f' cs' => ∃ (g : Fr) (k5 : Nat) (rest6 : List (List Int)) (c1 : Int), m3 = rest6.length ∧ f' = updL g [(0, v0_0.v), (3, (.int .i64 c1)), (9, v0_0.v), (10, (.int .i64 (a_slices.length : Int))), (11, (.int .i64 (k5 : Int)))] ∧ List.drop k5 a_slices = rest6 ∧ Ent cs' [crd (RdS 22 (RdS 3 rdInt)) v0_0.v a_slices] ∧ g_slices_Concat_int_int_L1 a_slices rest6 k5 c1 = some R) ⟨_, 0, _, _, rfl, eqA, rfl, entA, hF⟩ ?_)
 rintro m3 _ _ ⟨g4, k5, rest6, c1, rfl, rfl, hd8, hE, hF⟩
 refine Kb hE a_slices (fun hbd13 => ?_)
 rcases rest6 with _ | ⟨x7, rest6⟩
 · have hk9 := dn hd8
   rw [g_slices_Concat_int_int_L1] at hF
   iterate 4 refine au ?_
   refine CdF ?_
   iterate 6 refine au ?_
   refine bnd hF fun r14 hx15 hF => Cx1 (g_slices_Grow_int_int_nil_ok _ _ hx15) (fun p16 => ?_)
   iterate 8 refine au ?_
   refine CW_block (CW_loop (m := a_slices.length) (fun m21 f' cs' => ∃ (g : Fr) (k23 : Nat) (rest24 : List (List Int)) (c17 : List Int) (v18 : Sv) (F19 : List Nat), m21 = rest24.length ∧ f' = updL g [(6, v18.v), (25, v0_0.v), (26, (.int .i64 (a_slices.length : Int))), (27, (.int .i64 (k23 : Int)))] ∧ List.drop k23 a_slices = rest24 ∧ Ent cs' [cown (OwnS 3 (roE rdInt)) F19 v18.v c17, crd (RdS 22 (RdS 3 rdInt)) v0_0.v a_slices] ∧ g_slices_Concat_int_int_L2 rest24 k23 c17 = some R) ⟨_, 0, _, _, p16.1, p16.2, rfl, eqA, rfl, entA, hF⟩ ?_)
   rintro m21 _ _ ⟨g22, k23, rest24, c17, v18, F19, rfl, rfl, hd26, hE, hF⟩
   refine Kb hE a_slices (fun hbd31 => ?_)
   rcases rest24 with _ | ⟨x25, rest24⟩
   · have hk27 := dn hd26
     rw [g_slices_Concat_int_int_L2] at hF
     iterate 4 refine au ?_
     refine CdF ?_
     iterate 9 refine au ?_
     cases hF
     exact Er (v18, F19)
   obtain ⟨hk27, hx28, hd29⟩ := drop_cons hd26
   rw [g_slices_Concat_int_int_L2] at hF
   iterate 4 refine au ?_
   refine CdT ?_
   iterate 3 refine au ?_
   refine Ai hx28 (fun k32 j33 => ?_)
   refine C_ldV (R' := (RdS 3 rdInt)) ag22.h (.tmp rfl rfl) .h lv22_0 (fun w34 => ?_)
   iterate 5 refine au ?_
   refine bnd hF fun z35 hx36 hF => C_x1 (.cons (.t (.t .h)) (.rd .h rfl .nil)) (X_appendO (Ro := (roE rdInt)) sl22.h ni22 ty3.h rfl rfl rfl (.tmp rfl rfl) (.tmp rfl rfl) hx36 src_rd) (fun p37 => ?_)
   iterate 6 refine au ?_
   rw [wk k23]
   exact ⟨_, Nat.lt_succ_self _, _, k23 + 1, rest24, _, p37.1, p37.2, rfl, eqA, hd29, entA, hF⟩
 obtain ⟨hk9, hx10, hd11⟩ := drop_cons hd8
 rw [g_slices_Concat_int_int_L1] at hF
 iterate 4 refine au ?_
 refine CdT ?_
 refine au ?_
 obtain ⟨o39, hio39, hO40⟩ := bind_some hF
 refine K_cut (fun f' cs' => ∃ (g : Fr), o39 = () ∧ f' = updL g [(0, v0_0.v), (3, (.int .i64 (IntKind.i64.wrap (c1 + (x7.length : Int))))), (9, v0_0.v), (10, (.int .i64 (a_slices.length : Int))), (11, (.int .i64 (k5 : Int)))] ∧ Ent cs' [crd (RdS 22 (RdS 3 rdInt)) v0_0.v a_slices]) ?_ ?_
 · replace hF := hio39
   refine CW_block (K_region (C_idx (a := x7) sl153.h ty22.h.sz (.tmp rfl rfl) (.tmp rfl rfl) .h (Int.natCast_nonneg k5) hx10 (fun k41 j42 => ?_)))
   refine C_ldV (R' := (RdS 3 rdInt)) ag22.h (.tmp rfl rfl) .h lv22_0 (fun w43 => ?_)
   iterate 13 refine au ?_
   refine Ci hF (fun hb44 hF => ?_) (fun hb44 hF => ?_)
   · exact absurd hF (by simp)
   refine au ?_
   cases hF
   exact ⟨_, rfl, eqA, entA⟩
 rintro _ _ ⟨g46, rfl, rfl, hE⟩
 replace hF := hO40
 try dsimp only at hF
 refine K_ent hE ?_
 iterate 4 refine au ?_
 rw [wk k5]
 exact ⟨_, Nat.lt_succ_self _, _, k5 + 1, rest6, _, rfl, eqA, hd11, entA, hF⟩
def i_Binding_entry (a_b : Binding) (a_t : Int) : Option (Int) :=
 (chk (decide (0 ≤ (if (a_b.Values.length : Int) < (a_b.Vars.length : Int) then (a_b.Values.length : Int) else (a_b.Vars.length : Int))) && decide ((if (a_b.Values.length : Int) < (a_b.Vars.length : Int) then (a_b.Values.length : Int) else (a_b.Vars.length : Int)) ≤ (a_b.Vars.length : Int)))).bind fun u3 =>
 (g_slices_Index_int_int (a_b.Vars.take ((if (a_b.Values.length : Int) < (a_b.Vars.length : Int) then (a_b.Values.length : Int) else (a_b.Vars.length : Int))).toNat) a_t).bind fun r6 =>
 some r6
theorem i_Binding_entry_ok (a_b : Binding) (v0_0 : Sv) (v0_1 : Sv) (a_t : Int) (R : Int) (hF : i_Binding_entry a_b a_t = some R) :
   Fw.Spec Tryz.prog 110 [(.agg [v0_0.v, v0_1.v].toArray), (.int .i64 a_t)] [crd (RdS 3 rdInt) v0_0.v a_b.Vars, crd (RdS 3 rdInt) v0_1.v a_b.Values] (fun _ : Unit => (.int .i64 R)) (fun _ => []) := by
 refine Se 17 Tryz.func110 [.tmp 4] ?_
 intro H0 F0
 unfold i_Binding_entry at hF
 refine au ?_
 refine AbR (fun k1 => ?_)
 iterate 11 refine au ?_
 refine C_val (V_min (i := (a_b.Vars.length : Int)) (j := (a_b.Values.length : Int)) (.tmp rfl rfl) (.tmp rfl rfl)) ?_
 refine bnd hF fun u3 hx5 hF => ?_
 have hc2 := chk_some hx5
 simp only [Bool.and_eq_true, decide_eq_true_eq] at hc2
 refine C_sliceHiR sl22.h ty3.h.sz (.tmp rfl rfl) (.tmp rfl rfl) (.t .h) hc2.1 hc2.2 (fun w4 => ?_)
 refine au ?_
 refine bnd hF fun r6 hx7 hF => Cx0 (g_slices_Index_int_int_ok _ _ _ _ hx7) (fun _ => ?_)
 iterate 3 refine au ?_
 cases hF
 exact Er ()
def i_ValueOf (a_b : Binding) (a_term : Int) : Option (Int) :=
 (i_IsVar a_term).bind fun r2 =>
 if (!r2) then (
   some a_term)
 else (
   (i_Binding_entry a_b a_term).bind fun r5 =>
   if (decide ((r5 : Int) < 0)) then (
     some (-1))
   else (
     (ix a_b.Values r5).bind fun x8 =>
     some x8))
theorem i_ValueOf_ok (a_b : Binding) (v0_0 : Sv) (v0_1 : Sv) (a_term : Int) (R : Int) (hF : i_ValueOf a_b a_term = some R) :
   Fw.Spec Tryz.prog 68 [(.agg [v0_0.v, v0_1.v].toArray), (.int .i64 a_term)] [crd (RdS 3 rdInt) v0_0.v a_b.Vars, crd (RdS 3 rdInt) v0_1.v a_b.Values] (fun _ : Unit => (.int .i64 R)) (fun _ => []) := by
 refine Se 20 Tryz.func68 [.tmp 4] ?_
 intro H0 F0
 unfold i_ValueOf at hF
 refine au ?_
 refine AbR (fun k1 => ?_)
 iterate 5 refine au ?_
 refine bnd hF fun r2 hx3 hF => Cx0 (i_IsVar_ok _ _ hx3) (fun _ => ?_)
 iterate 2 refine au ?_
 refine Ci hF (fun hb15 hF => ?_) (fun hb15 hF => ?_)
 · iterate 5 refine au ?_
   cases hF
   exact Er ()
 iterate 4 refine au ?_
 refine bnd hF fun r5 hx6 hF => Cx0 (i_Binding_entry_ok _ _ _ _ _ hx6) (fun _ => ?_)
 iterate 7 refine au ?_
 refine Ci hF (fun hb14 hF => ?_) (fun hb14 hF => ?_)
 · iterate 4 refine au ?_
   cases hF
   exact Er ()
 iterate 5 refine au ?_
 refine bnd hF fun x8 hx9 hF => ?_
 obtain ⟨hp10, hx11⟩ := ix_some hx9
 refine Ai hx11 (fun k12 j13 => ?_)
 refine Al ls3_0 ?_
 iterate 3 refine au ?_
 cases hF
 exact Er ()
def i_factOf_L1 (a_a : Atom) (a_b : Binding) : List Int → Nat → (List Int) → Option (Fact)
 | [], k33, c27 => some ({ Rel := a_a.Rel, Values := c27 } : Fact)
 | x35 :: rest34, k33, c27 => (i_ValueOf a_b x35).bind fun r44 =>
   (app c27 ([r44] : List Int)).bind fun z48 =>
   i_factOf_L1 a_a a_b rest34 (k33 + 1) z48
def i_factOf (a_a : Atom) (a_b : Binding) : Option (Fact) :=
 i_factOf_L1 a_a a_b a_a.Terms 0 ([] : List Int)
theorem i_factOf_ok (a_a : Atom) (v0_1 : Sv) (a_b : Binding) (v1_0 : Sv) (v1_1 : Sv) (R : Fact) (hF : i_factOf a_a a_b = some R) :
   Fw.Spec Tryz.prog 102 [(.agg [(.int .i64 a_a.Rel), v0_1.v].toArray), (.agg [v1_0.v, v1_1.v].toArray)] [crd (RdS 3 rdInt) v0_1.v a_a.Terms, crd (RdS 3 rdInt) v1_0.v a_b.Vars, crd (RdS 3 rdInt) v1_1.v a_b.Values] (fun p : Sv × List Nat => (.agg [(.int .i64 R.Rel), p.1.v].toArray)) (fun p => [cown (OwnS 3 (roE rdInt)) p.2 p.1.v R.Values]) := by
 refine Se 29 Tryz.func102 [.cell 4 86] ?_
 intro H0 F0
 unfold i_factOf at hF
 refine au ?_
 refine AbR (fun k1 => ?_)
 refine AbR (fun k2 => ?_)
 refine AnW (fun k3 => ?_)
 iterate 4 refine au ?_
 refine C_new rfl (N_buildSliceT (g := true) sl22.h ty3.h .nil (vs := []) rfl rfl rfl (by simp)) (fun k4 => ?_)
 refine Cv1 (.cons .h .nil) (own_lit (Ro := (roE rdInt)) (E := 3) (F := []) (xs := ([] : List Int)) MkL_nil rfl rfl) ?_
 refine C_val (V_build ty86.h rfl (vs := [(.int .i64 a_a.Rel), (.slice (some ⟨k4, 0, none⟩) 0 1)]) (.cons (.tmp rfl rfl) (.cons (.tmp rfl rfl) .nil)) (cells := [(.int .i64 a_a.Rel), (.slice (some ⟨k4, 0, none⟩) 0 1)]) rfl) ?_
 refine AnW (fun k5 => ?_)
 refine As (.agg [(.int .i64 a_a.Rel), (.slice (some ⟨k4, 0, none⟩) 0 1)].toArray) ?_
 iterate 8 refine au ?_
 refine CW_block (CW_loop (m := a_a.Terms.length) (fun m31 f' cs' => ∃ (g : Fr) (k33 : Nat) (rest34 : List Int) (c27 : List Int) (v28 : Sv) (F29 : List Nat), m31 = rest34.length ∧ f' = updL g [(3, (pz k2)), (4, (pz k3)), (5, (pz k5)), (13, v0_1.v), (14, (.int .i64 (a_a.Terms.length : Int))), (15, (.int .i64 (k33 : Int)))] ∧ List.drop k33 a_a.Terms = rest34 ∧ Ent cs' [cboR k2 56 (.agg [v1_0.v, v1_1.v].toArray), crd (RdS 3 rdInt) v1_0.v a_b.Vars, crd (RdS 3 rdInt) v1_1.v a_b.Values, cbox k3 86 (.agg [(.int .i64 0), (.slice none 0 0)].toArray), cbox k5 86 (.agg [(.int .i64 a_a.Rel), v28.v].toArray), cown (OwnS 3 (roE rdInt)) F29 v28.v c27, crd (RdS 3 rdInt) v0_1.v a_a.Terms] ∧ i_factOf_L1 a_a a_b rest34 k33 c27 = some R) ⟨_, 0, _, _, ⟨(some ⟨k4, 0, none⟩), 0, 1⟩, (k4 :: []), rfl, eqA, rfl, entA, hF⟩ ?_)
 rintro m31 _ _ ⟨g32, k33, rest34, c27, v28, F29, rfl, rfl, hd36, hE, hF⟩
 refine Kb hE a_a.Terms (fun hbd41 => ?_)
 rcases rest34 with _ | ⟨x35, rest34⟩
 · have hk37 := dn hd36
   rw [i_factOf_L1] at hF
   iterate 4 refine au ?_
   refine CdF ?_
   iterate 6 refine au ?_
   refine As (.agg [(.int .i64 a_a.Rel), v28.v].toArray) ?_
   iterate 2 refine au ?_
   cases hF
   exact Er (v28, F29)
 obtain ⟨hk37, hx38, hd39⟩ := drop_cons hd36
 rw [i_factOf_L1] at hF
 iterate 4 refine au ?_
 refine CdT ?_
 iterate 3 refine au ?_
 refine Ai hx38 (fun k42 j43 => ?_)
 refine Al ls3_0 ?_
 iterate 2 refine au ?_
 refine CW_draw [0, 1, 2, 3, 4, 5, 6, 7, 8] [0, 1, 0, 0, 12, 28, 63, 127, 255] [4, 6, 8] mixed (by decide +kernel) ?_
 refine du ?_
 refine D_atO rfl .no (.t (.t (.t (.t (.t .h))))) (fun ha hp => V_load (v := v28.v) ag22.h (EN ha (.tmp rfl rfl) rfl) hp.2 rfl rfl) ?_
 iterate 2 refine du ?_
 refine bnd hF fun r44 hx45 hF => D_act0 rfl rfl .no (.rd (.t (.t .h)) rfl (.rd (.t (.t (.t .h))) rfl .nil)) (.own (.t (.t (.t (.t (.t .h))))) (fun _ h => h) .nil) (fun ha => X_callS cf68.h (.cons (EN ha (.tmp rfl rfl) rfl) (.cons (EN ha (.tmp rfl rfl) rfl) .nil)) (i_ValueOf_ok a_b v1_0 v1_1 x35 _ hx45)) (fun _ => ?_)
 refine D_new rfl .no rfl (fun ha => N_buildSliceT (g := true) (len := 1) (parts := [(0, .tmp 23)]) sl22.h ty3.h (.cons (EN ha (.tmp rfl rfl) rfl) .nil) (vs := [(.int .i64 r44)]) rfl rfl rfl (by intro v hv; simp at hv; rcases hv with rfl <;> rfl)) (fun k47 => ?_)
 refine Dv1 (.cons .h .nil) (own_lit (Ro := (roE rdInt)) (E := 3) (F := ([] ++ [])) (xs := ([r44] : List Int)) (MkL_cons (Mk_pure (fun _ => rfl)) MkL_nil apps) rfl rfl) ?_
 refine bnd hF fun z48 hx49 hF => D_act1 rfl rfl .no (.cons (.t (.t (.t (.t (.t (.t (.t .h))))))) (.cons .h .nil)) (.dep rfl (.dep rfl .nil)) (fun ha => X_appendO (Ro := (roE rdInt)) sl22.h ni22 ty3.h rfl rfl rfl (EN ha (.tmp rfl rfl) rfl) (EN ha (.tmp rfl rfl) rfl) hx49 src_own) (fun p50 => ?_)
 refine du ?_
 refine D_act1 rfl rfl .no (.cons (.t (.t (.t (.t (.t (.t .h)))))) .nil) (.dep rfl (.dep rfl .nil)) (fun ha => X_storeB (e' := (.agg [(.int .i64 a_a.Rel), p50.1.v].toArray)) ty22.h.sz (EN ha (.tmp rfl rfl) rfl) (EN ha (.tmp rfl rfl) rfl) rfl rfl rfl rfl rfl) (fun _ => ?_)
 refine du ?_
 iterate 4 refine au ?_
 rw [wk k33]
 exact ⟨_, Nat.lt_succ_self _, _, k33 + 1, rest34, _, p50.1, p50.2, rfl, eqA, hd39, entA, hF⟩
def g_cmp_isNaN_int (a_x : Int) : Option (Bool) :=
 some ((a_x : Int) != a_x)
theorem g_cmp_isNaN_int_ok (a_x : Int) (R : Bool) (hF : g_cmp_isNaN_int a_x = some R) :
   Fw.Spec Tryz.prog 195 [(.int .i64 a_x)] [] (fun _ : Unit => (.bool R)) (fun _ => []) := by
 refine Se 6 Tryz.func195 [.tmp 2] ?_
 intro H0 F0
 unfold g_cmp_isNaN_int at hF
 iterate 10 refine au ?_
 cases hF
 exact Er ()
def g_cmp_Compare_int (a_x : Int) (a_y : Int) : Option (Int) :=
 (g_cmp_isNaN_int a_x).bind fun r1 =>
 (g_cmp_isNaN_int a_y).bind fun r4 =>
 if r1 then (
   if r4 then (
     some 0)
   else (
     some (-1)))
 else (
   if r4 then (
     some 1)
   else (
     if (decide ((a_x : Int) < a_y)) then (
       some (-1))
     else (
       if (decide ((a_y : Int) < a_x)) then (
         some 1)
       else (
         some 0))))
theorem g_cmp_Compare_int_ok (a_x : Int) (a_y : Int) (R : Int) (hF : g_cmp_Compare_int a_x a_y = some R) :
   Fw.Spec Tryz.prog 171 [(.int .i64 a_x), (.int .i64 a_y)] [] (fun _ : Unit => (.int .i64 R)) (fun _ => []) := by
 refine Se 20 Tryz.func171 [.tmp 4] ?_
 intro H0 F0
 unfold g_cmp_Compare_int at hF
 iterate 5 refine au ?_
 refine bnd hF fun r1 hx2 hF => Cx0 (g_cmp_isNaN_int_ok _ _ hx2) (fun _ => ?_)
 iterate 4 refine au ?_
 refine bnd hF fun r4 hx5 hF => Cx0 (g_cmp_isNaN_int_ok _ _ hx5) (fun _ => ?_)
 iterate 6 refine au ?_
 refine Ci hF (fun hb11 hF => ?_) (fun hb11 hF => ?_)
 · iterate 4 refine au ?_
   refine Ci hF (fun hb7 hF => ?_) (fun hb7 hF => ?_)
   · iterate 4 refine au ?_
     cases hF
     exact Er ()
   iterate 5 refine au ?_
   cases hF
   exact Er ()
 iterate 5 refine au ?_
 refine Ci hF (fun hb10 hF => ?_) (fun hb10 hF => ?_)
 · iterate 4 refine au ?_
   cases hF
   exact Er ()
 iterate 7 refine au ?_
 refine Ci hF (fun hb9 hF => ?_) (fun hb9 hF => ?_)
 · iterate 4 refine au ?_
   cases hF
   exact Er ()
 iterate 7 refine au ?_
 refine Ci hF (fun hb8 hF => ?_) (fun hb8 hF => ?_)
 · iterate 4 refine au ?_
   cases hF
   exact Er ()
 iterate 5 refine au ?_
 cases hF
 exact Er ()
def g_slices_Compare_int_int_L1 (a_s1 : List Int) (a_s2 : List Int) : List Int → Nat → Option (Int)
 | [], k4 => if (decide (((a_s1.length : Int) : Int) < (a_s2.length : Int))) then (
     some (-1))
   else (
     some 0)
 | x6 :: rest5, k4 => if (decide (((a_s2.length : Int) : Int) ≤ (k4 : Int))) then (
     some 1)
   else (
     (ix a_s2 (k4 : Int)).bind fun x16 =>
     (g_cmp_Compare_int x6 x16).bind fun r22 =>
     if ((r22 : Int) != 0) then (
       some r22)
     else (
       g_slices_Compare_int_int_L1 a_s1 a_s2 rest5 (k4 + 1)))
def g_slices_Compare_int_int (a_s1 : List Int) (a_s2 : List Int) : Option (Int) :=
 g_slices_Compare_int_int_L1 a_s1 a_s2 a_s1 0
theorem g_slices_Compare_int_int_ok (a_s1 : List Int) (v0_0 : Sv) (a_s2 : List Int) (v1_0 : Sv) (R : Int) (hF : g_slices_Compare_int_int a_s1 a_s2 = some R) :
   Fw.Spec Tryz.prog 172 [v0_0.v, v1_0.v] [crd (RdS 3 rdInt) v0_0.v a_s1, crd (RdS 3 rdInt) v1_0.v a_s2] (fun _ : Unit => (.int .i64 R)) (fun _ => []) := by
 refine Se 36 Tryz.func172 [.tmp 4] ?_
 intro H0 F0
 unfold g_slices_Compare_int_int at hF
 iterate 9 refine au ?_
 refine CW_block (CW_loop (m := a_s1.length) (fun m2 f' cs' => ∃ (g : Fr) (k4 : Nat) (rest5 : List Int), m2 = rest5.length ∧ f' = updL g [(0, v0_0.v), (1, v1_0.v), (9, v0_0.v), (10, (.int .i64 (a_s1.length : Int))), (11, (.int .i64 (k4 : Int)))] ∧ List.drop k4 a_s1 = rest5 ∧ Ent cs' [crd (RdS 3 rdInt) v0_0.v a_s1, crd (RdS 3 rdInt) v1_0.v a_s2] ∧ g_slices_Compare_int_int_L1 a_s1 a_s2 rest5 k4 = some R) ⟨_, 0, _, rfl, eqA, rfl, entA, hF⟩ ?_)
 rintro m2 _ _ ⟨g3, k4, rest5, rfl, rfl, hd7, hE, hF⟩
 refine Kb hE a_s1 (fun hbd12 => ?_)
 rcases rest5 with _ | ⟨x6, rest5⟩
 · have hk8 := dn hd7
   rw [g_slices_Compare_int_int_L1] at hF
   iterate 4 refine au ?_
   refine CdF ?_
   iterate 12 refine au ?_
   refine Ci hF (fun hb13 hF => ?_) (fun hb13 hF => ?_)
   · iterate 4 refine au ?_
     cases hF
     exact Er ()
   iterate 5 refine au ?_
   cases hF
   exact Er ()
 obtain ⟨hk8, hx9, hd10⟩ := drop_cons hd7
 rw [g_slices_Compare_int_int_L1] at hF
 iterate 4 refine au ?_
 refine CdT ?_
 iterate 4 refine au ?_
 refine Ai hx9 (fun k14 j15 => ?_)
 refine Al ls3_0 ?_
 iterate 10 refine au ?_
 refine Ci hF (fun hb27 hF => ?_) (fun hb27 hF => ?_)
 · iterate 4 refine au ?_
   cases hF
   exact Er ()
 iterate 4 refine au ?_
 refine bnd hF fun x16 hx17 hF => ?_
 obtain ⟨hp18, hx19⟩ := ix_some hx17
 refine Ai hx19 (fun k20 j21 => ?_)
 refine Al ls3_0 ?_
 iterate 5 refine au ?_
 refine bnd hF fun r22 hx23 hF => Cx0 (g_cmp_Compare_int_ok _ _ _ hx23) (fun _ => ?_)
 iterate 6 refine au ?_
 refine Ci hF (fun hb26 hF => ?_) (fun hb26 hF => ?_)
 · iterate 5 refine au ?_
   cases hF
   exact Er ()
 iterate 5 refine au ?_
 rw [wk k4]
 exact ⟨_, Nat.lt_succ_self _, _, k4 + 1, rest5, rfl, eqA, hd10, entA, hF⟩
def g_cmp_Or_int_L1 : List Int → Nat → Option (Int)
 | [], k4 => some 0
 | x6 :: rest5, k4 => if ((x6 : Int) != 0) then (
     some x6)
   else (
     g_cmp_Or_int_L1 rest5 (k4 + 1))
def g_cmp_Or_int (a_vals : List Int) : Option (Int) :=
 g_cmp_Or_int_L1 a_vals 0
theorem g_cmp_Or_int_ok (a_vals : List Int) (v0_0 : Sv) (R : Int) (hF : g_cmp_Or_int a_vals = some R) :
   Fw.Spec Tryz.prog 170 [v0_0.v] [crd (RdS 3 rdInt) v0_0.v a_vals] (fun _ : Unit => (.int .i64 R)) (fun _ => []) := by
 refine Se 18 Tryz.func170 [.tmp 2] ?_
 intro H0 F0
 unfold g_cmp_Or_int at hF
 iterate 12 refine au ?_
 refine CW_block (CW_loop (m := a_vals.length) (fun m2 f' cs' => ∃ (g : Fr) (k4 : Nat) (rest5 : List Int), m2 = rest5.length ∧ f' = updL g [(3, (.int .i64 0)), (6, v0_0.v), (7, (.int .i64 (a_vals.length : Int))), (8, (.int .i64 (k4 : Int)))] ∧ List.drop k4 a_vals = rest5 ∧ Ent cs' [crd (RdS 3 rdInt) v0_0.v a_vals] ∧ g_cmp_Or_int_L1 rest5 k4 = some R) ⟨_, 0, _, rfl, eqA, rfl, entA, hF⟩ ?_)
 rintro m2 _ _ ⟨g3, k4, rest5, rfl, rfl, hd7, hE, hF⟩
 refine Kb hE a_vals (fun hbd12 => ?_)
 rcases rest5 with _ | ⟨x6, rest5⟩
 · have hk8 := dn hd7
   rw [g_cmp_Or_int_L1] at hF
   iterate 4 refine au ?_
   refine CdF ?_
   iterate 9 refine au ?_
   cases hF
   exact Er ()
 obtain ⟨hk8, hx9, hd10⟩ := drop_cons hd7
 rw [g_cmp_Or_int_L1] at hF
 iterate 4 refine au ?_
 refine CdT ?_
 iterate 3 refine au ?_
 refine Ai hx9 (fun k13 j14 => ?_)
 refine Al ls3_0 ?_
 iterate 7 refine au ?_
 refine Ci hF (fun hb16 hF => ?_) (fun hb16 hF => ?_)
 · iterate 5 refine au ?_
   cases hF
   exact Er ()
 iterate 5 refine au ?_
 rw [wk k4]
 exact ⟨_, Nat.lt_succ_self _, _, k4 + 1, rest5, rfl, eqA, hd10, entA, hF⟩
def i_CompareFacts (a_a : Fact) (a_b : Fact) : Option (Int) :=
 (g_cmp_Compare_int a_a.Rel a_b.Rel).bind fun r3 =>
 (g_slices_Compare_int_int a_a.Values a_b.Values).bind fun r6 =>
 (g_cmp_Or_int ([r3, r6] : List Int)).bind fun r10 =>
 some r10
theorem i_CompareFacts_ok (a_a : Fact) (v0_1 : Sv) (a_b : Fact) (v1_1 : Sv) (R : Int) (hF : i_CompareFacts a_a a_b = some R) :
   Fw.Spec Tryz.prog 142 [(.agg [(.int .i64 a_a.Rel), v0_1.v].toArray), (.agg [(.int .i64 a_b.Rel), v1_1.v].toArray)] [crd (RdS 3 rdInt) v0_1.v a_a.Values, crd (RdS 3 rdInt) v1_1.v a_b.Values] (fun _ : Unit => (.int .i64 R)) (fun _ => []) := by
 refine Se 17 Tryz.func142 [.tmp 4] ?_
 intro H0 F0
 unfold i_CompareFacts at hF
 refine au ?_
 refine AbR (fun k1 => ?_)
 refine AbR (fun k2 => ?_)
 iterate 2 refine au ?_
 refine K_draw [0, 1, 2, 3, 5, 6, 7, 8, 4, 9, 10, 11, 12] [0, 1, 0, 4, 15, 0, 32, 0, 128, 511, 1023, 2047, 4095] [4, 9, 11] mixed (by decide +kernel) ?_
 iterate 8 refine du ?_
 refine bnd hF fun r3 hx4 hF => Dx0 (g_cmp_Compare_int_ok _ _ _ hx4) (fun _ => ?_)
 refine bnd hF fun r6 hx7 hF => Dx0 (g_slices_Compare_int_int_ok _ _ _ _ _ hx7) (fun _ => ?_)
 refine D_new rfl .no rfl (fun ha => N_buildSliceT (g := true) (len := 2) (parts := [(0, .tmp 9), (1, .tmp 14)]) sl22.h ty3.h (.cons (EN ha (.tmp rfl rfl) rfl) (.cons (EN ha (.tmp rfl rfl) rfl) .nil)) (vs := [(.int .i64 r3), (.int .i64 r6)]) rfl rfl rfl (by intro v hv; simp at hv; rcases hv with rfl | rfl <;> rfl)) (fun k9 => ?_)
 refine Dv1 (.cons .h .nil) (own_lit (Ro := (roE rdInt)) (E := 3) (F := ([] ++ ([] ++ []))) (xs := ([r3, r6] : List Int)) (MkL_cons (Mk_pure (fun _ => rfl)) (MkL_cons (Mk_pure (fun _ => rfl)) MkL_nil apps) apps) rfl rfl) ?_
 refine bnd hF fun r10 hx11 hF => D_act1 rfl rfl .no (.cons .h .nil) (.dep rfl .nil) (fun ha => XC_bor frz_own (fun _ => .nil) (X_callS cf170.h (.cons (EN ha (.tmp rfl rfl) rfl) .nil) (g_cmp_Or_int_ok ([r3, r6] : List Int) (⟨(some ⟨k9, 0, none⟩), 2, 1⟩) _ hx11))) (fun _ => ?_)
 iterate 2 refine du ?_
 refine au ?_
 cases hF
 exact Er ()
def i_HasFact_1 (a_x : Fact) (a_e1 : Fact) : Option (Bool) :=
 (i_CompareFacts a_x a_e1).bind fun r2 =>
 some ((r2 : Int) == 0)
theorem i_HasFact_1_ok (a_x : Fact) (v0_1 : Sv) (kc1 : Nat) (a_e1 : Fact) (vc1_1 : Sv) (R : Bool) (hF : i_HasFact_1 a_x a_e1 = some R) :
   Fw.Spec Tryz.prog 169 [(.agg [(.int .i64 a_x.Rel), v0_1.v].toArray), (pz kc1)] [crd (RdS 3 rdInt) v0_1.v a_x.Values, cboR kc1 86 (.agg [(.int .i64 a_e1.Rel), vc1_1.v].toArray), crd (RdS 3 rdInt) vc1_1.v a_e1.Values] (fun _ : Unit => (.bool R)) (fun _ => []) := by
 refine Se 8 Tryz.func169 [.tmp 3] ?_
 intro H0 F0
 unfold i_HasFact_1 at hF
 refine au ?_
 refine AbR (fun k1 => ?_)
 iterate 5 refine au ?_
 refine bnd hF fun r2 hx3 hF => Cx0 (i_CompareFacts_ok _ _ _ _ _ hx3) (fun _ => ?_)
 iterate 4 refine au ?_
 cases hF
 exact Er ()
def g_slices_IndexFunc_impl_Fact_impl_Fact_iHasFact1_L1 (a_e1 : Fact) : List Fact → Nat → Option (Int)
 | [], k4 => some (-1)
 | x6 :: rest5, k4 => (i_HasFact_1 x6 a_e1).bind fun r16 =>
   if r16 then (
     some (k4 : Int))
   else (
     g_slices_IndexFunc_impl_Fact_impl_Fact_iHasFact1_L1 a_e1 rest5 (k4 + 1))
def g_slices_IndexFunc_impl_Fact_impl_Fact_iHasFact1 (a_s : List Fact) (a_e1 : Fact) : Option (Int) :=
 g_slices_IndexFunc_impl_Fact_impl_Fact_iHasFact1_L1 a_e1 a_s 0
theorem g_slices_IndexFunc_impl_Fact_impl_Fact_iHasFact1_ok (a_s : List Fact) (v0_0 : Sv) (kc1 : Nat) (a_e1 : Fact) (vc1_1 : Sv) (R : Int) (hF : g_slices_IndexFunc_impl_Fact_impl_Fact_iHasFact1 a_s a_e1 = some R) :
   Fw.Spec Tryz.prog 140 [v0_0.v, (.func (.func 169) [].toArray [(pz kc1)].toArray)] [crd (RdS 86 rd86) v0_0.v a_s, cboR kc1 86 (.agg [(.int .i64 a_e1.Rel), vc1_1.v].toArray), crd (RdS 3 rdInt) vc1_1.v a_e1.Values] (fun _ : Unit => (.int .i64 R)) (fun _ => []) := by
 refine Se 19 Tryz.func140 [.tmp 4] ?_
 intro H0 F0
 unfold g_slices_IndexFunc_impl_Fact_impl_Fact_iHasFact1 at hF
 iterate 9 refine au ?_
 refine CW_block (CW_loop (m := a_s.length) (fun m2 f' cs' => ∃ (g : Fr) (k4 : Nat) (rest5 : List Fact), m2 = rest5.length ∧ f' = updL g [(0, v0_0.v), (1, (.func (.func 169) [].toArray [(pz kc1)].toArray)), (7, (.int .i64 (a_s.length : Int))), (8, (.int .i64 (k4 : Int)))] ∧ List.drop k4 a_s = rest5 ∧ Ent cs' [crd (RdS 86 rd86) v0_0.v a_s, cboR kc1 86 (.agg [(.int .i64 a_e1.Rel), vc1_1.v].toArray), crd (RdS 3 rdInt) vc1_1.v a_e1.Values] ∧ g_slices_IndexFunc_impl_Fact_impl_Fact_iHasFact1_L1 a_e1 rest5 k4 = some R) ⟨_, 0, _, rfl, eqA, rfl, entA, hF⟩ ?_)
 rintro m2 _ _ ⟨g3, k4, rest5, rfl, rfl, hd7, hE, hF⟩
 refine Kb hE a_s (fun hbd12 => ?_)
 rcases rest5 with _ | ⟨x6, rest5⟩
 · have hk8 := dn hd7
   rw [g_slices_IndexFunc_impl_Fact_impl_Fact_iHasFact1_L1] at hF
   iterate 4 refine au ?_
   refine CdF ?_
   iterate 8 refine au ?_
   cases hF
   exact Er ()
 obtain ⟨hk8, hx9, hd10⟩ := drop_cons hd7
 rw [g_slices_IndexFunc_impl_Fact_impl_Fact_iHasFact1_L1] at hF
 iterate 4 refine au ?_
 refine CdT ?_
 iterate 10 refine au ?_
 refine Ai hx9 (fun k13 j14 => ?_)
 refine AlA1 (ul86_0_86 x6) la86_0_86 (fun p15 => ?_)
 refine bnd hF fun r16 hx17 hF => C_x0 (.rd .h rfl (.rd (.t (.t (.t .h))) rfl (.rd (.t (.t (.t (.t .h)))) rfl .nil))) (X_callCS cf169.h (.tmp rfl rfl) (.cons (.tmp rfl rfl) .nil) (i_HasFact_1_ok x6 p15 kc1 a_e1 vc1_1 _ hx17)) (fun _ => ?_)
 refine au ?_
 refine Ci hF (fun hb20 hF => ?_) (fun hb20 hF => ?_)
 · iterate 5 refine au ?_
   cases hF
   exact Er ()
 iterate 5 refine au ?_
 rw [wk k4]
 exact ⟨_, Nat.lt_succ_self _, _, k4 + 1, rest5, rfl, eqA, hd10, entA, hF⟩
def g_slices_ContainsFunc_impl_Fact_impl_Fact_iHasFact1 (a_s : List Fact) (a_e1 : Fact) : Option (Bool) :=
 (g_slices_IndexFunc_impl_Fact_impl_Fact_iHasFact1 a_s a_e1).bind fun r1 =>
 some (decide ((0 : Int) ≤ r1))
theorem g_slices_ContainsFunc_impl_Fact_impl_Fact_iHasFact1_ok (a_s : List Fact) (v0_0 : Sv) (kc1 : Nat) (a_e1 : Fact) (vc1_1 : Sv) (R : Bool) (hF : g_slices_ContainsFunc_impl_Fact_impl_Fact_iHasFact1 a_s a_e1 = some R) :
   Fw.Spec Tryz.prog 168 [v0_0.v, (.func (.func 169) [].toArray [(pz kc1)].toArray)] [crd (RdS 86 rd86) v0_0.v a_s, cboR kc1 86 (.agg [(.int .i64 a_e1.Rel), vc1_1.v].toArray), crd (RdS 3 rdInt) vc1_1.v a_e1.Values] (fun _ : Unit => (.bool R)) (fun _ => []) := by
 refine Se 9 Tryz.func168 [.tmp 4] ?_
 intro H0 F0
 unfold g_slices_ContainsFunc_impl_Fact_impl_Fact_iHasFact1 at hF
 iterate 6 refine au ?_
 refine bnd hF fun r1 hx2 hF => Cx0 (g_slices_IndexFunc_impl_Fact_impl_Fact_iHasFact1_ok _ _ _ _ _ _ hx2) (fun _ => ?_)
 iterate 4 refine au ?_
 cases hF
 exact Er ()
def i_HasFact (a_l : List Fact) (a_f : Fact) : Option (Bool) :=
 (g_slices_ContainsFunc_impl_Fact_impl_Fact_iHasFact1 a_l a_f).bind fun r2 =>
 some r2
theorem i_HasFact_ok (a_l : List Fact) (v0_0 : Sv) (a_f : Fact) (v1_1 : Sv) (R : Bool) (hF : i_HasFact a_l a_f = some R) :
   Fw.Spec Tryz.prog 139 [v0_0.v, (.agg [(.int .i64 a_f.Rel), v1_1.v].toArray)] [crd (RdS 86 rd86) v0_0.v a_l, crd (RdS 3 rdInt) v1_1.v a_f.Values] (fun _ : Unit => (.bool R)) (fun _ => []) := by
 refine Se 8 Tryz.func139 [.tmp 4] ?_
 intro H0 F0
 unfold i_HasFact at hF
 refine au ?_
 refine AbR (fun k1 => ?_)
 iterate 4 refine au ?_
 refine C_val (V_makeFunc (fn := .func 169) (vs := []) (us := [(pz k1)]) .nil (.cons (.tmp rfl rfl) .nil)) ?_
 refine bnd hF fun r2 hx3 hF => Cx0 (g_slices_ContainsFunc_impl_Fact_impl_Fact_iHasFact1_ok _ _ _ _ _ _ hx3) (fun _ => ?_)
 iterate 3 refine au ?_
 cases hF
 exact Er ()
def i_added_1 (a_x : Fact) (a_e1 : Fact) : Option (Bool) :=
 (i_CompareFacts a_x a_e1).bind fun r2 =>
 some (decide ((0 : Int) < r2))
theorem i_added_1_ok (a_x : Fact) (v0_1 : Sv) (kc1 : Nat) (a_e1 : Fact) (vc1_1 : Sv) (R : Bool) (hF : i_added_1 a_x a_e1 = some R) :
   Fw.Spec Tryz.prog 141 [(.agg [(.int .i64 a_x.Rel), v0_1.v].toArray), (pz kc1)] [crd (RdS 3 rdInt) v0_1.v a_x.Values, cboR kc1 86 (.agg [(.int .i64 a_e1.Rel), vc1_1.v].toArray), crd (RdS 3 rdInt) vc1_1.v a_e1.Values] (fun _ : Unit => (.bool R)) (fun _ => []) := by
 refine Se 8 Tryz.func141 [.tmp 3] ?_
 intro H0 F0
 unfold i_added_1 at hF
 refine au ?_
 refine AbR (fun k1 => ?_)
 iterate 5 refine au ?_
 refine bnd hF fun r2 hx3 hF => Cx0 (i_CompareFacts_ok _ _ _ _ _ hx3) (fun _ => ?_)
 iterate 4 refine au ?_
 cases hF
 exact Er ()
def g_slices_IndexFunc_impl_Fact_impl_Fact_iadded1_L1 (a_e1 : Fact) : List Fact → Nat → Option (Int)
 | [], k4 => some (-1)
 | x6 :: rest5, k4 => (i_added_1 x6 a_e1).bind fun r16 =>
   if r16 then (
     some (k4 : Int))
   else (
     g_slices_IndexFunc_impl_Fact_impl_Fact_iadded1_L1 a_e1 rest5 (k4 + 1))
def g_slices_IndexFunc_impl_Fact_impl_Fact_iadded1 (a_s : List Fact) (a_e1 : Fact) : Option (Int) :=
 g_slices_IndexFunc_impl_Fact_impl_Fact_iadded1_L1 a_e1 a_s 0
theorem g_slices_IndexFunc_impl_Fact_impl_Fact_iadded1_ok (a_s : List Fact) (v0_0 : Sv) (kc1 : Nat) (a_e1 : Fact) (vc1_1 : Sv) (R : Int) (hF : g_slices_IndexFunc_impl_Fact_impl_Fact_iadded1 a_s a_e1 = some R) :
   Fw.Spec Tryz.prog 140 [v0_0.v, (.func (.func 141) [].toArray [(pz kc1)].toArray)] [crd (RdS 86 rd86) v0_0.v a_s, cboR kc1 86 (.agg [(.int .i64 a_e1.Rel), vc1_1.v].toArray), crd (RdS 3 rdInt) vc1_1.v a_e1.Values] (fun _ : Unit => (.int .i64 R)) (fun _ => []) := by
 refine Se 19 Tryz.func140 [.tmp 4] ?_
 intro H0 F0
 unfold g_slices_IndexFunc_impl_Fact_impl_Fact_iadded1 at hF
 iterate 9 refine au ?_
 refine CW_block (CW_loop (m := a_s.length) (fun m2 f' cs' => ∃ (g : Fr) (k4 : Nat) (rest5 : List Fact), m2 = rest5.length ∧ f' = updL g [(0, v0_0.v), (1, (.func (.func 141) [].toArray [(pz kc1)].toArray)), (7, (.int .i64 (a_s.length : Int))), (8, (.int .i64 (k4 : Int)))] ∧ List.drop k4 a_s = rest5 ∧ Ent cs' [crd (RdS 86 rd86) v0_0.v a_s, cboR kc1 86 (.agg [(.int .i64 a_e1.Rel), vc1_1.v].toArray), crd (RdS 3 rdInt) vc1_1.v a_e1.Values] ∧ g_slices_IndexFunc_impl_Fact_impl_Fact_iadded1_L1 a_e1 rest5 k4 = some R) ⟨_, 0, _, rfl, eqA, rfl, entA, hF⟩ ?_)
 rintro m2 _ _ ⟨g3, k4, rest5, rfl, rfl, hd7, hE, hF⟩
 refine Kb hE a_s (fun hbd12 => ?_)
 rcases rest5 with _ | ⟨x6, rest5⟩
 · have hk8 := dn hd7
   rw [g_slices_IndexFunc_impl_Fact_impl_Fact_iadded1_L1] at hF
   iterate 4 refine au ?_
   refine CdF ?_
   iterate 8 refine au ?_
   cases hF
   exact Er ()
 obtain ⟨hk8, hx9, hd10⟩ := drop_cons hd7
 rw [g_slices_IndexFunc_impl_Fact_impl_Fact_iadded1_L1] at hF
 iterate 4 refine au ?_
 refine CdT ?_
 iterate 10 refine au ?_
 refine Ai hx9 (fun k13 j14 => ?_)
 refine AlA1 (ul86_0_86 x6) la86_0_86 (fun p15 => ?_)
 refine bnd hF fun r16 hx17 hF => C_x0 (.rd .h rfl (.rd (.t (.t (.t .h))) rfl (.rd (.t (.t (.t (.t .h)))) rfl .nil))) (X_callCS cf141.h (.tmp rfl rfl) (.cons (.tmp rfl rfl) .nil) (i_added_1_ok x6 p15 kc1 a_e1 vc1_1 _ hx17)) (fun _ => ?_)
 refine au ?_
 refine Ci hF (fun hb20 hF => ?_) (fun hb20 hF => ?_)
 · iterate 5 refine au ?_
   cases hF
   exact Er ()
 iterate 5 refine au ?_
 rw [wk k4]
 exact ⟨_, Nat.lt_succ_self _, _, k4 + 1, rest5, rfl, eqA, hd10, entA, hF⟩
def i_copyFact (a_f : Fact) : Option (Fact) :=
 (g_slices_Clone_int_int a_f.Values).bind fun r3 =>
 some ({ Rel := a_f.Rel, Values := r3 } : Fact)
theorem i_copyFact_ok (a_f : Fact) (v0_1 : Sv) (R : Fact) (hF : i_copyFact a_f = some R) :
   Fw.Spec Tryz.prog 144 [(.agg [(.int .i64 a_f.Rel), v0_1.v].toArray)] [crd (RdS 3 rdInt) v0_1.v a_f.Values] (fun p : Sv × List Nat => (.agg [(.int .i64 R.Rel), p.1.v].toArray)) (fun p => [cown (OwnS 3 (roE rdInt)) p.2 p.1.v R.Values]) := by
 refine Se 9 Tryz.func144 [.cell 2 86] ?_
 intro H0 F0
 unfold i_copyFact at hF
 refine au ?_
 refine AbR (fun k1 => ?_)
 refine AnW (fun k2 => ?_)
 refine au ?_
 refine K_draw [0, 1, 2, 3, 4, 5, 6] [0, 1, 0, 4, 12, 31, 63] [4, 6] mixed (by decide +kernel) ?_
 iterate 4 refine du ?_
 refine bnd hF fun r3 hx4 hF => Dx1 (g_slices_Clone_int_int_ok _ _ _ hx4) (fun p5 => ?_)
 refine D_val rfl .no (fun ha => V_build ty86.h rfl (vs := [(.int .i64 a_f.Rel), p5.1.v]) (.cons (EN ha (.tmp rfl rfl) rfl) (.cons (EN ha (.tmp rfl rfl) rfl) .nil)) (cells := [(.int .i64 a_f.Rel), p5.1.v]) rfl) ?_
 refine D_act1 rfl rfl .no (.cons (.t .h) .nil) .nil (fun ha => X_storeB (e' := (.agg [(.int .i64 a_f.Rel), p5.1.v].toArray)) (v := (.agg [(.int .i64 a_f.Rel), p5.1.v].toArray)) ty86.h.sz (EN ha (.tmp rfl rfl) rfl) (EN ha (.tmp rfl rfl) rfl) rfl rfl rfl rfl rfl) (fun _ => ?_)
 refine du ?_
 refine au ?_
 cases hF
 exact Er (p5.1, p5.2)
def g_slices_Insert_impl_Fact_impl_Fact (a_s : List Fact) (a_i : Int) (a_v : List Fact) : Option (List Fact) :=
 match a_v with
 | [a] => if 0 ≤ a_i ∧ a_i.toNat ≤ a_s.length ∧ a_s.length + 1 < 4294967296 then some (a_s.take a_i.toNat ++ a :: a_s.drop a_i.toNat) else none
 | _ => none
set_option maxHeartbeats 4000000 in
theorem g_slices_Insert_impl_Fact_impl_Fact_raw (es : List Value) (e : Value) (v u : Sv) (F F2 : List Nat) (i : Nat) (hi : i ≤ es.length) (hb : es.length + 1 < 4294967296) : Fw.Spec Tryz.prog 143 [v.v, .int .i64 (i : Int), u.v] [cown (OwnS 86 (roE (rvs 2))) F v.v es, cown (OwnS 86 (roE (rvs 2))) F2 u.v [e]] (fun q : Sv × List Nat => q.1.v) (fun q => [cown (OwnS 86 (roE (rvs 2))) q.2 q.1.v (es.take i ++ e :: es.drop i)]) := by
 refine Spec_enter (n := 95) Tryz.func143 rfl rfl (rs := [.tmp 6]) rfl rfl rfl ?_
 intro H0 F0
 refine K_region ?_
 refine C_val (V_assign (v := (.slice none 0 0)) EV.nilSlice) ?_
 refine C_nil ?_
 refine K_region ?_
 refine C_val (V_move (v := v.v) (.tmp rfl rfl)) ?_
 refine C_val (V_move (v := (.int .i64 (i : Int))) (.tmp rfl rfl)) ?_
 refine C_x1 (.cons .h .nil) (X_sliceLoE sl29.h ty86.h.sz (.tmp rfl rfl) (.tmp rfl rfl) hi) (fun w0 => ?_)
 refine C_nil ?_
 refine K_region ?_
 refine C_val (V_move (v := u.v) (.tmp rfl rfl)) ?_
 refine C_at (.t .h) (fun hp => V_lenR (l := 1) sl29.h (.tmp rfl rfl) (cown_len hp)) ?_
 refine C_val (V_assign (v := (.int .i64 ((1 : Nat) : Int))) (.tmp rfl rfl)) ?_
 refine C_nil ?_
 refine K_in ?_
 refine K_region ?_
 refine C_val (V_move (v := (.int .i64 ((1 : Nat) : Int))) (.tmp rfl rfl)) ?_
 refine C_val (V_eql (i := ((1 : Nat) : Int)) (j := 0) (.tmp rfl rfl) (.int _ _)) ?_
 refine C_nil ?_
 refine CW_cond (b := (((1 : Nat) : Int) == 0)) (.tmp rfl rfl) (fun hb0 => absurd hb0 (by decide)) (fun _ => ?_)
 refine CW_skip ?_
 refine K_region ?_
 refine C_val (V_move (v := v.v) (.tmp rfl rfl)) ?_
 refine C_at .h (fun hp => V_lenR (l := es.length) sl29.h (.tmp rfl rfl) (cown_len hp)) ?_
 refine C_val (V_assign (v := (.int .i64 (es.length : Int))) (.tmp rfl rfl)) ?_
 refine C_nil ?_
 refine K_in ?_
 refine K_region ?_
 refine C_val (V_move (v := (.int .i64 (i : Int))) (.tmp rfl rfl)) ?_
 refine C_val (V_move (v := (.int .i64 (es.length : Int))) (.tmp rfl rfl)) ?_
 refine C_val (V_eql (i := (i : Int)) (j := (es.length : Int)) (.tmp rfl rfl) (.tmp rfl rfl)) ?_
 refine C_nil ?_
 refine CW_cond (b := ((i : Int) == (es.length : Int))) (.tmp rfl rfl) (fun hb1 => ?_) (fun hb1 => ?_)
 · have hie : i = es.length := by simp only [beq_iff_eq] at hb1; omega
   refine K_region ?_
   refine C_val (V_move (v := v.v) (.tmp rfl rfl)) ?_
   refine C_val (V_move (v := u.v) (.tmp rfl rfl)) ?_
   refine C_x1 (.cons .h (.cons .h .nil)) (X_appendO (Ro := (roE (rvs 2))) sl29.h ni29 ty86.h rfl rfl rfl (.tmp rfl rfl) (.tmp rfl rfl) (app_ok (xs := es) (ys := [e]) (by simpa using hb)) src_own) (fun p => ?_)
   refine C_val (V_assign (v := p.1.v) (.tmp rfl rfl)) ?_
   refine C_nil ?_
   refine CW_ret ?_
   rw [hie, List.take_length, List.drop_length]
   exact End_ret p (.tmp rfl rfl .nil) rfl (.sel (.cons .h .nil))
 refine CW_skip ?_
 have hlt : i < es.length := by simp at hb1; omega
 refine K_pure .h (own_form (by intro h; rw [h] at hlt; simp at hlt)) (fun hv => ?_)
 obtain ⟨k0, m0, rfl, hm0⟩ := hv
 refine K_pure (.t .h) (own_form (by simp)) (fun hu => ?_)
 obtain ⟨k1, m1, rfl, hm1⟩ := hu
 refine K_cap (t := 0) (k := k0) (l := es.length) (m := m0) rfl rfl hm0 (by omega) .h rfl (fun c hc => ?_)
 have w1 : IntKind.i64.wrap ((es.length : Int) + ((1 : Nat) : Int)) = ((es.length + 1 : Nat) : Int) := by rw [wrap_in (by omega) (by omega)]; rfl
 have w2 : IntKind.i64.wrap ((i : Int) + ((1 : Nat) : Int)) = ((i + 1 : Nat) : Int) := by rw [wrap_in (by omega) (by omega)]; rfl
 have w3 : IntKind.i64.wrap (((es.length + 1 : Nat) : Int) - (i : Int)) = ((es.length + 1 - i : Nat) : Int) := by rw [wrap_in (by omega) (by omega)]; omega
 have hel : (es.take i ++ e :: es.drop i).length = es.length + 1 := ins_len hi
 refine K_in ?_
 refine K_region ?_
 refine C_val (V_move (v := (.int .i64 (es.length : Int))) (.tmp rfl rfl)) ?_
 refine C_val (V_move (v := (.int .i64 ((1 : Nat) : Int))) (.tmp rfl rfl)) ?_
 refine C_val (V_add (i := (es.length : Int)) (j := ((1 : Nat) : Int)) (.tmp rfl rfl) (.tmp rfl rfl)) ?_
 rw [w1]
 refine C_val (V_move (v := (.slice (some ⟨k0, 0, none⟩) es.length (c + 3))) (.tmp rfl rfl)) ?_
 refine C_at .h (fun hp => V_capO sl29.h hp rfl (.tmp rfl rfl)) ?_
 refine C_val (V_gtr (i := ((es.length + 1 : Nat) : Int)) (j := (c : Int)) (.tmp rfl rfl) (.tmp rfl rfl)) ?_
 refine C_nil ?_
 refine CW_cond (b := (decide ((c : Int) < ((es.length + 1 : Nat) : Int)))) (.tmp rfl rfl) (fun hb2 => ?_) (fun hb2 => ?_)
 · have hcl : c < es.length + 1 := by simp only [decide_eq_true_eq] at hb2; omega
   refine K_region ?_
   refine C_val (V_move (v := (.slice (some ⟨k0, 0, none⟩) es.length (c + 3))) (.tmp rfl rfl)) ?_
   refine C_val (V_move (v := (.int .i64 (i : Int))) (.tmp rfl rfl)) ?_
   refine C_at .h (fun hp => V_sliceCapO (j := i) sl29.h ty86.h.sz hp rfl (.tmp rfl rfl) (.tmp rfl rfl) (by omega)) ?_
   refine C_val (V_move (v := (.int .i64 (es.length : Int))) (.tmp rfl rfl)) ?_
   refine C_val (V_move (v := (.int .i64 ((1 : Nat) : Int))) (.tmp rfl rfl)) ?_
   refine C_val (V_add (i := (es.length : Int)) (j := ((1 : Nat) : Int)) (.tmp rfl rfl) (.tmp rfl rfl)) ?_
   rw [w1]
   refine C_val (V_move (v := (.int .i64 (i : Int))) (.tmp rfl rfl)) ?_
   refine C_val (V_sub (i := ((es.length + 1 : Nat) : Int)) (j := (i : Int)) (.tmp rfl rfl) (.tmp rfl rfl)) ?_
   rw [w3]
   refine C_x2 (.cons .h .nil) (X_appendMake (c := c) (q := es.length + 1 - i) sl29.h ik3 ty86.h rfl rfl rfl rfl rfl rfl (.tmp rfl rfl) (.tmp rfl rfl) (by omega) (by omega) (by omega) (by omega)) (fun k2 => ?_)
   rw [show i + (es.length + 1 - i) = es.length + 1 from by omega]
   refine C_val (V_assign (v := (.slice (some ⟨k2, 0, none⟩) (es.length + 1) 2)) (.tmp rfl rfl)) ?_
   refine C_nil ?_
   refine K_region ?_
   refine C_val (V_move (v := (.slice (some ⟨k2, 0, none⟩) (es.length + 1) 2)) (.tmp rfl rfl)) ?_
   refine C_val (V_move (v := (.int .i64 (i : Int))) (.tmp rfl rfl)) ?_
   refine C_at .h (fun hp => V_sliceLoO (j := i) sl29.h ty86.h.sz hp rfl (.tmp rfl rfl) (.tmp rfl rfl) (by omega)) ?_
   refine C_val (V_move (v := (.slice (some ⟨k1, 0, none⟩) 1 m1)) (.tmp rfl rfl)) ?_
   refine C_x2 (.cons .h (.cons (.t .h) .nil)) (X_copy2 (m1 := 0) (m2 := m1) (ia := i) (ja := 0) (ld := es.length + 1 - i) (ls := 1) (es2 := [e]) (es' := es.take i ++ e :: List.replicate (es.length - i) (.agg [(.int .i64 0), (.slice none 0 0)].toArray)) sl29.h ty86.h.sz rfl rfl rfl (by exact .tmp rfl rfl) (by exact .tmp rfl rfl) (by omega) (by omega) (by rw [List.length_singleton]; omega) (by simp; omega) (ins_l1 (e := e) (z := (.agg [(.int .i64 0), (.slice none 0 0)].toArray)) hlt) (by simp; omega)) (fun _ => ?_)
   refine C_nil ?_
   refine K_draw [0, 1, 2, 3, 4, 5, 6, 7, 8] [0, 0, 0, 6, 15, 0, 0, 96, 255] [8] mixed (by decide +kernel) ?_
   refine D_val rfl .no (fun ha => V_move (v := (.slice (some ⟨k2, 0, none⟩) (es.length + 1) 2)) (EN ha (.tmp rfl rfl) rfl)) ?_
   refine D_val rfl .no (fun ha => V_move (v := (.int .i64 (i : Int))) (EN ha (.tmp rfl rfl) rfl)) ?_
   refine D_val rfl .no (fun ha => V_move (v := (.int .i64 ((1 : Nat) : Int))) (EN ha (.tmp rfl rfl) rfl)) ?_
   refine D_val rfl .no (fun ha => V_add (i := (i : Int)) (j := ((1 : Nat) : Int)) (EN ha (.tmp rfl rfl) rfl) (EN ha (.tmp rfl rfl) rfl)) ?_
   rw [w2]
   refine D_atO rfl .no .h (fun ha hp => V_sliceLoO (j := i + 1) sl29.h ty86.h.sz hp rfl (EN ha (.tmp rfl rfl) rfl) (EN ha (.tmp rfl rfl) rfl) (by omega)) ?_
   refine D_val rfl .no (fun ha => V_move (v := (.slice (some ⟨k0, 0, none⟩) es.length (c + 3))) (EN ha (.tmp rfl rfl) rfl)) ?_
   refine D_val rfl .no (fun ha => V_move (v := (.int .i64 (i : Int))) (EN ha (.tmp rfl rfl) rfl)) ?_
   refine D_atO rfl .no (.t (.t .h)) (fun ha hp => V_sliceLoO (j := i) sl29.h ty86.h.sz hp rfl (EN ha (.tmp rfl rfl) rfl) (EN ha (.tmp rfl rfl) rfl) (by omega)) ?_
   refine D_act2 rfl rfl .no (.cons .h (.cons (.t .h) .nil)) (.dep rfl (.dep rfl .nil)) (fun ha => X_copy2 sl29.h ty86.h.sz rfl rfl rfl (EN ha (.tmp rfl rfl) rfl) (EN ha (.tmp rfl rfl) rfl) (by omega) (by omega) (by omega) (by simp; omega) (ins_l2 (e := e) (z := (.agg [(.int .i64 0), (.slice none 0 0)].toArray)) hlt) (by omega)) (fun _ => ?_)
   refine D_nil ?_
   refine K_region ?_
   refine C_val (V_move (v := (.slice (some ⟨k2, 0, none⟩) (es.length + 1) 2)) (.tmp rfl rfl)) ?_
   refine C_val (V_assign (v := (.slice (some ⟨k2, 0, none⟩) (es.length + 1) 2)) (.tmp rfl rfl)) ?_
   refine C_nil ?_
   refine CW_ret ?_
   rw [hel]
   exact End_ret (⟨some ⟨k2, 0, none⟩, es.length + 1, 2⟩, [k2]) (.tmp rfl rfl .nil) rfl (.sel (.cons .h .nil))
 refine CW_skip ?_
 have hcl : es.length + 1 ≤ c := by simp only [decide_eq_false_iff_not] at hb2; omega
 refine K_region ?_
 refine C_val (V_move (v := (.slice (some ⟨k0, 0, none⟩) es.length (c + 3))) (.tmp rfl rfl)) ?_
 refine C_val (V_move (v := (.int .i64 (es.length : Int))) (.tmp rfl rfl)) ?_
 refine C_val (V_move (v := (.int .i64 ((1 : Nat) : Int))) (.tmp rfl rfl)) ?_
 refine C_val (V_add (i := (es.length : Int)) (j := ((1 : Nat) : Int)) (.tmp rfl rfl) (.tmp rfl rfl)) ?_
 rw [w1]
 refine C_at .h (fun hp => V_sliceCapO (j := es.length + 1) sl29.h ty86.h.sz hp rfl (.tmp rfl rfl) (.tmp rfl rfl) hcl) ?_
 refine C_val (V_assign (v := (.slice (some ⟨k0, 0, none⟩) (es.length + 1) (c + 3))) (.tmp rfl rfl)) ?_
 refine C_nil ?_
 refine K_in ?_
 refine K_region ?_
 refine C_val (V_move (v := (.slice (some ⟨k1, 0, none⟩) 1 m1)) (.tmp rfl rfl)) ?_
 refine C_val (V_move (v := (.slice (some ⟨k0, 0, none⟩) (es.length + 1) (c + 3))) (.tmp rfl rfl)) ?_
 refine C_val (V_move (v := (.int .i64 (i : Int))) (.tmp rfl rfl)) ?_
 refine C_val (V_move (v := (.int .i64 ((1 : Nat) : Int))) (.tmp rfl rfl)) ?_
 refine C_val (V_add (i := (i : Int)) (j := ((1 : Nat) : Int)) (.tmp rfl rfl) (.tmp rfl rfl)) ?_
 rw [w2]
 refine C_at .h (fun hp => V_sliceLoO (j := i + 1) sl29.h ty86.h.sz hp rfl (.tmp rfl rfl) (.tmp rfl rfl) (by omega)) ?_
 refine C_x2 (.cons (.t .h) (.cons .h .nil)) (X_overlaps sl29.h ty86.h.sz rfl hov173 rfl rfl (.tmp rfl rfl) (.tmp rfl rfl) (by omega) (by omega)) (fun _ => ?_)
 refine C_val (V_not (b := false) (.tmp rfl rfl)) ?_
 refine C_nil ?_
 refine CW_cond (b := (!false)) (.tmp rfl rfl) (fun _ => ?_) (fun h => absurd h (by decide))
 refine K_draw [0, 1, 2, 3, 4, 5, 6, 7, 8] [0, 0, 0, 6, 15, 0, 0, 96, 255] [8] mixed (by decide +kernel) ?_
 refine D_val rfl .no (fun ha => V_move (v := (.slice (some ⟨k0, 0, none⟩) (es.length + 1) (c + 3))) (EN ha (.tmp rfl rfl) rfl)) ?_
 refine D_val rfl .no (fun ha => V_move (v := (.int .i64 (i : Int))) (EN ha (.tmp rfl rfl) rfl)) ?_
 refine D_val rfl .no (fun ha => V_move (v := (.int .i64 ((1 : Nat) : Int))) (EN ha (.tmp rfl rfl) rfl)) ?_
 refine D_val rfl .no (fun ha => V_add (i := (i : Int)) (j := ((1 : Nat) : Int)) (EN ha (.tmp rfl rfl) rfl) (EN ha (.tmp rfl rfl) rfl)) ?_
 rw [w2]
 refine D_atO rfl .no (.t .h) (fun ha hp => V_sliceLoO (j := i + 1) sl29.h ty86.h.sz hp rfl (EN ha (.tmp rfl rfl) rfl) (EN ha (.tmp rfl rfl) rfl) (by omega)) ?_
 refine D_val rfl .no (fun ha => V_move (v := (.slice (some ⟨k0, 0, none⟩) (es.length + 1) (c + 3))) (EN ha (.tmp rfl rfl) rfl)) ?_
 refine D_val rfl .no (fun ha => V_move (v := (.int .i64 (i : Int))) (EN ha (.tmp rfl rfl) rfl)) ?_
 refine D_atO rfl .no (.t .h) (fun ha hp => V_sliceLoO (j := i) sl29.h ty86.h.sz hp rfl (EN ha (.tmp rfl rfl) rfl) (EN ha (.tmp rfl rfl) rfl) (by omega)) ?_
 refine D_act1 rfl rfl .no (.cons (.t .h) .nil) (.dep rfl (.dep rfl .nil)) (fun ha => X_copyS sl29.h ty86.h.sz rfl rfl (EN ha (.tmp rfl rfl) rfl) (EN ha (.tmp rfl rfl) rfl) (by omega) (by omega) (by omega) (by omega) (ins_l3 hlt) (by simp; omega)) (fun _ => ?_)
 refine D_nil ?_
 refine K_region ?_
 refine C_val (V_move (v := (.slice (some ⟨k0, 0, none⟩) (es.length + 1) (c + 3))) (.tmp rfl rfl)) ?_
 refine C_val (V_move (v := (.int .i64 (i : Int))) (.tmp rfl rfl)) ?_
 refine C_at .h (fun hp => V_sliceLoO (j := i) sl29.h ty86.h.sz hp rfl (.tmp rfl rfl) (.tmp rfl rfl) (by omega)) ?_
 refine C_val (V_move (v := (.slice (some ⟨k1, 0, none⟩) 1 m1)) (.tmp rfl rfl)) ?_
 refine C_x2 (.cons .h (.cons .h .nil)) (X_copy2 (m1 := 0) (m2 := m1) (ia := i) (ja := 0) (ld := es.length + 1 - i) (ls := 1) (es2 := [e]) (es' := es.take i ++ e :: es.drop i) sl29.h ty86.h.sz rfl rfl rfl (by exact .tmp rfl rfl) (by exact .tmp rfl rfl) (by omega) (by omega) (by rw [List.length_singleton]; omega) (by simp; omega) (ins_l4 (e := e) hlt) (by omega)) (fun _ => ?_)
 refine C_nil ?_
 refine K_region ?_
 refine C_val (V_move (v := (.slice (some ⟨k0, 0, none⟩) (es.length + 1) (c + 3))) (.tmp rfl rfl)) ?_
 refine C_val (V_assign (v := (.slice (some ⟨k0, 0, none⟩) (es.length + 1) (c + 3))) (.tmp rfl rfl)) ?_
 refine C_nil ?_
 refine K_uncap (t := 6) (k := k0) (l := es.length + 1) (c := c) rfl rfl ?_
 refine CW_ret ?_
 rw [hel]
 exact End_ret (⟨some ⟨k0, 0, none⟩, es.length + 1, 2⟩, F) (.tmp rfl rfl .nil) rfl (.sel (.cons .h .nil))
theorem g_slices_Insert_impl_Fact_impl_Fact_ok (a_s : List Fact) (v0_0 : Sv) (F0_0 : List Nat) (a_i : Int) (a_v : List Fact) (v2_0 : Sv) (F2_0 : List Nat) (R : List Fact) (hF : g_slices_Insert_impl_Fact_impl_Fact a_s a_i a_v = some R) :
   Fw.Spec Tryz.prog 143 [v0_0.v, .int .i64 a_i, v2_0.v] [cown (OwnS 86 ow86) F0_0 v0_0.v a_s, cown (OwnS 86 ow86) F2_0 v2_0.v a_v] (fun p : Sv × List Nat => p.1.v) (fun p => [cown (OwnS 86 ow86) p.2 p.1.v R]) := by
 unfold g_slices_Insert_impl_Fact_impl_Fact at hF
 rcases a_v with _ | ⟨a, _ | ⟨_, _⟩⟩
 · simp at hF
 · dsimp only at hF
   split at hF
   · rename_i h
     obtain ⟨h0, h1, h2⟩ := h
     obtain ⟨i, rfl⟩ : ∃ i : Nat, a_i = (i : Int) := ⟨a_i.toNat, by omega⟩
     cases hF
     rw [Int.toNat_natCast] at h1 ⊢
     exact Spec_insD (s := 2) fun es e Fa Fb hl => g_slices_Insert_impl_Fact_impl_Fact_raw es e v0_0 v2_0 Fa Fb i (by omega) (by omega)
   · simp at hF
 · simp at hF
def i_added (a_l : List Fact) (a_f : Fact) : Option ((List Fact)) :=
 (i_HasFact a_l a_f).bind fun r2 =>
 if r2 then (
   some a_l)
 else (
   (g_slices_IndexFunc_impl_Fact_impl_Fact_iadded1 a_l a_f).bind fun r5 =>
   if (decide ((r5 : Int) < 0)) then (
     (i_copyFact a_f).bind fun r8 =>
     (g_slices_Insert_impl_Fact_impl_Fact a_l (a_l.length : Int) ([r8] : List Fact)).bind fun r12 =>
     some r12)
   else (
     (i_copyFact a_f).bind fun r15 =>
     (g_slices_Insert_impl_Fact_impl_Fact a_l r5 ([r15] : List Fact)).bind fun r19 =>
     some r19))
theorem i_added_ok (a_l : List Fact) (v0_0 : Sv) (F0_0 : List Nat) (a_f : Fact) (v1_1 : Sv) (R : (List Fact)) (hF : i_added a_l a_f = some R) :
   Fw.Spec Tryz.prog 101 [v0_0.v, (.agg [(.int .i64 a_f.Rel), v1_1.v].toArray)] [cown (OwnS 86 ow86) F0_0 v0_0.v a_l, crd (RdS 3 rdInt) v1_1.v a_f.Values] (fun p : Sv × List Nat => p.1.v) (fun p => [cown (OwnS 86 ow86) p.2 p.1.v R]) := by
 refine Se 23 Tryz.func101 [.tmp 4] ?_
 intro H0 F0
 unfold i_added at hF
 refine au ?_
 refine AbR (fun k1 => ?_)
 iterate 6 refine au ?_
 refine bnd hF fun r2 hx3 hF => C_x1 (.cons (.t .h) (.rd (.t .h) rfl .nil)) (XC_bor frz_own (fun _ => .nil) (X_callS cf139.h (.cons (.tmp rfl rfl) (.cons (.tmp rfl rfl) .nil)) (i_HasFact_ok a_l v0_0 a_f v1_1 _ hx3))) (fun _ => ?_)
 refine au ?_
 refine Ci hF (fun hb23 hF => ?_) (fun hb23 hF => ?_)
 · iterate 5 refine au ?_
   cases hF
   exact Er (v0_0, F0_0)
 iterate 3 refine au ?_
 refine C_val (V_makeFunc (fn := .func 141) (vs := []) (us := [(pz k1)]) .nil (.cons (.tmp rfl rfl) .nil)) ?_
 refine bnd hF fun r5 hx6 hF => C_x1 (.cons .h (.rd .h rfl (.rd (.t .h) rfl .nil))) (XC_bor frz_own (fun _ => .nil) (X_callS cf140.h (.cons (.tmp rfl rfl) (.cons (.tmp rfl rfl) .nil)) (g_slices_IndexFunc_impl_Fact_impl_Fact_iadded1_ok a_l v0_0 k1 a_f v1_1 _ hx6))) (fun _ => ?_)
 iterate 7 refine au ?_
 refine Ci hF (fun hb22 hF => ?_) (fun hb22 hF => ?_)
 · iterate 9 refine au ?_
   refine bnd hF fun r8 hx9 hF => Cx1 (i_copyFact_ok _ _ _ hx9) (fun p10 => ?_)
   refine C_new rfl (N_buildSliceT (g := true) sl29.h ty86.h (.cons (.tmp rfl rfl) .nil) (vs := [(.agg [(.int .i64 r8.Rel), p10.1.v].toArray)]) rfl rfl rfl (by intro v hv; simp at hv; rcases hv with rfl <;> rfl)) (fun k11 => ?_)
   refine Cv1 (.cons .h (.cons .h .nil)) (own_lit (Ro := ow86) (E := 86) (F := (p10.2 ++ [])) (xs := ([r8] : List Fact)) (MkL_cons mk86 MkL_nil apps) rfl rfl) ?_
   refine bnd hF fun r12 hx13 hF => Cx1 (g_slices_Insert_impl_Fact_impl_Fact_ok _ _ _ _ _ (⟨(some ⟨k11, 0, none⟩), 1, 1⟩) _ _ hx13) (fun p14 => ?_)
   iterate 3 refine au ?_
   cases hF
   exact Er (p14.1, p14.2)
 iterate 5 refine au ?_
 refine bnd hF fun r15 hx16 hF => Cx1 (i_copyFact_ok _ _ _ hx16) (fun p17 => ?_)
 refine C_new rfl (N_buildSliceT (g := true) sl29.h ty86.h (.cons (.tmp rfl rfl) .nil) (vs := [(.agg [(.int .i64 r15.Rel), p17.1.v].toArray)]) rfl rfl rfl (by intro v hv; simp at hv; rcases hv with rfl <;> rfl)) (fun k18 => ?_)
 refine Cv1 (.cons .h (.cons .h .nil)) (own_lit (Ro := ow86) (E := 86) (F := (p17.2 ++ [])) (xs := ([r15] : List Fact)) (MkL_cons mk86 MkL_nil apps) rfl rfl) ?_
 refine bnd hF fun r19 hx20 hF => Cx1 (g_slices_Insert_impl_Fact_impl_Fact_ok _ _ _ _ _ (⟨(some ⟨k18, 0, none⟩), 1, 1⟩) _ _ hx20) (fun p21 => ?_)
 iterate 3 refine au ?_
 cases hF
 exact Er (p21.1, p21.2)
def i_freeze_L3 (a_without : List Int) : Nat → Int → Option (Int)
 | 0, _ => none
 | m90 + 1, c89 => (g_slices_Contains_int_int a_without c89).bind fun r98 =>
   if r98 then (
     i_freeze_L3 a_without m90 (IntKind.i64.wrap (c89 + 1)))
   else (
     some c89)
def i_freeze_L4 (c62 : List Int) (c65 : List Int) : List Atom → Nat → (List Fact) → Option ((List Fact) × Binding × Bool)
 | [], k131, c125 => some (c125, ({ Vars := c62, Values := c65 } : Binding), true)
 | x133 :: rest132, k131, c125 => (i_factOf x133 ({ Vars := c62, Values := c65 } : Binding)).bind fun r144 =>
   (i_added c125 r144).bind fun r147 =>
   i_freeze_L4 c62 c65 rest132 (k131 + 1) r147
def i_freeze_L1 (a_q : Query) (a_without : List Int) (r4 : (List Int)) (fuel : Nat) : Nat → (List Int) → (List Int) → Int → Int → Option ((List Fact) × Binding × Bool)
 | 0, _, _, _, _ => none
 | m70 + 1, c62, c65, c68, c69 => if (decide ((c69 : Int) < (r4.length : Int))) then (
     (((ix r4 c69).bind fun x83 =>
       (i_freeze_L3 a_without fuel c68).bind fun o87 =>
       match o87 with
       | c102 => (i_isValue c102).bind fun r103 =>
         if (!r103) then (
           some (.inl ([], ({ Vars := [], Values := [] } : Binding), false)))
         else (
           (app c62 ([x83] : List Int)).bind fun z108 =>
           (app c65 ([c102] : List Int)).bind fun z111 =>
           some (.inr (z108, z111, (IntKind.i64.wrap (c102 + 1)))))) : Option (Sum ((List Fact) × Binding × Bool) ((List Int) × (List Int) × Int))).bind fun o78 =>
     match o78 with
     | .inl r => some r
     | .inr (c116, c119, c122) => i_freeze_L1 a_q a_without r4 fuel m70 c116 c119 c122 (IntKind.i64.wrap (c69 + 1)))
   else (
     i_freeze_L4 c62 c65 a_q.Atoms 0 ([] : List Fact))
def i_freeze (fuel : Nat) (a_q : Query) (a_without : List Int) : Option ((List Fact) × Binding × Bool) :=
 (i_VarsOf a_q).bind fun r4 =>
 i_freeze_L1 a_q a_without r4 fuel (((r4.length : Int) - 0).toNat + 2) ([] : List Int) ([] : List Int) 0 0
theorem i_freeze_ok (fuel : Nat) (a_q : Query) (v0_0 : Sv) (v0_1 : Sv) (a_without : List Int) (v1_0 : Sv) (R : (List Fact) × Binding × Bool) (hF : i_freeze fuel a_q a_without = some R) :
   Fw.Spec Tryz.prog 63 [(.agg [v0_0.v, v0_1.v].toArray), v1_0.v] [crd (RdS 3 rdInt) v0_0.v a_q.Head, crd (RdS 84 rd84) v0_1.v a_q.Atoms, crd (RdS 3 rdInt) v1_0.v a_without] (fun p : Sv × List Nat × Sv × List Nat × Sv × List Nat => (.tuple [p.1.v, (.agg [p.2.2.1.v, p.2.2.2.2.1.v].toArray), (.bool R.2.2)].toArray)) (fun p => [cown (OwnS 86 ow86) p.2.1 p.1.v R.1, cown (OwnS 3 (roE rdInt)) p.2.2.2.1 p.2.2.1.v R.2.1.Vars, cown (OwnS 3 (roE rdInt)) p.2.2.2.2.2 p.2.2.2.2.1.v R.2.1.Values]) := by
 refine Se 62 Tryz.func63 [.tmp 4, .cell 5 56, .tmp 6] ?_
 intro H0 F0
 unfold i_freeze at hF
 refine au ?_
 refine AbR (fun k1 => ?_)
 refine au ?_
 refine AnW (fun k2 => ?_)
 iterate 3 refine au ?_
 refine C_val (V_build ty56.h rfl (vs := []) .nil (cells := [(.slice none 0 0), (.slice none 0 0)]) rfl) ?_
 refine AnW (fun k3 => ?_)
 refine As (.agg [(.slice none 0 0), (.slice none 0 0)].toArray) ?_
 iterate 7 refine au ?_
 refine bnd hF fun r4 hx5 hF => Cx1 (i_VarsOf_ok _ _ _ _ hx5) (fun p6 => ?_)
 iterate 3 refine au ?_
 refine CW_block (CW_loop (m := (((r4.length : Int) - 0).toNat + 2)) (fun m70 f' cs' => ∃ (g : Fr) (c62 : List Int) (c65 : List Int) (c68 : Int) (c69 : Int) (v63 : Sv) (F64 : List Nat) (v66 : Sv) (F67 : List Nat), f' = updL g [(1, v1_0.v), (2, (pz k1)), (5, (pz k2)), (7, (pz k3)), (8, (.int .i64 c68)), (16, p6.1.v), (17, (.int .i64 (r4.length : Int))), (18, (.int .i64 c69))] ∧ Ent cs' [crd (RdS 3 rdInt) v1_0.v a_without, cboR k1 39 (.agg [v0_0.v, v0_1.v].toArray), crd (RdS 3 rdInt) v0_0.v a_q.Head, crd (RdS 84 rd84) v0_1.v a_q.Atoms, cbox k2 56 (.agg [(.slice none 0 0), (.slice none 0 0)].toArray), cbox k3 56 (.agg [v63.v, v66.v].toArray), cown (OwnS 3 (roE rdInt)) F64 v63.v c62, cown (OwnS 3 (roE rdInt)) F67 v66.v c65, cown (OwnS 3 (roE rdInt)) p6.2 p6.1.v r4] ∧ i_freeze_L1 a_q a_without r4 fuel m70 c62 c65 c68 c69 = some R) ⟨_, _, _, _, _, ⟨none, 0, 0⟩, [], ⟨none, 0, 0⟩, [], eqA, (.conv .nil (own_nil (Ro := (roE rdInt)) (E := 3)) (.cons .nil) (.conv .nil (own_nil (Ro := (roE rdInt)) (E := 3)) (.cons .nil) entA)), hF⟩ ?_)
 rintro m70 _ _ ⟨g71, c62, c65, c68, c69, v63, F64, v66, F67, rfl, hE, hF⟩
 refine K_ent hE ?_
 rcases m70 with _ | m70
 · rw [i_freeze_L1] at hF
   exact absurd hF (by simp)
 rw [i_freeze_L1] at hF
 iterate 4 refine au ?_
 refine Ci hF (fun hb151 hF => ?_) (fun hb151 hF => ?_)
 · refine au ?_
   obtain ⟨o78, hio78, hO79⟩ := bind_some hF
   refine K_cut (fun f' cs' => ∃ (c116 : List Int) (c119 : List Int) (c122 : Int) (v117 : Sv) (F118 : List Nat) (v120 : Sv) (F121 : List Nat) (g : Fr), o78 = .inr (c116, c119, c122) ∧ f' = updL g [(1, v1_0.v), (2, (pz k1)), (5, (pz k2)), (7, (pz k3)), (8, (.int .i64 c122)), (16, p6.1.v), (17, (.int .i64 (r4.length : Int))), (18, (.int .i64 c69))] ∧ Ent cs' [crd (RdS 3 rdInt) v1_0.v a_without, cboR k1 39 (.agg [v0_0.v, v0_1.v].toArray), crd (RdS 3 rdInt) v0_0.v a_q.Head, crd (RdS 84 rd84) v0_1.v a_q.Atoms, cbox k2 56 (.agg [(.slice none 0 0), (.slice none 0 0)].toArray), cbox k3 56 (.agg [v117.v, v120.v].toArray), cown (OwnS 3 (roE rdInt)) F118 v117.v c116, cown (OwnS 3 (roE rdInt)) F121 v120.v c119, cown (OwnS 3 (roE rdInt)) p6.2 p6.1.v r4]) ?_ ?_
   · replace hF := hio78
     refine CW_block (K_region ?_)
     refine bnd hF fun x83 hx84 hF => ?_
     have hi82 := ix_chk hx84
     obtain ⟨hp85, hx86⟩ := ix_some hx84
     refine C_idxO sl22.h ty3.h.sz (.tmp rfl rfl) (.tmp rfl rfl) (.t (.t (.t (.t (.t (.t (.t (.t .h)))))))) hi82 (fun k80 hk81 => ?_)
     refine C_ldO (w := (.int .i64 x83)) ag3.h (.tmp rfl rfl) (.t (.t (.t (.t (.t (.t (.t (.t .h)))))))) hk81 hx86 lo3_0 ?_
     iterate 2 refine au ?_
     obtain ⟨o87, hio87, hO88⟩ := bind_some hF
     refine K_cut (fun f' cs' => ∃ (c102 : Int) (g : Fr), c102 = o87 ∧ f' = updL g [(1, v1_0.v), (2, (pz k1)), (5, (pz k2)), (7, (pz k3)), (8, (.int .i64 c102)), (10, (.int .i64 x83)), (16, p6.1.v), (17, (.int .i64 (r4.length : Int))), (18, (.int .i64 c69))] ∧ Ent cs' [crd (RdS 3 rdInt) v1_0.v a_without, cboR k1 39 (.agg [v0_0.v, v0_1.v].toArray), crd (RdS 3 rdInt) v0_0.v a_q.Head, crd (RdS 84 rd84) v0_1.v a_q.Atoms, cbox k2 56 (.agg [(.slice none 0 0), (.slice none 0 0)].toArray), cbox k3 56 (.agg [v63.v, v66.v].toArray), cown (OwnS 3 (roE rdInt)) F64 v63.v c62, cown (OwnS 3 (roE rdInt)) F67 v66.v c65, cown (OwnS 3 (roE rdInt)) p6.2 p6.1.v r4]) ?_ ?_
     · replace hF := hio87
       refine CW_block (CW_loop (m := fuel) (fun m90 f' cs' => ∃ (g : Fr) (c89 : Int), f' = updL g [(1, v1_0.v), (2, (pz k1)), (5, (pz k2)), (7, (pz k3)), (8, (.int .i64 c89)), (10, (.int .i64 x83)), (16, p6.1.v), (17, (.int .i64 (r4.length : Int))), (18, (.int .i64 c69))] ∧ Ent cs' [crd (RdS 3 rdInt) v1_0.v a_without, cboR k1 39 (.agg [v0_0.v, v0_1.v].toArray), crd (RdS 3 rdInt) v0_0.v a_q.Head, crd (RdS 84 rd84) v0_1.v a_q.Atoms, cbox k2 56 (.agg [(.slice none 0 0), (.slice none 0 0)].toArray), cbox k3 56 (.agg [v63.v, v66.v].toArray), cown (OwnS 3 (roE rdInt)) F64 v63.v c62, cown (OwnS 3 (roE rdInt)) F67 v66.v c65, cown (OwnS 3 (roE rdInt)) p6.2 p6.1.v r4] ∧ i_freeze_L3 a_without m90 c89 = some o87) ⟨_, _, eqA, entA, hF⟩ ?_)
       rintro m90 _ _ ⟨g91, c89, rfl, hE, hF⟩
       refine K_ent hE ?_
       rcases m90 with _ | m90
       · rw [i_freeze_L3] at hF
         exact absurd hF (by simp)
       rw [i_freeze_L3] at hF
       iterate 4 refine au ?_
       refine bnd hF fun r98 hx99 hF => Cx0 (g_slices_Contains_int_int_ok _ _ _ _ hx99) (fun _ => ?_)
       refine au ?_
       refine Ci hF (fun hb101 hF => ?_) (fun hb101 hF => ?_)
       · refine au ?_
         refine CW_block (CW_region (Cm (.int .i64 c89) rfl rfl ?_))
         iterate 3 refine au ?_
         exact ⟨m90, Nat.lt_succ_self _, _, _, eqA, entA, hF⟩
       iterate 4 refine au ?_
       cases hF
       exact ⟨_, _, rfl, eqA, entA⟩
     rintro _ _ ⟨c102, g115, rfl, rfl, hE⟩
     replace hF := hO88
     try dsimp only at hF
     refine K_ent hE ?_
     iterate 3 refine au ?_
     refine bnd hF fun r103 hx104 hF => Cx0 (i_isValue_ok _ _ hx104) (fun _ => ?_)
     iterate 2 refine au ?_
     refine Ci hF (fun hb114 hF => ?_) (fun hb114 hF => ?_)
     · refine au ?_
       refine C_val (V_build ty56.h rfl (vs := []) .nil (cells := [(.slice none 0 0), (.slice none 0 0)]) rfl) ?_
       refine au ?_
       refine As (.agg [(.slice none 0 0), (.slice none 0 0)].toArray) ?_
       iterate 3 refine au ?_
       cases hF
       replace hF := hO79
       try dsimp only at hF
       cases hF
       exact End_ret (⟨none, 0, 0⟩, [], ⟨none, 0, 0⟩, [], ⟨none, 0, 0⟩, []) (.tmp rfl rfl (.cellA rfl rfl .h rfl ag56.h ty56.h.sz rfl rfl (.tmp rfl rfl .nil))) rfl (.conv .nil (own_nil (Ro := ow86) (E := 86)) (.cons .nil) (.conv .nil (own_nil (Ro := (roE rdInt)) (E := 3)) (.cons .nil) (.conv .nil (own_nil (Ro := (roE rdInt)) (E := 3)) (.cons .nil) (.sel (.cons (.t (.t .h)) (.cons (.t .h) (.cons .h .nil)))))))
     refine au ?_
     refine K_draw [0, 1, 2, 3, 5, 6, 7, 8, 4, 10, 9, 11, 12, 13] [0, 1, 0, 4, 15, 0, 32, 0, 128, 511, 127, 2047, 4095, 8191] [4, 9, 11, 13] mixed (by decide +kernel) ?_
     refine du ?_
     refine D_atO rfl .no (.t (.t (.t (.t (.t .h))))) (fun ha hp => V_load (v := v63.v) ag22.h (EN ha (.tmp rfl rfl) rfl) hp.2 rfl rfl) ?_
     refine du ?_
     refine D_new rfl .no rfl (fun ha => N_buildSliceT (g := true) (len := 1) (parts := [(0, .tmp 33)]) sl22.h ty3.h (.cons (EN ha (.tmp rfl rfl) rfl) .nil) (vs := [(.int .i64 x83)]) rfl rfl rfl (by intro v hv; simp at hv; rcases hv with rfl <;> rfl)) (fun k106 => ?_)
     refine Dv1 (.cons .h .nil) (own_lit (Ro := (roE rdInt)) (E := 3) (F := ([] ++ [])) (xs := ([x83] : List Int)) (MkL_cons (Mk_pure (fun _ => rfl)) MkL_nil apps) rfl rfl) ?_
     refine du ?_
     refine D_atO rfl .no (.t (.t (.t (.t (.t (.t .h)))))) (fun ha hp => V_load (v := v66.v) ag22.h (EN ha (.tmp rfl rfl) rfl) hp.2 rfl rfl) ?_
     refine du ?_
     refine D_new rfl .no rfl (fun ha => N_buildSliceT (g := true) (len := 1) (parts := [(0, .tmp 38)]) sl22.h ty3.h (.cons (EN ha (.tmp rfl rfl) rfl) .nil) (vs := [(.int .i64 c102)]) rfl rfl rfl (by intro v hv; simp at hv; rcases hv with rfl <;> rfl)) (fun k107 => ?_)
     refine Dv1 (.cons .h .nil) (own_lit (Ro := (roE rdInt)) (E := 3) (F := ([] ++ [])) (xs := ([c102] : List Int)) (MkL_cons (Mk_pure (fun _ => rfl)) MkL_nil apps) rfl rfl) ?_
     refine bnd hF fun z108 hx109 hF => D_act1 rfl rfl .no (.cons (.t (.t (.t (.t (.t (.t (.t (.t .h)))))))) (.cons (.t .h) .nil)) (.own .h (by simp [cown]) (.own (.t (.t (.t (.t (.t (.t .h)))))) (fun _ h => h) (.dep rfl (.dep rfl .nil)))) (fun ha => X_appendO (Ro := (roE rdInt)) sl22.h ni22 ty3.h rfl rfl rfl (EN ha (.tmp rfl rfl) rfl) (EN ha (.tmp rfl rfl) rfl) hx109 src_own) (fun p110 => ?_)
     refine du ?_
     refine bnd hF fun z111 hx112 hF => D_act1 rfl rfl .no (.cons (.t (.t (.t (.t (.t (.t (.t (.t .h)))))))) (.cons (.t .h) .nil)) (.dep rfl (.dep rfl (.dep rfl (.dep rfl .nil)))) (fun ha => X_appendO (Ro := (roE rdInt)) sl22.h ni22 ty3.h rfl rfl rfl (EN ha (.tmp rfl rfl) rfl) (EN ha (.tmp rfl rfl) rfl) hx112 src_own) (fun p113 => ?_)
     refine D_act1 rfl rfl .no (.cons (.t (.t (.t (.t (.t (.t (.t .h))))))) .nil) (.dep rfl (.dep rfl (.dep rfl (.dep rfl .nil)))) (fun ha => X_storeB (e' := (.agg [p110.1.v, v66.v].toArray)) ty22.h.sz (EN ha (.tmp rfl rfl) rfl) (EN ha (.tmp rfl rfl) rfl) rfl rfl rfl rfl rfl) (fun _ => ?_)
     refine du ?_
     refine D_act1 rfl rfl .no (.cons .h .nil) (.dep rfl (.dep rfl (.dep rfl (.dep rfl .nil)))) (fun ha => X_storeB (e' := (.agg [p110.1.v, p113.1.v].toArray)) ty22.h.sz (EN ha (.tmp rfl rfl) rfl) (EN ha (.tmp rfl rfl) rfl) rfl rfl rfl rfl rfl) (fun _ => ?_)
     refine du ?_
     iterate 5 refine au ?_
     cases hF
     exact ⟨_, _, _, p110.1, p110.2, p113.1, p113.2, _, rfl, eqA, entA⟩
   rintro _ _ ⟨c116, c119, c122, v117, F118, v120, F121, g123, rfl, rfl, hE⟩
   replace hF := hO79
   try dsimp only at hF
   refine K_ent hE ?_
   iterate 4 refine au ?_
   exact ⟨m70, Nat.lt_succ_self _, _, _, _, _, _, v117, F118, v120, F121, eqA, entA, hF⟩
 iterate 5 refine au ?_
 refine C_new rfl (N_buildSliceT (g := true) sl29.h ty86.h .nil (vs := []) rfl rfl rfl (by simp)) (fun k124 => ?_)
 refine Cv1 (.cons .h .nil) (own_lit (Ro := ow86) (E := 86) (F := []) (xs := ([] : List Fact)) MkL_nil rfl rfl) ?_
 iterate 9 refine au ?_
 refine CW_block (CW_loop (m := a_q.Atoms.length) (fun m129 f' cs' => ∃ (g : Fr) (k131 : Nat) (rest132 : List Atom) (c125 : List Fact) (v126 : Sv) (F127 : List Nat), m129 = rest132.length ∧ f' = updL g [(5, (pz k2)), (7, (pz k3)), (11, v126.v), (48, v0_1.v), (49, (.int .i64 (a_q.Atoms.length : Int))), (50, (.int .i64 (k131 : Int)))] ∧ List.drop k131 a_q.Atoms = rest132 ∧ Ent cs' [cbox k2 56 (.agg [(.slice none 0 0), (.slice none 0 0)].toArray), cbox k3 56 (.agg [v63.v, v66.v].toArray), cown (OwnS 3 (roE rdInt)) F64 v63.v c62, cown (OwnS 3 (roE rdInt)) F67 v66.v c65, cown (OwnS 86 ow86) F127 v126.v c125, crd (RdS 84 rd84) v0_1.v a_q.Atoms] ∧ i_freeze_L4 c62 c65 rest132 k131 c125 = some R) ⟨_, 0, _, _, ⟨(some ⟨k124, 0, none⟩), 0, 1⟩, (k124 :: []), rfl, eqA, rfl, entA, hF⟩ ?_)
 rintro m129 _ _ ⟨g130, k131, rest132, c125, v126, F127, rfl, rfl, hd134, hE, hF⟩
 refine Kb hE a_q.Atoms (fun hbd139 => ?_)
 rcases rest132 with _ | ⟨x133, rest132⟩
 · have hk135 := dn hd134
   rw [i_freeze_L4] at hF
   iterate 4 refine au ?_
   refine CdF ?_
   iterate 4 refine au ?_
   refine K_draw [0, 1, 2, 3, 4] [0, 0, 1, 7, 15] [3] mixed (by decide +kernel) ?_
   refine du ?_
   refine D_atO rfl .no (.t .h) (fun ha hp => V_loadBox ag56.h ty56.h.sz rfl (EN ha (.tmp rfl rfl) rfl) hp.2 rfl) ?_
   refine du ?_
   refine D_act1 rfl rfl .no (.cons .h .nil) (.dep rfl .nil) (fun ha => X_storeB (e' := (.agg [v63.v, v66.v].toArray)) (v := (.agg [v63.v, v66.v].toArray)) ty56.h.sz (EN ha (.tmp rfl rfl) rfl) (EN ha (.tmp rfl rfl) rfl) rfl rfl rfl rfl rfl) (fun _ => ?_)
   iterate 2 refine du ?_
   refine au ?_
   cases hF
   exact End_ret (v126, F127, v63, F64, v66, F67) (.tmp rfl rfl (.cellA rfl rfl .h rfl ag56.h ty56.h.sz rfl rfl (.tmp rfl rfl .nil))) rfl (.sel (.cons (.t (.t (.t (.t .h)))) (.cons (.t (.t .h)) (.cons (.t (.t .h)) .nil))))
 obtain ⟨hk135, hx136, hd137⟩ := drop_cons hd134
 rw [i_freeze_L4] at hF
 iterate 4 refine au ?_
 refine CdT ?_
 iterate 3 refine au ?_
 refine Ai hx136 (fun k140 j141 => ?_)
 refine AlA1 (ul84_0_84 x133) la84_0_84 (fun p142 => ?_)
 refine AnW (fun k143 => ?_)
 refine As (.agg [(.int .i64 x133.Rel), p142.v].toArray) ?_
 iterate 5 refine au ?_
 refine bnd hF fun r144 hx145 hF => C_x3 (.cons (.t (.t (.t (.t (.t (.t .h)))))) (.cons (.t (.t (.t (.t (.t .h))))) (.rd (.t .h) rfl .nil))) (XC_borL (pre := _) (.cons frz_own (.cons frz_own .nil)) (fun _ => (.cons .nil)) (XC_pre (.rd (.t (.t .h)) rfl (.rd .h rfl (.rd (.t .h) rfl .nil))) (X_callS cf102.h (.cons (.tmp rfl rfl) (.cons (.tmp rfl rfl) .nil)) (i_factOf_ok x133 p142 ({ Vars := c62, Values := c65 } : Binding) v63 v66 _ hx145)))) (fun p146 => ?_)
 refine C_frz (.t (.t .h)) frz_own ?_
 refine bnd hF fun r147 hx148 hF => Cx1 (i_added_ok _ _ _ _ _ _ hx148) (fun p149 => ?_)
 iterate 6 refine au ?_
 rw [wk k131]
 exact ⟨_, Nat.lt_succ_self _, _, k131 + 1, rest132, _, p149.1, p149.2, rfl, eqA, hd137, entA, hF⟩
def i_TupleOf_L1 (a_b : Binding) : List Int → Nat → (List Int) → Option ((List Int))
 | [], k10, c4 => some c4
 | x12 :: rest11, k10, c4 => (i_ValueOf a_b x12).bind fun r21 =>
   (app c4 ([r21] : List Int)).bind fun z25 =>
   i_TupleOf_L1 a_b rest11 (k10 + 1) z25
def i_TupleOf (a_q : Query) (a_b : Binding) : Option ((List Int)) :=
 i_TupleOf_L1 a_b a_q.Head 0 ([] : List Int)
theorem i_TupleOf_ok (a_q : Query) (v0_0 : Sv) (v0_1 : Sv) (a_b : Binding) (v1_0 : Sv) (v1_1 : Sv) (R : (List Int)) (hF : i_TupleOf a_q a_b = some R) :
   Fw.Spec Tryz.prog 36 [(.agg [v0_0.v, v0_1.v].toArray), (.agg [v1_0.v, v1_1.v].toArray)] [crd (RdS 3 rdInt) v0_0.v a_q.Head, crd (RdS 84 rd84) v0_1.v a_q.Atoms, crd (RdS 3 rdInt) v1_0.v a_b.Vars, crd (RdS 3 rdInt) v1_1.v a_b.Values] (fun p : Sv × List Nat => p.1.v) (fun p => [cown (OwnS 3 (roE rdInt)) p.2 p.1.v R]) := by
 refine Se 24 Tryz.func36 [.tmp 4] ?_
 intro H0 F0
 unfold i_TupleOf at hF
 refine au ?_
 refine AbR (fun k1 => ?_)
 refine AbR (fun k2 => ?_)
 iterate 3 refine au ?_
 refine C_new rfl (N_buildSliceT (g := true) sl22.h ty3.h .nil (vs := []) rfl rfl rfl (by simp)) (fun k3 => ?_)
 refine Cv1 (.cons .h .nil) (own_lit (Ro := (roE rdInt)) (E := 3) (F := []) (xs := ([] : List Int)) MkL_nil rfl rfl) ?_
 iterate 9 refine au ?_
 refine CW_block (CW_loop (m := a_q.Head.length) (fun m8 f' cs' => ∃ (g : Fr) (k10 : Nat) (rest11 : List Int) (c4 : List Int) (v5 : Sv) (F6 : List Nat), m8 = rest11.length ∧ f' = updL g [(3, (pz k2)), (5, v5.v), (10, v0_0.v), (11, (.int .i64 (a_q.Head.length : Int))), (12, (.int .i64 (k10 : Int)))] ∧ List.drop k10 a_q.Head = rest11 ∧ Ent cs' [cboR k2 56 (.agg [v1_0.v, v1_1.v].toArray), crd (RdS 3 rdInt) v1_0.v a_b.Vars, crd (RdS 3 rdInt) v1_1.v a_b.Values, cown (OwnS 3 (roE rdInt)) F6 v5.v c4, crd (RdS 3 rdInt) v0_0.v a_q.Head] ∧ i_TupleOf_L1 a_b rest11 k10 c4 = some R) ⟨_, 0, _, _, ⟨(some ⟨k3, 0, none⟩), 0, 1⟩, (k3 :: []), rfl, eqA, rfl, entA, hF⟩ ?_)
 rintro m8 _ _ ⟨g9, k10, rest11, c4, v5, F6, rfl, rfl, hd13, hE, hF⟩
 refine Kb hE a_q.Head (fun hbd18 => ?_)
 rcases rest11 with _ | ⟨x12, rest11⟩
 · have hk14 := dn hd13
   rw [i_TupleOf_L1] at hF
   iterate 4 refine au ?_
   refine CdF ?_
   iterate 9 refine au ?_
   cases hF
   exact Er (v5, F6)
 obtain ⟨hk14, hx15, hd16⟩ := drop_cons hd13
 rw [i_TupleOf_L1] at hF
 iterate 4 refine au ?_
 refine CdT ?_
 iterate 3 refine au ?_
 refine Ai hx15 (fun k19 j20 => ?_)
 refine Al ls3_0 ?_
 iterate 6 refine au ?_
 refine bnd hF fun r21 hx22 hF => Cx0 (i_ValueOf_ok _ _ _ _ _ hx22) (fun _ => ?_)
 refine C_new rfl (N_buildSliceT (g := true) sl22.h ty3.h (.cons (.tmp rfl rfl) .nil) (vs := [(.int .i64 r21)]) rfl rfl rfl (by intro v hv; simp at hv; rcases hv with rfl <;> rfl)) (fun k24 => ?_)
 refine Cv1 (.cons .h .nil) (own_lit (Ro := (roE rdInt)) (E := 3) (F := ([] ++ [])) (xs := ([r21] : List Int)) (MkL_cons (Mk_pure (fun _ => rfl)) MkL_nil apps) rfl rfl) ?_
 refine bnd hF fun z25 hx26 hF => C_x1 (.cons (.t (.t (.t (.t (.t .h))))) (.cons .h .nil)) (X_appendO (Ro := (roE rdInt)) sl22.h ni22 ty3.h rfl rfl rfl (.tmp rfl rfl) (.tmp rfl rfl) hx26 src_own) (fun p27 => ?_)
 iterate 6 refine au ?_
 rw [wk k10]
 exact ⟨_, Nat.lt_succ_self _, _, k10 + 1, rest11, _, p27.1, p27.2, rfl, eqA, hd16, entA, hF⟩
def i_copyBinding (a_b : Binding) : Option (Binding) :=
 (g_slices_Clone_int_int a_b.Vars).bind fun r3 =>
 (g_slices_Clone_int_int a_b.Values).bind fun r6 =>
 some ({ Vars := r3, Values := r6 } : Binding)
theorem i_copyBinding_ok (a_b : Binding) (v0_0 : Sv) (v0_1 : Sv) (R : Binding) (hF : i_copyBinding a_b = some R) :
   Fw.Spec Tryz.prog 205 [(.agg [v0_0.v, v0_1.v].toArray)] [crd (RdS 3 rdInt) v0_0.v a_b.Vars, crd (RdS 3 rdInt) v0_1.v a_b.Values] (fun p : Sv × List Nat × Sv × List Nat => (.agg [p.1.v, p.2.2.1.v].toArray)) (fun p => [cown (OwnS 3 (roE rdInt)) p.2.1 p.1.v R.Vars, cown (OwnS 3 (roE rdInt)) p.2.2.2 p.2.2.1.v R.Values]) := by
 refine Se 10 Tryz.func205 [.cell 2 56] ?_
 intro H0 F0
 unfold i_copyBinding at hF
 refine au ?_
 refine AbR (fun k1 => ?_)
 refine AnW (fun k2 => ?_)
 refine au ?_
 refine K_draw [0, 1, 3, 4, 2, 5, 6, 7] [0, 1, 3, 0, 8, 31, 63, 127] [2, 5, 7] mixed (by decide +kernel) ?_
 iterate 4 refine du ?_
 refine bnd hF fun r3 hx4 hF => Dx1 (g_slices_Clone_int_int_ok _ _ _ hx4) (fun p5 => ?_)
 refine bnd hF fun r6 hx7 hF => Dx1 (g_slices_Clone_int_int_ok _ _ _ hx7) (fun p8 => ?_)
 refine D_val rfl .no (fun ha => V_build ty56.h rfl (vs := [p5.1.v, p8.1.v]) (.cons (EN ha (.tmp rfl rfl) rfl) (.cons (EN ha (.tmp rfl rfl) rfl) .nil)) (cells := [p5.1.v, p8.1.v]) rfl) ?_
 refine D_act1 rfl rfl .no (.cons (.t (.t .h)) .nil) .nil (fun ha => X_storeB (e' := (.agg [p5.1.v, p8.1.v].toArray)) (v := (.agg [p5.1.v, p8.1.v].toArray)) ty56.h.sz (EN ha (.tmp rfl rfl) rfl) (EN ha (.tmp rfl rfl) rfl) rfl rfl rfl rfl rfl) (fun _ => ?_)
 refine du ?_
 refine au ?_
 cases hF
 exact Er (p5.1, p5.2, p8.1, p8.2)
def i_MatchAtom_L1 (a_f : Fact) : List Int → Nat → (List Int) → (List Int) → Option (Binding × Bool)
 | [], k89, c80, c83 => some (({ Vars := c80, Values := c83 } : Binding), true)
 | x91 :: rest90, k89, c80, c83 => ((((i_IsVar x91).bind fun r104 =>
       bif r104 then ((i_Binding_entry ({ Vars := c80, Values := c83 } : Binding) x91).bind fun r108 =>
         some (decide ((r108 : Int) < 0)))
       else (some false)).bind fun o102 =>
     match o102 with
     | c111 => if c111 then (
         (ix a_f.Values (k89 : Int)).bind fun x113 =>
         (app c80 ([x91] : List Int)).bind fun z120 =>
         (app c83 ([x113] : List Int)).bind fun z123 =>
         (ix a_f.Values (k89 : Int)).bind fun x126 =>
         (i_ValueOf ({ Vars := z120, Values := z123 } : Binding) x91).bind fun r132 =>
         if ((r132 : Int) != x126) then (
           some (.inl (({ Vars := [], Values := [] } : Binding), false)))
         else (
           some (.inr (z120, z123))))
       else (
         (ix a_f.Values (k89 : Int)).bind fun x136 =>
         (i_ValueOf ({ Vars := c80, Values := c83 } : Binding) x91).bind fun r142 =>
         if ((r142 : Int) != x136) then (
           some (.inl (({ Vars := [], Values := [] } : Binding), false)))
         else (
           some (.inr (c80, c83))))) : Option (Sum (Binding × Bool) ((List Int) × (List Int)))).bind fun o98 =>
   match o98 with
   | .inl r => some r
   | .inr (c148, c151) => i_MatchAtom_L1 a_f rest90 (k89 + 1) c148 c151
def i_MatchAtom (a_b : Binding) (a_a : Atom) (a_f : Fact) : Option (Binding × Bool) :=
 if (((a_a.Rel : Int) != a_f.Rel) || ((((a_a.Terms.length : Int) : Int) != (a_f.Values.length : Int)) || (((a_b.Vars.length : Int) : Int) != (a_b.Values.length : Int)))) then (
   some (({ Vars := [], Values := [] } : Binding), false))
 else (
   (i_copyBinding a_b).bind fun r8 =>
   i_MatchAtom_L1 a_f a_a.Terms 0 r8.Vars r8.Values)
theorem i_MatchAtom_ok (a_b : Binding) (v0_0 : Sv) (v0_1 : Sv) (a_a : Atom) (v1_1 : Sv) (a_f : Fact) (v2_1 : Sv) (R : Binding × Bool) (hF : i_MatchAtom a_b a_a a_f = some R) :
   Fw.Spec Tryz.prog 194 [(.agg [v0_0.v, v0_1.v].toArray), (.agg [(.int .i64 a_a.Rel), v1_1.v].toArray), (.agg [(.int .i64 a_f.Rel), v2_1.v].toArray)] [crd (RdS 3 rdInt) v0_0.v a_b.Vars, crd (RdS 3 rdInt) v0_1.v a_b.Values, crd (RdS 3 rdInt) v1_1.v a_a.Terms, crd (RdS 3 rdInt) v2_1.v a_f.Values] (fun p : Sv × List Nat × Sv × List Nat => (.tuple [(.agg [p.1.v, p.2.2.1.v].toArray), (.bool R.2)].toArray)) (fun p => [cown (OwnS 3 (roE rdInt)) p.2.1 p.1.v R.1.Vars, cown (OwnS 3 (roE rdInt)) p.2.2.2 p.2.2.1.v R.1.Values]) := by
 refine Se 81 Tryz.func194 [.cell 6 56, .tmp 7] ?_
 intro H0 F0
 unfold i_MatchAtom at hF
 refine au ?_
 refine AbR (fun k1 => ?_)
 refine AbR (fun k2 => ?_)
 refine AbR (fun k3 => ?_)
 refine AnW (fun k4 => ?_)
 iterate 4 refine au ?_
 refine C_cut (fun f' cs' => ∃ (g : Fr), f' = updL g [(3, (pz k1)), (4, (pz k2)), (5, (pz k3)), (6, (pz k4)), (33, (.bool (((a_a.Rel : Int) != a_f.Rel) || ((((a_a.Terms.length : Int) : Int) != (a_f.Values.length : Int)) || (((a_b.Vars.length : Int) : Int) != (a_b.Values.length : Int))))))] ∧ Ent cs' [cboR k1 56 (.agg [v0_0.v, v0_1.v].toArray), crd (RdS 3 rdInt) v0_0.v a_b.Vars, crd (RdS 3 rdInt) v0_1.v a_b.Values, cboR k2 84 (.agg [(.int .i64 a_a.Rel), v1_1.v].toArray), crd (RdS 3 rdInt) v1_1.v a_a.Terms, cboR k3 86 (.agg [(.int .i64 a_f.Rel), v2_1.v].toArray), crd (RdS 3 rdInt) v2_1.v a_f.Values, cbox k4 56 (.agg [(.slice none 0 0), (.slice none 0 0)].toArray)]) ?_ ?_
 · iterate 6 refine au ?_
   rcases Bool.eq_false_or_eq_true ((a_a.Rel : Int) != a_f.Rel) with hg5 | hg5
   · rw [hg5]
     try rw [hg5] at hF; dsimp only [cond_true, cond_false] at hF
     iterate 18 refine au ?_
     exact ⟨_, eqA, entA⟩
   rw [hg5]
   try rw [hg5] at hF; dsimp only [cond_true, cond_false] at hF
   iterate 16 refine au ?_
   rcases Bool.eq_false_or_eq_true (((a_a.Terms.length : Int) : Int) != (a_f.Values.length : Int)) with hg6 | hg6
   · rw [hg6]
     try rw [hg6] at hF; dsimp only [cond_true, cond_false] at hF
     iterate 9 refine au ?_
     exact ⟨_, eqA, entA⟩
   rw [hg6]
   try rw [hg6] at hF; dsimp only [cond_true, cond_false] at hF
   iterate 16 refine au ?_
   exact ⟨_, eqA, entA⟩
 rintro _ _ ⟨g7, rfl, hE⟩
 refine K_ent hE ?_
 refine Ci hF (fun hb156 hF => ?_) (fun hb156 hF => ?_)
 · refine au ?_
   refine C_val (V_build ty56.h rfl (vs := []) .nil (cells := [(.slice none 0 0), (.slice none 0 0)]) rfl) ?_
   refine As (.agg [(.slice none 0 0), (.slice none 0 0)].toArray) ?_
   iterate 3 refine au ?_
   cases hF
   exact End_ret (⟨none, 0, 0⟩, [], ⟨none, 0, 0⟩, []) (.cellA rfl rfl .h rfl ag56.h ty56.h.sz rfl rfl (.tmp rfl rfl .nil)) rfl (.conv .nil (own_nil (Ro := (roE rdInt)) (E := 3)) (.cons .nil) (.conv .nil (own_nil (Ro := (roE rdInt)) (E := 3)) (.cons .nil) (.sel (.cons (.t .h) (.cons .h .nil)))))
 iterate 3 refine au ?_
 refine bnd hF fun r8 hx9 hF => Cx2 (i_copyBinding_ok _ _ _ _ hx9) (fun p10 => ?_)
 refine AnW (fun k11 => ?_)
 refine As (.agg [p10.1.v, p10.2.2.1.v].toArray) ?_
 iterate 8 refine au ?_
 refine CW_block (CW_loop (m := a_a.Terms.length) (fun m87 f' cs' => ∃ (g : Fr) (k89 : Nat) (rest90 : List Int) (c80 : List Int) (c83 : List Int) (v81 : Sv) (F82 : List Nat) (v84 : Sv) (F85 : List Nat), m87 = rest90.length ∧ f' = updL g [(5, (pz k3)), (6, (pz k4)), (8, (pz k11)), (38, v1_1.v), (39, (.int .i64 (a_a.Terms.length : Int))), (40, (.int .i64 (k89 : Int)))] ∧ List.drop k89 a_a.Terms = rest90 ∧ Ent cs' [cboR k3 86 (.agg [(.int .i64 a_f.Rel), v2_1.v].toArray), crd (RdS 3 rdInt) v2_1.v a_f.Values, cbox k4 56 (.agg [(.slice none 0 0), (.slice none 0 0)].toArray), cbox k11 56 (.agg [v81.v, v84.v].toArray), cown (OwnS 3 (roE rdInt)) F82 v81.v c80, cown (OwnS 3 (roE rdInt)) F85 v84.v c83, crd (RdS 3 rdInt) v1_1.v a_a.Terms] ∧ i_MatchAtom_L1 a_f rest90 k89 c80 c83 = some R) ⟨_, 0, _, _, _, p10.1, p10.2.1, p10.2.2.1, p10.2.2.2, rfl, eqA, rfl, entA, hF⟩ ?_)
 rintro m87 _ _ ⟨g88, k89, rest90, c80, c83, v81, F82, v84, F85, rfl, rfl, hd92, hE, hF⟩
 refine Kb hE a_a.Terms (fun hbd97 => ?_)
 rcases rest90 with _ | ⟨x91, rest90⟩
 · have hk93 := dn hd92
   rw [i_MatchAtom_L1] at hF
   iterate 4 refine au ?_
   refine CdF ?_
   iterate 6 refine au ?_
   refine As (.agg [v81.v, v84.v].toArray) ?_
   iterate 3 refine au ?_
   cases hF
   exact End_ret (v81, F82, v84, F85) (.cellA rfl rfl .h rfl ag56.h ty56.h.sz rfl rfl (.tmp rfl rfl .nil)) rfl (.sel (.cons (.t (.t (.t (.t .h)))) (.cons (.t (.t (.t (.t .h)))) .nil)))
 obtain ⟨hk93, hx94, hd95⟩ := drop_cons hd92
 rw [i_MatchAtom_L1] at hF
 iterate 4 refine au ?_
 refine CdT ?_
 refine au ?_
 obtain ⟨o98, hio98, hO99⟩ := bind_some hF
 refine K_cut (fun f' cs' => ∃ (c148 : List Int) (c151 : List Int) (v149 : Sv) (F150 : List Nat) (v152 : Sv) (F153 : List Nat) (g : Fr), o98 = .inr (c148, c151) ∧ f' = updL g [(5, (pz k3)), (6, (pz k4)), (8, (pz k11)), (38, v1_1.v), (39, (.int .i64 (a_a.Terms.length : Int))), (40, (.int .i64 (k89 : Int)))] ∧ Ent cs' [cboR k3 86 (.agg [(.int .i64 a_f.Rel), v2_1.v].toArray), crd (RdS 3 rdInt) v2_1.v a_f.Values, cbox k4 56 (.agg [(.slice none 0 0), (.slice none 0 0)].toArray), cbox k11 56 (.agg [v149.v, v152.v].toArray), cown (OwnS 3 (roE rdInt)) F150 v149.v c148, cown (OwnS 3 (roE rdInt)) F153 v152.v c151, crd (RdS 3 rdInt) v1_1.v a_a.Terms]) ?_ ?_
 · replace hF := hio98
   refine CW_block (K_region (Cm (.int .i64 (k89 : Int)) rfl rfl ?_))
   refine Ai hx94 (fun k100 j101 => ?_)
   refine Al ls3_0 ?_
   iterate 4 refine au ?_
   obtain ⟨o102, hio102, hO103⟩ := bind_some hF
   refine au ?_
   refine C_cut (fun f' cs' => ∃ (c111 : Bool) (g : Fr), c111 = o102 ∧ f' = updL g [(5, (pz k3)), (6, (pz k4)), (8, (pz k11)), (9, (.int .i64 (k89 : Int))), (10, (.int .i64 x91)), (38, v1_1.v), (39, (.int .i64 (a_a.Terms.length : Int))), (40, (.int .i64 (k89 : Int))), (52, (.bool c111))] ∧ Ent cs' [cboR k3 86 (.agg [(.int .i64 a_f.Rel), v2_1.v].toArray), crd (RdS 3 rdInt) v2_1.v a_f.Values, cbox k4 56 (.agg [(.slice none 0 0), (.slice none 0 0)].toArray), cbox k11 56 (.agg [v81.v, v84.v].toArray), cown (OwnS 3 (roE rdInt)) F82 v81.v c80, cown (OwnS 3 (roE rdInt)) F85 v84.v c83, crd (RdS 3 rdInt) v1_1.v a_a.Terms]) ?_ ?_
   · replace hF := hio102
     refine au ?_
     refine bnd hF fun r104 hx105 hF => Cx0 (i_IsVar_ok _ _ hx105) (fun _ => ?_)
     refine au ?_
     rcases Bool.eq_false_or_eq_true r104 with hg107 | hg107
     · rw [hg107]
       try rw [hg107] at hF; dsimp only [cond_true, cond_false] at hF
       iterate 5 refine au ?_
       refine bnd hF fun r108 hx109 hF => C_x2 (.cons (.t (.t (.t (.t (.t (.t .h)))))) (.cons (.t (.t (.t (.t (.t .h))))) .nil)) (XC_borL (pre := []) (.cons frz_own (.cons frz_own .nil)) (fun _ => .nil) (X_callS cf110.h (.cons (.tmp rfl rfl) (.cons (.tmp rfl rfl) .nil)) (i_Binding_entry_ok ({ Vars := c80, Values := c83 } : Binding) v81 v84 x91 _ hx109))) (fun _ => ?_)
       iterate 4 refine au ?_
       cases hF
       exact ⟨_, _, rfl, eqA, entA⟩
     rw [hg107]
     try rw [hg107] at hF; dsimp only [cond_true, cond_false] at hF
     iterate 6 refine au ?_
     cases hF
     exact ⟨_, _, rfl, eqA, entA⟩
   rintro _ _ ⟨c111, g147, rfl, rfl, hE⟩
   replace hF := hO103
   try dsimp only at hF
   refine K_ent hE ?_
   refine Ci hF (fun hb146 hF => ?_) (fun hb146 hF => ?_)
   · refine CW_draw [0, 1, 2, 3, 5, 6, 7, 8, 9, 10, 11, 12, 4, 14, 13, 15, 16, 17] [0, 1, 0, 4, 15, 0, 32, 0, 128, 0, 896, 1920, 3968, 8191, 127, 32767, 65535, 131071] [4, 13, 15, 17] mixed (by decide +kernel) ?_
     refine du ?_
     refine D_atO rfl .no (.t (.t (.t .h))) (fun ha hp => V_load (v := v81.v) ag22.h (EN ha (.tmp rfl rfl) rfl) hp.2 rfl rfl) ?_
     refine du ?_
     refine D_new rfl .no rfl (fun ha => N_buildSliceT (g := true) (len := 1) (parts := [(0, .tmp 55)]) sl22.h ty3.h (.cons (EN ha (.tmp rfl rfl) rfl) .nil) (vs := [(.int .i64 x91)]) rfl rfl rfl (by intro v hv; simp at hv; rcases hv with rfl <;> rfl)) (fun k112 => ?_)
     refine Dv1 (.cons .h .nil) (own_lit (Ro := (roE rdInt)) (E := 3) (F := ([] ++ [])) (xs := ([x91] : List Int)) (MkL_cons (Mk_pure (fun _ => rfl)) MkL_nil apps) rfl rfl) ?_
     refine du ?_
     refine D_atO rfl .no (.t (.t (.t (.t .h)))) (fun ha hp => V_load (v := v84.v) ag22.h (EN ha (.tmp rfl rfl) rfl) hp.2 rfl rfl) ?_
     iterate 3 refine du ?_
     refine bnd hF fun x113 hx114 hF => ?_
     obtain ⟨hp115, hx116⟩ := ix_some hx114
     refine Di hx116 (fun k117 j118 => ?_)
     refine Dl ls3_0 ?_
     refine D_new rfl .no rfl (fun ha => N_buildSliceT (g := true) (len := 1) (parts := [(0, .tmp 64)]) sl22.h ty3.h (.cons (EN ha (.tmp rfl rfl) rfl) .nil) (vs := [(.int .i64 x113)]) rfl rfl rfl (by intro v hv; simp at hv; rcases hv with rfl <;> rfl)) (fun k119 => ?_)
     refine Dv1 (.cons .h .nil) (own_lit (Ro := (roE rdInt)) (E := 3) (F := ([] ++ [])) (xs := ([x113] : List Int)) (MkL_cons (Mk_pure (fun _ => rfl)) MkL_nil apps) rfl rfl) ?_
     refine bnd hF fun z120 hx121 hF => D_act1 rfl rfl .no (.cons (.t (.t (.t (.t (.t (.t (.t .h))))))) (.cons (.t (.t .h)) .nil)) (.own .h (by simp [cown]) (.own (.t (.t (.t (.t (.t .h))))) (fun _ h => h) (.dep rfl (.dep rfl .nil)))) (fun ha => X_appendO (Ro := (roE rdInt)) sl22.h ni22 ty3.h rfl rfl rfl (EN ha (.tmp rfl rfl) rfl) (EN ha (.tmp rfl rfl) rfl) hx121 src_own) (fun p122 => ?_)
     refine du ?_
     refine bnd hF fun z123 hx124 hF => D_act1 rfl rfl .no (.cons (.t (.t (.t (.t (.t (.t (.t .h))))))) (.cons (.t .h) .nil)) (.dep rfl (.dep rfl (.dep rfl (.dep rfl .nil)))) (fun ha => X_appendO (Ro := (roE rdInt)) sl22.h ni22 ty3.h rfl rfl rfl (EN ha (.tmp rfl rfl) rfl) (EN ha (.tmp rfl rfl) rfl) hx124 src_own) (fun p125 => ?_)
     refine D_act1 rfl rfl .no (.cons (.t (.t (.t (.t (.t (.t .h)))))) .nil) (.dep rfl (.dep rfl (.dep rfl (.dep rfl .nil)))) (fun ha => X_storeB (e' := (.agg [p122.1.v, v84.v].toArray)) ty22.h.sz (EN ha (.tmp rfl rfl) rfl) (EN ha (.tmp rfl rfl) rfl) rfl rfl rfl rfl rfl) (fun _ => ?_)
     refine du ?_
     refine D_act1 rfl rfl .no (.cons .h .nil) (.dep rfl (.dep rfl (.dep rfl (.dep rfl .nil)))) (fun ha => X_storeB (e' := (.agg [p122.1.v, p125.1.v].toArray)) ty22.h.sz (EN ha (.tmp rfl rfl) rfl) (EN ha (.tmp rfl rfl) rfl) rfl rfl rfl rfl rfl) (fun _ => ?_)
     refine du ?_
     refine K_draw [0, 1, 3, 4, 5, 6, 7, 2, 8] [0, 0, 3, 0, 8, 0, 56, 120, 255] [2] mixed (by decide +kernel) ?_
     refine D_atO rfl .no .h (fun ha hp => V_loadBox ag56.h ty56.h.sz rfl (EN ha (.tmp rfl rfl) rfl) hp.2 rfl) ?_
     iterate 4 refine du ?_
     refine bnd hF fun x126 hx127 hF => ?_
     obtain ⟨hp128, hx129⟩ := ix_some hx127
     refine Di hx129 (fun k130 j131 => ?_)
     refine Dl ls3_0 ?_
     refine bnd hF fun r132 hx133 hF => D_act2 rfl rfl .no (.cons (.t (.t .h)) (.cons (.t (.t .h)) .nil)) (.dep rfl .nil) (fun ha => XC_borL (pre := []) (.cons frz_own (.cons frz_own .nil)) (fun _ => .nil) (X_callS cf68.h (.cons (EN ha (.tmp rfl rfl) rfl) (.cons (EN ha (.tmp rfl rfl) rfl) .nil)) (i_ValueOf_ok ({ Vars := z120, Values := z123 } : Binding) p122.1 p125.1 x91 _ hx133))) (fun _ => ?_)
     iterate 2 refine du ?_
     refine Ci hF (fun hb135 hF => ?_) (fun hb135 hF => ?_)
     · refine au ?_
       refine C_val (V_build ty56.h rfl (vs := []) .nil (cells := [(.slice none 0 0), (.slice none 0 0)]) rfl) ?_
       refine As (.agg [(.slice none 0 0), (.slice none 0 0)].toArray) ?_
       iterate 3 refine au ?_
       cases hF
       replace hF := hO99
       try dsimp only at hF
       cases hF
       exact End_ret (⟨none, 0, 0⟩, [], ⟨none, 0, 0⟩, []) (.cellA rfl rfl .h rfl ag56.h ty56.h.sz rfl rfl (.tmp rfl rfl .nil)) rfl (.conv .nil (own_nil (Ro := (roE rdInt)) (E := 3)) (.cons .nil) (.conv .nil (own_nil (Ro := (roE rdInt)) (E := 3)) (.cons .nil) (.sel (.cons (.t .h) (.cons .h .nil)))))
     refine au ?_
     cases hF
     exact ⟨_, _, p122.1, p122.2, p125.1, p125.2, _, rfl, eqA, entA⟩
   refine au ?_
   refine K_draw [0, 1, 3, 4, 5, 6, 7, 2, 8] [0, 0, 3, 0, 8, 0, 56, 120, 255] [2] mixed (by decide +kernel) ?_
   refine D_atO rfl .no (.t (.t (.t .h))) (fun ha hp => V_loadBox ag56.h ty56.h.sz rfl (EN ha (.tmp rfl rfl) rfl) hp.2 rfl) ?_
   iterate 4 refine du ?_
   refine bnd hF fun x136 hx137 hF => ?_
   obtain ⟨hp138, hx139⟩ := ix_some hx137
   refine Di hx139 (fun k140 j141 => ?_)
   refine Dl ls3_0 ?_
   refine bnd hF fun r142 hx143 hF => D_act2 rfl rfl .no (.cons (.t (.t (.t (.t (.t (.t .h)))))) (.cons (.t (.t (.t (.t (.t .h))))) .nil)) (.dep rfl .nil) (fun ha => XC_borL (pre := []) (.cons frz_own (.cons frz_own .nil)) (fun _ => .nil) (X_callS cf68.h (.cons (EN ha (.tmp rfl rfl) rfl) (.cons (EN ha (.tmp rfl rfl) rfl) .nil)) (i_ValueOf_ok ({ Vars := c80, Values := c83 } : Binding) v81 v84 x91 _ hx143))) (fun _ => ?_)
   iterate 2 refine du ?_
   refine Ci hF (fun hb145 hF => ?_) (fun hb145 hF => ?_)
   · refine au ?_
     refine C_val (V_build ty56.h rfl (vs := []) .nil (cells := [(.slice none 0 0), (.slice none 0 0)]) rfl) ?_
     refine As (.agg [(.slice none 0 0), (.slice none 0 0)].toArray) ?_
     iterate 3 refine au ?_
     cases hF
     replace hF := hO99
     try dsimp only at hF
     cases hF
     exact End_ret (⟨none, 0, 0⟩, [], ⟨none, 0, 0⟩, []) (.cellA rfl rfl .h rfl ag56.h ty56.h.sz rfl rfl (.tmp rfl rfl .nil)) rfl (.conv .nil (own_nil (Ro := (roE rdInt)) (E := 3)) (.cons .nil) (.conv .nil (own_nil (Ro := (roE rdInt)) (E := 3)) (.cons .nil) (.sel (.cons (.t .h) (.cons .h .nil)))))
   refine au ?_
   cases hF
   exact ⟨_, _, v81, F82, v84, F85, _, rfl, eqA, entA⟩
 rintro _ _ ⟨c148, c151, v149, F150, v152, F153, g155, rfl, rfl, hE⟩
 replace hF := hO99
 try dsimp only at hF
 refine K_ent hE ?_
 iterate 4 refine au ?_
 rw [wk k89]
 exact ⟨_, Nat.lt_succ_self _, _, k89 + 1, rest90, _, _, v149, F150, v152, F153, rfl, eqA, hd95, entA, hF⟩
def i_matchAll_L2 (a_a : Atom) (x11 : Binding) : List Fact → Nat → (List Binding) → Option ((List Binding))
 | [], k30, c24 => some c24
 | x32 :: rest31, k30, c24 => ((i_MatchAtom x11 a_a x32).bind fun r45 =>
     if r45.2 then (
       (app c24 ([r45.1] : List Binding)).bind fun z50 =>
       some z50)
     else (
       some c24)).bind fun o39 =>
   match o39 with
   | c54 => i_matchAll_L2 a_a x11 rest31 (k30 + 1) c54
def i_matchAll_L1 (a_a : Atom) (a_facts : List Fact) : List Binding → Nat → (List Binding) → Option ((List Binding))
 | [], k9, c3 => some c3
 | x11 :: rest10, k9, c3 => (i_matchAll_L2 a_a x11 a_facts 0 c3).bind fun o18 =>
   match o18 with
   | c59 => i_matchAll_L1 a_a a_facts rest10 (k9 + 1) c59
def i_matchAll (a_bindings : List Binding) (a_a : Atom) (a_facts : List Fact) : Option ((List Binding)) :=
 i_matchAll_L1 a_a a_facts a_bindings 0 ([] : List Binding)
theorem i_matchAll_ok (a_bindings : List Binding) (v0_0 : Sv) (a_a : Atom) (v1_1 : Sv) (a_facts : List Fact) (v2_0 : Sv) (R : (List Binding)) (hF : i_matchAll a_bindings a_a a_facts = some R) :
   Fw.Spec Tryz.prog 167 [v0_0.v, (.agg [(.int .i64 a_a.Rel), v1_1.v].toArray), v2_0.v] [crd (RdS 56 rd56) v0_0.v a_bindings, crd (RdS 3 rdInt) v1_1.v a_a.Terms, crd (RdS 86 rd86) v2_0.v a_facts] (fun p : Sv × List Nat => p.1.v) (fun p => [cown (OwnS 56 ow56) p.2 p.1.v R]) := by
 refine Se 42 Tryz.func167 [.tmp 6] ?_
 intro H0 F0
 unfold i_matchAll at hF
 refine au ?_
 refine AbR (fun k1 => ?_)
 iterate 3 refine au ?_
 refine C_new rfl (N_buildSliceT (g := true) sl138.h ty56.h .nil (vs := []) rfl rfl rfl (by simp)) (fun k2 => ?_)
 refine Cv1 (.cons .h .nil) (own_lit (Ro := ow56) (E := 56) (F := []) (xs := ([] : List Binding)) MkL_nil rfl rfl) ?_
 iterate 8 refine au ?_
 refine CW_block (CW_loop (m := a_bindings.length) (fun m7 f' cs' => ∃ (g : Fr) (k9 : Nat) (rest10 : List Binding) (c3 : List Binding) (v4 : Sv) (F5 : List Nat), m7 = rest10.length ∧ f' = updL g [(2, v2_0.v), (4, (pz k1)), (7, v4.v), (15, v0_0.v), (16, (.int .i64 (a_bindings.length : Int))), (17, (.int .i64 (k9 : Int)))] ∧ List.drop k9 a_bindings = rest10 ∧ Ent cs' [crd (RdS 86 rd86) v2_0.v a_facts, cboR k1 84 (.agg [(.int .i64 a_a.Rel), v1_1.v].toArray), crd (RdS 3 rdInt) v1_1.v a_a.Terms, cown (OwnS 56 ow56) F5 v4.v c3, crd (RdS 56 rd56) v0_0.v a_bindings] ∧ i_matchAll_L1 a_a a_facts rest10 k9 c3 = some R) ⟨_, 0, _, _, ⟨(some ⟨k2, 0, none⟩), 0, 1⟩, (k2 :: []), rfl, eqA, rfl, entA, hF⟩ ?_)
 rintro m7 _ _ ⟨g8, k9, rest10, c3, v4, F5, rfl, rfl, hd12, hE, hF⟩
 refine Kb hE a_bindings (fun hbd17 => ?_)
 rcases rest10 with _ | ⟨x11, rest10⟩
 · have hk13 := dn hd12
   rw [i_matchAll_L1] at hF
   iterate 4 refine au ?_
   refine CdF ?_
   iterate 9 refine au ?_
   cases hF
   exact Er (v4, F5)
 obtain ⟨hk13, hx14, hd15⟩ := drop_cons hd12
 rw [i_matchAll_L1] at hF
 iterate 4 refine au ?_
 refine CdT ?_
 refine au ?_
 obtain ⟨o18, hio18, hO19⟩ := bind_some hF
 refine K_cut (fun f' cs' => ∃ (c59 : List Binding) (v60 : Sv) (F61 : List Nat) (g : Fr), c59 = o18 ∧ f' = updL g [(2, v2_0.v), (4, (pz k1)), (7, v60.v), (15, v0_0.v), (16, (.int .i64 (a_bindings.length : Int))), (17, (.int .i64 (k9 : Int)))] ∧ Ent cs' [crd (RdS 86 rd86) v2_0.v a_facts, cboR k1 84 (.agg [(.int .i64 a_a.Rel), v1_1.v].toArray), crd (RdS 3 rdInt) v1_1.v a_a.Terms, cown (OwnS 56 ow56) F61 v60.v c59, crd (RdS 56 rd56) v0_0.v a_bindings]) ?_ ?_
 · replace hF := hio18
   refine CW_block (K_region (C_idx (a := x11) sl138.h ty56.h.sz (.tmp rfl rfl) (.tmp rfl rfl) (.t (.t (.t (.t .h)))) (Int.natCast_nonneg k9) hx14 (fun k20 j21 => ?_)))
   refine AlA2 (ul56_0_56 x11) la56_0_56 (fun p22 => ?_)
   refine AnW (fun k23 => ?_)
   refine As (.agg [p22.1.v, p22.2.v].toArray) ?_
   iterate 6 refine au ?_
   refine CW_block (CW_loop (m := a_facts.length) (fun m28 f' cs' => ∃ (g : Fr) (k30 : Nat) (rest31 : List Fact) (c24 : List Binding) (v25 : Sv) (F26 : List Nat), m28 = rest31.length ∧ f' = updL g [(2, v2_0.v), (4, (pz k1)), (7, v25.v), (9, (pz k23)), (15, v0_0.v), (16, (.int .i64 (a_bindings.length : Int))), (17, (.int .i64 (k9 : Int))), (21, v2_0.v), (22, (.int .i64 (a_facts.length : Int))), (23, (.int .i64 (k30 : Int)))] ∧ List.drop k30 a_facts = rest31 ∧ Ent cs' [crd (RdS 86 rd86) v2_0.v a_facts, cboR k1 84 (.agg [(.int .i64 a_a.Rel), v1_1.v].toArray), crd (RdS 3 rdInt) v1_1.v a_a.Terms, cown (OwnS 56 ow56) F26 v25.v c24, cbox k23 56 (.agg [p22.1.v, p22.2.v].toArray), crd (RdS 3 rdInt) p22.1.v x11.Vars, crd (RdS 3 rdInt) p22.2.v x11.Values, crd (RdS 56 rd56) v0_0.v a_bindings] ∧ i_matchAll_L2 a_a x11 rest31 k30 c24 = some o18) ⟨_, 0, _, _, v4, F5, rfl, eqA, rfl, entA, hF⟩ ?_)
   rintro m28 _ _ ⟨g29, k30, rest31, c24, v25, F26, rfl, rfl, hd33, hE, hF⟩
   refine Kb hE a_facts (fun hbd38 => ?_)
   rcases rest31 with _ | ⟨x32, rest31⟩
   · have hk34 := dn hd33
     rw [i_matchAll_L2] at hF
     iterate 4 refine au ?_
     refine CdF ?_
     iterate 4 refine au ?_
     cases hF
     exact ⟨_, v25, F26, _, rfl, eqA, entA⟩
   obtain ⟨hk34, hx35, hd36⟩ := drop_cons hd33
   rw [i_matchAll_L2] at hF
   iterate 4 refine au ?_
   refine CdT ?_
   refine au ?_
   obtain ⟨o39, hio39, hO40⟩ := bind_some hF
   refine K_cut (fun f' cs' => ∃ (c54 : List Binding) (v55 : Sv) (F56 : List Nat) (g : Fr), c54 = o39 ∧ f' = updL g [(2, v2_0.v), (4, (pz k1)), (7, v55.v), (9, (pz k23)), (15, v0_0.v), (16, (.int .i64 (a_bindings.length : Int))), (17, (.int .i64 (k9 : Int))), (21, v2_0.v), (22, (.int .i64 (a_facts.length : Int))), (23, (.int .i64 (k30 : Int)))] ∧ Ent cs' [crd (RdS 86 rd86) v2_0.v a_facts, cboR k1 84 (.agg [(.int .i64 a_a.Rel), v1_1.v].toArray), crd (RdS 3 rdInt) v1_1.v a_a.Terms, cown (OwnS 56 ow56) F56 v55.v c54, cbox k23 56 (.agg [p22.1.v, p22.2.v].toArray), crd (RdS 3 rdInt) p22.1.v x11.Vars, crd (RdS 3 rdInt) p22.2.v x11.Values, crd (RdS 56 rd56) v0_0.v a_bindings]) ?_ ?_
   · replace hF := hio39
     refine CW_block (K_region (C_idx (a := x32) sl29.h ty86.h.sz (.tmp rfl rfl) (.tmp rfl rfl) .h (Int.natCast_nonneg k30) hx35 (fun k41 j42 => ?_)))
     refine AlA1 (ul86_0_86 x32) la86_0_86 (fun p43 => ?_)
     refine AnW (fun k44 => ?_)
     refine As (.agg [(.int .i64 x32.Rel), p43.v].toArray) ?_
     iterate 5 refine au ?_
     refine bnd hF fun r45 hx46 hF => Cx2 (i_MatchAtom_ok _ _ _ _ _ _ _ _ hx46) (fun p47 => ?_)
     refine au ?_
     refine C_val (V_extract (l := [(.agg [p47.1.v, p47.2.2.1.v].toArray), (.bool r45.2)]) (v := (.agg [p47.1.v, p47.2.2.1.v].toArray)) (.tmp rfl rfl) rfl) ?_
     refine C_val (V_extract (l := [(.agg [p47.1.v, p47.2.2.1.v].toArray), (.bool r45.2)]) (v := (.bool r45.2)) (.tmp rfl rfl) rfl) ?_
     refine AnW (fun k48 => ?_)
     refine As (.agg [p47.1.v, p47.2.2.1.v].toArray) ?_
     iterate 5 refine au ?_
     refine Ci hF (fun hb53 hF => ?_) (fun hb53 hF => ?_)
     · iterate 3 refine au ?_
       refine C_new rfl (N_buildSliceT (g := true) sl138.h ty56.h (.cons (.tmp rfl rfl) .nil) (vs := [(.agg [p47.1.v, p47.2.2.1.v].toArray)]) rfl rfl rfl (by intro v hv; simp at hv; rcases hv with rfl <;> rfl)) (fun k49 => ?_)
       refine Cv1 (.cons .h (.cons (.t .h) (.cons (.t .h) .nil))) (own_lit (Ro := ow56) (E := 56) (F := ((p47.2.1 ++ p47.2.2.2) ++ [])) (xs := ([r45.1] : List Binding)) (MkL_cons mk56 MkL_nil apps) rfl rfl) ?_
       refine bnd hF fun z50 hx51 hF => C_x1 (.cons (.t (.t (.t (.t (.t (.t (.t (.t .h)))))))) (.cons .h .nil)) (X_appendO (Ro := ow56) sl138.h ni138 ty56.h rfl rfl rfl (.tmp rfl rfl) (.tmp rfl rfl) hx51 src_own) (fun p52 => ?_)
       iterate 2 refine au ?_
       cases hF
       exact ⟨_, p52.1, p52.2, _, rfl, eqA, entA⟩
     refine au ?_
     cases hF
     exact ⟨_, v25, F26, _, rfl, eqA, entA⟩
   rintro _ _ ⟨c54, v55, F56, g58, rfl, rfl, hE⟩
   replace hF := hO40
   try dsimp only at hF
   refine K_ent hE ?_
   iterate 4 refine au ?_
   rw [wk k30]
   exact ⟨_, Nat.lt_succ_self _, _, k30 + 1, rest31, _, v55, F56, rfl, eqA, hd36, entA, hF⟩
 rintro _ _ ⟨c59, v60, F61, g63, rfl, rfl, hE⟩
 replace hF := hO19
 try dsimp only at hF
 refine K_ent hE ?_
 iterate 4 refine au ?_
 rw [wk k9]
 exact ⟨_, Nat.lt_succ_self _, _, k9 + 1, rest10, _, v60, F61, rfl, eqA, hd15, entA, hF⟩
def i_BindingsOf_L1 (a_facts : List Fact) : List Atom → Nat → (List Binding) → Option ((List Binding))
 | [], k9, c3 => some c3
 | x11 :: rest10, k9, c3 => (i_matchAll c3 x11 a_facts).bind fun r22 =>
   i_BindingsOf_L1 a_facts rest10 (k9 + 1) r22
def i_BindingsOf (a_q : Query) (a_facts : List Fact) : Option ((List Binding)) :=
 i_BindingsOf_L1 a_facts a_q.Atoms 0 ([({ Vars := [], Values := [] } : Binding)] : List Binding)
theorem i_BindingsOf_ok (a_q : Query) (v0_0 : Sv) (v0_1 : Sv) (a_facts : List Fact) (v1_0 : Sv) (R : (List Binding)) (hF : i_BindingsOf a_q a_facts = some R) :
   Fw.Spec Tryz.prog 136 [(.agg [v0_0.v, v0_1.v].toArray), v1_0.v] [crd (RdS 3 rdInt) v0_0.v a_q.Head, crd (RdS 84 rd84) v0_1.v a_q.Atoms, crd (RdS 86 rd86) v1_0.v a_facts] (fun p : Sv × List Nat => p.1.v) (fun p => [cown (OwnS 56 ow56) p.2 p.1.v R]) := by
 refine Se 23 Tryz.func136 [.tmp 4] ?_
 intro H0 F0
 unfold i_BindingsOf at hF
 refine au ?_
 refine AbR (fun k1 => ?_)
 iterate 3 refine au ?_
 refine C_val (V_build ty56.h rfl (vs := []) .nil (cells := [(.slice none 0 0), (.slice none 0 0)]) rfl) ?_
 refine C_new rfl (N_buildSliceT (g := true) sl138.h ty56.h (.cons (.tmp rfl rfl) .nil) (vs := [(.agg [(.slice none 0 0), (.slice none 0 0)].toArray)]) rfl rfl rfl (by intro v hv; simp at hv; rcases hv with rfl <;> rfl)) (fun k2 => ?_)
 iterate 2 refine C_conv .nil (own_nil (Ro := (roE rdInt)) (E := 3)) apps ?_
 refine Cv1 (.cons (.t (.t .h)) (.cons (.t .h) (.cons .h .nil))) (own_lit (Ro := ow56) (E := 56) (F := (([] ++ []) ++ [])) (xs := ([({ Vars := [], Values := [] } : Binding)] : List Binding)) (MkL_cons (mk56 (v0 := ⟨none, 0, 0⟩) (v1 := ⟨none, 0, 0⟩) (a := ({ Vars := [], Values := [] } : Binding))) MkL_nil apps) rfl rfl) ?_
 iterate 9 refine au ?_
 refine CW_block (CW_loop (m := a_q.Atoms.length) (fun m7 f' cs' => ∃ (g : Fr) (k9 : Nat) (rest10 : List Atom) (c3 : List Binding) (v4 : Sv) (F5 : List Nat), m7 = rest10.length ∧ f' = updL g [(1, v1_0.v), (5, v4.v), (11, v0_1.v), (12, (.int .i64 (a_q.Atoms.length : Int))), (13, (.int .i64 (k9 : Int)))] ∧ List.drop k9 a_q.Atoms = rest10 ∧ Ent cs' [crd (RdS 86 rd86) v1_0.v a_facts, cown (OwnS 56 ow56) F5 v4.v c3, crd (RdS 84 rd84) v0_1.v a_q.Atoms] ∧ i_BindingsOf_L1 a_facts rest10 k9 c3 = some R) ⟨_, 0, _, _, ⟨(some ⟨k2, 0, none⟩), 1, 1⟩, (k2 :: (([] ++ []) ++ [])), rfl, eqA, rfl, entA, hF⟩ ?_)
 rintro m7 _ _ ⟨g8, k9, rest10, c3, v4, F5, rfl, rfl, hd12, hE, hF⟩
 refine Kb hE a_q.Atoms (fun hbd17 => ?_)
 rcases rest10 with _ | ⟨x11, rest10⟩
 · have hk13 := dn hd12
   rw [i_BindingsOf_L1] at hF
   iterate 4 refine au ?_
   refine CdF ?_
   iterate 9 refine au ?_
   cases hF
   exact Er (v4, F5)
 obtain ⟨hk13, hx14, hd15⟩ := drop_cons hd12
 rw [i_BindingsOf_L1] at hF
 iterate 4 refine au ?_
 refine CdT ?_
 iterate 3 refine au ?_
 refine Ai hx14 (fun k18 j19 => ?_)
 refine AlA1 (ul84_0_84 x11) la84_0_84 (fun p20 => ?_)
 refine AnW (fun k21 => ?_)
 refine As (.agg [(.int .i64 x11.Rel), p20.v].toArray) ?_
 iterate 5 refine au ?_
 refine bnd hF fun r22 hx23 hF => C_x2 (.cons (.t (.t (.t (.t .h)))) (.rd (.t .h) rfl (.rd (.t (.t (.t .h))) rfl .nil))) (XC_bor frz_own (fun _ => (.cons .nil)) (X_callS cf167.h (.cons (.tmp rfl rfl) (.cons (.tmp rfl rfl) (.cons (.tmp rfl rfl) .nil))) (i_matchAll_ok c3 v4 x11 p20 a_facts v1_0 _ hx23))) (fun p24 => ?_)
 iterate 6 refine au ?_
 rw [wk k9]
 exact ⟨_, Nat.lt_succ_self _, _, k9 + 1, rest10, _, p24.1, p24.2, rfl, eqA, hd15, entA, hF⟩
def g_slices_Equal_int_int_L1 (a_s2 : List Int) : List Int → Nat → Option (Bool)
 | [], k4 => some true
 | x6 :: rest5, k4 => (ix a_s2 (k4 : Int)).bind fun x15 =>
   if ((x6 : Int) != x15) then (
     some false)
   else (
     g_slices_Equal_int_int_L1 a_s2 rest5 (k4 + 1))
def g_slices_Equal_int_int (a_s1 : List Int) (a_s2 : List Int) : Option (Bool) :=
 if (((a_s1.length : Int) : Int) != (a_s2.length : Int)) then (
   some false)
 else (
   g_slices_Equal_int_int_L1 a_s2 a_s1 0)
theorem g_slices_Equal_int_int_ok (a_s1 : List Int) (v0_0 : Sv) (a_s2 : List Int) (v1_0 : Sv) (R : Bool) (hF : g_slices_Equal_int_int a_s1 a_s2 = some R) :
   Fw.Spec Tryz.prog 137 [v0_0.v, v1_0.v] [crd (RdS 3 rdInt) v0_0.v a_s1, crd (RdS 3 rdInt) v1_0.v a_s2] (fun _ : Unit => (.bool R)) (fun _ => []) := by
 refine Se 26 Tryz.func137 [.tmp 4] ?_
 intro H0 F0
 unfold g_slices_Equal_int_int at hF
 iterate 11 refine au ?_
 refine Ci hF (fun hb23 hF => ?_) (fun hb23 hF => ?_)
 · iterate 4 refine au ?_
   cases hF
   exact Er ()
 iterate 7 refine au ?_
 refine CW_block (CW_loop (m := a_s1.length) (fun m2 f' cs' => ∃ (g : Fr) (k4 : Nat) (rest5 : List Int), m2 = rest5.length ∧ f' = updL g [(0, v0_0.v), (1, v1_0.v), (12, (.int .i64 (a_s1.length : Int))), (13, (.int .i64 (k4 : Int)))] ∧ List.drop k4 a_s1 = rest5 ∧ Ent cs' [crd (RdS 3 rdInt) v0_0.v a_s1, crd (RdS 3 rdInt) v1_0.v a_s2] ∧ g_slices_Equal_int_int_L1 a_s2 rest5 k4 = some R) ⟨_, 0, _, rfl, eqA, rfl, entA, hF⟩ ?_)
 rintro m2 _ _ ⟨g3, k4, rest5, rfl, rfl, hd7, hE, hF⟩
 refine Kb hE a_s1 (fun hbd12 => ?_)
 rcases rest5 with _ | ⟨x6, rest5⟩
 · have hk8 := dn hd7
   rw [g_slices_Equal_int_int_L1] at hF
   iterate 4 refine au ?_
   refine CdF ?_
   iterate 8 refine au ?_
   cases hF
   exact Er ()
 obtain ⟨hk8, hx9, hd10⟩ := drop_cons hd7
 rw [g_slices_Equal_int_int_L1] at hF
 iterate 4 refine au ?_
 refine CdT ?_
 iterate 6 refine au ?_
 refine K_draw [0, 1, 2, 3, 4, 5, 6, 7, 8] [0, 0, 3, 7, 0, 0, 48, 112, 255] [] mixed (by decide +kernel) ?_
 iterate 2 refine du ?_
 refine Di hx9 (fun k13 j14 => ?_)
 refine Dl ls3_0 ?_
 iterate 2 refine du ?_
 refine bnd hF fun x15 hx16 hF => ?_
 obtain ⟨hp17, hx18⟩ := ix_some hx16
 refine Di hx18 (fun k19 j20 => ?_)
 refine Dl ls3_0 ?_
 iterate 2 refine du ?_
 refine Ci hF (fun hb22 hF => ?_) (fun hb22 hF => ?_)
 · iterate 4 refine au ?_
   cases hF
   exact Er ()
 iterate 5 refine au ?_
 rw [wk k4]
 exact ⟨_, Nat.lt_succ_self _, _, k4 + 1, rest5, rfl, eqA, hd10, entA, hF⟩
def i_FindMapping_L1 (a_q : Query) (a_head : List Int) : List Binding → Nat → Option (Binding × Bool)
 | [], k32 => some (({ Vars := [], Values := [] } : Binding), false)
 | x34 :: rest33, k32 => (i_TupleOf a_q x34).bind fun r45 =>
   (g_slices_Equal_int_int r45 a_head).bind fun r48 =>
   if r48 then (
     some (x34, true))
   else (
     i_FindMapping_L1 a_q a_head rest33 (k32 + 1))
def i_FindMapping (a_q : Query) (a_facts : List Fact) (a_head : List Int) : Option (Binding × Bool) :=
 (i_BindingsOf a_q a_facts).bind fun r3 =>
 i_FindMapping_L1 a_q a_head r3 0
theorem i_FindMapping_ok (a_q : Query) (v0_0 : Sv) (v0_1 : Sv) (a_facts : List Fact) (v1_0 : Sv) (a_head : List Int) (v2_0 : Sv) (R : Binding × Bool) (hF : i_FindMapping a_q a_facts a_head = some R) :
   Fw.Spec Tryz.prog 98 [(.agg [v0_0.v, v0_1.v].toArray), v1_0.v, v2_0.v] [crd (RdS 3 rdInt) v0_0.v a_q.Head, crd (RdS 84 rd84) v0_1.v a_q.Atoms, crd (RdS 86 rd86) v1_0.v a_facts, crd (RdS 3 rdInt) v2_0.v a_head] (fun p : Sv × Sv => (.tuple [(.agg [p.1.v, p.2.v].toArray), (.bool R.2)].toArray)) (fun p => [crd (RdS 3 rdInt) p.1.v R.1.Vars, crd (RdS 3 rdInt) p.2.v R.1.Values]) := by
 refine Se 26 Tryz.func98 [.cell 6 56, .tmp 7] ?_
 intro H0 F0
 unfold i_FindMapping at hF
 refine au ?_
 refine AbR (fun k1 => ?_)
 refine AnW (fun k2 => ?_)
 iterate 6 refine au ?_
 refine bnd hF fun r3 hx4 hF => Cx1 (i_BindingsOf_ok _ _ _ _ _ _ hx4) (fun p5 => ?_)
 iterate 3 refine au ?_
 refine CW_block (K_frz .h frz_own ?_)
 refine CW_loop (m := r3.length) (fun m30 f' cs' => ∃ (g : Fr) (k32 : Nat) (rest33 : List Binding), m30 = rest33.length ∧ f' = updL g [(2, v2_0.v), (3, (pz k1)), (6, (pz k2)), (12, p5.1.v), (13, (.int .i64 (r3.length : Int))), (14, (.int .i64 (k32 : Int)))] ∧ List.drop k32 r3 = rest33 ∧ Ent cs' [crd (RdS 3 rdInt) v2_0.v a_head, cboR k1 39 (.agg [v0_0.v, v0_1.v].toArray), crd (RdS 3 rdInt) v0_0.v a_q.Head, crd (RdS 84 rd84) v0_1.v a_q.Atoms, cbox k2 56 (.agg [(.slice none 0 0), (.slice none 0 0)].toArray), crd (RdS 56 rd56) p5.1.v r3] ∧ i_FindMapping_L1 a_q a_head rest33 k32 = some R) ⟨_, 0, _, rfl, eqA, rfl, entA, hF⟩ ?_
 rintro m30 _ _ ⟨g31, k32, rest33, rfl, rfl, hd35, hE, hF⟩
 refine Kb hE r3 (fun hbd40 => ?_)
 rcases rest33 with _ | ⟨x34, rest33⟩
 · have hk36 := dn hd35
   rw [i_FindMapping_L1] at hF
   iterate 4 refine au ?_
   refine CdF ?_
   iterate 5 refine au ?_
   refine C_val (V_build ty56.h rfl (vs := []) .nil (cells := [(.slice none 0 0), (.slice none 0 0)]) rfl) ?_
   refine As (.agg [(.slice none 0 0), (.slice none 0 0)].toArray) ?_
   iterate 3 refine au ?_
   cases hF
   exact End_ret (⟨none, 0, 0⟩, ⟨none, 0, 0⟩) (.cellA rfl rfl .h rfl ag56.h ty56.h.sz rfl rfl (.tmp rfl rfl .nil)) rfl (.conv .nil (rd_nil (R := rdInt) (E := 3)) (.cons .nil) (.conv .nil (rd_nil (R := rdInt) (E := 3)) (.cons .nil) (.sel (.rd (.t .h) rfl (.rd .h rfl .nil)))))
 obtain ⟨hk36, hx37, hd38⟩ := drop_cons hd35
 rw [i_FindMapping_L1] at hF
 iterate 4 refine au ?_
 refine CdT ?_
 iterate 3 refine au ?_
 refine Ai hx37 (fun k41 j42 => ?_)
 refine AlA2 (ul56_0_56 x34) la56_0_56 (fun p43 => ?_)
 refine AnW (fun k44 => ?_)
 refine As (.agg [p43.1.v, p43.2.v].toArray) ?_
 iterate 4 refine au ?_
 refine bnd hF fun r45 hx46 hF => Cx1 (i_TupleOf_ok _ _ _ _ _ _ _ hx46) (fun p47 => ?_)
 refine au ?_
 refine bnd hF fun r48 hx49 hF => C_x1 (.cons .h (.rd (.t (.t (.t (.t .h)))) rfl .nil)) (XC_bor frz_own (fun _ => .nil) (X_callS cf137.h (.cons (.tmp rfl rfl) (.cons (.tmp rfl rfl) .nil)) (g_slices_Equal_int_int_ok r45 p47.1 a_head v2_0 _ hx49))) (fun _ => ?_)
 refine au ?_
 refine Ci hF (fun hb52 hF => ?_) (fun hb52 hF => ?_)
 · iterate 2 refine au ?_
   refine As (.agg [p43.1.v, p43.2.v].toArray) ?_
   iterate 3 refine au ?_
   cases hF
   exact End_ret (p43.1, p43.2) (.cellA rfl rfl .h rfl ag56.h ty56.h.sz rfl rfl (.tmp rfl rfl .nil)) rfl (.sel (.rd (.t (.t (.t .h))) rfl (.rd (.t (.t (.t (.t .h)))) rfl .nil)))
 iterate 5 refine au ?_
 rw [wk k32]
 exact ⟨_, Nat.lt_succ_self _, _, k32 + 1, rest33, rfl, eqA, hd38, entA, hF⟩
def i_contained (fuel : Nat) (a_p : Query) (a_q : Query) : Option (Bool) :=
 if (((a_p.Head.length : Int) : Int) != (a_q.Head.length : Int)) then (
   some false)
 else (
   (i_ConstantsOf a_p).bind fun r4 =>
   (i_ConstantsOf a_q).bind fun r7 =>
   (g_slices_Concat_int_int ([r4, r7] : List (List Int))).bind fun r11 =>
   (i_freeze fuel a_p r11).bind fun r14 =>
   if (!r14.2.2) then (
     some false)
   else (
     (i_TupleOf a_p r14.2.1).bind fun r24 =>
     (i_FindMapping a_q r14.1 r24).bind fun r27 =>
     some r27.2))
theorem i_contained_ok (fuel : Nat) (a_p : Query) (v0_0 : Sv) (v0_1 : Sv) (a_q : Query) (v1_0 : Sv) (v1_1 : Sv) (R : Bool) (hF : i_contained fuel a_p a_q = some R) :
   Fw.Spec Tryz.prog 62 [(.agg [v0_0.v, v0_1.v].toArray), (.agg [v1_0.v, v1_1.v].toArray)] [crd (RdS 3 rdInt) v0_0.v a_p.Head, crd (RdS 84 rd84) v0_1.v a_p.Atoms, crd (RdS 3 rdInt) v1_0.v a_q.Head, crd (RdS 84 rd84) v1_1.v a_q.Atoms] (fun _ : Unit => (.bool R)) (fun _ => []) := by
 refine Se 41 Tryz.func62 [.tmp 4] ?_
 intro H0 F0
 unfold i_contained at hF
 refine au ?_
 refine AbR (fun k1 => ?_)
 refine AbR (fun k2 => ?_)
 iterate 12 refine au ?_
 refine Ci hF (fun hb31 hF => ?_) (fun hb31 hF => ?_)
 · iterate 4 refine au ?_
   cases hF
   exact Er ()
 refine au ?_
 refine K_draw [0, 1, 3, 12, 2, 4, 5, 6, 7, 8, 9, 10, 11, 13, 14, 15] [0, 0, 2, 0, 14, 30, 62, 127, 255, 511, 511, 511, 0, 5119, 14335, 32767] [2, 4, 6, 7, 14] mixed (by decide +kernel) ?_
 iterate 3 refine du ?_
 refine D_new rfl .no rfl (fun ha => N_allocT (g := true) ty56.h rfl rfl) (fun k3 => ?_)
 refine bnd hF fun r4 hx5 hF => D_act1 rfl rfl .no (.rd (.t (.t (.t .h))) rfl (.rd (.t (.t (.t (.t .h)))) rfl .nil)) (.own .h (fun _ h => h) .nil) (fun ha => X_callS cf35.h (.cons (EN ha (.tmp rfl rfl) rfl) .nil) (i_ConstantsOf_ok a_p v0_0 v0_1 _ hx5)) (fun p6 => ?_)
 refine bnd hF fun r7 hx8 hF => D_act1 rfl rfl .no (.rd (.t (.t (.t (.t (.t (.t .h)))))) rfl (.rd (.t (.t (.t (.t (.t (.t (.t .h))))))) rfl .nil)) (.own (.t .h) (fun _ h => h) .nil) (fun ha => X_callS cf35.h (.cons (EN ha (.tmp rfl rfl) rfl) .nil) (i_ConstantsOf_ok a_q v1_0 v1_1 _ hx8)) (fun p9 => ?_)
 refine D_new rfl .no rfl (fun ha => N_buildSliceT (g := true) (len := 2) (parts := [(0, .tmp 20), (1, .tmp 22)]) sl153.h ty22.h (.cons (EN ha (.tmp rfl rfl) rfl) (.cons (EN ha (.tmp rfl rfl) rfl) .nil)) (vs := [p6.1.v, p9.1.v]) rfl rfl rfl (by intro v hv; simp at hv; rcases hv with rfl | rfl <;> rfl)) (fun k10 => ?_)
 refine Dv1 (.cons .h (.cons (.t .h) (.cons .h .nil))) (own_lit (Ro := (OwnS 3 (roE rdInt))) (E := 22) (F := (p6.2 ++ (p9.2 ++ []))) (xs := ([r4, r7] : List (List Int))) (MkL_cons Mk_own (MkL_cons Mk_own MkL_nil apps) apps) rfl rfl) ?_
 refine bnd hF fun r11 hx12 hF => D_act2 rfl rfl .no (.cons .h .nil) (.dep rfl (.own .h (fun _ h => h) .nil)) (fun ha => XC_bor frz_own (fun _ => (.cons .nil)) (X_callS cf97.h (.cons (EN ha (.tmp rfl rfl) rfl) .nil) (g_slices_Concat_int_int_ok ([r4, r7] : List (List Int)) (⟨(some ⟨k10, 0, none⟩), 2, 1⟩) _ hx12))) (fun p13 => ?_)
 refine bnd hF fun r14 hx15 hF => D_act4 rfl rfl .no (.cons (.t .h) (.rd (.t (.t (.t (.t .h)))) rfl (.rd (.t (.t (.t (.t (.t .h))))) rfl .nil))) (.dep rfl (.own (.t .h) (fun _ h => h) .nil)) (fun ha => XC_bor frz_own (fun _ => (.cons (.cons (.cons .nil)))) (XC_pre (.rd (.t .h) rfl (.rd (.t (.t .h)) rfl (.rd .h rfl .nil))) (X_callS cf63.h (.cons (EN ha (.tmp rfl rfl) rfl) (.cons (EN ha (.tmp rfl rfl) rfl) .nil)) (i_freeze_ok fuel a_p v0_0 v0_1 r11 p13.1 _ hx15)))) (fun p16 => ?_)
 refine du ?_
 refine D_val rfl .no (fun ha => V_extract (l := [p16.1.v, (.agg [p16.2.2.1.v, p16.2.2.2.2.1.v].toArray), (.bool r14.2.2)]) (v := p16.1.v) (EN ha (.tmp rfl rfl) rfl) rfl) ?_
 refine D_val rfl .no (fun ha => V_extract (l := [p16.1.v, (.agg [p16.2.2.1.v, p16.2.2.2.2.1.v].toArray), (.bool r14.2.2)]) (v := (.agg [p16.2.2.1.v, p16.2.2.2.2.1.v].toArray)) (EN ha (.tmp rfl rfl) rfl) rfl) ?_
 refine D_val rfl .no (fun ha => V_extract (l := [p16.1.v, (.agg [p16.2.2.1.v, p16.2.2.2.2.1.v].toArray), (.bool r14.2.2)]) (v := (.bool r14.2.2)) (EN ha (.tmp rfl rfl) rfl) rfl) ?_
 refine du ?_
 refine D_act1 rfl rfl .no (.cons (.t (.t (.t (.t (.t .h))))) .nil) (.dep rfl (.dep rfl .nil)) (fun ha => X_storeB (e' := (.agg [p16.2.2.1.v, p16.2.2.2.2.1.v].toArray)) (v := (.agg [p16.2.2.1.v, p16.2.2.2.2.1.v].toArray)) ty56.h.sz (EN ha (.tmp rfl rfl) rfl) (EN ha (.tmp rfl rfl) rfl) rfl rfl rfl rfl rfl) (fun _ => ?_)
 iterate 2 refine du ?_
 iterate 5 refine au ?_
 refine Ci hF (fun hb30 hF => ?_) (fun hb30 hF => ?_)
 · iterate 4 refine au ?_
   cases hF
   exact Er ()
 refine au ?_
 refine K_frz (.t (.t (.t .h))) frz_own ?_
 iterate 2 refine K_frz (.t (.t (.t (.t .h)))) frz_own ?_
 refine K_draw [0, 1, 2, 3, 9, 4, 5, 6, 7, 8, 10, 11] [0, 0, 0, 0, 12, 31, 63, 127, 127, 0, 767, 2047] [4, 5, 10] mixed (by decide +kernel) ?_
 iterate 3 refine du ?_
 refine D_atO rfl .no (.t (.t (.t .h))) (fun ha hp => V_loadBox ag56.h ty56.h.sz rfl (EN ha (.tmp rfl rfl) rfl) hp.2 rfl) ?_
 refine D_new rfl .no rfl (fun ha => N_allocT (g := true) ty56.h rfl rfl) (fun k23 => ?_)
 refine bnd hF fun r24 hx25 hF => D_act1 rfl rfl .no (.rd (.t (.t (.t (.t (.t (.t (.t (.t (.t .h))))))))) rfl (.rd (.t (.t (.t (.t (.t (.t (.t (.t (.t (.t .h)))))))))) rfl (.rd (.t (.t (.t .h))) rfl (.rd (.t (.t .h)) rfl .nil)))) (.own .h (fun _ h => h) (.dep rfl .nil)) (fun ha => XC_ent (post' := fun p26 : Sv × List Nat => [crd (RdS 3 rdInt) p26.1.v r24]) (fun p26 => (.frz .h frz_own entA)) (X_callS cf36.h (.cons (EN ha (.tmp rfl rfl) rfl) (.cons (EN ha (.tmp rfl rfl) rfl) .nil)) (i_TupleOf_ok a_p v0_0 v0_1 r14.2.1 p16.2.2.1 p16.2.2.2.2.1 _ hx25))) (fun p26 => ?_)
 refine bnd hF fun r27 hx28 hF => D_act2 rfl rfl .no (.rd (.t (.t (.t (.t (.t (.t (.t (.t (.t (.t (.t (.t .h)))))))))))) rfl (.rd (.t (.t (.t (.t (.t (.t (.t (.t (.t (.t (.t (.t (.t .h))))))))))))) rfl (.rd (.t (.t .h)) rfl (.rd .h rfl .nil)))) (.own (.t .h) (fun _ h => h) (.dep rfl .nil)) (fun ha => X_callS cf98.h (.cons (EN ha (.tmp rfl rfl) rfl) (.cons (EN ha (.tmp rfl rfl) rfl) (.cons (EN ha (.tmp rfl rfl) rfl) .nil))) (i_FindMapping_ok a_q v1_0 v1_1 r14.1 p16.1 r24 p26.1 _ hx28)) (fun p29 => ?_)
 refine du ?_
 refine D_val rfl .no (fun ha => V_extract (l := [(.agg [p29.1.v, p29.2.v].toArray), (.bool r27.2)]) (v := (.agg [p29.1.v, p29.2.v].toArray)) (EN ha (.tmp rfl rfl) rfl) rfl) ?_
 refine D_val rfl .no (fun ha => V_extract (l := [(.agg [p29.1.v, p29.2.v].toArray), (.bool r27.2)]) (v := (.bool r27.2)) (EN ha (.tmp rfl rfl) rfl) rfl) ?_
 refine D_act1 rfl rfl .no (.cons (.t (.t (.t .h))) .nil) (.dep rfl (.dep rfl .nil)) (fun ha => X_storeB (e' := (.agg [p29.1.v, p29.2.v].toArray)) (v := (.agg [p29.1.v, p29.2.v].toArray)) ty56.h.sz (EN ha (.tmp rfl rfl) rfl) (EN ha (.tmp rfl rfl) rfl) rfl rfl rfl rfl rfl) (fun _ => ?_)
 iterate 2 refine du ?_
 iterate 5 refine au ?_
 cases hF
 exact Er ()
def i_IsFeasible (fuel : Nat) (a_s : List Int) (a_l : List Method) (a_q : Query) : Option (Bool) :=
 (i_AnswerablePart fuel a_s a_l a_q).bind fun r2 =>
 (bif r2.2 then ((i_contained fuel r2.1 a_q).bind fun r9 =>
     some r9)
   else (some false)).bind fun o6 =>
 match o6 with
 | c12 => some c12
theorem i_IsFeasible_ok (fuel : Nat) (a_s : List Int) (v0_0 : Sv) (a_l : List Method) (v1_0 : Sv) (a_q : Query) (v2_0 : Sv) (v2_1 : Sv) (R : Bool) (hF : i_IsFeasible fuel a_s a_l a_q = some R) :
   Fw.Spec Tryz.prog 32 [v0_0.v, v1_0.v, (.agg [v2_0.v, v2_1.v].toArray)] [crd (RdS 3 rdInt) v0_0.v a_s, crd (RdS 65 rd65) v1_0.v a_l, crd (RdS 3 rdInt) v2_0.v a_q.Head, crd (RdS 84 rd84) v2_1.v a_q.Atoms] (fun _ : Unit => (.bool R)) (fun _ => []) := by
 refine Se 22 Tryz.func32 [.tmp 6] ?_
 intro H0 F0
 unfold i_IsFeasible at hF
 refine au ?_
 refine AbR (fun k1 => ?_)
 iterate 6 refine au ?_
 refine bnd hF fun r2 hx3 hF => Cx2 (i_AnswerablePart_ok _ _ _ _ _ _ _ _ _ hx3) (fun p4 => ?_)
 refine au ?_
 refine C_val (V_extract (l := [(.agg [p4.1.v, p4.2.2.1.v].toArray), (.bool r2.2)]) (v := (.agg [p4.1.v, p4.2.2.1.v].toArray)) (.tmp rfl rfl) rfl) ?_
 refine C_val (V_extract (l := [(.agg [p4.1.v, p4.2.2.1.v].toArray), (.bool r2.2)]) (v := (.bool r2.2)) (.tmp rfl rfl) rfl) ?_
 refine AnW (fun k5 => ?_)
 refine As (.agg [p4.1.v, p4.2.2.1.v].toArray) ?_
 iterate 2 refine au ?_
 obtain ⟨o6, hio6, hO7⟩ := bind_some hF
 refine au ?_
 refine C_cut (fun f' cs' => ∃ (c12 : Bool) (g : Fr), c12 = o6 ∧ f' = updL g [(6, (.bool c12))] ∧ Ent cs' []) ?_ ?_
 · replace hF := hio6
   iterate 2 refine au ?_
   rcases Bool.eq_false_or_eq_true r2.2 with hg8 | hg8
   · rw [hg8]
     try rw [hg8] at hF; dsimp only [cond_true, cond_false] at hF
     iterate 5 refine au ?_
     refine bnd hF fun r9 hx10 hF => C_x2 (.cons (.t (.t .h)) (.cons (.t .h) (.rd (.t (.t (.t (.t .h)))) rfl (.rd (.t (.t (.t (.t (.t .h))))) rfl .nil)))) (XC_borL (pre := _) (.cons frz_own (.cons frz_own .nil)) (fun _ => .nil) (X_callS cf62.h (.cons (.tmp rfl rfl) (.cons (.tmp rfl rfl) .nil)) (i_contained_ok fuel r2.1 p4.1 p4.2.2.1 a_q v2_0 v2_1 _ hx10))) (fun _ => ?_)
     iterate 3 refine au ?_
     cases hF
     exact ⟨_, _, rfl, eqA, entA⟩
   rw [hg8]
   try rw [hg8] at hF; dsimp only [cond_true, cond_false] at hF
   iterate 6 refine au ?_
   cases hF
   exact ⟨_, _, rfl, eqA, entA⟩
 rintro _ _ ⟨c12, g13, rfl, rfl, hE⟩
 replace hF := hO7
 try dsimp only at hF
 refine K_ent hE ?_
 refine au ?_
 cases hF
 exact Er ()
def i_FreezeQuery (fuel : Nat) (a_q : Query) : Option ((List Fact) × Binding × Bool) :=
 (i_ConstantsOf a_q).bind fun r3 =>
 (i_freeze fuel a_q r3).bind fun r6 =>
 some (r6.1, r6.2.1, r6.2.2)
theorem i_FreezeQuery_ok (fuel : Nat) (a_q : Query) (v0_0 : Sv) (v0_1 : Sv) (R : (List Fact) × Binding × Bool) (hF : i_FreezeQuery fuel a_q = some R) :
   Fw.Spec Tryz.prog 33 [(.agg [v0_0.v, v0_1.v].toArray)] [crd (RdS 3 rdInt) v0_0.v a_q.Head, crd (RdS 84 rd84) v0_1.v a_q.Atoms] (fun p : Sv × List Nat × Sv × List Nat × Sv × List Nat => (.tuple [p.1.v, (.agg [p.2.2.1.v, p.2.2.2.2.1.v].toArray), (.bool R.2.2)].toArray)) (fun p => [cown (OwnS 86 ow86) p.2.1 p.1.v R.1, cown (OwnS 3 (roE rdInt)) p.2.2.2.1 p.2.2.1.v R.2.1.Vars, cown (OwnS 3 (roE rdInt)) p.2.2.2.2.2 p.2.2.2.2.1.v R.2.1.Values]) := by
 refine Se 12 Tryz.func33 [.tmp 2, .cell 3 56, .tmp 4] ?_
 intro H0 F0
 unfold i_FreezeQuery at hF
 refine au ?_
 refine AbR (fun k1 => ?_)
 refine au ?_
 refine AnW (fun k2 => ?_)
 iterate 2 refine au ?_
 refine K_draw [0, 1, 2, 3, 4, 5, 6, 7, 8, 9] [0, 0, 2, 7, 15, 15, 15, 127, 255, 511] [2, 3, 8] mixed (by decide +kernel) ?_
 iterate 2 refine du ?_
 refine bnd hF fun r3 hx4 hF => Dx1 (i_ConstantsOf_ok _ _ _ _ hx4) (fun p5 => ?_)
 refine bnd hF fun r6 hx7 hF => D_act4 rfl rfl .no (.cons .h (.rd (.t (.t .h)) rfl (.rd (.t (.t (.t .h))) rfl .nil))) .nil (fun ha => XC_bor frz_own (fun _ => (.cons (.cons (.cons .nil)))) (XC_pre (.rd (.t .h) rfl (.rd (.t (.t .h)) rfl (.rd .h rfl .nil))) (X_callS cf63.h (.cons (EN ha (.tmp rfl rfl) rfl) (.cons (EN ha (.tmp rfl rfl) rfl) .nil)) (i_freeze_ok fuel a_q v0_0 v0_1 r3 p5.1 _ hx7)))) (fun p8 => ?_)
 refine D_val rfl .no (fun ha => V_extract (l := [p8.1.v, (.agg [p8.2.2.1.v, p8.2.2.2.2.1.v].toArray), (.bool r6.2.2)]) (v := p8.1.v) (EN ha (.tmp rfl rfl) rfl) rfl) ?_
 refine D_val rfl .no (fun ha => V_extract (l := [p8.1.v, (.agg [p8.2.2.1.v, p8.2.2.2.2.1.v].toArray), (.bool r6.2.2)]) (v := (.agg [p8.2.2.1.v, p8.2.2.2.2.1.v].toArray)) (EN ha (.tmp rfl rfl) rfl) rfl) ?_
 refine D_val rfl .no (fun ha => V_extract (l := [p8.1.v, (.agg [p8.2.2.1.v, p8.2.2.2.2.1.v].toArray), (.bool r6.2.2)]) (v := (.bool r6.2.2)) (EN ha (.tmp rfl rfl) rfl) rfl) ?_
 refine du ?_
 refine D_act1 rfl rfl .no (.cons (.t (.t (.t (.t .h)))) .nil) .nil (fun ha => X_storeB (e' := (.agg [p8.2.2.1.v, p8.2.2.2.2.1.v].toArray)) (v := (.agg [p8.2.2.1.v, p8.2.2.2.2.1.v].toArray)) ty56.h.sz (EN ha (.tmp rfl rfl) rfl) (EN ha (.tmp rfl rfl) rfl) rfl rfl rfl rfl rfl) (fun _ => ?_)
 iterate 2 refine du ?_
 refine au ?_
 cases hF
 exact End_ret (p8.1, p8.2.1, p8.2.2.1, p8.2.2.2.1, p8.2.2.2.2.1, p8.2.2.2.2.2) (.tmp rfl rfl (.cellA rfl rfl .h rfl ag56.h ty56.h.sz rfl rfl (.tmp rfl rfl .nil))) rfl (.sel (.cons (.t (.t .h)) (.cons (.t (.t .h)) (.cons (.t (.t .h)) .nil))))
def i_withValues_L1 (r3 : (List Int)) : Nat → (List Int) → Int → Option ((List Int))
 | 0, _, _ => none
 | m10 + 1, c6, c9 => if (decide ((c9 : Int) < (r3.length : Int))) then (
     ((ix r3 c9).bind fun x23 =>
       (i_isValue x23).bind fun r27 =>
       if r27 then (
         (app c6 ([x23] : List Int)).bind fun z31 =>
         some z31)
       else (
         some c6)).bind fun o18 =>
     match o18 with
     | c35 => i_withValues_L1 r3 m10 c35 (IntKind.i64.wrap (c9 + 1)))
   else (
     (g_slices_Sort_int_int c6).bind fun r39 =>
     (g_slices_Compact_int_int r39).bind fun r42 =>
     some r42)
def i_withValues (a_l : List Int) (a_more : List Int) : Option ((List Int)) :=
 (g_slices_Concat_int_int ([a_l, a_more] : List (List Int))).bind fun r3 =>
 i_withValues_L1 r3 (((r3.length : Int) - 0).toNat + 2) ([] : List Int) 0
theorem i_withValues_ok (a_l : List Int) (v0_0 : Sv) (a_more : List Int) (v1_0 : Sv) (R : (List Int)) (hF : i_withValues a_l a_more = some R) :
   Fw.Spec Tryz.prog 103 [v0_0.v, v1_0.v] [crd (RdS 3 rdInt) v0_0.v a_l, crd (RdS 3 rdInt) v1_0.v a_more] (fun p : Sv × List Nat => p.1.v) (fun p => [cown (OwnS 3 (roE rdInt)) p.2 p.1.v R]) := by
 refine Se 29 Tryz.func103 [.tmp 4] ?_
 intro H0 F0
 unfold i_withValues at hF
 iterate 4 refine au ?_
 refine C_new rfl (N_buildSliceT (g := true) sl22.h ty3.h .nil (vs := []) rfl rfl rfl (by simp)) (fun k1 => ?_)
 refine Cv1 (.cons .h .nil) (own_lit (Ro := (roE rdInt)) (E := 3) (F := []) (xs := ([] : List Int)) MkL_nil rfl rfl) ?_
 iterate 6 refine au ?_
 refine C_new rfl (N_buildSliceT (g := true) sl153.h ty22.h (.cons (.tmp rfl rfl) (.cons (.tmp rfl rfl) .nil)) (vs := [v0_0.v, v1_0.v]) rfl rfl rfl (by intro v hv; simp at hv; rcases hv with rfl | rfl <;> rfl)) (fun k2 => ?_)
 refine Cv1 (.cons .h (.rd (.t .h) rfl (.rd (.t (.t .h)) rfl .nil))) (own_lit (Ro := (roE (RdS 3 rdInt))) (E := 22) (F := ([] ++ ([] ++ []))) (xs := ([a_l, a_more] : List (List Int))) (MkL_cons Mk_rd (MkL_cons Mk_rd MkL_nil apps) apps) rfl rfl) ?_
 refine bnd hF fun r3 hx4 hF => C_x2 (.cons .h .nil) (XC_bor frz_own (fun _ => (.cons .nil)) (X_callS cf97.h (.cons (.tmp rfl rfl) .nil) (g_slices_Concat_int_int_ok ([a_l, a_more] : List (List Int)) (⟨(some ⟨k2, 0, none⟩), 2, 1⟩) _ hx4))) (fun p5 => ?_)
 iterate 3 refine au ?_
 refine CW_block (CW_loop (m := (((r3.length : Int) - 0).toNat + 2)) (fun m10 f' cs' => ∃ (g : Fr) (c6 : List Int) (c9 : Int) (v7 : Sv) (F8 : List Nat), f' = updL g [(5, v7.v), (12, p5.1.v), (13, (.int .i64 (r3.length : Int))), (14, (.int .i64 c9))] ∧ Ent cs' [cown (OwnS 3 (roE rdInt)) F8 v7.v c6, cown (OwnS 3 (roE rdInt)) p5.2 p5.1.v r3] ∧ i_withValues_L1 r3 m10 c6 c9 = some R) ⟨_, _, _, ⟨(some ⟨k1, 0, none⟩), 0, 1⟩, (k1 :: []), eqA, entA, hF⟩ ?_)
 rintro m10 _ _ ⟨g11, c6, c9, v7, F8, rfl, hE, hF⟩
 refine K_ent hE ?_
 rcases m10 with _ | m10
 · rw [i_withValues_L1] at hF
   exact absurd hF (by simp)
 rw [i_withValues_L1] at hF
 iterate 4 refine au ?_
 refine Ci hF (fun hb45 hF => ?_) (fun hb45 hF => ?_)
 · refine au ?_
   obtain ⟨o18, hio18, hO19⟩ := bind_some hF
   refine K_cut (fun f' cs' => ∃ (c35 : List Int) (v36 : Sv) (F37 : List Nat) (g : Fr), c35 = o18 ∧ f' = updL g [(5, v36.v), (12, p5.1.v), (13, (.int .i64 (r3.length : Int))), (14, (.int .i64 c9))] ∧ Ent cs' [cown (OwnS 3 (roE rdInt)) F37 v36.v c35, cown (OwnS 3 (roE rdInt)) p5.2 p5.1.v r3]) ?_ ?_
   · replace hF := hio18
     refine CW_block (K_region ?_)
     refine bnd hF fun x23 hx24 hF => ?_
     have hi22 := ix_chk hx24
     obtain ⟨hp25, hx26⟩ := ix_some hx24
     refine C_idxO sl22.h ty3.h.sz (.tmp rfl rfl) (.tmp rfl rfl) (.t .h) hi22 (fun k20 hk21 => ?_)
     refine C_ldO (w := (.int .i64 x23)) ag3.h (.tmp rfl rfl) (.t .h) hk21 hx26 lo3_0 ?_
     iterate 4 refine au ?_
     refine bnd hF fun r27 hx28 hF => Cx0 (i_isValue_ok _ _ hx28) (fun _ => ?_)
     refine au ?_
     refine Ci hF (fun hb34 hF => ?_) (fun hb34 hF => ?_)
     · iterate 3 refine au ?_
       refine C_new rfl (N_buildSliceT (g := true) sl22.h ty3.h (.cons (.tmp rfl rfl) .nil) (vs := [(.int .i64 x23)]) rfl rfl rfl (by intro v hv; simp at hv; rcases hv with rfl <;> rfl)) (fun k30 => ?_)
       refine Cv1 (.cons .h .nil) (own_lit (Ro := (roE rdInt)) (E := 3) (F := ([] ++ [])) (xs := ([x23] : List Int)) (MkL_cons (Mk_pure (fun _ => rfl)) MkL_nil apps) rfl rfl) ?_
       refine bnd hF fun z31 hx32 hF => C_x1 (.cons (.t .h) (.cons .h .nil)) (X_appendO (Ro := (roE rdInt)) sl22.h ni22 ty3.h rfl rfl rfl (.tmp rfl rfl) (.tmp rfl rfl) hx32 src_own) (fun p33 => ?_)
       iterate 2 refine au ?_
       cases hF
       exact ⟨_, p33.1, p33.2, _, rfl, eqA, entA⟩
     refine au ?_
     cases hF
     exact ⟨_, v7, F8, _, rfl, eqA, entA⟩
   rintro _ _ ⟨c35, v36, F37, g38, rfl, rfl, hE⟩
   replace hF := hO19
   try dsimp only at hF
   refine K_ent hE ?_
   iterate 4 refine au ?_
   exact ⟨m10, Nat.lt_succ_self _, _, _, _, v36, F37, eqA, entA, hF⟩
 iterate 6 refine au ?_
 refine bnd hF fun r39 hx40 hF => Cx1 (g_slices_Sort_int_int_ok _ _ _ _ hx40) (fun p41 => ?_)
 iterate 3 refine au ?_
 refine bnd hF fun r42 hx43 hF => Cx1 (g_slices_Compact_int_int_ok _ _ _ _ hx43) (fun p44 => ?_)
 iterate 3 refine au ?_
 cases hF
 exact Er (p44.1, p44.2)
def i_StartReach (a_seeds : List Int) : Option (Reached) :=
 (i_withValues a_seeds []).bind fun r2 =>
 some ({ Facts := [], Values := r2, Log := [], Rounds := 0 } : Reached)
theorem i_StartReach_ok (a_seeds : List Int) (v0_0 : Sv) (R : Reached) (hF : i_StartReach a_seeds = some R) :
   Fw.Spec Tryz.prog 64 [v0_0.v] [crd (RdS 3 rdInt) v0_0.v a_seeds] (fun p : Sv × List Nat × Sv × List Nat × Sv × List Nat => (.agg [p.1.v, p.2.2.1.v, p.2.2.2.2.1.v, (.int .i64 R.Rounds)].toArray)) (fun p => [cown (OwnS 86 ow86) p.2.1 p.1.v R.Facts, cown (OwnS 3 (roE rdInt)) p.2.2.2.1 p.2.2.1.v R.Values, cown (OwnS 130 ow130) p.2.2.2.2.2 p.2.2.2.2.1.v R.Log]) := by
 refine Se 6 Tryz.func64 [.cell 2 61] ?_
 intro H0 F0
 unfold i_StartReach at hF
 refine au ?_
 refine AnW (fun k1 => ?_)
 iterate 3 refine au ?_
 refine Cv1 .nil (rd_nil (R := rdInt) (E := 3)) ?_
 refine bnd hF fun r2 hx3 hF => Cx1 (i_withValues_ok _ _ _ (⟨none, 0, 0⟩) _ hx3) (fun p4 => ?_)
 refine C_val (V_build ty61.h rfl (vs := [p4.1.v]) (.cons (.tmp rfl rfl) .nil) (cells := [(.slice none 0 0), p4.1.v, (.slice none 0 0), (.int .i64 0)]) rfl) ?_
 refine As (.agg [(.slice none 0 0), p4.1.v, (.slice none 0 0), (.int .i64 0)].toArray) ?_
 iterate 2 refine au ?_
 cases hF
 exact End_ret (⟨none, 0, 0⟩, [], p4.1, p4.2, ⟨none, 0, 0⟩, []) (.cellA rfl rfl .h rfl ag61.h ty61.h.sz rfl rfl .nil) rfl (.conv .nil (own_nil (Ro := ow86) (E := 86)) (.cons .nil) (.conv .nil (own_nil (Ro := ow130) (E := 130)) (.cons .nil) (.sel (.cons (.t .h) (.cons (.t (.t .h)) (.cons .h .nil))))))
def i_lists_L4 (x79 : List Int) : List Int → Nat → (List (List Int)) → Option ((List (List Int)))
 | [], k97, c91 => some c91
 | x99 :: rest98, k97, c91 => (g_slices_Clone_int_int x79).bind fun r108 =>
   (app r108 ([x99] : List Int)).bind fun z112 =>
   (app c91 ([z112] : List (List Int))).bind fun z116 =>
   i_lists_L4 x79 rest98 (k97 + 1) z116
def i_lists_L2 (a_values : List Int) : List (List Int) → Nat → (List (List Int)) → Option ((List (List Int)))
 | [], k77, c71 => some c71
 | x79 :: rest78, k77, c71 => (i_lists_L4 x79 a_values 0 c71).bind fun o86 =>
   match o86 with
   | c120 => i_lists_L2 a_values rest78 (k77 + 1) c120
def i_lists_L1 (a_values : List Int) (a_n : Int) : Nat → (List (List Int)) → Int → Option ((List (List Int)))
 | 0, _, _ => none
 | m7 + 1, c3, c6 => if (decide ((c6 : Int) < a_n)) then (
     (i_lists_L2 a_values c3 0 ([] : List (List Int))).bind fun o15 =>
     match o15 with
     | c125 => i_lists_L1 a_values a_n m7 c125 (IntKind.i64.wrap (c6 + 1)))
   else (
     some c3)
def i_lists (a_values : List Int) (a_n : Int) : Option ((List (List Int))) :=
 i_lists_L1 a_values a_n ((a_n - 0).toNat + 2) ([([] : List Int)] : List (List Int)) 0
theorem i_lists_ok (a_values : List Int) (v0_0 : Sv) (a_n : Int) (R : (List (List Int))) (hF : i_lists a_values a_n = some R) :
   Fw.Spec Tryz.prog 145 [v0_0.v, (.int .i64 a_n)] [crd (RdS 3 rdInt) v0_0.v a_values] (fun p : Sv × List Nat => p.1.v) (fun p => [cown (OwnS 22 (OwnS 3 (roE rdInt))) p.2 p.1.v R]) := by
 refine Se 42 Tryz.func145 [.tmp 4] ?_
 intro H0 F0
 unfold i_lists at hF
 iterate 4 refine au ?_
 refine C_new rfl (N_buildSliceT (g := true) sl22.h ty3.h .nil (vs := []) rfl rfl rfl (by simp)) (fun k1 => ?_)
 refine Cv1 (.cons .h .nil) (own_lit (Ro := (roE rdInt)) (E := 3) (F := []) (xs := ([] : List Int)) MkL_nil rfl rfl) ?_
 refine C_new rfl (N_buildSliceT (g := true) sl153.h ty22.h (.cons (.tmp rfl rfl) .nil) (vs := [(.slice (some ⟨k1, 0, none⟩) 0 1)]) rfl rfl rfl (by intro v hv; simp at hv; rcases hv with rfl <;> rfl)) (fun k2 => ?_)
 refine Cv1 (.cons .h (.cons .h .nil)) (own_lit (Ro := (OwnS 3 (roE rdInt))) (E := 22) (F := ((k1 :: []) ++ [])) (xs := ([([] : List Int)] : List (List Int))) (MkL_cons Mk_own MkL_nil apps) rfl rfl) ?_
 iterate 7 refine au ?_
 refine CW_block (CW_loop (m := ((a_n - 0).toNat + 2)) (fun m7 f' cs' => ∃ (g : Fr) (c3 : List (List Int)) (c6 : Int) (v4 : Sv) (F5 : List Nat), f' = updL g [(0, v0_0.v), (5, v4.v), (13, (.int .i64 a_n)), (14, (.int .i64 c6))] ∧ Ent cs' [crd (RdS 3 rdInt) v0_0.v a_values, cown (OwnS 22 (OwnS 3 (roE rdInt))) F5 v4.v c3] ∧ i_lists_L1 a_values a_n m7 c3 c6 = some R) ⟨_, _, _, ⟨(some ⟨k2, 0, none⟩), 1, 1⟩, (k2 :: ((k1 :: []) ++ [])), eqA, entA, hF⟩ ?_)
 rintro m7 _ _ ⟨g8, c3, c6, v4, F5, rfl, hE, hF⟩
 refine K_ent hE ?_
 rcases m7 with _ | m7
 · rw [i_lists_L1] at hF
   exact absurd hF (by simp)
 rw [i_lists_L1] at hF
 iterate 4 refine au ?_
 refine Ci hF (fun hb129 hF => ?_) (fun hb129 hF => ?_)
 · refine au ?_
   obtain ⟨o15, hio15, hO16⟩ := bind_some hF
   refine K_cut (fun f' cs' => ∃ (c125 : List (List Int)) (v126 : Sv) (F127 : List Nat) (g : Fr), c125 = o15 ∧ f' = updL g [(0, v0_0.v), (5, v126.v), (13, (.int .i64 a_n)), (14, (.int .i64 c6))] ∧ Ent cs' [crd (RdS 3 rdInt) v0_0.v a_values, cown (OwnS 22 (OwnS 3 (roE rdInt))) F127 v126.v c125]) ?_ ?_
   · replace hF := hio15
     refine CW_block (K_region (C_new rfl (N_buildSliceT (g := true) sl153.h ty22.h .nil (vs := []) rfl rfl rfl (by simp)) (fun k17 => ?_)))
     refine Cv1 (.cons .h .nil) (own_lit (Ro := (OwnS 3 (roE rdInt))) (E := 22) (F := []) (xs := ([] : List (List Int))) MkL_nil rfl rfl) ?_
     iterate 8 refine au ?_
     refine CW_block (K_frz (.t (.t .h)) frz_own ?_)
     refine CW_loop (m := c3.length) (fun m75 f' cs' => ∃ (g : Fr) (k77 : Nat) (rest78 : List (List Int)) (c71 : List (List Int)) (v72 : Sv) (F73 : List Nat), m75 = rest78.length ∧ f' = updL g [(0, v0_0.v), (6, v72.v), (13, (.int .i64 a_n)), (14, (.int .i64 c6)), (17, v4.v), (18, (.int .i64 (c3.length : Int))), (19, (.int .i64 (k77 : Int)))] ∧ List.drop k77 c3 = rest78 ∧ Ent cs' [crd (RdS 3 rdInt) v0_0.v a_values, cown (OwnS 22 (OwnS 3 (roE rdInt))) F73 v72.v c71, crd (RdS 22 (RdS 3 rdInt)) v4.v c3] ∧ i_lists_L2 a_values rest78 k77 c71 = some o15) ⟨_, 0, _, _, ⟨(some ⟨k17, 0, none⟩), 0, 1⟩, (k17 :: []), rfl, eqA, rfl, entA, hF⟩ ?_
     rintro m75 _ _ ⟨g76, k77, rest78, c71, v72, F73, rfl, rfl, hd80, hE, hF⟩
     refine Kb hE c3 (fun hbd85 => ?_)
     rcases rest78 with _ | ⟨x79, rest78⟩
     · have hk81 := dn hd80
       rw [i_lists_L2] at hF
       iterate 4 refine au ?_
       refine CdF ?_
       iterate 8 refine au ?_
       cases hF
       exact ⟨_, v72, F73, _, rfl, eqA, entA⟩
     obtain ⟨hk81, hx82, hd83⟩ := drop_cons hd80
     rw [i_lists_L2] at hF
     iterate 4 refine au ?_
     refine CdT ?_
     refine au ?_
     obtain ⟨o86, hio86, hO87⟩ := bind_some hF
     refine K_cut (fun f' cs' => ∃ (c120 : List (List Int)) (v121 : Sv) (F122 : List Nat) (g : Fr), c120 = o86 ∧ f' = updL g [(0, v0_0.v), (6, v121.v), (13, (.int .i64 a_n)), (14, (.int .i64 c6)), (17, v4.v), (18, (.int .i64 (c3.length : Int))), (19, (.int .i64 (k77 : Int)))] ∧ Ent cs' [crd (RdS 3 rdInt) v0_0.v a_values, cown (OwnS 22 (OwnS 3 (roE rdInt))) F122 v121.v c120, crd (RdS 22 (RdS 3 rdInt)) v4.v c3]) ?_ ?_
     · replace hF := hio86
       refine CW_block (K_region (C_idx (a := x79) sl153.h ty22.h.sz (.tmp rfl rfl) (.tmp rfl rfl) (.t (.t .h)) (Int.natCast_nonneg k77) hx82 (fun k88 j89 => ?_)))
       refine C_ldV (R' := (RdS 3 rdInt)) ag22.h (.tmp rfl rfl) .h lv22_0 (fun w90 => ?_)
       iterate 7 refine au ?_
       refine CW_block (CW_loop (m := a_values.length) (fun m95 f' cs' => ∃ (g : Fr) (k97 : Nat) (rest98 : List Int) (c91 : List (List Int)) (v92 : Sv) (F93 : List Nat), m95 = rest98.length ∧ f' = updL g [(0, v0_0.v), (6, v92.v), (8, w90.v), (13, (.int .i64 a_n)), (14, (.int .i64 c6)), (17, v4.v), (18, (.int .i64 (c3.length : Int))), (19, (.int .i64 (k77 : Int))), (23, v0_0.v), (24, (.int .i64 (a_values.length : Int))), (25, (.int .i64 (k97 : Int)))] ∧ List.drop k97 a_values = rest98 ∧ Ent cs' [crd (RdS 3 rdInt) v0_0.v a_values, cown (OwnS 22 (OwnS 3 (roE rdInt))) F93 v92.v c91, crd (RdS 3 rdInt) w90.v x79, crd (RdS 22 (RdS 3 rdInt)) v4.v c3] ∧ i_lists_L4 x79 rest98 k97 c91 = some o86) ⟨_, 0, _, _, v72, F73, rfl, eqA, rfl, entA, hF⟩ ?_)
       rintro m95 _ _ ⟨g96, k97, rest98, c91, v92, F93, rfl, rfl, hd100, hE, hF⟩
       refine Kb hE a_values (fun hbd105 => ?_)
       rcases rest98 with _ | ⟨x99, rest98⟩
       · have hk101 := dn hd100
         rw [i_lists_L4] at hF
         iterate 4 refine au ?_
         refine CdF ?_
         iterate 4 refine au ?_
         cases hF
         exact ⟨_, v92, F93, _, rfl, eqA, entA⟩
       obtain ⟨hk101, hx102, hd103⟩ := drop_cons hd100
       rw [i_lists_L4] at hF
       iterate 4 refine au ?_
       refine CdT ?_
       iterate 3 refine au ?_
       refine Ai hx102 (fun k106 j107 => ?_)
       refine Al ls3_0 ?_
       iterate 5 refine au ?_
       refine bnd hF fun r108 hx109 hF => Cx1 (g_slices_Clone_int_int_ok _ _ _ hx109) (fun p110 => ?_)
       refine au ?_
       refine C_new rfl (N_buildSliceT (g := true) sl22.h ty3.h (.cons (.tmp rfl rfl) .nil) (vs := [(.int .i64 x99)]) rfl rfl rfl (by intro v hv; simp at hv; rcases hv with rfl <;> rfl)) (fun k111 => ?_)
       refine Cv1 (.cons .h .nil) (own_lit (Ro := (roE rdInt)) (E := 3) (F := ([] ++ [])) (xs := ([x99] : List Int)) (MkL_cons (Mk_pure (fun _ => rfl)) MkL_nil apps) rfl rfl) ?_
       refine bnd hF fun z112 hx113 hF => C_x1 (.cons (.t .h) (.cons .h .nil)) (X_appendO (Ro := (roE rdInt)) sl22.h ni22 ty3.h rfl rfl rfl (.tmp rfl rfl) (.tmp rfl rfl) hx113 src_own) (fun p114 => ?_)
       refine C_new rfl (N_buildSliceT (g := true) sl153.h ty22.h (.cons (.tmp rfl rfl) .nil) (vs := [p114.1.v]) rfl rfl rfl (by intro v hv; simp at hv; rcases hv with rfl <;> rfl)) (fun k115 => ?_)
       refine Cv1 (.cons .h (.cons .h .nil)) (own_lit (Ro := (OwnS 3 (roE rdInt))) (E := 22) (F := (p114.2 ++ [])) (xs := ([z112] : List (List Int))) (MkL_cons Mk_own MkL_nil apps) rfl rfl) ?_
       refine bnd hF fun z116 hx117 hF => C_x1 (.cons (.t (.t (.t .h))) (.cons .h .nil)) (X_appendO (Ro := (OwnS 3 (roE rdInt))) sl153.h ni153 ty22.h rfl rfl rfl (.tmp rfl rfl) (.tmp rfl rfl) hx117 src_own) (fun p118 => ?_)
       iterate 6 refine au ?_
       rw [wk k97]
       exact ⟨_, Nat.lt_succ_self _, _, k97 + 1, rest98, _, p118.1, p118.2, rfl, eqA, hd103, entA, hF⟩
     rintro _ _ ⟨c120, v121, F122, g124, rfl, rfl, hE⟩
     replace hF := hO87
     try dsimp only at hF
     refine K_ent hE ?_
     iterate 4 refine au ?_
     rw [wk k77]
     exact ⟨_, Nat.lt_succ_self _, _, k77 + 1, rest78, _, v121, F122, rfl, eqA, hd83, entA, hF⟩
   rintro _ _ ⟨c125, v126, F127, g128, rfl, rfl, hE⟩
   replace hF := hO16
   try dsimp only at hF
   refine K_ent hE ?_
   iterate 4 refine au ?_
   exact ⟨m7, Nat.lt_succ_self _, _, _, _, v126, F127, eqA, entA, hF⟩
 iterate 9 refine au ?_
 cases hF
 exact Er (v4, F5)
def i_sameAccess (a_a : Access) (a_b : Access) : Option (Bool) :=
 (bif ((a_a.Method : Int) == a_b.Method) then ((g_slices_Equal_int_int a_a.Values a_b.Values).bind fun r6 =>
     some r6)
   else (some false)).bind fun o3 =>
 match o3 with
 | c9 => some c9
theorem i_sameAccess_ok (a_a : Access) (v0_1 : Sv) (a_b : Access) (v1_1 : Sv) (R : Bool) (hF : i_sameAccess a_a a_b = some R) :
   Fw.Spec Tryz.prog 177 [(.agg [(.int .i64 a_a.Method), v0_1.v].toArray), (.agg [(.int .i64 a_b.Method), v1_1.v].toArray)] [crd (RdS 3 rdInt) v0_1.v a_a.Values, crd (RdS 3 rdInt) v1_1.v a_b.Values] (fun _ : Unit => (.bool R)) (fun _ => []) := by
 refine Se 17 Tryz.func177 [.tmp 4] ?_
 intro H0 F0
 unfold i_sameAccess at hF
 refine au ?_
 refine AbR (fun k1 => ?_)
 refine AbR (fun k2 => ?_)
 iterate 2 refine au ?_
 obtain ⟨o3, hio3, hO4⟩ := bind_some hF
 refine au ?_
 refine C_cut (fun f' cs' => ∃ (c9 : Bool) (g : Fr), c9 = o3 ∧ f' = updL g [(4, (.bool c9))] ∧ Ent cs' []) ?_ ?_
 · replace hF := hio3
   iterate 6 refine au ?_
   rcases Bool.eq_false_or_eq_true ((a_a.Method : Int) == a_b.Method) with hg5 | hg5
   · rw [hg5]
     try rw [hg5] at hF; dsimp only [cond_true, cond_false] at hF
     iterate 9 refine au ?_
     refine bnd hF fun r6 hx7 hF => Cx0 (g_slices_Equal_int_int_ok _ _ _ _ _ hx7) (fun _ => ?_)
     iterate 3 refine au ?_
     cases hF
     exact ⟨_, _, rfl, eqA, entA⟩
   rw [hg5]
   try rw [hg5] at hF; dsimp only [cond_true, cond_false] at hF
   iterate 8 refine au ?_
   cases hF
   exact ⟨_, _, rfl, eqA, entA⟩
 rintro _ _ ⟨c9, g10, rfl, rfl, hE⟩
 replace hF := hO4
 try dsimp only at hF
 refine K_ent hE ?_
 refine au ?_
 cases hF
 exact Er ()
def i_hasAccess_1 (a_x : Access) (a_e1 : Access) : Option (Bool) :=
 (i_sameAccess a_x a_e1).bind fun r2 =>
 some r2
theorem i_hasAccess_1_ok (a_x : Access) (v0_1 : Sv) (kc1 : Nat) (a_e1 : Access) (vc1_1 : Sv) (R : Bool) (hF : i_hasAccess_1 a_x a_e1 = some R) :
   Fw.Spec Tryz.prog 176 [(.agg [(.int .i64 a_x.Method), v0_1.v].toArray), (pz kc1)] [crd (RdS 3 rdInt) v0_1.v a_x.Values, cboR kc1 130 (.agg [(.int .i64 a_e1.Method), vc1_1.v].toArray), crd (RdS 3 rdInt) vc1_1.v a_e1.Values] (fun _ : Unit => (.bool R)) (fun _ => []) := by
 refine Se 7 Tryz.func176 [.tmp 3] ?_
 intro H0 F0
 unfold i_hasAccess_1 at hF
 refine au ?_
 refine AbR (fun k1 => ?_)
 iterate 5 refine au ?_
 refine bnd hF fun r2 hx3 hF => Cx0 (i_sameAccess_ok _ _ _ _ _ hx3) (fun _ => ?_)
 iterate 3 refine au ?_
 cases hF
 exact Er ()
def g_slices_IndexFunc_impl_Access_impl_Access_ihasAccess1_L1 (a_e1 : Access) : List Access → Nat → Option (Int)
 | [], k4 => some (-1)
 | x6 :: rest5, k4 => (i_hasAccess_1 x6 a_e1).bind fun r16 =>
   if r16 then (
     some (k4 : Int))
   else (
     g_slices_IndexFunc_impl_Access_impl_Access_ihasAccess1_L1 a_e1 rest5 (k4 + 1))
def g_slices_IndexFunc_impl_Access_impl_Access_ihasAccess1 (a_s : List Access) (a_e1 : Access) : Option (Int) :=
 g_slices_IndexFunc_impl_Access_impl_Access_ihasAccess1_L1 a_e1 a_s 0
theorem g_slices_IndexFunc_impl_Access_impl_Access_ihasAccess1_ok (a_s : List Access) (v0_0 : Sv) (kc1 : Nat) (a_e1 : Access) (vc1_1 : Sv) (R : Int) (hF : g_slices_IndexFunc_impl_Access_impl_Access_ihasAccess1 a_s a_e1 = some R) :
   Fw.Spec Tryz.prog 197 [v0_0.v, (.func (.func 176) [].toArray [(pz kc1)].toArray)] [crd (RdS 130 rd130) v0_0.v a_s, cboR kc1 130 (.agg [(.int .i64 a_e1.Method), vc1_1.v].toArray), crd (RdS 3 rdInt) vc1_1.v a_e1.Values] (fun _ : Unit => (.int .i64 R)) (fun _ => []) := by
 refine Se 19 Tryz.func197 [.tmp 4] ?_
 intro H0 F0
 unfold g_slices_IndexFunc_impl_Access_impl_Access_ihasAccess1 at hF
 iterate 9 refine au ?_
 refine CW_block (CW_loop (m := a_s.length) (fun m2 f' cs' => ∃ (g : Fr) (k4 : Nat) (rest5 : List Access), m2 = rest5.length ∧ f' = updL g [(0, v0_0.v), (1, (.func (.func 176) [].toArray [(pz kc1)].toArray)), (7, (.int .i64 (a_s.length : Int))), (8, (.int .i64 (k4 : Int)))] ∧ List.drop k4 a_s = rest5 ∧ Ent cs' [crd (RdS 130 rd130) v0_0.v a_s, cboR kc1 130 (.agg [(.int .i64 a_e1.Method), vc1_1.v].toArray), crd (RdS 3 rdInt) vc1_1.v a_e1.Values] ∧ g_slices_IndexFunc_impl_Access_impl_Access_ihasAccess1_L1 a_e1 rest5 k4 = some R) ⟨_, 0, _, rfl, eqA, rfl, entA, hF⟩ ?_)
 rintro m2 _ _ ⟨g3, k4, rest5, rfl, rfl, hd7, hE, hF⟩
 refine Kb hE a_s (fun hbd12 => ?_)
 rcases rest5 with _ | ⟨x6, rest5⟩
 · have hk8 := dn hd7
   rw [g_slices_IndexFunc_impl_Access_impl_Access_ihasAccess1_L1] at hF
   iterate 4 refine au ?_
   refine CdF ?_
   iterate 8 refine au ?_
   cases hF
   exact Er ()
 obtain ⟨hk8, hx9, hd10⟩ := drop_cons hd7
 rw [g_slices_IndexFunc_impl_Access_impl_Access_ihasAccess1_L1] at hF
 iterate 4 refine au ?_
 refine CdT ?_
 iterate 10 refine au ?_
 refine Ai hx9 (fun k13 j14 => ?_)
 refine AlA1 (ul130_0_130 x6) la130_0_130 (fun p15 => ?_)
 refine bnd hF fun r16 hx17 hF => C_x0 (.rd .h rfl (.rd (.t (.t (.t .h))) rfl (.rd (.t (.t (.t (.t .h)))) rfl .nil))) (X_callCS cf176.h (.tmp rfl rfl) (.cons (.tmp rfl rfl) .nil) (i_hasAccess_1_ok x6 p15 kc1 a_e1 vc1_1 _ hx17)) (fun _ => ?_)
 refine au ?_
 refine Ci hF (fun hb20 hF => ?_) (fun hb20 hF => ?_)
 · iterate 5 refine au ?_
   cases hF
   exact Er ()
 iterate 5 refine au ?_
 rw [wk k4]
 exact ⟨_, Nat.lt_succ_self _, _, k4 + 1, rest5, rfl, eqA, hd10, entA, hF⟩
def g_slices_ContainsFunc_impl_Access_impl_Access_ihasAccess1 (a_s : List Access) (a_e1 : Access) : Option (Bool) :=
 (g_slices_IndexFunc_impl_Access_impl_Access_ihasAccess1 a_s a_e1).bind fun r1 =>
 some (decide ((0 : Int) ≤ r1))
theorem g_slices_ContainsFunc_impl_Access_impl_Access_ihasAccess1_ok (a_s : List Access) (v0_0 : Sv) (kc1 : Nat) (a_e1 : Access) (vc1_1 : Sv) (R : Bool) (hF : g_slices_ContainsFunc_impl_Access_impl_Access_ihasAccess1 a_s a_e1 = some R) :
   Fw.Spec Tryz.prog 175 [v0_0.v, (.func (.func 176) [].toArray [(pz kc1)].toArray)] [crd (RdS 130 rd130) v0_0.v a_s, cboR kc1 130 (.agg [(.int .i64 a_e1.Method), vc1_1.v].toArray), crd (RdS 3 rdInt) vc1_1.v a_e1.Values] (fun _ : Unit => (.bool R)) (fun _ => []) := by
 refine Se 9 Tryz.func175 [.tmp 4] ?_
 intro H0 F0
 unfold g_slices_ContainsFunc_impl_Access_impl_Access_ihasAccess1 at hF
 iterate 6 refine au ?_
 refine bnd hF fun r1 hx2 hF => Cx0 (g_slices_IndexFunc_impl_Access_impl_Access_ihasAccess1_ok _ _ _ _ _ _ hx2) (fun _ => ?_)
 iterate 4 refine au ?_
 cases hF
 exact Er ()
def i_hasAccess (a_l : List Access) (a_a : Access) : Option (Bool) :=
 (g_slices_ContainsFunc_impl_Access_impl_Access_ihasAccess1 a_l a_a).bind fun r2 =>
 some r2
theorem i_hasAccess_ok (a_l : List Access) (v0_0 : Sv) (a_a : Access) (v1_1 : Sv) (R : Bool) (hF : i_hasAccess a_l a_a = some R) :
   Fw.Spec Tryz.prog 146 [v0_0.v, (.agg [(.int .i64 a_a.Method), v1_1.v].toArray)] [crd (RdS 130 rd130) v0_0.v a_l, crd (RdS 3 rdInt) v1_1.v a_a.Values] (fun _ : Unit => (.bool R)) (fun _ => []) := by
 refine Se 8 Tryz.func146 [.tmp 4] ?_
 intro H0 F0
 unfold i_hasAccess at hF
 refine au ?_
 refine AbR (fun k1 => ?_)
 iterate 4 refine au ?_
 refine C_val (V_makeFunc (fn := .func 176) (vs := []) (us := [(pz k1)]) .nil (.cons (.tmp rfl rfl) .nil)) ?_
 refine bnd hF fun r2 hx3 hF => Cx0 (g_slices_ContainsFunc_impl_Access_impl_Access_ihasAccess1_ok _ _ _ _ _ _ hx3) (fun _ => ?_)
 iterate 3 refine au ?_
 cases hF
 exact Er ()
def i_Reached_open_L2 (a_r : Reached) (k9 : Nat) : List (List Int) → Nat → (List Access) → Option ((List Access))
 | [], k66, c60 => some c60
 | x68 :: rest67, k66, c60 => ((i_hasAccess a_r.Log ({ Method := (k9 : Int), Values := x68 } : Access)).bind fun r81 =>
     if (!r81) then (
       (app c60 ([({ Method := (k9 : Int), Values := x68 } : Access)] : List Access)).bind fun z85 =>
       some z85)
     else (
       some c60)).bind fun o75 =>
   match o75 with
   | c89 => i_Reached_open_L2 a_r k9 rest67 (k66 + 1) c89
def i_Reached_open_L1 (a_r : Reached) : List Method → Nat → (List Access) → Option ((List Access) × Reached)
 | [], k9, c3 => some (c3, a_r)
 | x11 :: rest10, k9, c3 => (if ((x11.Limit : Int) != 0) then (
       some c3)
     else (
       (i_lists a_r.Values (x11.Inputs.length : Int)).bind fun r24 =>
       i_Reached_open_L2 a_r k9 r24 0 c3)).bind fun o18 =>
   match o18 with
   | c95 => i_Reached_open_L1 a_r rest10 (k9 + 1) c95
def i_Reached_open (a_r : Reached) (a_l : List Method) : Option ((List Access) × Reached) :=
 i_Reached_open_L1 a_r a_l 0 ([] : List Access)
theorem i_Reached_open_ok (a_r : Reached) (v0_0 : Sv) (F0_0 : List Nat) (v0_1 : Sv) (F0_1 : List Nat) (v0_2 : Sv) (F0_2 : List Nat) (a_l : List Method) (v1_0 : Sv) (R : (List Access) × Reached) (hF : i_Reached_open a_r a_l = some R) :
   Fw.Spec Tryz.prog 104 [(.agg [v0_0.v, v0_1.v, v0_2.v, (.int .i64 a_r.Rounds)].toArray), v1_0.v] [cown (OwnS 86 ow86) F0_0 v0_0.v a_r.Facts, cown (OwnS 3 (roE rdInt)) F0_1 v0_1.v a_r.Values, cown (OwnS 130 (roE rd130)) F0_2 v0_2.v a_r.Log, crd (RdS 65 rd65) v1_0.v a_l] (fun p : Sv × List Nat × List Nat × List Nat × List Nat => p.1.v) (fun p => [cown (OwnS 130 (roE rd130)) p.2.1 p.1.v R.1, cown (OwnS 86 ow86) p.2.2.1 v0_0.v R.2.Facts, cown (OwnS 3 (roE rdInt)) p.2.2.2.1 v0_1.v R.2.Values, cown (OwnS 130 (roE rd130)) p.2.2.2.2 v0_2.v R.2.Log]) := by
 refine Se 48 Tryz.func104 [.tmp 4] ?_
 intro H0 F0
 unfold i_Reached_open at hF
 refine au ?_
 refine AbR (fun k1 => ?_)
 iterate 3 refine au ?_
 refine C_new rfl (N_buildSliceT (g := true) sl59.h ty130.h .nil (vs := []) rfl rfl rfl (by simp)) (fun k2 => ?_)
 refine Cv1 (.cons .h .nil) (own_lit (Ro := (roE rd130)) (E := 130) (F := []) (xs := ([] : List Access)) MkL_nil rfl rfl) ?_
 iterate 8 refine au ?_
 refine CW_block (CW_loop (m := a_l.length) (fun m7 f' cs' => ∃ (g : Fr) (k9 : Nat) (rest10 : List Method) (c3 : List Access) (v4 : Sv) (F5 : List Nat), m7 = rest10.length ∧ f' = updL g [(2, (pz k1)), (5, v4.v), (12, v1_0.v), (13, (.int .i64 (a_l.length : Int))), (14, (.int .i64 (k9 : Int)))] ∧ List.drop k9 a_l = rest10 ∧ Ent cs' [cboR k1 61 (.agg [v0_0.v, v0_1.v, v0_2.v, (.int .i64 a_r.Rounds)].toArray), cown (OwnS 86 ow86) F0_0 v0_0.v a_r.Facts, cown (OwnS 3 (roE rdInt)) F0_1 v0_1.v a_r.Values, cown (OwnS 130 (roE rd130)) F0_2 v0_2.v a_r.Log, cown (OwnS 130 (roE rd130)) F5 v4.v c3, crd (RdS 65 rd65) v1_0.v a_l] ∧ i_Reached_open_L1 a_r rest10 k9 c3 = some R) ⟨_, 0, _, _, ⟨(some ⟨k2, 0, none⟩), 0, 1⟩, (k2 :: []), rfl, eqA, rfl, entA, hF⟩ ?_)
 rintro m7 _ _ ⟨g8, k9, rest10, c3, v4, F5, rfl, rfl, hd12, hE, hF⟩
 refine Kb hE a_l (fun hbd17 => ?_)
 rcases rest10 with _ | ⟨x11, rest10⟩
 · have hk13 := dn hd12
   rw [i_Reached_open_L1] at hF
   iterate 4 refine au ?_
   refine CdF ?_
   iterate 9 refine au ?_
   cases hF
   exact Er (v4, F5, F0_0, F0_1, F0_2)
 obtain ⟨hk13, hx14, hd15⟩ := drop_cons hd12
 rw [i_Reached_open_L1] at hF
 iterate 4 refine au ?_
 refine CdT ?_
 refine au ?_
 obtain ⟨o18, hio18, hO19⟩ := bind_some hF
 refine K_cut (fun f' cs' => ∃ (c95 : List Access) (v96 : Sv) (F97 : List Nat) (g : Fr), c95 = o18 ∧ f' = updL g [(2, (pz k1)), (5, v96.v), (12, v1_0.v), (13, (.int .i64 (a_l.length : Int))), (14, (.int .i64 (k9 : Int)))] ∧ Ent cs' [cboR k1 61 (.agg [v0_0.v, v0_1.v, v0_2.v, (.int .i64 a_r.Rounds)].toArray), cown (OwnS 86 ow86) F0_0 v0_0.v a_r.Facts, cown (OwnS 3 (roE rdInt)) F0_1 v0_1.v a_r.Values, cown (OwnS 130 (roE rd130)) F0_2 v0_2.v a_r.Log, cown (OwnS 130 (roE rd130)) F97 v96.v c95, crd (RdS 65 rd65) v1_0.v a_l]) ?_ ?_
 · replace hF := hio18
   refine CW_block (K_region (Cm (.int .i64 (k9 : Int)) rfl rfl ?_))
   refine Ai hx14 (fun k20 j21 => ?_)
   refine AlA1 (ul65_0_65 x11) la65_0_65 (fun p22 => ?_)
   refine AnW (fun k23 => ?_)
   refine au ?_
   refine As (.agg [(.int .i64 x11.Rel), p22.v, (.int .i64 x11.Limit), (.int .i64 x11.Cost), (.int .i64 x11.Quota)].toArray) ?_
   iterate 7 refine au ?_
   refine Ci hF (fun hb94 hF => ?_) (fun hb94 hF => ?_)
   · iterate 3 refine au ?_
     cases hF
     exact ⟨_, v4, F5, _, rfl, eqA, entA⟩
   iterate 7 refine au ?_
   refine bnd hF fun r24 hx25 hF => C_x2 (.cons (.t (.t (.t (.t (.t .h))))) .nil) (XC_bor frz_own (fun _ => (.cons .nil)) (X_callS cf145.h (.cons (.tmp rfl rfl) (.cons (.tmp rfl rfl) .nil)) (i_lists_ok a_r.Values v0_1 (x11.Inputs.length : Int) _ hx25))) (fun p26 => ?_)
   iterate 3 refine au ?_
   refine CW_block (K_frz (.t .h) frz_own ?_)
   refine CW_loop (m := r24.length) (fun m64 f' cs' => ∃ (g : Fr) (k66 : Nat) (rest67 : List (List Int)) (c60 : List Access) (v61 : Sv) (F62 : List Nat), m64 = rest67.length ∧ f' = updL g [(2, (pz k1)), (5, v61.v), (6, (.int .i64 (k9 : Int))), (12, v1_0.v), (13, (.int .i64 (a_l.length : Int))), (14, (.int .i64 (k9 : Int))), (27, p26.1.v), (28, (.int .i64 (r24.length : Int))), (29, (.int .i64 (k66 : Int)))] ∧ List.drop k66 r24 = rest67 ∧ Ent cs' [cboR k1 61 (.agg [v0_0.v, v0_1.v, v0_2.v, (.int .i64 a_r.Rounds)].toArray), cown (OwnS 86 ow86) F0_0 v0_0.v a_r.Facts, cown (OwnS 3 (roE rdInt)) F0_1 v0_1.v a_r.Values, cown (OwnS 130 (roE rd130)) F0_2 v0_2.v a_r.Log, cown (OwnS 130 (roE rd130)) F62 v61.v c60, crd (RdS 65 rd65) v1_0.v a_l, crd (RdS 22 (RdS 3 rdInt)) p26.1.v r24] ∧ i_Reached_open_L2 a_r k9 rest67 k66 c60 = some o18) ⟨_, 0, _, _, v4, F5, rfl, eqA, rfl, entA, hF⟩ ?_
   rintro m64 _ _ ⟨g65, k66, rest67, c60, v61, F62, rfl, rfl, hd69, hE, hF⟩
   refine Kb hE r24 (fun hbd74 => ?_)
   rcases rest67 with _ | ⟨x68, rest67⟩
   · have hk70 := dn hd69
     rw [i_Reached_open_L2] at hF
     iterate 4 refine au ?_
     refine CdF ?_
     iterate 4 refine au ?_
     cases hF
     exact ⟨_, v61, F62, _, rfl, eqA, entA⟩
   obtain ⟨hk70, hx71, hd72⟩ := drop_cons hd69
   rw [i_Reached_open_L2] at hF
   iterate 4 refine au ?_
   refine CdT ?_
   refine au ?_
   obtain ⟨o75, hio75, hO76⟩ := bind_some hF
   refine K_cut (fun f' cs' => ∃ (c89 : List Access) (v90 : Sv) (F91 : List Nat) (g : Fr), c89 = o75 ∧ f' = updL g [(2, (pz k1)), (5, v90.v), (6, (.int .i64 (k9 : Int))), (12, v1_0.v), (13, (.int .i64 (a_l.length : Int))), (14, (.int .i64 (k9 : Int))), (27, p26.1.v), (28, (.int .i64 (r24.length : Int))), (29, (.int .i64 (k66 : Int)))] ∧ Ent cs' [cboR k1 61 (.agg [v0_0.v, v0_1.v, v0_2.v, (.int .i64 a_r.Rounds)].toArray), cown (OwnS 86 ow86) F0_0 v0_0.v a_r.Facts, cown (OwnS 3 (roE rdInt)) F0_1 v0_1.v a_r.Values, cown (OwnS 130 (roE rd130)) F0_2 v0_2.v a_r.Log, cown (OwnS 130 (roE rd130)) F91 v90.v c89, crd (RdS 65 rd65) v1_0.v a_l, crd (RdS 22 (RdS 3 rdInt)) p26.1.v r24]) ?_ ?_
   · replace hF := hio75
     refine CW_block (K_region (C_idx (a := x68) sl153.h ty22.h.sz (.tmp rfl rfl) (.tmp rfl rfl) (.t (.t (.t (.t (.t (.t .h)))))) (Int.natCast_nonneg k66) hx71 (fun k77 j78 => ?_)))
     refine C_ldV (R' := (RdS 3 rdInt)) ag22.h (.tmp rfl rfl) .h lv22_0 (fun w79 => ?_)
     iterate 5 refine au ?_
     refine C_val (V_build ty130.h rfl (vs := [(.int .i64 (k9 : Int)), w79.v]) (.cons (.tmp rfl rfl) (.cons (.tmp rfl rfl) .nil)) (cells := [(.int .i64 (k9 : Int)), w79.v]) rfl) ?_
     refine AnW (fun k80 => ?_)
     refine As (.agg [(.int .i64 (k9 : Int)), w79.v].toArray) ?_
     iterate 5 refine au ?_
     refine bnd hF fun r81 hx82 hF => C_x1 (.cons (.t (.t (.t (.t (.t (.t .h)))))) (.rd (.t .h) rfl .nil)) (XC_bor frz_own (fun _ => .nil) (X_callS cf146.h (.cons (.tmp rfl rfl) (.cons (.tmp rfl rfl) .nil)) (i_hasAccess_ok a_r.Log v0_2 ({ Method := (k9 : Int), Values := x68 } : Access) w79 _ hx82))) (fun _ => ?_)
     iterate 2 refine au ?_
     refine Ci hF (fun hb88 hF => ?_) (fun hb88 hF => ?_)
     · iterate 3 refine au ?_
       refine C_new rfl (N_buildSliceT (g := true) sl59.h ty130.h (.cons (.tmp rfl rfl) .nil) (vs := [(.agg [(.int .i64 (k9 : Int)), w79.v].toArray)]) rfl rfl rfl (by intro v hv; simp at hv; rcases hv with rfl <;> rfl)) (fun k84 => ?_)
       refine Cv1 (.cons .h (.rd (.t (.t .h)) rfl .nil)) (own_lit (Ro := (roE rd130)) (E := 130) (F := ([] ++ [])) (xs := ([({ Method := (k9 : Int), Values := x68 } : Access)] : List Access)) (MkL_cons (mr130 (a := ({ Method := (k9 : Int), Values := x68 } : Access))) MkL_nil apps) rfl rfl) ?_
       refine bnd hF fun z85 hx86 hF => C_x1 (.cons (.t (.t (.t (.t (.t (.t (.t (.t .h)))))))) (.cons .h .nil)) (X_appendO (Ro := (roE rd130)) sl59.h ni59 ty130.h rfl rfl rfl (.tmp rfl rfl) (.tmp rfl rfl) hx86 src_own) (fun p87 => ?_)
       iterate 2 refine au ?_
       cases hF
       exact ⟨_, p87.1, p87.2, _, rfl, eqA, entA⟩
     refine au ?_
     cases hF
     exact ⟨_, v61, F62, _, rfl, eqA, entA⟩
   rintro _ _ ⟨c89, v90, F91, g93, rfl, rfl, hE⟩
   replace hF := hO76
   try dsimp only at hF
   refine K_ent hE ?_
   iterate 4 refine au ?_
   rw [wk k66]
   exact ⟨_, Nat.lt_succ_self _, _, k66 + 1, rest67, _, v90, F91, rfl, eqA, hd72, entA, hF⟩
 rintro _ _ ⟨c95, v96, F97, g99, rfl, rfl, hE⟩
 replace hF := hO19
 try dsimp only at hF
 refine K_ent hE ?_
 iterate 4 refine au ?_
 rw [wk k9]
 exact ⟨_, Nat.lt_succ_self _, _, k9 + 1, rest10, _, v96, F97, rfl, eqA, hd15, entA, hF⟩
def i_copyFacts_L1 : List Fact → Nat → (List Fact) → Option ((List Fact))
 | [], k8, c2 => some c2
 | x10 :: rest9, k8, c2 => (i_copyFact x10).bind fun r21 =>
   (app c2 ([r21] : List Fact)).bind fun z25 =>
   i_copyFacts_L1 rest9 (k8 + 1) z25
def i_copyFacts (a_l : List Fact) : Option ((List Fact)) :=
 i_copyFacts_L1 a_l 0 ([] : List Fact)
theorem i_copyFacts_ok (a_l : List Fact) (v0_0 : Sv) (R : (List Fact)) (hF : i_copyFacts a_l = some R) :
   Fw.Spec Tryz.prog 148 [v0_0.v] [crd (RdS 86 rd86) v0_0.v a_l] (fun p : Sv × List Nat => p.1.v) (fun p => [cown (OwnS 86 ow86) p.2 p.1.v R]) := by
 refine Se 20 Tryz.func148 [.tmp 2] ?_
 intro H0 F0
 unfold i_copyFacts at hF
 iterate 4 refine au ?_
 refine C_new rfl (N_buildSliceT (g := true) sl29.h ty86.h .nil (vs := []) rfl rfl rfl (by simp)) (fun k1 => ?_)
 refine Cv1 (.cons .h .nil) (own_lit (Ro := ow86) (E := 86) (F := []) (xs := ([] : List Fact)) MkL_nil rfl rfl) ?_
 iterate 8 refine au ?_
 refine CW_block (CW_loop (m := a_l.length) (fun m6 f' cs' => ∃ (g : Fr) (k8 : Nat) (rest9 : List Fact) (c2 : List Fact) (v3 : Sv) (F4 : List Nat), m6 = rest9.length ∧ f' = updL g [(3, v3.v), (7, v0_0.v), (8, (.int .i64 (a_l.length : Int))), (9, (.int .i64 (k8 : Int)))] ∧ List.drop k8 a_l = rest9 ∧ Ent cs' [cown (OwnS 86 ow86) F4 v3.v c2, crd (RdS 86 rd86) v0_0.v a_l] ∧ i_copyFacts_L1 rest9 k8 c2 = some R) ⟨_, 0, _, _, ⟨(some ⟨k1, 0, none⟩), 0, 1⟩, (k1 :: []), rfl, eqA, rfl, entA, hF⟩ ?_)
 rintro m6 _ _ ⟨g7, k8, rest9, c2, v3, F4, rfl, rfl, hd11, hE, hF⟩
 refine Kb hE a_l (fun hbd16 => ?_)
 rcases rest9 with _ | ⟨x10, rest9⟩
 · have hk12 := dn hd11
   rw [i_copyFacts_L1] at hF
   iterate 4 refine au ?_
   refine CdF ?_
   iterate 9 refine au ?_
   cases hF
   exact Er (v3, F4)
 obtain ⟨hk12, hx13, hd14⟩ := drop_cons hd11
 rw [i_copyFacts_L1] at hF
 iterate 4 refine au ?_
 refine CdT ?_
 iterate 3 refine au ?_
 refine Ai hx13 (fun k17 j18 => ?_)
 refine AlA1 (ul86_0_86 x10) la86_0_86 (fun p19 => ?_)
 refine AnW (fun k20 => ?_)
 refine As (.agg [(.int .i64 x10.Rel), p19.v].toArray) ?_
 iterate 4 refine au ?_
 refine bnd hF fun r21 hx22 hF => Cx1 (i_copyFact_ok _ _ _ hx22) (fun p23 => ?_)
 refine C_new rfl (N_buildSliceT (g := true) sl29.h ty86.h (.cons (.tmp rfl rfl) .nil) (vs := [(.agg [(.int .i64 r21.Rel), p23.1.v].toArray)]) rfl rfl rfl (by intro v hv; simp at hv; rcases hv with rfl <;> rfl)) (fun k24 => ?_)
 refine Cv1 (.cons .h (.cons .h .nil)) (own_lit (Ro := ow86) (E := 86) (F := (p23.2 ++ [])) (xs := ([r21] : List Fact)) (MkL_cons mk86 MkL_nil apps) rfl rfl) ?_
 refine bnd hF fun z25 hx26 hF => C_x1 (.cons (.t (.t (.t (.t .h)))) (.cons .h .nil)) (X_appendO (Ro := ow86) sl29.h ni29 ty86.h rfl rfl rfl (.tmp rfl rfl) (.tmp rfl rfl) hx26 src_own) (fun p27 => ?_)
 iterate 6 refine au ?_
 rw [wk k8]
 exact ⟨_, Nat.lt_succ_self _, _, k8 + 1, rest9, _, p27.1, p27.2, rfl, eqA, hd14, entA, hF⟩
def i_matches_1_L1 (a_f : Fact) (a_e2 : Access) : List Int → Nat → Option (Bool)
 | [], k5 => some false
 | x7 :: rest6, k5 => (ix a_f.Values x7).bind fun x16 =>
   (ix a_e2.Values (k5 : Int)).bind fun x22 =>
   if ((x16 : Int) != x22) then (
     some true)
   else (
     i_matches_1_L1 a_f a_e2 rest6 (k5 + 1))
def i_matches_1 (a_f : Fact) (a_e1 : Method) (a_e2 : Access) : Option (Bool) :=
 if ((a_f.Rel : Int) != a_e1.Rel) then (
   some true)
 else (
   i_matches_1_L1 a_f a_e2 a_e1.Inputs 0)
theorem i_matches_1_ok (a_f : Fact) (v0_1 : Sv) (kc1 : Nat) (a_e1 : Method) (vc1_1 : Sv) (kc2 : Nat) (a_e2 : Access) (vc2_1 : Sv) (R : Bool) (hF : i_matches_1 a_f a_e1 a_e2 = some R) :
   Fw.Spec Tryz.prog 149 [(.agg [(.int .i64 a_f.Rel), v0_1.v].toArray), (pz kc1), (pz kc2)] [crd (RdS 3 rdInt) v0_1.v a_f.Values, cboR kc1 65 (.agg [(.int .i64 a_e1.Rel), vc1_1.v, (.int .i64 a_e1.Limit), (.int .i64 a_e1.Cost), (.int .i64 a_e1.Quota)].toArray), crd (RdS 3 rdInt) vc1_1.v a_e1.Inputs, cboR kc2 130 (.agg [(.int .i64 a_e2.Method), vc2_1.v].toArray), crd (RdS 3 rdInt) vc2_1.v a_e2.Values] (fun _ : Unit => (.bool R)) (fun _ => []) := by
 refine Se 32 Tryz.func149 [.tmp 4] ?_
 intro H0 F0
 unfold i_matches_1 at hF
 refine au ?_
 refine AbR (fun k1 => ?_)
 iterate 10 refine au ?_
 refine Ci hF (fun hb30 hF => ?_) (fun hb30 hF => ?_)
 · iterate 4 refine au ?_
   cases hF
   exact Er ()
 iterate 8 refine au ?_
 refine CW_block (CW_loop (m := a_e1.Inputs.length) (fun m3 f' cs' => ∃ (g : Fr) (k5 : Nat) (rest6 : List Int), m3 = rest6.length ∧ f' = updL g [(2, (pz kc2)), (3, (pz k1)), (13, vc1_1.v), (14, (.int .i64 (a_e1.Inputs.length : Int))), (15, (.int .i64 (k5 : Int)))] ∧ List.drop k5 a_e1.Inputs = rest6 ∧ Ent cs' [cboR kc2 130 (.agg [(.int .i64 a_e2.Method), vc2_1.v].toArray), crd (RdS 3 rdInt) vc2_1.v a_e2.Values, cboR k1 86 (.agg [(.int .i64 a_f.Rel), v0_1.v].toArray), crd (RdS 3 rdInt) v0_1.v a_f.Values, crd (RdS 3 rdInt) vc1_1.v a_e1.Inputs] ∧ i_matches_1_L1 a_f a_e2 rest6 k5 = some R) ⟨_, 0, _, rfl, eqA, rfl, entA, hF⟩ ?_)
 rintro m3 _ _ ⟨g4, k5, rest6, rfl, rfl, hd8, hE, hF⟩
 refine Kb hE a_e1.Inputs (fun hbd13 => ?_)
 rcases rest6 with _ | ⟨x7, rest6⟩
 · have hk9 := dn hd8
   rw [i_matches_1_L1] at hF
   iterate 4 refine au ?_
   refine CdF ?_
   iterate 8 refine au ?_
   cases hF
   exact Er ()
 obtain ⟨hk9, hx10, hd11⟩ := drop_cons hd8
 rw [i_matches_1_L1] at hF
 iterate 4 refine au ?_
 refine CdT ?_
 iterate 4 refine au ?_
 refine Ai hx10 (fun k14 j15 => ?_)
 refine Al ls3_0 ?_
 iterate 3 refine au ?_
 refine K_draw [0, 1, 2, 3, 4, 5, 6, 7, 8, 9, 10] [0, 1, 0, 7, 15, 0, 32, 0, 224, 480, 1023] [] mixed (by decide +kernel) ?_
 iterate 3 refine du ?_
 refine bnd hF fun x16 hx17 hF => ?_
 obtain ⟨hp18, hx19⟩ := ix_some hx17
 refine Di hx19 (fun k20 j21 => ?_)
 refine Dl ls3_0 ?_
 iterate 3 refine du ?_
 refine bnd hF fun x22 hx23 hF => ?_
 obtain ⟨hp24, hx25⟩ := ix_some hx23
 refine Di hx25 (fun k26 j27 => ?_)
 refine Dl ls3_0 ?_
 iterate 2 refine du ?_
 refine Ci hF (fun hb29 hF => ?_) (fun hb29 hF => ?_)
 · iterate 4 refine au ?_
   cases hF
   exact Er ()
 iterate 5 refine au ?_
 rw [wk k5]
 exact ⟨_, Nat.lt_succ_self _, _, k5 + 1, rest6, rfl, eqA, hd11, entA, hF⟩
def g_slices_IndexFunc_impl_Fact_impl_Fact_imatches1_L1 (a_e1 : Method) (a_e2 : Access) : List Fact → Nat → Option (Int)
 | [], k4 => some (-1)
 | x6 :: rest5, k4 => (i_matches_1 x6 a_e1 a_e2).bind fun r16 =>
   if r16 then (
     some (k4 : Int))
   else (
     g_slices_IndexFunc_impl_Fact_impl_Fact_imatches1_L1 a_e1 a_e2 rest5 (k4 + 1))
def g_slices_IndexFunc_impl_Fact_impl_Fact_imatches1 (a_s : List Fact) (a_e1 : Method) (a_e2 : Access) : Option (Int) :=
 g_slices_IndexFunc_impl_Fact_impl_Fact_imatches1_L1 a_e1 a_e2 a_s 0
theorem g_slices_IndexFunc_impl_Fact_impl_Fact_imatches1_ok (a_s : List Fact) (v0_0 : Sv) (kc1 : Nat) (a_e1 : Method) (vc1_1 : Sv) (kc2 : Nat) (a_e2 : Access) (vc2_1 : Sv) (R : Int) (hF : g_slices_IndexFunc_impl_Fact_impl_Fact_imatches1 a_s a_e1 a_e2 = some R) :
   Fw.Spec Tryz.prog 140 [v0_0.v, (.func (.func 149) [].toArray [(pz kc1), (pz kc2)].toArray)] [crd (RdS 86 rd86) v0_0.v a_s, cboR kc1 65 (.agg [(.int .i64 a_e1.Rel), vc1_1.v, (.int .i64 a_e1.Limit), (.int .i64 a_e1.Cost), (.int .i64 a_e1.Quota)].toArray), crd (RdS 3 rdInt) vc1_1.v a_e1.Inputs, cboR kc2 130 (.agg [(.int .i64 a_e2.Method), vc2_1.v].toArray), crd (RdS 3 rdInt) vc2_1.v a_e2.Values] (fun _ : Unit => (.int .i64 R)) (fun _ => []) := by
 refine Se 19 Tryz.func140 [.tmp 4] ?_
 intro H0 F0
 unfold g_slices_IndexFunc_impl_Fact_impl_Fact_imatches1 at hF
 iterate 9 refine au ?_
 refine CW_block (CW_loop (m := a_s.length) (fun m2 f' cs' => ∃ (g : Fr) (k4 : Nat) (rest5 : List Fact), m2 = rest5.length ∧ f' = updL g [(0, v0_0.v), (1, (.func (.func 149) [].toArray [(pz kc1), (pz kc2)].toArray)), (7, (.int .i64 (a_s.length : Int))), (8, (.int .i64 (k4 : Int)))] ∧ List.drop k4 a_s = rest5 ∧ Ent cs' [crd (RdS 86 rd86) v0_0.v a_s, cboR kc1 65 (.agg [(.int .i64 a_e1.Rel), vc1_1.v, (.int .i64 a_e1.Limit), (.int .i64 a_e1.Cost), (.int .i64 a_e1.Quota)].toArray), crd (RdS 3 rdInt) vc1_1.v a_e1.Inputs, cboR kc2 130 (.agg [(.int .i64 a_e2.Method), vc2_1.v].toArray), crd (RdS 3 rdInt) vc2_1.v a_e2.Values] ∧ g_slices_IndexFunc_impl_Fact_impl_Fact_imatches1_L1 a_e1 a_e2 rest5 k4 = some R) ⟨_, 0, _, rfl, eqA, rfl, entA, hF⟩ ?_)
 rintro m2 _ _ ⟨g3, k4, rest5, rfl, rfl, hd7, hE, hF⟩
 refine Kb hE a_s (fun hbd12 => ?_)
 rcases rest5 with _ | ⟨x6, rest5⟩
 · have hk8 := dn hd7
   rw [g_slices_IndexFunc_impl_Fact_impl_Fact_imatches1_L1] at hF
   iterate 4 refine au ?_
   refine CdF ?_
   iterate 8 refine au ?_
   cases hF
   exact Er ()
 obtain ⟨hk8, hx9, hd10⟩ := drop_cons hd7
 rw [g_slices_IndexFunc_impl_Fact_impl_Fact_imatches1_L1] at hF
 iterate 4 refine au ?_
 refine CdT ?_
 iterate 10 refine au ?_
 refine Ai hx9 (fun k13 j14 => ?_)
 refine AlA1 (ul86_0_86 x6) la86_0_86 (fun p15 => ?_)
 refine bnd hF fun r16 hx17 hF => C_x0 (.rd .h rfl (.rd (.t (.t (.t .h))) rfl (.rd (.t (.t (.t (.t .h)))) rfl (.rd (.t (.t (.t (.t (.t .h))))) rfl (.rd (.t (.t (.t (.t (.t (.t .h)))))) rfl .nil))))) (X_callCS cf149.h (.tmp rfl rfl) (.cons (.tmp rfl rfl) .nil) (i_matches_1_ok x6 p15 kc1 a_e1 vc1_1 kc2 a_e2 vc2_1 _ hx17)) (fun _ => ?_)
 refine au ?_
 refine Ci hF (fun hb20 hF => ?_) (fun hb20 hF => ?_)
 · iterate 5 refine au ?_
   cases hF
   exact Er ()
 iterate 5 refine au ?_
 rw [wk k4]
 exact ⟨_, Nat.lt_succ_self _, _, k4 + 1, rest5, rfl, eqA, hd10, entA, hF⟩
def g_slices_DeleteFunc_impl_Fact_impl_Fact_imatches1 (a_s : List Fact) (a_e1 : Method) (a_e2 : Access) : Option (List Fact) :=
 delL (fun a_q => i_matches_1 a_q a_e1 a_e2) a_s
theorem g_slices_DeleteFunc_impl_Fact_impl_Fact_imatches1_sh (qs : List (Value × Fact)) (v : Sv) (F : List Nat) (kc1 : Nat) (a_e1 : Method) (vc1_1 : Sv) (kc2 : Nat) (a_e2 : Access) (vc2_1 : Sv) (p : Value × Fact → Bool) (hcl : ∀ q ∈ qs, i_matches_1 q.2 a_e1 a_e2 = some (p q)) (hidx : g_slices_IndexFunc_impl_Fact_impl_Fact_imatches1 (qs.map Prod.snd) a_e1 a_e2 = some (ixF p qs 0)) (hbd : qs.length < 4611686018427387904) :
   Fw.Spec Tryz.prog 147 [v.v, (.func (.func 149) [].toArray [(.pointer (some ⟨kc1, 0, some 0⟩)), (.pointer (some ⟨kc2, 0, some 0⟩))].toArray)] [cown (OwnS 86 (roE (rq rd86))) F v.v qs, cboR kc1 65 (.agg [(.int .i64 a_e1.Rel), vc1_1.v, (.int .i64 a_e1.Limit), (.int .i64 a_e1.Cost), (.int .i64 a_e1.Quota)].toArray), crd (RdS 3 rdInt) vc1_1.v a_e1.Inputs, cboR kc2 130 (.agg [(.int .i64 a_e2.Method), vc2_1.v].toArray), crd (RdS 3 rdInt) vc2_1.v a_e2.Values] (fun q : Sv × List Nat => q.1.v) (fun q => [cown (OwnS 86 (roE (rq rd86))) q.2 q.1.v (qs.filter fun a => !p a)]) := by
 refine Spec_enter (n := 42) Tryz.func147 rfl rfl (rs := [.tmp 4]) rfl rfl rfl ?_
 intro H0 F0
 refine K_region ?_
 refine C_val (V_assign (v := (.slice none 0 0)) EV.nilSlice) ?_
 refine C_nil ?_
 refine K_region ?_
 refine C_val (V_move (v := v.v) (.tmp rfl rfl)) ?_
 refine C_val (V_move (v := (.func (.func 149) [].toArray [(.pointer (some ⟨kc1, 0, some 0⟩)), (.pointer (some ⟨kc2, 0, some 0⟩))].toArray)) (.tmp rfl rfl)) ?_
 refine C_x1 (.cons .h (.rd .h rfl (.rd (.t .h) rfl (.rd (.t (.t .h)) rfl (.rd (.t (.t (.t .h))) rfl .nil))))) (XC_borR frz_rq (fun _ => .nil) (XC_pre (.rd (.t (.t (.t (.t .h)))) rfl (.rd .h rfl (.rd (.t .h) rfl (.rd (.t (.t .h)) rfl (.rd (.t (.t (.t .h))) rfl .nil))))) (X_callS cf140.h (.cons (.tmp rfl rfl) (.cons (.tmp rfl rfl) .nil)) (g_slices_IndexFunc_impl_Fact_impl_Fact_imatches1_ok (qs.map Prod.snd) v kc1 a_e1 vc1_1 kc2 a_e2 vc2_1 _ hidx)))) (fun _ => ?_)
 generalize hR : ixF p qs 0 = R0
 refine C_val (V_assign (v := (.int .i64 R0)) (.tmp rfl rfl)) ?_
 refine C_nil ?_
 refine K_in ?_
 refine K_region ?_
 refine C_val (V_move (v := (.int .i64 R0)) (.tmp rfl rfl)) ?_
 refine C_val (V_eql (i := R0) (j := (-1)) (.tmp rfl rfl) (.int _ _)) ?_
 refine C_nil ?_
 refine CW_cond (b := (R0 == (-1 : Int))) (.tmp rfl rfl) (fun hb => ?_) (fun hb => ?_)
 · refine K_region ?_
   refine C_val (V_move (v := v.v) (.tmp rfl rfl)) ?_
   refine C_val (V_assign (v := v.v) (.tmp rfl rfl)) ?_
   refine C_nil ?_
   refine CW_ret ?_
   have e : qs.filter (fun q => !p q) = qs := ixF_none (k := 0) (by rw [hR]; simpa using hb)
   rw [e]
   exact End_ret (v, F) (.tmp rfl rfl .nil) rfl (.sel (.cons .h .nil))
 refine CW_skip ?_
 obtain ⟨i0, hi0, hi1⟩ : ∃ i : Nat, R0 = (i : Int) ∧ i < qs.length := by
   rcases ixF_range p qs 0 with h | ⟨i, h, hi⟩
   · rw [hR] at h; subst h; simp at hb
   · exact ⟨i, by rw [← hR, h], by omega⟩
 subst hi0
 refine K_in ?_
 refine K_region ?_
 refine C_val (V_move (v := (.int .i64 (i0 : Int))) (.tmp rfl rfl)) ?_
 refine C_val (V_add (i := (i0 : Int)) (j := 1) (.tmp rfl rfl) (.int _ _)) ?_
 rw [show IntKind.i64.wrap ((i0 : Int) + 1) = ((i0 + 1 : Nat) : Int) from by rw [wrap_in (by omega) (by omega)]; rfl]
 refine C_val (V_assign (v := (.int .i64 ((i0 + 1 : Nat) : Int))) (.tmp rfl rfl)) ?_
 refine C_nil ?_
 refine CW_block ?_
 refine CW_loop (m := qs.length - (i0 + 1)) (fun m f' cs' => ∃ (g : Fr) (cur : List (Value × Fact)) (i j : Nat) (F' : List Nat), m = qs.length - j ∧ f' = updL g [(0, v.v), (1, (.func (.func 149) [].toArray [(.pointer (some ⟨kc1, 0, some 0⟩)), (.pointer (some ⟨kc2, 0, some 0⟩))].toArray)), (5, (.int .i64 (i : Int))), (6, (.int .i64 (j : Int)))] ∧ DelI p qs cur i j ∧ Ent cs' [cown (OwnS 86 (roE (rq rd86))) F' v.v cur, cboR kc1 65 (.agg [(.int .i64 a_e1.Rel), vc1_1.v, (.int .i64 a_e1.Limit), (.int .i64 a_e1.Cost), (.int .i64 a_e1.Quota)].toArray), crd (RdS 3 rdInt) vc1_1.v a_e1.Inputs, cboR kc2 130 (.agg [(.int .i64 a_e2.Method), vc2_1.v].toArray), crd (RdS 3 rdInt) vc2_1.v a_e2.Values]) ⟨_, qs, i0, i0 + 1, F, rfl, (EqL.cons rfl (EqL.cons rfl (EqL.cons rfl (EqL.cons rfl (EqL.nil))))).eq, DelI.init (by rw [hR]), .sel (.cons .h (.rd .h rfl (.rd (.t .h) rfl (.rd (.t (.t .h)) rfl (.rd (.t (.t (.t .h))) rfl .nil)))))⟩ ?_
 rintro m _ _ ⟨g, cur, i, j, F', rfl, rfl, hI, hE⟩
 refine K_ent hE ?_
 clear hE
 refine K_in ?_
 refine K_region ?_
 refine C_val (V_move (v := (.int .i64 (j : Int))) (.tmp rfl rfl)) ?_
 refine C_val (V_move (v := v.v) (.tmp rfl rfl)) ?_
 refine C_at .h (fun hp => V_lenR (l := cur.length) sl29.h (.tmp rfl rfl) (cown_len hp)) ?_
 refine C_val (V_lss (i := (j : Int)) (j := (cur.length : Int)) (.tmp rfl rfl) (.tmp rfl rfl)) ?_
 refine C_nil ?_
 have hlen := hI.len
 have hij := hI.lt
 have hjl := hI.le
 refine CW_cond (b := (decide ((j : Int) < (cur.length : Int)))) (.tmp rfl rfl) (fun hb2 => ?_) (fun hb2 => ?_)
 · refine CW_skip ?_
   have hj : j < qs.length := by simp at hb2; omega
   obtain ⟨x, hx1, hx2⟩ := hI.at hj
   refine K_block ?_
   refine K_region ?_
   refine C_val (V_move (v := v.v) (.tmp rfl rfl)) ?_
   refine C_val (V_move (v := (.int .i64 (j : Int))) (.tmp rfl rfl)) ?_
   refine C_idxO sl29.h ty86.h.sz (.tmp rfl rfl) (.tmp rfl rfl) .h (by simp; omega) (fun k hk => ?_)
   refine C_ldOW (a := x) (ul := fun i : Sv => [(.int .i64 x.2.Rel), i.v]) (cc := fun i => [crd (RdS 3 rdInt) i.v x.2.Values]) ag86.h ty86.h.sz rfl (.tmp rfl rfl) .h hk (by simpa using hx1) (fun H e h => by obtain ⟨-, v0, h1, h0⟩ := h; exact ⟨v0, h1, rfl, by simp [crd, h0]⟩) (fun w => ?_)
   refine C_new rfl (N_allocT (g := true) ty86.h rfl rfl) (fun k1 => ?_)
   refine C_x1 (.cons .h .nil) (X_storeB (e := (.agg [(.int .i64 0), (.slice none 0 0)].toArray)) (e' := (.agg [(.int .i64 x.2.Rel), w.v].toArray)) (v := (.agg [(.int .i64 x.2.Rel), w.v].toArray)) ty86.h.sz (.tmp rfl rfl) (.tmp rfl rfl) rfl rfl rfl rfl rfl) (fun _ => ?_)
   refine C_nil ?_
   refine K_region ?_
   refine C_val (V_move (v := (.func (.func 149) [].toArray [(.pointer (some ⟨kc1, 0, some 0⟩)), (.pointer (some ⟨kc2, 0, some 0⟩))].toArray)) (.tmp rfl rfl)) ?_
   refine C_at .h (fun hp => V_loadBox ag86.h ty86.h.sz rfl (.tmp rfl rfl) hp.2 rfl) ?_
   refine C_x0 (.rd (.t (.t .h)) rfl (.rd (.t (.t (.t (.t .h)))) rfl (.rd (.t (.t (.t (.t (.t .h))))) rfl (.rd (.t (.t (.t (.t (.t (.t .h)))))) rfl (.rd (.t (.t (.t (.t (.t (.t (.t .h))))))) rfl .nil))))) (X_callCS cf149.h (.tmp rfl rfl) (.cons (.tmp rfl rfl) .nil) (i_matches_1_ok x.2 w kc1 a_e1 vc1_1 kc2 a_e2 vc2_1 _ (hcl x (List.mem_of_getElem? hx2)))) (fun _ => ?_)
   refine C_val (V_not (b := p x) (.tmp rfl rfl)) ?_
   refine C_nil ?_
   refine CW_cond (b := (!p x)) (.tmp rfl rfl) (fun hb3 => ?_) (fun hb3 => ?_)
   · refine K_region ?_
     refine C_val (V_move (v := v.v) (.tmp rfl rfl)) ?_
     refine C_val (V_move (v := (.int .i64 (i : Int))) (.tmp rfl rfl)) ?_
     refine C_at .h (fun hp => V_loadBox ag86.h ty86.h.sz rfl (.tmp rfl rfl) hp.2 rfl) ?_
     have hii : (decide ((0 : Int) ≤ (i : Int)) && decide ((i : Int) < (cur.length : Int))) = true := by simp; omega
     refine C_idxO sl29.h ty86.h.sz (.tmp rfl rfl) (.tmp rfl rfl) (.t (.t (.t .h))) hii (fun k2 hk2 => ?_)
     refine C_x1 (.cons (.t (.t (.t .h))) (.rd (.t .h) rfl .nil)) (X_storeO (Ro := roE (rq rd86)) (a := x) (i := (i : Int)) ty86.h.sz rfl (.tmp rfl rfl) (.tmp rfl rfl) hk2 hii Mk_rd (fun _ _ _ _ h => by obtain ⟨-, -, v0, rfl, _⟩ := h; rfl)) (fun F2 => ?_)
     refine C_nil ?_
     refine CW_region ?_
     refine C_val (V_move (v := (.int .i64 (i : Int))) (.tmp rfl rfl)) ?_
     refine C_val (V_add (i := (i : Int)) (j := 1) (.tmp rfl rfl) (.int _ _)) ?_
     rw [show IntKind.i64.wrap ((i : Int) + 1) = ((i + 1 : Nat) : Int) from by rw [wrap_in (by omega) (by omega)]; rfl]
     refine C_val (V_assign (v := (.int .i64 ((i + 1 : Nat) : Int))) (.tmp rfl rfl)) ?_
     refine C_nil ?_
     refine CW_region ?_
     refine C_val (V_move (v := (.int .i64 (j : Int))) (.tmp rfl rfl)) ?_
     refine C_val (V_add (i := (j : Int)) (j := 1) (.tmp rfl rfl) (.int _ _)) ?_
     rw [show IntKind.i64.wrap ((j : Int) + 1) = ((j + 1 : Nat) : Int) from by rw [wrap_in (by omega) (by omega)]; rfl]
     refine C_val (V_assign (v := (.int .i64 ((j + 1 : Nat) : Int))) (.tmp rfl rfl)) ?_
     refine C_nil ?_
     exact ⟨_, by omega, _, cur.set i x, i + 1, j + 1, F2, rfl, (EqL.cons rfl (EqL.cons rfl (EqL.cons rfl (EqL.cons rfl (EqL.nil))))).eq, hI.no hx2 (by simpa using hb3), .sel (.cons .h (.rd (.t (.t (.t .h))) rfl (.rd (.t (.t (.t (.t .h)))) rfl (.rd (.t (.t (.t (.t (.t .h))))) rfl (.rd (.t (.t (.t (.t (.t (.t .h)))))) rfl .nil)))))⟩
   · refine CW_skip ?_
     refine CW_region ?_
     refine C_val (V_move (v := (.int .i64 (j : Int))) (.tmp rfl rfl)) ?_
     refine C_val (V_add (i := (j : Int)) (j := 1) (.tmp rfl rfl) (.int _ _)) ?_
     rw [show IntKind.i64.wrap ((j : Int) + 1) = ((j + 1 : Nat) : Int) from by rw [wrap_in (by omega) (by omega)]; rfl]
     refine C_val (V_assign (v := (.int .i64 ((j + 1 : Nat) : Int))) (.tmp rfl rfl)) ?_
     refine C_nil ?_
     exact ⟨_, by omega, _, cur, i, j + 1, F', rfl, (EqL.cons rfl (EqL.cons rfl (EqL.cons rfl (EqL.cons rfl (EqL.nil))))).eq, hI.yes hx2 (by simpa using hb3), .sel (.cons (.t (.t (.t .h))) (.rd (.t (.t (.t .h))) rfl (.rd (.t (.t (.t (.t .h)))) rfl (.rd (.t (.t (.t (.t (.t .h))))) rfl (.rd (.t (.t (.t (.t (.t (.t .h)))))) rfl .nil)))))⟩
 · refine CW_exit ?_
   refine CThen_exit ?_
   refine CThen_exit ?_
   refine CIn_self ?_
   have hj : qs.length ≤ j := by simp at hb2; omega
   refine K_pure .h (own_form (by intro e; rw [e] at hlen; simp at hlen; omega)) (fun hv => ?_)
   obtain ⟨k0, m0, rfl, hm0⟩ := hv
   refine K_region ?_
   refine C_val (V_move (v := (.slice (some ⟨k0, 0, none⟩) cur.length m0)) (.tmp rfl rfl)) ?_
   refine C_val (V_move (v := (.int .i64 (i : Int))) (.tmp rfl rfl)) ?_
   refine C_sliceLo sl29.h ty86.h.sz (.tmp rfl rfl) (.tmp rfl rfl) .h (by omega) (by omega) ?_
   refine C_x1 (.cons .h .nil) (X_clear (l := cur.length) (m := m0) (k := k0) (i := i) (j := cur.length - i) sl29.h ty86.h rfl rfl rfl rfl rfl (by omega) (.tmp rfl rfl)) (fun _ => ?_)
   refine C_nil ?_
   refine K_region ?_
   refine C_val (V_move (v := (.slice (some ⟨k0, 0, none⟩) cur.length m0)) (.tmp rfl rfl)) ?_
   refine C_val (V_move (v := (.int .i64 (i : Int))) (.tmp rfl rfl)) ?_
   refine C_sliceHi sl29.h ty86.h.sz (.tmp rfl rfl) hm0 (.tmp rfl rfl) .h rfl (by omega) (by omega) (by omega) ?_
   refine C_val (V_assign (v := (.slice (some ⟨k0, 0, none⟩) i 2)) (.tmp rfl rfl)) ?_
   refine C_nil ?_
   refine CW_ret ?_
   rw [← hI.fin hj]
   exact End_ret (⟨some ⟨k0, 0, none⟩, i, 2⟩, F') (.tmp rfl rfl .nil) rfl (.sel (.cons .h .nil))
theorem g_slices_DeleteFunc_impl_Fact_impl_Fact_imatches1_ok (a_s : List Fact) (v0_0 : Sv) (F0_0 : List Nat) (kc1 : Nat) (a_e1 : Method) (vc1_1 : Sv) (kc2 : Nat) (a_e2 : Access) (vc2_1 : Sv) (R : List Fact) (hF : g_slices_DeleteFunc_impl_Fact_impl_Fact_imatches1 a_s a_e1 a_e2 = some R) :
   Fw.Spec Tryz.prog 147 [v0_0.v, (.func (.func 149) [].toArray [(.pointer (some ⟨kc1, 0, some 0⟩)), (.pointer (some ⟨kc2, 0, some 0⟩))].toArray)] [cown (OwnS 86 ow86) F0_0 v0_0.v a_s, cboR kc1 65 (.agg [(.int .i64 a_e1.Rel), vc1_1.v, (.int .i64 a_e1.Limit), (.int .i64 a_e1.Cost), (.int .i64 a_e1.Quota)].toArray), crd (RdS 3 rdInt) vc1_1.v a_e1.Inputs, cboR kc2 130 (.agg [(.int .i64 a_e2.Method), vc2_1.v].toArray), crd (RdS 3 rdInt) vc2_1.v a_e2.Values] (fun p : Sv × List Nat => p.1.v) (fun p => [cown (OwnS 86 ow86) p.2 p.1.v R]) := by
 unfold g_slices_DeleteFunc_impl_Fact_impl_Fact_imatches1 at hF
 obtain ⟨h1, h2⟩ := delL_some hF
 refine Spec_pure cown_bound (fun hb => ?_)
 refine Spec_deep (R := rd86) rfl (fun es F1 hel => ⟨(es.zip a_s).filter (fun a => !(i_matches_1 a.2 a_e1 a_e2).getD false), List.filter_sublist, by rw [h2]; exact zip_filter (fun a => (i_matches_1 a a_e1 a_e2).getD false) es a_s hel, ?_⟩)
 refine g_slices_DeleteFunc_impl_Fact_impl_Fact_imatches1_sh (es.zip a_s) v0_0 F1 kc1 a_e1 vc1_1 kc2 a_e2 vc2_1 (fun a => (i_matches_1 a.2 a_e1 a_e2).getD false) (fun q hq => h1 q.2 (List.of_mem_zip hq).2) ?_ (by simp; omega)
 rw [List.map_snd_zip (Nat.le_of_eq hel.symm), ← ixF_map Prod.snd (fun a => (i_matches_1 a a_e1 a_e2).getD false), List.map_snd_zip (Nat.le_of_eq hel.symm)]
 exact index_loop (L := g_slices_IndexFunc_impl_Fact_impl_Fact_imatches1_L1 a_e1 a_e2) (fun _ => rfl) (fun _ _ _ => rfl) a_s 0 h1
def i_matches (a_l : List Method) (a_facts : List Fact) (a_a : Access) : Option ((List Fact)) :=
 (ix a_l a_a.Method).bind fun x2 =>
 (i_copyFacts a_facts).bind fun r13 =>
 (g_slices_DeleteFunc_impl_Fact_impl_Fact_imatches1 r13 x2 a_a).bind fun r16 =>
 some r16
theorem i_matches_ok (a_l : List Method) (v0_0 : Sv) (a_facts : List Fact) (v1_0 : Sv) (a_a : Access) (v2_1 : Sv) (R : (List Fact)) (hF : i_matches a_l a_facts a_a = some R) :
   Fw.Spec Tryz.prog 105 [v0_0.v, v1_0.v, (.agg [(.int .i64 a_a.Method), v2_1.v].toArray)] [crd (RdS 65 rd65) v0_0.v a_l, crd (RdS 86 rd86) v1_0.v a_facts, crd (RdS 3 rdInt) v2_1.v a_a.Values] (fun p : Sv × List Nat => p.1.v) (fun p => [cown (OwnS 86 ow86) p.2 p.1.v R]) := by
 refine Se 17 Tryz.func105 [.tmp 6] ?_
 intro H0 F0
 unfold i_matches at hF
 refine au ?_
 refine AbR (fun k1 => ?_)
 iterate 6 refine au ?_
 refine bnd hF fun x2 hx3 hF => ?_
 obtain ⟨hp4, hx5⟩ := ix_some hx3
 refine Ai hx5 (fun k6 j7 => ?_)
 refine AlA1 (ul65_0_65 x2) la65_0_65 (fun p8 => ?_)
 refine AnW (fun k9 => ?_)
 refine As (.agg [(.int .i64 x2.Rel), p8.v, (.int .i64 x2.Limit), (.int .i64 x2.Cost), (.int .i64 x2.Quota)].toArray) ?_
 refine au ?_
 refine K_frz .h frz_blk ?_
 iterate 2 refine au ?_
 refine bnd hF fun r13 hx14 hF => Cx1 (i_copyFacts_ok _ _ _ hx14) (fun p15 => ?_)
 refine C_val (V_makeFunc (fn := .func 149) (vs := []) (us := [(pz k9), (pz k1)]) .nil (.cons (.tmp rfl rfl) (.cons (.tmp rfl rfl) .nil))) ?_
 refine bnd hF fun r16 hx17 hF => Cx1 (g_slices_DeleteFunc_impl_Fact_impl_Fact_imatches1_ok _ _ _ _ _ _ _ _ _ _ hx17) (fun p18 => ?_)
 iterate 3 refine au ?_
 cases hF
 exact Er (p18.1, p18.2)
def i_bit (a_is : Bool) : Option (Int) :=
 if a_is then (
   some 1)
 else (
   some 0)
theorem i_bit_ok (a_is : Bool) (R : Int) (hF : i_bit a_is = some R) :
   Fw.Spec Tryz.prog 106 [(.bool a_is)] [] (fun _ : Unit => (.int .i64 R)) (fun _ => []) := by
 refine Se 4 Tryz.func106 [.tmp 2] ?_
 intro H0 F0
 unfold i_bit at hF
 iterate 7 refine au ?_
 refine Ci hF (fun hb1 hF => ?_) (fun hb1 hF => ?_)
 · iterate 4 refine au ?_
   cases hF
   exact Er ()
 iterate 5 refine au ?_
 cases hF
 exact Er ()
def i_Reached_told_L4 (z255 : List Access) : List Fact → Nat → (List Fact) → (List Int) → Option ((List Fact) × (List Int) × (List Access))
 | [], k315, c306, c309 => some (c306, c309, z255)
 | x317 :: rest316, k315, c306, c309 => (i_added c306 x317).bind fun r328 =>
   (i_withValues c309 x317.Values).bind fun r331 =>
   i_Reached_told_L4 z255 rest316 (k315 + 1) r328 r331
def i_Reached_told_L1 (a_r : Reached) (a_l : List Method) (a_facts : List Fact) (r1 : (List Access) × Reached) : List Access → Nat → (List Fact) → (List Int) → (List Access) → Option (Bool × Reached)
 | [], k236, c224, c227, c230 => (i_bit (decide ((0 : Int) < (r1.1.length : Int)))).bind fun r245 =>
   some ((decide ((0 : Int) < (r1.1.length : Int))), ({ Facts := c224, Values := c227, Log := c230, Rounds := (IntKind.i64.wrap (a_r.Rounds + r245)) } : Reached))
 | x238 :: rest237, k236, c224, c227, c230 => ((app c230 ([x238] : List Access)).bind fun z255 =>
     (i_matches a_l a_facts x238).bind fun r258 =>
     i_Reached_told_L4 z255 r258 0 c224 c227).bind fun o248 =>
   match o248 with
   | (c335, c338, c341) => i_Reached_told_L1 a_r a_l a_facts r1 rest237 (k236 + 1) c335 c338 c341
def i_Reached_told (a_r : Reached) (a_l : List Method) (a_facts : List Fact) : Option (Bool × Reached) :=
 (i_Reached_open a_r a_l).bind fun r1 =>
 i_Reached_told_L1 a_r a_l a_facts r1 r1.1 0 r1.2.Facts r1.2.Values r1.2.Log
theorem i_Reached_told_ok (kq0 : Nat) (a_r : Reached) (v0_0 : Sv) (F0_0 : List Nat) (v0_1 : Sv) (F0_1 : List Nat) (v0_2 : Sv) (F0_2 : List Nat) (a_l : List Method) (v1_0 : Sv) (a_facts : List Fact) (v2_0 : Sv) (R : Bool × Reached) (hF : i_Reached_told a_r a_l a_facts = some R) :
   Fw.Spec Tryz.prog 65 [(.pointer (some ⟨kq0, 0, some 0⟩)), v1_0.v, v2_0.v] [cbox kq0 61 (.agg [v0_0.v, v0_1.v, v0_2.v, (.int .i64 a_r.Rounds)].toArray), cown (OwnS 86 ow86) F0_0 v0_0.v a_r.Facts, cown (OwnS 3 (roE rdInt)) F0_1 v0_1.v a_r.Values, cown (OwnS 130 (roE rd130)) F0_2 v0_2.v a_r.Log, crd (RdS 65 rd65) v1_0.v a_l, crd (RdS 86 rd86) v2_0.v a_facts] (fun _ : Sv × List Nat × Sv × List Nat × Sv × List Nat => (.bool R.1)) (fun p => [cbox kq0 61 (.agg [p.1.v, p.2.2.1.v, p.2.2.2.2.1.v, (.int .i64 R.2.Rounds)].toArray), cown (OwnS 86 ow86) p.2.1 p.1.v R.2.Facts, cown (OwnS 3 (roE rdInt)) p.2.2.2.1 p.2.2.1.v R.2.Values, cown (OwnS 130 (roE rd130)) p.2.2.2.2.2 p.2.2.2.2.1.v R.2.Log]) := by
 refine Spec_enter (n := 77) Tryz.func65 rfl rfl (rs := [.tmp 6]) rfl rfl rfl ?_
 intro H0 F0
 unfold i_Reached_told at hF
 refine K_region (C_val (V_assign (v := (.bool false)) (.bool _)) ?_)
 refine C_nil (K_region (Cm (.pointer (some ⟨kq0, 0, some 0⟩)) rfl rfl ?_))
 refine C_val (V_nilCheck (v := (.pointer (some ⟨kq0, 0, some 0⟩))) rfl (.tmp rfl rfl)) ?_
 refine C_at .h (fun hp => V_loadBox ag61.h ty61.h.sz rfl (.tmp rfl rfl) hp.2 rfl) ?_
 refine Cm v1_0.v rfl rfl ?_
 obtain ⟨r1, hx2, hF⟩ := bind_some hF
 refine C_x4 (.cons (.t .h) (.cons (.t .h) (.cons (.t .h) (.rd (.t .h) rfl .nil)))) (X_callS cf104.h (.cons (.tmp rfl rfl) (.cons (.tmp rfl rfl) .nil)) (i_Reached_open_ok a_r v0_0 F0_0 v0_1 F0_1 v0_2 F0_2 a_l v1_0 _ hx2)) (fun p3 => ?_)
 refine Ca p3.1.v rfl rfl ?_
 refine C_nil (K_in (K_region (Cm p3.1.v rfl rfl ?_)))
 refine C_at .h (fun hp => V_lenR (l := r1.1.length) sl59.h (.tmp rfl rfl) (cown_len hp)) ?_
 refine C_val (V_move (v := (.int .i64 0)) (.int _ _)) ?_
 refine C_nil (CW_block (K_frz .h frz_own ?_))
 refine CW_loop (m := r1.1.length) (fun m234 f' cs' => ∃ (g : Fr) (k236 : Nat) (rest237 : List Access) (c224 : List Fact) (c227 : List Int) (c230 : List Access) (v225 : Sv) (F226 : List Nat) (v228 : Sv) (F229 : List Nat) (v231 : Sv) (F232 : List Nat), m234 = rest237.length ∧ f' = updL g [(0, (.pointer (some ⟨kq0, 0, some 0⟩))), (1, v1_0.v), (2, v2_0.v), (7, p3.1.v), (17, p3.1.v), (18, (.int .i64 (r1.1.length : Int))), (19, (.int .i64 (k236 : Int)))] ∧ List.drop k236 r1.1 = rest237 ∧ Ent cs' [cbox kq0 61 (.agg [v225.v, v228.v, v231.v, (.int .i64 a_r.Rounds)].toArray), cown (OwnS 86 ow86) F226 v225.v c224, cown (OwnS 3 (roE rdInt)) F229 v228.v c227, cown (OwnS 130 (roE rd130)) F232 v231.v c230, crd (RdS 65 rd65) v1_0.v a_l, crd (RdS 86 rd86) v2_0.v a_facts, crd (RdS 130 rd130) p3.1.v r1.1] ∧ i_Reached_told_L1 a_r a_l a_facts r1 rest237 k236 c224 c227 c230 = some R) ⟨_, 0, _, _, _, _, v0_0, p3.2.2.1, v0_1, p3.2.2.2.1, v0_2, p3.2.2.2.2, rfl, (EqL.cons rfl (EqL.cons rfl (EqL.cons rfl (EqL.cons rfl (EqL.cons rfl (EqL.cons rfl (EqL.cons rfl (EqL.nil)))))))).eq, rfl, (.sel (.cons (.t (.t (.t (.t .h)))) (.cons (.t .h) (.cons (.t .h) (.cons (.t .h) (.rd (.t .h) rfl (.rd (.t (.t .h)) rfl (.rd .h rfl .nil)))))))), hF⟩ ?_
 clear hF
 rintro m234 _ _ ⟨g235, k236, rest237, c224, c227, c230, v225, F226, v228, F229, v231, F232, rfl, rfl, hd239, hE, hF⟩
 refine K_ent hE ?_
 clear hE
 refine K_pure (c := crd (RdS 130 rd130) p3.1.v r1.1) (.t (.t (.t (.t (.t (.t .h)))))) crd_bound (fun hbd244 => ?_)
 rcases rest237 with _ | ⟨x238, rest237⟩
 · have hk240 := List.drop_eq_nil_iff.1 hd239
   have hfe243 : (decide (((k236 : Int) : Int) < (r1.1.length : Int))) = false := decide_eq_false (by omega)
   rw [i_Reached_told_L1] at hF
   refine K_region (C_val (V_lss (i := (k236 : Int)) (j := (r1.1.length : Int)) (.tmp rfl rfl) (.tmp rfl rfl)) ?_)
   refine C_nil (K_in (CW_cond (b := (decide (((k236 : Int) : Int) < (r1.1.length : Int)))) (.tmp rfl rfl) (fun hb => absurd (hfe243.symm.trans hb) (by decide)) (fun _ => ?_)))
   refine CW_exit ?_
   iterate 2 refine CThen_exit ?_
   refine CIn_self (K_draw [0, 1, 2, 3, 4, 5, 6, 7, 8, 9, 10, 11] [0, 1, 3, 7, 0, 16, 48, 112, 255, 511, 1023, 2047] [7, 11] mixed (by decide +kernel) ?_)
   refine Dm (.pointer (some ⟨kq0, 0, some 0⟩)) rfl rfl rfl rfl ?_
   refine D_val rfl .no (fun ha => V_nilCheck (v := (.pointer (some ⟨kq0, 0, some 0⟩))) rfl (EN ha (.tmp rfl rfl) rfl)) ?_
   refine D_val rfl .no (fun ha => V_fieldAddr (off := 3) fd61_3.h (EN ha (.tmp rfl rfl) rfl)) ?_
   refine D_atO rfl .no .h (fun ha hp => V_load (v := (.int .i64 a_r.Rounds)) ag3.h (EN ha (.tmp rfl rfl) rfl) hp.2 rfl rfl) ?_
   refine Dm p3.1.v rfl rfl rfl rfl ?_
   refine D_at rfl .no (.t (.t (.t (.t (.t (.t .h)))))) rfl (fun ha hp => V_lenR (l := r1.1.length) sl59.h (EN ha (.tmp rfl rfl) rfl) (crd_len hp)) ?_
   refine D_val rfl .no (fun ha => V_gtr (i := (r1.1.length : Int)) (j := 0) (EN ha (.tmp rfl rfl) rfl) (EN ha (.int _ _) rfl)) ?_
   obtain ⟨r245, hx246, hF⟩ := bind_some hF
   refine D_act0 rfl rfl .no .nil (.own .h (fun _ h => h) .nil) (fun ha => X_callS cf106.h (.cons (EN ha (.tmp rfl rfl) rfl) .nil) (i_bit_ok (decide ((0 : Int) < (r1.1.length : Int))) _ hx246)) (fun _ => ?_)
   refine D_val rfl .no (fun ha => V_add (i := a_r.Rounds) (j := r245) (EN ha (.tmp rfl rfl) rfl) (EN ha (.tmp rfl rfl) rfl)) ?_
   refine D_val rfl .no (fun ha => V_nilCheck (v := (.pointer (some ⟨kq0, 0, some 0⟩))) rfl (EN ha (.tmp rfl rfl) rfl)) ?_
   refine D_val rfl .no (fun ha => V_fieldAddr (off := 3) fd61_3.h (EN ha (.tmp rfl rfl) rfl)) ?_
   refine D_act1 rfl rfl .no (.cons .h .nil) (.dep rfl .nil) (fun ha => X_storeB (e' := (.agg [v225.v, v228.v, v231.v, (.int .i64 (IntKind.i64.wrap (a_r.Rounds + r245)))].toArray)) (v := (.int .i64 (IntKind.i64.wrap (a_r.Rounds + r245)))) ty3.h.sz (EN ha (.tmp rfl rfl) rfl) (EN ha (.tmp rfl rfl) rfl) rfl rfl rfl rfl rfl) (fun _ => ?_)
   refine D_nil (K_region (Cm p3.1.v rfl rfl ?_))
   refine C_at (.t (.t (.t (.t (.t (.t .h)))))) (fun hp => V_lenR (l := r1.1.length) sl59.h (.tmp rfl rfl) (crd_len hp)) ?_
   refine C_val (V_gtr (i := (r1.1.length : Int)) (j := 0) (.tmp rfl rfl) (.int _ _)) ?_
   refine Ca (.bool (decide ((0 : Int) < (r1.1.length : Int)))) rfl rfl ?_
   refine C_nil (CW_ret ?_)
   obtain rfl := Option.some.inj hF
   exact End_ret (v225, F226, v228, F229, v231, F232) (.tmp rfl rfl .nil) rfl (.sel (.cons .h (.cons .h (.cons .h (.cons .h .nil)))))
 obtain ⟨hk240, hx241, hd242⟩ := drop_cons hd239
 have hfe243 : (decide (((k236 : Int) : Int) < (r1.1.length : Int))) = true := decide_eq_true (by omega)
 rw [i_Reached_told_L1] at hF
 refine K_region (C_val (V_lss (i := (k236 : Int)) (j := (r1.1.length : Int)) (.tmp rfl rfl) (.tmp rfl rfl)) ?_)
 refine C_nil (K_in (CW_cond (b := (decide (((k236 : Int) : Int) < (r1.1.length : Int)))) (.tmp rfl rfl) (fun _ => ?_) (fun hb => absurd (hfe243.symm.trans hb) (by decide))))
 refine CW_skip ?_
 obtain ⟨o248, hio248, hO249⟩ := bind_some hF
 refine K_cut (fun f' cs' => ∃ (c335 : List Fact) (c338 : List Int) (c341 : List Access) (v336 : Sv) (F337 : List Nat) (v339 : Sv) (F340 : List Nat) (v342 : Sv) (F343 : List Nat) (g : Fr), o248 = (c335, c338, c341) ∧ f' = updL g [(0, (.pointer (some ⟨kq0, 0, some 0⟩))), (1, v1_0.v), (2, v2_0.v), (7, p3.1.v), (17, p3.1.v), (18, (.int .i64 (r1.1.length : Int))), (19, (.int .i64 (k236 : Int)))] ∧ Ent cs' [cbox kq0 61 (.agg [v336.v, v339.v, v342.v, (.int .i64 a_r.Rounds)].toArray), cown (OwnS 86 ow86) F337 v336.v c335, cown (OwnS 3 (roE rdInt)) F340 v339.v c338, cown (OwnS 130 (roE rd130)) F343 v342.v c341, crd (RdS 65 rd65) v1_0.v a_l, crd (RdS 86 rd86) v2_0.v a_facts, crd (RdS 130 rd130) p3.1.v r1.1]) ?_ ?_
 · replace hF := hio248
   refine CW_block (K_region (C_idx (a := x238) sl59.h ty130.h.sz (.tmp rfl rfl) (.tmp rfl rfl) (.t (.t (.t (.t (.t (.t .h)))))) (Int.natCast_nonneg k236) hx241 (fun k250 j251 => ?_)))
   refine C_ldA1 (ul130_0_130 x238) ag130.h ty130.h.sz rfl (.tmp rfl rfl) .h la130_0_130 (fun p252 => ?_)
   refine C_new rfl (N_allocT (g := true) ty130.h rfl rfl) (fun k253 => ?_)
   refine C_x1 (.cons .h .nil) (X_storeB (e' := (.agg [(.int .i64 x238.Method), p252.v].toArray)) (v := (.agg [(.int .i64 x238.Method), p252.v].toArray)) ty130.h.sz (.tmp rfl rfl) (.tmp rfl rfl) rfl rfl rfl rfl rfl) (fun _ => ?_)
   refine C_nil (K_draw [0, 1, 2, 3, 4, 5, 6, 7, 8, 9, 10] [0, 0, 2, 6, 14, 0, 32, 126, 255, 511, 1023] [7, 10] mixed (by decide +kernel) ?_)
   iterate 2 refine Dm (.pointer (some ⟨kq0, 0, some 0⟩)) rfl rfl rfl rfl ?_
   refine D_val rfl .no (fun ha => V_nilCheck (v := (.pointer (some ⟨kq0, 0, some 0⟩))) rfl (EN ha (.tmp rfl rfl) rfl)) ?_
   refine D_val rfl .no (fun ha => V_fieldAddr (off := 2) fd61_2.h (EN ha (.tmp rfl rfl) rfl)) ?_
   refine D_atO rfl .no (.t (.t (.t .h))) (fun ha hp => V_load (v := v231.v) ag59.h (EN ha (.tmp rfl rfl) rfl) hp.2 rfl rfl) ?_
   refine D_atO rfl .no .h (fun ha hp => V_loadBox ag130.h ty130.h.sz rfl (EN ha (.tmp rfl rfl) rfl) hp.2 rfl) ?_
   refine D_new rfl .no rfl (fun ha => N_buildSliceT (g := true) (len := 1) (parts := [(0, .tmp 28)]) sl59.h ty130.h (.cons (EN ha (.tmp rfl rfl) rfl) .nil) (vs := [(.agg [(.int .i64 x238.Method), p252.v].toArray)]) rfl rfl rfl (by intro v hv; simp at hv; rcases hv with rfl <;> rfl)) (fun k254 => ?_)
   refine D_conv (.cons .h (.rd (.t .h) rfl .nil)) (own_lit (Ro := (roE rd130)) (E := 130) (F := ([] ++ [])) (xs := ([x238] : List Access)) (MkL_cons mr130 MkL_nil apps) rfl rfl) apps ?_
   obtain ⟨z255, hx256, hF⟩ := bind_some hF
   refine D_act1 rfl rfl .no (.cons (.t (.t (.t (.t (.t (.t (.t .h))))))) (.cons .h .nil)) (.dep rfl (.dep rfl (.dep rfl .nil))) (fun ha => X_appendO (Ro := (roE rd130)) sl59.h ni59 ty130.h rfl rfl rfl (EN ha (.tmp rfl rfl) rfl) (EN ha (.tmp rfl rfl) rfl) hx256 src_own) (fun p257 => ?_)
   refine D_val rfl .no (fun ha => V_nilCheck (v := (.pointer (some ⟨kq0, 0, some 0⟩))) rfl (EN ha (.tmp rfl rfl) rfl)) ?_
   refine D_val rfl .no (fun ha => V_fieldAddr (off := 2) fd61_2.h (EN ha (.tmp rfl rfl) rfl)) ?_
   refine D_act1 rfl rfl .no (.cons (.t (.t (.t (.t .h)))) .nil) (.dep rfl (.dep rfl (.dep rfl .nil))) (fun ha => X_storeB (e' := (.agg [v225.v, v228.v, p257.1.v, (.int .i64 a_r.Rounds)].toArray)) ty59.h.sz (EN ha (.tmp rfl rfl) rfl) (EN ha (.tmp rfl rfl) rfl) rfl rfl rfl rfl rfl) (fun _ => ?_)
   refine D_nil (K_region (Cm v1_0.v rfl rfl ?_))
   refine Cm v2_0.v rfl rfl ?_
   refine C_at (.t (.t .h)) (fun hp => V_loadBox ag130.h ty130.h.sz rfl (.tmp rfl rfl) hp.2 rfl) ?_
   obtain ⟨r258, hx259, hF⟩ := bind_some hF
   refine C_x1 (.rd (.t (.t (.t (.t (.t (.t (.t .h))))))) rfl (.rd (.t (.t (.t (.t (.t (.t (.t (.t .h)))))))) rfl (.rd (.t (.t (.t .h))) rfl .nil))) (X_callS cf105.h (.cons (.tmp rfl rfl) (.cons (.tmp rfl rfl) (.cons (.tmp rfl rfl) .nil))) (i_matches_ok a_l v1_0 a_facts v2_0 x238 p252 _ hx259)) (fun p260 => ?_)
   refine C_at .h (fun hp => V_lenR (l := r258.length) sl29.h (.tmp rfl rfl) (cown_len hp)) ?_
   refine C_val (V_move (v := (.int .i64 0)) (.int _ _)) ?_
   refine C_nil (CW_block (K_frz .h frz_own ?_))
   refine CW_loop (m := r258.length) (fun m313 f' cs' => ∃ (g : Fr) (k315 : Nat) (rest316 : List Fact) (c306 : List Fact) (c309 : List Int) (v307 : Sv) (F308 : List Nat) (v310 : Sv) (F311 : List Nat), m313 = rest316.length ∧ f' = updL g [(0, (.pointer (some ⟨kq0, 0, some 0⟩))), (1, v1_0.v), (2, v2_0.v), (7, p3.1.v), (17, p3.1.v), (18, (.int .i64 (r1.1.length : Int))), (19, (.int .i64 (k236 : Int))), (36, p260.1.v), (37, (.int .i64 (r258.length : Int))), (38, (.int .i64 (k315 : Int)))] ∧ List.drop k315 r258 = rest316 ∧ Ent cs' [cbox kq0 61 (.agg [v307.v, v310.v, p257.1.v, (.int .i64 a_r.Rounds)].toArray), cown (OwnS 86 ow86) F308 v307.v c306, cown (OwnS 3 (roE rdInt)) F311 v310.v c309, cown (OwnS 130 (roE rd130)) p257.2 p257.1.v z255, crd (RdS 65 rd65) v1_0.v a_l, crd (RdS 86 rd86) v2_0.v a_facts, crd (RdS 130 rd130) p3.1.v r1.1, crd (RdS 86 rd86) p260.1.v r258] ∧ i_Reached_told_L4 z255 rest316 k315 c306 c309 = some o248) ⟨_, 0, _, _, _, v225, F226, v228, F229, rfl, (EqL.cons rfl (EqL.cons rfl (EqL.cons rfl (EqL.cons rfl (EqL.cons rfl (EqL.cons rfl (EqL.cons rfl (EqL.cons rfl (EqL.cons rfl (EqL.cons rfl (EqL.nil))))))))))).eq, rfl, (.sel (.cons (.t .h) (.cons (.t (.t (.t (.t (.t .h))))) (.cons (.t (.t (.t (.t (.t .h))))) (.cons (.t .h) (.rd (.t (.t (.t (.t .h)))) rfl (.rd (.t (.t (.t (.t (.t .h))))) rfl (.rd (.t (.t (.t (.t (.t (.t .h)))))) rfl (.rd .h rfl .nil))))))))), hF⟩ ?_
   clear hF
   rintro m313 _ _ ⟨g314, k315, rest316, c306, c309, v307, F308, v310, F311, rfl, rfl, hd318, hE, hF⟩
   refine K_ent hE ?_
   clear hE
   refine K_pure (c := crd (RdS 86 rd86) p260.1.v r258) (.t (.t (.t (.t (.t (.t (.t .h))))))) crd_bound (fun hbd323 => ?_)
   rcases rest316 with _ | ⟨x317, rest316⟩
   · have hk319 := List.drop_eq_nil_iff.1 hd318
     have hfe322 : (decide (((k315 : Int) : Int) < (r258.length : Int))) = false := decide_eq_false (by omega)
     rw [i_Reached_told_L4] at hF
     refine K_region (C_val (V_lss (i := (k315 : Int)) (j := (r258.length : Int)) (.tmp rfl rfl) (.tmp rfl rfl)) ?_)
     refine C_nil (K_in (CW_cond (b := (decide (((k315 : Int) : Int) < (r258.length : Int)))) (.tmp rfl rfl) (fun hb => absurd (hfe322.symm.trans hb) (by decide)) (fun _ => ?_)))
     refine CW_exit ?_
     iterate 2 refine CThen_exit ?_
     refine CIn_self ?_
     obtain rfl := Option.some.inj hF
     exact ⟨_, _, _, v307, F308, v310, F311, p257.1, p257.2, _, rfl, (EqL.cons rfl (EqL.cons rfl (EqL.cons rfl (EqL.cons rfl (EqL.cons rfl (EqL.cons rfl (EqL.cons rfl (EqL.nil)))))))).eq, (.sel (.cons .h (.cons .h (.cons .h (.cons .h (.rd .h rfl (.rd (.t .h) rfl (.rd (.t (.t .h)) rfl .nil))))))))⟩
   obtain ⟨hk319, hx320, hd321⟩ := drop_cons hd318
   have hfe322 : (decide (((k315 : Int) : Int) < (r258.length : Int))) = true := decide_eq_true (by omega)
   rw [i_Reached_told_L4] at hF
   refine K_region (C_val (V_lss (i := (k315 : Int)) (j := (r258.length : Int)) (.tmp rfl rfl) (.tmp rfl rfl)) ?_)
   refine C_nil (K_in (CW_cond (b := (decide (((k315 : Int) : Int) < (r258.length : Int)))) (.tmp rfl rfl) (fun _ => ?_) (fun hb => absurd (hfe322.symm.trans hb) (by decide))))
   refine CW_skip (K_block (K_region (C_idx (a := x317) sl29.h ty86.h.sz (.tmp rfl rfl) (.tmp rfl rfl) (.t (.t (.t (.t (.t (.t (.t .h))))))) (Int.natCast_nonneg k315) hx320 (fun k324 j325 => ?_))))
   refine C_ldA1 (ul86_0_86 x317) ag86.h ty86.h.sz rfl (.tmp rfl rfl) .h la86_0_86 (fun p326 => ?_)
   refine C_new rfl (N_allocT (g := true) ty86.h rfl rfl) (fun k327 => ?_)
   refine C_x1 (.cons .h .nil) (X_storeB (e' := (.agg [(.int .i64 x317.Rel), p326.v].toArray)) (v := (.agg [(.int .i64 x317.Rel), p326.v].toArray)) ty86.h.sz (.tmp rfl rfl) (.tmp rfl rfl) rfl rfl rfl rfl rfl) (fun _ => ?_)
   refine C_nil (K_draw [0, 1, 2, 3, 4, 5, 6, 7, 8, 9] [0, 0, 2, 6, 14, 0, 62, 127, 255, 511] [6, 9] mixed (by decide +kernel) ?_)
   iterate 2 refine Dm (.pointer (some ⟨kq0, 0, some 0⟩)) rfl rfl rfl rfl ?_
   refine D_val rfl .no (fun ha => V_nilCheck (v := (.pointer (some ⟨kq0, 0, some 0⟩))) rfl (EN ha (.tmp rfl rfl) rfl)) ?_
   refine D_val rfl .no (fun ha => V_fieldAddr (off := 0) fd61_0.h (EN ha (.tmp rfl rfl) rfl)) ?_
   refine D_atO rfl .no (.t (.t (.t .h))) (fun ha hp => V_load (v := v307.v) ag29.h (EN ha (.tmp rfl rfl) rfl) hp.2 rfl rfl) ?_
   refine D_atO rfl .no .h (fun ha hp => V_loadBox ag86.h ty86.h.sz rfl (EN ha (.tmp rfl rfl) rfl) hp.2 rfl) ?_
   obtain ⟨r328, hx329, hF⟩ := bind_some hF
   refine D_act1 rfl rfl .no (.cons (.t (.t (.t (.t .h)))) (.rd (.t .h) rfl .nil)) (.dep rfl (.dep rfl .nil)) (fun ha => X_callS cf101.h (.cons (EN ha (.tmp rfl rfl) rfl) (.cons (EN ha (.tmp rfl rfl) rfl) .nil)) (i_added_ok c306 v307 F308 x317 p326 _ hx329)) (fun p330 => ?_)
   refine D_val rfl .no (fun ha => V_nilCheck (v := (.pointer (some ⟨kq0, 0, some 0⟩))) rfl (EN ha (.tmp rfl rfl) rfl)) ?_
   refine D_val rfl .no (fun ha => V_fieldAddr (off := 0) fd61_0.h (EN ha (.tmp rfl rfl) rfl)) ?_
   refine D_act1 rfl rfl .no (.cons (.t (.t (.t (.t .h)))) .nil) (.dep rfl (.dep rfl .nil)) (fun ha => X_storeB (e' := (.agg [p330.1.v, v310.v, p257.1.v, (.int .i64 a_r.Rounds)].toArray)) ty29.h.sz (EN ha (.tmp rfl rfl) rfl) (EN ha (.tmp rfl rfl) rfl) rfl rfl rfl rfl rfl) (fun _ => ?_)
   refine D_nil (CW_draw [0, 1, 2, 3, 4, 5, 6, 7, 8, 9, 10] [0, 0, 2, 6, 14, 0, 32, 126, 255, 511, 1023] [7, 10] mixed (by decide +kernel) ?_)
   iterate 2 refine Dm (.pointer (some ⟨kq0, 0, some 0⟩)) rfl rfl rfl rfl ?_
   refine D_val rfl .no (fun ha => V_nilCheck (v := (.pointer (some ⟨kq0, 0, some 0⟩))) rfl (EN ha (.tmp rfl rfl) rfl)) ?_
   refine D_val rfl .no (fun ha => V_fieldAddr (off := 1) fd61_1.h (EN ha (.tmp rfl rfl) rfl)) ?_
   refine D_atO rfl .no .h (fun ha hp => V_load (v := v310.v) ag22.h (EN ha (.tmp rfl rfl) rfl) hp.2 rfl rfl) ?_
   refine D_val rfl .no (fun ha => V_fieldAddr (off := 1) fd86_1.h (EN ha (.tmp rfl rfl) rfl)) ?_
   refine D_atO rfl .no (.t (.t .h)) (fun ha hp => V_load (v := p326.v) ag22.h (EN ha (.tmp rfl rfl) rfl) hp.2 rfl rfl) ?_
   obtain ⟨r331, hx332, hF⟩ := bind_some hF
   refine D_act2 rfl rfl .no (.cons (.t (.t (.t (.t (.t .h))))) (.rd (.t (.t (.t .h))) rfl .nil)) (.dep rfl (.dep rfl .nil)) (fun ha => XC_bor frz_own (fun _ => (.cons .nil)) (X_callS cf103.h (.cons (EN ha (.tmp rfl rfl) rfl) (.cons (EN ha (.tmp rfl rfl) rfl) .nil)) (i_withValues_ok c309 v310 x317.Values p326 _ hx332))) (fun p333 => ?_)
   refine D_val rfl .no (fun ha => V_nilCheck (v := (.pointer (some ⟨kq0, 0, some 0⟩))) rfl (EN ha (.tmp rfl rfl) rfl)) ?_
   refine D_val rfl .no (fun ha => V_fieldAddr (off := 1) fd61_1.h (EN ha (.tmp rfl rfl) rfl)) ?_
   refine D_act1 rfl rfl .no (.cons (.t (.t .h)) .nil) (.dep rfl (.dep rfl .nil)) (fun ha => X_storeB (e' := (.agg [p330.1.v, p333.1.v, p257.1.v, (.int .i64 a_r.Rounds)].toArray)) ty22.h.sz (EN ha (.tmp rfl rfl) rfl) (EN ha (.tmp rfl rfl) rfl) rfl rfl rfl rfl rfl) (fun _ => ?_)
   refine D_nil (CW_region (C_val (V_add (i := (k315 : Int)) (j := 1) (.tmp rfl rfl) (.int _ _)) ?_))
   refine Cm (.int .i64 (IntKind.i64.wrap ((k315 : Int) + 1))) rfl rfl ?_
   refine C_nil ?_
   have hw334 : IntKind.i64.wrap ((k315 : Int) + 1) = ((k315 + 1 : Nat) : Int) := by rw [wrap_in (by omega) (by omega)]; rfl
   rw [hw334]
   exact ⟨_, Nat.lt_succ_self _, _, k315 + 1, rest316, _, _, p330.1, p330.2, p333.1, p333.2, rfl, (EqL.cons rfl (EqL.cons rfl (EqL.cons rfl (EqL.cons rfl (EqL.cons rfl (EqL.cons rfl (EqL.cons rfl (EqL.cons rfl (EqL.cons rfl (EqL.cons rfl (EqL.nil))))))))))).eq, hd321, (.sel (.cons .h (.cons (.t (.t .h)) (.cons (.t .h) (.cons (.t (.t (.t (.t .h)))) (.rd (.t (.t (.t (.t .h)))) rfl (.rd (.t (.t (.t (.t (.t .h))))) rfl (.rd (.t (.t (.t (.t (.t (.t .h)))))) rfl (.rd (.t (.t (.t (.t (.t (.t (.t .h))))))) rfl .nil))))))))), hF⟩
 rintro _ _ ⟨c335, c338, c341, v336, F337, v339, F340, v342, F343, g345, rfl, rfl, hE⟩
 replace hF := hO249
 clear hO249
 try dsimp only at hF
 refine K_ent hE ?_
 refine CW_region (C_val (V_add (i := (k236 : Int)) (j := 1) (.tmp rfl rfl) (.int _ _)) ?_)
 refine Cm (.int .i64 (IntKind.i64.wrap ((k236 : Int) + 1))) rfl rfl ?_
 refine C_nil ?_
 have hw344 : IntKind.i64.wrap ((k236 : Int) + 1) = ((k236 + 1 : Nat) : Int) := by rw [wrap_in (by omega) (by omega)]; rfl
 rw [hw344]
 exact ⟨_, Nat.lt_succ_self _, _, k236 + 1, rest237, _, _, _, v336, F337, v339, F340, v342, F343, rfl, (EqL.cons rfl (EqL.cons rfl (EqL.cons rfl (EqL.cons rfl (EqL.cons rfl (EqL.cons rfl (EqL.cons rfl (EqL.nil)))))))).eq, hd242, (.sel (.cons .h (.cons .h (.cons .h (.cons .h (.rd .h rfl (.rd (.t .h) rfl (.rd (.t (.t .h)) rfl .nil)))))))), hF⟩
def i_reach_L1 (a_l : List Method) (a_facts : List Fact) : Nat → (List Fact) → (List Int) → (List Access) → Int → Int → Option (Reached)
 | 0, _, _, _, _, _ => none
 | m51 + 1, c40, c43, c46, c49, c50 => if (decide ((c50 : Int) < 40)) then (
     (i_Reached_told ({ Facts := c40, Values := c43, Log := c46, Rounds := c49 } : Reached) a_l a_facts).bind fun r59 =>
     if (!r59.1) then (
       some r59.2)
     else (
       i_reach_L1 a_l a_facts m51 r59.2.Facts r59.2.Values r59.2.Log r59.2.Rounds (IntKind.i64.wrap (c50 + 1))))
   else (
     some ({ Facts := c40, Values := c43, Log := c46, Rounds := c49 } : Reached))
def i_reach (a_l : List Method) (a_facts : List Fact) (a_seeds : List Int) : Option (Reached) :=
 (i_StartReach a_seeds).bind fun r2 =>
 i_reach_L1 a_l a_facts (((40 : Int) - 0).toNat + 2) r2.Facts r2.Values r2.Log r2.Rounds 0
theorem i_reach_ok (a_l : List Method) (v0_0 : Sv) (a_facts : List Fact) (v1_0 : Sv) (a_seeds : List Int) (v2_0 : Sv) (R : Reached) (hF : i_reach a_l a_facts a_seeds = some R) :
   Fw.Spec Tryz.prog 34 [v0_0.v, v1_0.v, v2_0.v] [crd (RdS 65 rd65) v0_0.v a_l, crd (RdS 86 rd86) v1_0.v a_facts, crd (RdS 3 rdInt) v2_0.v a_seeds] (fun p : Sv × List Nat × Sv × List Nat × Sv × List Nat => (.agg [p.1.v, p.2.2.1.v, p.2.2.2.2.1.v, (.int .i64 R.Rounds)].toArray)) (fun p => [cown (OwnS 86 ow86) p.2.1 p.1.v R.Facts, cown (OwnS 3 (roE rdInt)) p.2.2.2.1 p.2.2.1.v R.Values, cown (OwnS 130 (roE rd130)) p.2.2.2.2.2 p.2.2.2.2.1.v R.Log]) := by
 refine Se 18 Tryz.func34 [.cell 6 61] ?_
 intro H0 F0
 unfold i_reach at hF
 refine au ?_
 refine AnW (fun k1 => ?_)
 iterate 3 refine au ?_
 refine bnd hF fun r2 hx3 hF => Cx3 (i_StartReach_ok _ _ _ hx3) (fun p4 => ?_)
 refine AnW (fun k5 => ?_)
 refine As (.agg [p4.1.v, p4.2.2.1.v, p4.2.2.2.2.1.v, (.int .i64 r2.Rounds)].toArray) ?_
 iterate 5 refine au ?_
 refine CW_block (CW_loop (m := (((40 : Int) - 0).toNat + 2)) (fun m51 f' cs' => ∃ (g : Fr) (c40 : List Fact) (c43 : List Int) (c46 : List Access) (c49 : Int) (c50 : Int) (v41 : Sv) (F42 : List Nat) (v44 : Sv) (F45 : List Nat) (v47 : Sv) (F48 : List Nat), f' = updL g [(0, v0_0.v), (1, v1_0.v), (6, (pz k1)), (7, (pz k5)), (10, (.int .i64 c50))] ∧ Ent cs' [crd (RdS 65 rd65) v0_0.v a_l, crd (RdS 86 rd86) v1_0.v a_facts, cbox k1 61 (.agg [(.slice none 0 0), (.slice none 0 0), (.slice none 0 0), (.int .i64 0)].toArray), cbox k5 61 (.agg [v41.v, v44.v, v47.v, (.int .i64 c49)].toArray), cown (OwnS 86 ow86) F42 v41.v c40, cown (OwnS 3 (roE rdInt)) F45 v44.v c43, cown (OwnS 130 (roE rd130)) F48 v47.v c46] ∧ i_reach_L1 a_l a_facts m51 c40 c43 c46 c49 c50 = some R) ⟨_, _, _, _, _, _, p4.1, p4.2.1, p4.2.2.1, p4.2.2.2.1, p4.2.2.2.2.1, (p4.2.2.2.2.2.take 1), eqA, (.half (.t (.t (.t .h))) entA), hF⟩ ?_)
 rintro m51 _ _ ⟨g52, c40, c43, c46, c49, c50, v41, F42, v44, F45, v47, F48, rfl, hE, hF⟩
 refine K_ent hE ?_
 rcases m51 with _ | m51
 · rw [i_reach_L1] at hF
   exact absurd hF (by simp)
 rw [i_reach_L1] at hF
 iterate 4 refine au ?_
 refine Ci hF (fun hb63 hF => ?_) (fun hb63 hF => ?_)
 · iterate 5 refine au ?_
   refine bnd hF fun r59 hx60 hF => Cx4 (i_Reached_told_ok _ _ _ _ _ _ _ _ _ _ _ _ _ hx60) (fun p61 => ?_)
   iterate 2 refine au ?_
   refine Ci hF (fun hb62 hF => ?_) (fun hb62 hF => ?_)
   · refine au ?_
     refine CIn_ne rfl ?_
     iterate 5 refine au ?_
     refine As (.agg [p61.1.v, p61.2.2.1.v, p61.2.2.2.2.1.v, (.int .i64 r59.2.Rounds)].toArray) ?_
     iterate 2 refine au ?_
     cases hF
     exact Er (p61.1, p61.2.1, p61.2.2.1, p61.2.2.2.1, p61.2.2.2.2.1, p61.2.2.2.2.2)
   iterate 5 refine au ?_
   exact ⟨m51, Nat.lt_succ_self _, _, _, _, _, _, _, p61.1, p61.2.1, p61.2.2.1, p61.2.2.2.1, p61.2.2.2.2.1, p61.2.2.2.2.2, eqA, entA, hF⟩
 iterate 6 refine au ?_
 refine As (.agg [v41.v, v44.v, v47.v, (.int .i64 c49)].toArray) ?_
 iterate 2 refine au ?_
 cases hF
 exact Er (v41, F42, v44, F45, v47, F48)
def i_CertificateFor (fuel : Nat) (a_s : List Int) (a_l : List Method) (a_q : Query) : Option (Certificate × Bool) :=
 ((i_areAsked a_s a_l a_q).bind fun r5 =>
   bif (!r5) then (some true)
   else ((i_IsFeasible fuel a_s a_l a_q).bind fun r9 =>
     some r9)).bind fun o3 =>
 match o3 with
 | c12 => if c12 then (
     some (({ All := [], Some := [], Tuple := [] } : Certificate), false))
   else (
     (i_FreezeQuery fuel a_q).bind fun r13 =>
     if (!r13.2.2) then (
       some (({ All := [], Some := [], Tuple := [] } : Certificate), false))
     else (
       (i_ConstantsOf a_q).bind fun r17 =>
       (i_reach a_l r13.1 r17).bind fun r20 =>
       (i_TupleOf a_q r13.2.1).bind fun r23 =>
       some (({ All := r13.1, Some := r20.Facts, Tuple := r23 } : Certificate), true)))
theorem i_CertificateFor_ok (fuel : Nat) (a_s : List Int) (v0_0 : Sv) (a_l : List Method) (v1_0 : Sv) (a_q : Query) (v2_0 : Sv) (v2_1 : Sv) (R : Certificate × Bool) (hF : i_CertificateFor fuel a_s a_l a_q = some R) :
   Fw.Spec Tryz.prog 10 [v0_0.v, v1_0.v, (.agg [v2_0.v, v2_1.v].toArray)] [crd (RdS 3 rdInt) v0_0.v a_s, crd (RdS 65 rd65) v1_0.v a_l, crd (RdS 3 rdInt) v2_0.v a_q.Head, crd (RdS 84 rd84) v2_1.v a_q.Atoms] (fun p : Sv × List Nat × Sv × List Nat × Sv × List Nat => (.tuple [(.agg [p.1.v, p.2.2.1.v, p.2.2.2.2.1.v].toArray), (.bool R.2)].toArray)) (fun p => [cown (OwnS 86 ow86) p.2.1 p.1.v R.1.All, cown (OwnS 86 ow86) p.2.2.2.1 p.2.2.1.v R.1.Some, cown (OwnS 3 (roE rdInt)) p.2.2.2.2.2 p.2.2.2.2.1.v R.1.Tuple]) := by
 refine Se 43 Tryz.func10 [.cell 6 31, .tmp 7] ?_
 intro H0 F0
 unfold i_CertificateFor at hF
 refine au ?_
 refine AbR (fun k1 => ?_)
 refine AnW (fun k2 => ?_)
 iterate 3 refine au ?_
 obtain ⟨o3, hio3, hO4⟩ := bind_some hF
 refine au ?_
 refine C_cut (fun f' cs' => ∃ (c12 : Bool) (g : Fr), c12 = o3 ∧ f' = updL g [(1, v1_0.v), (5, (pz k1)), (6, (pz k2)), (21, (.bool c12))] ∧ Ent cs' [crd (RdS 65 rd65) v1_0.v a_l, cboR k1 39 (.agg [v2_0.v, v2_1.v].toArray), crd (RdS 3 rdInt) v2_0.v a_q.Head, crd (RdS 84 rd84) v2_1.v a_q.Atoms, cbox k2 31 (.agg [(.slice none 0 0), (.slice none 0 0), (.slice none 0 0)].toArray)]) ?_ ?_
 · replace hF := hio3
   iterate 3 refine au ?_
   refine bnd hF fun r5 hx6 hF => Cx0 (i_areAsked_ok _ _ _ _ _ _ _ _ hx6) (fun _ => ?_)
   iterate 2 refine au ?_
   rcases Bool.eq_false_or_eq_true (!r5) with hg8 | hg8
   · rw [hg8]
     try rw [hg8] at hF; dsimp only [cond_true, cond_false] at hF
     iterate 6 refine au ?_
     cases hF
     exact ⟨_, _, rfl, eqA, entA⟩
   rw [hg8]
   try rw [hg8] at hF; dsimp only [cond_true, cond_false] at hF
   iterate 7 refine au ?_
   refine bnd hF fun r9 hx10 hF => Cx0 (i_IsFeasible_ok _ _ _ _ _ _ _ _ _ hx10) (fun _ => ?_)
   iterate 2 refine au ?_
   cases hF
   exact ⟨_, _, rfl, eqA, entA⟩
 rintro _ _ ⟨c12, g28, rfl, rfl, hE⟩
 replace hF := hO4
 try dsimp only at hF
 refine K_ent hE ?_
 refine Ci hF (fun hb27 hF => ?_) (fun hb27 hF => ?_)
 · refine au ?_
   refine C_val (V_build ty31.h rfl (vs := []) .nil (cells := [(.slice none 0 0), (.slice none 0 0), (.slice none 0 0)]) rfl) ?_
   refine As (.agg [(.slice none 0 0), (.slice none 0 0), (.slice none 0 0)].toArray) ?_
   iterate 3 refine au ?_
   cases hF
   exact End_ret (⟨none, 0, 0⟩, [], ⟨none, 0, 0⟩, [], ⟨none, 0, 0⟩, []) (.cellA rfl rfl .h rfl ag31.h ty31.h.sz rfl rfl (.tmp rfl rfl .nil)) rfl (.conv .nil (own_nil (Ro := ow86) (E := 86)) (.cons .nil) (.conv .nil (own_nil (Ro := ow86) (E := 86)) (.cons .nil) (.conv .nil (own_nil (Ro := (roE rdInt)) (E := 3)) (.cons .nil) (.sel (.cons (.t (.t .h)) (.cons (.t .h) (.cons .h .nil)))))))
 iterate 3 refine au ?_
 refine bnd hF fun r13 hx14 hF => Cx3 (i_FreezeQuery_ok _ _ _ _ _ hx14) (fun p15 => ?_)
 refine au ?_
 refine C_val (V_extract (l := [p15.1.v, (.agg [p15.2.2.1.v, p15.2.2.2.2.1.v].toArray), (.bool r13.2.2)]) (v := p15.1.v) (.tmp rfl rfl) rfl) ?_
 refine C_val (V_extract (l := [p15.1.v, (.agg [p15.2.2.1.v, p15.2.2.2.2.1.v].toArray), (.bool r13.2.2)]) (v := (.agg [p15.2.2.1.v, p15.2.2.2.2.1.v].toArray)) (.tmp rfl rfl) rfl) ?_
 refine C_val (V_extract (l := [p15.1.v, (.agg [p15.2.2.1.v, p15.2.2.2.2.1.v].toArray), (.bool r13.2.2)]) (v := (.bool r13.2.2)) (.tmp rfl rfl) rfl) ?_
 refine AnW (fun k16 => ?_)
 refine au ?_
 refine As (.agg [p15.2.2.1.v, p15.2.2.2.2.1.v].toArray) ?_
 iterate 7 refine au ?_
 refine Ci hF (fun hb26 hF => ?_) (fun hb26 hF => ?_)
 · refine au ?_
   refine C_val (V_build ty31.h rfl (vs := []) .nil (cells := [(.slice none 0 0), (.slice none 0 0), (.slice none 0 0)]) rfl) ?_
   refine As (.agg [(.slice none 0 0), (.slice none 0 0), (.slice none 0 0)].toArray) ?_
   iterate 3 refine au ?_
   cases hF
   exact End_ret (⟨none, 0, 0⟩, [], ⟨none, 0, 0⟩, [], ⟨none, 0, 0⟩, []) (.cellA rfl rfl .h rfl ag31.h ty31.h.sz rfl rfl (.tmp rfl rfl .nil)) rfl (.conv .nil (own_nil (Ro := ow86) (E := 86)) (.cons .nil) (.conv .nil (own_nil (Ro := ow86) (E := 86)) (.cons .nil) (.conv .nil (own_nil (Ro := (roE rdInt)) (E := 3)) (.cons .nil) (.sel (.cons (.t (.t .h)) (.cons (.t .h) (.cons .h .nil)))))))
 refine au ?_
 refine K_draw [0, 1, 2, 3, 7, 8, 4, 5, 6, 9, 10, 11, 12] [0, 0, 0, 0, 8, 30, 62, 0, 0, 446, 1023, 2047, 4095] [4, 5, 9, 11] mixed (by decide +kernel) ?_
 iterate 5 refine du ?_
 refine D_atO rfl .no .h (fun ha hp => V_loadBox ag56.h ty56.h.sz rfl (EN ha (.tmp rfl rfl) rfl) hp.2 rfl) ?_
 refine bnd hF fun r17 hx18 hF => D_act1 rfl rfl .no (.rd (.t (.t (.t (.t (.t (.t .h)))))) rfl (.rd (.t (.t (.t (.t (.t (.t (.t .h))))))) rfl .nil)) (.own .h (fun _ h => h) .nil) (fun ha => X_callS cf35.h (.cons (EN ha (.tmp rfl rfl) rfl) .nil) (i_ConstantsOf_ok a_q v2_0 v2_1 _ hx18)) (fun p19 => ?_)
 refine bnd hF fun r20 hx21 hF => D_act4 rfl rfl .no (.cons .h (.cons (.t .h) (.rd (.t (.t (.t .h))) rfl .nil))) (.own .h (fun _ h => h) .nil) (fun ha => XC_borL (pre := _) (.cons frz_own (.cons frz_own .nil)) (fun _ => (.cons (.cons .nil))) (XC_pre (.rd (.t (.t .h)) rfl (.rd .h rfl (.rd (.t .h) rfl .nil))) (XC_ent (post' := fun p22 : Sv × List Nat × Sv × List Nat × Sv × List Nat => [cown (OwnS 86 ow86) p22.2.1 p22.1.v r20.Facts, cown (OwnS 3 (roE rdInt)) p22.2.2.2.1 p22.2.2.1.v r20.Values]) (fun p22 => entA) (X_callS cf34.h (.cons (EN ha (.tmp rfl rfl) rfl) (.cons (EN ha (.tmp rfl rfl) rfl) (.cons (EN ha (.tmp rfl rfl) rfl) .nil))) (i_reach_ok a_l v1_0 r13.1 p15.1 r17 p19.1 _ hx21))))) (fun p22 => ?_)
 refine D_val rfl .no (fun ha => V_field (v := p22.1.v) fdt61_0 ag29.h (EN ha (.tmp rfl rfl) rfl) rfl) ?_
 refine bnd hF fun r23 hx24 hF => D_act3 rfl rfl .no (.cons (.t (.t (.t (.t (.t (.t .h)))))) (.cons (.t (.t (.t (.t (.t .h))))) (.rd (.t (.t (.t (.t (.t (.t (.t .h))))))) rfl (.rd (.t (.t (.t (.t (.t (.t (.t (.t .h)))))))) rfl .nil)))) (.dep rfl .nil) (fun ha => XC_borL (pre := _) (.cons frz_own (.cons frz_own .nil)) (fun _ => (.cons .nil)) (XC_pre (.rd (.t (.t .h)) rfl (.rd (.t (.t (.t .h))) rfl (.rd .h rfl (.rd (.t .h) rfl .nil)))) (X_callS cf36.h (.cons (EN ha (.tmp rfl rfl) rfl) (.cons (EN ha (.tmp rfl rfl) rfl) .nil)) (i_TupleOf_ok a_q v2_0 v2_1 r13.2.1 p15.2.2.1 p15.2.2.2.2.1 _ hx24)))) (fun p25 => ?_)
 refine D_val rfl .no (fun ha => V_build ty31.h rfl (vs := [p15.1.v, p22.1.v, p25.1.v]) (.cons (EN ha (.tmp rfl rfl) rfl) (.cons (EN ha (.tmp rfl rfl) rfl) (.cons (EN ha (.tmp rfl rfl) rfl) .nil))) (cells := [p15.1.v, p22.1.v, p25.1.v]) rfl) ?_
 refine D_act1 rfl rfl .no (.cons (.t (.t (.t (.t (.t (.t (.t (.t (.t (.t (.t (.t .h)))))))))))) .nil) (.dep rfl .nil) (fun ha => X_storeB (e' := (.agg [p15.1.v, p22.1.v, p25.1.v].toArray)) (v := (.agg [p15.1.v, p22.1.v, p25.1.v].toArray)) ty31.h.sz (EN ha (.tmp rfl rfl) rfl) (EN ha (.tmp rfl rfl) rfl) rfl rfl rfl rfl rfl) (fun _ => ?_)
 iterate 2 refine du ?_
 refine au ?_
 cases hF
 exact End_ret (p15.1, p15.2.1, p22.1, p22.2.1, p25.1, p25.2) (.cellA rfl rfl .h rfl ag31.h ty31.h.sz rfl rfl (.tmp rfl rfl .nil)) rfl (.sel (.cons (.t (.t (.t (.t (.t .h))))) (.cons (.t (.t (.t (.t (.t .h))))) (.cons (.t (.t (.t .h))) .nil))))
def l_eqIntS_L1 (a_b : List Int) : List Int → Nat → Option (Bool)
 | [], k4 => some true
 | x6 :: rest5, k4 => (ix a_b (k4 : Int)).bind fun x15 =>
   if ((x6 : Int) != x15) then (
     some false)
   else (
     l_eqIntS_L1 a_b rest5 (k4 + 1))
def l_eqIntS (a_a : List Int) (a_b : List Int) : Option (Bool) :=
 if (((a_a.length : Int) : Int) != (a_b.length : Int)) then (
   some false)
 else (
   l_eqIntS_L1 a_b a_a 0)
theorem l_eqIntS_ok (a_a : List Int) (v0_0 : Sv) (a_b : List Int) (v1_0 : Sv) (R : Bool) (hF : l_eqIntS a_a a_b = some R) :
   Fw.Spec Tryz.prog 12 [v0_0.v, v1_0.v] [crd (RdS 3 rdInt) v0_0.v a_a, crd (RdS 3 rdInt) v1_0.v a_b] (fun _ : Unit => (.bool R)) (fun _ => []) := by
 refine Se 26 Tryz.func12 [.tmp 4] ?_
 intro H0 F0
 unfold l_eqIntS at hF
 iterate 11 refine au ?_
 refine Ci hF (fun hb23 hF => ?_) (fun hb23 hF => ?_)
 · iterate 4 refine au ?_
   cases hF
   exact Er ()
 iterate 5 refine au ?_
 refine CW_block (CW_loop (m := a_a.length) (fun m2 f' cs' => ∃ (g : Fr) (k4 : Nat) (rest5 : List Int), m2 = rest5.length ∧ f' = updL g [(0, v0_0.v), (1, v1_0.v), (5, (.int .i64 (k4 : Int)))] ∧ List.drop k4 a_a = rest5 ∧ Ent cs' [crd (RdS 3 rdInt) v0_0.v a_a, crd (RdS 3 rdInt) v1_0.v a_b] ∧ l_eqIntS_L1 a_b rest5 k4 = some R) ⟨_, 0, _, rfl, eqA, rfl, entA, hF⟩ ?_)
 rintro m2 _ _ ⟨g3, k4, rest5, rfl, rfl, hd7, hE, hF⟩
 refine Kb hE a_a (fun hbd12 => ?_)
 rcases rest5 with _ | ⟨x6, rest5⟩
 · have hk8 := dn hd7
   rw [l_eqIntS_L1] at hF
   iterate 7 refine au ?_
   refine CdF ?_
   iterate 8 refine au ?_
   cases hF
   exact Er ()
 obtain ⟨hk8, hx9, hd10⟩ := drop_cons hd7
 rw [l_eqIntS_L1] at hF
 iterate 7 refine au ?_
 refine CdT ?_
 iterate 2 refine au ?_
 refine K_draw [0, 1, 2, 3, 4, 5, 6, 7, 8] [0, 0, 3, 7, 0, 0, 48, 112, 255] [] mixed (by decide +kernel) ?_
 iterate 2 refine du ?_
 refine Di hx9 (fun k13 j14 => ?_)
 refine Dl ls3_0 ?_
 iterate 2 refine du ?_
 refine bnd hF fun x15 hx16 hF => ?_
 obtain ⟨hp17, hx18⟩ := ix_some hx16
 refine Di hx18 (fun k19 j20 => ?_)
 refine Dl ls3_0 ?_
 iterate 2 refine du ?_
 refine Ci hF (fun hb22 hF => ?_) (fun hb22 hF => ?_)
 · iterate 4 refine au ?_
   cases hF
   exact Er ()
 iterate 6 refine au ?_
 rw [wk k4]
 exact ⟨_, Nat.lt_succ_self _, _, k4 + 1, rest5, rfl, eqA, hd10, entA, hF⟩
def l_eqFact (a_a : Fact) (a_b : Fact) : Option (Bool) :=
 if ((a_a.Rel : Int) != a_b.Rel) then (
   some false)
 else (
   (l_eqIntS a_a.Values a_b.Values).bind fun r3 =>
   if (!r3) then (
     some false)
   else (
     some true))
theorem l_eqFact_ok (a_a : Fact) (v0_1 : Sv) (a_b : Fact) (v1_1 : Sv) (R : Bool) (hF : l_eqFact a_a a_b = some R) :
   Fw.Spec Tryz.prog 69 [(.agg [(.int .i64 a_a.Rel), v0_1.v].toArray), (.agg [(.int .i64 a_b.Rel), v1_1.v].toArray)] [crd (RdS 3 rdInt) v0_1.v a_a.Values, crd (RdS 3 rdInt) v1_1.v a_b.Values] (fun _ : Unit => (.bool R)) (fun _ => []) := by
 refine Se 16 Tryz.func69 [.tmp 4] ?_
 intro H0 F0
 unfold l_eqFact at hF
 refine au ?_
 refine AbR (fun k1 => ?_)
 refine AbR (fun k2 => ?_)
 iterate 10 refine au ?_
 refine Ci hF (fun hb7 hF => ?_) (fun hb7 hF => ?_)
 · iterate 4 refine au ?_
   cases hF
   exact Er ()
 iterate 7 refine au ?_
 refine bnd hF fun r3 hx4 hF => Cx0 (l_eqIntS_ok _ _ _ _ _ hx4) (fun _ => ?_)
 iterate 2 refine au ?_
 refine Ci hF (fun hb6 hF => ?_) (fun hb6 hF => ?_)
 · iterate 4 refine au ?_
   cases hF
   exact Er ()
 iterate 5 refine au ?_
 cases hF
 exact Er ()
def l_eqFactS_L1 (a_b : List Fact) : List Fact → Nat → Option (Bool)
 | [], k4 => some true
 | x6 :: rest5, k4 => (ix a_b (k4 : Int)).bind fun x16 =>
   (l_eqFact x6 x16).bind fun r23 =>
   if (!r23) then (
     some false)
   else (
     l_eqFactS_L1 a_b rest5 (k4 + 1))
def l_eqFactS (a_a : List Fact) (a_b : List Fact) : Option (Bool) :=
 if (((a_a.length : Int) : Int) != (a_b.length : Int)) then (
   some false)
 else (
   l_eqFactS_L1 a_b a_a 0)
theorem l_eqFactS_ok (a_a : List Fact) (v0_0 : Sv) (a_b : List Fact) (v1_0 : Sv) (R : Bool) (hF : l_eqFactS a_a a_b = some R) :
   Fw.Spec Tryz.prog 37 [v0_0.v, v1_0.v] [crd (RdS 86 rd86) v0_0.v a_a, crd (RdS 86 rd86) v1_0.v a_b] (fun _ : Unit => (.bool R)) (fun _ => []) := by
 refine Se 27 Tryz.func37 [.tmp 4] ?_
 intro H0 F0
 unfold l_eqFactS at hF
 iterate 11 refine au ?_
 refine Ci hF (fun hb28 hF => ?_) (fun hb28 hF => ?_)
 · iterate 4 refine au ?_
   cases hF
   exact Er ()
 iterate 5 refine au ?_
 refine CW_block (CW_loop (m := a_a.length) (fun m2 f' cs' => ∃ (g : Fr) (k4 : Nat) (rest5 : List Fact), m2 = rest5.length ∧ f' = updL g [(0, v0_0.v), (1, v1_0.v), (5, (.int .i64 (k4 : Int)))] ∧ List.drop k4 a_a = rest5 ∧ Ent cs' [crd (RdS 86 rd86) v0_0.v a_a, crd (RdS 86 rd86) v1_0.v a_b] ∧ l_eqFactS_L1 a_b rest5 k4 = some R) ⟨_, 0, _, rfl, eqA, rfl, entA, hF⟩ ?_)
 rintro m2 _ _ ⟨g3, k4, rest5, rfl, rfl, hd7, hE, hF⟩
 refine Kb hE a_a (fun hbd12 => ?_)
 rcases rest5 with _ | ⟨x6, rest5⟩
 · have hk8 := dn hd7
   rw [l_eqFactS_L1] at hF
   iterate 7 refine au ?_
   refine CdF ?_
   iterate 8 refine au ?_
   cases hF
   exact Er ()
 obtain ⟨hk8, hx9, hd10⟩ := drop_cons hd7
 rw [l_eqFactS_L1] at hF
 iterate 7 refine au ?_
 refine CdT ?_
 iterate 2 refine au ?_
 refine K_draw [0, 1, 2, 3, 4, 5, 6, 7, 8, 9] [0, 0, 3, 7, 0, 0, 48, 112, 255, 511] [8] mixed (by decide +kernel) ?_
 iterate 2 refine du ?_
 refine Di hx9 (fun k13 j14 => ?_)
 refine DlA1 (ul86_0_86 x6) la86_0_86 (fun p15 => ?_)
 iterate 2 refine du ?_
 refine bnd hF fun x16 hx17 hF => ?_
 obtain ⟨hp18, hx19⟩ := ix_some hx17
 refine Di hx19 (fun k20 j21 => ?_)
 refine DlA1 (ul86_0_86 x16) la86_0_86 (fun p22 => ?_)
 refine bnd hF fun r23 hx24 hF => Dx0 (l_eqFact_ok _ _ _ _ _ hx24) (fun _ => ?_)
 iterate 2 refine du ?_
 refine Ci hF (fun hb27 hF => ?_) (fun hb27 hF => ?_)
 · iterate 4 refine au ?_
   cases hF
   exact Er ()
 iterate 6 refine au ?_
 rw [wk k4]
 exact ⟨_, Nat.lt_succ_self _, _, k4 + 1, rest5, rfl, eqA, hd10, entA, hF⟩
end Go.Proofs.YtlfebfhfgfjceacGreat
