/-
  Functions of the program as Lean functions, and that the calls return what these say: part 3. No conditions.
-/
import Derived.Shelf.Sort.Plain
import Derived.Shelf.Slices.In.SortNone
import Derived.Shelf.Slices.CompactI
import Derived.Test.YtlfebfhfgfjceabGreatLostAnswersG1
import Derived.KernelRfl
set_option maxRecDepth 100000
set_option maxHeartbeats 1000000
set_option linter.unusedVariables false
namespace Go.Proofs.YtlfebfhfgfjceabGreat
open Go Go.Fw
def g_slices_Clone_int_int (a_s : List Int) : Option ((List Int)) :=
 (app ([] : List Int) a_s).bind fun z5 =>
 some z5
theorem g_slices_Clone_int_int_ok (a_s : List Int) (v0_0 : Sv) (R : (List Int)) (hF : g_slices_Clone_int_int a_s = some R) :
   Fw.Spec Tryz.prog 140 [v0_0.v] [crd (RdS 3 rdInt) v0_0.v a_s] (fun p : Sv × List Nat => p.1.v) (fun p => [cown (OwnS 3 (roE rdInt)) p.2 p.1.v R]) := by
 refine Spec_enter (n := 8) Tryz.func140 rfl rfl (rs := [.tmp 2]) rfl rfl rfl ?_
 intro H0 F0
 unfold g_slices_Clone_int_int at hF
 iterate 6 refine au ?_
 refine C_eqNil (xs := a_s) sl22.h (.tmp rfl rfl) .h crd_nilc (fun bn1 hn2 => ?_)
 refine au ?_
 refine Cc (fun hb3 => ?_) (fun hb3 => ?_)
 · have hnil := hn2 hb3
   replace hF : some [] = some R := by rw [hnil] at hF; simpa [app] using hF
   iterate 4 refine au ?_
   cases hF
   exact End_ret (⟨none, 0, 0⟩, []) (.tmp rfl rfl .nil) rfl (.conv .nil (own_nil (Ro := (roE rdInt)) (E := 3)) (.cons .nil) (.sel (.cons .h .nil)))
 iterate 2 refine au ?_
 refine C_new rfl (N_buildSliceT (g := true) sl22.h ty3.h .nil (vs := []) rfl rfl rfl (by simp)) (fun k4 => ?_)
 refine Cv1 (.cons .h .nil) (own_lit (Ro := (roE rdInt)) (E := 3) (F := []) (xs := ([] : List Int)) MkL_nil rfl rfl) ?_
 refine au ?_
 obtain ⟨z5, hx6, hF⟩ := bind_some hF
 refine C_x1 (.cons .h (.rd .h rfl .nil)) (X_appendO (Ro := (roE rdInt)) sl22.h ni22 ty3.h rfl rfl rfl (.tmp rfl rfl) (.tmp rfl rfl) hx6 src_rd) (fun p7 => ?_)
 iterate 3 refine au ?_
 cases hF
 exact Er (p7.1, p7.2)
def i_copyBinding (a_b : Binding) : Option (Binding) :=
 (g_slices_Clone_int_int a_b.Vars).bind fun r3 =>
 (g_slices_Clone_int_int a_b.Values).bind fun r6 =>
 some ({ Vars := r3, Values := r6 } : Binding)
theorem i_copyBinding_ok (a_b : Binding) (v0_0 : Sv) (v0_1 : Sv) (R : Binding) (hF : i_copyBinding a_b = some R) :
   Fw.Spec Tryz.prog 194 [(.agg [v0_0.v, v0_1.v].toArray)] [crd (RdS 3 rdInt) v0_0.v a_b.Vars, crd (RdS 3 rdInt) v0_1.v a_b.Values] (fun p : Sv × List Nat × Sv × List Nat => (.agg [p.1.v, p.2.2.1.v].toArray)) (fun p => [cown (OwnS 3 (roE rdInt)) p.2.1 p.1.v R.Vars, cown (OwnS 3 (roE rdInt)) p.2.2.2 p.2.2.1.v R.Values]) := by
 refine Spec_enter (n := 10) Tryz.func194 rfl rfl (rs := [.cell 2 126]) rfl rfl rfl ?_
 intro H0 F0
 unfold i_copyBinding at hF
 refine au ?_
 refine AbR (fun k1 => ?_)
 refine AnW (fun k2 => ?_)
 refine au ?_
 refine K_draw [0, 1, 3, 4, 2, 5, 6, 7] [0, 1, 3, 0, 8, 31, 63, 127] [2, 5, 7] mixed (by decide +kernel) ?_
 iterate 4 refine du ?_
 obtain ⟨r3, hx4, hF⟩ := bind_some hF
 refine Dx1 (g_slices_Clone_int_int_ok _ _ _ hx4) (fun p5 => ?_)
 obtain ⟨r6, hx7, hF⟩ := bind_some hF
 refine Dx1 (g_slices_Clone_int_int_ok _ _ _ hx7) (fun p8 => ?_)
 refine D_val rfl .no (fun ha => V_build ty126.h rfl (vs := [p5.1.v, p8.1.v]) (.cons (EN ha (.tmp rfl rfl) rfl) (.cons (EN ha (.tmp rfl rfl) rfl) .nil)) (cells := [p5.1.v, p8.1.v]) rfl) ?_
 refine D_act1 rfl rfl .no (.cons (.t (.t .h)) .nil) .nil (fun ha => X_storeB (e' := (.agg [p5.1.v, p8.1.v].toArray)) (v := (.agg [p5.1.v, p8.1.v].toArray)) ty126.h.sz (EN ha (.tmp rfl rfl) rfl) (EN ha (.tmp rfl rfl) rfl) rfl rfl rfl rfl rfl) (fun _ => ?_)
 refine du ?_
 refine au ?_
 cases hF
 exact Er (p5.1, p5.2, p8.1, p8.2)
def i_Binding_entry (a_b : Binding) (a_t : Int) : Option (Int) :=
 (chk (decide (0 ≤ (if (a_b.Values.length : Int) < (a_b.Vars.length : Int) then (a_b.Values.length : Int) else (a_b.Vars.length : Int))) && decide ((if (a_b.Values.length : Int) < (a_b.Vars.length : Int) then (a_b.Values.length : Int) else (a_b.Vars.length : Int)) ≤ (a_b.Vars.length : Int)))).bind fun u3 =>
 (g_slices_Index_int_int (a_b.Vars.take ((if (a_b.Values.length : Int) < (a_b.Vars.length : Int) then (a_b.Values.length : Int) else (a_b.Vars.length : Int))).toNat) a_t).bind fun r6 =>
 some r6
theorem i_Binding_entry_ok (a_b : Binding) (v0_0 : Sv) (v0_1 : Sv) (a_t : Int) (R : Int) (hF : i_Binding_entry a_b a_t = some R) :
   Fw.Spec Tryz.prog 193 [(.agg [v0_0.v, v0_1.v].toArray), (.int .i64 a_t)] [crd (RdS 3 rdInt) v0_0.v a_b.Vars, crd (RdS 3 rdInt) v0_1.v a_b.Values] (fun _ : Unit => (.int .i64 R)) (fun _ => []) := by
 refine Spec_enter (n := 17) Tryz.func193 rfl rfl (rs := [.tmp 4]) rfl rfl rfl ?_
 intro H0 F0
 unfold i_Binding_entry at hF
 refine au ?_
 refine AbR (fun k1 => ?_)
 iterate 11 refine au ?_
 refine C_val (V_min (i := (a_b.Vars.length : Int)) (j := (a_b.Values.length : Int)) (.tmp rfl rfl) (.tmp rfl rfl)) ?_
 obtain ⟨u3, hx5, hF⟩ := bind_some hF
 have hc2 := chk_some hx5
 simp only [Bool.and_eq_true, decide_eq_true_eq] at hc2
 refine C_sliceHiR sl22.h ty3.h.sz (.tmp rfl rfl) (.tmp rfl rfl) (.t .h) hc2.1 hc2.2 (fun w4 => ?_)
 refine au ?_
 obtain ⟨r6, hx7, hF⟩ := bind_some hF
 refine Cx0 (g_slices_Index_int_int_ok _ _ _ _ hx7) (fun _ => ?_)
 iterate 3 refine au ?_
 cases hF
 exact Er ()
def i_ValueOf (a_b : Binding) (a_term : Int) : Option (Int) :=
 (i_IsVar a_term).bind fun r2 =>
 if (!r2) then (
   some a_term)
 else (
   (i_Binding_entry a_b a_term).bind fun r5 =>
   if (decide ((r5 : Int) < 0)) then (
     some (-1))
   else (
     (ix a_b.Values r5).bind fun x8 =>
     some x8))
theorem i_ValueOf_ok (a_b : Binding) (v0_0 : Sv) (v0_1 : Sv) (a_term : Int) (R : Int) (hF : i_ValueOf a_b a_term = some R) :
   Fw.Spec Tryz.prog 160 [(.agg [v0_0.v, v0_1.v].toArray), (.int .i64 a_term)] [crd (RdS 3 rdInt) v0_0.v a_b.Vars, crd (RdS 3 rdInt) v0_1.v a_b.Values] (fun _ : Unit => (.int .i64 R)) (fun _ => []) := by
 refine Spec_enter (n := 20) Tryz.func160 rfl rfl (rs := [.tmp 4]) rfl rfl rfl ?_
 intro H0 F0
 unfold i_ValueOf at hF
 refine au ?_
 refine AbR (fun k1 => ?_)
 iterate 5 refine au ?_
 obtain ⟨r2, hx3, hF⟩ := bind_some hF
 refine Cx0 (i_IsVar_ok _ _ hx3) (fun _ => ?_)
 iterate 2 refine au ?_
 refine Cc (fun hb15 => ?_) (fun hb15 => ?_)
 · rw [if_pos hb15] at hF
   iterate 5 refine au ?_
   cases hF
   exact Er ()
 rw [if_neg (nt hb15)] at hF
 iterate 4 refine au ?_
 obtain ⟨r5, hx6, hF⟩ := bind_some hF
 refine Cx0 (i_Binding_entry_ok _ _ _ _ _ hx6) (fun _ => ?_)
 iterate 7 refine au ?_
 refine Cc (fun hb14 => ?_) (fun hb14 => ?_)
 · rw [if_pos hb14] at hF
   iterate 4 refine au ?_
   cases hF
   exact Er ()
 rw [if_neg (nt hb14)] at hF
 iterate 5 refine au ?_
 obtain ⟨x8, hx9, hF⟩ := bind_some hF
 obtain ⟨hp10, hx11⟩ := ix_some hx9
 refine Ai hx11 (fun k12 j13 => ?_)
 refine Al ls3_0 ?_
 iterate 3 refine au ?_
 cases hF
 exact Er ()
def i_MatchAtom_L1 (a_f : Fact) : List Int → Nat → (List Int) → (List Int) → Option (Binding × Bool)
 | [], k89, c80, c83 => some (({ Vars := c80, Values := c83 } : Binding), true)
 | x91 :: rest90, k89, c80, c83 => ((((i_IsVar x91).bind fun r104 =>
       bif r104 then ((i_Binding_entry ({ Vars := c80, Values := c83 } : Binding) x91).bind fun r108 =>
         some (decide ((r108 : Int) < 0)))
       else (some false)).bind fun o102 =>
     match o102 with
     | c111 => if c111 then (
         (ix a_f.Values (k89 : Int)).bind fun x113 =>
         (app c80 ([x91] : List Int)).bind fun z120 =>
         (app c83 ([x113] : List Int)).bind fun z123 =>
         (ix a_f.Values (k89 : Int)).bind fun x126 =>
         (i_ValueOf ({ Vars := z120, Values := z123 } : Binding) x91).bind fun r132 =>
         if ((r132 : Int) != x126) then (
           some (.inl (({ Vars := [], Values := [] } : Binding), false)))
         else (
           some (.inr (z120, z123))))
       else (
         (ix a_f.Values (k89 : Int)).bind fun x136 =>
         (i_ValueOf ({ Vars := c80, Values := c83 } : Binding) x91).bind fun r142 =>
         if ((r142 : Int) != x136) then (
           some (.inl (({ Vars := [], Values := [] } : Binding), false)))
         else (
           some (.inr (c80, c83))))) : Option (Sum (Binding × Bool) ((List Int) × (List Int)))).bind fun o98 =>
   match o98 with
   | .inl r => some r
   | .inr (c148, c151) => i_MatchAtom_L1 a_f rest90 (k89 + 1) c148 c151
def i_MatchAtom (a_b : Binding) (a_a : Atom) (a_f : Fact) : Option (Binding × Bool) :=
 if (((a_a.Rel : Int) != a_f.Rel) || ((((a_a.Terms.length : Int) : Int) != (a_f.Values.length : Int)) || (((a_b.Vars.length : Int) : Int) != (a_b.Values.length : Int)))) then (
   some (({ Vars := [], Values := [] } : Binding), false))
 else (
   (i_copyBinding a_b).bind fun r8 =>
   i_MatchAtom_L1 a_f a_a.Terms 0 r8.Vars r8.Values)
theorem i_MatchAtom_ok (a_b : Binding) (v0_0 : Sv) (v0_1 : Sv) (a_a : Atom) (v1_1 : Sv) (a_f : Fact) (v2_1 : Sv) (R : Binding × Bool) (hF : i_MatchAtom a_b a_a a_f = some R) :
   Fw.Spec Tryz.prog 161 [(.agg [v0_0.v, v0_1.v].toArray), (.agg [(.int .i64 a_a.Rel), v1_1.v].toArray), (.agg [(.int .i64 a_f.Rel), v2_1.v].toArray)] [crd (RdS 3 rdInt) v0_0.v a_b.Vars, crd (RdS 3 rdInt) v0_1.v a_b.Values, crd (RdS 3 rdInt) v1_1.v a_a.Terms, crd (RdS 3 rdInt) v2_1.v a_f.Values] (fun p : Sv × List Nat × Sv × List Nat => (.tuple [(.agg [p.1.v, p.2.2.1.v].toArray), (.bool R.2)].toArray)) (fun p => [cown (OwnS 3 (roE rdInt)) p.2.1 p.1.v R.1.Vars, cown (OwnS 3 (roE rdInt)) p.2.2.2 p.2.2.1.v R.1.Values]) := by
 refine Spec_enter (n := 81) Tryz.func161 rfl rfl (rs := [.cell 6 126, .tmp 7]) rfl rfl rfl ?_
 intro H0 F0
 unfold i_MatchAtom at hF
 refine au ?_
 refine AbR (fun k1 => ?_)
 refine AbR (fun k2 => ?_)
 refine AbR (fun k3 => ?_)
 refine AnW (fun k4 => ?_)
 iterate 4 refine au ?_
 refine C_cut (fun f' cs' => ∃ (g : Fr), f' = updL g [(3, (.pointer (some ⟨k1, 0, some 0⟩))), (4, (.pointer (some ⟨k2, 0, some 0⟩))), (5, (.pointer (some ⟨k3, 0, some 0⟩))), (6, (.pointer (some ⟨k4, 0, some 0⟩))), (33, (.bool (((a_a.Rel : Int) != a_f.Rel) || ((((a_a.Terms.length : Int) : Int) != (a_f.Values.length : Int)) || (((a_b.Vars.length : Int) : Int) != (a_b.Values.length : Int))))))] ∧ Ent cs' [cboR k1 126 (.agg [v0_0.v, v0_1.v].toArray), crd (RdS 3 rdInt) v0_0.v a_b.Vars, crd (RdS 3 rdInt) v0_1.v a_b.Values, cboR k2 102 (.agg [(.int .i64 a_a.Rel), v1_1.v].toArray), crd (RdS 3 rdInt) v1_1.v a_a.Terms, cboR k3 80 (.agg [(.int .i64 a_f.Rel), v2_1.v].toArray), crd (RdS 3 rdInt) v2_1.v a_f.Values, cbox k4 126 (.agg [(.slice none 0 0), (.slice none 0 0)].toArray)]) ?_ ?_
 · iterate 6 refine au ?_
   rcases Bool.eq_false_or_eq_true ((a_a.Rel : Int) != a_f.Rel) with hg5 | hg5
   · rw [hg5]
     try rw [hg5] at hF; dsimp only [cond_true, cond_false] at hF
     iterate 18 refine au ?_
     exact ⟨_, eqA, entA⟩
   rw [hg5]
   try rw [hg5] at hF; dsimp only [cond_true, cond_false] at hF
   iterate 16 refine au ?_
   rcases Bool.eq_false_or_eq_true (((a_a.Terms.length : Int) : Int) != (a_f.Values.length : Int)) with hg6 | hg6
   · rw [hg6]
     try rw [hg6] at hF; dsimp only [cond_true, cond_false] at hF
     iterate 9 refine au ?_
     exact ⟨_, eqA, entA⟩
   rw [hg6]
   try rw [hg6] at hF; dsimp only [cond_true, cond_false] at hF
   iterate 16 refine au ?_
   exact ⟨_, eqA, entA⟩
 rintro _ _ ⟨g7, rfl, hE⟩
 refine K_ent hE ?_
 refine Cc (fun hb156 => ?_) (fun hb156 => ?_)
 · rw [if_pos hb156] at hF
   refine au ?_
   refine C_val (V_build ty126.h rfl (vs := []) .nil (cells := [(.slice none 0 0), (.slice none 0 0)]) rfl) ?_
   refine As (.agg [(.slice none 0 0), (.slice none 0 0)].toArray) ?_
   iterate 3 refine au ?_
   cases hF
   exact End_ret (⟨none, 0, 0⟩, [], ⟨none, 0, 0⟩, []) (.cellA rfl rfl .h rfl ag126.h ty126.h.sz rfl rfl (.tmp rfl rfl .nil)) rfl (.conv .nil (own_nil (Ro := (roE rdInt)) (E := 3)) (.cons .nil) (.conv .nil (own_nil (Ro := (roE rdInt)) (E := 3)) (.cons .nil) (.sel (.cons (.t .h) (.cons .h .nil)))))
 rw [if_neg (nt hb156)] at hF
 iterate 3 refine au ?_
 obtain ⟨r8, hx9, hF⟩ := bind_some hF
 refine Cx2 (i_copyBinding_ok _ _ _ _ hx9) (fun p10 => ?_)
 refine AnW (fun k11 => ?_)
 refine As (.agg [p10.1.v, p10.2.2.1.v].toArray) ?_
 iterate 8 refine au ?_
 refine CW_block (CW_loop (m := a_a.Terms.length) (fun m87 f' cs' => ∃ (g : Fr) (k89 : Nat) (rest90 : List Int) (c80 : List Int) (c83 : List Int) (v81 : Sv) (F82 : List Nat) (v84 : Sv) (F85 : List Nat), m87 = rest90.length ∧ f' = updL g [(5, (.pointer (some ⟨k3, 0, some 0⟩))), (6, (.pointer (some ⟨k4, 0, some 0⟩))), (8, (.pointer (some ⟨k11, 0, some 0⟩))), (38, v1_1.v), (39, (.int .i64 (a_a.Terms.length : Int))), (40, (.int .i64 (k89 : Int)))] ∧ List.drop k89 a_a.Terms = rest90 ∧ Ent cs' [cboR k3 80 (.agg [(.int .i64 a_f.Rel), v2_1.v].toArray), crd (RdS 3 rdInt) v2_1.v a_f.Values, cbox k4 126 (.agg [(.slice none 0 0), (.slice none 0 0)].toArray), cbox k11 126 (.agg [v81.v, v84.v].toArray), cown (OwnS 3 (roE rdInt)) F82 v81.v c80, cown (OwnS 3 (roE rdInt)) F85 v84.v c83, crd (RdS 3 rdInt) v1_1.v a_a.Terms] ∧ i_MatchAtom_L1 a_f rest90 k89 c80 c83 = some R) ⟨_, 0, _, _, _, p10.1, p10.2.1, p10.2.2.1, p10.2.2.2, rfl, eqA, rfl, entA, hF⟩ ?_)
 clear hF
 rintro m87 _ _ ⟨g88, k89, rest90, c80, c83, v81, F82, v84, F85, rfl, rfl, hd92, hE, hF⟩
 refine K_ent hE ?_
 clear hE
 refine K_pure (c := crd (RdS 3 rdInt) v1_1.v a_a.Terms) (.t (.t (.t (.t (.t (.t .h)))))) crd_bound (fun hbd97 => ?_)
 rcases rest90 with _ | ⟨x91, rest90⟩
 · have hk93 := List.drop_eq_nil_iff.1 hd92
   rw [i_MatchAtom_L1] at hF
   iterate 4 refine au ?_
   refine CdF ?_
   iterate 6 refine au ?_
   refine As (.agg [v81.v, v84.v].toArray) ?_
   iterate 3 refine au ?_
   cases hF
   exact End_ret (v81, F82, v84, F85) (.cellA rfl rfl .h rfl ag126.h ty126.h.sz rfl rfl (.tmp rfl rfl .nil)) rfl (.sel (.cons (.t (.t (.t (.t .h)))) (.cons (.t (.t (.t (.t .h)))) .nil)))
 obtain ⟨hk93, hx94, hd95⟩ := drop_cons hd92
 rw [i_MatchAtom_L1] at hF
 iterate 4 refine au ?_
 refine CdT ?_
 refine au ?_
 obtain ⟨o98, hio98, hO99⟩ := bind_some hF
 refine K_cut (fun f' cs' => ∃ (c148 : List Int) (c151 : List Int) (v149 : Sv) (F150 : List Nat) (v152 : Sv) (F153 : List Nat) (g : Fr), o98 = .inr (c148, c151) ∧ f' = updL g [(5, (.pointer (some ⟨k3, 0, some 0⟩))), (6, (.pointer (some ⟨k4, 0, some 0⟩))), (8, (.pointer (some ⟨k11, 0, some 0⟩))), (38, v1_1.v), (39, (.int .i64 (a_a.Terms.length : Int))), (40, (.int .i64 (k89 : Int)))] ∧ Ent cs' [cboR k3 80 (.agg [(.int .i64 a_f.Rel), v2_1.v].toArray), crd (RdS 3 rdInt) v2_1.v a_f.Values, cbox k4 126 (.agg [(.slice none 0 0), (.slice none 0 0)].toArray), cbox k11 126 (.agg [v149.v, v152.v].toArray), cown (OwnS 3 (roE rdInt)) F150 v149.v c148, cown (OwnS 3 (roE rdInt)) F153 v152.v c151, crd (RdS 3 rdInt) v1_1.v a_a.Terms]) ?_ ?_
 · replace hF := hio98
   refine CW_block (K_region (Cm (.int .i64 (k89 : Int)) rfl rfl ?_))
   refine Ai hx94 (fun k100 j101 => ?_)
   refine Al ls3_0 ?_
   iterate 4 refine au ?_
   obtain ⟨o102, hio102, hO103⟩ := bind_some hF
   refine au ?_
   refine C_cut (fun f' cs' => ∃ (c111 : Bool) (g : Fr), c111 = o102 ∧ f' = updL g [(5, (.pointer (some ⟨k3, 0, some 0⟩))), (6, (.pointer (some ⟨k4, 0, some 0⟩))), (8, (.pointer (some ⟨k11, 0, some 0⟩))), (9, (.int .i64 (k89 : Int))), (10, (.int .i64 x91)), (38, v1_1.v), (39, (.int .i64 (a_a.Terms.length : Int))), (40, (.int .i64 (k89 : Int))), (52, (.bool c111))] ∧ Ent cs' [cboR k3 80 (.agg [(.int .i64 a_f.Rel), v2_1.v].toArray), crd (RdS 3 rdInt) v2_1.v a_f.Values, cbox k4 126 (.agg [(.slice none 0 0), (.slice none 0 0)].toArray), cbox k11 126 (.agg [v81.v, v84.v].toArray), cown (OwnS 3 (roE rdInt)) F82 v81.v c80, cown (OwnS 3 (roE rdInt)) F85 v84.v c83, crd (RdS 3 rdInt) v1_1.v a_a.Terms]) ?_ ?_
   · replace hF := hio102
     refine au ?_
     obtain ⟨r104, hx105, hF⟩ := bind_some hF
     refine Cx0 (i_IsVar_ok _ _ hx105) (fun _ => ?_)
     refine au ?_
     rcases Bool.eq_false_or_eq_true r104 with hg107 | hg107
     · rw [hg107]
       try rw [hg107] at hF; dsimp only [cond_true, cond_false] at hF
       iterate 5 refine au ?_
       obtain ⟨r108, hx109, hF⟩ := bind_some hF
       refine C_x2 (.cons (.t (.t (.t (.t (.t (.t .h)))))) (.cons (.t (.t (.t (.t (.t .h))))) .nil)) (XC_borL (pre := []) (.cons frz_own (.cons frz_own .nil)) (fun _ => .nil) (X_callS cf193.h (.cons (.tmp rfl rfl) (.cons (.tmp rfl rfl) .nil)) (i_Binding_entry_ok ({ Vars := c80, Values := c83 } : Binding) v81 v84 x91 _ hx109))) (fun _ => ?_)
       iterate 4 refine au ?_
       cases hF
       exact ⟨_, _, rfl, eqA, entA⟩
     rw [hg107]
     try rw [hg107] at hF; dsimp only [cond_true, cond_false] at hF
     iterate 6 refine au ?_
     cases hF
     exact ⟨_, _, rfl, eqA, entA⟩
   rintro _ _ ⟨c111, g147, rfl, rfl, hE⟩
   replace hF := hO103
   clear hO103
   try dsimp only at hF
   refine K_ent hE ?_
   refine Cc (fun hb146 => ?_) (fun hb146 => ?_)
   · rw [if_pos hb146] at hF
     refine CW_draw [0, 1, 2, 3, 5, 6, 7, 8, 9, 10, 11, 12, 4, 14, 13, 15, 16, 17] [0, 1, 0, 4, 15, 0, 32, 0, 128, 0, 896, 1920, 3968, 8191, 127, 32767, 65535, 131071] [4, 13, 15, 17] mixed (by decide +kernel) ?_
     refine du ?_
     refine D_atO rfl .no (.t (.t (.t .h))) (fun ha hp => V_load (v := v81.v) ag22.h (EN ha (.tmp rfl rfl) rfl) hp.2 rfl rfl) ?_
     refine du ?_
     refine D_new rfl .no rfl (fun ha => N_buildSliceT (g := true) (len := 1) (parts := [(0, .tmp 55)]) sl22.h ty3.h (.cons (EN ha (.tmp rfl rfl) rfl) .nil) (vs := [(.int .i64 x91)]) rfl rfl rfl (by intro v hv; simp at hv; rcases hv with rfl <;> rfl)) (fun k112 => ?_)
     refine Dv1 (.cons .h .nil) (own_lit (Ro := (roE rdInt)) (E := 3) (F := ([] ++ [])) (xs := ([x91] : List Int)) (MkL_cons (Mk_pure (fun _ => rfl)) MkL_nil apps) rfl rfl) ?_
     refine du ?_
     refine D_atO rfl .no (.t (.t (.t (.t .h)))) (fun ha hp => V_load (v := v84.v) ag22.h (EN ha (.tmp rfl rfl) rfl) hp.2 rfl rfl) ?_
     iterate 3 refine du ?_
     obtain ⟨x113, hx114, hF⟩ := bind_some hF
     obtain ⟨hp115, hx116⟩ := ix_some hx114
     refine Di hx116 (fun k117 j118 => ?_)
     refine Dl ls3_0 ?_
     refine D_new rfl .no rfl (fun ha => N_buildSliceT (g := true) (len := 1) (parts := [(0, .tmp 64)]) sl22.h ty3.h (.cons (EN ha (.tmp rfl rfl) rfl) .nil) (vs := [(.int .i64 x113)]) rfl rfl rfl (by intro v hv; simp at hv; rcases hv with rfl <;> rfl)) (fun k119 => ?_)
     refine Dv1 (.cons .h .nil) (own_lit (Ro := (roE rdInt)) (E := 3) (F := ([] ++ [])) (xs := ([x113] : List Int)) (MkL_cons (Mk_pure (fun _ => rfl)) MkL_nil apps) rfl rfl) ?_
     obtain ⟨z120, hx121, hF⟩ := bind_some hF
     refine D_act1 rfl rfl .no (.cons (.t (.t (.t (.t (.t (.t (.t .h))))))) (.cons (.t (.t .h)) .nil)) (.own .h (by simp [cown]) (.own (.t (.t (.t (.t (.t .h))))) (fun _ h => h) (.dep rfl (.dep rfl .nil)))) (fun ha => X_appendO (Ro := (roE rdInt)) sl22.h ni22 ty3.h rfl rfl rfl (EN ha (.tmp rfl rfl) rfl) (EN ha (.tmp rfl rfl) rfl) hx121 src_own) (fun p122 => ?_)
     refine du ?_
     obtain ⟨z123, hx124, hF⟩ := bind_some hF
     refine D_act1 rfl rfl .no (.cons (.t (.t (.t (.t (.t (.t (.t .h))))))) (.cons (.t .h) .nil)) (.dep rfl (.dep rfl (.dep rfl (.dep rfl .nil)))) (fun ha => X_appendO (Ro := (roE rdInt)) sl22.h ni22 ty3.h rfl rfl rfl (EN ha (.tmp rfl rfl) rfl) (EN ha (.tmp rfl rfl) rfl) hx124 src_own) (fun p125 => ?_)
     refine D_act1 rfl rfl .no (.cons (.t (.t (.t (.t (.t (.t .h)))))) .nil) (.dep rfl (.dep rfl (.dep rfl (.dep rfl .nil)))) (fun ha => X_storeB (e' := (.agg [p122.1.v, v84.v].toArray)) ty22.h.sz (EN ha (.tmp rfl rfl) rfl) (EN ha (.tmp rfl rfl) rfl) rfl rfl rfl rfl rfl) (fun _ => ?_)
     refine du ?_
     refine D_act1 rfl rfl .no (.cons .h .nil) (.dep rfl (.dep rfl (.dep rfl (.dep rfl .nil)))) (fun ha => X_storeB (e' := (.agg [p122.1.v, p125.1.v].toArray)) ty22.h.sz (EN ha (.tmp rfl rfl) rfl) (EN ha (.tmp rfl rfl) rfl) rfl rfl rfl rfl rfl) (fun _ => ?_)
     refine du ?_
     refine K_draw [0, 1, 3, 4, 5, 6, 7, 2, 8] [0, 0, 3, 0, 8, 0, 56, 120, 255] [2] mixed (by decide +kernel) ?_
     refine D_atO rfl .no .h (fun ha hp => V_loadBox ag126.h ty126.h.sz rfl (EN ha (.tmp rfl rfl) rfl) hp.2 rfl) ?_
     iterate 4 refine du ?_
     obtain ⟨x126, hx127, hF⟩ := bind_some hF
     obtain ⟨hp128, hx129⟩ := ix_some hx127
     refine Di hx129 (fun k130 j131 => ?_)
     refine Dl ls3_0 ?_
     obtain ⟨r132, hx133, hF⟩ := bind_some hF
     refine D_act2 rfl rfl .no (.cons (.t (.t .h)) (.cons (.t (.t .h)) .nil)) (.dep rfl .nil) (fun ha => XC_borL (pre := []) (.cons frz_own (.cons frz_own .nil)) (fun _ => .nil) (X_callS cf160.h (.cons (EN ha (.tmp rfl rfl) rfl) (.cons (EN ha (.tmp rfl rfl) rfl) .nil)) (i_ValueOf_ok ({ Vars := z120, Values := z123 } : Binding) p122.1 p125.1 x91 _ hx133))) (fun _ => ?_)
     iterate 2 refine du ?_
     refine Cc (fun hb135 => ?_) (fun hb135 => ?_)
     · rw [if_pos hb135] at hF
       refine au ?_
       refine C_val (V_build ty126.h rfl (vs := []) .nil (cells := [(.slice none 0 0), (.slice none 0 0)]) rfl) ?_
       refine As (.agg [(.slice none 0 0), (.slice none 0 0)].toArray) ?_
       iterate 3 refine au ?_
       cases hF
       replace hF := hO99
       try dsimp only at hF
       cases hF
       exact End_ret (⟨none, 0, 0⟩, [], ⟨none, 0, 0⟩, []) (.cellA rfl rfl .h rfl ag126.h ty126.h.sz rfl rfl (.tmp rfl rfl .nil)) rfl (.conv .nil (own_nil (Ro := (roE rdInt)) (E := 3)) (.cons .nil) (.conv .nil (own_nil (Ro := (roE rdInt)) (E := 3)) (.cons .nil) (.sel (.cons (.t .h) (.cons .h .nil)))))
     rw [if_neg (nt hb135)] at hF
     refine au ?_
     cases hF
     exact ⟨_, _, p122.1, p122.2, p125.1, p125.2, _, rfl, eqA, entA⟩
   rw [if_neg (nt hb146)] at hF
   refine au ?_
   refine K_draw [0, 1, 3, 4, 5, 6, 7, 2, 8] [0, 0, 3, 0, 8, 0, 56, 120, 255] [2] mixed (by decide +kernel) ?_
   refine D_atO rfl .no (.t (.t (.t .h))) (fun ha hp => V_loadBox ag126.h ty126.h.sz rfl (EN ha (.tmp rfl rfl) rfl) hp.2 rfl) ?_
   iterate 4 refine du ?_
   obtain ⟨x136, hx137, hF⟩ := bind_some hF
   obtain ⟨hp138, hx139⟩ := ix_some hx137
   refine Di hx139 (fun k140 j141 => ?_)
   refine Dl ls3_0 ?_
   obtain ⟨r142, hx143, hF⟩ := bind_some hF
   refine D_act2 rfl rfl .no (.cons (.t (.t (.t (.t (.t (.t .h)))))) (.cons (.t (.t (.t (.t (.t .h))))) .nil)) (.dep rfl .nil) (fun ha => XC_borL (pre := []) (.cons frz_own (.cons frz_own .nil)) (fun _ => .nil) (X_callS cf160.h (.cons (EN ha (.tmp rfl rfl) rfl) (.cons (EN ha (.tmp rfl rfl) rfl) .nil)) (i_ValueOf_ok ({ Vars := c80, Values := c83 } : Binding) v81 v84 x91 _ hx143))) (fun _ => ?_)
   iterate 2 refine du ?_
   refine Cc (fun hb145 => ?_) (fun hb145 => ?_)
   · rw [if_pos hb145] at hF
     refine au ?_
     refine C_val (V_build ty126.h rfl (vs := []) .nil (cells := [(.slice none 0 0), (.slice none 0 0)]) rfl) ?_
     refine As (.agg [(.slice none 0 0), (.slice none 0 0)].toArray) ?_
     iterate 3 refine au ?_
     cases hF
     replace hF := hO99
     try dsimp only at hF
     cases hF
     exact End_ret (⟨none, 0, 0⟩, [], ⟨none, 0, 0⟩, []) (.cellA rfl rfl .h rfl ag126.h ty126.h.sz rfl rfl (.tmp rfl rfl .nil)) rfl (.conv .nil (own_nil (Ro := (roE rdInt)) (E := 3)) (.cons .nil) (.conv .nil (own_nil (Ro := (roE rdInt)) (E := 3)) (.cons .nil) (.sel (.cons (.t .h) (.cons .h .nil)))))
   rw [if_neg (nt hb145)] at hF
   refine au ?_
   cases hF
   exact ⟨_, _, v81, F82, v84, F85, _, rfl, eqA, entA⟩
 rintro _ _ ⟨c148, c151, v149, F150, v152, F153, g155, rfl, rfl, hE⟩
 replace hF := hO99
 clear hO99
 try dsimp only at hF
 refine K_ent hE ?_
 iterate 4 refine au ?_
 rw [wk k89]
 exact ⟨_, Nat.lt_succ_self _, _, k89 + 1, rest90, _, _, v149, F150, v152, F153, rfl, eqA, hd95, entA, hF⟩
def i_matchAll_L2 (a_a : Atom) (x11 : Binding) : List Fact → Nat → (List Binding) → Option ((List Binding))
 | [], k30, c24 => some c24
 | x32 :: rest31, k30, c24 => ((i_MatchAtom x11 a_a x32).bind fun r45 =>
     if r45.2 then (
       (app c24 ([r45.1] : List Binding)).bind fun z50 =>
       some z50)
     else (
       some c24)).bind fun o39 =>
   match o39 with
   | c54 => i_matchAll_L2 a_a x11 rest31 (k30 + 1) c54
def i_matchAll_L1 (a_a : Atom) (a_facts : List Fact) : List Binding → Nat → (List Binding) → Option ((List Binding))
 | [], k9, c3 => some c3
 | x11 :: rest10, k9, c3 => (i_matchAll_L2 a_a x11 a_facts 0 c3).bind fun o18 =>
   match o18 with
   | c59 => i_matchAll_L1 a_a a_facts rest10 (k9 + 1) c59
def i_matchAll (a_bindings : List Binding) (a_a : Atom) (a_facts : List Fact) : Option ((List Binding)) :=
 i_matchAll_L1 a_a a_facts a_bindings 0 ([] : List Binding)
theorem i_matchAll_ok (a_bindings : List Binding) (v0_0 : Sv) (a_a : Atom) (v1_1 : Sv) (a_facts : List Fact) (v2_0 : Sv) (R : (List Binding)) (hF : i_matchAll a_bindings a_a a_facts = some R) :
   Fw.Spec Tryz.prog 124 [v0_0.v, (.agg [(.int .i64 a_a.Rel), v1_1.v].toArray), v2_0.v] [crd (RdS 126 rd126) v0_0.v a_bindings, crd (RdS 3 rdInt) v1_1.v a_a.Terms, crd (RdS 80 rd80) v2_0.v a_facts] (fun p : Sv × List Nat => p.1.v) (fun p => [cown (OwnS 126 ow126) p.2 p.1.v R]) := by
 refine Spec_enter (n := 42) Tryz.func124 rfl rfl (rs := [.tmp 6]) rfl rfl rfl ?_
 intro H0 F0
 unfold i_matchAll at hF
 refine au ?_
 refine AbR (fun k1 => ?_)
 iterate 3 refine au ?_
 refine C_new rfl (N_buildSliceT (g := true) sl106.h ty126.h .nil (vs := []) rfl rfl rfl (by simp)) (fun k2 => ?_)
 refine Cv1 (.cons .h .nil) (own_lit (Ro := ow126) (E := 126) (F := []) (xs := ([] : List Binding)) MkL_nil rfl rfl) ?_
 iterate 8 refine au ?_
 refine CW_block (CW_loop (m := a_bindings.length) (fun m7 f' cs' => ∃ (g : Fr) (k9 : Nat) (rest10 : List Binding) (c3 : List Binding) (v4 : Sv) (F5 : List Nat), m7 = rest10.length ∧ f' = updL g [(2, v2_0.v), (4, (.pointer (some ⟨k1, 0, some 0⟩))), (7, v4.v), (15, v0_0.v), (16, (.int .i64 (a_bindings.length : Int))), (17, (.int .i64 (k9 : Int)))] ∧ List.drop k9 a_bindings = rest10 ∧ Ent cs' [crd (RdS 80 rd80) v2_0.v a_facts, cboR k1 102 (.agg [(.int .i64 a_a.Rel), v1_1.v].toArray), crd (RdS 3 rdInt) v1_1.v a_a.Terms, cown (OwnS 126 ow126) F5 v4.v c3, crd (RdS 126 rd126) v0_0.v a_bindings] ∧ i_matchAll_L1 a_a a_facts rest10 k9 c3 = some R) ⟨_, 0, _, _, ⟨(some ⟨k2, 0, none⟩), 0, 1⟩, (k2 :: []), rfl, eqA, rfl, entA, hF⟩ ?_)
 clear hF
 rintro m7 _ _ ⟨g8, k9, rest10, c3, v4, F5, rfl, rfl, hd12, hE, hF⟩
 refine K_ent hE ?_
 clear hE
 refine K_pure (c := crd (RdS 126 rd126) v0_0.v a_bindings) (.t (.t (.t (.t .h)))) crd_bound (fun hbd17 => ?_)
 rcases rest10 with _ | ⟨x11, rest10⟩
 · have hk13 := List.drop_eq_nil_iff.1 hd12
   rw [i_matchAll_L1] at hF
   iterate 4 refine au ?_
   refine CdF ?_
   iterate 9 refine au ?_
   cases hF
   exact Er (v4, F5)
 obtain ⟨hk13, hx14, hd15⟩ := drop_cons hd12
 rw [i_matchAll_L1] at hF
 iterate 4 refine au ?_
 refine CdT ?_
 refine au ?_
 obtain ⟨o18, hio18, hO19⟩ := bind_some hF
 refine K_cut (fun f' cs' => ∃ (c59 : List Binding) (v60 : Sv) (F61 : List Nat) (g : Fr), c59 = o18 ∧ f' = updL g [(2, v2_0.v), (4, (.pointer (some ⟨k1, 0, some 0⟩))), (7, v60.v), (15, v0_0.v), (16, (.int .i64 (a_bindings.length : Int))), (17, (.int .i64 (k9 : Int)))] ∧ Ent cs' [crd (RdS 80 rd80) v2_0.v a_facts, cboR k1 102 (.agg [(.int .i64 a_a.Rel), v1_1.v].toArray), crd (RdS 3 rdInt) v1_1.v a_a.Terms, cown (OwnS 126 ow126) F61 v60.v c59, crd (RdS 126 rd126) v0_0.v a_bindings]) ?_ ?_
 · replace hF := hio18
   refine CW_block (K_region (C_idx (a := x11) sl106.h ty126.h.sz (.tmp rfl rfl) (.tmp rfl rfl) (.t (.t (.t (.t .h)))) (Int.natCast_nonneg k9) hx14 (fun k20 j21 => ?_)))
   refine AlA2 (ul126_0_126 x11) la126_0_126 (fun p22 => ?_)
   refine AnW (fun k23 => ?_)
   refine As (.agg [p22.1.v, p22.2.v].toArray) ?_
   iterate 6 refine au ?_
   refine CW_block (CW_loop (m := a_facts.length) (fun m28 f' cs' => ∃ (g : Fr) (k30 : Nat) (rest31 : List Fact) (c24 : List Binding) (v25 : Sv) (F26 : List Nat), m28 = rest31.length ∧ f' = updL g [(2, v2_0.v), (4, (.pointer (some ⟨k1, 0, some 0⟩))), (7, v25.v), (9, (.pointer (some ⟨k23, 0, some 0⟩))), (15, v0_0.v), (16, (.int .i64 (a_bindings.length : Int))), (17, (.int .i64 (k9 : Int))), (21, v2_0.v), (22, (.int .i64 (a_facts.length : Int))), (23, (.int .i64 (k30 : Int)))] ∧ List.drop k30 a_facts = rest31 ∧ Ent cs' [crd (RdS 80 rd80) v2_0.v a_facts, cboR k1 102 (.agg [(.int .i64 a_a.Rel), v1_1.v].toArray), crd (RdS 3 rdInt) v1_1.v a_a.Terms, cown (OwnS 126 ow126) F26 v25.v c24, cbox k23 126 (.agg [p22.1.v, p22.2.v].toArray), crd (RdS 3 rdInt) p22.1.v x11.Vars, crd (RdS 3 rdInt) p22.2.v x11.Values, crd (RdS 126 rd126) v0_0.v a_bindings] ∧ i_matchAll_L2 a_a x11 rest31 k30 c24 = some o18) ⟨_, 0, _, _, v4, F5, rfl, eqA, rfl, entA, hF⟩ ?_)
   clear hF
   rintro m28 _ _ ⟨g29, k30, rest31, c24, v25, F26, rfl, rfl, hd33, hE, hF⟩
   refine K_ent hE ?_
   clear hE
   refine K_pure (c := crd (RdS 80 rd80) v2_0.v a_facts) .h crd_bound (fun hbd38 => ?_)
   rcases rest31 with _ | ⟨x32, rest31⟩
   · have hk34 := List.drop_eq_nil_iff.1 hd33
     rw [i_matchAll_L2] at hF
     iterate 4 refine au ?_
     refine CdF ?_
     iterate 4 refine au ?_
     cases hF
     exact ⟨_, v25, F26, _, rfl, eqA, entA⟩
   obtain ⟨hk34, hx35, hd36⟩ := drop_cons hd33
   rw [i_matchAll_L2] at hF
   iterate 4 refine au ?_
   refine CdT ?_
   refine au ?_
   obtain ⟨o39, hio39, hO40⟩ := bind_some hF
   refine K_cut (fun f' cs' => ∃ (c54 : List Binding) (v55 : Sv) (F56 : List Nat) (g : Fr), c54 = o39 ∧ f' = updL g [(2, v2_0.v), (4, (.pointer (some ⟨k1, 0, some 0⟩))), (7, v55.v), (9, (.pointer (some ⟨k23, 0, some 0⟩))), (15, v0_0.v), (16, (.int .i64 (a_bindings.length : Int))), (17, (.int .i64 (k9 : Int))), (21, v2_0.v), (22, (.int .i64 (a_facts.length : Int))), (23, (.int .i64 (k30 : Int)))] ∧ Ent cs' [crd (RdS 80 rd80) v2_0.v a_facts, cboR k1 102 (.agg [(.int .i64 a_a.Rel), v1_1.v].toArray), crd (RdS 3 rdInt) v1_1.v a_a.Terms, cown (OwnS 126 ow126) F56 v55.v c54, cbox k23 126 (.agg [p22.1.v, p22.2.v].toArray), crd (RdS 3 rdInt) p22.1.v x11.Vars, crd (RdS 3 rdInt) p22.2.v x11.Values, crd (RdS 126 rd126) v0_0.v a_bindings]) ?_ ?_
   · replace hF := hio39
     refine CW_block (K_region (C_idx (a := x32) sl40.h ty80.h.sz (.tmp rfl rfl) (.tmp rfl rfl) .h (Int.natCast_nonneg k30) hx35 (fun k41 j42 => ?_)))
     refine AlA1 (ul80_0_80 x32) la80_0_80 (fun p43 => ?_)
     refine AnW (fun k44 => ?_)
     refine As (.agg [(.int .i64 x32.Rel), p43.v].toArray) ?_
     iterate 5 refine au ?_
     obtain ⟨r45, hx46, hF⟩ := bind_some hF
     refine Cx2 (i_MatchAtom_ok _ _ _ _ _ _ _ _ hx46) (fun p47 => ?_)
     refine au ?_
     refine C_val (V_extract (l := [(.agg [p47.1.v, p47.2.2.1.v].toArray), (.bool r45.2)]) (v := (.agg [p47.1.v, p47.2.2.1.v].toArray)) (.tmp rfl rfl) rfl) ?_
     refine C_val (V_extract (l := [(.agg [p47.1.v, p47.2.2.1.v].toArray), (.bool r45.2)]) (v := (.bool r45.2)) (.tmp rfl rfl) rfl) ?_
     refine AnW (fun k48 => ?_)
     refine As (.agg [p47.1.v, p47.2.2.1.v].toArray) ?_
     iterate 5 refine au ?_
     refine Cc (fun hb53 => ?_) (fun hb53 => ?_)
     · rw [if_pos hb53] at hF
       iterate 3 refine au ?_
       refine C_new rfl (N_buildSliceT (g := true) sl106.h ty126.h (.cons (.tmp rfl rfl) .nil) (vs := [(.agg [p47.1.v, p47.2.2.1.v].toArray)]) rfl rfl rfl (by intro v hv; simp at hv; rcases hv with rfl <;> rfl)) (fun k49 => ?_)
       refine Cv1 (.cons .h (.cons (.t .h) (.cons (.t .h) .nil))) (own_lit (Ro := ow126) (E := 126) (F := ((p47.2.1 ++ p47.2.2.2) ++ [])) (xs := ([r45.1] : List Binding)) (MkL_cons mk126 MkL_nil apps) rfl rfl) ?_
       obtain ⟨z50, hx51, hF⟩ := bind_some hF
       refine C_x1 (.cons (.t (.t (.t (.t (.t (.t (.t (.t .h)))))))) (.cons .h .nil)) (X_appendO (Ro := ow126) sl106.h ni106 ty126.h rfl rfl rfl (.tmp rfl rfl) (.tmp rfl rfl) hx51 src_own) (fun p52 => ?_)
       iterate 2 refine au ?_
       cases hF
       exact ⟨_, p52.1, p52.2, _, rfl, eqA, entA⟩
     rw [if_neg (nt hb53)] at hF
     refine au ?_
     cases hF
     exact ⟨_, v25, F26, _, rfl, eqA, entA⟩
   rintro _ _ ⟨c54, v55, F56, g58, rfl, rfl, hE⟩
   replace hF := hO40
   clear hO40
   try dsimp only at hF
   refine K_ent hE ?_
   iterate 4 refine au ?_
   rw [wk k30]
   exact ⟨_, Nat.lt_succ_self _, _, k30 + 1, rest31, _, v55, F56, rfl, eqA, hd36, entA, hF⟩
 rintro _ _ ⟨c59, v60, F61, g63, rfl, rfl, hE⟩
 replace hF := hO19
 clear hO19
 try dsimp only at hF
 refine K_ent hE ?_
 iterate 4 refine au ?_
 rw [wk k9]
 exact ⟨_, Nat.lt_succ_self _, _, k9 + 1, rest10, _, v60, F61, rfl, eqA, hd15, entA, hF⟩
def i_BindingsOf_L1 (a_facts : List Fact) : List Atom → Nat → (List Binding) → Option ((List Binding))
 | [], k9, c3 => some c3
 | x11 :: rest10, k9, c3 => (i_matchAll c3 x11 a_facts).bind fun r22 =>
   i_BindingsOf_L1 a_facts rest10 (k9 + 1) r22
def i_BindingsOf (a_q : Query) (a_facts : List Fact) : Option ((List Binding)) :=
 i_BindingsOf_L1 a_facts a_q.Atoms 0 ([({ Vars := [], Values := [] } : Binding)] : List Binding)
theorem i_BindingsOf_ok (a_q : Query) (v0_0 : Sv) (v0_1 : Sv) (a_facts : List Fact) (v1_0 : Sv) (R : (List Binding)) (hF : i_BindingsOf a_q a_facts = some R) :
   Fw.Spec Tryz.prog 81 [(.agg [v0_0.v, v0_1.v].toArray), v1_0.v] [crd (RdS 3 rdInt) v0_0.v a_q.Head, crd (RdS 102 rd102) v0_1.v a_q.Atoms, crd (RdS 80 rd80) v1_0.v a_facts] (fun p : Sv × List Nat => p.1.v) (fun p => [cown (OwnS 126 ow126) p.2 p.1.v R]) := by
 refine Spec_enter (n := 23) Tryz.func81 rfl rfl (rs := [.tmp 4]) rfl rfl rfl ?_
 intro H0 F0
 unfold i_BindingsOf at hF
 refine au ?_
 refine AbR (fun k1 => ?_)
 iterate 3 refine au ?_
 refine C_val (V_build ty126.h rfl (vs := []) .nil (cells := [(.slice none 0 0), (.slice none 0 0)]) rfl) ?_
 refine C_new rfl (N_buildSliceT (g := true) sl106.h ty126.h (.cons (.tmp rfl rfl) .nil) (vs := [(.agg [(.slice none 0 0), (.slice none 0 0)].toArray)]) rfl rfl rfl (by intro v hv; simp at hv; rcases hv with rfl <;> rfl)) (fun k2 => ?_)
 iterate 2 refine C_conv .nil (own_nil (Ro := (roE rdInt)) (E := 3)) apps ?_
 refine Cv1 (.cons (.t (.t .h)) (.cons (.t .h) (.cons .h .nil))) (own_lit (Ro := ow126) (E := 126) (F := (([] ++ []) ++ [])) (xs := ([({ Vars := [], Values := [] } : Binding)] : List Binding)) (MkL_cons (mk126 (v0 := ⟨none, 0, 0⟩) (v1 := ⟨none, 0, 0⟩) (a := ({ Vars := [], Values := [] } : Binding))) MkL_nil apps) rfl rfl) ?_
 iterate 9 refine au ?_
 refine CW_block (CW_loop (m := a_q.Atoms.length) (fun m7 f' cs' => ∃ (g : Fr) (k9 : Nat) (rest10 : List Atom) (c3 : List Binding) (v4 : Sv) (F5 : List Nat), m7 = rest10.length ∧ f' = updL g [(1, v1_0.v), (5, v4.v), (11, v0_1.v), (12, (.int .i64 (a_q.Atoms.length : Int))), (13, (.int .i64 (k9 : Int)))] ∧ List.drop k9 a_q.Atoms = rest10 ∧ Ent cs' [crd (RdS 80 rd80) v1_0.v a_facts, cown (OwnS 126 ow126) F5 v4.v c3, crd (RdS 102 rd102) v0_1.v a_q.Atoms] ∧ i_BindingsOf_L1 a_facts rest10 k9 c3 = some R) ⟨_, 0, _, _, ⟨(some ⟨k2, 0, none⟩), 1, 1⟩, (k2 :: (([] ++ []) ++ [])), rfl, eqA, rfl, entA, hF⟩ ?_)
 clear hF
 rintro m7 _ _ ⟨g8, k9, rest10, c3, v4, F5, rfl, rfl, hd12, hE, hF⟩
 refine K_ent hE ?_
 clear hE
 refine K_pure (c := crd (RdS 102 rd102) v0_1.v a_q.Atoms) (.t (.t .h)) crd_bound (fun hbd17 => ?_)
 rcases rest10 with _ | ⟨x11, rest10⟩
 · have hk13 := List.drop_eq_nil_iff.1 hd12
   rw [i_BindingsOf_L1] at hF
   iterate 4 refine au ?_
   refine CdF ?_
   iterate 9 refine au ?_
   cases hF
   exact Er (v4, F5)
 obtain ⟨hk13, hx14, hd15⟩ := drop_cons hd12
 rw [i_BindingsOf_L1] at hF
 iterate 4 refine au ?_
 refine CdT ?_
 iterate 3 refine au ?_
 refine Ai hx14 (fun k18 j19 => ?_)
 refine AlA1 (ul102_0_102 x11) la102_0_102 (fun p20 => ?_)
 refine AnW (fun k21 => ?_)
 refine As (.agg [(.int .i64 x11.Rel), p20.v].toArray) ?_
 iterate 5 refine au ?_
 obtain ⟨r22, hx23, hF⟩ := bind_some hF
 refine C_x2 (.cons (.t (.t (.t (.t .h)))) (.rd (.t .h) rfl (.rd (.t (.t (.t .h))) rfl .nil))) (XC_bor frz_own (fun _ => (.cons .nil)) (X_callS cf124.h (.cons (.tmp rfl rfl) (.cons (.tmp rfl rfl) (.cons (.tmp rfl rfl) .nil))) (i_matchAll_ok c3 v4 x11 p20 a_facts v1_0 _ hx23))) (fun p24 => ?_)
 iterate 6 refine au ?_
 rw [wk k9]
 exact ⟨_, Nat.lt_succ_self _, _, k9 + 1, rest10, _, p24.1, p24.2, rfl, eqA, hd15, entA, hF⟩
def i_TupleOf_L1 (a_b : Binding) : List Int → Nat → (List Int) → Option ((List Int))
 | [], k10, c4 => some c4
 | x12 :: rest11, k10, c4 => (i_ValueOf a_b x12).bind fun r21 =>
   (app c4 ([r21] : List Int)).bind fun z25 =>
   i_TupleOf_L1 a_b rest11 (k10 + 1) z25
def i_TupleOf (a_q : Query) (a_b : Binding) : Option ((List Int)) :=
 i_TupleOf_L1 a_b a_q.Head 0 ([] : List Int)
theorem i_TupleOf_ok (a_q : Query) (v0_0 : Sv) (v0_1 : Sv) (a_b : Binding) (v1_0 : Sv) (v1_1 : Sv) (R : (List Int)) (hF : i_TupleOf a_q a_b = some R) :
   Fw.Spec Tryz.prog 123 [(.agg [v0_0.v, v0_1.v].toArray), (.agg [v1_0.v, v1_1.v].toArray)] [crd (RdS 3 rdInt) v0_0.v a_q.Head, crd (RdS 102 rd102) v0_1.v a_q.Atoms, crd (RdS 3 rdInt) v1_0.v a_b.Vars, crd (RdS 3 rdInt) v1_1.v a_b.Values] (fun p : Sv × List Nat => p.1.v) (fun p => [cown (OwnS 3 (roE rdInt)) p.2 p.1.v R]) := by
 refine Spec_enter (n := 24) Tryz.func123 rfl rfl (rs := [.tmp 4]) rfl rfl rfl ?_
 intro H0 F0
 unfold i_TupleOf at hF
 refine au ?_
 refine AbR (fun k1 => ?_)
 refine AbR (fun k2 => ?_)
 iterate 3 refine au ?_
 refine C_new rfl (N_buildSliceT (g := true) sl22.h ty3.h .nil (vs := []) rfl rfl rfl (by simp)) (fun k3 => ?_)
 refine Cv1 (.cons .h .nil) (own_lit (Ro := (roE rdInt)) (E := 3) (F := []) (xs := ([] : List Int)) MkL_nil rfl rfl) ?_
 iterate 9 refine au ?_
 refine CW_block (CW_loop (m := a_q.Head.length) (fun m8 f' cs' => ∃ (g : Fr) (k10 : Nat) (rest11 : List Int) (c4 : List Int) (v5 : Sv) (F6 : List Nat), m8 = rest11.length ∧ f' = updL g [(3, (.pointer (some ⟨k2, 0, some 0⟩))), (5, v5.v), (10, v0_0.v), (11, (.int .i64 (a_q.Head.length : Int))), (12, (.int .i64 (k10 : Int)))] ∧ List.drop k10 a_q.Head = rest11 ∧ Ent cs' [cboR k2 126 (.agg [v1_0.v, v1_1.v].toArray), crd (RdS 3 rdInt) v1_0.v a_b.Vars, crd (RdS 3 rdInt) v1_1.v a_b.Values, cown (OwnS 3 (roE rdInt)) F6 v5.v c4, crd (RdS 3 rdInt) v0_0.v a_q.Head] ∧ i_TupleOf_L1 a_b rest11 k10 c4 = some R) ⟨_, 0, _, _, ⟨(some ⟨k3, 0, none⟩), 0, 1⟩, (k3 :: []), rfl, eqA, rfl, entA, hF⟩ ?_)
 clear hF
 rintro m8 _ _ ⟨g9, k10, rest11, c4, v5, F6, rfl, rfl, hd13, hE, hF⟩
 refine K_ent hE ?_
 clear hE
 refine K_pure (c := crd (RdS 3 rdInt) v0_0.v a_q.Head) (.t (.t (.t (.t .h)))) crd_bound (fun hbd18 => ?_)
 rcases rest11 with _ | ⟨x12, rest11⟩
 · have hk14 := List.drop_eq_nil_iff.1 hd13
   rw [i_TupleOf_L1] at hF
   iterate 4 refine au ?_
   refine CdF ?_
   iterate 9 refine au ?_
   cases hF
   exact Er (v5, F6)
 obtain ⟨hk14, hx15, hd16⟩ := drop_cons hd13
 rw [i_TupleOf_L1] at hF
 iterate 4 refine au ?_
 refine CdT ?_
 iterate 3 refine au ?_
 refine Ai hx15 (fun k19 j20 => ?_)
 refine Al ls3_0 ?_
 iterate 6 refine au ?_
 obtain ⟨r21, hx22, hF⟩ := bind_some hF
 refine Cx0 (i_ValueOf_ok _ _ _ _ _ hx22) (fun _ => ?_)
 refine C_new rfl (N_buildSliceT (g := true) sl22.h ty3.h (.cons (.tmp rfl rfl) .nil) (vs := [(.int .i64 r21)]) rfl rfl rfl (by intro v hv; simp at hv; rcases hv with rfl <;> rfl)) (fun k24 => ?_)
 refine Cv1 (.cons .h .nil) (own_lit (Ro := (roE rdInt)) (E := 3) (F := ([] ++ [])) (xs := ([r21] : List Int)) (MkL_cons (Mk_pure (fun _ => rfl)) MkL_nil apps) rfl rfl) ?_
 obtain ⟨z25, hx26, hF⟩ := bind_some hF
 refine C_x1 (.cons (.t (.t (.t (.t (.t .h))))) (.cons .h .nil)) (X_appendO (Ro := (roE rdInt)) sl22.h ni22 ty3.h rfl rfl rfl (.tmp rfl rfl) (.tmp rfl rfl) hx26 src_own) (fun p27 => ?_)
 iterate 6 refine au ?_
 rw [wk k10]
 exact ⟨_, Nat.lt_succ_self _, _, k10 + 1, rest11, _, p27.1, p27.2, rfl, eqA, hd16, entA, hF⟩
def g_slices_Equal_int_int_L1 (a_s2 : List Int) : List Int → Nat → Option (Bool)
 | [], k4 => some true
 | x6 :: rest5, k4 => (ix a_s2 (k4 : Int)).bind fun x15 =>
   if ((x6 : Int) != x15) then (
     some false)
   else (
     g_slices_Equal_int_int_L1 a_s2 rest5 (k4 + 1))
def g_slices_Equal_int_int (a_s1 : List Int) (a_s2 : List Int) : Option (Bool) :=
 if (((a_s1.length : Int) : Int) != (a_s2.length : Int)) then (
   some false)
 else (
   g_slices_Equal_int_int_L1 a_s2 a_s1 0)
theorem g_slices_Equal_int_int_ok (a_s1 : List Int) (v0_0 : Sv) (a_s2 : List Int) (v1_0 : Sv) (R : Bool) (hF : g_slices_Equal_int_int a_s1 a_s2 = some R) :
   Fw.Spec Tryz.prog 90 [v0_0.v, v1_0.v] [crd (RdS 3 rdInt) v0_0.v a_s1, crd (RdS 3 rdInt) v1_0.v a_s2] (fun _ : Unit => (.bool R)) (fun _ => []) := by
 refine Spec_enter (n := 26) Tryz.func90 rfl rfl (rs := [.tmp 4]) rfl rfl rfl ?_
 intro H0 F0
 unfold g_slices_Equal_int_int at hF
 iterate 11 refine au ?_
 refine Cc (fun hb23 => ?_) (fun hb23 => ?_)
 · rw [if_pos hb23] at hF
   iterate 4 refine au ?_
   cases hF
   exact Er ()
 rw [if_neg (nt hb23)] at hF
 iterate 7 refine au ?_
 refine CW_block (CW_loop (m := a_s1.length) (fun m2 f' cs' => ∃ (g : Fr) (k4 : Nat) (rest5 : List Int), m2 = rest5.length ∧ f' = updL g [(0, v0_0.v), (1, v1_0.v), (12, (.int .i64 (a_s1.length : Int))), (13, (.int .i64 (k4 : Int)))] ∧ List.drop k4 a_s1 = rest5 ∧ Ent cs' [crd (RdS 3 rdInt) v0_0.v a_s1, crd (RdS 3 rdInt) v1_0.v a_s2] ∧ g_slices_Equal_int_int_L1 a_s2 rest5 k4 = some R) ⟨_, 0, _, rfl, eqA, rfl, entA, hF⟩ ?_)
 clear hF
 rintro m2 _ _ ⟨g3, k4, rest5, rfl, rfl, hd7, hE, hF⟩
 refine K_ent hE ?_
 clear hE
 refine K_pure (c := crd (RdS 3 rdInt) v0_0.v a_s1) .h crd_bound (fun hbd12 => ?_)
 rcases rest5 with _ | ⟨x6, rest5⟩
 · have hk8 := List.drop_eq_nil_iff.1 hd7
   rw [g_slices_Equal_int_int_L1] at hF
   iterate 4 refine au ?_
   refine CdF ?_
   iterate 8 refine au ?_
   cases hF
   exact Er ()
 obtain ⟨hk8, hx9, hd10⟩ := drop_cons hd7
 rw [g_slices_Equal_int_int_L1] at hF
 iterate 4 refine au ?_
 refine CdT ?_
 iterate 6 refine au ?_
 refine K_draw [0, 1, 2, 3, 4, 5, 6, 7, 8] [0, 0, 3, 7, 0, 0, 48, 112, 255] [] mixed (by decide +kernel) ?_
 iterate 2 refine du ?_
 refine Di hx9 (fun k13 j14 => ?_)
 refine Dl ls3_0 ?_
 iterate 2 refine du ?_
 obtain ⟨x15, hx16, hF⟩ := bind_some hF
 obtain ⟨hp17, hx18⟩ := ix_some hx16
 refine Di hx18 (fun k19 j20 => ?_)
 refine Dl ls3_0 ?_
 iterate 2 refine du ?_
 refine Cc (fun hb22 => ?_) (fun hb22 => ?_)
 · rw [if_pos hb22] at hF
   iterate 4 refine au ?_
   cases hF
   exact Er ()
 rw [if_neg (nt hb22)] at hF
 iterate 5 refine au ?_
 rw [wk k4]
 exact ⟨_, Nat.lt_succ_self _, _, k4 + 1, rest5, rfl, eqA, hd10, entA, hF⟩
def i_hasTuple_1 (a_x : List Int) (a_e1 : List Int) : Option (Bool) :=
 (g_slices_Equal_int_int a_x a_e1).bind fun r1 =>
 some r1
theorem i_hasTuple_1_ok (a_x : List Int) (v0_0 : Sv) (kc1 : Nat) (a_e1 : List Int) (vc1_0 : Sv) (R : Bool) (hF : i_hasTuple_1 a_x a_e1 = some R) :
   Fw.Spec Tryz.prog 93 [v0_0.v, (.pointer (some ⟨kc1, 0, some 0⟩))] [crd (RdS 3 rdInt) v0_0.v a_x, cboR kc1 22 vc1_0.v, crd (RdS 3 rdInt) vc1_0.v a_e1] (fun _ : Unit => (.bool R)) (fun _ => []) := by
 refine Spec_enter (n := 7) Tryz.func93 rfl rfl (rs := [.tmp 3]) rfl rfl rfl ?_
 intro H0 F0
 unfold i_hasTuple_1 at hF
 iterate 6 refine au ?_
 obtain ⟨r1, hx2, hF⟩ := bind_some hF
 refine Cx0 (g_slices_Equal_int_int_ok _ _ _ _ _ hx2) (fun _ => ?_)
 iterate 3 refine au ?_
 cases hF
 exact Er ()
def g_slices_IndexFunc_int_int_ihasTuple1_L1 (a_e1 : List Int) : List (List Int) → Nat → Option (Int)
 | [], k4 => some (-1)
 | x6 :: rest5, k4 => (i_hasTuple_1 x6 a_e1).bind fun r16 =>
   if r16 then (
     some (k4 : Int))
   else (
     g_slices_IndexFunc_int_int_ihasTuple1_L1 a_e1 rest5 (k4 + 1))
def g_slices_IndexFunc_int_int_ihasTuple1 (a_s : List (List Int)) (a_e1 : List Int) : Option (Int) :=
 g_slices_IndexFunc_int_int_ihasTuple1_L1 a_e1 a_s 0
theorem g_slices_IndexFunc_int_int_ihasTuple1_ok (a_s : List (List Int)) (v0_0 : Sv) (kc1 : Nat) (a_e1 : List Int) (vc1_0 : Sv) (R : Int) (hF : g_slices_IndexFunc_int_int_ihasTuple1 a_s a_e1 = some R) :
   Fw.Spec Tryz.prog 137 [v0_0.v, (.func (.func 93) [].toArray [(.pointer (some ⟨kc1, 0, some 0⟩))].toArray)] [crd (RdS 22 (RdS 3 rdInt)) v0_0.v a_s, cboR kc1 22 vc1_0.v, crd (RdS 3 rdInt) vc1_0.v a_e1] (fun _ : Unit => (.int .i64 R)) (fun _ => []) := by
 refine Spec_enter (n := 19) Tryz.func137 rfl rfl (rs := [.tmp 4]) rfl rfl rfl ?_
 intro H0 F0
 unfold g_slices_IndexFunc_int_int_ihasTuple1 at hF
 iterate 9 refine au ?_
 refine CW_block (CW_loop (m := a_s.length) (fun m2 f' cs' => ∃ (g : Fr) (k4 : Nat) (rest5 : List (List Int)), m2 = rest5.length ∧ f' = updL g [(0, v0_0.v), (1, (.func (.func 93) [].toArray [(.pointer (some ⟨kc1, 0, some 0⟩))].toArray)), (7, (.int .i64 (a_s.length : Int))), (8, (.int .i64 (k4 : Int)))] ∧ List.drop k4 a_s = rest5 ∧ Ent cs' [crd (RdS 22 (RdS 3 rdInt)) v0_0.v a_s, cboR kc1 22 vc1_0.v, crd (RdS 3 rdInt) vc1_0.v a_e1] ∧ g_slices_IndexFunc_int_int_ihasTuple1_L1 a_e1 rest5 k4 = some R) ⟨_, 0, _, rfl, eqA, rfl, entA, hF⟩ ?_)
 clear hF
 rintro m2 _ _ ⟨g3, k4, rest5, rfl, rfl, hd7, hE, hF⟩
 refine K_ent hE ?_
 clear hE
 refine K_pure (c := crd (RdS 22 (RdS 3 rdInt)) v0_0.v a_s) .h crd_bound (fun hbd12 => ?_)
 rcases rest5 with _ | ⟨x6, rest5⟩
 · have hk8 := List.drop_eq_nil_iff.1 hd7
   rw [g_slices_IndexFunc_int_int_ihasTuple1_L1] at hF
   iterate 4 refine au ?_
   refine CdF ?_
   iterate 8 refine au ?_
   cases hF
   exact Er ()
 obtain ⟨hk8, hx9, hd10⟩ := drop_cons hd7
 rw [g_slices_IndexFunc_int_int_ihasTuple1_L1] at hF
 iterate 4 refine au ?_
 refine CdT ?_
 iterate 10 refine au ?_
 refine Ai hx9 (fun k13 j14 => ?_)
 refine C_ldV (R' := (RdS 3 rdInt)) ag22.h (.tmp rfl rfl) .h lv22_0 (fun w15 => ?_)
 obtain ⟨r16, hx17, hF⟩ := bind_some hF
 refine C_x0 (.rd .h rfl (.rd (.t (.t (.t .h))) rfl (.rd (.t (.t (.t (.t .h)))) rfl .nil))) (X_callCS cf93.h (.tmp rfl rfl) (.cons (.tmp rfl rfl) .nil) (i_hasTuple_1_ok x6 w15 kc1 a_e1 vc1_0 _ hx17)) (fun _ => ?_)
 refine au ?_
 refine Cc (fun hb20 => ?_) (fun hb20 => ?_)
 · rw [if_pos hb20] at hF
   iterate 5 refine au ?_
   cases hF
   exact Er ()
 rw [if_neg (nt hb20)] at hF
 iterate 5 refine au ?_
 rw [wk k4]
 exact ⟨_, Nat.lt_succ_self _, _, k4 + 1, rest5, rfl, eqA, hd10, entA, hF⟩
def g_slices_ContainsFunc_int_int_ihasTuple1 (a_s : List (List Int)) (a_e1 : List Int) : Option (Bool) :=
 (g_slices_IndexFunc_int_int_ihasTuple1 a_s a_e1).bind fun r1 =>
 some (decide ((0 : Int) ≤ r1))
theorem g_slices_ContainsFunc_int_int_ihasTuple1_ok (a_s : List (List Int)) (v0_0 : Sv) (kc1 : Nat) (a_e1 : List Int) (vc1_0 : Sv) (R : Bool) (hF : g_slices_ContainsFunc_int_int_ihasTuple1 a_s a_e1 = some R) :
   Fw.Spec Tryz.prog 92 [v0_0.v, (.func (.func 93) [].toArray [(.pointer (some ⟨kc1, 0, some 0⟩))].toArray)] [crd (RdS 22 (RdS 3 rdInt)) v0_0.v a_s, cboR kc1 22 vc1_0.v, crd (RdS 3 rdInt) vc1_0.v a_e1] (fun _ : Unit => (.bool R)) (fun _ => []) := by
 refine Spec_enter (n := 9) Tryz.func92 rfl rfl (rs := [.tmp 4]) rfl rfl rfl ?_
 intro H0 F0
 unfold g_slices_ContainsFunc_int_int_ihasTuple1 at hF
 iterate 6 refine au ?_
 obtain ⟨r1, hx2, hF⟩ := bind_some hF
 refine Cx0 (g_slices_IndexFunc_int_int_ihasTuple1_ok _ _ _ _ _ _ hx2) (fun _ => ?_)
 iterate 4 refine au ?_
 cases hF
 exact Er ()
def i_hasTuple (a_l : List (List Int)) (a_t : List Int) : Option (Bool) :=
 (g_slices_ContainsFunc_int_int_ihasTuple1 a_l a_t).bind fun r2 =>
 some r2
theorem i_hasTuple_ok (a_l : List (List Int)) (v0_0 : Sv) (a_t : List Int) (v1_0 : Sv) (R : Bool) (hF : i_hasTuple a_l a_t = some R) :
   Fw.Spec Tryz.prog 58 [v0_0.v, v1_0.v] [crd (RdS 22 (RdS 3 rdInt)) v0_0.v a_l, crd (RdS 3 rdInt) v1_0.v a_t] (fun _ : Unit => (.bool R)) (fun _ => []) := by
 refine Spec_enter (n := 8) Tryz.func58 rfl rfl (rs := [.tmp 4]) rfl rfl rfl ?_
 intro H0 F0
 unfold i_hasTuple at hF
 refine au ?_
 refine AbR (fun k1 => ?_)
 iterate 4 refine au ?_
 refine C_val (V_makeFunc (fn := .func 93) (vs := []) (us := [(.pointer (some ⟨k1, 0, some 0⟩))]) .nil (.cons (.tmp rfl rfl) .nil)) ?_
 obtain ⟨r2, hx3, hF⟩ := bind_some hF
 refine Cx0 (g_slices_ContainsFunc_int_int_ihasTuple1_ok _ _ _ _ _ _ hx3) (fun _ => ?_)
 iterate 3 refine au ?_
 cases hF
 exact Er ()
def i_addedTuple_1 (a_x : List Int) (a_e1 : List Int) : Option (Bool) :=
 (g_slices_Compare_int_int a_x a_e1).bind fun r1 =>
 some (decide ((0 : Int) < r1))
theorem i_addedTuple_1_ok (a_x : List Int) (v0_0 : Sv) (kc1 : Nat) (a_e1 : List Int) (vc1_0 : Sv) (R : Bool) (hF : i_addedTuple_1 a_x a_e1 = some R) :
   Fw.Spec Tryz.prog 158 [v0_0.v, (.pointer (some ⟨kc1, 0, some 0⟩))] [crd (RdS 3 rdInt) v0_0.v a_x, cboR kc1 22 vc1_0.v, crd (RdS 3 rdInt) vc1_0.v a_e1] (fun _ : Unit => (.bool R)) (fun _ => []) := by
 refine Spec_enter (n := 8) Tryz.func158 rfl rfl (rs := [.tmp 3]) rfl rfl rfl ?_
 intro H0 F0
 unfold i_addedTuple_1 at hF
 iterate 6 refine au ?_
 obtain ⟨r1, hx2, hF⟩ := bind_some hF
 refine Cx0 (g_slices_Compare_int_int_ok _ _ _ _ _ hx2) (fun _ => ?_)
 iterate 4 refine au ?_
 cases hF
 exact Er ()
def g_slices_IndexFunc_int_int_iaddedTuple1_L1 (a_e1 : List Int) : List (List Int) → Nat → Option (Int)
 | [], k4 => some (-1)
 | x6 :: rest5, k4 => (i_addedTuple_1 x6 a_e1).bind fun r16 =>
   if r16 then (
     some (k4 : Int))
   else (
     g_slices_IndexFunc_int_int_iaddedTuple1_L1 a_e1 rest5 (k4 + 1))
def g_slices_IndexFunc_int_int_iaddedTuple1 (a_s : List (List Int)) (a_e1 : List Int) : Option (Int) :=
 g_slices_IndexFunc_int_int_iaddedTuple1_L1 a_e1 a_s 0
theorem g_slices_IndexFunc_int_int_iaddedTuple1_ok (a_s : List (List Int)) (v0_0 : Sv) (kc1 : Nat) (a_e1 : List Int) (vc1_0 : Sv) (R : Int) (hF : g_slices_IndexFunc_int_int_iaddedTuple1 a_s a_e1 = some R) :
   Fw.Spec Tryz.prog 137 [v0_0.v, (.func (.func 158) [].toArray [(.pointer (some ⟨kc1, 0, some 0⟩))].toArray)] [crd (RdS 22 (RdS 3 rdInt)) v0_0.v a_s, cboR kc1 22 vc1_0.v, crd (RdS 3 rdInt) vc1_0.v a_e1] (fun _ : Unit => (.int .i64 R)) (fun _ => []) := by
 refine Spec_enter (n := 19) Tryz.func137 rfl rfl (rs := [.tmp 4]) rfl rfl rfl ?_
 intro H0 F0
 unfold g_slices_IndexFunc_int_int_iaddedTuple1 at hF
 iterate 9 refine au ?_
 refine CW_block (CW_loop (m := a_s.length) (fun m2 f' cs' => ∃ (g : Fr) (k4 : Nat) (rest5 : List (List Int)), m2 = rest5.length ∧ f' = updL g [(0, v0_0.v), (1, (.func (.func 158) [].toArray [(.pointer (some ⟨kc1, 0, some 0⟩))].toArray)), (7, (.int .i64 (a_s.length : Int))), (8, (.int .i64 (k4 : Int)))] ∧ List.drop k4 a_s = rest5 ∧ Ent cs' [crd (RdS 22 (RdS 3 rdInt)) v0_0.v a_s, cboR kc1 22 vc1_0.v, crd (RdS 3 rdInt) vc1_0.v a_e1] ∧ g_slices_IndexFunc_int_int_iaddedTuple1_L1 a_e1 rest5 k4 = some R) ⟨_, 0, _, rfl, eqA, rfl, entA, hF⟩ ?_)
 clear hF
 rintro m2 _ _ ⟨g3, k4, rest5, rfl, rfl, hd7, hE, hF⟩
 refine K_ent hE ?_
 clear hE
 refine K_pure (c := crd (RdS 22 (RdS 3 rdInt)) v0_0.v a_s) .h crd_bound (fun hbd12 => ?_)
 rcases rest5 with _ | ⟨x6, rest5⟩
 · have hk8 := List.drop_eq_nil_iff.1 hd7
   rw [g_slices_IndexFunc_int_int_iaddedTuple1_L1] at hF
   iterate 4 refine au ?_
   refine CdF ?_
   iterate 8 refine au ?_
   cases hF
   exact Er ()
 obtain ⟨hk8, hx9, hd10⟩ := drop_cons hd7
 rw [g_slices_IndexFunc_int_int_iaddedTuple1_L1] at hF
 iterate 4 refine au ?_
 refine CdT ?_
 iterate 10 refine au ?_
 refine Ai hx9 (fun k13 j14 => ?_)
 refine C_ldV (R' := (RdS 3 rdInt)) ag22.h (.tmp rfl rfl) .h lv22_0 (fun w15 => ?_)
 obtain ⟨r16, hx17, hF⟩ := bind_some hF
 refine C_x0 (.rd .h rfl (.rd (.t (.t (.t .h))) rfl (.rd (.t (.t (.t (.t .h)))) rfl .nil))) (X_callCS cf158.h (.tmp rfl rfl) (.cons (.tmp rfl rfl) .nil) (i_addedTuple_1_ok x6 w15 kc1 a_e1 vc1_0 _ hx17)) (fun _ => ?_)
 refine au ?_
 refine Cc (fun hb20 => ?_) (fun hb20 => ?_)
 · rw [if_pos hb20] at hF
   iterate 5 refine au ?_
   cases hF
   exact Er ()
 rw [if_neg (nt hb20)] at hF
 iterate 5 refine au ?_
 rw [wk k4]
 exact ⟨_, Nat.lt_succ_self _, _, k4 + 1, rest5, rfl, eqA, hd10, entA, hF⟩
def g_slices_Insert_int_int (a_s : List (List Int)) (a_i : Int) (a_v : List (List Int)) : Option (List (List Int)) :=
 match a_v with
 | [a] => if 0 ≤ a_i ∧ a_i.toNat ≤ a_s.length ∧ a_s.length + 1 < 4294967296 then some (a_s.take a_i.toNat ++ a :: a_s.drop a_i.toNat) else none
 | _ => none
set_option maxHeartbeats 4000000 in
theorem g_slices_Insert_int_int_raw (es : List Value) (e : Value) (v u : Sv) (F F2 : List Nat) (i : Nat) (hi : i ≤ es.length) (hb : es.length + 1 < 4294967296) : Fw.Spec Tryz.prog 159 [v.v, .int .i64 (i : Int), u.v] [cown (OwnS 22 (roE (rvs 1))) F v.v es, cown (OwnS 22 (roE (rvs 1))) F2 u.v [e]] (fun q : Sv × List Nat => q.1.v) (fun q => [cown (OwnS 22 (roE (rvs 1))) q.2 q.1.v (es.take i ++ e :: es.drop i)]) := by
 refine Spec_enter (n := 95) Tryz.func159 rfl rfl (rs := [.tmp 6]) rfl rfl rfl ?_
 intro H0 F0
 refine K_region ?_
 refine C_val (V_assign (v := (.slice none 0 0)) EV.nilSlice) ?_
 refine C_nil ?_
 refine K_region ?_
 refine C_val (V_move (v := v.v) (.tmp rfl rfl)) ?_
 refine C_val (V_move (v := (.int .i64 (i : Int))) (.tmp rfl rfl)) ?_
 refine C_x1 (.cons .h .nil) (X_sliceLoE sl31.h ty22.h.sz (.tmp rfl rfl) (.tmp rfl rfl) hi) (fun w0 => ?_)
 refine C_nil ?_
 refine K_region ?_
 refine C_val (V_move (v := u.v) (.tmp rfl rfl)) ?_
 refine C_at (.t .h) (fun hp => V_lenR (l := 1) sl31.h (.tmp rfl rfl) (cown_len hp)) ?_
 refine C_val (V_assign (v := (.int .i64 ((1 : Nat) : Int))) (.tmp rfl rfl)) ?_
 refine C_nil ?_
 refine K_in ?_
 refine K_region ?_
 refine C_val (V_move (v := (.int .i64 ((1 : Nat) : Int))) (.tmp rfl rfl)) ?_
 refine C_val (V_eql (i := ((1 : Nat) : Int)) (j := 0) (.tmp rfl rfl) (.int _ _)) ?_
 refine C_nil ?_
 refine CW_cond (b := (((1 : Nat) : Int) == 0)) (.tmp rfl rfl) (fun hb0 => absurd hb0 (by decide)) (fun _ => ?_)
 refine CW_skip ?_
 refine K_region ?_
 refine C_val (V_move (v := v.v) (.tmp rfl rfl)) ?_
 refine C_at .h (fun hp => V_lenR (l := es.length) sl31.h (.tmp rfl rfl) (cown_len hp)) ?_
 refine C_val (V_assign (v := (.int .i64 (es.length : Int))) (.tmp rfl rfl)) ?_
 refine C_nil ?_
 refine K_in ?_
 refine K_region ?_
 refine C_val (V_move (v := (.int .i64 (i : Int))) (.tmp rfl rfl)) ?_
 refine C_val (V_move (v := (.int .i64 (es.length : Int))) (.tmp rfl rfl)) ?_
 refine C_val (V_eql (i := (i : Int)) (j := (es.length : Int)) (.tmp rfl rfl) (.tmp rfl rfl)) ?_
 refine C_nil ?_
 refine CW_cond (b := ((i : Int) == (es.length : Int))) (.tmp rfl rfl) (fun hb1 => ?_) (fun hb1 => ?_)
 · have hie : i = es.length := by simp only [beq_iff_eq] at hb1; omega
   refine K_region ?_
   refine C_val (V_move (v := v.v) (.tmp rfl rfl)) ?_
   refine C_val (V_move (v := u.v) (.tmp rfl rfl)) ?_
   refine C_x1 (.cons .h (.cons .h .nil)) (X_appendO (Ro := (roE (rvs 1))) sl31.h ni31 ty22.h rfl rfl rfl (.tmp rfl rfl) (.tmp rfl rfl) (app_ok (xs := es) (ys := [e]) (by simpa using hb)) src_own) (fun p => ?_)
   refine C_val (V_assign (v := p.1.v) (.tmp rfl rfl)) ?_
   refine C_nil ?_
   refine CW_ret ?_
   rw [hie, List.take_length, List.drop_length]
   exact End_ret p (.tmp rfl rfl .nil) rfl (.sel (.cons .h .nil))
 refine CW_skip ?_
 have hlt : i < es.length := by simp at hb1; omega
 refine K_pure .h (own_form (by intro h; rw [h] at hlt; simp at hlt)) (fun hv => ?_)
 obtain ⟨k0, m0, rfl, hm0⟩ := hv
 refine K_pure (.t .h) (own_form (by simp)) (fun hu => ?_)
 obtain ⟨k1, m1, rfl, hm1⟩ := hu
 refine K_cap (t := 0) (k := k0) (l := es.length) (m := m0) rfl rfl hm0 (by omega) .h rfl (fun c hc => ?_)
 have w1 : IntKind.i64.wrap ((es.length : Int) + ((1 : Nat) : Int)) = ((es.length + 1 : Nat) : Int) := by rw [wrap_in (by omega) (by omega)]; rfl
 have w2 : IntKind.i64.wrap ((i : Int) + ((1 : Nat) : Int)) = ((i + 1 : Nat) : Int) := by rw [wrap_in (by omega) (by omega)]; rfl
 have w3 : IntKind.i64.wrap (((es.length + 1 : Nat) : Int) - (i : Int)) = ((es.length + 1 - i : Nat) : Int) := by rw [wrap_in (by omega) (by omega)]; omega
 have hel : (es.take i ++ e :: es.drop i).length = es.length + 1 := ins_len hi
 refine K_in ?_
 refine K_region ?_
 refine C_val (V_move (v := (.int .i64 (es.length : Int))) (.tmp rfl rfl)) ?_
 refine C_val (V_move (v := (.int .i64 ((1 : Nat) : Int))) (.tmp rfl rfl)) ?_
 refine C_val (V_add (i := (es.length : Int)) (j := ((1 : Nat) : Int)) (.tmp rfl rfl) (.tmp rfl rfl)) ?_
 rw [w1]
 refine C_val (V_move (v := (.slice (some ⟨k0, 0, none⟩) es.length (c + 3))) (.tmp rfl rfl)) ?_
 refine C_at .h (fun hp => V_capO sl31.h hp rfl (.tmp rfl rfl)) ?_
 refine C_val (V_gtr (i := ((es.length + 1 : Nat) : Int)) (j := (c : Int)) (.tmp rfl rfl) (.tmp rfl rfl)) ?_
 refine C_nil ?_
 refine CW_cond (b := (decide ((c : Int) < ((es.length + 1 : Nat) : Int)))) (.tmp rfl rfl) (fun hb2 => ?_) (fun hb2 => ?_)
 · have hcl : c < es.length + 1 := by simp only [decide_eq_true_eq] at hb2; omega
   refine K_region ?_
   refine C_val (V_move (v := (.slice (some ⟨k0, 0, none⟩) es.length (c + 3))) (.tmp rfl rfl)) ?_
   refine C_val (V_move (v := (.int .i64 (i : Int))) (.tmp rfl rfl)) ?_
   refine C_at .h (fun hp => V_sliceCapO (j := i) sl31.h ty22.h.sz hp rfl (.tmp rfl rfl) (.tmp rfl rfl) (by omega)) ?_
   refine C_val (V_move (v := (.int .i64 (es.length : Int))) (.tmp rfl rfl)) ?_
   refine C_val (V_move (v := (.int .i64 ((1 : Nat) : Int))) (.tmp rfl rfl)) ?_
   refine C_val (V_add (i := (es.length : Int)) (j := ((1 : Nat) : Int)) (.tmp rfl rfl) (.tmp rfl rfl)) ?_
   rw [w1]
   refine C_val (V_move (v := (.int .i64 (i : Int))) (.tmp rfl rfl)) ?_
   refine C_val (V_sub (i := ((es.length + 1 : Nat) : Int)) (j := (i : Int)) (.tmp rfl rfl) (.tmp rfl rfl)) ?_
   rw [w3]
   refine C_x2 (.cons .h .nil) (X_appendMake (c := c) (q := es.length + 1 - i) sl31.h ik3 ty22.h rfl rfl rfl rfl rfl rfl (.tmp rfl rfl) (.tmp rfl rfl) (by omega) (by omega) (by omega) (by omega)) (fun k2 => ?_)
   rw [show i + (es.length + 1 - i) = es.length + 1 from by omega]
   refine C_val (V_assign (v := (.slice (some ⟨k2, 0, none⟩) (es.length + 1) 2)) (.tmp rfl rfl)) ?_
   refine C_nil ?_
   refine K_region ?_
   refine C_val (V_move (v := (.slice (some ⟨k2, 0, none⟩) (es.length + 1) 2)) (.tmp rfl rfl)) ?_
   refine C_val (V_move (v := (.int .i64 (i : Int))) (.tmp rfl rfl)) ?_
   refine C_at .h (fun hp => V_sliceLoO (j := i) sl31.h ty22.h.sz hp rfl (.tmp rfl rfl) (.tmp rfl rfl) (by omega)) ?_
   refine C_val (V_move (v := (.slice (some ⟨k1, 0, none⟩) 1 m1)) (.tmp rfl rfl)) ?_
   refine C_x2 (.cons .h (.cons (.t .h) .nil)) (X_copy2 (m1 := 0) (m2 := m1) (ia := i) (ja := 0) (ld := es.length + 1 - i) (ls := 1) (es2 := [e]) (es' := es.take i ++ e :: List.replicate (es.length - i) (.slice none 0 0)) sl31.h ty22.h.sz rfl rfl rfl (by exact .tmp rfl rfl) (by exact .tmp rfl rfl) (by omega) (by omega) (by rw [List.length_singleton]; omega) (by simp; omega) (ins_l1 (e := e) (z := (.slice none 0 0)) hlt) (by simp; omega)) (fun _ => ?_)
   refine C_nil ?_
   refine K_draw [0, 1, 2, 3, 4, 5, 6, 7, 8] [0, 0, 0, 6, 15, 0, 0, 96, 255] [8] mixed (by decide +kernel) ?_
   refine D_val rfl .no (fun ha => V_move (v := (.slice (some ⟨k2, 0, none⟩) (es.length + 1) 2)) (EN ha (.tmp rfl rfl) rfl)) ?_
   refine D_val rfl .no (fun ha => V_move (v := (.int .i64 (i : Int))) (EN ha (.tmp rfl rfl) rfl)) ?_
   refine D_val rfl .no (fun ha => V_move (v := (.int .i64 ((1 : Nat) : Int))) (EN ha (.tmp rfl rfl) rfl)) ?_
   refine D_val rfl .no (fun ha => V_add (i := (i : Int)) (j := ((1 : Nat) : Int)) (EN ha (.tmp rfl rfl) rfl) (EN ha (.tmp rfl rfl) rfl)) ?_
   rw [w2]
   refine D_atO rfl .no .h (fun ha hp => V_sliceLoO (j := i + 1) sl31.h ty22.h.sz hp rfl (EN ha (.tmp rfl rfl) rfl) (EN ha (.tmp rfl rfl) rfl) (by omega)) ?_
   refine D_val rfl .no (fun ha => V_move (v := (.slice (some ⟨k0, 0, none⟩) es.length (c + 3))) (EN ha (.tmp rfl rfl) rfl)) ?_
   refine D_val rfl .no (fun ha => V_move (v := (.int .i64 (i : Int))) (EN ha (.tmp rfl rfl) rfl)) ?_
   refine D_atO rfl .no (.t (.t .h)) (fun ha hp => V_sliceLoO (j := i) sl31.h ty22.h.sz hp rfl (EN ha (.tmp rfl rfl) rfl) (EN ha (.tmp rfl rfl) rfl) (by omega)) ?_
   refine D_act2 rfl rfl .no (.cons .h (.cons (.t .h) .nil)) (.dep rfl (.dep rfl .nil)) (fun ha => X_copy2 sl31.h ty22.h.sz rfl rfl rfl (EN ha (.tmp rfl rfl) rfl) (EN ha (.tmp rfl rfl) rfl) (by omega) (by omega) (by omega) (by simp; omega) (ins_l2 (e := e) (z := (.slice none 0 0)) hlt) (by omega)) (fun _ => ?_)
   refine D_nil ?_
   refine K_region ?_
   refine C_val (V_move (v := (.slice (some ⟨k2, 0, none⟩) (es.length + 1) 2)) (.tmp rfl rfl)) ?_
   refine C_val (V_assign (v := (.slice (some ⟨k2, 0, none⟩) (es.length + 1) 2)) (.tmp rfl rfl)) ?_
   refine C_nil ?_
   refine CW_ret ?_
   rw [hel]
   exact End_ret (⟨some ⟨k2, 0, none⟩, es.length + 1, 2⟩, [k2]) (.tmp rfl rfl .nil) rfl (.sel (.cons .h .nil))
 refine CW_skip ?_
 have hcl : es.length + 1 ≤ c := by simp only [decide_eq_false_iff_not] at hb2; omega
 refine K_region ?_
 refine C_val (V_move (v := (.slice (some ⟨k0, 0, none⟩) es.length (c + 3))) (.tmp rfl rfl)) ?_
 refine C_val (V_move (v := (.int .i64 (es.length : Int))) (.tmp rfl rfl)) ?_
 refine C_val (V_move (v := (.int .i64 ((1 : Nat) : Int))) (.tmp rfl rfl)) ?_
 refine C_val (V_add (i := (es.length : Int)) (j := ((1 : Nat) : Int)) (.tmp rfl rfl) (.tmp rfl rfl)) ?_
 rw [w1]
 refine C_at .h (fun hp => V_sliceCapO (j := es.length + 1) sl31.h ty22.h.sz hp rfl (.tmp rfl rfl) (.tmp rfl rfl) hcl) ?_
 refine C_val (V_assign (v := (.slice (some ⟨k0, 0, none⟩) (es.length + 1) (c + 3))) (.tmp rfl rfl)) ?_
 refine C_nil ?_
 refine K_in ?_
 refine K_region ?_
 refine C_val (V_move (v := (.slice (some ⟨k1, 0, none⟩) 1 m1)) (.tmp rfl rfl)) ?_
 refine C_val (V_move (v := (.slice (some ⟨k0, 0, none⟩) (es.length + 1) (c + 3))) (.tmp rfl rfl)) ?_
 refine C_val (V_move (v := (.int .i64 (i : Int))) (.tmp rfl rfl)) ?_
 refine C_val (V_move (v := (.int .i64 ((1 : Nat) : Int))) (.tmp rfl rfl)) ?_
 refine C_val (V_add (i := (i : Int)) (j := ((1 : Nat) : Int)) (.tmp rfl rfl) (.tmp rfl rfl)) ?_
 rw [w2]
 refine C_at .h (fun hp => V_sliceLoO (j := i + 1) sl31.h ty22.h.sz hp rfl (.tmp rfl rfl) (.tmp rfl rfl) (by omega)) ?_
 refine C_x2 (.cons (.t .h) (.cons .h .nil)) (X_overlaps sl31.h ty22.h.sz rfl hov191 rfl rfl (.tmp rfl rfl) (.tmp rfl rfl) (by omega) (by omega)) (fun _ => ?_)
 refine C_val (V_not (b := false) (.tmp rfl rfl)) ?_
 refine C_nil ?_
 refine CW_cond (b := (!false)) (.tmp rfl rfl) (fun _ => ?_) (fun h => absurd h (by decide))
 refine K_draw [0, 1, 2, 3, 4, 5, 6, 7, 8] [0, 0, 0, 6, 15, 0, 0, 96, 255] [8] mixed (by decide +kernel) ?_
 refine D_val rfl .no (fun ha => V_move (v := (.slice (some ⟨k0, 0, none⟩) (es.length + 1) (c + 3))) (EN ha (.tmp rfl rfl) rfl)) ?_
 refine D_val rfl .no (fun ha => V_move (v := (.int .i64 (i : Int))) (EN ha (.tmp rfl rfl) rfl)) ?_
 refine D_val rfl .no (fun ha => V_move (v := (.int .i64 ((1 : Nat) : Int))) (EN ha (.tmp rfl rfl) rfl)) ?_
 refine D_val rfl .no (fun ha => V_add (i := (i : Int)) (j := ((1 : Nat) : Int)) (EN ha (.tmp rfl rfl) rfl) (EN ha (.tmp rfl rfl) rfl)) ?_
 rw [w2]
 refine D_atO rfl .no (.t .h) (fun ha hp => V_sliceLoO (j := i + 1) sl31.h ty22.h.sz hp rfl (EN ha (.tmp rfl rfl) rfl) (EN ha (.tmp rfl rfl) rfl) (by omega)) ?_
 refine D_val rfl .no (fun ha => V_move (v := (.slice (some ⟨k0, 0, none⟩) (es.length + 1) (c + 3))) (EN ha (.tmp rfl rfl) rfl)) ?_
 refine D_val rfl .no (fun ha => V_move (v := (.int .i64 (i : Int))) (EN ha (.tmp rfl rfl) rfl)) ?_
 refine D_atO rfl .no (.t .h) (fun ha hp => V_sliceLoO (j := i) sl31.h ty22.h.sz hp rfl (EN ha (.tmp rfl rfl) rfl) (EN ha (.tmp rfl rfl) rfl) (by omega)) ?_
 refine D_act1 rfl rfl .no (.cons (.t .h) .nil) (.dep rfl (.dep rfl .nil)) (fun ha => X_copyS sl31.h ty22.h.sz rfl rfl (EN ha (.tmp rfl rfl) rfl) (EN ha (.tmp rfl rfl) rfl) (by omega) (by omega) (by omega) (by omega) (ins_l3 hlt) (by simp; omega)) (fun _ => ?_)
 refine D_nil ?_
 refine K_region ?_
 refine C_val (V_move (v := (.slice (some ⟨k0, 0, none⟩) (es.length + 1) (c + 3))) (.tmp rfl rfl)) ?_
 refine C_val (V_move (v := (.int .i64 (i : Int))) (.tmp rfl rfl)) ?_
 refine C_at .h (fun hp => V_sliceLoO (j := i) sl31.h ty22.h.sz hp rfl (.tmp rfl rfl) (.tmp rfl rfl) (by omega)) ?_
 refine C_val (V_move (v := (.slice (some ⟨k1, 0, none⟩) 1 m1)) (.tmp rfl rfl)) ?_
 refine C_x2 (.cons .h (.cons .h .nil)) (X_copy2 (m1 := 0) (m2 := m1) (ia := i) (ja := 0) (ld := es.length + 1 - i) (ls := 1) (es2 := [e]) (es' := es.take i ++ e :: es.drop i) sl31.h ty22.h.sz rfl rfl rfl (by exact .tmp rfl rfl) (by exact .tmp rfl rfl) (by omega) (by omega) (by rw [List.length_singleton]; omega) (by simp; omega) (ins_l4 (e := e) hlt) (by omega)) (fun _ => ?_)
 refine C_nil ?_
 refine K_region ?_
 refine C_val (V_move (v := (.slice (some ⟨k0, 0, none⟩) (es.length + 1) (c + 3))) (.tmp rfl rfl)) ?_
 refine C_val (V_assign (v := (.slice (some ⟨k0, 0, none⟩) (es.length + 1) (c + 3))) (.tmp rfl rfl)) ?_
 refine C_nil ?_
 refine K_uncap (t := 6) (k := k0) (l := es.length + 1) (c := c) rfl rfl ?_
 refine CW_ret ?_
 rw [hel]
 exact End_ret (⟨some ⟨k0, 0, none⟩, es.length + 1, 2⟩, F) (.tmp rfl rfl .nil) rfl (.sel (.cons .h .nil))
theorem g_slices_Insert_int_int_ok (a_s : List (List Int)) (v0_0 : Sv) (F0_0 : List Nat) (a_i : Int) (a_v : List (List Int)) (v2_0 : Sv) (F2_0 : List Nat) (R : List (List Int)) (hF : g_slices_Insert_int_int a_s a_i a_v = some R) :
   Fw.Spec Tryz.prog 159 [v0_0.v, .int .i64 a_i, v2_0.v] [cown (OwnS 22 (OwnS 3 (roE rdInt))) F0_0 v0_0.v a_s, cown (OwnS 22 (OwnS 3 (roE rdInt))) F2_0 v2_0.v a_v] (fun p : Sv × List Nat => p.1.v) (fun p => [cown (OwnS 22 (OwnS 3 (roE rdInt))) p.2 p.1.v R]) := by
 unfold g_slices_Insert_int_int at hF
 rcases a_v with _ | ⟨a, _ | ⟨_, _⟩⟩
 · simp at hF
 · dsimp only at hF
   split at hF
   · rename_i h
     obtain ⟨h0, h1, h2⟩ := h
     obtain ⟨i, rfl⟩ : ∃ i : Nat, a_i = (i : Int) := ⟨a_i.toNat, by omega⟩
     cases hF
     rw [Int.toNat_natCast] at h1 ⊢
     exact Spec_insD (s := 1) fun es e Fa Fb hl => g_slices_Insert_int_int_raw es e v0_0 v2_0 Fa Fb i (by omega) (by omega)
   · simp at hF
 · simp at hF
def i_addedTuple (a_l : List (List Int)) (a_t : List Int) : Option ((List (List Int))) :=
 (i_hasTuple a_l a_t).bind fun r2 =>
 if r2 then (
   some a_l)
 else (
   (g_slices_IndexFunc_int_int_iaddedTuple1 a_l a_t).bind fun r5 =>
   if (decide ((r5 : Int) < 0)) then (
     (g_slices_Clone_int_int a_t).bind fun r8 =>
     (g_slices_Insert_int_int a_l (a_l.length : Int) ([r8] : List (List Int))).bind fun r12 =>
     some r12)
   else (
     (g_slices_Clone_int_int a_t).bind fun r15 =>
     (g_slices_Insert_int_int a_l r5 ([r15] : List (List Int))).bind fun r19 =>
     some r19))
theorem i_addedTuple_ok (a_l : List (List Int)) (v0_0 : Sv) (F0_0 : List Nat) (a_t : List Int) (v1_0 : Sv) (R : (List (List Int))) (hF : i_addedTuple a_l a_t = some R) :
   Fw.Spec Tryz.prog 122 [v0_0.v, v1_0.v] [cown (OwnS 22 (OwnS 3 (roE rdInt))) F0_0 v0_0.v a_l, crd (RdS 3 rdInt) v1_0.v a_t] (fun p : Sv × List Nat => p.1.v) (fun p => [cown (OwnS 22 (OwnS 3 (roE rdInt))) p.2 p.1.v R]) := by
 refine Spec_enter (n := 23) Tryz.func122 rfl rfl (rs := [.tmp 4]) rfl rfl rfl ?_
 intro H0 F0
 unfold i_addedTuple at hF
 refine au ?_
 refine C_newR rfl (N_box (g := false) (v := v1_0.v) ty22.h.sz (.tmp rfl rfl) rfl) (fun k1 => ?_)
 iterate 6 refine au ?_
 obtain ⟨r2, hx3, hF⟩ := bind_some hF
 refine C_x1 (.cons (.t .h) (.rd (.t .h) rfl .nil)) (XC_bor frz_own (fun _ => .nil) (X_callS cf58.h (.cons (.tmp rfl rfl) (.cons (.tmp rfl rfl) .nil)) (i_hasTuple_ok a_l v0_0 a_t v1_0 _ hx3))) (fun _ => ?_)
 refine au ?_
 refine CW_cond (b := r2) (.tmp rfl rfl) (fun hb23 => ?_) (fun hb23 => ?_)
 · rw [if_pos hb23] at hF
   iterate 5 refine au ?_
   obtain rfl := Option.some.inj hF
   exact End_ret (v0_0, F0_0) (.tmp rfl rfl .nil) rfl (.sel (.cons .h .nil))
 rw [if_neg (by rw [hb23]; exact Bool.false_ne_true)] at hF
 iterate 3 refine au ?_
 refine C_val (V_makeFunc (fn := .func 158) (vs := []) (us := [(.pointer (some ⟨k1, 0, some 0⟩))]) .nil (.cons (.tmp rfl rfl) .nil)) ?_
 obtain ⟨r5, hx6, hF⟩ := bind_some hF
 refine C_x1 (.cons .h (.rd .h rfl (.rd (.t .h) rfl .nil))) (XC_bor frz_own (fun _ => .nil) (X_callS cf137.h (.cons (.tmp rfl rfl) (.cons (.tmp rfl rfl) .nil)) (g_slices_IndexFunc_int_int_iaddedTuple1_ok a_l v0_0 k1 a_t v1_0 _ hx6))) (fun _ => ?_)
 iterate 7 refine au ?_
 refine CW_cond (b := (decide ((r5 : Int) < 0))) (.tmp rfl rfl) (fun hb22 => ?_) (fun hb22 => ?_)
 · rw [if_pos hb22] at hF
   iterate 9 refine au ?_
   obtain ⟨r8, hx9, hF⟩ := bind_some hF
   refine C_x1 (.rd (.t (.t .h)) rfl .nil) (X_callS cf140.h (.cons (.tmp rfl rfl) .nil) (g_slices_Clone_int_int_ok a_t v1_0 _ hx9)) (fun p10 => ?_)
   refine C_new rfl (N_buildSliceT (g := true) sl31.h ty22.h (.cons (.tmp rfl rfl) .nil) (vs := [p10.1.v]) rfl rfl rfl (by intro v hv; simp at hv; rcases hv with rfl <;> rfl)) (fun k11 => ?_)
   refine C_conv (.cons .h (.cons .h .nil)) (own_lit (Ro := (OwnS 3 (roE rdInt))) (E := 22) (F := (p10.2 ++ [])) (xs := ([r8] : List (List Int))) (MkL_cons Mk_own MkL_nil apps) rfl rfl) apps ?_
   obtain ⟨r12, hx13, hF⟩ := bind_some hF
   refine C_x1 (.cons (.t .h) (.cons .h .nil)) (X_callS cf159.h (.cons (.tmp rfl rfl) (.cons (.tmp rfl rfl) (.cons (.tmp rfl rfl) .nil))) (g_slices_Insert_int_int_ok a_l v0_0 F0_0 (a_l.length : Int) ([r8] : List (List Int)) (⟨(some ⟨k11, 0, none⟩), 1, 1⟩) (k11 :: (p10.2 ++ [])) _ hx13)) (fun p14 => ?_)
   iterate 3 refine au ?_
   obtain rfl := Option.some.inj hF
   exact End_ret (p14.1, p14.2) (.tmp rfl rfl .nil) rfl (.sel (.cons .h .nil))
 rw [if_neg (by rw [hb22]; exact Bool.false_ne_true)] at hF
 iterate 5 refine au ?_
 obtain ⟨r15, hx16, hF⟩ := bind_some hF
 refine C_x1 (.rd (.t (.t .h)) rfl .nil) (X_callS cf140.h (.cons (.tmp rfl rfl) .nil) (g_slices_Clone_int_int_ok a_t v1_0 _ hx16)) (fun p17 => ?_)
 refine C_new rfl (N_buildSliceT (g := true) sl31.h ty22.h (.cons (.tmp rfl rfl) .nil) (vs := [p17.1.v]) rfl rfl rfl (by intro v hv; simp at hv; rcases hv with rfl <;> rfl)) (fun k18 => ?_)
 refine C_conv (.cons .h (.cons .h .nil)) (own_lit (Ro := (OwnS 3 (roE rdInt))) (E := 22) (F := (p17.2 ++ [])) (xs := ([r15] : List (List Int))) (MkL_cons Mk_own MkL_nil apps) rfl rfl) apps ?_
 obtain ⟨r19, hx20, hF⟩ := bind_some hF
 refine C_x1 (.cons (.t .h) (.cons .h .nil)) (X_callS cf159.h (.cons (.tmp rfl rfl) (.cons (.tmp rfl rfl) (.cons (.tmp rfl rfl) .nil))) (g_slices_Insert_int_int_ok a_l v0_0 F0_0 r5 ([r15] : List (List Int)) (⟨(some ⟨k18, 0, none⟩), 1, 1⟩) (k18 :: (p17.2 ++ [])) _ hx20)) (fun p21 => ?_)
 iterate 3 refine au ?_
 obtain rfl := Option.some.inj hF
 exact End_ret (p21.1, p21.2) (.tmp rfl rfl .nil) rfl (.sel (.cons .h .nil))
def i_tuplesOf_L1 (a_q : Query) : List Binding → Nat → (List (List Int)) → Option ((List (List Int)))
 | [], k9, c3 => some c3
 | x11 :: rest10, k9, c3 => (i_TupleOf a_q x11).bind fun r22 =>
   (i_addedTuple c3 r22).bind fun r25 =>
   i_tuplesOf_L1 a_q rest10 (k9 + 1) r25
def i_tuplesOf (a_q : Query) (a_bindings : List Binding) : Option ((List (List Int))) :=
 i_tuplesOf_L1 a_q a_bindings 0 ([] : List (List Int))
theorem i_tuplesOf_ok (a_q : Query) (v0_0 : Sv) (v0_1 : Sv) (a_bindings : List Binding) (v1_0 : Sv) (R : (List (List Int))) (hF : i_tuplesOf a_q a_bindings = some R) :
   Fw.Spec Tryz.prog 80 [(.agg [v0_0.v, v0_1.v].toArray), v1_0.v] [crd (RdS 3 rdInt) v0_0.v a_q.Head, crd (RdS 102 rd102) v0_1.v a_q.Atoms, crd (RdS 126 rd126) v1_0.v a_bindings] (fun p : Sv × List Nat => p.1.v) (fun p => [cown (OwnS 22 (OwnS 3 (roE rdInt))) p.2 p.1.v R]) := by
 refine Spec_enter (n := 22) Tryz.func80 rfl rfl (rs := [.tmp 4]) rfl rfl rfl ?_
 intro H0 F0
 unfold i_tuplesOf at hF
 refine au ?_
 refine C_newR rfl (N_box (g := false) (v := (.agg [v0_0.v, v0_1.v].toArray)) ty38.h.sz (.tmp rfl rfl) rfl) (fun k1 => ?_)
 iterate 3 refine au ?_
 refine C_new rfl (N_buildSliceT (g := true) sl31.h ty22.h .nil (vs := []) rfl rfl rfl (by simp)) (fun k2 => ?_)
 refine C_conv (.cons .h .nil) (own_lit (Ro := (OwnS 3 (roE rdInt))) (E := 22) (F := []) (xs := ([] : List (List Int))) MkL_nil rfl rfl) apps ?_
 iterate 8 refine au ?_
 refine CW_block (CW_loop (m := a_bindings.length) (fun m7 f' cs' => ∃ (g : Fr) (k9 : Nat) (rest10 : List Binding) (c3 : List (List Int)) (v4 : Sv) (F5 : List Nat), m7 = rest10.length ∧ f' = updL g [(2, (.pointer (some ⟨k1, 0, some 0⟩))), (5, v4.v), (9, v1_0.v), (10, (.int .i64 (a_bindings.length : Int))), (11, (.int .i64 (k9 : Int)))] ∧ List.drop k9 a_bindings = rest10 ∧ Ent cs' [cboR k1 38 (.agg [v0_0.v, v0_1.v].toArray), crd (RdS 3 rdInt) v0_0.v a_q.Head, crd (RdS 102 rd102) v0_1.v a_q.Atoms, cown (OwnS 22 (OwnS 3 (roE rdInt))) F5 v4.v c3, crd (RdS 126 rd126) v1_0.v a_bindings] ∧ i_tuplesOf_L1 a_q rest10 k9 c3 = some R) ⟨_, 0, _, _, ⟨(some ⟨k2, 0, none⟩), 0, 1⟩, (k2 :: []), rfl, (EqL.cons rfl (EqL.cons rfl (EqL.cons rfl (EqL.cons rfl (EqL.cons rfl (EqL.nil)))))).eq, rfl, (.sel (.rd (.t .h) rfl (.rd (.t (.t .h)) rfl (.rd (.t (.t (.t .h))) rfl (.cons .h (.rd (.t (.t (.t .h))) rfl .nil)))))), hF⟩ ?_)
 clear hF
 rintro m7 _ _ ⟨g8, k9, rest10, c3, v4, F5, rfl, rfl, hd12, hE, hF⟩
 refine K_ent hE ?_
 clear hE
 refine K_pure (c := crd (RdS 126 rd126) v1_0.v a_bindings) (.t (.t (.t (.t .h)))) crd_bound (fun hbd17 => ?_)
 rcases rest10 with _ | ⟨x11, rest10⟩
 · have hk13 := List.drop_eq_nil_iff.1 hd12
   have hfe16 : (decide (((k9 : Int) : Int) < (a_bindings.length : Int))) = false := decide_eq_false (by omega)
   rw [i_tuplesOf_L1] at hF
   iterate 4 refine au ?_
   refine CW_cond (b := (decide (((k9 : Int) : Int) < (a_bindings.length : Int)))) (.tmp rfl rfl) (fun hb => absurd (hfe16.symm.trans hb) (by decide)) (fun _ => ?_)
   iterate 9 refine au ?_
   obtain rfl := Option.some.inj hF
   exact End_ret (v4, F5) (.tmp rfl rfl .nil) rfl (.sel (.cons (.t (.t (.t .h))) .nil))
 obtain ⟨hk13, hx14, hd15⟩ := drop_cons hd12
 have hfe16 : (decide (((k9 : Int) : Int) < (a_bindings.length : Int))) = true := decide_eq_true (by omega)
 rw [i_tuplesOf_L1] at hF
 iterate 4 refine au ?_
 refine CW_cond (b := (decide (((k9 : Int) : Int) < (a_bindings.length : Int)))) (.tmp rfl rfl) (fun _ => ?_) (fun hb => absurd (hfe16.symm.trans hb) (by decide))
 iterate 3 refine au ?_
 refine C_idx (a := x11) sl106.h ty126.h.sz (.tmp rfl rfl) (.tmp rfl rfl) (.t (.t (.t (.t .h)))) (Int.natCast_nonneg k9) hx14 (fun k18 j19 => ?_)
 refine C_ldA2 (ul126_0_126 x11) ag126.h ty126.h.sz rfl (.tmp rfl rfl) .h la126_0_126 (fun p20 => ?_)
 refine C_new rfl (N_allocT (g := true) ty126.h rfl rfl) (fun k21 => ?_)
 refine C_x1 (.cons .h .nil) (X_storeB (e' := (.agg [p20.1.v, p20.2.v].toArray)) (v := (.agg [p20.1.v, p20.2.v].toArray)) ty126.h.sz (.tmp rfl rfl) (.tmp rfl rfl) rfl rfl rfl rfl rfl) (fun _ => ?_)
 iterate 5 refine au ?_
 obtain ⟨r22, hx23, hF⟩ := bind_some hF
 refine C_x1 (.rd (.t (.t (.t (.t (.t .h))))) rfl (.rd (.t (.t (.t (.t (.t (.t .h)))))) rfl (.rd (.t .h) rfl (.rd (.t (.t .h)) rfl .nil)))) (X_callS cf123.h (.cons (.tmp rfl rfl) (.cons (.tmp rfl rfl) .nil)) (i_TupleOf_ok a_q v0_0 v0_1 x11 p20.1 p20.2 _ hx23)) (fun p24 => ?_)
 refine C_frz .h frz_own ?_
 obtain ⟨r25, hx26, hF⟩ := bind_some hF
 refine C_x1 (.cons (.t (.t (.t (.t (.t (.t (.t (.t .h)))))))) (.rd .h rfl .nil)) (X_callS cf122.h (.cons (.tmp rfl rfl) (.cons (.tmp rfl rfl) .nil)) (i_addedTuple_ok c3 v4 F5 r22 p24.1 _ hx26)) (fun p27 => ?_)
 iterate 6 refine au ?_
 have hw28 : IntKind.i64.wrap ((k9 : Int) + 1) = ((k9 + 1 : Nat) : Int) := by rw [wrap_in (by omega) (by omega)]; rfl
 rw [hw28]
 exact ⟨_, Nat.lt_succ_self _, _, k9 + 1, rest10, _, p27.1, p27.2, rfl, (EqL.cons rfl (EqL.cons rfl (EqL.cons rfl (EqL.cons rfl (EqL.cons rfl (EqL.nil)))))).eq, hd15, (.sel (.rd (.t (.t (.t (.t (.t (.t .h)))))) rfl (.rd (.t (.t (.t (.t (.t (.t (.t .h))))))) rfl (.rd (.t (.t (.t (.t (.t (.t (.t (.t .h)))))))) rfl (.cons .h (.rd (.t (.t (.t (.t (.t (.t (.t (.t .h)))))))) rfl .nil)))))), hF⟩
def i_answers (a_q : Query) (a_facts : List Fact) : Option ((List (List Int))) :=
 (i_BindingsOf a_q a_facts).bind fun r2 =>
 (i_tuplesOf a_q r2).bind fun r5 =>
 some r5
theorem i_answers_ok (a_q : Query) (v0_0 : Sv) (v0_1 : Sv) (a_facts : List Fact) (v1_0 : Sv) (R : (List (List Int))) (hF : i_answers a_q a_facts = some R) :
   Fw.Spec Tryz.prog 47 [(.agg [v0_0.v, v0_1.v].toArray), v1_0.v] [crd (RdS 3 rdInt) v0_0.v a_q.Head, crd (RdS 102 rd102) v0_1.v a_q.Atoms, crd (RdS 80 rd80) v1_0.v a_facts] (fun p : Sv × List Nat => p.1.v) (fun p => [cown (OwnS 22 (OwnS 3 (roE rdInt))) p.2 p.1.v R]) := by
 refine Spec_enter (n := 10) Tryz.func47 rfl rfl (rs := [.tmp 4]) rfl rfl rfl ?_
 intro H0 F0
 unfold i_answers at hF
 refine K_region (C_newR rfl (N_box (g := false) (v := (.agg [v0_0.v, v0_1.v].toArray)) ty38.h.sz (.tmp rfl rfl) rfl) (fun k1 => ?_))
 refine C_val (V_assign (v := (.slice none 0 0)) EV.nilSlice) ?_
 refine C_nil (K_draw [0, 1, 2, 3, 4, 5] [0, 0, 0, 6, 15, 31] [3, 4] mixed (by decide +kernel) ?_)
 iterate 2 refine D_at rfl .no .h rfl (fun ha hp => V_loadBox ag38.h ty38.h.sz rfl (EN ha (.tmp rfl rfl) rfl) hp.2 rfl) ?_
 refine Dm v1_0.v rfl rfl rfl rfl ?_
 obtain ⟨r2, hx3, hF⟩ := bind_some hF
 refine D_act1 rfl rfl .no (.rd (.t .h) rfl (.rd (.t (.t .h)) rfl (.rd (.t (.t (.t .h))) rfl .nil))) .nil (fun ha => X_callS cf81.h (.cons (EN ha (.tmp rfl rfl) rfl) (.cons (EN ha (.tmp rfl rfl) rfl) .nil)) (i_BindingsOf_ok a_q v0_0 v0_1 a_facts v1_0 _ hx3)) (fun p4 => ?_)
 obtain ⟨r5, hx6, hF⟩ := bind_some hF
 refine D_act2 rfl rfl .no (.cons .h (.rd (.t .h) rfl (.rd (.t (.t .h)) rfl .nil))) .nil (fun ha => XC_bor frz_own (fun _ => (.cons .nil)) (XC_pre (.rd (.t .h) rfl (.rd (.t (.t .h)) rfl (.rd .h rfl .nil))) (X_callS cf80.h (.cons (EN ha (.tmp rfl rfl) rfl) (.cons (EN ha (.tmp rfl rfl) rfl) .nil)) (i_tuplesOf_ok a_q v0_0 v0_1 r2 p4.1 _ hx6)))) (fun p7 => ?_)
 refine Da p7.1.v rfl rfl rfl rfl ?_
 refine D_nil (CW_ret ?_)
 obtain rfl := Option.some.inj hF
 exact End_ret (p7.1, p7.2) (.tmp rfl rfl .nil) rfl (.sel (.cons (.t .h) .nil))
def i_AnswersOf (a_s : List Int) (a_q : Query) (a_facts : List Fact) : Option ((List (List Int))) :=
 ((i_IsQuery a_s a_q).bind fun r4 =>
   bif (!r4) then (some true)
   else ((i_AreFacts a_s a_facts).bind fun r8 =>
     some (!r8))).bind fun o2 =>
 match o2 with
 | c11 => if c11 then (
     some [])
   else (
     (i_answers a_q a_facts).bind fun r12 =>
     some r12)
theorem i_AnswersOf_ok (a_s : List Int) (v0_0 : Sv) (a_q : Query) (v1_0 : Sv) (v1_1 : Sv) (a_facts : List Fact) (v2_0 : Sv) (R : (List (List Int))) (hF : i_AnswersOf a_s a_q a_facts = some R) :
   Fw.Spec Tryz.prog 63 [v0_0.v, (.agg [v1_0.v, v1_1.v].toArray), v2_0.v] [crd (RdS 3 rdInt) v0_0.v a_s, crd (RdS 3 rdInt) v1_0.v a_q.Head, crd (RdS 102 rd102) v1_1.v a_q.Atoms, crd (RdS 80 rd80) v2_0.v a_facts] (fun p : Sv × List Nat => p.1.v) (fun p => [cown (OwnS 22 (OwnS 3 (roE rdInt))) p.2 p.1.v R]) := by
 refine Spec_enter (n := 20) Tryz.func63 rfl rfl (rs := [.tmp 6]) rfl rfl rfl ?_
 intro H0 F0
 unfold i_AnswersOf at hF
 refine au ?_
 refine AbR (fun k1 => ?_)
 iterate 3 refine au ?_
 obtain ⟨o2, hio2, hO3⟩ := bind_some hF
 refine au ?_
 refine C_cut (fun f' cs' => ∃ (c11 : Bool) (g : Fr), c11 = o2 ∧ f' = updL g [(2, v2_0.v), (4, (.pointer (some ⟨k1, 0, some 0⟩))), (16, (.bool c11))] ∧ Ent cs' [crd (RdS 80 rd80) v2_0.v a_facts, cboR k1 38 (.agg [v1_0.v, v1_1.v].toArray), crd (RdS 3 rdInt) v1_0.v a_q.Head, crd (RdS 102 rd102) v1_1.v a_q.Atoms]) ?_ ?_
 · replace hF := hio2
   iterate 2 refine au ?_
   obtain ⟨r4, hx5, hF⟩ := bind_some hF
   refine Cx0 (i_IsQuery_ok _ _ _ _ _ _ hx5) (fun _ => ?_)
   iterate 2 refine au ?_
   rcases Bool.eq_false_or_eq_true (!r4) with hg7 | hg7
   · rw [hg7]
     try rw [hg7] at hF; dsimp only [cond_true, cond_false] at hF
     iterate 6 refine au ?_
     cases hF
     exact ⟨_, _, rfl, eqA, entA⟩
   rw [hg7]
   try rw [hg7] at hF; dsimp only [cond_true, cond_false] at hF
   iterate 5 refine au ?_
   obtain ⟨r8, hx9, hF⟩ := bind_some hF
   refine Cx0 (i_AreFacts_ok _ _ _ _ _ hx9) (fun _ => ?_)
   iterate 4 refine au ?_
   cases hF
   exact ⟨_, _, rfl, eqA, entA⟩
 rintro _ _ ⟨c11, g16, rfl, rfl, hE⟩
 replace hF := hO3
 clear hO3
 try dsimp only at hF
 refine K_ent hE ?_
 refine Cc (fun hb15 => ?_) (fun hb15 => ?_)
 · rw [if_pos hb15] at hF
   iterate 4 refine au ?_
   cases hF
   exact End_ret (⟨none, 0, 0⟩, []) (.tmp rfl rfl .nil) rfl (.conv .nil (own_nil (Ro := (OwnS 3 (roE rdInt))) (E := 22)) (.cons .nil) (.sel (.cons .h .nil)))
 rw [if_neg (nt hb15)] at hF
 iterate 4 refine au ?_
 obtain ⟨r12, hx13, hF⟩ := bind_some hF
 refine Cx1 (i_answers_ok _ _ _ _ _ _ hx13) (fun p14 => ?_)
 iterate 3 refine au ?_
 cases hF
 exact Er (p14.1, p14.2)
def i_areAsked (a_s : List Int) (a_l : List Method) (a_q : Query) : Option (Bool) :=
 ((i_AreMethods a_s a_l).bind fun r4 =>
   bif r4 then ((i_IsQuery a_s a_q).bind fun r8 =>
     some r8)
   else (some false)).bind fun o2 =>
 match o2 with
 | c11 => some c11
theorem i_areAsked_ok (a_s : List Int) (v0_0 : Sv) (a_l : List Method) (v1_0 : Sv) (a_q : Query) (v2_0 : Sv) (v2_1 : Sv) (R : Bool) (hF : i_areAsked a_s a_l a_q = some R) :
   Fw.Spec Tryz.prog 45 [v0_0.v, v1_0.v, (.agg [v2_0.v, v2_1.v].toArray)] [crd (RdS 3 rdInt) v0_0.v a_s, crd (RdS 77 rd77) v1_0.v a_l, crd (RdS 3 rdInt) v2_0.v a_q.Head, crd (RdS 102 rd102) v2_1.v a_q.Atoms] (fun _ : Unit => (.bool R)) (fun _ => []) := by
 refine Spec_enter (n := 15) Tryz.func45 rfl rfl (rs := [.tmp 6]) rfl rfl rfl ?_
 intro H0 F0
 unfold i_areAsked at hF
 refine au ?_
 refine AbR (fun k1 => ?_)
 iterate 2 refine au ?_
 obtain ⟨o2, hio2, hO3⟩ := bind_some hF
 refine au ?_
 refine C_cut (fun f' cs' => ∃ (c11 : Bool) (g : Fr), c11 = o2 ∧ f' = updL g [(6, (.bool c11))] ∧ Ent cs' []) ?_ ?_
 · replace hF := hio2
   iterate 2 refine au ?_
   obtain ⟨r4, hx5, hF⟩ := bind_some hF
   refine Cx0 (i_AreMethods_ok _ _ _ _ _ hx5) (fun _ => ?_)
   refine au ?_
   rcases Bool.eq_false_or_eq_true r4 with hg7 | hg7
   · rw [hg7]
     try rw [hg7] at hF; dsimp only [cond_true, cond_false] at hF
     iterate 5 refine au ?_
     obtain ⟨r8, hx9, hF⟩ := bind_some hF
     refine Cx0 (i_IsQuery_ok _ _ _ _ _ _ hx9) (fun _ => ?_)
     iterate 3 refine au ?_
     cases hF
     exact ⟨_, _, rfl, eqA, entA⟩
   rw [hg7]
   try rw [hg7] at hF; dsimp only [cond_true, cond_false] at hF
   iterate 6 refine au ?_
   cases hF
   exact ⟨_, _, rfl, eqA, entA⟩
 rintro _ _ ⟨c11, g12, rfl, rfl, hE⟩
 replace hF := hO3
 clear hO3
 try dsimp only at hF
 refine K_ent hE ?_
 refine au ?_
 cases hF
 exact Er ()
def i_termsOf_iisValue_L2 : List Int → Nat → (List Int) → Option ((List Int))
 | [], k35, c29 => some c29
 | x37 :: rest36, k35, c29 => ((i_isValue x37).bind fun r48 =>
     if r48 then (
       (app c29 ([x37] : List Int)).bind fun z52 =>
       some z52)
     else (
       some c29)).bind fun o44 =>
   match o44 with
   | c56 => i_termsOf_iisValue_L2 rest36 (k35 + 1) c56
def i_termsOf_iisValue_L1 : List Atom → Nat → (List Int) → Option ((List Int))
 | [], k8, c2 => (g_slices_Sort_int_int c2).bind fun r17 =>
   (g_slices_Compact_int_int r17).bind fun r20 =>
   some r20
 | x10 :: rest9, k8, c2 => (i_termsOf_iisValue_L2 x10.Terms 0 c2).bind fun o23 =>
   match o23 with
   | c61 => i_termsOf_iisValue_L1 rest9 (k8 + 1) c61
def i_termsOf_iisValue (a_atoms : List Atom) : Option ((List Int)) :=
 i_termsOf_iisValue_L1 a_atoms 0 ([] : List Int)
theorem i_termsOf_iisValue_ok (a_atoms : List Atom) (v0_0 : Sv) (R : (List Int)) (hF : i_termsOf_iisValue a_atoms = some R) :
   Fw.Spec Tryz.prog 84 [v0_0.v, (.func (.func 85) [].toArray [].toArray)] [crd (RdS 102 rd102) v0_0.v a_atoms] (fun p : Sv × List Nat => p.1.v) (fun p => [cown (OwnS 3 (roE rdInt)) p.2 p.1.v R]) := by
 refine Spec_enter (n := 37) Tryz.func84 rfl rfl (rs := [.tmp 4]) rfl rfl rfl ?_
 intro H0 F0
 unfold i_termsOf_iisValue at hF
 iterate 4 refine au ?_
 refine C_new rfl (N_buildSliceT (g := true) sl22.h ty3.h .nil (vs := []) rfl rfl rfl (by simp)) (fun k1 => ?_)
 refine C_conv (.cons .h .nil) (own_lit (Ro := (roE rdInt)) (E := 3) (F := []) (xs := ([] : List Int)) MkL_nil rfl rfl) apps ?_
 iterate 8 refine au ?_
 refine CW_block (CW_loop (m := a_atoms.length) (fun m6 f' cs' => ∃ (g : Fr) (k8 : Nat) (rest9 : List Atom) (c2 : List Int) (v3 : Sv) (F4 : List Nat), m6 = rest9.length ∧ f' = updL g [(1, (.func (.func 85) [].toArray [].toArray)), (5, v3.v), (11, v0_0.v), (12, (.int .i64 (a_atoms.length : Int))), (13, (.int .i64 (k8 : Int)))] ∧ List.drop k8 a_atoms = rest9 ∧ Ent cs' [cown (OwnS 3 (roE rdInt)) F4 v3.v c2, crd (RdS 102 rd102) v0_0.v a_atoms] ∧ i_termsOf_iisValue_L1 rest9 k8 c2 = some R) ⟨_, 0, _, _, ⟨(some ⟨k1, 0, none⟩), 0, 1⟩, (k1 :: []), rfl, (EqL.cons rfl (EqL.cons rfl (EqL.cons rfl (EqL.cons rfl (EqL.cons rfl (EqL.nil)))))).eq, rfl, (.sel (.cons .h (.rd .h rfl .nil))), hF⟩ ?_)
 clear hF
 rintro m6 _ _ ⟨g7, k8, rest9, c2, v3, F4, rfl, rfl, hd11, hE, hF⟩
 refine K_ent hE ?_
 clear hE
 refine K_pure (c := crd (RdS 102 rd102) v0_0.v a_atoms) (.t .h) crd_bound (fun hbd16 => ?_)
 rcases rest9 with _ | ⟨x10, rest9⟩
 · have hk12 := List.drop_eq_nil_iff.1 hd11
   have hfe15 : (decide (((k8 : Int) : Int) < (a_atoms.length : Int))) = false := decide_eq_false (by omega)
   rw [i_termsOf_iisValue_L1] at hF
   iterate 4 refine au ?_
   refine CW_cond (b := (decide (((k8 : Int) : Int) < (a_atoms.length : Int)))) (.tmp rfl rfl) (fun hb => absurd (hfe15.symm.trans hb) (by decide)) (fun _ => ?_)
   iterate 6 refine au ?_
   obtain ⟨r17, hx18, hF⟩ := bind_some hF
   refine C_x1 (.cons .h .nil) (X_callS cf130.h (.cons (.tmp rfl rfl) .nil) (g_slices_Sort_int_int_ok c2 v3 F4 _ hx18)) (fun p19 => ?_)
   iterate 3 refine au ?_
   obtain ⟨r20, hx21, hF⟩ := bind_some hF
   refine C_x1 (.cons .h .nil) (X_callS cf131.h (.cons (.tmp rfl rfl) .nil) (g_slices_Compact_int_int_ok r17 v3 p19 _ hx21)) (fun p22 => ?_)
   iterate 3 refine au ?_
   obtain rfl := Option.some.inj hF
   exact End_ret (p22.1, p22.2) (.tmp rfl rfl .nil) rfl (.sel (.cons .h .nil))
 obtain ⟨hk12, hx13, hd14⟩ := drop_cons hd11
 have hfe15 : (decide (((k8 : Int) : Int) < (a_atoms.length : Int))) = true := decide_eq_true (by omega)
 rw [i_termsOf_iisValue_L1] at hF
 iterate 4 refine au ?_
 refine CW_cond (b := (decide (((k8 : Int) : Int) < (a_atoms.length : Int)))) (.tmp rfl rfl) (fun _ => ?_) (fun hb => absurd (hfe15.symm.trans hb) (by decide))
 refine au ?_
 obtain ⟨o23, hio23, hO24⟩ := bind_some hF
 refine K_cut (fun f' cs' => ∃ (c61 : List Int) (v62 : Sv) (F63 : List Nat) (g : Fr), c61 = o23 ∧ f' = updL g [(1, (.func (.func 85) [].toArray [].toArray)), (5, v62.v), (11, v0_0.v), (12, (.int .i64 (a_atoms.length : Int))), (13, (.int .i64 (k8 : Int)))] ∧ Ent cs' [cown (OwnS 3 (roE rdInt)) F63 v62.v c61, crd (RdS 102 rd102) v0_0.v a_atoms]) ?_ ?_
 · replace hF := hio23
   refine CW_block (K_region (C_idx (a := x10) sl36.h ty102.h.sz (.tmp rfl rfl) (.tmp rfl rfl) (.t .h) (Int.natCast_nonneg k8) hx13 (fun k25 j26 => ?_)))
   refine C_ldA1 (ul102_0_102 x10) ag102.h ty102.h.sz rfl (.tmp rfl rfl) .h la102_0_102 (fun p27 => ?_)
   refine C_new rfl (N_allocT (g := true) ty102.h rfl rfl) (fun k28 => ?_)
   refine C_x1 (.cons .h .nil) (X_storeB (e' := (.agg [(.int .i64 x10.Rel), p27.v].toArray)) (v := (.agg [(.int .i64 x10.Rel), p27.v].toArray)) ty102.h.sz (.tmp rfl rfl) (.tmp rfl rfl) rfl rfl rfl rfl rfl) (fun _ => ?_)
   iterate 7 refine au ?_
   refine CW_block (CW_loop (m := x10.Terms.length) (fun m33 f' cs' => ∃ (g : Fr) (k35 : Nat) (rest36 : List Int) (c29 : List Int) (v30 : Sv) (F31 : List Nat), m33 = rest36.length ∧ f' = updL g [(1, (.func (.func 85) [].toArray [].toArray)), (5, v30.v), (11, v0_0.v), (12, (.int .i64 (a_atoms.length : Int))), (13, (.int .i64 (k8 : Int))), (18, p27.v), (19, (.int .i64 (x10.Terms.length : Int))), (20, (.int .i64 (k35 : Int)))] ∧ List.drop k35 x10.Terms = rest36 ∧ Ent cs' [cown (OwnS 3 (roE rdInt)) F31 v30.v c29, crd (RdS 102 rd102) v0_0.v a_atoms, crd (RdS 3 rdInt) p27.v x10.Terms] ∧ i_termsOf_iisValue_L2 rest36 k35 c29 = some o23) ⟨_, 0, _, _, v3, F4, rfl, (EqL.cons rfl (EqL.cons rfl (EqL.cons rfl (EqL.cons rfl (EqL.cons rfl (EqL.cons rfl (EqL.cons rfl (EqL.cons rfl (EqL.nil))))))))).eq, rfl, (.sel (.cons (.t (.t (.t .h))) (.rd (.t (.t (.t .h))) rfl (.rd (.t .h) rfl .nil)))), hF⟩ ?_)
   clear hF
   rintro m33 _ _ ⟨g34, k35, rest36, c29, v30, F31, rfl, rfl, hd38, hE, hF⟩
   refine K_ent hE ?_
   clear hE
   refine K_pure (c := crd (RdS 3 rdInt) p27.v x10.Terms) (.t (.t .h)) crd_bound (fun hbd43 => ?_)
   rcases rest36 with _ | ⟨x37, rest36⟩
   · have hk39 := List.drop_eq_nil_iff.1 hd38
     have hfe42 : (decide (((k35 : Int) : Int) < (x10.Terms.length : Int))) = false := decide_eq_false (by omega)
     rw [i_termsOf_iisValue_L2] at hF
     iterate 4 refine au ?_
     refine CW_cond (b := (decide (((k35 : Int) : Int) < (x10.Terms.length : Int)))) (.tmp rfl rfl) (fun hb => absurd (hfe42.symm.trans hb) (by decide)) (fun _ => ?_)
     iterate 4 refine au ?_
     obtain rfl := Option.some.inj hF
     exact ⟨_, v30, F31, _, rfl, (EqL.cons rfl (EqL.cons rfl (EqL.cons rfl (EqL.cons rfl (EqL.cons rfl (EqL.nil)))))).eq, (.sel (.cons .h (.rd .h rfl .nil)))⟩
   obtain ⟨hk39, hx40, hd41⟩ := drop_cons hd38
   have hfe42 : (decide (((k35 : Int) : Int) < (x10.Terms.length : Int))) = true := decide_eq_true (by omega)
   rw [i_termsOf_iisValue_L2] at hF
   iterate 4 refine au ?_
   refine CW_cond (b := (decide (((k35 : Int) : Int) < (x10.Terms.length : Int)))) (.tmp rfl rfl) (fun _ => ?_) (fun hb => absurd (hfe42.symm.trans hb) (by decide))
   refine au ?_
   obtain ⟨o44, hio44, hO45⟩ := bind_some hF
   refine K_cut (fun f' cs' => ∃ (c56 : List Int) (v57 : Sv) (F58 : List Nat) (g : Fr), c56 = o44 ∧ f' = updL g [(1, (.func (.func 85) [].toArray [].toArray)), (5, v57.v), (11, v0_0.v), (12, (.int .i64 (a_atoms.length : Int))), (13, (.int .i64 (k8 : Int))), (18, p27.v), (19, (.int .i64 (x10.Terms.length : Int))), (20, (.int .i64 (k35 : Int)))] ∧ Ent cs' [cown (OwnS 3 (roE rdInt)) F58 v57.v c56, crd (RdS 102 rd102) v0_0.v a_atoms, crd (RdS 3 rdInt) p27.v x10.Terms]) ?_ ?_
   · replace hF := hio44
     refine CW_block (K_region (C_idx (a := x37) sl22.h ty3.h.sz (.tmp rfl rfl) (.tmp rfl rfl) (.t (.t .h)) (Int.natCast_nonneg k35) hx40 (fun k46 j47 => ?_)))
     refine C_ldS (w := (.int .i64 x37)) ag3.h (.tmp rfl rfl) .h ls3_0 ?_
     iterate 5 refine au ?_
     obtain ⟨r48, hx49, hF⟩ := bind_some hF
     refine C_x0 .nil (X_callCS cf85.h (.tmp rfl rfl) (.cons (.tmp rfl rfl) .nil) (i_isValue_ok x37 _ hx49)) (fun _ => ?_)
     refine au ?_
     refine CW_cond (b := r48) (.tmp rfl rfl) (fun hb55 => ?_) (fun hb55 => ?_)
     · rw [if_pos hb55] at hF
       iterate 3 refine au ?_
       refine C_new rfl (N_buildSliceT (g := true) sl22.h ty3.h (.cons (.tmp rfl rfl) .nil) (vs := [(.int .i64 x37)]) rfl rfl rfl (by intro v hv; simp at hv; rcases hv with rfl <;> rfl)) (fun k51 => ?_)
       refine C_conv (.cons .h .nil) (own_lit (Ro := (roE rdInt)) (E := 3) (F := ([] ++ [])) (xs := ([x37] : List Int)) (MkL_cons (Mk_pure (fun _ => rfl)) MkL_nil apps) rfl rfl) apps ?_
       obtain ⟨z52, hx53, hF⟩ := bind_some hF
       refine C_x1 (.cons (.t (.t .h)) (.cons .h .nil)) (X_appendO (Ro := (roE rdInt)) sl22.h ni22 ty3.h rfl rfl rfl (.tmp rfl rfl) (.tmp rfl rfl) hx53 src_own) (fun p54 => ?_)
       iterate 2 refine au ?_
       obtain rfl := Option.some.inj hF
       exact ⟨_, p54.1, p54.2, _, rfl, (EqL.cons rfl (EqL.cons rfl (EqL.cons rfl (EqL.cons rfl (EqL.cons rfl (EqL.cons rfl (EqL.cons rfl (EqL.cons rfl (EqL.nil))))))))).eq, (.sel (.cons .h (.rd (.t .h) rfl (.rd (.t (.t .h)) rfl .nil))))⟩
     rw [if_neg (by rw [hb55]; exact Bool.false_ne_true)] at hF
     refine au ?_
     obtain rfl := Option.some.inj hF
     exact ⟨_, v30, F31, _, rfl, (EqL.cons rfl (EqL.cons rfl (EqL.cons rfl (EqL.cons rfl (EqL.cons rfl (EqL.cons rfl (EqL.cons rfl (EqL.cons rfl (EqL.nil))))))))).eq, (.sel (.cons (.t .h) (.rd (.t .h) rfl (.rd (.t (.t .h)) rfl .nil))))⟩
   rintro _ _ ⟨c56, v57, F58, g60, rfl, rfl, hE⟩
   replace hF := hO45
   clear hO45
   try dsimp only at hF
   refine K_ent hE ?_
   iterate 4 refine au ?_
   have hw59 : IntKind.i64.wrap ((k35 : Int) + 1) = ((k35 + 1 : Nat) : Int) := by rw [wrap_in (by omega) (by omega)]; rfl
   rw [hw59]
   exact ⟨_, Nat.lt_succ_self _, _, k35 + 1, rest36, _, v57, F58, rfl, (EqL.cons rfl (EqL.cons rfl (EqL.cons rfl (EqL.cons rfl (EqL.cons rfl (EqL.cons rfl (EqL.cons rfl (EqL.cons rfl (EqL.nil))))))))).eq, hd41, (.sel (.cons .h (.rd .h rfl (.rd (.t .h) rfl .nil)))), hF⟩
 rintro _ _ ⟨c61, v62, F63, g65, rfl, rfl, hE⟩
 replace hF := hO24
 clear hO24
 try dsimp only at hF
 refine K_ent hE ?_
 iterate 4 refine au ?_
 have hw64 : IntKind.i64.wrap ((k8 : Int) + 1) = ((k8 + 1 : Nat) : Int) := by rw [wrap_in (by omega) (by omega)]; rfl
 rw [hw64]
 exact ⟨_, Nat.lt_succ_self _, _, k8 + 1, rest9, _, v62, F63, rfl, (EqL.cons rfl (EqL.cons rfl (EqL.cons rfl (EqL.cons rfl (EqL.cons rfl (EqL.nil)))))).eq, hd14, (.sel (.cons .h (.rd .h rfl .nil))), hF⟩
def i_ConstantsOf (a_q : Query) : Option ((List Int)) :=
 (i_termsOf_iisValue a_q.Atoms).bind fun r2 =>
 some r2
theorem i_ConstantsOf_ok (a_q : Query) (v0_0 : Sv) (v0_1 : Sv) (R : (List Int)) (hF : i_ConstantsOf a_q = some R) :
   Fw.Spec Tryz.prog 49 [(.agg [v0_0.v, v0_1.v].toArray)] [crd (RdS 3 rdInt) v0_0.v a_q.Head, crd (RdS 102 rd102) v0_1.v a_q.Atoms] (fun p : Sv × List Nat => p.1.v) (fun p => [cown (OwnS 3 (roE rdInt)) p.2 p.1.v R]) := by
 refine Spec_enter (n := 6) Tryz.func49 rfl rfl (rs := [.tmp 2]) rfl rfl rfl ?_
 intro H0 F0
 unfold i_ConstantsOf at hF
 refine au ?_
 refine AbR (fun k1 => ?_)
 iterate 5 refine au ?_
 obtain ⟨r2, hx3, hF⟩ := bind_some hF
 refine Cx1 (i_termsOf_iisValue_ok _ _ _ hx3) (fun p4 => ?_)
 iterate 3 refine au ?_
 cases hF
 exact Er (p4.1, p4.2)
def g_slices_Grow_int_int_nil (a_n : Int) : Option (List Int) :=
 if 0 ≤ a_n ∧ a_n < 4294967296 then some [] else none
theorem g_slices_Grow_int_int_nil_ok (a_n : Int) (R : List Int) (hF : g_slices_Grow_int_int_nil a_n = some R) :
   Fw.Spec Tryz.prog 195 [(.slice none 0 0), .int .i64 a_n] [] (fun p : Sv × List Nat => p.1.v) (fun p => [cown (OwnS 3 (roE rdInt)) p.2 p.1.v R]) := by
 unfold g_slices_Grow_int_int_nil at hF
 split at hF
 · rename_i h
   obtain ⟨h0, h1⟩ := h
   cases hF
   obtain ⟨q, rfl⟩ : ∃ q : Nat, a_n = (q : Int) := ⟨a_n.toNat, by omega⟩
   have w0 : IntKind.i64.wrap ((0 : Int) - ((0 : Nat) : Int)) = 0 := by decide
   have w1 : IntKind.i64.wrap ((q : Int) - 0) = (q : Int) := by rw [wrap_in (by omega) (by omega)]; omega
   refine Spec_enter (n := 27) Tryz.func195 rfl rfl (rs := [.tmp 4]) rfl rfl rfl ?_
   intro H0 F0
   iterate 8 refine au ?_
   refine CW_cond (b := (decide ((q : Int) < 0))) (.tmp rfl rfl) (fun hb => absurd hb (by simp only [decide_eq_true_eq]; omega)) (fun _ => ?_)
   iterate 5 refine au ?_
   refine C_val (V_capNil sl22.h (.tmp rfl rfl)) ?_
   refine au ?_
   refine C_val (V_lenR (l := 0) sl22.h (.tmp rfl rfl) ⟨none, 0, rfl⟩) ?_
   refine au ?_
   rw [w0]
   refine au ?_
   rw [w1]
   iterate 6 refine au ?_
   refine CW_cond (b := (decide ((0 : Int) < (q : Int)))) (.tmp rfl rfl) (fun hb => ?_) (fun hb => ?_)
   · have hq : 0 < q := by simp only [decide_eq_true_eq] at hb; omega
     iterate 3 refine au ?_
     refine C_val (V_capNil sl22.h (.tmp rfl rfl)) ?_
     refine C_val (V_sliceNilHi sl22.h ty3.h.sz (.tmp rfl rfl) (.tmp rfl rfl)) ?_
     refine au ?_
     refine C_x1 .nil (X_growNil (Ro := (roE rdInt)) (E := 3) sl22.h ik3 ty3.h rfl rfl rfl (by exact .tmp rfl rfl) (by exact .tmp rfl rfl) hq (by omega)) (fun k => ?_)
     refine au ?_
     refine C_val (V_lenR (l := 0) sl22.h (.tmp rfl rfl) ⟨none, 0, rfl⟩) ?_
     refine C_sliceHiD (i := ((0 : Nat) : Int)) sl22.h ty3.h.sz (by exact .tmp rfl rfl) (.inr rfl) (by exact .tmp rfl rfl) .h rfl (by omega) (by omega) (by omega) ?_
     iterate 7 refine au ?_
     exact End_ret (⟨some ⟨k, 0, none⟩, 0, 2⟩, [k]) (.tmp rfl rfl .nil) rfl (.sel (.cons .h .nil))
   · iterate 6 refine au ?_
     exact End_ret (⟨none, 0, 0⟩, []) (.tmp rfl rfl .nil) rfl (.conv .nil (own_nil (Ro := (roE rdInt)) (E := 3)) (.cons .nil) (.sel (.cons .h .nil)))
 · simp at hF
def g_slices_Concat_int_int_L2 : List (List Int) → Nat → (List Int) → Option ((List Int))
 | [], k23, c17 => some c17
 | x25 :: rest24, k23, c17 => (app c17 x25).bind fun z35 =>
   g_slices_Concat_int_int_L2 rest24 (k23 + 1) z35
def g_slices_Concat_int_int_L1 (a_slices : List (List Int)) : List (List Int) → Nat → Int → Option ((List Int))
 | [], k5, c1 => (g_slices_Grow_int_int_nil c1).bind fun r14 =>
   g_slices_Concat_int_int_L2 a_slices 0 r14
 | x7 :: rest6, k5, c1 => (if (decide (((IntKind.i64.wrap (c1 + (x7.length : Int))) : Int) < 0)) then (
       none)
     else (
       some ())).bind fun o39 =>
   match o39 with
   | _ => g_slices_Concat_int_int_L1 a_slices rest6 (k5 + 1) (IntKind.i64.wrap (c1 + (x7.length : Int)))
def g_slices_Concat_int_int (a_slices : List (List Int)) : Option ((List Int)) :=
 g_slices_Concat_int_int_L1 a_slices a_slices 0 0
theorem g_slices_Concat_int_int_ok (a_slices : List (List Int)) (v0_0 : Sv) (R : (List Int)) (hF : g_slices_Concat_int_int a_slices = some R) :
   Fw.Spec Tryz.prog 162 [v0_0.v] [crd (RdS 22 (RdS 3 rdInt)) v0_0.v a_slices] (fun p : Sv × List Nat => p.1.v) (fun p => [cown (OwnS 3 (roE rdInt)) p.2 p.1.v R]) := by
 refine Spec_enter (n := 36) Tryz.func162 rfl rfl (rs := [.tmp 2]) rfl rfl rfl ?_
 intro H0 F0
 unfold g_slices_Concat_int_int at hF
 iterate 12 refine au ?_
 refine CW_block (CW_loop (m := a_slices.length) (fun m3 f' cs' => ∃ (g : Fr) (k5 : Nat) (rest6 : List (List Int)) (c1 : Int), m3 = rest6.length ∧ f' = updL g [(0, v0_0.v), (3, (.int .i64 c1)), (9, v0_0.v), (10, (.int .i64 (a_slices.length : Int))), (11, (.int .i64 (k5 : Int)))] ∧ List.drop k5 a_slices = rest6 ∧ Ent cs' [crd (RdS 22 (RdS 3 rdInt)) v0_0.v a_slices] ∧ g_slices_Concat_int_int_L1 a_slices rest6 k5 c1 = some R) ⟨_, 0, _, _, rfl, eqA, rfl, entA, hF⟩ ?_)
 clear hF
 rintro m3 _ _ ⟨g4, k5, rest6, c1, rfl, rfl, hd8, hE, hF⟩
 refine K_ent hE ?_
 clear hE
 refine K_pure (c := crd (RdS 22 (RdS 3 rdInt)) v0_0.v a_slices) .h crd_bound (fun hbd13 => ?_)
 rcases rest6 with _ | ⟨x7, rest6⟩
 · have hk9 := List.drop_eq_nil_iff.1 hd8
   rw [g_slices_Concat_int_int_L1] at hF
   iterate 4 refine au ?_
   refine CdF ?_
   iterate 6 refine au ?_
   obtain ⟨r14, hx15, hF⟩ := bind_some hF
   refine Cx1 (g_slices_Grow_int_int_nil_ok _ _ hx15) (fun p16 => ?_)
   iterate 8 refine au ?_
   refine CW_block (CW_loop (m := a_slices.length) (fun m21 f' cs' => ∃ (g : Fr) (k23 : Nat) (rest24 : List (List Int)) (c17 : List Int) (v18 : Sv) (F19 : List Nat), m21 = rest24.length ∧ f' = updL g [(6, v18.v), (25, v0_0.v), (26, (.int .i64 (a_slices.length : Int))), (27, (.int .i64 (k23 : Int)))] ∧ List.drop k23 a_slices = rest24 ∧ Ent cs' [cown (OwnS 3 (roE rdInt)) F19 v18.v c17, crd (RdS 22 (RdS 3 rdInt)) v0_0.v a_slices] ∧ g_slices_Concat_int_int_L2 rest24 k23 c17 = some R) ⟨_, 0, _, _, p16.1, p16.2, rfl, eqA, rfl, entA, hF⟩ ?_)
   clear hF
   rintro m21 _ _ ⟨g22, k23, rest24, c17, v18, F19, rfl, rfl, hd26, hE, hF⟩
   refine K_ent hE ?_
   clear hE
   refine K_pure (c := crd (RdS 22 (RdS 3 rdInt)) v0_0.v a_slices) (.t .h) crd_bound (fun hbd31 => ?_)
   rcases rest24 with _ | ⟨x25, rest24⟩
   · have hk27 := List.drop_eq_nil_iff.1 hd26
     rw [g_slices_Concat_int_int_L2] at hF
     iterate 4 refine au ?_
     refine CdF ?_
     iterate 9 refine au ?_
     cases hF
     exact Er (v18, F19)
   obtain ⟨hk27, hx28, hd29⟩ := drop_cons hd26
   rw [g_slices_Concat_int_int_L2] at hF
   iterate 4 refine au ?_
   refine CdT ?_
   iterate 3 refine au ?_
   refine Ai hx28 (fun k32 j33 => ?_)
   refine C_ldV (R' := (RdS 3 rdInt)) ag22.h (.tmp rfl rfl) .h lv22_0 (fun w34 => ?_)
   iterate 5 refine au ?_
   obtain ⟨z35, hx36, hF⟩ := bind_some hF
   refine C_x1 (.cons (.t (.t .h)) (.rd .h rfl .nil)) (X_appendO (Ro := (roE rdInt)) sl22.h ni22 ty3.h rfl rfl rfl (.tmp rfl rfl) (.tmp rfl rfl) hx36 src_rd) (fun p37 => ?_)
   iterate 6 refine au ?_
   rw [wk k23]
   exact ⟨_, Nat.lt_succ_self _, _, k23 + 1, rest24, _, p37.1, p37.2, rfl, eqA, hd29, entA, hF⟩
 obtain ⟨hk9, hx10, hd11⟩ := drop_cons hd8
 rw [g_slices_Concat_int_int_L1] at hF
 iterate 4 refine au ?_
 refine CdT ?_
 refine au ?_
 obtain ⟨o39, hio39, hO40⟩ := bind_some hF
 refine K_cut (fun f' cs' => ∃ (g : Fr), o39 = () ∧ f' = updL g [(0, v0_0.v), (3, (.int .i64 (IntKind.i64.wrap (c1 + (x7.length : Int))))), (9, v0_0.v), (10, (.int .i64 (a_slices.length : Int))), (11, (.int .i64 (k5 : Int)))] ∧ Ent cs' [crd (RdS 22 (RdS 3 rdInt)) v0_0.v a_slices]) ?_ ?_
 · replace hF := hio39
   refine CW_block (K_region (C_idx (a := x7) sl31.h ty22.h.sz (.tmp rfl rfl) (.tmp rfl rfl) .h (Int.natCast_nonneg k5) hx10 (fun k41 j42 => ?_)))
   refine C_ldV (R' := (RdS 3 rdInt)) ag22.h (.tmp rfl rfl) .h lv22_0 (fun w43 => ?_)
   iterate 13 refine au ?_
   refine Cc (fun hb44 => ?_) (fun hb44 => ?_)
   · rw [if_pos hb44] at hF
     exact absurd hF (by simp)
   rw [if_neg (nt hb44)] at hF
   refine au ?_
   cases hF
   exact ⟨_, rfl, eqA, entA⟩
 rintro _ _ ⟨g46, rfl, rfl, hE⟩
 replace hF := hO40
 clear hO40
 try dsimp only at hF
 refine K_ent hE ?_
 iterate 4 refine au ?_
 rw [wk k5]
 exact ⟨_, Nat.lt_succ_self _, _, k5 + 1, rest6, _, rfl, eqA, hd11, entA, hF⟩
def i_withValues_L1 (r3 : (List Int)) : Nat → (List Int) → Int → Option ((List Int))
 | 0, _, _ => none
 | m10 + 1, c6, c9 => if (decide ((c9 : Int) < (r3.length : Int))) then (
     ((ix r3 c9).bind fun x23 =>
       (i_isValue x23).bind fun r27 =>
       if r27 then (
         (app c6 ([x23] : List Int)).bind fun z31 =>
         some z31)
       else (
         some c6)).bind fun o18 =>
     match o18 with
     | c35 => i_withValues_L1 r3 m10 c35 (IntKind.i64.wrap (c9 + 1)))
   else (
     (g_slices_Sort_int_int c6).bind fun r39 =>
     (g_slices_Compact_int_int r39).bind fun r42 =>
     some r42)
def i_withValues (a_l : List Int) (a_more : List Int) : Option ((List Int)) :=
 (g_slices_Concat_int_int ([a_l, a_more] : List (List Int))).bind fun r3 =>
 i_withValues_L1 r3 (((r3.length : Int) - 0).toNat + 2) ([] : List Int) 0
theorem i_withValues_ok (a_l : List Int) (v0_0 : Sv) (a_more : List Int) (v1_0 : Sv) (R : (List Int)) (hF : i_withValues a_l a_more = some R) :
   Fw.Spec Tryz.prog 125 [v0_0.v, v1_0.v] [crd (RdS 3 rdInt) v0_0.v a_l, crd (RdS 3 rdInt) v1_0.v a_more] (fun p : Sv × List Nat => p.1.v) (fun p => [cown (OwnS 3 (roE rdInt)) p.2 p.1.v R]) := by
 refine Spec_enter (n := 29) Tryz.func125 rfl rfl (rs := [.tmp 4]) rfl rfl rfl ?_
 intro H0 F0
 unfold i_withValues at hF
 iterate 4 refine au ?_
 refine C_new rfl (N_buildSliceT (g := true) sl22.h ty3.h .nil (vs := []) rfl rfl rfl (by simp)) (fun k1 => ?_)
 refine C_conv (.cons .h .nil) (own_lit (Ro := (roE rdInt)) (E := 3) (F := []) (xs := ([] : List Int)) MkL_nil rfl rfl) apps ?_
 iterate 6 refine au ?_
 refine C_new rfl (N_buildSliceT (g := true) sl31.h ty22.h (.cons (.tmp rfl rfl) (.cons (.tmp rfl rfl) .nil)) (vs := [v0_0.v, v1_0.v]) rfl rfl rfl (by intro v hv; simp at hv; rcases hv with rfl | rfl <;> rfl)) (fun k2 => ?_)
 refine C_conv (.cons .h (.rd (.t .h) rfl (.rd (.t (.t .h)) rfl .nil))) (own_lit (Ro := (roE (RdS 3 rdInt))) (E := 22) (F := ([] ++ ([] ++ []))) (xs := ([a_l, a_more] : List (List Int))) (MkL_cons Mk_rd (MkL_cons Mk_rd MkL_nil apps) apps) rfl rfl) apps ?_
 obtain ⟨r3, hx4, hF⟩ := bind_some hF
 refine C_x2 (.cons .h .nil) (XC_bor frz_own (fun _ => (.cons .nil)) (X_callS cf162.h (.cons (.tmp rfl rfl) .nil) (g_slices_Concat_int_int_ok ([a_l, a_more] : List (List Int)) (⟨(some ⟨k2, 0, none⟩), 2, 1⟩) _ hx4))) (fun p5 => ?_)
 iterate 3 refine au ?_
 refine CW_block (CW_loop (m := (((r3.length : Int) - 0).toNat + 2)) (fun m10 f' cs' => ∃ (g : Fr) (c6 : List Int) (c9 : Int) (v7 : Sv) (F8 : List Nat), f' = updL g [(5, v7.v), (12, p5.1.v), (13, (.int .i64 (r3.length : Int))), (14, (.int .i64 c9))] ∧ Ent cs' [cown (OwnS 3 (roE rdInt)) F8 v7.v c6, cown (OwnS 3 (roE rdInt)) p5.2 p5.1.v r3] ∧ i_withValues_L1 r3 m10 c6 c9 = some R) ⟨_, _, _, ⟨(some ⟨k1, 0, none⟩), 0, 1⟩, (k1 :: []), (EqL.cons rfl (EqL.cons rfl (EqL.cons rfl (EqL.cons rfl (EqL.nil))))).eq, (.sel (.cons (.t (.t .h)) (.cons (.t .h) .nil))), hF⟩ ?_)
 clear hF
 rintro m10 _ _ ⟨g11, c6, c9, v7, F8, rfl, hE, hF⟩
 refine K_ent hE ?_
 clear hE
 rcases m10 with _ | m10
 · rw [i_withValues_L1] at hF
   exact absurd hF (by simp)
 rw [i_withValues_L1] at hF
 iterate 4 refine au ?_
 refine CW_cond (b := (decide ((c9 : Int) < (r3.length : Int)))) (.tmp rfl rfl) (fun hb45 => ?_) (fun hb45 => ?_)
 · rw [if_pos hb45] at hF
   refine au ?_
   obtain ⟨o18, hio18, hO19⟩ := bind_some hF
   refine K_cut (fun f' cs' => ∃ (c35 : List Int) (v36 : Sv) (F37 : List Nat) (g : Fr), c35 = o18 ∧ f' = updL g [(5, v36.v), (12, p5.1.v), (13, (.int .i64 (r3.length : Int))), (14, (.int .i64 c9))] ∧ Ent cs' [cown (OwnS 3 (roE rdInt)) F37 v36.v c35, cown (OwnS 3 (roE rdInt)) p5.2 p5.1.v r3]) ?_ ?_
   · replace hF := hio18
     refine CW_block (K_region ?_)
     obtain ⟨x23, hx24, hF⟩ := bind_some hF
     have hi22 := ix_chk hx24
     obtain ⟨hp25, hx26⟩ := ix_some hx24
     refine C_idxO sl22.h ty3.h.sz (.tmp rfl rfl) (.tmp rfl rfl) (.t .h) hi22 (fun k20 hk21 => ?_)
     refine C_ldO (w := (.int .i64 x23)) ag3.h (.tmp rfl rfl) (.t .h) hk21 hx26 lo3_0 ?_
     iterate 4 refine au ?_
     obtain ⟨r27, hx28, hF⟩ := bind_some hF
     refine C_x0 .nil (X_callS cf85.h (.cons (.tmp rfl rfl) .nil) (i_isValue_ok x23 _ hx28)) (fun _ => ?_)
     refine au ?_
     refine CW_cond (b := r27) (.tmp rfl rfl) (fun hb34 => ?_) (fun hb34 => ?_)
     · rw [if_pos hb34] at hF
       iterate 3 refine au ?_
       refine C_new rfl (N_buildSliceT (g := true) sl22.h ty3.h (.cons (.tmp rfl rfl) .nil) (vs := [(.int .i64 x23)]) rfl rfl rfl (by intro v hv; simp at hv; rcases hv with rfl <;> rfl)) (fun k30 => ?_)
       refine C_conv (.cons .h .nil) (own_lit (Ro := (roE rdInt)) (E := 3) (F := ([] ++ [])) (xs := ([x23] : List Int)) (MkL_cons (Mk_pure (fun _ => rfl)) MkL_nil apps) rfl rfl) apps ?_
       obtain ⟨z31, hx32, hF⟩ := bind_some hF
       refine C_x1 (.cons (.t .h) (.cons .h .nil)) (X_appendO (Ro := (roE rdInt)) sl22.h ni22 ty3.h rfl rfl rfl (.tmp rfl rfl) (.tmp rfl rfl) hx32 src_own) (fun p33 => ?_)
       iterate 2 refine au ?_
       obtain rfl := Option.some.inj hF
       exact ⟨_, p33.1, p33.2, _, rfl, (EqL.cons rfl (EqL.cons rfl (EqL.cons rfl (EqL.cons rfl (EqL.nil))))).eq, (.sel (.cons .h (.cons .h .nil)))⟩
     rw [if_neg (by rw [hb34]; exact Bool.false_ne_true)] at hF
     refine au ?_
     obtain rfl := Option.some.inj hF
     exact ⟨_, v7, F8, _, rfl, (EqL.cons rfl (EqL.cons rfl (EqL.cons rfl (EqL.cons rfl (EqL.nil))))).eq, (.sel (.cons .h (.cons .h .nil)))⟩
   rintro _ _ ⟨c35, v36, F37, g38, rfl, rfl, hE⟩
   replace hF := hO19
   clear hO19
   try dsimp only at hF
   refine K_ent hE ?_
   iterate 4 refine au ?_
   exact ⟨m10, Nat.lt_succ_self _, _, _, _, v36, F37, (EqL.cons rfl (EqL.cons rfl (EqL.cons rfl (EqL.cons rfl (EqL.nil))))).eq, (.sel (.cons .h (.cons .h .nil))), hF⟩
 rw [if_neg (by rw [hb45]; exact Bool.false_ne_true)] at hF
 iterate 6 refine au ?_
 obtain ⟨r39, hx40, hF⟩ := bind_some hF
 refine C_x1 (.cons .h .nil) (X_callS cf130.h (.cons (.tmp rfl rfl) .nil) (g_slices_Sort_int_int_ok c6 v7 F8 _ hx40)) (fun p41 => ?_)
 iterate 3 refine au ?_
 obtain ⟨r42, hx43, hF⟩ := bind_some hF
 refine C_x1 (.cons .h .nil) (X_callS cf131.h (.cons (.tmp rfl rfl) .nil) (g_slices_Compact_int_int_ok r39 v7 p41 _ hx43)) (fun p44 => ?_)
 iterate 3 refine au ?_
 obtain rfl := Option.some.inj hF
 exact End_ret (p44.1, p44.2) (.tmp rfl rfl .nil) rfl (.sel (.cons .h .nil))
def i_StartReach (a_seeds : List Int) : Option (Reached) :=
 (i_withValues a_seeds []).bind fun r2 =>
 some ({ Facts := [], Values := r2, Log := [], Rounds := 0 } : Reached)
theorem i_StartReach_ok (a_seeds : List Int) (v0_0 : Sv) (R : Reached) (hF : i_StartReach a_seeds = some R) :
   Fw.Spec Tryz.prog 82 [v0_0.v] [crd (RdS 3 rdInt) v0_0.v a_seeds] (fun p : Sv × List Nat × Sv × List Nat × Sv × List Nat => (.agg [p.1.v, p.2.2.1.v, p.2.2.2.2.1.v, (.int .i64 R.Rounds)].toArray)) (fun p => [cown (OwnS 80 ow80) p.2.1 p.1.v R.Facts, cown (OwnS 3 (roE rdInt)) p.2.2.2.1 p.2.2.1.v R.Values, cown (OwnS 141 ow141) p.2.2.2.2.2 p.2.2.2.2.1.v R.Log]) := by
 refine Spec_enter (n := 6) Tryz.func82 rfl rfl (rs := [.cell 2 73]) rfl rfl rfl ?_
 intro H0 F0
 unfold i_StartReach at hF
 refine au ?_
 refine AnW (fun k1 => ?_)
 iterate 3 refine au ?_
 refine Cv1 .nil (rd_nil (R := rdInt) (E := 3)) ?_
 obtain ⟨r2, hx3, hF⟩ := bind_some hF
 refine Cx1 (i_withValues_ok _ _ _ (⟨none, 0, 0⟩) _ hx3) (fun p4 => ?_)
 refine C_val (V_build ty73.h rfl (vs := [p4.1.v]) (.cons (.tmp rfl rfl) .nil) (cells := [(.slice none 0 0), p4.1.v, (.slice none 0 0), (.int .i64 0)]) rfl) ?_
 refine As (.agg [(.slice none 0 0), p4.1.v, (.slice none 0 0), (.int .i64 0)].toArray) ?_
 iterate 2 refine au ?_
 cases hF
 exact End_ret (⟨none, 0, 0⟩, [], p4.1, p4.2, ⟨none, 0, 0⟩, []) (.cellA rfl rfl .h rfl ag73.h ty73.h.sz rfl rfl .nil) rfl (.conv .nil (own_nil (Ro := ow80) (E := 80)) (.cons .nil) (.conv .nil (own_nil (Ro := ow141) (E := 141)) (.cons .nil) (.sel (.cons (.t .h) (.cons (.t (.t .h)) (.cons .h .nil))))))
def i_lists_L4 (x79 : List Int) : List Int → Nat → (List (List Int)) → Option ((List (List Int)))
 | [], k97, c91 => some c91
 | x99 :: rest98, k97, c91 => (g_slices_Clone_int_int x79).bind fun r108 =>
   (app r108 ([x99] : List Int)).bind fun z112 =>
   (app c91 ([z112] : List (List Int))).bind fun z116 =>
   i_lists_L4 x79 rest98 (k97 + 1) z116
def i_lists_L2 (a_values : List Int) : List (List Int) → Nat → (List (List Int)) → Option ((List (List Int)))
 | [], k77, c71 => some c71
 | x79 :: rest78, k77, c71 => (i_lists_L4 x79 a_values 0 c71).bind fun o86 =>
   match o86 with
   | c120 => i_lists_L2 a_values rest78 (k77 + 1) c120
def i_lists_L1 (a_values : List Int) (a_n : Int) : Nat → (List (List Int)) → Int → Option ((List (List Int)))
 | 0, _, _ => none
 | m7 + 1, c3, c6 => if (decide ((c6 : Int) < a_n)) then (
     (i_lists_L2 a_values c3 0 ([] : List (List Int))).bind fun o15 =>
     match o15 with
     | c125 => i_lists_L1 a_values a_n m7 c125 (IntKind.i64.wrap (c6 + 1)))
   else (
     some c3)
def i_lists (a_values : List Int) (a_n : Int) : Option ((List (List Int))) :=
 i_lists_L1 a_values a_n ((a_n - 0).toNat + 2) ([([] : List Int)] : List (List Int)) 0
theorem i_lists_ok (a_values : List Int) (v0_0 : Sv) (a_n : Int) (R : (List (List Int))) (hF : i_lists a_values a_n = some R) :
   Fw.Spec Tryz.prog 163 [v0_0.v, (.int .i64 a_n)] [crd (RdS 3 rdInt) v0_0.v a_values] (fun p : Sv × List Nat => p.1.v) (fun p => [cown (OwnS 22 (OwnS 3 (roE rdInt))) p.2 p.1.v R]) := by
 refine Spec_enter (n := 42) Tryz.func163 rfl rfl (rs := [.tmp 4]) rfl rfl rfl ?_
 intro H0 F0
 unfold i_lists at hF
 iterate 4 refine au ?_
 refine C_new rfl (N_buildSliceT (g := true) sl22.h ty3.h .nil (vs := []) rfl rfl rfl (by simp)) (fun k1 => ?_)
 refine Cv1 (.cons .h .nil) (own_lit (Ro := (roE rdInt)) (E := 3) (F := []) (xs := ([] : List Int)) MkL_nil rfl rfl) ?_
 refine C_new rfl (N_buildSliceT (g := true) sl31.h ty22.h (.cons (.tmp rfl rfl) .nil) (vs := [(.slice (some ⟨k1, 0, none⟩) 0 1)]) rfl rfl rfl (by intro v hv; simp at hv; rcases hv with rfl <;> rfl)) (fun k2 => ?_)
 refine Cv1 (.cons .h (.cons .h .nil)) (own_lit (Ro := (OwnS 3 (roE rdInt))) (E := 22) (F := ((k1 :: []) ++ [])) (xs := ([([] : List Int)] : List (List Int))) (MkL_cons Mk_own MkL_nil apps) rfl rfl) ?_
 iterate 7 refine au ?_
 refine CW_block (CW_loop (m := ((a_n - 0).toNat + 2)) (fun m7 f' cs' => ∃ (g : Fr) (c3 : List (List Int)) (c6 : Int) (v4 : Sv) (F5 : List Nat), f' = updL g [(0, v0_0.v), (5, v4.v), (13, (.int .i64 a_n)), (14, (.int .i64 c6))] ∧ Ent cs' [crd (RdS 3 rdInt) v0_0.v a_values, cown (OwnS 22 (OwnS 3 (roE rdInt))) F5 v4.v c3] ∧ i_lists_L1 a_values a_n m7 c3 c6 = some R) ⟨_, _, _, ⟨(some ⟨k2, 0, none⟩), 1, 1⟩, (k2 :: ((k1 :: []) ++ [])), eqA, entA, hF⟩ ?_)
 clear hF
 rintro m7 _ _ ⟨g8, c3, c6, v4, F5, rfl, hE, hF⟩
 refine K_ent hE ?_
 clear hE
 rcases m7 with _ | m7
 · rw [i_lists_L1] at hF
   exact absurd hF (by simp)
 rw [i_lists_L1] at hF
 iterate 4 refine au ?_
 refine Cc (fun hb129 => ?_) (fun hb129 => ?_)
 · rw [if_pos hb129] at hF
   refine au ?_
   obtain ⟨o15, hio15, hO16⟩ := bind_some hF
   refine K_cut (fun f' cs' => ∃ (c125 : List (List Int)) (v126 : Sv) (F127 : List Nat) (g : Fr), c125 = o15 ∧ f' = updL g [(0, v0_0.v), (5, v126.v), (13, (.int .i64 a_n)), (14, (.int .i64 c6))] ∧ Ent cs' [crd (RdS 3 rdInt) v0_0.v a_values, cown (OwnS 22 (OwnS 3 (roE rdInt))) F127 v126.v c125]) ?_ ?_
   · replace hF := hio15
     refine CW_block (K_region (C_new rfl (N_buildSliceT (g := true) sl31.h ty22.h .nil (vs := []) rfl rfl rfl (by simp)) (fun k17 => ?_)))
     refine Cv1 (.cons .h .nil) (own_lit (Ro := (OwnS 3 (roE rdInt))) (E := 22) (F := []) (xs := ([] : List (List Int))) MkL_nil rfl rfl) ?_
     iterate 8 refine au ?_
     refine CW_block (K_frz (.t (.t .h)) frz_own ?_)
     refine CW_loop (m := c3.length) (fun m75 f' cs' => ∃ (g : Fr) (k77 : Nat) (rest78 : List (List Int)) (c71 : List (List Int)) (v72 : Sv) (F73 : List Nat), m75 = rest78.length ∧ f' = updL g [(0, v0_0.v), (6, v72.v), (13, (.int .i64 a_n)), (14, (.int .i64 c6)), (17, v4.v), (18, (.int .i64 (c3.length : Int))), (19, (.int .i64 (k77 : Int)))] ∧ List.drop k77 c3 = rest78 ∧ Ent cs' [crd (RdS 3 rdInt) v0_0.v a_values, cown (OwnS 22 (OwnS 3 (roE rdInt))) F73 v72.v c71, crd (RdS 22 (RdS 3 rdInt)) v4.v c3] ∧ i_lists_L2 a_values rest78 k77 c71 = some o15) ⟨_, 0, _, _, ⟨(some ⟨k17, 0, none⟩), 0, 1⟩, (k17 :: []), rfl, eqA, rfl, entA, hF⟩ ?_
     clear hF
     rintro m75 _ _ ⟨g76, k77, rest78, c71, v72, F73, rfl, rfl, hd80, hE, hF⟩
     refine K_ent hE ?_
     clear hE
     refine K_pure (c := crd (RdS 22 (RdS 3 rdInt)) v4.v c3) (.t (.t .h)) crd_bound (fun hbd85 => ?_)
     rcases rest78 with _ | ⟨x79, rest78⟩
     · have hk81 := List.drop_eq_nil_iff.1 hd80
       rw [i_lists_L2] at hF
       iterate 4 refine au ?_
       refine CdF ?_
       iterate 8 refine au ?_
       cases hF
       exact ⟨_, v72, F73, _, rfl, eqA, entA⟩
     obtain ⟨hk81, hx82, hd83⟩ := drop_cons hd80
     rw [i_lists_L2] at hF
     iterate 4 refine au ?_
     refine CdT ?_
     refine au ?_
     obtain ⟨o86, hio86, hO87⟩ := bind_some hF
     refine K_cut (fun f' cs' => ∃ (c120 : List (List Int)) (v121 : Sv) (F122 : List Nat) (g : Fr), c120 = o86 ∧ f' = updL g [(0, v0_0.v), (6, v121.v), (13, (.int .i64 a_n)), (14, (.int .i64 c6)), (17, v4.v), (18, (.int .i64 (c3.length : Int))), (19, (.int .i64 (k77 : Int)))] ∧ Ent cs' [crd (RdS 3 rdInt) v0_0.v a_values, cown (OwnS 22 (OwnS 3 (roE rdInt))) F122 v121.v c120, crd (RdS 22 (RdS 3 rdInt)) v4.v c3]) ?_ ?_
     · replace hF := hio86
       refine CW_block (K_region (C_idx (a := x79) sl31.h ty22.h.sz (.tmp rfl rfl) (.tmp rfl rfl) (.t (.t .h)) (Int.natCast_nonneg k77) hx82 (fun k88 j89 => ?_)))
       refine C_ldV (R' := (RdS 3 rdInt)) ag22.h (.tmp rfl rfl) .h lv22_0 (fun w90 => ?_)
       iterate 7 refine au ?_
       refine CW_block (CW_loop (m := a_values.length) (fun m95 f' cs' => ∃ (g : Fr) (k97 : Nat) (rest98 : List Int) (c91 : List (List Int)) (v92 : Sv) (F93 : List Nat), m95 = rest98.length ∧ f' = updL g [(0, v0_0.v), (6, v92.v), (8, w90.v), (13, (.int .i64 a_n)), (14, (.int .i64 c6)), (17, v4.v), (18, (.int .i64 (c3.length : Int))), (19, (.int .i64 (k77 : Int))), (23, v0_0.v), (24, (.int .i64 (a_values.length : Int))), (25, (.int .i64 (k97 : Int)))] ∧ List.drop k97 a_values = rest98 ∧ Ent cs' [crd (RdS 3 rdInt) v0_0.v a_values, cown (OwnS 22 (OwnS 3 (roE rdInt))) F93 v92.v c91, crd (RdS 3 rdInt) w90.v x79, crd (RdS 22 (RdS 3 rdInt)) v4.v c3] ∧ i_lists_L4 x79 rest98 k97 c91 = some o86) ⟨_, 0, _, _, v72, F73, rfl, eqA, rfl, entA, hF⟩ ?_)
       clear hF
       rintro m95 _ _ ⟨g96, k97, rest98, c91, v92, F93, rfl, rfl, hd100, hE, hF⟩
       refine K_ent hE ?_
       clear hE
       refine K_pure (c := crd (RdS 3 rdInt) v0_0.v a_values) .h crd_bound (fun hbd105 => ?_)
       rcases rest98 with _ | ⟨x99, rest98⟩
       · have hk101 := List.drop_eq_nil_iff.1 hd100
         rw [i_lists_L4] at hF
         iterate 4 refine au ?_
         refine CdF ?_
         iterate 4 refine au ?_
         cases hF
         exact ⟨_, v92, F93, _, rfl, eqA, entA⟩
       obtain ⟨hk101, hx102, hd103⟩ := drop_cons hd100
       rw [i_lists_L4] at hF
       iterate 4 refine au ?_
       refine CdT ?_
       iterate 3 refine au ?_
       refine Ai hx102 (fun k106 j107 => ?_)
       refine Al ls3_0 ?_
       iterate 5 refine au ?_
       obtain ⟨r108, hx109, hF⟩ := bind_some hF
       refine Cx1 (g_slices_Clone_int_int_ok _ _ _ hx109) (fun p110 => ?_)
       refine au ?_
       refine C_new rfl (N_buildSliceT (g := true) sl22.h ty3.h (.cons (.tmp rfl rfl) .nil) (vs := [(.int .i64 x99)]) rfl rfl rfl (by intro v hv; simp at hv; rcases hv with rfl <;> rfl)) (fun k111 => ?_)
       refine Cv1 (.cons .h .nil) (own_lit (Ro := (roE rdInt)) (E := 3) (F := ([] ++ [])) (xs := ([x99] : List Int)) (MkL_cons (Mk_pure (fun _ => rfl)) MkL_nil apps) rfl rfl) ?_
       obtain ⟨z112, hx113, hF⟩ := bind_some hF
       refine C_x1 (.cons (.t .h) (.cons .h .nil)) (X_appendO (Ro := (roE rdInt)) sl22.h ni22 ty3.h rfl rfl rfl (.tmp rfl rfl) (.tmp rfl rfl) hx113 src_own) (fun p114 => ?_)
       refine C_new rfl (N_buildSliceT (g := true) sl31.h ty22.h (.cons (.tmp rfl rfl) .nil) (vs := [p114.1.v]) rfl rfl rfl (by intro v hv; simp at hv; rcases hv with rfl <;> rfl)) (fun k115 => ?_)
       refine Cv1 (.cons .h (.cons .h .nil)) (own_lit (Ro := (OwnS 3 (roE rdInt))) (E := 22) (F := (p114.2 ++ [])) (xs := ([z112] : List (List Int))) (MkL_cons Mk_own MkL_nil apps) rfl rfl) ?_
       obtain ⟨z116, hx117, hF⟩ := bind_some hF
       refine C_x1 (.cons (.t (.t (.t .h))) (.cons .h .nil)) (X_appendO (Ro := (OwnS 3 (roE rdInt))) sl31.h ni31 ty22.h rfl rfl rfl (.tmp rfl rfl) (.tmp rfl rfl) hx117 src_own) (fun p118 => ?_)
       iterate 6 refine au ?_
       rw [wk k97]
       exact ⟨_, Nat.lt_succ_self _, _, k97 + 1, rest98, _, p118.1, p118.2, rfl, eqA, hd103, entA, hF⟩
     rintro _ _ ⟨c120, v121, F122, g124, rfl, rfl, hE⟩
     replace hF := hO87
     clear hO87
     try dsimp only at hF
     refine K_ent hE ?_
     iterate 4 refine au ?_
     rw [wk k77]
     exact ⟨_, Nat.lt_succ_self _, _, k77 + 1, rest78, _, v121, F122, rfl, eqA, hd83, entA, hF⟩
   rintro _ _ ⟨c125, v126, F127, g128, rfl, rfl, hE⟩
   replace hF := hO16
   clear hO16
   try dsimp only at hF
   refine K_ent hE ?_
   iterate 4 refine au ?_
   exact ⟨m7, Nat.lt_succ_self _, _, _, _, v126, F127, eqA, entA, hF⟩
 rw [if_neg (nt hb129)] at hF
 iterate 9 refine au ?_
 cases hF
 exact Er (v4, F5)
def i_sameAccess (a_a : Access) (a_b : Access) : Option (Bool) :=
 (bif ((a_a.Method : Int) == a_b.Method) then ((g_slices_Equal_int_int a_a.Values a_b.Values).bind fun r6 =>
     some r6)
   else (some false)).bind fun o3 =>
 match o3 with
 | c9 => some c9
theorem i_sameAccess_ok (a_a : Access) (v0_1 : Sv) (a_b : Access) (v1_1 : Sv) (R : Bool) (hF : i_sameAccess a_a a_b = some R) :
   Fw.Spec Tryz.prog 136 [(.agg [(.int .i64 a_a.Method), v0_1.v].toArray), (.agg [(.int .i64 a_b.Method), v1_1.v].toArray)] [crd (RdS 3 rdInt) v0_1.v a_a.Values, crd (RdS 3 rdInt) v1_1.v a_b.Values] (fun _ : Unit => (.bool R)) (fun _ => []) := by
 refine Spec_enter (n := 17) Tryz.func136 rfl rfl (rs := [.tmp 4]) rfl rfl rfl ?_
 intro H0 F0
 unfold i_sameAccess at hF
 refine au ?_
 refine AbR (fun k1 => ?_)
 refine AbR (fun k2 => ?_)
 iterate 2 refine au ?_
 obtain ⟨o3, hio3, hO4⟩ := bind_some hF
 refine au ?_
 refine C_cut (fun f' cs' => ∃ (c9 : Bool) (g : Fr), c9 = o3 ∧ f' = updL g [(4, (.bool c9))] ∧ Ent cs' []) ?_ ?_
 · replace hF := hio3
   iterate 6 refine au ?_
   rcases Bool.eq_false_or_eq_true ((a_a.Method : Int) == a_b.Method) with hg5 | hg5
   · rw [hg5]
     try rw [hg5] at hF; dsimp only [cond_true, cond_false] at hF
     iterate 9 refine au ?_
     obtain ⟨r6, hx7, hF⟩ := bind_some hF
     refine Cx0 (g_slices_Equal_int_int_ok _ _ _ _ _ hx7) (fun _ => ?_)
     iterate 3 refine au ?_
     cases hF
     exact ⟨_, _, rfl, eqA, entA⟩
   rw [hg5]
   try rw [hg5] at hF; dsimp only [cond_true, cond_false] at hF
   iterate 8 refine au ?_
   cases hF
   exact ⟨_, _, rfl, eqA, entA⟩
 rintro _ _ ⟨c9, g10, rfl, rfl, hE⟩
 replace hF := hO4
 clear hO4
 try dsimp only at hF
 refine K_ent hE ?_
 refine au ?_
 cases hF
 exact Er ()
def i_hasAccess_1 (a_x : Access) (a_e1 : Access) : Option (Bool) :=
 (i_sameAccess a_x a_e1).bind fun r2 =>
 some r2
theorem i_hasAccess_1_ok (a_x : Access) (v0_1 : Sv) (kc1 : Nat) (a_e1 : Access) (vc1_1 : Sv) (R : Bool) (hF : i_hasAccess_1 a_x a_e1 = some R) :
   Fw.Spec Tryz.prog 197 [(.agg [(.int .i64 a_x.Method), v0_1.v].toArray), (.pointer (some ⟨kc1, 0, some 0⟩))] [crd (RdS 3 rdInt) v0_1.v a_x.Values, cboR kc1 141 (.agg [(.int .i64 a_e1.Method), vc1_1.v].toArray), crd (RdS 3 rdInt) vc1_1.v a_e1.Values] (fun _ : Unit => (.bool R)) (fun _ => []) := by
 refine Spec_enter (n := 7) Tryz.func197 rfl rfl (rs := [.tmp 3]) rfl rfl rfl ?_
 intro H0 F0
 unfold i_hasAccess_1 at hF
 refine au ?_
 refine AbR (fun k1 => ?_)
 iterate 5 refine au ?_
 obtain ⟨r2, hx3, hF⟩ := bind_some hF
 refine Cx0 (i_sameAccess_ok _ _ _ _ _ hx3) (fun _ => ?_)
 iterate 3 refine au ?_
 cases hF
 exact Er ()
def g_slices_IndexFunc_impl_Access_impl_Access_ihasAccess1_L1 (a_e1 : Access) : List Access → Nat → Option (Int)
 | [], k4 => some (-1)
 | x6 :: rest5, k4 => (i_hasAccess_1 x6 a_e1).bind fun r16 =>
   if r16 then (
     some (k4 : Int))
   else (
     g_slices_IndexFunc_impl_Access_impl_Access_ihasAccess1_L1 a_e1 rest5 (k4 + 1))
def g_slices_IndexFunc_impl_Access_impl_Access_ihasAccess1 (a_s : List Access) (a_e1 : Access) : Option (Int) :=
 g_slices_IndexFunc_impl_Access_impl_Access_ihasAccess1_L1 a_e1 a_s 0
theorem g_slices_IndexFunc_impl_Access_impl_Access_ihasAccess1_ok (a_s : List Access) (v0_0 : Sv) (kc1 : Nat) (a_e1 : Access) (vc1_1 : Sv) (R : Int) (hF : g_slices_IndexFunc_impl_Access_impl_Access_ihasAccess1 a_s a_e1 = some R) :
   Fw.Spec Tryz.prog 214 [v0_0.v, (.func (.func 197) [].toArray [(.pointer (some ⟨kc1, 0, some 0⟩))].toArray)] [crd (RdS 141 rd141) v0_0.v a_s, cboR kc1 141 (.agg [(.int .i64 a_e1.Method), vc1_1.v].toArray), crd (RdS 3 rdInt) vc1_1.v a_e1.Values] (fun _ : Unit => (.int .i64 R)) (fun _ => []) := by
 refine Spec_enter (n := 19) Tryz.func214 rfl rfl (rs := [.tmp 4]) rfl rfl rfl ?_
 intro H0 F0
 unfold g_slices_IndexFunc_impl_Access_impl_Access_ihasAccess1 at hF
 iterate 9 refine au ?_
 refine CW_block (CW_loop (m := a_s.length) (fun m2 f' cs' => ∃ (g : Fr) (k4 : Nat) (rest5 : List Access), m2 = rest5.length ∧ f' = updL g [(0, v0_0.v), (1, (.func (.func 197) [].toArray [(.pointer (some ⟨kc1, 0, some 0⟩))].toArray)), (7, (.int .i64 (a_s.length : Int))), (8, (.int .i64 (k4 : Int)))] ∧ List.drop k4 a_s = rest5 ∧ Ent cs' [crd (RdS 141 rd141) v0_0.v a_s, cboR kc1 141 (.agg [(.int .i64 a_e1.Method), vc1_1.v].toArray), crd (RdS 3 rdInt) vc1_1.v a_e1.Values] ∧ g_slices_IndexFunc_impl_Access_impl_Access_ihasAccess1_L1 a_e1 rest5 k4 = some R) ⟨_, 0, _, rfl, eqA, rfl, entA, hF⟩ ?_)
 clear hF
 rintro m2 _ _ ⟨g3, k4, rest5, rfl, rfl, hd7, hE, hF⟩
 refine K_ent hE ?_
 clear hE
 refine K_pure (c := crd (RdS 141 rd141) v0_0.v a_s) .h crd_bound (fun hbd12 => ?_)
 rcases rest5 with _ | ⟨x6, rest5⟩
 · have hk8 := List.drop_eq_nil_iff.1 hd7
   rw [g_slices_IndexFunc_impl_Access_impl_Access_ihasAccess1_L1] at hF
   iterate 4 refine au ?_
   refine CdF ?_
   iterate 8 refine au ?_
   cases hF
   exact Er ()
 obtain ⟨hk8, hx9, hd10⟩ := drop_cons hd7
 rw [g_slices_IndexFunc_impl_Access_impl_Access_ihasAccess1_L1] at hF
 iterate 4 refine au ?_
 refine CdT ?_
 iterate 10 refine au ?_
 refine Ai hx9 (fun k13 j14 => ?_)
 refine AlA1 (ul141_0_141 x6) la141_0_141 (fun p15 => ?_)
 obtain ⟨r16, hx17, hF⟩ := bind_some hF
 refine C_x0 (.rd .h rfl (.rd (.t (.t (.t .h))) rfl (.rd (.t (.t (.t (.t .h)))) rfl .nil))) (X_callCS cf197.h (.tmp rfl rfl) (.cons (.tmp rfl rfl) .nil) (i_hasAccess_1_ok x6 p15 kc1 a_e1 vc1_1 _ hx17)) (fun _ => ?_)
 refine au ?_
 refine Cc (fun hb20 => ?_) (fun hb20 => ?_)
 · rw [if_pos hb20] at hF
   iterate 5 refine au ?_
   cases hF
   exact Er ()
 rw [if_neg (nt hb20)] at hF
 iterate 5 refine au ?_
 rw [wk k4]
 exact ⟨_, Nat.lt_succ_self _, _, k4 + 1, rest5, rfl, eqA, hd10, entA, hF⟩
def g_slices_ContainsFunc_impl_Access_impl_Access_ihasAccess1 (a_s : List Access) (a_e1 : Access) : Option (Bool) :=
 (g_slices_IndexFunc_impl_Access_impl_Access_ihasAccess1 a_s a_e1).bind fun r1 =>
 some (decide ((0 : Int) ≤ r1))
theorem g_slices_ContainsFunc_impl_Access_impl_Access_ihasAccess1_ok (a_s : List Access) (v0_0 : Sv) (kc1 : Nat) (a_e1 : Access) (vc1_1 : Sv) (R : Bool) (hF : g_slices_ContainsFunc_impl_Access_impl_Access_ihasAccess1 a_s a_e1 = some R) :
   Fw.Spec Tryz.prog 196 [v0_0.v, (.func (.func 197) [].toArray [(.pointer (some ⟨kc1, 0, some 0⟩))].toArray)] [crd (RdS 141 rd141) v0_0.v a_s, cboR kc1 141 (.agg [(.int .i64 a_e1.Method), vc1_1.v].toArray), crd (RdS 3 rdInt) vc1_1.v a_e1.Values] (fun _ : Unit => (.bool R)) (fun _ => []) := by
 refine Spec_enter (n := 9) Tryz.func196 rfl rfl (rs := [.tmp 4]) rfl rfl rfl ?_
 intro H0 F0
 unfold g_slices_ContainsFunc_impl_Access_impl_Access_ihasAccess1 at hF
 iterate 6 refine au ?_
 obtain ⟨r1, hx2, hF⟩ := bind_some hF
 refine Cx0 (g_slices_IndexFunc_impl_Access_impl_Access_ihasAccess1_ok _ _ _ _ _ _ hx2) (fun _ => ?_)
 iterate 4 refine au ?_
 cases hF
 exact Er ()
def i_hasAccess (a_l : List Access) (a_a : Access) : Option (Bool) :=
 (g_slices_ContainsFunc_impl_Access_impl_Access_ihasAccess1 a_l a_a).bind fun r2 =>
 some r2
theorem i_hasAccess_ok (a_l : List Access) (v0_0 : Sv) (a_a : Access) (v1_1 : Sv) (R : Bool) (hF : i_hasAccess a_l a_a = some R) :
   Fw.Spec Tryz.prog 164 [v0_0.v, (.agg [(.int .i64 a_a.Method), v1_1.v].toArray)] [crd (RdS 141 rd141) v0_0.v a_l, crd (RdS 3 rdInt) v1_1.v a_a.Values] (fun _ : Unit => (.bool R)) (fun _ => []) := by
 refine Spec_enter (n := 8) Tryz.func164 rfl rfl (rs := [.tmp 4]) rfl rfl rfl ?_
 intro H0 F0
 unfold i_hasAccess at hF
 refine au ?_
 refine AbR (fun k1 => ?_)
 iterate 4 refine au ?_
 refine C_val (V_makeFunc (fn := .func 197) (vs := []) (us := [(.pointer (some ⟨k1, 0, some 0⟩))]) .nil (.cons (.tmp rfl rfl) .nil)) ?_
 obtain ⟨r2, hx3, hF⟩ := bind_some hF
 refine Cx0 (g_slices_ContainsFunc_impl_Access_impl_Access_ihasAccess1_ok _ _ _ _ _ _ hx3) (fun _ => ?_)
 iterate 3 refine au ?_
 cases hF
 exact Er ()
def i_Reached_open_L2 (a_r : Reached) (k9 : Nat) : List (List Int) → Nat → (List Access) → Option ((List Access))
 | [], k66, c60 => some c60
 | x68 :: rest67, k66, c60 => ((i_hasAccess a_r.Log ({ Method := (k9 : Int), Values := x68 } : Access)).bind fun r81 =>
     if (!r81) then (
       (app c60 ([({ Method := (k9 : Int), Values := x68 } : Access)] : List Access)).bind fun z85 =>
       some z85)
     else (
       some c60)).bind fun o75 =>
   match o75 with
   | c89 => i_Reached_open_L2 a_r k9 rest67 (k66 + 1) c89
def i_Reached_open_L1 (a_r : Reached) : List Method → Nat → (List Access) → Option ((List Access) × Reached)
 | [], k9, c3 => some (c3, a_r)
 | x11 :: rest10, k9, c3 => (if ((x11.Limit : Int) != 0) then (
       some c3)
     else (
       (i_lists a_r.Values (x11.Inputs.length : Int)).bind fun r24 =>
       i_Reached_open_L2 a_r k9 r24 0 c3)).bind fun o18 =>
   match o18 with
   | c95 => i_Reached_open_L1 a_r rest10 (k9 + 1) c95
def i_Reached_open (a_r : Reached) (a_l : List Method) : Option ((List Access) × Reached) :=
 i_Reached_open_L1 a_r a_l 0 ([] : List Access)
theorem i_Reached_open_ok (a_r : Reached) (v0_0 : Sv) (F0_0 : List Nat) (v0_1 : Sv) (F0_1 : List Nat) (v0_2 : Sv) (F0_2 : List Nat) (a_l : List Method) (v1_0 : Sv) (R : (List Access) × Reached) (hF : i_Reached_open a_r a_l = some R) :
   Fw.Spec Tryz.prog 126 [(.agg [v0_0.v, v0_1.v, v0_2.v, (.int .i64 a_r.Rounds)].toArray), v1_0.v] [cown (OwnS 80 ow80) F0_0 v0_0.v a_r.Facts, cown (OwnS 3 (roE rdInt)) F0_1 v0_1.v a_r.Values, cown (OwnS 141 (roE rd141)) F0_2 v0_2.v a_r.Log, crd (RdS 77 rd77) v1_0.v a_l] (fun p : Sv × List Nat × List Nat × List Nat × List Nat => p.1.v) (fun p => [cown (OwnS 141 (roE rd141)) p.2.1 p.1.v R.1, cown (OwnS 80 ow80) p.2.2.1 v0_0.v R.2.Facts, cown (OwnS 3 (roE rdInt)) p.2.2.2.1 v0_1.v R.2.Values, cown (OwnS 141 (roE rd141)) p.2.2.2.2 v0_2.v R.2.Log]) := by
 refine Spec_enter (n := 48) Tryz.func126 rfl rfl (rs := [.tmp 4]) rfl rfl rfl ?_
 intro H0 F0
 unfold i_Reached_open at hF
 refine au ?_
 refine AbR (fun k1 => ?_)
 iterate 3 refine au ?_
 refine C_new rfl (N_buildSliceT (g := true) sl71.h ty141.h .nil (vs := []) rfl rfl rfl (by simp)) (fun k2 => ?_)
 refine Cv1 (.cons .h .nil) (own_lit (Ro := (roE rd141)) (E := 141) (F := []) (xs := ([] : List Access)) MkL_nil rfl rfl) ?_
 iterate 8 refine au ?_
 refine CW_block (CW_loop (m := a_l.length) (fun m7 f' cs' => ∃ (g : Fr) (k9 : Nat) (rest10 : List Method) (c3 : List Access) (v4 : Sv) (F5 : List Nat), m7 = rest10.length ∧ f' = updL g [(2, (.pointer (some ⟨k1, 0, some 0⟩))), (5, v4.v), (12, v1_0.v), (13, (.int .i64 (a_l.length : Int))), (14, (.int .i64 (k9 : Int)))] ∧ List.drop k9 a_l = rest10 ∧ Ent cs' [cboR k1 73 (.agg [v0_0.v, v0_1.v, v0_2.v, (.int .i64 a_r.Rounds)].toArray), cown (OwnS 80 ow80) F0_0 v0_0.v a_r.Facts, cown (OwnS 3 (roE rdInt)) F0_1 v0_1.v a_r.Values, cown (OwnS 141 (roE rd141)) F0_2 v0_2.v a_r.Log, cown (OwnS 141 (roE rd141)) F5 v4.v c3, crd (RdS 77 rd77) v1_0.v a_l] ∧ i_Reached_open_L1 a_r rest10 k9 c3 = some R) ⟨_, 0, _, _, ⟨(some ⟨k2, 0, none⟩), 0, 1⟩, (k2 :: []), rfl, eqA, rfl, entA, hF⟩ ?_)
 clear hF
 rintro m7 _ _ ⟨g8, k9, rest10, c3, v4, F5, rfl, rfl, hd12, hE, hF⟩
 refine K_ent hE ?_
 clear hE
 refine K_pure (c := crd (RdS 77 rd77) v1_0.v a_l) (.t (.t (.t (.t (.t .h))))) crd_bound (fun hbd17 => ?_)
 rcases rest10 with _ | ⟨x11, rest10⟩
 · have hk13 := List.drop_eq_nil_iff.1 hd12
   rw [i_Reached_open_L1] at hF
   iterate 4 refine au ?_
   refine CdF ?_
   iterate 9 refine au ?_
   cases hF
   exact Er (v4, F5, F0_0, F0_1, F0_2)
 obtain ⟨hk13, hx14, hd15⟩ := drop_cons hd12
 rw [i_Reached_open_L1] at hF
 iterate 4 refine au ?_
 refine CdT ?_
 refine au ?_
 obtain ⟨o18, hio18, hO19⟩ := bind_some hF
 refine K_cut (fun f' cs' => ∃ (c95 : List Access) (v96 : Sv) (F97 : List Nat) (g : Fr), c95 = o18 ∧ f' = updL g [(2, (.pointer (some ⟨k1, 0, some 0⟩))), (5, v96.v), (12, v1_0.v), (13, (.int .i64 (a_l.length : Int))), (14, (.int .i64 (k9 : Int)))] ∧ Ent cs' [cboR k1 73 (.agg [v0_0.v, v0_1.v, v0_2.v, (.int .i64 a_r.Rounds)].toArray), cown (OwnS 80 ow80) F0_0 v0_0.v a_r.Facts, cown (OwnS 3 (roE rdInt)) F0_1 v0_1.v a_r.Values, cown (OwnS 141 (roE rd141)) F0_2 v0_2.v a_r.Log, cown (OwnS 141 (roE rd141)) F97 v96.v c95, crd (RdS 77 rd77) v1_0.v a_l]) ?_ ?_
 · replace hF := hio18
   refine CW_block (K_region (Cm (.int .i64 (k9 : Int)) rfl rfl ?_))
   refine Ai hx14 (fun k20 j21 => ?_)
   refine AlA1 (ul77_0_77 x11) la77_0_77 (fun p22 => ?_)
   refine AnW (fun k23 => ?_)
   refine au ?_
   refine As (.agg [(.int .i64 x11.Rel), p22.v, (.int .i64 x11.Limit), (.int .i64 x11.Cost), (.int .i64 x11.Quota)].toArray) ?_
   iterate 7 refine au ?_
   refine Cc (fun hb94 => ?_) (fun hb94 => ?_)
   · rw [if_pos hb94] at hF
     iterate 3 refine au ?_
     cases hF
     exact ⟨_, v4, F5, _, rfl, eqA, entA⟩
   rw [if_neg (nt hb94)] at hF
   iterate 7 refine au ?_
   obtain ⟨r24, hx25, hF⟩ := bind_some hF
   refine C_x2 (.cons (.t (.t (.t (.t (.t .h))))) .nil) (XC_bor frz_own (fun _ => (.cons .nil)) (X_callS cf163.h (.cons (.tmp rfl rfl) (.cons (.tmp rfl rfl) .nil)) (i_lists_ok a_r.Values v0_1 (x11.Inputs.length : Int) _ hx25))) (fun p26 => ?_)
   iterate 3 refine au ?_
   refine CW_block (K_frz (.t .h) frz_own ?_)
   refine CW_loop (m := r24.length) (fun m64 f' cs' => ∃ (g : Fr) (k66 : Nat) (rest67 : List (List Int)) (c60 : List Access) (v61 : Sv) (F62 : List Nat), m64 = rest67.length ∧ f' = updL g [(2, (.pointer (some ⟨k1, 0, some 0⟩))), (5, v61.v), (6, (.int .i64 (k9 : Int))), (12, v1_0.v), (13, (.int .i64 (a_l.length : Int))), (14, (.int .i64 (k9 : Int))), (27, p26.1.v), (28, (.int .i64 (r24.length : Int))), (29, (.int .i64 (k66 : Int)))] ∧ List.drop k66 r24 = rest67 ∧ Ent cs' [cboR k1 73 (.agg [v0_0.v, v0_1.v, v0_2.v, (.int .i64 a_r.Rounds)].toArray), cown (OwnS 80 ow80) F0_0 v0_0.v a_r.Facts, cown (OwnS 3 (roE rdInt)) F0_1 v0_1.v a_r.Values, cown (OwnS 141 (roE rd141)) F0_2 v0_2.v a_r.Log, cown (OwnS 141 (roE rd141)) F62 v61.v c60, crd (RdS 77 rd77) v1_0.v a_l, crd (RdS 22 (RdS 3 rdInt)) p26.1.v r24] ∧ i_Reached_open_L2 a_r k9 rest67 k66 c60 = some o18) ⟨_, 0, _, _, v4, F5, rfl, eqA, rfl, entA, hF⟩ ?_
   clear hF
   rintro m64 _ _ ⟨g65, k66, rest67, c60, v61, F62, rfl, rfl, hd69, hE, hF⟩
   refine K_ent hE ?_
   clear hE
   refine K_pure (c := crd (RdS 22 (RdS 3 rdInt)) p26.1.v r24) (.t (.t (.t (.t (.t (.t .h)))))) crd_bound (fun hbd74 => ?_)
   rcases rest67 with _ | ⟨x68, rest67⟩
   · have hk70 := List.drop_eq_nil_iff.1 hd69
     rw [i_Reached_open_L2] at hF
     iterate 4 refine au ?_
     refine CdF ?_
     iterate 4 refine au ?_
     cases hF
     exact ⟨_, v61, F62, _, rfl, eqA, entA⟩
   obtain ⟨hk70, hx71, hd72⟩ := drop_cons hd69
   rw [i_Reached_open_L2] at hF
   iterate 4 refine au ?_
   refine CdT ?_
   refine au ?_
   obtain ⟨o75, hio75, hO76⟩ := bind_some hF
   refine K_cut (fun f' cs' => ∃ (c89 : List Access) (v90 : Sv) (F91 : List Nat) (g : Fr), c89 = o75 ∧ f' = updL g [(2, (.pointer (some ⟨k1, 0, some 0⟩))), (5, v90.v), (6, (.int .i64 (k9 : Int))), (12, v1_0.v), (13, (.int .i64 (a_l.length : Int))), (14, (.int .i64 (k9 : Int))), (27, p26.1.v), (28, (.int .i64 (r24.length : Int))), (29, (.int .i64 (k66 : Int)))] ∧ Ent cs' [cboR k1 73 (.agg [v0_0.v, v0_1.v, v0_2.v, (.int .i64 a_r.Rounds)].toArray), cown (OwnS 80 ow80) F0_0 v0_0.v a_r.Facts, cown (OwnS 3 (roE rdInt)) F0_1 v0_1.v a_r.Values, cown (OwnS 141 (roE rd141)) F0_2 v0_2.v a_r.Log, cown (OwnS 141 (roE rd141)) F91 v90.v c89, crd (RdS 77 rd77) v1_0.v a_l, crd (RdS 22 (RdS 3 rdInt)) p26.1.v r24]) ?_ ?_
   · replace hF := hio75
     refine CW_block (K_region (C_idx (a := x68) sl31.h ty22.h.sz (.tmp rfl rfl) (.tmp rfl rfl) (.t (.t (.t (.t (.t (.t .h)))))) (Int.natCast_nonneg k66) hx71 (fun k77 j78 => ?_)))
     refine C_ldV (R' := (RdS 3 rdInt)) ag22.h (.tmp rfl rfl) .h lv22_0 (fun w79 => ?_)
     iterate 5 refine au ?_
     refine C_val (V_build ty141.h rfl (vs := [(.int .i64 (k9 : Int)), w79.v]) (.cons (.tmp rfl rfl) (.cons (.tmp rfl rfl) .nil)) (cells := [(.int .i64 (k9 : Int)), w79.v]) rfl) ?_
     refine AnW (fun k80 => ?_)
     refine As (.agg [(.int .i64 (k9 : Int)), w79.v].toArray) ?_
     iterate 5 refine au ?_
     obtain ⟨r81, hx82, hF⟩ := bind_some hF
     refine C_x1 (.cons (.t (.t (.t (.t (.t (.t .h)))))) (.rd (.t .h) rfl .nil)) (XC_bor frz_own (fun _ => .nil) (X_callS cf164.h (.cons (.tmp rfl rfl) (.cons (.tmp rfl rfl) .nil)) (i_hasAccess_ok a_r.Log v0_2 ({ Method := (k9 : Int), Values := x68 } : Access) w79 _ hx82))) (fun _ => ?_)
     iterate 2 refine au ?_
     refine Cc (fun hb88 => ?_) (fun hb88 => ?_)
     · rw [if_pos hb88] at hF
       iterate 3 refine au ?_
       refine C_new rfl (N_buildSliceT (g := true) sl71.h ty141.h (.cons (.tmp rfl rfl) .nil) (vs := [(.agg [(.int .i64 (k9 : Int)), w79.v].toArray)]) rfl rfl rfl (by intro v hv; simp at hv; rcases hv with rfl <;> rfl)) (fun k84 => ?_)
       refine Cv1 (.cons .h (.rd (.t (.t .h)) rfl .nil)) (own_lit (Ro := (roE rd141)) (E := 141) (F := ([] ++ [])) (xs := ([({ Method := (k9 : Int), Values := x68 } : Access)] : List Access)) (MkL_cons (mr141 (a := ({ Method := (k9 : Int), Values := x68 } : Access))) MkL_nil apps) rfl rfl) ?_
       obtain ⟨z85, hx86, hF⟩ := bind_some hF
       refine C_x1 (.cons (.t (.t (.t (.t (.t (.t (.t (.t .h)))))))) (.cons .h .nil)) (X_appendO (Ro := (roE rd141)) sl71.h ni71 ty141.h rfl rfl rfl (.tmp rfl rfl) (.tmp rfl rfl) hx86 src_own) (fun p87 => ?_)
       iterate 2 refine au ?_
       cases hF
       exact ⟨_, p87.1, p87.2, _, rfl, eqA, entA⟩
     rw [if_neg (nt hb88)] at hF
     refine au ?_
     cases hF
     exact ⟨_, v61, F62, _, rfl, eqA, entA⟩
   rintro _ _ ⟨c89, v90, F91, g93, rfl, rfl, hE⟩
   replace hF := hO76
   clear hO76
   try dsimp only at hF
   refine K_ent hE ?_
   iterate 4 refine au ?_
   rw [wk k66]
   exact ⟨_, Nat.lt_succ_self _, _, k66 + 1, rest67, _, v90, F91, rfl, eqA, hd72, entA, hF⟩
 rintro _ _ ⟨c95, v96, F97, g99, rfl, rfl, hE⟩
 replace hF := hO19
 clear hO19
 try dsimp only at hF
 refine K_ent hE ?_
 iterate 4 refine au ?_
 rw [wk k9]
 exact ⟨_, Nat.lt_succ_self _, _, k9 + 1, rest10, _, v96, F97, rfl, eqA, hd15, entA, hF⟩
def i_copyFact (a_f : Fact) : Option (Fact) :=
 (g_slices_Clone_int_int a_f.Values).bind fun r3 =>
 some ({ Rel := a_f.Rel, Values := r3 } : Fact)
theorem i_copyFact_ok (a_f : Fact) (v0_1 : Sv) (R : Fact) (hF : i_copyFact a_f = some R) :
   Fw.Spec Tryz.prog 172 [(.agg [(.int .i64 a_f.Rel), v0_1.v].toArray)] [crd (RdS 3 rdInt) v0_1.v a_f.Values] (fun p : Sv × List Nat => (.agg [(.int .i64 R.Rel), p.1.v].toArray)) (fun p => [cown (OwnS 3 (roE rdInt)) p.2 p.1.v R.Values]) := by
 refine Spec_enter (n := 9) Tryz.func172 rfl rfl (rs := [.cell 2 80]) rfl rfl rfl ?_
 intro H0 F0
 unfold i_copyFact at hF
 refine au ?_
 refine AbR (fun k1 => ?_)
 refine AnW (fun k2 => ?_)
 refine au ?_
 refine K_draw [0, 1, 2, 3, 4, 5, 6] [0, 1, 0, 4, 12, 31, 63] [4, 6] mixed (by decide +kernel) ?_
 iterate 4 refine du ?_
 obtain ⟨r3, hx4, hF⟩ := bind_some hF
 refine Dx1 (g_slices_Clone_int_int_ok _ _ _ hx4) (fun p5 => ?_)
 refine D_val rfl .no (fun ha => V_build ty80.h rfl (vs := [(.int .i64 a_f.Rel), p5.1.v]) (.cons (EN ha (.tmp rfl rfl) rfl) (.cons (EN ha (.tmp rfl rfl) rfl) .nil)) (cells := [(.int .i64 a_f.Rel), p5.1.v]) rfl) ?_
 refine D_act1 rfl rfl .no (.cons (.t .h) .nil) .nil (fun ha => X_storeB (e' := (.agg [(.int .i64 a_f.Rel), p5.1.v].toArray)) (v := (.agg [(.int .i64 a_f.Rel), p5.1.v].toArray)) ty80.h.sz (EN ha (.tmp rfl rfl) rfl) (EN ha (.tmp rfl rfl) rfl) rfl rfl rfl rfl rfl) (fun _ => ?_)
 refine du ?_
 refine au ?_
 cases hF
 exact Er (p5.1, p5.2)
def i_copyFacts_L1 : List Fact → Nat → (List Fact) → Option ((List Fact))
 | [], k8, c2 => some c2
 | x10 :: rest9, k8, c2 => (i_copyFact x10).bind fun r21 =>
   (app c2 ([r21] : List Fact)).bind fun z25 =>
   i_copyFacts_L1 rest9 (k8 + 1) z25
def i_copyFacts (a_l : List Fact) : Option ((List Fact)) :=
 i_copyFacts_L1 a_l 0 ([] : List Fact)
theorem i_copyFacts_ok (a_l : List Fact) (v0_0 : Sv) (R : (List Fact)) (hF : i_copyFacts a_l = some R) :
   Fw.Spec Tryz.prog 166 [v0_0.v] [crd (RdS 80 rd80) v0_0.v a_l] (fun p : Sv × List Nat => p.1.v) (fun p => [cown (OwnS 80 ow80) p.2 p.1.v R]) := by
 refine Spec_enter (n := 20) Tryz.func166 rfl rfl (rs := [.tmp 2]) rfl rfl rfl ?_
 intro H0 F0
 unfold i_copyFacts at hF
 iterate 4 refine au ?_
 refine C_new rfl (N_buildSliceT (g := true) sl40.h ty80.h .nil (vs := []) rfl rfl rfl (by simp)) (fun k1 => ?_)
 refine Cv1 (.cons .h .nil) (own_lit (Ro := ow80) (E := 80) (F := []) (xs := ([] : List Fact)) MkL_nil rfl rfl) ?_
 iterate 8 refine au ?_
 refine CW_block (CW_loop (m := a_l.length) (fun m6 f' cs' => ∃ (g : Fr) (k8 : Nat) (rest9 : List Fact) (c2 : List Fact) (v3 : Sv) (F4 : List Nat), m6 = rest9.length ∧ f' = updL g [(3, v3.v), (7, v0_0.v), (8, (.int .i64 (a_l.length : Int))), (9, (.int .i64 (k8 : Int)))] ∧ List.drop k8 a_l = rest9 ∧ Ent cs' [cown (OwnS 80 ow80) F4 v3.v c2, crd (RdS 80 rd80) v0_0.v a_l] ∧ i_copyFacts_L1 rest9 k8 c2 = some R) ⟨_, 0, _, _, ⟨(some ⟨k1, 0, none⟩), 0, 1⟩, (k1 :: []), rfl, eqA, rfl, entA, hF⟩ ?_)
 clear hF
 rintro m6 _ _ ⟨g7, k8, rest9, c2, v3, F4, rfl, rfl, hd11, hE, hF⟩
 refine K_ent hE ?_
 clear hE
 refine K_pure (c := crd (RdS 80 rd80) v0_0.v a_l) (.t .h) crd_bound (fun hbd16 => ?_)
 rcases rest9 with _ | ⟨x10, rest9⟩
 · have hk12 := List.drop_eq_nil_iff.1 hd11
   rw [i_copyFacts_L1] at hF
   iterate 4 refine au ?_
   refine CdF ?_
   iterate 9 refine au ?_
   cases hF
   exact Er (v3, F4)
 obtain ⟨hk12, hx13, hd14⟩ := drop_cons hd11
 rw [i_copyFacts_L1] at hF
 iterate 4 refine au ?_
 refine CdT ?_
 iterate 3 refine au ?_
 refine Ai hx13 (fun k17 j18 => ?_)
 refine AlA1 (ul80_0_80 x10) la80_0_80 (fun p19 => ?_)
 refine AnW (fun k20 => ?_)
 refine As (.agg [(.int .i64 x10.Rel), p19.v].toArray) ?_
 iterate 4 refine au ?_
 obtain ⟨r21, hx22, hF⟩ := bind_some hF
 refine Cx1 (i_copyFact_ok _ _ _ hx22) (fun p23 => ?_)
 refine C_new rfl (N_buildSliceT (g := true) sl40.h ty80.h (.cons (.tmp rfl rfl) .nil) (vs := [(.agg [(.int .i64 r21.Rel), p23.1.v].toArray)]) rfl rfl rfl (by intro v hv; simp at hv; rcases hv with rfl <;> rfl)) (fun k24 => ?_)
 refine Cv1 (.cons .h (.cons .h .nil)) (own_lit (Ro := ow80) (E := 80) (F := (p23.2 ++ [])) (xs := ([r21] : List Fact)) (MkL_cons mk80 MkL_nil apps) rfl rfl) ?_
 obtain ⟨z25, hx26, hF⟩ := bind_some hF
 refine C_x1 (.cons (.t (.t (.t (.t .h)))) (.cons .h .nil)) (X_appendO (Ro := ow80) sl40.h ni40 ty80.h rfl rfl rfl (.tmp rfl rfl) (.tmp rfl rfl) hx26 src_own) (fun p27 => ?_)
 iterate 6 refine au ?_
 rw [wk k8]
 exact ⟨_, Nat.lt_succ_self _, _, k8 + 1, rest9, _, p27.1, p27.2, rfl, eqA, hd14, entA, hF⟩
def i_matches_1_L1 (a_f : Fact) (a_e2 : Access) : List Int → Nat → Option (Bool)
 | [], k5 => some false
 | x7 :: rest6, k5 => (ix a_f.Values x7).bind fun x16 =>
   (ix a_e2.Values (k5 : Int)).bind fun x22 =>
   if ((x16 : Int) != x22) then (
     some true)
   else (
     i_matches_1_L1 a_f a_e2 rest6 (k5 + 1))
def i_matches_1 (a_f : Fact) (a_e1 : Method) (a_e2 : Access) : Option (Bool) :=
 if ((a_f.Rel : Int) != a_e1.Rel) then (
   some true)
 else (
   i_matches_1_L1 a_f a_e2 a_e1.Inputs 0)
theorem i_matches_1_ok (a_f : Fact) (v0_1 : Sv) (kc1 : Nat) (a_e1 : Method) (vc1_1 : Sv) (kc2 : Nat) (a_e2 : Access) (vc2_1 : Sv) (R : Bool) (hF : i_matches_1 a_f a_e1 a_e2 = some R) :
   Fw.Spec Tryz.prog 167 [(.agg [(.int .i64 a_f.Rel), v0_1.v].toArray), (.pointer (some ⟨kc1, 0, some 0⟩)), (.pointer (some ⟨kc2, 0, some 0⟩))] [crd (RdS 3 rdInt) v0_1.v a_f.Values, cboR kc1 77 (.agg [(.int .i64 a_e1.Rel), vc1_1.v, (.int .i64 a_e1.Limit), (.int .i64 a_e1.Cost), (.int .i64 a_e1.Quota)].toArray), crd (RdS 3 rdInt) vc1_1.v a_e1.Inputs, cboR kc2 141 (.agg [(.int .i64 a_e2.Method), vc2_1.v].toArray), crd (RdS 3 rdInt) vc2_1.v a_e2.Values] (fun _ : Unit => (.bool R)) (fun _ => []) := by
 refine Spec_enter (n := 32) Tryz.func167 rfl rfl (rs := [.tmp 4]) rfl rfl rfl ?_
 intro H0 F0
 unfold i_matches_1 at hF
 refine au ?_
 refine AbR (fun k1 => ?_)
 iterate 10 refine au ?_
 refine Cc (fun hb30 => ?_) (fun hb30 => ?_)
 · rw [if_pos hb30] at hF
   iterate 4 refine au ?_
   cases hF
   exact Er ()
 rw [if_neg (nt hb30)] at hF
 iterate 8 refine au ?_
 refine CW_block (CW_loop (m := a_e1.Inputs.length) (fun m3 f' cs' => ∃ (g : Fr) (k5 : Nat) (rest6 : List Int), m3 = rest6.length ∧ f' = updL g [(2, (.pointer (some ⟨kc2, 0, some 0⟩))), (3, (.pointer (some ⟨k1, 0, some 0⟩))), (13, vc1_1.v), (14, (.int .i64 (a_e1.Inputs.length : Int))), (15, (.int .i64 (k5 : Int)))] ∧ List.drop k5 a_e1.Inputs = rest6 ∧ Ent cs' [cboR kc2 141 (.agg [(.int .i64 a_e2.Method), vc2_1.v].toArray), crd (RdS 3 rdInt) vc2_1.v a_e2.Values, cboR k1 80 (.agg [(.int .i64 a_f.Rel), v0_1.v].toArray), crd (RdS 3 rdInt) v0_1.v a_f.Values, crd (RdS 3 rdInt) vc1_1.v a_e1.Inputs] ∧ i_matches_1_L1 a_f a_e2 rest6 k5 = some R) ⟨_, 0, _, rfl, eqA, rfl, entA, hF⟩ ?_)
 clear hF
 rintro m3 _ _ ⟨g4, k5, rest6, rfl, rfl, hd8, hE, hF⟩
 refine K_ent hE ?_
 clear hE
 refine K_pure (c := crd (RdS 3 rdInt) vc1_1.v a_e1.Inputs) (.t (.t (.t (.t .h)))) crd_bound (fun hbd13 => ?_)
 rcases rest6 with _ | ⟨x7, rest6⟩
 · have hk9 := List.drop_eq_nil_iff.1 hd8
   rw [i_matches_1_L1] at hF
   iterate 4 refine au ?_
   refine CdF ?_
   iterate 8 refine au ?_
   cases hF
   exact Er ()
 obtain ⟨hk9, hx10, hd11⟩ := drop_cons hd8
 rw [i_matches_1_L1] at hF
 iterate 4 refine au ?_
 refine CdT ?_
 iterate 4 refine au ?_
 refine Ai hx10 (fun k14 j15 => ?_)
 refine Al ls3_0 ?_
 iterate 3 refine au ?_
 refine K_draw [0, 1, 2, 3, 4, 5, 6, 7, 8, 9, 10] [0, 1, 0, 7, 15, 0, 32, 0, 224, 480, 1023] [] mixed (by decide +kernel) ?_
 iterate 3 refine du ?_
 obtain ⟨x16, hx17, hF⟩ := bind_some hF
 obtain ⟨hp18, hx19⟩ := ix_some hx17
 refine Di hx19 (fun k20 j21 => ?_)
 refine Dl ls3_0 ?_
 iterate 3 refine du ?_
 obtain ⟨x22, hx23, hF⟩ := bind_some hF
 obtain ⟨hp24, hx25⟩ := ix_some hx23
 refine Di hx25 (fun k26 j27 => ?_)
 refine Dl ls3_0 ?_
 iterate 2 refine du ?_
 refine Cc (fun hb29 => ?_) (fun hb29 => ?_)
 · rw [if_pos hb29] at hF
   iterate 4 refine au ?_
   cases hF
   exact Er ()
 rw [if_neg (nt hb29)] at hF
 iterate 5 refine au ?_
 rw [wk k5]
 exact ⟨_, Nat.lt_succ_self _, _, k5 + 1, rest6, rfl, eqA, hd11, entA, hF⟩
def g_slices_IndexFunc_impl_Fact_impl_Fact_imatches1_L1 (a_e1 : Method) (a_e2 : Access) : List Fact → Nat → Option (Int)
 | [], k4 => some (-1)
 | x6 :: rest5, k4 => (i_matches_1 x6 a_e1 a_e2).bind fun r16 =>
   if r16 then (
     some (k4 : Int))
   else (
     g_slices_IndexFunc_impl_Fact_impl_Fact_imatches1_L1 a_e1 a_e2 rest5 (k4 + 1))
def g_slices_IndexFunc_impl_Fact_impl_Fact_imatches1 (a_s : List Fact) (a_e1 : Method) (a_e2 : Access) : Option (Int) :=
 g_slices_IndexFunc_impl_Fact_impl_Fact_imatches1_L1 a_e1 a_e2 a_s 0
theorem g_slices_IndexFunc_impl_Fact_impl_Fact_imatches1_ok (a_s : List Fact) (v0_0 : Sv) (kc1 : Nat) (a_e1 : Method) (vc1_1 : Sv) (kc2 : Nat) (a_e2 : Access) (vc2_1 : Sv) (R : Int) (hF : g_slices_IndexFunc_impl_Fact_impl_Fact_imatches1 a_s a_e1 a_e2 = some R) :
   Fw.Spec Tryz.prog 169 [v0_0.v, (.func (.func 167) [].toArray [(.pointer (some ⟨kc1, 0, some 0⟩)), (.pointer (some ⟨kc2, 0, some 0⟩))].toArray)] [crd (RdS 80 rd80) v0_0.v a_s, cboR kc1 77 (.agg [(.int .i64 a_e1.Rel), vc1_1.v, (.int .i64 a_e1.Limit), (.int .i64 a_e1.Cost), (.int .i64 a_e1.Quota)].toArray), crd (RdS 3 rdInt) vc1_1.v a_e1.Inputs, cboR kc2 141 (.agg [(.int .i64 a_e2.Method), vc2_1.v].toArray), crd (RdS 3 rdInt) vc2_1.v a_e2.Values] (fun _ : Unit => (.int .i64 R)) (fun _ => []) := by
 refine Spec_enter (n := 19) Tryz.func169 rfl rfl (rs := [.tmp 4]) rfl rfl rfl ?_
 intro H0 F0
 unfold g_slices_IndexFunc_impl_Fact_impl_Fact_imatches1 at hF
 refine K_region (C_val (V_assign (v := (.int .i64 0)) (.int _ _)) ?_)
 refine C_nil (K_in (K_region (Cm v0_0.v rfl rfl ?_)))
 refine C_at .h (fun hp => V_lenR (l := a_s.length) sl40.h (.tmp rfl rfl) (crd_len hp)) ?_
 refine C_val (V_move (v := (.int .i64 0)) (.int _ _)) ?_
 refine C_nil (CW_block (CW_loop (m := a_s.length) (fun m2 f' cs' => ∃ (g : Fr) (k4 : Nat) (rest5 : List Fact), m2 = rest5.length ∧ f' = updL g [(0, v0_0.v), (1, (.func (.func 167) [].toArray [(.pointer (some ⟨kc1, 0, some 0⟩)), (.pointer (some ⟨kc2, 0, some 0⟩))].toArray)), (7, (.int .i64 (a_s.length : Int))), (8, (.int .i64 (k4 : Int)))] ∧ List.drop k4 a_s = rest5 ∧ Ent cs' [crd (RdS 80 rd80) v0_0.v a_s, cboR kc1 77 (.agg [(.int .i64 a_e1.Rel), vc1_1.v, (.int .i64 a_e1.Limit), (.int .i64 a_e1.Cost), (.int .i64 a_e1.Quota)].toArray), crd (RdS 3 rdInt) vc1_1.v a_e1.Inputs, cboR kc2 141 (.agg [(.int .i64 a_e2.Method), vc2_1.v].toArray), crd (RdS 3 rdInt) vc2_1.v a_e2.Values] ∧ g_slices_IndexFunc_impl_Fact_impl_Fact_imatches1_L1 a_e1 a_e2 rest5 k4 = some R) ⟨_, 0, _, rfl, (EqL.cons rfl (EqL.cons rfl (EqL.cons rfl (EqL.cons rfl (EqL.nil))))).eq, rfl, (.sel (.rd .h rfl (.rd (.t .h) rfl (.rd (.t (.t .h)) rfl (.rd (.t (.t (.t .h))) rfl (.rd (.t (.t (.t (.t .h)))) rfl .nil)))))), hF⟩ ?_))
 clear hF
 rintro m2 _ _ ⟨g3, k4, rest5, rfl, rfl, hd7, hE, hF⟩
 refine K_ent hE ?_
 clear hE
 refine K_pure (c := crd (RdS 80 rd80) v0_0.v a_s) .h crd_bound (fun hbd12 => ?_)
 rcases rest5 with _ | ⟨x6, rest5⟩
 · have hk8 := List.drop_eq_nil_iff.1 hd7
   have hfe11 : (decide (((k4 : Int) : Int) < (a_s.length : Int))) = false := decide_eq_false (by omega)
   rw [g_slices_IndexFunc_impl_Fact_impl_Fact_imatches1_L1] at hF
   refine K_region (C_val (V_lss (i := (k4 : Int)) (j := (a_s.length : Int)) (.tmp rfl rfl) (.tmp rfl rfl)) ?_)
   refine C_nil (K_in (CW_cond (b := (decide (((k4 : Int) : Int) < (a_s.length : Int)))) (.tmp rfl rfl) (fun hb => absurd (hfe11.symm.trans hb) (by decide)) (fun _ => ?_)))
   refine CW_exit ?_
   iterate 2 refine CThen_exit ?_
   refine CIn_self (K_region (C_val (V_assign (v := (.int .i64 (-1))) (.int _ _)) ?_))
   refine C_nil (CW_ret ?_)
   obtain rfl := Option.some.inj hF
   exact End_ret () (.tmp rfl rfl .nil) rfl (.sel .nil)
 obtain ⟨hk8, hx9, hd10⟩ := drop_cons hd7
 have hfe11 : (decide (((k4 : Int) : Int) < (a_s.length : Int))) = true := decide_eq_true (by omega)
 rw [g_slices_IndexFunc_impl_Fact_impl_Fact_imatches1_L1] at hF
 refine K_region (C_val (V_lss (i := (k4 : Int)) (j := (a_s.length : Int)) (.tmp rfl rfl) (.tmp rfl rfl)) ?_)
 refine C_nil (K_in (CW_cond (b := (decide (((k4 : Int) : Int) < (a_s.length : Int)))) (.tmp rfl rfl) (fun _ => ?_) (fun hb => absurd (hfe11.symm.trans hb) (by decide))))
 refine CW_skip (K_block (K_region (Cm (.int .i64 (k4 : Int)) rfl rfl ?_)))
 refine Ca (.int .i64 (k4 : Int)) rfl rfl ?_
 refine C_nil (K_region (Cm (.func (.func 167) [].toArray [(.pointer (some ⟨kc1, 0, some 0⟩)), (.pointer (some ⟨kc2, 0, some 0⟩))].toArray) rfl rfl ?_))
 refine Cm v0_0.v rfl rfl ?_
 refine Cm (.int .i64 (k4 : Int)) rfl rfl ?_
 refine C_idx (a := x6) sl40.h ty80.h.sz (.tmp rfl rfl) (.tmp rfl rfl) .h (Int.natCast_nonneg k4) hx9 (fun k13 j14 => ?_)
 refine C_ldA1 (ul80_0_80 x6) ag80.h ty80.h.sz rfl (.tmp rfl rfl) .h la80_0_80 (fun p15 => ?_)
 obtain ⟨r16, hx17, hF⟩ := bind_some hF
 refine C_x0 (.rd .h rfl (.rd (.t (.t (.t .h))) rfl (.rd (.t (.t (.t (.t .h)))) rfl (.rd (.t (.t (.t (.t (.t .h))))) rfl (.rd (.t (.t (.t (.t (.t (.t .h)))))) rfl .nil))))) (X_callCS cf167.h (.tmp rfl rfl) (.cons (.tmp rfl rfl) .nil) (i_matches_1_ok x6 p15 kc1 a_e1 vc1_1 kc2 a_e2 vc2_1 _ hx17)) (fun _ => ?_)
 refine C_nil (CW_cond (b := r16) (.tmp rfl rfl) (fun hb20 => ?_) (fun hb20 => ?_))
 · rw [if_pos hb20] at hF
   refine K_region (Cm (.int .i64 (k4 : Int)) rfl rfl ?_)
   refine Ca (.int .i64 (k4 : Int)) rfl rfl ?_
   refine C_nil (CW_ret ?_)
   obtain rfl := Option.some.inj hF
   exact End_ret () (.tmp rfl rfl .nil) rfl (.sel .nil)
 rw [if_neg (by rw [hb20]; exact Bool.false_ne_true)] at hF
 refine CW_skip (CW_region (C_val (V_add (i := (k4 : Int)) (j := 1) (.tmp rfl rfl) (.int _ _)) ?_))
 refine Cm (.int .i64 (IntKind.i64.wrap ((k4 : Int) + 1))) rfl rfl ?_
 refine C_nil ?_
 have hw19 : IntKind.i64.wrap ((k4 : Int) + 1) = ((k4 + 1 : Nat) : Int) := by rw [wrap_in (by omega) (by omega)]; rfl
 rw [hw19]
 exact ⟨_, Nat.lt_succ_self _, _, k4 + 1, rest5, rfl, (EqL.cons rfl (EqL.cons rfl (EqL.cons rfl (EqL.cons rfl (EqL.nil))))).eq, hd10, (.sel (.rd (.t (.t .h)) rfl (.rd (.t (.t (.t .h))) rfl (.rd (.t (.t (.t (.t .h)))) rfl (.rd (.t (.t (.t (.t (.t .h))))) rfl (.rd (.t (.t (.t (.t (.t (.t .h)))))) rfl .nil)))))), hF⟩
def g_slices_DeleteFunc_impl_Fact_impl_Fact_imatches1 (a_s : List Fact) (a_e1 : Method) (a_e2 : Access) : Option (List Fact) :=
 delL (fun a_q => i_matches_1 a_q a_e1 a_e2) a_s
theorem g_slices_DeleteFunc_impl_Fact_impl_Fact_imatches1_sh (qs : List (Value × Fact)) (v : Sv) (F : List Nat) (kc1 : Nat) (a_e1 : Method) (vc1_1 : Sv) (kc2 : Nat) (a_e2 : Access) (vc2_1 : Sv) (p : Value × Fact → Bool) (hcl : ∀ q ∈ qs, i_matches_1 q.2 a_e1 a_e2 = some (p q)) (hidx : g_slices_IndexFunc_impl_Fact_impl_Fact_imatches1 (qs.map Prod.snd) a_e1 a_e2 = some (ixF p qs 0)) (hbd : qs.length < 4611686018427387904) :
   Fw.Spec Tryz.prog 165 [v.v, (.func (.func 167) [].toArray [(.pointer (some ⟨kc1, 0, some 0⟩)), (.pointer (some ⟨kc2, 0, some 0⟩))].toArray)] [cown (OwnS 80 (roE (rq rd80))) F v.v qs, cboR kc1 77 (.agg [(.int .i64 a_e1.Rel), vc1_1.v, (.int .i64 a_e1.Limit), (.int .i64 a_e1.Cost), (.int .i64 a_e1.Quota)].toArray), crd (RdS 3 rdInt) vc1_1.v a_e1.Inputs, cboR kc2 141 (.agg [(.int .i64 a_e2.Method), vc2_1.v].toArray), crd (RdS 3 rdInt) vc2_1.v a_e2.Values] (fun q : Sv × List Nat => q.1.v) (fun q => [cown (OwnS 80 (roE (rq rd80))) q.2 q.1.v (qs.filter fun a => !p a)]) := by
 refine Spec_enter (n := 42) Tryz.func165 rfl rfl (rs := [.tmp 4]) rfl rfl rfl ?_
 intro H0 F0
 refine K_region ?_
 refine C_val (V_assign (v := (.slice none 0 0)) EV.nilSlice) ?_
 refine C_nil ?_
 refine K_region ?_
 refine C_val (V_move (v := v.v) (.tmp rfl rfl)) ?_
 refine C_val (V_move (v := (.func (.func 167) [].toArray [(.pointer (some ⟨kc1, 0, some 0⟩)), (.pointer (some ⟨kc2, 0, some 0⟩))].toArray)) (.tmp rfl rfl)) ?_
 refine C_x1 (.cons .h (.rd .h rfl (.rd (.t .h) rfl (.rd (.t (.t .h)) rfl (.rd (.t (.t (.t .h))) rfl .nil))))) (XC_borR frz_rq (fun _ => .nil) (XC_pre (.rd (.t (.t (.t (.t .h)))) rfl (.rd .h rfl (.rd (.t .h) rfl (.rd (.t (.t .h)) rfl (.rd (.t (.t (.t .h))) rfl .nil))))) (X_callS cf169.h (.cons (.tmp rfl rfl) (.cons (.tmp rfl rfl) .nil)) (g_slices_IndexFunc_impl_Fact_impl_Fact_imatches1_ok (qs.map Prod.snd) v kc1 a_e1 vc1_1 kc2 a_e2 vc2_1 _ hidx)))) (fun _ => ?_)
 generalize hR : ixF p qs 0 = R0
 refine C_val (V_assign (v := (.int .i64 R0)) (.tmp rfl rfl)) ?_
 refine C_nil ?_
 refine K_in ?_
 refine K_region ?_
 refine C_val (V_move (v := (.int .i64 R0)) (.tmp rfl rfl)) ?_
 refine C_val (V_eql (i := R0) (j := (-1)) (.tmp rfl rfl) (.int _ _)) ?_
 refine C_nil ?_
 refine CW_cond (b := (R0 == (-1 : Int))) (.tmp rfl rfl) (fun hb => ?_) (fun hb => ?_)
 · refine K_region ?_
   refine C_val (V_move (v := v.v) (.tmp rfl rfl)) ?_
   refine C_val (V_assign (v := v.v) (.tmp rfl rfl)) ?_
   refine C_nil ?_
   refine CW_ret ?_
   have e : qs.filter (fun q => !p q) = qs := ixF_none (k := 0) (by rw [hR]; simpa using hb)
   rw [e]
   exact End_ret (v, F) (.tmp rfl rfl .nil) rfl (.sel (.cons .h .nil))
 refine CW_skip ?_
 obtain ⟨i0, hi0, hi1⟩ : ∃ i : Nat, R0 = (i : Int) ∧ i < qs.length := by
   rcases ixF_range p qs 0 with h | ⟨i, h, hi⟩
   · rw [hR] at h; subst h; simp at hb
   · exact ⟨i, by rw [← hR, h], by omega⟩
 subst hi0
 refine K_in ?_
 refine K_region ?_
 refine C_val (V_move (v := (.int .i64 (i0 : Int))) (.tmp rfl rfl)) ?_
 refine C_val (V_add (i := (i0 : Int)) (j := 1) (.tmp rfl rfl) (.int _ _)) ?_
 rw [show IntKind.i64.wrap ((i0 : Int) + 1) = ((i0 + 1 : Nat) : Int) from by rw [wrap_in (by omega) (by omega)]; rfl]
 refine C_val (V_assign (v := (.int .i64 ((i0 + 1 : Nat) : Int))) (.tmp rfl rfl)) ?_
 refine C_nil ?_
 refine CW_block ?_
 refine CW_loop (m := qs.length - (i0 + 1)) (fun m f' cs' => ∃ (g : Fr) (cur : List (Value × Fact)) (i j : Nat) (F' : List Nat), m = qs.length - j ∧ f' = updL g [(0, v.v), (1, (.func (.func 167) [].toArray [(.pointer (some ⟨kc1, 0, some 0⟩)), (.pointer (some ⟨kc2, 0, some 0⟩))].toArray)), (5, (.int .i64 (i : Int))), (6, (.int .i64 (j : Int)))] ∧ DelI p qs cur i j ∧ Ent cs' [cown (OwnS 80 (roE (rq rd80))) F' v.v cur, cboR kc1 77 (.agg [(.int .i64 a_e1.Rel), vc1_1.v, (.int .i64 a_e1.Limit), (.int .i64 a_e1.Cost), (.int .i64 a_e1.Quota)].toArray), crd (RdS 3 rdInt) vc1_1.v a_e1.Inputs, cboR kc2 141 (.agg [(.int .i64 a_e2.Method), vc2_1.v].toArray), crd (RdS 3 rdInt) vc2_1.v a_e2.Values]) ⟨_, qs, i0, i0 + 1, F, rfl, (EqL.cons rfl (EqL.cons rfl (EqL.cons rfl (EqL.cons rfl (EqL.nil))))).eq, DelI.init (by rw [hR]), .sel (.cons .h (.rd .h rfl (.rd (.t .h) rfl (.rd (.t (.t .h)) rfl (.rd (.t (.t (.t .h))) rfl .nil)))))⟩ ?_
 rintro m _ _ ⟨g, cur, i, j, F', rfl, rfl, hI, hE⟩
 refine K_ent hE ?_
 clear hE
 refine K_in ?_
 refine K_region ?_
 refine C_val (V_move (v := (.int .i64 (j : Int))) (.tmp rfl rfl)) ?_
 refine C_val (V_move (v := v.v) (.tmp rfl rfl)) ?_
 refine C_at .h (fun hp => V_lenR (l := cur.length) sl40.h (.tmp rfl rfl) (cown_len hp)) ?_
 refine C_val (V_lss (i := (j : Int)) (j := (cur.length : Int)) (.tmp rfl rfl) (.tmp rfl rfl)) ?_
 refine C_nil ?_
 have hlen := hI.len
 have hij := hI.lt
 have hjl := hI.le
 refine CW_cond (b := (decide ((j : Int) < (cur.length : Int)))) (.tmp rfl rfl) (fun hb2 => ?_) (fun hb2 => ?_)
 · refine CW_skip ?_
   have hj : j < qs.length := by simp at hb2; omega
   obtain ⟨x, hx1, hx2⟩ := hI.at hj
   refine K_block ?_
   refine K_region ?_
   refine C_val (V_move (v := v.v) (.tmp rfl rfl)) ?_
   refine C_val (V_move (v := (.int .i64 (j : Int))) (.tmp rfl rfl)) ?_
   refine C_idxO sl40.h ty80.h.sz (.tmp rfl rfl) (.tmp rfl rfl) .h (by simp; omega) (fun k hk => ?_)
   refine C_ldOW (a := x) (ul := fun i : Sv => [(.int .i64 x.2.Rel), i.v]) (cc := fun i => [crd (RdS 3 rdInt) i.v x.2.Values]) ag80.h ty80.h.sz rfl (.tmp rfl rfl) .h hk (by simpa using hx1) (fun H e h => by obtain ⟨-, v0, h1, h0⟩ := h; exact ⟨v0, h1, rfl, by simp [crd, h0]⟩) (fun w => ?_)
   refine C_new rfl (N_allocT (g := true) ty80.h rfl rfl) (fun k1 => ?_)
   refine C_x1 (.cons .h .nil) (X_storeB (e := (.agg [(.int .i64 0), (.slice none 0 0)].toArray)) (e' := (.agg [(.int .i64 x.2.Rel), w.v].toArray)) (v := (.agg [(.int .i64 x.2.Rel), w.v].toArray)) ty80.h.sz (.tmp rfl rfl) (.tmp rfl rfl) rfl rfl rfl rfl rfl) (fun _ => ?_)
   refine C_nil ?_
   refine K_region ?_
   refine C_val (V_move (v := (.func (.func 167) [].toArray [(.pointer (some ⟨kc1, 0, some 0⟩)), (.pointer (some ⟨kc2, 0, some 0⟩))].toArray)) (.tmp rfl rfl)) ?_
   refine C_at .h (fun hp => V_loadBox ag80.h ty80.h.sz rfl (.tmp rfl rfl) hp.2 rfl) ?_
   refine C_x0 (.rd (.t (.t .h)) rfl (.rd (.t (.t (.t (.t .h)))) rfl (.rd (.t (.t (.t (.t (.t .h))))) rfl (.rd (.t (.t (.t (.t (.t (.t .h)))))) rfl (.rd (.t (.t (.t (.t (.t (.t (.t .h))))))) rfl .nil))))) (X_callCS cf167.h (.tmp rfl rfl) (.cons (.tmp rfl rfl) .nil) (i_matches_1_ok x.2 w kc1 a_e1 vc1_1 kc2 a_e2 vc2_1 _ (hcl x (List.mem_of_getElem? hx2)))) (fun _ => ?_)
   refine C_val (V_not (b := p x) (.tmp rfl rfl)) ?_
   refine C_nil ?_
   refine CW_cond (b := (!p x)) (.tmp rfl rfl) (fun hb3 => ?_) (fun hb3 => ?_)
   · refine K_region ?_
     refine C_val (V_move (v := v.v) (.tmp rfl rfl)) ?_
     refine C_val (V_move (v := (.int .i64 (i : Int))) (.tmp rfl rfl)) ?_
     refine C_at .h (fun hp => V_loadBox ag80.h ty80.h.sz rfl (.tmp rfl rfl) hp.2 rfl) ?_
     have hii : (decide ((0 : Int) ≤ (i : Int)) && decide ((i : Int) < (cur.length : Int))) = true := by simp; omega
     refine C_idxO sl40.h ty80.h.sz (.tmp rfl rfl) (.tmp rfl rfl) (.t (.t (.t .h))) hii (fun k2 hk2 => ?_)
     refine C_x1 (.cons (.t (.t (.t .h))) (.rd (.t .h) rfl .nil)) (X_storeO (Ro := roE (rq rd80)) (a := x) (i := (i : Int)) ty80.h.sz rfl (.tmp rfl rfl) (.tmp rfl rfl) hk2 hii Mk_rd (fun _ _ _ _ h => by obtain ⟨-, -, v0, rfl, _⟩ := h; rfl)) (fun F2 => ?_)
     refine C_nil ?_
     refine CW_region ?_
     refine C_val (V_move (v := (.int .i64 (i : Int))) (.tmp rfl rfl)) ?_
     refine C_val (V_add (i := (i : Int)) (j := 1) (.tmp rfl rfl) (.int _ _)) ?_
     rw [show IntKind.i64.wrap ((i : Int) + 1) = ((i + 1 : Nat) : Int) from by rw [wrap_in (by omega) (by omega)]; rfl]
     refine C_val (V_assign (v := (.int .i64 ((i + 1 : Nat) : Int))) (.tmp rfl rfl)) ?_
     refine C_nil ?_
     refine CW_region ?_
     refine C_val (V_move (v := (.int .i64 (j : Int))) (.tmp rfl rfl)) ?_
     refine C_val (V_add (i := (j : Int)) (j := 1) (.tmp rfl rfl) (.int _ _)) ?_
     rw [show IntKind.i64.wrap ((j : Int) + 1) = ((j + 1 : Nat) : Int) from by rw [wrap_in (by omega) (by omega)]; rfl]
     refine C_val (V_assign (v := (.int .i64 ((j + 1 : Nat) : Int))) (.tmp rfl rfl)) ?_
     refine C_nil ?_
     exact ⟨_, by omega, _, cur.set i x, i + 1, j + 1, F2, rfl, (EqL.cons rfl (EqL.cons rfl (EqL.cons rfl (EqL.cons rfl (EqL.nil))))).eq, hI.no hx2 (by simpa using hb3), .sel (.cons .h (.rd (.t (.t (.t .h))) rfl (.rd (.t (.t (.t (.t .h)))) rfl (.rd (.t (.t (.t (.t (.t .h))))) rfl (.rd (.t (.t (.t (.t (.t (.t .h)))))) rfl .nil)))))⟩
   · refine CW_skip ?_
     refine CW_region ?_
     refine C_val (V_move (v := (.int .i64 (j : Int))) (.tmp rfl rfl)) ?_
     refine C_val (V_add (i := (j : Int)) (j := 1) (.tmp rfl rfl) (.int _ _)) ?_
     rw [show IntKind.i64.wrap ((j : Int) + 1) = ((j + 1 : Nat) : Int) from by rw [wrap_in (by omega) (by omega)]; rfl]
     refine C_val (V_assign (v := (.int .i64 ((j + 1 : Nat) : Int))) (.tmp rfl rfl)) ?_
     refine C_nil ?_
     exact ⟨_, by omega, _, cur, i, j + 1, F', rfl, (EqL.cons rfl (EqL.cons rfl (EqL.cons rfl (EqL.cons rfl (EqL.nil))))).eq, hI.yes hx2 (by simpa using hb3), .sel (.cons (.t (.t (.t .h))) (.rd (.t (.t (.t .h))) rfl (.rd (.t (.t (.t (.t .h)))) rfl (.rd (.t (.t (.t (.t (.t .h))))) rfl (.rd (.t (.t (.t (.t (.t (.t .h)))))) rfl .nil)))))⟩
 · refine CW_exit ?_
   refine CThen_exit ?_
   refine CThen_exit ?_
   refine CIn_self ?_
   have hj : qs.length ≤ j := by simp at hb2; omega
   refine K_pure .h (own_form (by intro e; rw [e] at hlen; simp at hlen; omega)) (fun hv => ?_)
   obtain ⟨k0, m0, rfl, hm0⟩ := hv
   refine K_region ?_
   refine C_val (V_move (v := (.slice (some ⟨k0, 0, none⟩) cur.length m0)) (.tmp rfl rfl)) ?_
   refine C_val (V_move (v := (.int .i64 (i : Int))) (.tmp rfl rfl)) ?_
   refine C_sliceLo sl40.h ty80.h.sz (.tmp rfl rfl) (.tmp rfl rfl) .h (by omega) (by omega) ?_
   refine C_x1 (.cons .h .nil) (X_clear (l := cur.length) (m := m0) (k := k0) (i := i) (j := cur.length - i) sl40.h ty80.h rfl rfl rfl rfl rfl (by omega) (.tmp rfl rfl)) (fun _ => ?_)
   refine C_nil ?_
   refine K_region ?_
   refine C_val (V_move (v := (.slice (some ⟨k0, 0, none⟩) cur.length m0)) (.tmp rfl rfl)) ?_
   refine C_val (V_move (v := (.int .i64 (i : Int))) (.tmp rfl rfl)) ?_
   refine C_sliceHi sl40.h ty80.h.sz (.tmp rfl rfl) hm0 (.tmp rfl rfl) .h rfl (by omega) (by omega) (by omega) ?_
   refine C_val (V_assign (v := (.slice (some ⟨k0, 0, none⟩) i 2)) (.tmp rfl rfl)) ?_
   refine C_nil ?_
   refine CW_ret ?_
   rw [← hI.fin hj]
   exact End_ret (⟨some ⟨k0, 0, none⟩, i, 2⟩, F') (.tmp rfl rfl .nil) rfl (.sel (.cons .h .nil))
theorem g_slices_DeleteFunc_impl_Fact_impl_Fact_imatches1_ok (a_s : List Fact) (v0_0 : Sv) (F0_0 : List Nat) (kc1 : Nat) (a_e1 : Method) (vc1_1 : Sv) (kc2 : Nat) (a_e2 : Access) (vc2_1 : Sv) (R : List Fact) (hF : g_slices_DeleteFunc_impl_Fact_impl_Fact_imatches1 a_s a_e1 a_e2 = some R) :
   Fw.Spec Tryz.prog 165 [v0_0.v, (.func (.func 167) [].toArray [(.pointer (some ⟨kc1, 0, some 0⟩)), (.pointer (some ⟨kc2, 0, some 0⟩))].toArray)] [cown (OwnS 80 ow80) F0_0 v0_0.v a_s, cboR kc1 77 (.agg [(.int .i64 a_e1.Rel), vc1_1.v, (.int .i64 a_e1.Limit), (.int .i64 a_e1.Cost), (.int .i64 a_e1.Quota)].toArray), crd (RdS 3 rdInt) vc1_1.v a_e1.Inputs, cboR kc2 141 (.agg [(.int .i64 a_e2.Method), vc2_1.v].toArray), crd (RdS 3 rdInt) vc2_1.v a_e2.Values] (fun p : Sv × List Nat => p.1.v) (fun p => [cown (OwnS 80 ow80) p.2 p.1.v R]) := by
 unfold g_slices_DeleteFunc_impl_Fact_impl_Fact_imatches1 at hF
 obtain ⟨h1, h2⟩ := delL_some hF
 refine Spec_pure cown_bound (fun hb => ?_)
 refine Spec_deep (R := rd80) rfl (fun es F1 hel => ⟨(es.zip a_s).filter (fun a => !(i_matches_1 a.2 a_e1 a_e2).getD false), List.filter_sublist, by rw [h2]; exact zip_filter (fun a => (i_matches_1 a a_e1 a_e2).getD false) es a_s hel, ?_⟩)
 refine g_slices_DeleteFunc_impl_Fact_impl_Fact_imatches1_sh (es.zip a_s) v0_0 F1 kc1 a_e1 vc1_1 kc2 a_e2 vc2_1 (fun a => (i_matches_1 a.2 a_e1 a_e2).getD false) (fun q hq => h1 q.2 (List.of_mem_zip hq).2) ?_ (by simp; omega)
 rw [List.map_snd_zip (Nat.le_of_eq hel.symm), ← ixF_map Prod.snd (fun a => (i_matches_1 a a_e1 a_e2).getD false), List.map_snd_zip (Nat.le_of_eq hel.symm)]
 exact index_loop (L := g_slices_IndexFunc_impl_Fact_impl_Fact_imatches1_L1 a_e1 a_e2) (fun _ => rfl) (fun _ _ _ => rfl) a_s 0 h1
def i_matches (a_l : List Method) (a_facts : List Fact) (a_a : Access) : Option ((List Fact)) :=
 (ix a_l a_a.Method).bind fun x2 =>
 (i_copyFacts a_facts).bind fun r13 =>
 (g_slices_DeleteFunc_impl_Fact_impl_Fact_imatches1 r13 x2 a_a).bind fun r16 =>
 some r16
theorem i_matches_ok (a_l : List Method) (v0_0 : Sv) (a_facts : List Fact) (v1_0 : Sv) (a_a : Access) (v2_1 : Sv) (R : (List Fact)) (hF : i_matches a_l a_facts a_a = some R) :
   Fw.Spec Tryz.prog 127 [v0_0.v, v1_0.v, (.agg [(.int .i64 a_a.Method), v2_1.v].toArray)] [crd (RdS 77 rd77) v0_0.v a_l, crd (RdS 80 rd80) v1_0.v a_facts, crd (RdS 3 rdInt) v2_1.v a_a.Values] (fun p : Sv × List Nat => p.1.v) (fun p => [cown (OwnS 80 ow80) p.2 p.1.v R]) := by
 refine Spec_enter (n := 17) Tryz.func127 rfl rfl (rs := [.tmp 6]) rfl rfl rfl ?_
 intro H0 F0
 unfold i_matches at hF
 refine au ?_
 refine C_newR rfl (N_box (g := false) (v := (.agg [(.int .i64 a_a.Method), v2_1.v].toArray)) ty141.h.sz (.tmp rfl rfl) rfl) (fun k1 => ?_)
 iterate 6 refine au ?_
 obtain ⟨x2, hx3, hF⟩ := bind_some hF
 obtain ⟨hp4, hx5⟩ := ix_some hx3
 refine C_idx (a := x2) sl34.h ty77.h.sz (.tmp rfl rfl) (.tmp rfl rfl) (.t .h) hp4 hx5 (fun k6 j7 => ?_)
 refine C_ldA1 (ul77_0_77 x2) ag77.h ty77.h.sz rfl (.tmp rfl rfl) .h la77_0_77 (fun p8 => ?_)
 refine C_new rfl (N_allocT (g := true) ty77.h rfl rfl) (fun k9 => ?_)
 refine C_x1 (.cons .h .nil) (X_storeB (e' := (.agg [(.int .i64 x2.Rel), p8.v, (.int .i64 x2.Limit), (.int .i64 x2.Cost), (.int .i64 x2.Quota)].toArray)) (v := (.agg [(.int .i64 x2.Rel), p8.v, (.int .i64 x2.Limit), (.int .i64 x2.Cost), (.int .i64 x2.Quota)].toArray)) ty77.h.sz (.tmp rfl rfl) (.tmp rfl rfl) rfl rfl rfl rfl rfl) (fun _ => ?_)
 refine au ?_
 refine K_frz .h frz_blk ?_
 iterate 2 refine au ?_
 obtain ⟨r13, hx14, hF⟩ := bind_some hF
 refine C_x1 (.rd (.t (.t (.t (.t (.t .h))))) rfl .nil) (X_callS cf166.h (.cons (.tmp rfl rfl) .nil) (i_copyFacts_ok a_facts v1_0 _ hx14)) (fun p15 => ?_)
 refine C_val (V_makeFunc (fn := .func 167) (vs := []) (us := [(.pointer (some ⟨k9, 0, some 0⟩)), (.pointer (some ⟨k1, 0, some 0⟩))]) .nil (.cons (.tmp rfl rfl) (.cons (.tmp rfl rfl) .nil))) ?_
 obtain ⟨r16, hx17, hF⟩ := bind_some hF
 refine C_x1 (.cons .h (.rd .h rfl (.rd (.t .h) rfl (.rd (.t (.t (.t .h))) rfl (.rd (.t (.t (.t (.t (.t (.t .h)))))) rfl .nil))))) (X_callS cf165.h (.cons (.tmp rfl rfl) (.cons (.tmp rfl rfl) .nil)) (g_slices_DeleteFunc_impl_Fact_impl_Fact_imatches1_ok r13 p15.1 p15.2 k9 x2 p8 k1 a_a v2_1 _ hx17)) (fun p18 => ?_)
 iterate 3 refine au ?_
 obtain rfl := Option.some.inj hF
 exact End_ret (p18.1, p18.2) (.tmp rfl rfl .nil) rfl (.sel (.cons .h .nil))
def i_HasFact_1 (a_x : Fact) (a_e1 : Fact) : Option (Bool) :=
 (i_CompareFacts a_x a_e1).bind fun r2 =>
 some ((r2 : Int) == 0)
theorem i_HasFact_1_ok (a_x : Fact) (v0_1 : Sv) (kc1 : Nat) (a_e1 : Fact) (vc1_1 : Sv) (R : Bool) (hF : i_HasFact_1 a_x a_e1 = some R) :
   Fw.Spec Tryz.prog 199 [(.agg [(.int .i64 a_x.Rel), v0_1.v].toArray), (.pointer (some ⟨kc1, 0, some 0⟩))] [crd (RdS 3 rdInt) v0_1.v a_x.Values, cboR kc1 80 (.agg [(.int .i64 a_e1.Rel), vc1_1.v].toArray), crd (RdS 3 rdInt) vc1_1.v a_e1.Values] (fun _ : Unit => (.bool R)) (fun _ => []) := by
 refine Spec_enter (n := 8) Tryz.func199 rfl rfl (rs := [.tmp 3]) rfl rfl rfl ?_
 intro H0 F0
 unfold i_HasFact_1 at hF
 refine au ?_
 refine AbR (fun k1 => ?_)
 iterate 5 refine au ?_
 obtain ⟨r2, hx3, hF⟩ := bind_some hF
 refine Cx0 (i_CompareFacts_ok _ _ _ _ _ hx3) (fun _ => ?_)
 iterate 4 refine au ?_
 cases hF
 exact Er ()
def g_slices_IndexFunc_impl_Fact_impl_Fact_iHasFact1_L1 (a_e1 : Fact) : List Fact → Nat → Option (Int)
 | [], k4 => some (-1)
 | x6 :: rest5, k4 => (i_HasFact_1 x6 a_e1).bind fun r16 =>
   if r16 then (
     some (k4 : Int))
   else (
     g_slices_IndexFunc_impl_Fact_impl_Fact_iHasFact1_L1 a_e1 rest5 (k4 + 1))
def g_slices_IndexFunc_impl_Fact_impl_Fact_iHasFact1 (a_s : List Fact) (a_e1 : Fact) : Option (Int) :=
 g_slices_IndexFunc_impl_Fact_impl_Fact_iHasFact1_L1 a_e1 a_s 0
theorem g_slices_IndexFunc_impl_Fact_impl_Fact_iHasFact1_ok (a_s : List Fact) (v0_0 : Sv) (kc1 : Nat) (a_e1 : Fact) (vc1_1 : Sv) (R : Int) (hF : g_slices_IndexFunc_impl_Fact_impl_Fact_iHasFact1 a_s a_e1 = some R) :
   Fw.Spec Tryz.prog 169 [v0_0.v, (.func (.func 199) [].toArray [(.pointer (some ⟨kc1, 0, some 0⟩))].toArray)] [crd (RdS 80 rd80) v0_0.v a_s, cboR kc1 80 (.agg [(.int .i64 a_e1.Rel), vc1_1.v].toArray), crd (RdS 3 rdInt) vc1_1.v a_e1.Values] (fun _ : Unit => (.int .i64 R)) (fun _ => []) := by
 refine Spec_enter (n := 19) Tryz.func169 rfl rfl (rs := [.tmp 4]) rfl rfl rfl ?_
 intro H0 F0
 unfold g_slices_IndexFunc_impl_Fact_impl_Fact_iHasFact1 at hF
 refine K_region (C_val (V_assign (v := (.int .i64 0)) (.int _ _)) ?_)
 refine C_nil (K_in (K_region (Cm v0_0.v rfl rfl ?_)))
 refine C_at .h (fun hp => V_lenR (l := a_s.length) sl40.h (.tmp rfl rfl) (crd_len hp)) ?_
 refine C_val (V_move (v := (.int .i64 0)) (.int _ _)) ?_
 refine C_nil (CW_block (CW_loop (m := a_s.length) (fun m2 f' cs' => ∃ (g : Fr) (k4 : Nat) (rest5 : List Fact), m2 = rest5.length ∧ f' = updL g [(0, v0_0.v), (1, (.func (.func 199) [].toArray [(.pointer (some ⟨kc1, 0, some 0⟩))].toArray)), (7, (.int .i64 (a_s.length : Int))), (8, (.int .i64 (k4 : Int)))] ∧ List.drop k4 a_s = rest5 ∧ Ent cs' [crd (RdS 80 rd80) v0_0.v a_s, cboR kc1 80 (.agg [(.int .i64 a_e1.Rel), vc1_1.v].toArray), crd (RdS 3 rdInt) vc1_1.v a_e1.Values] ∧ g_slices_IndexFunc_impl_Fact_impl_Fact_iHasFact1_L1 a_e1 rest5 k4 = some R) ⟨_, 0, _, rfl, (EqL.cons rfl (EqL.cons rfl (EqL.cons rfl (EqL.cons rfl (EqL.nil))))).eq, rfl, (.sel (.rd .h rfl (.rd (.t .h) rfl (.rd (.t (.t .h)) rfl .nil)))), hF⟩ ?_))
 clear hF
 rintro m2 _ _ ⟨g3, k4, rest5, rfl, rfl, hd7, hE, hF⟩
 refine K_ent hE ?_
 clear hE
 refine K_pure (c := crd (RdS 80 rd80) v0_0.v a_s) .h crd_bound (fun hbd12 => ?_)
 rcases rest5 with _ | ⟨x6, rest5⟩
 · have hk8 := List.drop_eq_nil_iff.1 hd7
   have hfe11 : (decide (((k4 : Int) : Int) < (a_s.length : Int))) = false := decide_eq_false (by omega)
   rw [g_slices_IndexFunc_impl_Fact_impl_Fact_iHasFact1_L1] at hF
   refine K_region (C_val (V_lss (i := (k4 : Int)) (j := (a_s.length : Int)) (.tmp rfl rfl) (.tmp rfl rfl)) ?_)
   refine C_nil (K_in (CW_cond (b := (decide (((k4 : Int) : Int) < (a_s.length : Int)))) (.tmp rfl rfl) (fun hb => absurd (hfe11.symm.trans hb) (by decide)) (fun _ => ?_)))
   refine CW_exit ?_
   iterate 2 refine CThen_exit ?_
   refine CIn_self (K_region (C_val (V_assign (v := (.int .i64 (-1))) (.int _ _)) ?_))
   refine C_nil (CW_ret ?_)
   obtain rfl := Option.some.inj hF
   exact End_ret () (.tmp rfl rfl .nil) rfl (.sel .nil)
 obtain ⟨hk8, hx9, hd10⟩ := drop_cons hd7
 have hfe11 : (decide (((k4 : Int) : Int) < (a_s.length : Int))) = true := decide_eq_true (by omega)
 rw [g_slices_IndexFunc_impl_Fact_impl_Fact_iHasFact1_L1] at hF
 refine K_region (C_val (V_lss (i := (k4 : Int)) (j := (a_s.length : Int)) (.tmp rfl rfl) (.tmp rfl rfl)) ?_)
 refine C_nil (K_in (CW_cond (b := (decide (((k4 : Int) : Int) < (a_s.length : Int)))) (.tmp rfl rfl) (fun _ => ?_) (fun hb => absurd (hfe11.symm.trans hb) (by decide))))
 refine CW_skip (K_block (K_region (Cm (.int .i64 (k4 : Int)) rfl rfl ?_)))
 refine Ca (.int .i64 (k4 : Int)) rfl rfl ?_
 refine C_nil (K_region (Cm (.func (.func 199) [].toArray [(.pointer (some ⟨kc1, 0, some 0⟩))].toArray) rfl rfl ?_))
 refine Cm v0_0.v rfl rfl ?_
 refine Cm (.int .i64 (k4 : Int)) rfl rfl ?_
 refine C_idx (a := x6) sl40.h ty80.h.sz (.tmp rfl rfl) (.tmp rfl rfl) .h (Int.natCast_nonneg k4) hx9 (fun k13 j14 => ?_)
 refine C_ldA1 (ul80_0_80 x6) ag80.h ty80.h.sz rfl (.tmp rfl rfl) .h la80_0_80 (fun p15 => ?_)
 obtain ⟨r16, hx17, hF⟩ := bind_some hF
 refine C_x0 (.rd .h rfl (.rd (.t (.t (.t .h))) rfl (.rd (.t (.t (.t (.t .h)))) rfl .nil))) (X_callCS cf199.h (.tmp rfl rfl) (.cons (.tmp rfl rfl) .nil) (i_HasFact_1_ok x6 p15 kc1 a_e1 vc1_1 _ hx17)) (fun _ => ?_)
 refine C_nil (CW_cond (b := r16) (.tmp rfl rfl) (fun hb20 => ?_) (fun hb20 => ?_))
 · rw [if_pos hb20] at hF
   refine K_region (Cm (.int .i64 (k4 : Int)) rfl rfl ?_)
   refine Ca (.int .i64 (k4 : Int)) rfl rfl ?_
   refine C_nil (CW_ret ?_)
   obtain rfl := Option.some.inj hF
   exact End_ret () (.tmp rfl rfl .nil) rfl (.sel .nil)
 rw [if_neg (by rw [hb20]; exact Bool.false_ne_true)] at hF
 refine CW_skip (CW_region (C_val (V_add (i := (k4 : Int)) (j := 1) (.tmp rfl rfl) (.int _ _)) ?_))
 refine Cm (.int .i64 (IntKind.i64.wrap ((k4 : Int) + 1))) rfl rfl ?_
 refine C_nil ?_
 have hw19 : IntKind.i64.wrap ((k4 : Int) + 1) = ((k4 + 1 : Nat) : Int) := by rw [wrap_in (by omega) (by omega)]; rfl
 rw [hw19]
 exact ⟨_, Nat.lt_succ_self _, _, k4 + 1, rest5, rfl, (EqL.cons rfl (EqL.cons rfl (EqL.cons rfl (EqL.cons rfl (EqL.nil))))).eq, hd10, (.sel (.rd (.t (.t .h)) rfl (.rd (.t (.t (.t .h))) rfl (.rd (.t (.t (.t (.t .h)))) rfl .nil)))), hF⟩
def g_slices_ContainsFunc_impl_Fact_impl_Fact_iHasFact1 (a_s : List Fact) (a_e1 : Fact) : Option (Bool) :=
 (g_slices_IndexFunc_impl_Fact_impl_Fact_iHasFact1 a_s a_e1).bind fun r1 =>
 some (decide ((0 : Int) ≤ r1))
theorem g_slices_ContainsFunc_impl_Fact_impl_Fact_iHasFact1_ok (a_s : List Fact) (v0_0 : Sv) (kc1 : Nat) (a_e1 : Fact) (vc1_1 : Sv) (R : Bool) (hF : g_slices_ContainsFunc_impl_Fact_impl_Fact_iHasFact1 a_s a_e1 = some R) :
   Fw.Spec Tryz.prog 198 [v0_0.v, (.func (.func 199) [].toArray [(.pointer (some ⟨kc1, 0, some 0⟩))].toArray)] [crd (RdS 80 rd80) v0_0.v a_s, cboR kc1 80 (.agg [(.int .i64 a_e1.Rel), vc1_1.v].toArray), crd (RdS 3 rdInt) vc1_1.v a_e1.Values] (fun _ : Unit => (.bool R)) (fun _ => []) := by
 refine Spec_enter (n := 9) Tryz.func198 rfl rfl (rs := [.tmp 4]) rfl rfl rfl ?_
 intro H0 F0
 unfold g_slices_ContainsFunc_impl_Fact_impl_Fact_iHasFact1 at hF
 refine K_region (C_val (V_assign (v := (.bool false)) (.bool _)) ?_)
 refine C_nil (K_region (Cm v0_0.v rfl rfl ?_))
 refine Cm (.func (.func 199) [].toArray [(.pointer (some ⟨kc1, 0, some 0⟩))].toArray) rfl rfl ?_
 obtain ⟨r1, hx2, hF⟩ := bind_some hF
 refine C_x0 (.rd .h rfl (.rd (.t .h) rfl (.rd (.t (.t .h)) rfl .nil))) (X_callS cf169.h (.cons (.tmp rfl rfl) (.cons (.tmp rfl rfl) .nil)) (g_slices_IndexFunc_impl_Fact_impl_Fact_iHasFact1_ok a_s v0_0 kc1 a_e1 vc1_1 _ hx2)) (fun _ => ?_)
 refine C_val (V_geq (i := r1) (j := 0) (.tmp rfl rfl) (.int _ _)) ?_
 refine Ca (.bool (decide ((0 : Int) ≤ r1))) rfl rfl ?_
 refine C_nil (CW_ret ?_)
 obtain rfl := Option.some.inj hF
 exact End_ret () (.tmp rfl rfl .nil) rfl (.sel .nil)
def i_HasFact (a_l : List Fact) (a_f : Fact) : Option (Bool) :=
 (g_slices_ContainsFunc_impl_Fact_impl_Fact_iHasFact1 a_l a_f).bind fun r2 =>
 some r2
theorem i_HasFact_ok (a_l : List Fact) (v0_0 : Sv) (a_f : Fact) (v1_1 : Sv) (R : Bool) (hF : i_HasFact a_l a_f = some R) :
   Fw.Spec Tryz.prog 168 [v0_0.v, (.agg [(.int .i64 a_f.Rel), v1_1.v].toArray)] [crd (RdS 80 rd80) v0_0.v a_l, crd (RdS 3 rdInt) v1_1.v a_f.Values] (fun _ : Unit => (.bool R)) (fun _ => []) := by
 refine Spec_enter (n := 8) Tryz.func168 rfl rfl (rs := [.tmp 4]) rfl rfl rfl ?_
 intro H0 F0
 unfold i_HasFact at hF
 refine au ?_
 refine AbR (fun k1 => ?_)
 iterate 4 refine au ?_
 refine C_val (V_makeFunc (fn := .func 199) (vs := []) (us := [(.pointer (some ⟨k1, 0, some 0⟩))]) .nil (.cons (.tmp rfl rfl) .nil)) ?_
 obtain ⟨r2, hx3, hF⟩ := bind_some hF
 refine Cx0 (g_slices_ContainsFunc_impl_Fact_impl_Fact_iHasFact1_ok _ _ _ _ _ _ hx3) (fun _ => ?_)
 iterate 3 refine au ?_
 cases hF
 exact Er ()
def i_added_1 (a_x : Fact) (a_e1 : Fact) : Option (Bool) :=
 (i_CompareFacts a_x a_e1).bind fun r2 =>
 some (decide ((0 : Int) < r2))
theorem i_added_1_ok (a_x : Fact) (v0_1 : Sv) (kc1 : Nat) (a_e1 : Fact) (vc1_1 : Sv) (R : Bool) (hF : i_added_1 a_x a_e1 = some R) :
   Fw.Spec Tryz.prog 170 [(.agg [(.int .i64 a_x.Rel), v0_1.v].toArray), (.pointer (some ⟨kc1, 0, some 0⟩))] [crd (RdS 3 rdInt) v0_1.v a_x.Values, cboR kc1 80 (.agg [(.int .i64 a_e1.Rel), vc1_1.v].toArray), crd (RdS 3 rdInt) vc1_1.v a_e1.Values] (fun _ : Unit => (.bool R)) (fun _ => []) := by
 refine Spec_enter (n := 8) Tryz.func170 rfl rfl (rs := [.tmp 3]) rfl rfl rfl ?_
 intro H0 F0
 unfold i_added_1 at hF
 refine au ?_
 refine AbR (fun k1 => ?_)
 iterate 5 refine au ?_
 obtain ⟨r2, hx3, hF⟩ := bind_some hF
 refine Cx0 (i_CompareFacts_ok _ _ _ _ _ hx3) (fun _ => ?_)
 iterate 4 refine au ?_
 cases hF
 exact Er ()
def g_slices_IndexFunc_impl_Fact_impl_Fact_iadded1_L1 (a_e1 : Fact) : List Fact → Nat → Option (Int)
 | [], k4 => some (-1)
 | x6 :: rest5, k4 => (i_added_1 x6 a_e1).bind fun r16 =>
   if r16 then (
     some (k4 : Int))
   else (
     g_slices_IndexFunc_impl_Fact_impl_Fact_iadded1_L1 a_e1 rest5 (k4 + 1))
def g_slices_IndexFunc_impl_Fact_impl_Fact_iadded1 (a_s : List Fact) (a_e1 : Fact) : Option (Int) :=
 g_slices_IndexFunc_impl_Fact_impl_Fact_iadded1_L1 a_e1 a_s 0
theorem g_slices_IndexFunc_impl_Fact_impl_Fact_iadded1_ok (a_s : List Fact) (v0_0 : Sv) (kc1 : Nat) (a_e1 : Fact) (vc1_1 : Sv) (R : Int) (hF : g_slices_IndexFunc_impl_Fact_impl_Fact_iadded1 a_s a_e1 = some R) :
   Fw.Spec Tryz.prog 169 [v0_0.v, (.func (.func 170) [].toArray [(.pointer (some ⟨kc1, 0, some 0⟩))].toArray)] [crd (RdS 80 rd80) v0_0.v a_s, cboR kc1 80 (.agg [(.int .i64 a_e1.Rel), vc1_1.v].toArray), crd (RdS 3 rdInt) vc1_1.v a_e1.Values] (fun _ : Unit => (.int .i64 R)) (fun _ => []) := by
 refine Spec_enter (n := 19) Tryz.func169 rfl rfl (rs := [.tmp 4]) rfl rfl rfl ?_
 intro H0 F0
 unfold g_slices_IndexFunc_impl_Fact_impl_Fact_iadded1 at hF
 refine K_region (C_val (V_assign (v := (.int .i64 0)) (.int _ _)) ?_)
 refine C_nil (K_in (K_region (Cm v0_0.v rfl rfl ?_)))
 refine C_at .h (fun hp => V_lenR (l := a_s.length) sl40.h (.tmp rfl rfl) (crd_len hp)) ?_
 refine C_val (V_move (v := (.int .i64 0)) (.int _ _)) ?_
 refine C_nil (CW_block (CW_loop (m := a_s.length) (fun m2 f' cs' => ∃ (g : Fr) (k4 : Nat) (rest5 : List Fact), m2 = rest5.length ∧ f' = updL g [(0, v0_0.v), (1, (.func (.func 170) [].toArray [(.pointer (some ⟨kc1, 0, some 0⟩))].toArray)), (7, (.int .i64 (a_s.length : Int))), (8, (.int .i64 (k4 : Int)))] ∧ List.drop k4 a_s = rest5 ∧ Ent cs' [crd (RdS 80 rd80) v0_0.v a_s, cboR kc1 80 (.agg [(.int .i64 a_e1.Rel), vc1_1.v].toArray), crd (RdS 3 rdInt) vc1_1.v a_e1.Values] ∧ g_slices_IndexFunc_impl_Fact_impl_Fact_iadded1_L1 a_e1 rest5 k4 = some R) ⟨_, 0, _, rfl, (EqL.cons rfl (EqL.cons rfl (EqL.cons rfl (EqL.cons rfl (EqL.nil))))).eq, rfl, (.sel (.rd .h rfl (.rd (.t .h) rfl (.rd (.t (.t .h)) rfl .nil)))), hF⟩ ?_))
 clear hF
 rintro m2 _ _ ⟨g3, k4, rest5, rfl, rfl, hd7, hE, hF⟩
 refine K_ent hE ?_
 clear hE
 refine K_pure (c := crd (RdS 80 rd80) v0_0.v a_s) .h crd_bound (fun hbd12 => ?_)
 rcases rest5 with _ | ⟨x6, rest5⟩
 · have hk8 := List.drop_eq_nil_iff.1 hd7
   have hfe11 : (decide (((k4 : Int) : Int) < (a_s.length : Int))) = false := decide_eq_false (by omega)
   rw [g_slices_IndexFunc_impl_Fact_impl_Fact_iadded1_L1] at hF
   refine K_region (C_val (V_lss (i := (k4 : Int)) (j := (a_s.length : Int)) (.tmp rfl rfl) (.tmp rfl rfl)) ?_)
   refine C_nil (K_in (CW_cond (b := (decide (((k4 : Int) : Int) < (a_s.length : Int)))) (.tmp rfl rfl) (fun hb => absurd (hfe11.symm.trans hb) (by decide)) (fun _ => ?_)))
   refine CW_exit ?_
   iterate 2 refine CThen_exit ?_
   refine CIn_self (K_region (C_val (V_assign (v := (.int .i64 (-1))) (.int _ _)) ?_))
   refine C_nil (CW_ret ?_)
   obtain rfl := Option.some.inj hF
   exact End_ret () (.tmp rfl rfl .nil) rfl (.sel .nil)
 obtain ⟨hk8, hx9, hd10⟩ := drop_cons hd7
 have hfe11 : (decide (((k4 : Int) : Int) < (a_s.length : Int))) = true := decide_eq_true (by omega)
 rw [g_slices_IndexFunc_impl_Fact_impl_Fact_iadded1_L1] at hF
 refine K_region (C_val (V_lss (i := (k4 : Int)) (j := (a_s.length : Int)) (.tmp rfl rfl) (.tmp rfl rfl)) ?_)
 refine C_nil (K_in (CW_cond (b := (decide (((k4 : Int) : Int) < (a_s.length : Int)))) (.tmp rfl rfl) (fun _ => ?_) (fun hb => absurd (hfe11.symm.trans hb) (by decide))))
 refine CW_skip (K_block (K_region (Cm (.int .i64 (k4 : Int)) rfl rfl ?_)))
 refine Ca (.int .i64 (k4 : Int)) rfl rfl ?_
 refine C_nil (K_region (Cm (.func (.func 170) [].toArray [(.pointer (some ⟨kc1, 0, some 0⟩))].toArray) rfl rfl ?_))
 refine Cm v0_0.v rfl rfl ?_
 refine Cm (.int .i64 (k4 : Int)) rfl rfl ?_
 refine C_idx (a := x6) sl40.h ty80.h.sz (.tmp rfl rfl) (.tmp rfl rfl) .h (Int.natCast_nonneg k4) hx9 (fun k13 j14 => ?_)
 refine C_ldA1 (ul80_0_80 x6) ag80.h ty80.h.sz rfl (.tmp rfl rfl) .h la80_0_80 (fun p15 => ?_)
 obtain ⟨r16, hx17, hF⟩ := bind_some hF
 refine C_x0 (.rd .h rfl (.rd (.t (.t (.t .h))) rfl (.rd (.t (.t (.t (.t .h)))) rfl .nil))) (X_callCS cf170.h (.tmp rfl rfl) (.cons (.tmp rfl rfl) .nil) (i_added_1_ok x6 p15 kc1 a_e1 vc1_1 _ hx17)) (fun _ => ?_)
 refine C_nil (CW_cond (b := r16) (.tmp rfl rfl) (fun hb20 => ?_) (fun hb20 => ?_))
 · rw [if_pos hb20] at hF
   refine K_region (Cm (.int .i64 (k4 : Int)) rfl rfl ?_)
   refine Ca (.int .i64 (k4 : Int)) rfl rfl ?_
   refine C_nil (CW_ret ?_)
   obtain rfl := Option.some.inj hF
   exact End_ret () (.tmp rfl rfl .nil) rfl (.sel .nil)
 rw [if_neg (by rw [hb20]; exact Bool.false_ne_true)] at hF
 refine CW_skip (CW_region (C_val (V_add (i := (k4 : Int)) (j := 1) (.tmp rfl rfl) (.int _ _)) ?_))
 refine Cm (.int .i64 (IntKind.i64.wrap ((k4 : Int) + 1))) rfl rfl ?_
 refine C_nil ?_
 have hw19 : IntKind.i64.wrap ((k4 : Int) + 1) = ((k4 + 1 : Nat) : Int) := by rw [wrap_in (by omega) (by omega)]; rfl
 rw [hw19]
 exact ⟨_, Nat.lt_succ_self _, _, k4 + 1, rest5, rfl, (EqL.cons rfl (EqL.cons rfl (EqL.cons rfl (EqL.cons rfl (EqL.nil))))).eq, hd10, (.sel (.rd (.t (.t .h)) rfl (.rd (.t (.t (.t .h))) rfl (.rd (.t (.t (.t (.t .h)))) rfl .nil)))), hF⟩
def g_slices_Insert_impl_Fact_impl_Fact (a_s : List Fact) (a_i : Int) (a_v : List Fact) : Option (List Fact) :=
 match a_v with
 | [a] => if 0 ≤ a_i ∧ a_i.toNat ≤ a_s.length ∧ a_s.length + 1 < 4294967296 then some (a_s.take a_i.toNat ++ a :: a_s.drop a_i.toNat) else none
 | _ => none
set_option maxHeartbeats 4000000 in
theorem g_slices_Insert_impl_Fact_impl_Fact_raw (es : List Value) (e : Value) (v u : Sv) (F F2 : List Nat) (i : Nat) (hi : i ≤ es.length) (hb : es.length + 1 < 4294967296) : Fw.Spec Tryz.prog 171 [v.v, .int .i64 (i : Int), u.v] [cown (OwnS 80 (roE (rvs 2))) F v.v es, cown (OwnS 80 (roE (rvs 2))) F2 u.v [e]] (fun q : Sv × List Nat => q.1.v) (fun q => [cown (OwnS 80 (roE (rvs 2))) q.2 q.1.v (es.take i ++ e :: es.drop i)]) := by
 refine Spec_enter (n := 95) Tryz.func171 rfl rfl (rs := [.tmp 6]) rfl rfl rfl ?_
 intro H0 F0
 refine K_region ?_
 refine C_val (V_assign (v := (.slice none 0 0)) EV.nilSlice) ?_
 refine C_nil ?_
 refine K_region ?_
 refine C_val (V_move (v := v.v) (.tmp rfl rfl)) ?_
 refine C_val (V_move (v := (.int .i64 (i : Int))) (.tmp rfl rfl)) ?_
 refine C_x1 (.cons .h .nil) (X_sliceLoE sl40.h ty80.h.sz (.tmp rfl rfl) (.tmp rfl rfl) hi) (fun w0 => ?_)
 refine C_nil ?_
 refine K_region ?_
 refine C_val (V_move (v := u.v) (.tmp rfl rfl)) ?_
 refine C_at (.t .h) (fun hp => V_lenR (l := 1) sl40.h (.tmp rfl rfl) (cown_len hp)) ?_
 refine C_val (V_assign (v := (.int .i64 ((1 : Nat) : Int))) (.tmp rfl rfl)) ?_
 refine C_nil ?_
 refine K_in ?_
 refine K_region ?_
 refine C_val (V_move (v := (.int .i64 ((1 : Nat) : Int))) (.tmp rfl rfl)) ?_
 refine C_val (V_eql (i := ((1 : Nat) : Int)) (j := 0) (.tmp rfl rfl) (.int _ _)) ?_
 refine C_nil ?_
 refine CW_cond (b := (((1 : Nat) : Int) == 0)) (.tmp rfl rfl) (fun hb0 => absurd hb0 (by decide)) (fun _ => ?_)
 refine CW_skip ?_
 refine K_region ?_
 refine C_val (V_move (v := v.v) (.tmp rfl rfl)) ?_
 refine C_at .h (fun hp => V_lenR (l := es.length) sl40.h (.tmp rfl rfl) (cown_len hp)) ?_
 refine C_val (V_assign (v := (.int .i64 (es.length : Int))) (.tmp rfl rfl)) ?_
 refine C_nil ?_
 refine K_in ?_
 refine K_region ?_
 refine C_val (V_move (v := (.int .i64 (i : Int))) (.tmp rfl rfl)) ?_
 refine C_val (V_move (v := (.int .i64 (es.length : Int))) (.tmp rfl rfl)) ?_
 refine C_val (V_eql (i := (i : Int)) (j := (es.length : Int)) (.tmp rfl rfl) (.tmp rfl rfl)) ?_
 refine C_nil ?_
 refine CW_cond (b := ((i : Int) == (es.length : Int))) (.tmp rfl rfl) (fun hb1 => ?_) (fun hb1 => ?_)
 · have hie : i = es.length := by simp only [beq_iff_eq] at hb1; omega
   refine K_region ?_
   refine C_val (V_move (v := v.v) (.tmp rfl rfl)) ?_
   refine C_val (V_move (v := u.v) (.tmp rfl rfl)) ?_
   refine C_x1 (.cons .h (.cons .h .nil)) (X_appendO (Ro := (roE (rvs 2))) sl40.h ni40 ty80.h rfl rfl rfl (.tmp rfl rfl) (.tmp rfl rfl) (app_ok (xs := es) (ys := [e]) (by simpa using hb)) src_own) (fun p => ?_)
   refine C_val (V_assign (v := p.1.v) (.tmp rfl rfl)) ?_
   refine C_nil ?_
   refine CW_ret ?_
   rw [hie, List.take_length, List.drop_length]
   exact End_ret p (.tmp rfl rfl .nil) rfl (.sel (.cons .h .nil))
 refine CW_skip ?_
 have hlt : i < es.length := by simp at hb1; omega
 refine K_pure .h (own_form (by intro h; rw [h] at hlt; simp at hlt)) (fun hv => ?_)
 obtain ⟨k0, m0, rfl, hm0⟩ := hv
 refine K_pure (.t .h) (own_form (by simp)) (fun hu => ?_)
 obtain ⟨k1, m1, rfl, hm1⟩ := hu
 refine K_cap (t := 0) (k := k0) (l := es.length) (m := m0) rfl rfl hm0 (by omega) .h rfl (fun c hc => ?_)
 have w1 : IntKind.i64.wrap ((es.length : Int) + ((1 : Nat) : Int)) = ((es.length + 1 : Nat) : Int) := by rw [wrap_in (by omega) (by omega)]; rfl
 have w2 : IntKind.i64.wrap ((i : Int) + ((1 : Nat) : Int)) = ((i + 1 : Nat) : Int) := by rw [wrap_in (by omega) (by omega)]; rfl
 have w3 : IntKind.i64.wrap (((es.length + 1 : Nat) : Int) - (i : Int)) = ((es.length + 1 - i : Nat) : Int) := by rw [wrap_in (by omega) (by omega)]; omega
 have hel : (es.take i ++ e :: es.drop i).length = es.length + 1 := ins_len hi
 refine K_in ?_
 refine K_region ?_
 refine C_val (V_move (v := (.int .i64 (es.length : Int))) (.tmp rfl rfl)) ?_
 refine C_val (V_move (v := (.int .i64 ((1 : Nat) : Int))) (.tmp rfl rfl)) ?_
 refine C_val (V_add (i := (es.length : Int)) (j := ((1 : Nat) : Int)) (.tmp rfl rfl) (.tmp rfl rfl)) ?_
 rw [w1]
 refine C_val (V_move (v := (.slice (some ⟨k0, 0, none⟩) es.length (c + 3))) (.tmp rfl rfl)) ?_
 refine C_at .h (fun hp => V_capO sl40.h hp rfl (.tmp rfl rfl)) ?_
 refine C_val (V_gtr (i := ((es.length + 1 : Nat) : Int)) (j := (c : Int)) (.tmp rfl rfl) (.tmp rfl rfl)) ?_
 refine C_nil ?_
 refine CW_cond (b := (decide ((c : Int) < ((es.length + 1 : Nat) : Int)))) (.tmp rfl rfl) (fun hb2 => ?_) (fun hb2 => ?_)
 · have hcl : c < es.length + 1 := by simp only [decide_eq_true_eq] at hb2; omega
   refine K_region ?_
   refine C_val (V_move (v := (.slice (some ⟨k0, 0, none⟩) es.length (c + 3))) (.tmp rfl rfl)) ?_
   refine C_val (V_move (v := (.int .i64 (i : Int))) (.tmp rfl rfl)) ?_
   refine C_at .h (fun hp => V_sliceCapO (j := i) sl40.h ty80.h.sz hp rfl (.tmp rfl rfl) (.tmp rfl rfl) (by omega)) ?_
   refine C_val (V_move (v := (.int .i64 (es.length : Int))) (.tmp rfl rfl)) ?_
   refine C_val (V_move (v := (.int .i64 ((1 : Nat) : Int))) (.tmp rfl rfl)) ?_
   refine C_val (V_add (i := (es.length : Int)) (j := ((1 : Nat) : Int)) (.tmp rfl rfl) (.tmp rfl rfl)) ?_
   rw [w1]
   refine C_val (V_move (v := (.int .i64 (i : Int))) (.tmp rfl rfl)) ?_
   refine C_val (V_sub (i := ((es.length + 1 : Nat) : Int)) (j := (i : Int)) (.tmp rfl rfl) (.tmp rfl rfl)) ?_
   rw [w3]
   refine C_x2 (.cons .h .nil) (X_appendMake (c := c) (q := es.length + 1 - i) sl40.h ik3 ty80.h rfl rfl rfl rfl rfl rfl (.tmp rfl rfl) (.tmp rfl rfl) (by omega) (by omega) (by omega) (by omega)) (fun k2 => ?_)
   rw [show i + (es.length + 1 - i) = es.length + 1 from by omega]
   refine C_val (V_assign (v := (.slice (some ⟨k2, 0, none⟩) (es.length + 1) 2)) (.tmp rfl rfl)) ?_
   refine C_nil ?_
   refine K_region ?_
   refine C_val (V_move (v := (.slice (some ⟨k2, 0, none⟩) (es.length + 1) 2)) (.tmp rfl rfl)) ?_
   refine C_val (V_move (v := (.int .i64 (i : Int))) (.tmp rfl rfl)) ?_
   refine C_at .h (fun hp => V_sliceLoO (j := i) sl40.h ty80.h.sz hp rfl (.tmp rfl rfl) (.tmp rfl rfl) (by omega)) ?_
   refine C_val (V_move (v := (.slice (some ⟨k1, 0, none⟩) 1 m1)) (.tmp rfl rfl)) ?_
   refine C_x2 (.cons .h (.cons (.t .h) .nil)) (X_copy2 (m1 := 0) (m2 := m1) (ia := i) (ja := 0) (ld := es.length + 1 - i) (ls := 1) (es2 := [e]) (es' := es.take i ++ e :: List.replicate (es.length - i) (.agg [(.int .i64 0), (.slice none 0 0)].toArray)) sl40.h ty80.h.sz rfl rfl rfl (by exact .tmp rfl rfl) (by exact .tmp rfl rfl) (by omega) (by omega) (by rw [List.length_singleton]; omega) (by simp; omega) (ins_l1 (e := e) (z := (.agg [(.int .i64 0), (.slice none 0 0)].toArray)) hlt) (by simp; omega)) (fun _ => ?_)
   refine C_nil ?_
   refine K_draw [0, 1, 2, 3, 4, 5, 6, 7, 8] [0, 0, 0, 6, 15, 0, 0, 96, 255] [8] mixed (by decide +kernel) ?_
   refine D_val rfl .no (fun ha => V_move (v := (.slice (some ⟨k2, 0, none⟩) (es.length + 1) 2)) (EN ha (.tmp rfl rfl) rfl)) ?_
   refine D_val rfl .no (fun ha => V_move (v := (.int .i64 (i : Int))) (EN ha (.tmp rfl rfl) rfl)) ?_
   refine D_val rfl .no (fun ha => V_move (v := (.int .i64 ((1 : Nat) : Int))) (EN ha (.tmp rfl rfl) rfl)) ?_
   refine D_val rfl .no (fun ha => V_add (i := (i : Int)) (j := ((1 : Nat) : Int)) (EN ha (.tmp rfl rfl) rfl) (EN ha (.tmp rfl rfl) rfl)) ?_
   rw [w2]
   refine D_atO rfl .no .h (fun ha hp => V_sliceLoO (j := i + 1) sl40.h ty80.h.sz hp rfl (EN ha (.tmp rfl rfl) rfl) (EN ha (.tmp rfl rfl) rfl) (by omega)) ?_
   refine D_val rfl .no (fun ha => V_move (v := (.slice (some ⟨k0, 0, none⟩) es.length (c + 3))) (EN ha (.tmp rfl rfl) rfl)) ?_
   refine D_val rfl .no (fun ha => V_move (v := (.int .i64 (i : Int))) (EN ha (.tmp rfl rfl) rfl)) ?_
   refine D_atO rfl .no (.t (.t .h)) (fun ha hp => V_sliceLoO (j := i) sl40.h ty80.h.sz hp rfl (EN ha (.tmp rfl rfl) rfl) (EN ha (.tmp rfl rfl) rfl) (by omega)) ?_
   refine D_act2 rfl rfl .no (.cons .h (.cons (.t .h) .nil)) (.dep rfl (.dep rfl .nil)) (fun ha => X_copy2 sl40.h ty80.h.sz rfl rfl rfl (EN ha (.tmp rfl rfl) rfl) (EN ha (.tmp rfl rfl) rfl) (by omega) (by omega) (by omega) (by simp; omega) (ins_l2 (e := e) (z := (.agg [(.int .i64 0), (.slice none 0 0)].toArray)) hlt) (by omega)) (fun _ => ?_)
   refine D_nil ?_
   refine K_region ?_
   refine C_val (V_move (v := (.slice (some ⟨k2, 0, none⟩) (es.length + 1) 2)) (.tmp rfl rfl)) ?_
   refine C_val (V_assign (v := (.slice (some ⟨k2, 0, none⟩) (es.length + 1) 2)) (.tmp rfl rfl)) ?_
   refine C_nil ?_
   refine CW_ret ?_
   rw [hel]
   exact End_ret (⟨some ⟨k2, 0, none⟩, es.length + 1, 2⟩, [k2]) (.tmp rfl rfl .nil) rfl (.sel (.cons .h .nil))
 refine CW_skip ?_
 have hcl : es.length + 1 ≤ c := by simp only [decide_eq_false_iff_not] at hb2; omega
 refine K_region ?_
 refine C_val (V_move (v := (.slice (some ⟨k0, 0, none⟩) es.length (c + 3))) (.tmp rfl rfl)) ?_
 refine C_val (V_move (v := (.int .i64 (es.length : Int))) (.tmp rfl rfl)) ?_
 refine C_val (V_move (v := (.int .i64 ((1 : Nat) : Int))) (.tmp rfl rfl)) ?_
 refine C_val (V_add (i := (es.length : Int)) (j := ((1 : Nat) : Int)) (.tmp rfl rfl) (.tmp rfl rfl)) ?_
 rw [w1]
 refine C_at .h (fun hp => V_sliceCapO (j := es.length + 1) sl40.h ty80.h.sz hp rfl (.tmp rfl rfl) (.tmp rfl rfl) hcl) ?_
 refine C_val (V_assign (v := (.slice (some ⟨k0, 0, none⟩) (es.length + 1) (c + 3))) (.tmp rfl rfl)) ?_
 refine C_nil ?_
 refine K_in ?_
 refine K_region ?_
 refine C_val (V_move (v := (.slice (some ⟨k1, 0, none⟩) 1 m1)) (.tmp rfl rfl)) ?_
 refine C_val (V_move (v := (.slice (some ⟨k0, 0, none⟩) (es.length + 1) (c + 3))) (.tmp rfl rfl)) ?_
 refine C_val (V_move (v := (.int .i64 (i : Int))) (.tmp rfl rfl)) ?_
 refine C_val (V_move (v := (.int .i64 ((1 : Nat) : Int))) (.tmp rfl rfl)) ?_
 refine C_val (V_add (i := (i : Int)) (j := ((1 : Nat) : Int)) (.tmp rfl rfl) (.tmp rfl rfl)) ?_
 rw [w2]
 refine C_at .h (fun hp => V_sliceLoO (j := i + 1) sl40.h ty80.h.sz hp rfl (.tmp rfl rfl) (.tmp rfl rfl) (by omega)) ?_
 refine C_x2 (.cons (.t .h) (.cons .h .nil)) (X_overlaps sl40.h ty80.h.sz rfl hov200 rfl rfl (.tmp rfl rfl) (.tmp rfl rfl) (by omega) (by omega)) (fun _ => ?_)
 refine C_val (V_not (b := false) (.tmp rfl rfl)) ?_
 refine C_nil ?_
 refine CW_cond (b := (!false)) (.tmp rfl rfl) (fun _ => ?_) (fun h => absurd h (by decide))
 refine K_draw [0, 1, 2, 3, 4, 5, 6, 7, 8] [0, 0, 0, 6, 15, 0, 0, 96, 255] [8] mixed (by decide +kernel) ?_
 refine D_val rfl .no (fun ha => V_move (v := (.slice (some ⟨k0, 0, none⟩) (es.length + 1) (c + 3))) (EN ha (.tmp rfl rfl) rfl)) ?_
 refine D_val rfl .no (fun ha => V_move (v := (.int .i64 (i : Int))) (EN ha (.tmp rfl rfl) rfl)) ?_
 refine D_val rfl .no (fun ha => V_move (v := (.int .i64 ((1 : Nat) : Int))) (EN ha (.tmp rfl rfl) rfl)) ?_
 refine D_val rfl .no (fun ha => V_add (i := (i : Int)) (j := ((1 : Nat) : Int)) (EN ha (.tmp rfl rfl) rfl) (EN ha (.tmp rfl rfl) rfl)) ?_
 rw [w2]
 refine D_atO rfl .no (.t .h) (fun ha hp => V_sliceLoO (j := i + 1) sl40.h ty80.h.sz hp rfl (EN ha (.tmp rfl rfl) rfl) (EN ha (.tmp rfl rfl) rfl) (by omega)) ?_
 refine D_val rfl .no (fun ha => V_move (v := (.slice (some ⟨k0, 0, none⟩) (es.length + 1) (c + 3))) (EN ha (.tmp rfl rfl) rfl)) ?_
 refine D_val rfl .no (fun ha => V_move (v := (.int .i64 (i : Int))) (EN ha (.tmp rfl rfl) rfl)) ?_
 refine D_atO rfl .no (.t .h) (fun ha hp => V_sliceLoO (j := i) sl40.h ty80.h.sz hp rfl (EN ha (.tmp rfl rfl) rfl) (EN ha (.tmp rfl rfl) rfl) (by omega)) ?_
 refine D_act1 rfl rfl .no (.cons (.t .h) .nil) (.dep rfl (.dep rfl .nil)) (fun ha => X_copyS sl40.h ty80.h.sz rfl rfl (EN ha (.tmp rfl rfl) rfl) (EN ha (.tmp rfl rfl) rfl) (by omega) (by omega) (by omega) (by omega) (ins_l3 hlt) (by simp; omega)) (fun _ => ?_)
 refine D_nil ?_
 refine K_region ?_
 refine C_val (V_move (v := (.slice (some ⟨k0, 0, none⟩) (es.length + 1) (c + 3))) (.tmp rfl rfl)) ?_
 refine C_val (V_move (v := (.int .i64 (i : Int))) (.tmp rfl rfl)) ?_
 refine C_at .h (fun hp => V_sliceLoO (j := i) sl40.h ty80.h.sz hp rfl (.tmp rfl rfl) (.tmp rfl rfl) (by omega)) ?_
 refine C_val (V_move (v := (.slice (some ⟨k1, 0, none⟩) 1 m1)) (.tmp rfl rfl)) ?_
 refine C_x2 (.cons .h (.cons .h .nil)) (X_copy2 (m1 := 0) (m2 := m1) (ia := i) (ja := 0) (ld := es.length + 1 - i) (ls := 1) (es2 := [e]) (es' := es.take i ++ e :: es.drop i) sl40.h ty80.h.sz rfl rfl rfl (by exact .tmp rfl rfl) (by exact .tmp rfl rfl) (by omega) (by omega) (by rw [List.length_singleton]; omega) (by simp; omega) (ins_l4 (e := e) hlt) (by omega)) (fun _ => ?_)
 refine C_nil ?_
 refine K_region ?_
 refine C_val (V_move (v := (.slice (some ⟨k0, 0, none⟩) (es.length + 1) (c + 3))) (.tmp rfl rfl)) ?_
 refine C_val (V_assign (v := (.slice (some ⟨k0, 0, none⟩) (es.length + 1) (c + 3))) (.tmp rfl rfl)) ?_
 refine C_nil ?_
 refine K_uncap (t := 6) (k := k0) (l := es.length + 1) (c := c) rfl rfl ?_
 refine CW_ret ?_
 rw [hel]
 exact End_ret (⟨some ⟨k0, 0, none⟩, es.length + 1, 2⟩, F) (.tmp rfl rfl .nil) rfl (.sel (.cons .h .nil))
theorem g_slices_Insert_impl_Fact_impl_Fact_ok (a_s : List Fact) (v0_0 : Sv) (F0_0 : List Nat) (a_i : Int) (a_v : List Fact) (v2_0 : Sv) (F2_0 : List Nat) (R : List Fact) (hF : g_slices_Insert_impl_Fact_impl_Fact a_s a_i a_v = some R) :
   Fw.Spec Tryz.prog 171 [v0_0.v, .int .i64 a_i, v2_0.v] [cown (OwnS 80 ow80) F0_0 v0_0.v a_s, cown (OwnS 80 ow80) F2_0 v2_0.v a_v] (fun p : Sv × List Nat => p.1.v) (fun p => [cown (OwnS 80 ow80) p.2 p.1.v R]) := by
 unfold g_slices_Insert_impl_Fact_impl_Fact at hF
 rcases a_v with _ | ⟨a, _ | ⟨_, _⟩⟩
 · simp at hF
 · dsimp only at hF
   split at hF
   · rename_i h
     obtain ⟨h0, h1, h2⟩ := h
     obtain ⟨i, rfl⟩ : ∃ i : Nat, a_i = (i : Int) := ⟨a_i.toNat, by omega⟩
     cases hF
     rw [Int.toNat_natCast] at h1 ⊢
     exact Spec_insD (s := 2) fun es e Fa Fb hl => g_slices_Insert_impl_Fact_impl_Fact_raw es e v0_0 v2_0 Fa Fb i (by omega) (by omega)
   · simp at hF
 · simp at hF
def i_added (a_l : List Fact) (a_f : Fact) : Option ((List Fact)) :=
 (i_HasFact a_l a_f).bind fun r2 =>
 if r2 then (
   some a_l)
 else (
   (g_slices_IndexFunc_impl_Fact_impl_Fact_iadded1 a_l a_f).bind fun r5 =>
   if (decide ((r5 : Int) < 0)) then (
     (i_copyFact a_f).bind fun r8 =>
     (g_slices_Insert_impl_Fact_impl_Fact a_l (a_l.length : Int) ([r8] : List Fact)).bind fun r12 =>
     some r12)
   else (
     (i_copyFact a_f).bind fun r15 =>
     (g_slices_Insert_impl_Fact_impl_Fact a_l r5 ([r15] : List Fact)).bind fun r19 =>
     some r19))
theorem i_added_ok (a_l : List Fact) (v0_0 : Sv) (F0_0 : List Nat) (a_f : Fact) (v1_1 : Sv) (R : (List Fact)) (hF : i_added a_l a_f = some R) :
   Fw.Spec Tryz.prog 128 [v0_0.v, (.agg [(.int .i64 a_f.Rel), v1_1.v].toArray)] [cown (OwnS 80 ow80) F0_0 v0_0.v a_l, crd (RdS 3 rdInt) v1_1.v a_f.Values] (fun p : Sv × List Nat => p.1.v) (fun p => [cown (OwnS 80 ow80) p.2 p.1.v R]) := by
 refine Spec_enter (n := 23) Tryz.func128 rfl rfl (rs := [.tmp 4]) rfl rfl rfl ?_
 intro H0 F0
 unfold i_added at hF
 refine au ?_
 refine C_newR rfl (N_box (g := false) (v := (.agg [(.int .i64 a_f.Rel), v1_1.v].toArray)) ty80.h.sz (.tmp rfl rfl) rfl) (fun k1 => ?_)
 iterate 6 refine au ?_
 obtain ⟨r2, hx3, hF⟩ := bind_some hF
 refine C_x1 (.cons (.t .h) (.rd (.t .h) rfl .nil)) (XC_bor frz_own (fun _ => .nil) (X_callS cf168.h (.cons (.tmp rfl rfl) (.cons (.tmp rfl rfl) .nil)) (i_HasFact_ok a_l v0_0 a_f v1_1 _ hx3))) (fun _ => ?_)
 refine au ?_
 refine CW_cond (b := r2) (.tmp rfl rfl) (fun hb23 => ?_) (fun hb23 => ?_)
 · rw [if_pos hb23] at hF
   iterate 5 refine au ?_
   obtain rfl := Option.some.inj hF
   exact End_ret (v0_0, F0_0) (.tmp rfl rfl .nil) rfl (.sel (.cons .h .nil))
 rw [if_neg (by rw [hb23]; exact Bool.false_ne_true)] at hF
 iterate 3 refine au ?_
 refine C_val (V_makeFunc (fn := .func 170) (vs := []) (us := [(.pointer (some ⟨k1, 0, some 0⟩))]) .nil (.cons (.tmp rfl rfl) .nil)) ?_
 obtain ⟨r5, hx6, hF⟩ := bind_some hF
 refine C_x1 (.cons .h (.rd .h rfl (.rd (.t .h) rfl .nil))) (XC_bor frz_own (fun _ => .nil) (X_callS cf169.h (.cons (.tmp rfl rfl) (.cons (.tmp rfl rfl) .nil)) (g_slices_IndexFunc_impl_Fact_impl_Fact_iadded1_ok a_l v0_0 k1 a_f v1_1 _ hx6))) (fun _ => ?_)
 iterate 7 refine au ?_
 refine CW_cond (b := (decide ((r5 : Int) < 0))) (.tmp rfl rfl) (fun hb22 => ?_) (fun hb22 => ?_)
 · rw [if_pos hb22] at hF
   iterate 9 refine au ?_
   obtain ⟨r8, hx9, hF⟩ := bind_some hF
   refine C_x1 (.rd (.t (.t .h)) rfl .nil) (X_callS cf172.h (.cons (.tmp rfl rfl) .nil) (i_copyFact_ok a_f v1_1 _ hx9)) (fun p10 => ?_)
   refine C_new rfl (N_buildSliceT (g := true) sl40.h ty80.h (.cons (.tmp rfl rfl) .nil) (vs := [(.agg [(.int .i64 r8.Rel), p10.1.v].toArray)]) rfl rfl rfl (by intro v hv; simp at hv; rcases hv with rfl <;> rfl)) (fun k11 => ?_)
   refine C_conv (.cons .h (.cons .h .nil)) (own_lit (Ro := ow80) (E := 80) (F := (p10.2 ++ [])) (xs := ([r8] : List Fact)) (MkL_cons mk80 MkL_nil apps) rfl rfl) apps ?_
   obtain ⟨r12, hx13, hF⟩ := bind_some hF
   refine C_x1 (.cons (.t .h) (.cons .h .nil)) (X_callS cf171.h (.cons (.tmp rfl rfl) (.cons (.tmp rfl rfl) (.cons (.tmp rfl rfl) .nil))) (g_slices_Insert_impl_Fact_impl_Fact_ok a_l v0_0 F0_0 (a_l.length : Int) ([r8] : List Fact) (⟨(some ⟨k11, 0, none⟩), 1, 1⟩) (k11 :: (p10.2 ++ [])) _ hx13)) (fun p14 => ?_)
   iterate 3 refine au ?_
   obtain rfl := Option.some.inj hF
   exact End_ret (p14.1, p14.2) (.tmp rfl rfl .nil) rfl (.sel (.cons .h .nil))
 rw [if_neg (by rw [hb22]; exact Bool.false_ne_true)] at hF
 iterate 5 refine au ?_
 obtain ⟨r15, hx16, hF⟩ := bind_some hF
 refine C_x1 (.rd (.t (.t .h)) rfl .nil) (X_callS cf172.h (.cons (.tmp rfl rfl) .nil) (i_copyFact_ok a_f v1_1 _ hx16)) (fun p17 => ?_)
 refine C_new rfl (N_buildSliceT (g := true) sl40.h ty80.h (.cons (.tmp rfl rfl) .nil) (vs := [(.agg [(.int .i64 r15.Rel), p17.1.v].toArray)]) rfl rfl rfl (by intro v hv; simp at hv; rcases hv with rfl <;> rfl)) (fun k18 => ?_)
 refine C_conv (.cons .h (.cons .h .nil)) (own_lit (Ro := ow80) (E := 80) (F := (p17.2 ++ [])) (xs := ([r15] : List Fact)) (MkL_cons mk80 MkL_nil apps) rfl rfl) apps ?_
 obtain ⟨r19, hx20, hF⟩ := bind_some hF
 refine C_x1 (.cons (.t .h) (.cons .h .nil)) (X_callS cf171.h (.cons (.tmp rfl rfl) (.cons (.tmp rfl rfl) (.cons (.tmp rfl rfl) .nil))) (g_slices_Insert_impl_Fact_impl_Fact_ok a_l v0_0 F0_0 r5 ([r15] : List Fact) (⟨(some ⟨k18, 0, none⟩), 1, 1⟩) (k18 :: (p17.2 ++ [])) _ hx20)) (fun p21 => ?_)
 iterate 3 refine au ?_
 obtain rfl := Option.some.inj hF
 exact End_ret (p21.1, p21.2) (.tmp rfl rfl .nil) rfl (.sel (.cons .h .nil))
def i_bit (a_is : Bool) : Option (Int) :=
 if a_is then (
   some 1)
 else (
   some 0)
theorem i_bit_ok (a_is : Bool) (R : Int) (hF : i_bit a_is = some R) :
   Fw.Spec Tryz.prog 129 [(.bool a_is)] [] (fun _ : Unit => (.int .i64 R)) (fun _ => []) := by
 refine Spec_enter (n := 4) Tryz.func129 rfl rfl (rs := [.tmp 2]) rfl rfl rfl ?_
 intro H0 F0
 unfold i_bit at hF
 iterate 7 refine au ?_
 refine Cc (fun hb1 => ?_) (fun hb1 => ?_)
 · rw [if_pos hb1] at hF
   iterate 4 refine au ?_
   cases hF
   exact Er ()
 rw [if_neg (nt hb1)] at hF
 iterate 5 refine au ?_
 cases hF
 exact Er ()
def i_Reached_told_L4 (z255 : List Access) : List Fact → Nat → (List Fact) → (List Int) → Option ((List Fact) × (List Int) × (List Access))
 | [], k315, c306, c309 => some (c306, c309, z255)
 | x317 :: rest316, k315, c306, c309 => (i_added c306 x317).bind fun r328 =>
   (i_withValues c309 x317.Values).bind fun r331 =>
   i_Reached_told_L4 z255 rest316 (k315 + 1) r328 r331
def i_Reached_told_L1 (a_r : Reached) (a_l : List Method) (a_facts : List Fact) (r1 : (List Access) × Reached) : List Access → Nat → (List Fact) → (List Int) → (List Access) → Option (Bool × Reached)
 | [], k236, c224, c227, c230 => (i_bit (decide ((0 : Int) < (r1.1.length : Int)))).bind fun r245 =>
   some ((decide ((0 : Int) < (r1.1.length : Int))), ({ Facts := c224, Values := c227, Log := c230, Rounds := (IntKind.i64.wrap (a_r.Rounds + r245)) } : Reached))
 | x238 :: rest237, k236, c224, c227, c230 => ((app c230 ([x238] : List Access)).bind fun z255 =>
     (i_matches a_l a_facts x238).bind fun r258 =>
     i_Reached_told_L4 z255 r258 0 c224 c227).bind fun o248 =>
   match o248 with
   | (c335, c338, c341) => i_Reached_told_L1 a_r a_l a_facts r1 rest237 (k236 + 1) c335 c338 c341
def i_Reached_told (a_r : Reached) (a_l : List Method) (a_facts : List Fact) : Option (Bool × Reached) :=
 (i_Reached_open a_r a_l).bind fun r1 =>
 i_Reached_told_L1 a_r a_l a_facts r1 r1.1 0 r1.2.Facts r1.2.Values r1.2.Log
theorem i_Reached_told_ok (kq0 : Nat) (a_r : Reached) (v0_0 : Sv) (F0_0 : List Nat) (v0_1 : Sv) (F0_1 : List Nat) (v0_2 : Sv) (F0_2 : List Nat) (a_l : List Method) (v1_0 : Sv) (a_facts : List Fact) (v2_0 : Sv) (R : Bool × Reached) (hF : i_Reached_told a_r a_l a_facts = some R) :
   Fw.Spec Tryz.prog 83 [(.pointer (some ⟨kq0, 0, some 0⟩)), v1_0.v, v2_0.v] [cbox kq0 73 (.agg [v0_0.v, v0_1.v, v0_2.v, (.int .i64 a_r.Rounds)].toArray), cown (OwnS 80 ow80) F0_0 v0_0.v a_r.Facts, cown (OwnS 3 (roE rdInt)) F0_1 v0_1.v a_r.Values, cown (OwnS 141 (roE rd141)) F0_2 v0_2.v a_r.Log, crd (RdS 77 rd77) v1_0.v a_l, crd (RdS 80 rd80) v2_0.v a_facts] (fun _ : Sv × List Nat × Sv × List Nat × Sv × List Nat => (.bool R.1)) (fun p => [cbox kq0 73 (.agg [p.1.v, p.2.2.1.v, p.2.2.2.2.1.v, (.int .i64 R.2.Rounds)].toArray), cown (OwnS 80 ow80) p.2.1 p.1.v R.2.Facts, cown (OwnS 3 (roE rdInt)) p.2.2.2.1 p.2.2.1.v R.2.Values, cown (OwnS 141 (roE rd141)) p.2.2.2.2.2 p.2.2.2.2.1.v R.2.Log]) := by
 refine Spec_enter (n := 77) Tryz.func83 rfl rfl (rs := [.tmp 6]) rfl rfl rfl ?_
 intro H0 F0
 unfold i_Reached_told at hF
 refine K_region (C_val (V_assign (v := (.bool false)) (.bool _)) ?_)
 refine C_nil (K_region (Cm (.pointer (some ⟨kq0, 0, some 0⟩)) rfl rfl ?_))
 refine C_val (V_nilCheck (v := (.pointer (some ⟨kq0, 0, some 0⟩))) rfl (.tmp rfl rfl)) ?_
 refine C_at .h (fun hp => V_loadBox ag73.h ty73.h.sz rfl (.tmp rfl rfl) hp.2 rfl) ?_
 refine Cm v1_0.v rfl rfl ?_
 obtain ⟨r1, hx2, hF⟩ := bind_some hF
 refine C_x4 (.cons (.t .h) (.cons (.t .h) (.cons (.t .h) (.rd (.t .h) rfl .nil)))) (X_callS cf126.h (.cons (.tmp rfl rfl) (.cons (.tmp rfl rfl) .nil)) (i_Reached_open_ok a_r v0_0 F0_0 v0_1 F0_1 v0_2 F0_2 a_l v1_0 _ hx2)) (fun p3 => ?_)
 refine Ca p3.1.v rfl rfl ?_
 refine C_nil (K_in (K_region (Cm p3.1.v rfl rfl ?_)))
 refine C_at .h (fun hp => V_lenR (l := r1.1.length) sl71.h (.tmp rfl rfl) (cown_len hp)) ?_
 refine C_val (V_move (v := (.int .i64 0)) (.int _ _)) ?_
 refine C_nil (CW_block (K_frz .h frz_own ?_))
 refine CW_loop (m := r1.1.length) (fun m234 f' cs' => ∃ (g : Fr) (k236 : Nat) (rest237 : List Access) (c224 : List Fact) (c227 : List Int) (c230 : List Access) (v225 : Sv) (F226 : List Nat) (v228 : Sv) (F229 : List Nat) (v231 : Sv) (F232 : List Nat), m234 = rest237.length ∧ f' = updL g [(0, (.pointer (some ⟨kq0, 0, some 0⟩))), (1, v1_0.v), (2, v2_0.v), (7, p3.1.v), (17, p3.1.v), (18, (.int .i64 (r1.1.length : Int))), (19, (.int .i64 (k236 : Int)))] ∧ List.drop k236 r1.1 = rest237 ∧ Ent cs' [cbox kq0 73 (.agg [v225.v, v228.v, v231.v, (.int .i64 a_r.Rounds)].toArray), cown (OwnS 80 ow80) F226 v225.v c224, cown (OwnS 3 (roE rdInt)) F229 v228.v c227, cown (OwnS 141 (roE rd141)) F232 v231.v c230, crd (RdS 77 rd77) v1_0.v a_l, crd (RdS 80 rd80) v2_0.v a_facts, crd (RdS 141 rd141) p3.1.v r1.1] ∧ i_Reached_told_L1 a_r a_l a_facts r1 rest237 k236 c224 c227 c230 = some R) ⟨_, 0, _, _, _, _, v0_0, p3.2.2.1, v0_1, p3.2.2.2.1, v0_2, p3.2.2.2.2, rfl, (EqL.cons rfl (EqL.cons rfl (EqL.cons rfl (EqL.cons rfl (EqL.cons rfl (EqL.cons rfl (EqL.cons rfl (EqL.nil)))))))).eq, rfl, (.sel (.cons (.t (.t (.t (.t .h)))) (.cons (.t .h) (.cons (.t .h) (.cons (.t .h) (.rd (.t .h) rfl (.rd (.t (.t .h)) rfl (.rd .h rfl .nil)))))))), hF⟩ ?_
 clear hF
 rintro m234 _ _ ⟨g235, k236, rest237, c224, c227, c230, v225, F226, v228, F229, v231, F232, rfl, rfl, hd239, hE, hF⟩
 refine K_ent hE ?_
 clear hE
 refine K_pure (c := crd (RdS 141 rd141) p3.1.v r1.1) (.t (.t (.t (.t (.t (.t .h)))))) crd_bound (fun hbd244 => ?_)
 rcases rest237 with _ | ⟨x238, rest237⟩
 · have hk240 := List.drop_eq_nil_iff.1 hd239
   have hfe243 : (decide (((k236 : Int) : Int) < (r1.1.length : Int))) = false := decide_eq_false (by omega)
   rw [i_Reached_told_L1] at hF
   refine K_region (C_val (V_lss (i := (k236 : Int)) (j := (r1.1.length : Int)) (.tmp rfl rfl) (.tmp rfl rfl)) ?_)
   refine C_nil (K_in (CW_cond (b := (decide (((k236 : Int) : Int) < (r1.1.length : Int)))) (.tmp rfl rfl) (fun hb => absurd (hfe243.symm.trans hb) (by decide)) (fun _ => ?_)))
   refine CW_exit ?_
   iterate 2 refine CThen_exit ?_
   refine CIn_self (K_draw [0, 1, 2, 3, 4, 5, 6, 7, 8, 9, 10, 11] [0, 1, 3, 7, 0, 16, 48, 112, 255, 511, 1023, 2047] [7, 11] mixed (by decide +kernel) ?_)
   refine Dm (.pointer (some ⟨kq0, 0, some 0⟩)) rfl rfl rfl rfl ?_
   refine D_val rfl .no (fun ha => V_nilCheck (v := (.pointer (some ⟨kq0, 0, some 0⟩))) rfl (EN ha (.tmp rfl rfl) rfl)) ?_
   refine D_val rfl .no (fun ha => V_fieldAddr (off := 3) fd73_3.h (EN ha (.tmp rfl rfl) rfl)) ?_
   refine D_atO rfl .no .h (fun ha hp => V_load (v := (.int .i64 a_r.Rounds)) ag3.h (EN ha (.tmp rfl rfl) rfl) hp.2 rfl rfl) ?_
   refine Dm p3.1.v rfl rfl rfl rfl ?_
   refine D_at rfl .no (.t (.t (.t (.t (.t (.t .h)))))) rfl (fun ha hp => V_lenR (l := r1.1.length) sl71.h (EN ha (.tmp rfl rfl) rfl) (crd_len hp)) ?_
   refine D_val rfl .no (fun ha => V_gtr (i := (r1.1.length : Int)) (j := 0) (EN ha (.tmp rfl rfl) rfl) (EN ha (.int _ _) rfl)) ?_
   obtain ⟨r245, hx246, hF⟩ := bind_some hF
   refine D_act0 rfl rfl .no .nil (.own .h (fun _ h => h) .nil) (fun ha => X_callS cf129.h (.cons (EN ha (.tmp rfl rfl) rfl) .nil) (i_bit_ok (decide ((0 : Int) < (r1.1.length : Int))) _ hx246)) (fun _ => ?_)
   refine D_val rfl .no (fun ha => V_add (i := a_r.Rounds) (j := r245) (EN ha (.tmp rfl rfl) rfl) (EN ha (.tmp rfl rfl) rfl)) ?_
   refine D_val rfl .no (fun ha => V_nilCheck (v := (.pointer (some ⟨kq0, 0, some 0⟩))) rfl (EN ha (.tmp rfl rfl) rfl)) ?_
   refine D_val rfl .no (fun ha => V_fieldAddr (off := 3) fd73_3.h (EN ha (.tmp rfl rfl) rfl)) ?_
   refine D_act1 rfl rfl .no (.cons .h .nil) (.dep rfl .nil) (fun ha => X_storeB (e' := (.agg [v225.v, v228.v, v231.v, (.int .i64 (IntKind.i64.wrap (a_r.Rounds + r245)))].toArray)) (v := (.int .i64 (IntKind.i64.wrap (a_r.Rounds + r245)))) ty3.h.sz (EN ha (.tmp rfl rfl) rfl) (EN ha (.tmp rfl rfl) rfl) rfl rfl rfl rfl rfl) (fun _ => ?_)
   refine D_nil (K_region (Cm p3.1.v rfl rfl ?_))
   refine C_at (.t (.t (.t (.t (.t (.t .h)))))) (fun hp => V_lenR (l := r1.1.length) sl71.h (.tmp rfl rfl) (crd_len hp)) ?_
   refine C_val (V_gtr (i := (r1.1.length : Int)) (j := 0) (.tmp rfl rfl) (.int _ _)) ?_
   refine Ca (.bool (decide ((0 : Int) < (r1.1.length : Int)))) rfl rfl ?_
   refine C_nil (CW_ret ?_)
   obtain rfl := Option.some.inj hF
   exact End_ret (v225, F226, v228, F229, v231, F232) (.tmp rfl rfl .nil) rfl (.sel (.cons .h (.cons .h (.cons .h (.cons .h .nil)))))
 obtain ⟨hk240, hx241, hd242⟩ := drop_cons hd239
 have hfe243 : (decide (((k236 : Int) : Int) < (r1.1.length : Int))) = true := decide_eq_true (by omega)
 rw [i_Reached_told_L1] at hF
 refine K_region (C_val (V_lss (i := (k236 : Int)) (j := (r1.1.length : Int)) (.tmp rfl rfl) (.tmp rfl rfl)) ?_)
 refine C_nil (K_in (CW_cond (b := (decide (((k236 : Int) : Int) < (r1.1.length : Int)))) (.tmp rfl rfl) (fun _ => ?_) (fun hb => absurd (hfe243.symm.trans hb) (by decide))))
 refine CW_skip ?_
 obtain ⟨o248, hio248, hO249⟩ := bind_some hF
 refine K_cut (fun f' cs' => ∃ (c335 : List Fact) (c338 : List Int) (c341 : List Access) (v336 : Sv) (F337 : List Nat) (v339 : Sv) (F340 : List Nat) (v342 : Sv) (F343 : List Nat) (g : Fr), o248 = (c335, c338, c341) ∧ f' = updL g [(0, (.pointer (some ⟨kq0, 0, some 0⟩))), (1, v1_0.v), (2, v2_0.v), (7, p3.1.v), (17, p3.1.v), (18, (.int .i64 (r1.1.length : Int))), (19, (.int .i64 (k236 : Int)))] ∧ Ent cs' [cbox kq0 73 (.agg [v336.v, v339.v, v342.v, (.int .i64 a_r.Rounds)].toArray), cown (OwnS 80 ow80) F337 v336.v c335, cown (OwnS 3 (roE rdInt)) F340 v339.v c338, cown (OwnS 141 (roE rd141)) F343 v342.v c341, crd (RdS 77 rd77) v1_0.v a_l, crd (RdS 80 rd80) v2_0.v a_facts, crd (RdS 141 rd141) p3.1.v r1.1]) ?_ ?_
 · replace hF := hio248
   refine CW_block (K_region (C_idx (a := x238) sl71.h ty141.h.sz (.tmp rfl rfl) (.tmp rfl rfl) (.t (.t (.t (.t (.t (.t .h)))))) (Int.natCast_nonneg k236) hx241 (fun k250 j251 => ?_)))
   refine C_ldA1 (ul141_0_141 x238) ag141.h ty141.h.sz rfl (.tmp rfl rfl) .h la141_0_141 (fun p252 => ?_)
   refine C_new rfl (N_allocT (g := true) ty141.h rfl rfl) (fun k253 => ?_)
   refine C_x1 (.cons .h .nil) (X_storeB (e' := (.agg [(.int .i64 x238.Method), p252.v].toArray)) (v := (.agg [(.int .i64 x238.Method), p252.v].toArray)) ty141.h.sz (.tmp rfl rfl) (.tmp rfl rfl) rfl rfl rfl rfl rfl) (fun _ => ?_)
   refine C_nil (K_draw [0, 1, 2, 3, 4, 5, 6, 7, 8, 9, 10] [0, 0, 2, 6, 14, 0, 32, 126, 255, 511, 1023] [7, 10] mixed (by decide +kernel) ?_)
   iterate 2 refine Dm (.pointer (some ⟨kq0, 0, some 0⟩)) rfl rfl rfl rfl ?_
   refine D_val rfl .no (fun ha => V_nilCheck (v := (.pointer (some ⟨kq0, 0, some 0⟩))) rfl (EN ha (.tmp rfl rfl) rfl)) ?_
   refine D_val rfl .no (fun ha => V_fieldAddr (off := 2) fd73_2.h (EN ha (.tmp rfl rfl) rfl)) ?_
   refine D_atO rfl .no (.t (.t (.t .h))) (fun ha hp => V_load (v := v231.v) ag71.h (EN ha (.tmp rfl rfl) rfl) hp.2 rfl rfl) ?_
   refine D_atO rfl .no .h (fun ha hp => V_loadBox ag141.h ty141.h.sz rfl (EN ha (.tmp rfl rfl) rfl) hp.2 rfl) ?_
   refine D_new rfl .no rfl (fun ha => N_buildSliceT (g := true) (len := 1) (parts := [(0, .tmp 28)]) sl71.h ty141.h (.cons (EN ha (.tmp rfl rfl) rfl) .nil) (vs := [(.agg [(.int .i64 x238.Method), p252.v].toArray)]) rfl rfl rfl (by intro v hv; simp at hv; rcases hv with rfl <;> rfl)) (fun k254 => ?_)
   refine D_conv (.cons .h (.rd (.t .h) rfl .nil)) (own_lit (Ro := (roE rd141)) (E := 141) (F := ([] ++ [])) (xs := ([x238] : List Access)) (MkL_cons mr141 MkL_nil apps) rfl rfl) apps ?_
   obtain ⟨z255, hx256, hF⟩ := bind_some hF
   refine D_act1 rfl rfl .no (.cons (.t (.t (.t (.t (.t (.t (.t .h))))))) (.cons .h .nil)) (.dep rfl (.dep rfl (.dep rfl .nil))) (fun ha => X_appendO (Ro := (roE rd141)) sl71.h ni71 ty141.h rfl rfl rfl (EN ha (.tmp rfl rfl) rfl) (EN ha (.tmp rfl rfl) rfl) hx256 src_own) (fun p257 => ?_)
   refine D_val rfl .no (fun ha => V_nilCheck (v := (.pointer (some ⟨kq0, 0, some 0⟩))) rfl (EN ha (.tmp rfl rfl) rfl)) ?_
   refine D_val rfl .no (fun ha => V_fieldAddr (off := 2) fd73_2.h (EN ha (.tmp rfl rfl) rfl)) ?_
   refine D_act1 rfl rfl .no (.cons (.t (.t (.t (.t .h)))) .nil) (.dep rfl (.dep rfl (.dep rfl .nil))) (fun ha => X_storeB (e' := (.agg [v225.v, v228.v, p257.1.v, (.int .i64 a_r.Rounds)].toArray)) ty71.h.sz (EN ha (.tmp rfl rfl) rfl) (EN ha (.tmp rfl rfl) rfl) rfl rfl rfl rfl rfl) (fun _ => ?_)
   refine D_nil (K_region (Cm v1_0.v rfl rfl ?_))
   refine Cm v2_0.v rfl rfl ?_
   refine C_at (.t (.t .h)) (fun hp => V_loadBox ag141.h ty141.h.sz rfl (.tmp rfl rfl) hp.2 rfl) ?_
   obtain ⟨r258, hx259, hF⟩ := bind_some hF
   refine C_x1 (.rd (.t (.t (.t (.t (.t (.t (.t .h))))))) rfl (.rd (.t (.t (.t (.t (.t (.t (.t (.t .h)))))))) rfl (.rd (.t (.t (.t .h))) rfl .nil))) (X_callS cf127.h (.cons (.tmp rfl rfl) (.cons (.tmp rfl rfl) (.cons (.tmp rfl rfl) .nil))) (i_matches_ok a_l v1_0 a_facts v2_0 x238 p252 _ hx259)) (fun p260 => ?_)
   refine C_at .h (fun hp => V_lenR (l := r258.length) sl40.h (.tmp rfl rfl) (cown_len hp)) ?_
   refine C_val (V_move (v := (.int .i64 0)) (.int _ _)) ?_
   refine C_nil (CW_block (K_frz .h frz_own ?_))
   refine CW_loop (m := r258.length) (fun m313 f' cs' => ∃ (g : Fr) (k315 : Nat) (rest316 : List Fact) (c306 : List Fact) (c309 : List Int) (v307 : Sv) (F308 : List Nat) (v310 : Sv) (F311 : List Nat), m313 = rest316.length ∧ f' = updL g [(0, (.pointer (some ⟨kq0, 0, some 0⟩))), (1, v1_0.v), (2, v2_0.v), (7, p3.1.v), (17, p3.1.v), (18, (.int .i64 (r1.1.length : Int))), (19, (.int .i64 (k236 : Int))), (36, p260.1.v), (37, (.int .i64 (r258.length : Int))), (38, (.int .i64 (k315 : Int)))] ∧ List.drop k315 r258 = rest316 ∧ Ent cs' [cbox kq0 73 (.agg [v307.v, v310.v, p257.1.v, (.int .i64 a_r.Rounds)].toArray), cown (OwnS 80 ow80) F308 v307.v c306, cown (OwnS 3 (roE rdInt)) F311 v310.v c309, cown (OwnS 141 (roE rd141)) p257.2 p257.1.v z255, crd (RdS 77 rd77) v1_0.v a_l, crd (RdS 80 rd80) v2_0.v a_facts, crd (RdS 141 rd141) p3.1.v r1.1, crd (RdS 80 rd80) p260.1.v r258] ∧ i_Reached_told_L4 z255 rest316 k315 c306 c309 = some o248) ⟨_, 0, _, _, _, v225, F226, v228, F229, rfl, (EqL.cons rfl (EqL.cons rfl (EqL.cons rfl (EqL.cons rfl (EqL.cons rfl (EqL.cons rfl (EqL.cons rfl (EqL.cons rfl (EqL.cons rfl (EqL.cons rfl (EqL.nil))))))))))).eq, rfl, (.sel (.cons (.t .h) (.cons (.t (.t (.t (.t (.t .h))))) (.cons (.t (.t (.t (.t (.t .h))))) (.cons (.t .h) (.rd (.t (.t (.t (.t .h)))) rfl (.rd (.t (.t (.t (.t (.t .h))))) rfl (.rd (.t (.t (.t (.t (.t (.t .h)))))) rfl (.rd .h rfl .nil))))))))), hF⟩ ?_
   clear hF
   rintro m313 _ _ ⟨g314, k315, rest316, c306, c309, v307, F308, v310, F311, rfl, rfl, hd318, hE, hF⟩
   refine K_ent hE ?_
   clear hE
   refine K_pure (c := crd (RdS 80 rd80) p260.1.v r258) (.t (.t (.t (.t (.t (.t (.t .h))))))) crd_bound (fun hbd323 => ?_)
   rcases rest316 with _ | ⟨x317, rest316⟩
   · have hk319 := List.drop_eq_nil_iff.1 hd318
     have hfe322 : (decide (((k315 : Int) : Int) < (r258.length : Int))) = false := decide_eq_false (by omega)
     rw [i_Reached_told_L4] at hF
     refine K_region (C_val (V_lss (i := (k315 : Int)) (j := (r258.length : Int)) (.tmp rfl rfl) (.tmp rfl rfl)) ?_)
     refine C_nil (K_in (CW_cond (b := (decide (((k315 : Int) : Int) < (r258.length : Int)))) (.tmp rfl rfl) (fun hb => absurd (hfe322.symm.trans hb) (by decide)) (fun _ => ?_)))
     refine CW_exit ?_
     iterate 2 refine CThen_exit ?_
     refine CIn_self ?_
     obtain rfl := Option.some.inj hF
     exact ⟨_, _, _, v307, F308, v310, F311, p257.1, p257.2, _, rfl, (EqL.cons rfl (EqL.cons rfl (EqL.cons rfl (EqL.cons rfl (EqL.cons rfl (EqL.cons rfl (EqL.cons rfl (EqL.nil)))))))).eq, (.sel (.cons .h (.cons .h (.cons .h (.cons .h (.rd .h rfl (.rd (.t .h) rfl (.rd (.t (.t .h)) rfl .nil))))))))⟩
   obtain ⟨hk319, hx320, hd321⟩ := drop_cons hd318
   have hfe322 : (decide (((k315 : Int) : Int) < (r258.length : Int))) = true := decide_eq_true (by omega)
   rw [i_Reached_told_L4] at hF
   refine K_region (C_val (V_lss (i := (k315 : Int)) (j := (r258.length : Int)) (.tmp rfl rfl) (.tmp rfl rfl)) ?_)
   refine C_nil (K_in (CW_cond (b := (decide (((k315 : Int) : Int) < (r258.length : Int)))) (.tmp rfl rfl) (fun _ => ?_) (fun hb => absurd (hfe322.symm.trans hb) (by decide))))
   refine CW_skip (K_block (K_region (C_idx (a := x317) sl40.h ty80.h.sz (.tmp rfl rfl) (.tmp rfl rfl) (.t (.t (.t (.t (.t (.t (.t .h))))))) (Int.natCast_nonneg k315) hx320 (fun k324 j325 => ?_))))
   refine C_ldA1 (ul80_0_80 x317) ag80.h ty80.h.sz rfl (.tmp rfl rfl) .h la80_0_80 (fun p326 => ?_)
   refine C_new rfl (N_allocT (g := true) ty80.h rfl rfl) (fun k327 => ?_)
   refine C_x1 (.cons .h .nil) (X_storeB (e' := (.agg [(.int .i64 x317.Rel), p326.v].toArray)) (v := (.agg [(.int .i64 x317.Rel), p326.v].toArray)) ty80.h.sz (.tmp rfl rfl) (.tmp rfl rfl) rfl rfl rfl rfl rfl) (fun _ => ?_)
   refine C_nil (K_draw [0, 1, 2, 3, 4, 5, 6, 7, 8, 9] [0, 0, 2, 6, 14, 0, 62, 127, 255, 511] [6, 9] mixed (by decide +kernel) ?_)
   iterate 2 refine Dm (.pointer (some ⟨kq0, 0, some 0⟩)) rfl rfl rfl rfl ?_
   refine D_val rfl .no (fun ha => V_nilCheck (v := (.pointer (some ⟨kq0, 0, some 0⟩))) rfl (EN ha (.tmp rfl rfl) rfl)) ?_
   refine D_val rfl .no (fun ha => V_fieldAddr (off := 0) fd73_0.h (EN ha (.tmp rfl rfl) rfl)) ?_
   refine D_atO rfl .no (.t (.t (.t .h))) (fun ha hp => V_load (v := v307.v) ag40.h (EN ha (.tmp rfl rfl) rfl) hp.2 rfl rfl) ?_
   refine D_atO rfl .no .h (fun ha hp => V_loadBox ag80.h ty80.h.sz rfl (EN ha (.tmp rfl rfl) rfl) hp.2 rfl) ?_
   obtain ⟨r328, hx329, hF⟩ := bind_some hF
   refine D_act1 rfl rfl .no (.cons (.t (.t (.t (.t .h)))) (.rd (.t .h) rfl .nil)) (.dep rfl (.dep rfl .nil)) (fun ha => X_callS cf128.h (.cons (EN ha (.tmp rfl rfl) rfl) (.cons (EN ha (.tmp rfl rfl) rfl) .nil)) (i_added_ok c306 v307 F308 x317 p326 _ hx329)) (fun p330 => ?_)
   refine D_val rfl .no (fun ha => V_nilCheck (v := (.pointer (some ⟨kq0, 0, some 0⟩))) rfl (EN ha (.tmp rfl rfl) rfl)) ?_
   refine D_val rfl .no (fun ha => V_fieldAddr (off := 0) fd73_0.h (EN ha (.tmp rfl rfl) rfl)) ?_
   refine D_act1 rfl rfl .no (.cons (.t (.t (.t (.t .h)))) .nil) (.dep rfl (.dep rfl .nil)) (fun ha => X_storeB (e' := (.agg [p330.1.v, v310.v, p257.1.v, (.int .i64 a_r.Rounds)].toArray)) ty40.h.sz (EN ha (.tmp rfl rfl) rfl) (EN ha (.tmp rfl rfl) rfl) rfl rfl rfl rfl rfl) (fun _ => ?_)
   refine D_nil (CW_draw [0, 1, 2, 3, 4, 5, 6, 7, 8, 9, 10] [0, 0, 2, 6, 14, 0, 32, 126, 255, 511, 1023] [7, 10] mixed (by decide +kernel) ?_)
   iterate 2 refine Dm (.pointer (some ⟨kq0, 0, some 0⟩)) rfl rfl rfl rfl ?_
   refine D_val rfl .no (fun ha => V_nilCheck (v := (.pointer (some ⟨kq0, 0, some 0⟩))) rfl (EN ha (.tmp rfl rfl) rfl)) ?_
   refine D_val rfl .no (fun ha => V_fieldAddr (off := 1) fd73_1.h (EN ha (.tmp rfl rfl) rfl)) ?_
   refine D_atO rfl .no .h (fun ha hp => V_load (v := v310.v) ag22.h (EN ha (.tmp rfl rfl) rfl) hp.2 rfl rfl) ?_
   refine D_val rfl .no (fun ha => V_fieldAddr (off := 1) fd80_1.h (EN ha (.tmp rfl rfl) rfl)) ?_
   refine D_atO rfl .no (.t (.t .h)) (fun ha hp => V_load (v := p326.v) ag22.h (EN ha (.tmp rfl rfl) rfl) hp.2 rfl rfl) ?_
   obtain ⟨r331, hx332, hF⟩ := bind_some hF
   refine D_act2 rfl rfl .no (.cons (.t (.t (.t (.t (.t .h))))) (.rd (.t (.t (.t .h))) rfl .nil)) (.dep rfl (.dep rfl .nil)) (fun ha => XC_bor frz_own (fun _ => (.cons .nil)) (X_callS cf125.h (.cons (EN ha (.tmp rfl rfl) rfl) (.cons (EN ha (.tmp rfl rfl) rfl) .nil)) (i_withValues_ok c309 v310 x317.Values p326 _ hx332))) (fun p333 => ?_)
   refine D_val rfl .no (fun ha => V_nilCheck (v := (.pointer (some ⟨kq0, 0, some 0⟩))) rfl (EN ha (.tmp rfl rfl) rfl)) ?_
   refine D_val rfl .no (fun ha => V_fieldAddr (off := 1) fd73_1.h (EN ha (.tmp rfl rfl) rfl)) ?_
   refine D_act1 rfl rfl .no (.cons (.t (.t .h)) .nil) (.dep rfl (.dep rfl .nil)) (fun ha => X_storeB (e' := (.agg [p330.1.v, p333.1.v, p257.1.v, (.int .i64 a_r.Rounds)].toArray)) ty22.h.sz (EN ha (.tmp rfl rfl) rfl) (EN ha (.tmp rfl rfl) rfl) rfl rfl rfl rfl rfl) (fun _ => ?_)
   refine D_nil (CW_region (C_val (V_add (i := (k315 : Int)) (j := 1) (.tmp rfl rfl) (.int _ _)) ?_))
   refine Cm (.int .i64 (IntKind.i64.wrap ((k315 : Int) + 1))) rfl rfl ?_
   refine C_nil ?_
   have hw334 : IntKind.i64.wrap ((k315 : Int) + 1) = ((k315 + 1 : Nat) : Int) := by rw [wrap_in (by omega) (by omega)]; rfl
   rw [hw334]
   exact ⟨_, Nat.lt_succ_self _, _, k315 + 1, rest316, _, _, p330.1, p330.2, p333.1, p333.2, rfl, (EqL.cons rfl (EqL.cons rfl (EqL.cons rfl (EqL.cons rfl (EqL.cons rfl (EqL.cons rfl (EqL.cons rfl (EqL.cons rfl (EqL.cons rfl (EqL.cons rfl (EqL.nil))))))))))).eq, hd321, (.sel (.cons .h (.cons (.t (.t .h)) (.cons (.t .h) (.cons (.t (.t (.t (.t .h)))) (.rd (.t (.t (.t (.t .h)))) rfl (.rd (.t (.t (.t (.t (.t .h))))) rfl (.rd (.t (.t (.t (.t (.t (.t .h)))))) rfl (.rd (.t (.t (.t (.t (.t (.t (.t .h))))))) rfl .nil))))))))), hF⟩
 rintro _ _ ⟨c335, c338, c341, v336, F337, v339, F340, v342, F343, g345, rfl, rfl, hE⟩
 replace hF := hO249
 clear hO249
 try dsimp only at hF
 refine K_ent hE ?_
 refine CW_region (C_val (V_add (i := (k236 : Int)) (j := 1) (.tmp rfl rfl) (.int _ _)) ?_)
 refine Cm (.int .i64 (IntKind.i64.wrap ((k236 : Int) + 1))) rfl rfl ?_
 refine C_nil ?_
 have hw344 : IntKind.i64.wrap ((k236 : Int) + 1) = ((k236 + 1 : Nat) : Int) := by rw [wrap_in (by omega) (by omega)]; rfl
 rw [hw344]
 exact ⟨_, Nat.lt_succ_self _, _, k236 + 1, rest237, _, _, _, v336, F337, v339, F340, v342, F343, rfl, (EqL.cons rfl (EqL.cons rfl (EqL.cons rfl (EqL.cons rfl (EqL.cons rfl (EqL.cons rfl (EqL.cons rfl (EqL.nil)))))))).eq, hd242, (.sel (.cons .h (.cons .h (.cons .h (.cons .h (.rd .h rfl (.rd (.t .h) rfl (.rd (.t (.t .h)) rfl .nil)))))))), hF⟩
def i_reach_L1 (a_l : List Method) (a_facts : List Fact) : Nat → (List Fact) → (List Int) → (List Access) → Int → Int → Option (Reached)
 | 0, _, _, _, _, _ => none
 | m51 + 1, c40, c43, c46, c49, c50 => if (decide ((c50 : Int) < 40)) then (
     (i_Reached_told ({ Facts := c40, Values := c43, Log := c46, Rounds := c49 } : Reached) a_l a_facts).bind fun r59 =>
     if (!r59.1) then (
       some r59.2)
     else (
       i_reach_L1 a_l a_facts m51 r59.2.Facts r59.2.Values r59.2.Log r59.2.Rounds (IntKind.i64.wrap (c50 + 1))))
   else (
     some ({ Facts := c40, Values := c43, Log := c46, Rounds := c49 } : Reached))
def i_reach (a_l : List Method) (a_facts : List Fact) (a_seeds : List Int) : Option (Reached) :=
 (i_StartReach a_seeds).bind fun r2 =>
 i_reach_L1 a_l a_facts (((40 : Int) - 0).toNat + 2) r2.Facts r2.Values r2.Log r2.Rounds 0
theorem i_reach_ok (a_l : List Method) (v0_0 : Sv) (a_facts : List Fact) (v1_0 : Sv) (a_seeds : List Int) (v2_0 : Sv) (R : Reached) (hF : i_reach a_l a_facts a_seeds = some R) :
   Fw.Spec Tryz.prog 48 [v0_0.v, v1_0.v, v2_0.v] [crd (RdS 77 rd77) v0_0.v a_l, crd (RdS 80 rd80) v1_0.v a_facts, crd (RdS 3 rdInt) v2_0.v a_seeds] (fun p : Sv × List Nat × Sv × List Nat × Sv × List Nat => (.agg [p.1.v, p.2.2.1.v, p.2.2.2.2.1.v, (.int .i64 R.Rounds)].toArray)) (fun p => [cown (OwnS 80 ow80) p.2.1 p.1.v R.Facts, cown (OwnS 3 (roE rdInt)) p.2.2.2.1 p.2.2.1.v R.Values, cown (OwnS 141 (roE rd141)) p.2.2.2.2.2 p.2.2.2.2.1.v R.Log]) := by
 refine Spec_enter (n := 18) Tryz.func48 rfl rfl (rs := [.cell 6 73]) rfl rfl rfl ?_
 intro H0 F0
 unfold i_reach at hF
 refine au ?_
 refine C_new rfl (N_allocT (g := true) ty73.h rfl rfl) (fun k1 => ?_)
 iterate 3 refine au ?_
 obtain ⟨r2, hx3, hF⟩ := bind_some hF
 refine C_x3 (.rd (.t (.t (.t .h))) rfl .nil) (X_callS cf82.h (.cons (.tmp rfl rfl) .nil) (i_StartReach_ok a_seeds v2_0 _ hx3)) (fun p4 => ?_)
 refine C_new rfl (N_allocT (g := true) ty73.h rfl rfl) (fun k5 => ?_)
 refine C_x1 (.cons .h .nil) (X_storeB (e' := (.agg [p4.1.v, p4.2.2.1.v, p4.2.2.2.2.1.v, (.int .i64 r2.Rounds)].toArray)) (v := (.agg [p4.1.v, p4.2.2.1.v, p4.2.2.2.2.1.v, (.int .i64 r2.Rounds)].toArray)) ty73.h.sz (.tmp rfl rfl) (.tmp rfl rfl) rfl rfl rfl rfl rfl) (fun _ => ?_)
 iterate 5 refine au ?_
 refine CW_block (CW_loop (m := (((40 : Int) - 0).toNat + 2)) (fun m51 f' cs' => ∃ (g : Fr) (c40 : List Fact) (c43 : List Int) (c46 : List Access) (c49 : Int) (c50 : Int) (v41 : Sv) (F42 : List Nat) (v44 : Sv) (F45 : List Nat) (v47 : Sv) (F48 : List Nat), f' = updL g [(0, v0_0.v), (1, v1_0.v), (6, (.pointer (some ⟨k1, 0, some 0⟩))), (7, (.pointer (some ⟨k5, 0, some 0⟩))), (10, (.int .i64 c50))] ∧ Ent cs' [crd (RdS 77 rd77) v0_0.v a_l, crd (RdS 80 rd80) v1_0.v a_facts, cbox k1 73 (.agg [(.slice none 0 0), (.slice none 0 0), (.slice none 0 0), (.int .i64 0)].toArray), cbox k5 73 (.agg [v41.v, v44.v, v47.v, (.int .i64 c49)].toArray), cown (OwnS 80 ow80) F42 v41.v c40, cown (OwnS 3 (roE rdInt)) F45 v44.v c43, cown (OwnS 141 (roE rd141)) F48 v47.v c46] ∧ i_reach_L1 a_l a_facts m51 c40 c43 c46 c49 c50 = some R) ⟨_, _, _, _, _, _, p4.1, p4.2.1, p4.2.2.1, p4.2.2.2.1, p4.2.2.2.2.1, (p4.2.2.2.2.2.take 1), (EqL.cons rfl (EqL.cons rfl (EqL.cons rfl (EqL.cons rfl (EqL.cons rfl (EqL.nil)))))).eq, (.half (.t (.t (.t .h))) (.sel (.rd (.t (.t (.t (.t (.t .h))))) rfl (.rd (.t (.t (.t (.t (.t (.t .h)))))) rfl (.cons (.t (.t (.t (.t .h)))) (.cons (.t .h) (.cons (.t .h) (.cons (.t .h) (.cons .h .nil))))))))), hF⟩ ?_)
 clear hF
 rintro m51 _ _ ⟨g52, c40, c43, c46, c49, c50, v41, F42, v44, F45, v47, F48, rfl, hE, hF⟩
 refine K_ent hE ?_
 clear hE
 rcases m51 with _ | m51
 · rw [i_reach_L1] at hF
   exact absurd hF (by simp)
 rw [i_reach_L1] at hF
 iterate 4 refine au ?_
 refine CW_cond (b := (decide ((c50 : Int) < 40))) (.tmp rfl rfl) (fun hb63 => ?_) (fun hb63 => ?_)
 · rw [if_pos hb63] at hF
   iterate 5 refine au ?_
   obtain ⟨r59, hx60, hF⟩ := bind_some hF
   refine C_x4 (.cons (.t (.t (.t .h))) (.cons (.t (.t (.t .h))) (.cons (.t (.t (.t .h))) (.cons (.t (.t (.t .h))) (.rd .h rfl (.rd (.t .h) rfl .nil)))))) (X_callS cf83.h (.cons (.tmp rfl rfl) (.cons (.tmp rfl rfl) (.cons (.tmp rfl rfl) .nil))) (i_Reached_told_ok k5 ({ Facts := c40, Values := c43, Log := c46, Rounds := c49 } : Reached) v41 F42 v44 F45 v47 F48 a_l v0_0 a_facts v1_0 _ hx60)) (fun p61 => ?_)
   iterate 2 refine au ?_
   refine CW_cond (b := (!r59.1)) (.tmp rfl rfl) (fun hb62 => ?_) (fun hb62 => ?_)
   · rw [if_pos hb62] at hF
     refine au ?_
     refine CIn_ne rfl ?_
     iterate 5 refine au ?_
     refine C_x1 (.cons (.t (.t (.t (.t (.t (.t .h)))))) .nil) (X_storeB (e' := (.agg [p61.1.v, p61.2.2.1.v, p61.2.2.2.2.1.v, (.int .i64 r59.2.Rounds)].toArray)) (v := (.agg [p61.1.v, p61.2.2.1.v, p61.2.2.2.2.1.v, (.int .i64 r59.2.Rounds)].toArray)) ty73.h.sz (.tmp rfl rfl) (.tmp rfl rfl) rfl rfl rfl rfl rfl) (fun _ => ?_)
     iterate 2 refine au ?_
     obtain rfl := Option.some.inj hF
     exact End_ret (p61.1, p61.2.1, p61.2.2.1, p61.2.2.2.1, p61.2.2.2.2.1, p61.2.2.2.2.2) (.cellA rfl rfl .h rfl ag73.h ty73.h.sz rfl rfl .nil) rfl (.sel (.cons (.t (.t .h)) (.cons (.t (.t .h)) (.cons (.t (.t .h)) .nil))))
   rw [if_neg (by rw [hb62]; exact Bool.false_ne_true)] at hF
   iterate 5 refine au ?_
   exact ⟨m51, Nat.lt_succ_self _, _, _, _, _, _, _, p61.1, p61.2.1, p61.2.2.1, p61.2.2.2.1, p61.2.2.2.2.1, p61.2.2.2.2.2, (EqL.cons rfl (EqL.cons rfl (EqL.cons rfl (EqL.cons rfl (EqL.cons rfl (EqL.nil)))))).eq, (.sel (.rd (.t (.t (.t (.t .h)))) rfl (.rd (.t (.t (.t (.t (.t .h))))) rfl (.cons (.t (.t (.t (.t (.t (.t .h)))))) (.cons .h (.cons .h (.cons .h (.cons .h .nil)))))))), hF⟩
 rw [if_neg (by rw [hb63]; exact Bool.false_ne_true)] at hF
 iterate 6 refine au ?_
 refine C_x1 (.cons (.t (.t .h)) .nil) (X_storeB (e' := (.agg [v41.v, v44.v, v47.v, (.int .i64 c49)].toArray)) (v := (.agg [v41.v, v44.v, v47.v, (.int .i64 c49)].toArray)) ty73.h.sz (.tmp rfl rfl) (.tmp rfl rfl) rfl rfl rfl rfl rfl) (fun _ => ?_)
 iterate 2 refine au ?_
 obtain rfl := Option.some.inj hF
 exact End_ret (v41, F42, v44, F45, v47, F48) (.cellA rfl rfl .h rfl ag73.h ty73.h.sz rfl rfl .nil) rfl (.sel (.cons (.t (.t (.t (.t .h)))) (.cons (.t (.t (.t (.t .h)))) (.cons (.t (.t (.t (.t .h)))) .nil))))
def i_MaximalAnswers (a_s : List Int) (a_l : List Method) (a_q : Query) (a_facts : List Fact) : Option ((List (List Int))) :=
 ((i_areAsked a_s a_l a_q).bind fun r4 =>
   bif (!r4) then (some true)
   else ((i_AreFacts a_s a_facts).bind fun r8 =>
     some (!r8))).bind fun o2 =>
 match o2 with
 | c11 => if c11 then (
     some [])
   else (
     (i_ConstantsOf a_q).bind fun r12 =>
     (i_reach a_l a_facts r12).bind fun r15 =>
     (i_answers a_q r15.Facts).bind fun r18 =>
     some r18)
theorem i_MaximalAnswers_ok (a_s : List Int) (v0_0 : Sv) (a_l : List Method) (v1_0 : Sv) (a_q : Query) (v2_0 : Sv) (v2_1 : Sv) (a_facts : List Fact) (v3_0 : Sv) (R : (List (List Int))) (hF : i_MaximalAnswers a_s a_l a_q a_facts = some R) :
   Fw.Spec Tryz.prog 14 [v0_0.v, v1_0.v, (.agg [v2_0.v, v2_1.v].toArray), v3_0.v] [crd (RdS 3 rdInt) v0_0.v a_s, crd (RdS 77 rd77) v1_0.v a_l, crd (RdS 3 rdInt) v2_0.v a_q.Head, crd (RdS 102 rd102) v2_1.v a_q.Atoms, crd (RdS 80 rd80) v3_0.v a_facts] (fun p : Sv × List Nat => p.1.v) (fun p => [cown (OwnS 22 (OwnS 3 (roE rdInt))) p.2 p.1.v R]) := by
 refine Spec_enter (n := 28) Tryz.func14 rfl rfl (rs := [.tmp 8]) rfl rfl rfl ?_
 intro H0 F0
 unfold i_MaximalAnswers at hF
 refine K_region (C_newR rfl (N_box (g := false) (v := (.agg [v2_0.v, v2_1.v].toArray)) ty38.h.sz (.tmp rfl rfl) rfl) (fun k1 => ?_))
 refine C_val (V_assign (v := (.slice none 0 0)) EV.nilSlice) ?_
 refine C_nil (K_in ?_)
 obtain ⟨o2, hio2, hO3⟩ := bind_some hF
 refine K_region (C_cut (fun f' cs' => ∃ (c11 : Bool) (g : Fr), c11 = o2 ∧ f' = updL g [(1, v1_0.v), (3, v3_0.v), (6, (.pointer (some ⟨k1, 0, some 0⟩))), (19, (.bool c11))] ∧ Ent cs' [crd (RdS 77 rd77) v1_0.v a_l, crd (RdS 80 rd80) v3_0.v a_facts, cboR k1 38 (.agg [v2_0.v, v2_1.v].toArray), crd (RdS 3 rdInt) v2_0.v a_q.Head, crd (RdS 102 rd102) v2_1.v a_q.Atoms]) ?_ ?_)
 · replace hF := hio2
   refine Cm v0_0.v rfl rfl ?_
   refine Cm v1_0.v rfl rfl ?_
   refine C_at .h (fun hp => V_loadBox ag38.h ty38.h.sz rfl (.tmp rfl rfl) hp.2 rfl) ?_
   obtain ⟨r4, hx5, hF⟩ := bind_some hF
   refine C_x0 (.rd (.t .h) rfl (.rd (.t (.t .h)) rfl (.rd (.t (.t (.t .h))) rfl (.rd (.t (.t (.t (.t .h)))) rfl .nil)))) (X_callS cf45.h (.cons (.tmp rfl rfl) (.cons (.tmp rfl rfl) (.cons (.tmp rfl rfl) .nil))) (i_areAsked_ok a_s v0_0 a_l v1_0 a_q v2_0 v2_1 _ hx5)) (fun _ => ?_)
   refine C_val (V_not (b := r4) (.tmp rfl rfl)) ?_
   refine Cm (.bool (!r4)) rfl rfl ?_
   rcases Bool.eq_false_or_eq_true (!r4) with hg7 | hg7
   · rw [hg7]
     try rw [hg7] at hF; dsimp only [cond_true, cond_false] at hF
     iterate 4 refine C_off (t := 14) rfl rfl rfl ?_
     refine C_val (V_pick (b := true) (u := (.bool true)) (v := undef) (.tmp rfl rfl) (.bool _) (.tmp rfl rfl)) ?_
     refine C_nil ?_
     obtain rfl := Option.some.inj hF
     exact ⟨_, _, rfl, (EqL.cons rfl (EqL.cons rfl (EqL.cons rfl (EqL.cons rfl (EqL.nil))))).eq, (.sel (.rd (.t (.t .h)) rfl (.rd (.t (.t (.t (.t (.t .h))))) rfl (.rd .h rfl (.rd (.t (.t (.t .h))) rfl (.rd (.t (.t (.t (.t .h)))) rfl .nil))))))⟩
   rw [hg7]
   try rw [hg7] at hF; dsimp only [cond_true, cond_false] at hF
   refine C_on (t := 14) rfl rfl rfl ?_
   refine Cm v0_0.v rfl rfl ?_
   refine C_on (t := 14) rfl rfl rfl ?_
   refine Cm v3_0.v rfl rfl ?_
   refine C_on (t := 14) rfl rfl rfl ?_
   obtain ⟨r8, hx9, hF⟩ := bind_some hF
   refine C_x0 (.rd (.t .h) rfl (.rd (.t (.t (.t (.t (.t .h))))) rfl .nil)) (X_callS cf46.h (.cons (.tmp rfl rfl) (.cons (.tmp rfl rfl) .nil)) (i_AreFacts_ok a_s v0_0 a_facts v3_0 _ hx9)) (fun _ => ?_)
   refine C_on (t := 14) rfl rfl rfl ?_
   refine C_val (V_not (b := r8) (.tmp rfl rfl)) ?_
   refine C_val (V_pick (b := false) (u := (.bool true)) (v := (.bool (!r8))) (.tmp rfl rfl) (.bool _) (.tmp rfl rfl)) ?_
   refine C_nil ?_
   obtain rfl := Option.some.inj hF
   exact ⟨_, _, rfl, (EqL.cons rfl (EqL.cons rfl (EqL.cons rfl (EqL.cons rfl (EqL.nil))))).eq, (.sel (.rd (.t (.t .h)) rfl (.rd (.t (.t (.t (.t (.t .h))))) rfl (.rd .h rfl (.rd (.t (.t (.t .h))) rfl (.rd (.t (.t (.t (.t .h)))) rfl .nil))))))⟩
 rintro _ _ ⟨c11, g22, rfl, rfl, hE⟩
 replace hF := hO3
 clear hO3
 try dsimp only at hF
 refine K_ent hE ?_
 refine CW_cond (b := c11) (.tmp rfl rfl) (fun hb21 => ?_) (fun hb21 => ?_)
 · rw [if_pos hb21] at hF
   refine K_region (C_val (V_assign (v := (.slice none 0 0)) EV.nilSlice) ?_)
   refine C_nil (CW_ret ?_)
   obtain rfl := Option.some.inj hF
   exact End_ret (⟨none, 0, 0⟩, []) (.tmp rfl rfl .nil) rfl (.conv .nil (own_nil (Ro := (OwnS 3 (roE rdInt))) (E := 22)) (.cons .nil) (.sel (.cons .h .nil)))
 rw [if_neg (by rw [hb21]; exact Bool.false_ne_true)] at hF
 refine CW_skip (K_draw [0, 1, 2, 3, 4, 5, 6, 7, 8] [0, 0, 0, 0, 8, 30, 62, 127, 255] [4, 5, 7] mixed (by decide +kernel) ?_)
 refine D_at rfl .no (.t (.t .h)) rfl (fun ha hp => V_loadBox ag38.h ty38.h.sz rfl (EN ha (.tmp rfl rfl) rfl) hp.2 rfl) ?_
 refine Dm v1_0.v rfl rfl rfl rfl ?_
 refine Dm v3_0.v rfl rfl rfl rfl ?_
 refine D_at rfl .no (.t (.t .h)) rfl (fun ha hp => V_loadBox ag38.h ty38.h.sz rfl (EN ha (.tmp rfl rfl) rfl) hp.2 rfl) ?_
 obtain ⟨r12, hx13, hF⟩ := bind_some hF
 refine D_act1 rfl rfl .no (.rd (.t (.t (.t .h))) rfl (.rd (.t (.t (.t (.t .h)))) rfl .nil)) .nil (fun ha => XC_ent (post' := fun p14 : Sv × List Nat => [crd (RdS 3 rdInt) p14.1.v r12]) (fun p14 => (.frz .h frz_own (.sel (.rd .h rfl .nil)))) (X_callS cf49.h (.cons (EN ha (.tmp rfl rfl) rfl) .nil) (i_ConstantsOf_ok a_q v2_0 v2_1 _ hx13))) (fun p14 => ?_)
 obtain ⟨r15, hx16, hF⟩ := bind_some hF
 refine D_act3 rfl rfl .no (.rd (.t .h) rfl (.rd (.t (.t .h)) rfl (.rd .h rfl .nil))) .nil (fun ha => X_callS cf48.h (.cons (EN ha (.tmp rfl rfl) rfl) (.cons (EN ha (.tmp rfl rfl) rfl) (.cons (EN ha (.tmp rfl rfl) rfl) .nil))) (i_reach_ok a_l v1_0 a_facts v3_0 r12 p14.1 _ hx16)) (fun p17 => ?_)
 refine D_val rfl .no (fun ha => V_field (v := p17.1.v) fdt73_0 ag40.h (EN ha (.tmp rfl rfl) rfl) rfl) ?_
 obtain ⟨r18, hx19, hF⟩ := bind_some hF
 refine D_act2 rfl rfl .no (.cons .h (.rd (.t (.t (.t (.t (.t (.t .h)))))) rfl (.rd (.t (.t (.t (.t (.t (.t (.t .h))))))) rfl .nil))) .nil (fun ha => XC_bor frz_own (fun _ => (.cons .nil)) (XC_pre (.rd (.t .h) rfl (.rd (.t (.t .h)) rfl (.rd .h rfl .nil))) (X_callS cf47.h (.cons (EN ha (.tmp rfl rfl) rfl) (.cons (EN ha (.tmp rfl rfl) rfl) .nil)) (i_answers_ok a_q v2_0 v2_1 r15.Facts p17.1 _ hx19)))) (fun p20 => ?_)
 refine Da p20.1.v rfl rfl rfl rfl ?_
 refine D_nil (CW_ret ?_)
 obtain rfl := Option.some.inj hF
 exact End_ret (p20.1, p20.2) (.tmp rfl rfl .nil) rfl (.sel (.cons (.t .h) .nil))
def i_copyTuples_L1 : List (List Int) → Nat → (List (List Int)) → Option ((List (List Int)))
 | [], k8, c2 => some c2
 | x10 :: rest9, k8, c2 => (g_slices_Clone_int_int x10).bind fun r20 =>
   (app c2 ([r20] : List (List Int))).bind fun z24 =>
   i_copyTuples_L1 rest9 (k8 + 1) z24
def i_copyTuples (a_l : List (List Int)) : Option ((List (List Int))) :=
 i_copyTuples_L1 a_l 0 ([] : List (List Int))
theorem i_copyTuples_ok (a_l : List (List Int)) (v0_0 : Sv) (R : (List (List Int))) (hF : i_copyTuples a_l = some R) :
   Fw.Spec Tryz.prog 99 [v0_0.v] [crd (RdS 22 (RdS 3 rdInt)) v0_0.v a_l] (fun p : Sv × List Nat => p.1.v) (fun p => [cown (OwnS 22 (OwnS 3 (roE rdInt))) p.2 p.1.v R]) := by
 refine Spec_enter (n := 20) Tryz.func99 rfl rfl (rs := [.tmp 2]) rfl rfl rfl ?_
 intro H0 F0
 unfold i_copyTuples at hF
 iterate 4 refine au ?_
 refine C_new rfl (N_buildSliceT (g := true) sl31.h ty22.h .nil (vs := []) rfl rfl rfl (by simp)) (fun k1 => ?_)
 refine Cv1 (.cons .h .nil) (own_lit (Ro := (OwnS 3 (roE rdInt))) (E := 22) (F := []) (xs := ([] : List (List Int))) MkL_nil rfl rfl) ?_
 iterate 8 refine au ?_
 refine CW_block (CW_loop (m := a_l.length) (fun m6 f' cs' => ∃ (g : Fr) (k8 : Nat) (rest9 : List (List Int)) (c2 : List (List Int)) (v3 : Sv) (F4 : List Nat), m6 = rest9.length ∧ f' = updL g [(3, v3.v), (7, v0_0.v), (8, (.int .i64 (a_l.length : Int))), (9, (.int .i64 (k8 : Int)))] ∧ List.drop k8 a_l = rest9 ∧ Ent cs' [cown (OwnS 22 (OwnS 3 (roE rdInt))) F4 v3.v c2, crd (RdS 22 (RdS 3 rdInt)) v0_0.v a_l] ∧ i_copyTuples_L1 rest9 k8 c2 = some R) ⟨_, 0, _, _, ⟨(some ⟨k1, 0, none⟩), 0, 1⟩, (k1 :: []), rfl, eqA, rfl, entA, hF⟩ ?_)
 clear hF
 rintro m6 _ _ ⟨g7, k8, rest9, c2, v3, F4, rfl, rfl, hd11, hE, hF⟩
 refine K_ent hE ?_
 clear hE
 refine K_pure (c := crd (RdS 22 (RdS 3 rdInt)) v0_0.v a_l) (.t .h) crd_bound (fun hbd16 => ?_)
 rcases rest9 with _ | ⟨x10, rest9⟩
 · have hk12 := List.drop_eq_nil_iff.1 hd11
   rw [i_copyTuples_L1] at hF
   iterate 4 refine au ?_
   refine CdF ?_
   iterate 9 refine au ?_
   cases hF
   exact Er (v3, F4)
 obtain ⟨hk12, hx13, hd14⟩ := drop_cons hd11
 rw [i_copyTuples_L1] at hF
 iterate 4 refine au ?_
 refine CdT ?_
 iterate 3 refine au ?_
 refine Ai hx13 (fun k17 j18 => ?_)
 refine C_ldV (R' := (RdS 3 rdInt)) ag22.h (.tmp rfl rfl) .h lv22_0 (fun w19 => ?_)
 iterate 5 refine au ?_
 obtain ⟨r20, hx21, hF⟩ := bind_some hF
 refine Cx1 (g_slices_Clone_int_int_ok _ _ _ hx21) (fun p22 => ?_)
 refine C_new rfl (N_buildSliceT (g := true) sl31.h ty22.h (.cons (.tmp rfl rfl) .nil) (vs := [p22.1.v]) rfl rfl rfl (by intro v hv; simp at hv; rcases hv with rfl <;> rfl)) (fun k23 => ?_)
 refine Cv1 (.cons .h (.cons .h .nil)) (own_lit (Ro := (OwnS 3 (roE rdInt))) (E := 22) (F := (p22.2 ++ [])) (xs := ([r20] : List (List Int))) (MkL_cons Mk_own MkL_nil apps) rfl rfl) ?_
 obtain ⟨z24, hx25, hF⟩ := bind_some hF
 refine C_x1 (.cons (.t (.t (.t .h))) (.cons .h .nil)) (X_appendO (Ro := (OwnS 3 (roE rdInt))) sl31.h ni31 ty22.h rfl rfl rfl (.tmp rfl rfl) (.tmp rfl rfl) hx25 src_own) (fun p26 => ?_)
 iterate 6 refine au ?_
 rw [wk k8]
 exact ⟨_, Nat.lt_succ_self _, _, k8 + 1, rest9, _, p26.1, p26.2, rfl, eqA, hd14, entA, hF⟩
def i_without_1 (a_t : List Int) (a_e1 : List (List Int)) : Option (Bool) :=
 (i_hasTuple a_e1 a_t).bind fun r1 =>
 some r1
theorem i_without_1_ok (a_t : List Int) (v0_0 : Sv) (kc1 : Nat) (a_e1 : List (List Int)) (vc1_0 : Sv) (R : Bool) (hF : i_without_1 a_t a_e1 = some R) :
   Fw.Spec Tryz.prog 100 [v0_0.v, (.pointer (some ⟨kc1, 0, some 0⟩))] [crd (RdS 3 rdInt) v0_0.v a_t, cboR kc1 31 vc1_0.v, crd (RdS 22 (RdS 3 rdInt)) vc1_0.v a_e1] (fun _ : Unit => (.bool R)) (fun _ => []) := by
 refine Spec_enter (n := 7) Tryz.func100 rfl rfl (rs := [.tmp 3]) rfl rfl rfl ?_
 intro H0 F0
 unfold i_without_1 at hF
 iterate 6 refine au ?_
 obtain ⟨r1, hx2, hF⟩ := bind_some hF
 refine Cx0 (i_hasTuple_ok _ _ _ _ _ hx2) (fun _ => ?_)
 iterate 3 refine au ?_
 cases hF
 exact Er ()
def g_slices_IndexFunc_int_int_iwithout1_L1 (a_e1 : List (List Int)) : List (List Int) → Nat → Option (Int)
 | [], k4 => some (-1)
 | x6 :: rest5, k4 => (i_without_1 x6 a_e1).bind fun r16 =>
   if r16 then (
     some (k4 : Int))
   else (
     g_slices_IndexFunc_int_int_iwithout1_L1 a_e1 rest5 (k4 + 1))
def g_slices_IndexFunc_int_int_iwithout1 (a_s : List (List Int)) (a_e1 : List (List Int)) : Option (Int) :=
 g_slices_IndexFunc_int_int_iwithout1_L1 a_e1 a_s 0
theorem g_slices_IndexFunc_int_int_iwithout1_ok (a_s : List (List Int)) (v0_0 : Sv) (kc1 : Nat) (a_e1 : List (List Int)) (vc1_0 : Sv) (R : Int) (hF : g_slices_IndexFunc_int_int_iwithout1 a_s a_e1 = some R) :
   Fw.Spec Tryz.prog 137 [v0_0.v, (.func (.func 100) [].toArray [(.pointer (some ⟨kc1, 0, some 0⟩))].toArray)] [crd (RdS 22 (RdS 3 rdInt)) v0_0.v a_s, cboR kc1 31 vc1_0.v, crd (RdS 22 (RdS 3 rdInt)) vc1_0.v a_e1] (fun _ : Unit => (.int .i64 R)) (fun _ => []) := by
 refine Spec_enter (n := 19) Tryz.func137 rfl rfl (rs := [.tmp 4]) rfl rfl rfl ?_
 intro H0 F0
 unfold g_slices_IndexFunc_int_int_iwithout1 at hF
 iterate 9 refine au ?_
 refine CW_block (CW_loop (m := a_s.length) (fun m2 f' cs' => ∃ (g : Fr) (k4 : Nat) (rest5 : List (List Int)), m2 = rest5.length ∧ f' = updL g [(0, v0_0.v), (1, (.func (.func 100) [].toArray [(.pointer (some ⟨kc1, 0, some 0⟩))].toArray)), (7, (.int .i64 (a_s.length : Int))), (8, (.int .i64 (k4 : Int)))] ∧ List.drop k4 a_s = rest5 ∧ Ent cs' [crd (RdS 22 (RdS 3 rdInt)) v0_0.v a_s, cboR kc1 31 vc1_0.v, crd (RdS 22 (RdS 3 rdInt)) vc1_0.v a_e1] ∧ g_slices_IndexFunc_int_int_iwithout1_L1 a_e1 rest5 k4 = some R) ⟨_, 0, _, rfl, eqA, rfl, entA, hF⟩ ?_)
 clear hF
 rintro m2 _ _ ⟨g3, k4, rest5, rfl, rfl, hd7, hE, hF⟩
 refine K_ent hE ?_
 clear hE
 refine K_pure (c := crd (RdS 22 (RdS 3 rdInt)) v0_0.v a_s) .h crd_bound (fun hbd12 => ?_)
 rcases rest5 with _ | ⟨x6, rest5⟩
 · have hk8 := List.drop_eq_nil_iff.1 hd7
   rw [g_slices_IndexFunc_int_int_iwithout1_L1] at hF
   iterate 4 refine au ?_
   refine CdF ?_
   iterate 8 refine au ?_
   cases hF
   exact Er ()
 obtain ⟨hk8, hx9, hd10⟩ := drop_cons hd7
 rw [g_slices_IndexFunc_int_int_iwithout1_L1] at hF
 iterate 4 refine au ?_
 refine CdT ?_
 iterate 10 refine au ?_
 refine Ai hx9 (fun k13 j14 => ?_)
 refine C_ldV (R' := (RdS 3 rdInt)) ag22.h (.tmp rfl rfl) .h lv22_0 (fun w15 => ?_)
 obtain ⟨r16, hx17, hF⟩ := bind_some hF
 refine C_x0 (.rd .h rfl (.rd (.t (.t (.t .h))) rfl (.rd (.t (.t (.t (.t .h)))) rfl .nil))) (X_callCS cf100.h (.tmp rfl rfl) (.cons (.tmp rfl rfl) .nil) (i_without_1_ok x6 w15 kc1 a_e1 vc1_0 _ hx17)) (fun _ => ?_)
 refine au ?_
 refine Cc (fun hb20 => ?_) (fun hb20 => ?_)
 · rw [if_pos hb20] at hF
   iterate 5 refine au ?_
   cases hF
   exact Er ()
 rw [if_neg (nt hb20)] at hF
 iterate 5 refine au ?_
 rw [wk k4]
 exact ⟨_, Nat.lt_succ_self _, _, k4 + 1, rest5, rfl, eqA, hd10, entA, hF⟩
end Go.Proofs.YtlfebfhfgfjceabGreat
