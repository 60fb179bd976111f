/-
  Functions of the program as Lean functions, and that the calls return what these say: part 2. No conditions.
-/
import Derived.Shelf.Sort.Plain
import Derived.Shelf.Slices.In.SortNone
import Derived.Shelf.Slices.CompactI
import Derived.Test.YtlfebfhfgfjceacGreatCertificateForG0
import Derived.KernelRfl
set_option maxRecDepth 100000
set_option maxHeartbeats 1000000
set_option linter.unusedVariables false
namespace Go.Proofs.YtlfebfhfgfjceacGreat
open Go Go.Fw

def s_MatchAtom_L1 (a_f : Fact) : List Int → Nat → (List Int) → (List Int) → Option (Binding × Bool)
 | [], k80, c71, c74 => some (({ Vars := c71, Values := c74 } : Binding), true)
 | x82 :: rest81, k80, c71, c74 => (((s_ValueOf ({ Vars := c71, Values := c74 } : Binding) x82).bind fun r93 =>
     ((s_IsVar x82).bind fun r100 =>
       bif r100 then ((s_l4Bound ({ Vars := c71, Values := c74 } : Binding) x82).bind fun r106 =>
         some (!r106))
       else (some false)).bind fun o96 =>
     match o96 with
     | c109 => if c109 then (
         (ix a_f.Values (k80 : Int)).bind fun x112 =>
         (s_l4Bind ({ Vars := c71, Values := c74 } : Binding) x82 x112).bind fun r118 =>
         some (.inr (r118.Vars, r118.Values)))
       else (
         (ix a_f.Values (k80 : Int)).bind fun x121 =>
         if ((r93 : Int) != x121) then (
           some (.inl (({ Vars := [], Values := [] } : Binding), false)))
         else (
           some (.inr (c71, c74))))) : Option (Sum (Binding × Bool) ((List Int) × (List Int)))).bind fun o89 =>
   match o89 with
   | .inl r => some r
   | .inr (c130, c133) => s_MatchAtom_L1 a_f rest81 (k80 + 1) c130 c133
def s_MatchAtom (a_b : Binding) (a_a : Atom) (a_f : Fact) : Option (Binding × Bool) :=
 (s_l4Copy a_b).bind fun r5 =>
 if (((a_a.Rel : Int) != a_f.Rel) || ((((a_a.Terms.length : Int) : Int) != (a_f.Values.length : Int)) || (((a_b.Vars.length : Int) : Int) != (a_b.Values.length : Int)))) then (
   some (({ Vars := [], Values := [] } : Binding), false))
 else (
   s_MatchAtom_L1 a_f a_a.Terms 0 r5.Vars r5.Values)
theorem s_MatchAtom_ok (a_b : Binding) (v0_0 : Sv) (v0_1 : Sv) (a_a : Atom) (v1_1 : Sv) (a_f : Fact) (v2_1 : Sv) (R : Binding × Bool) (hF : s_MatchAtom a_b a_a a_f = some R) :
   Fw.Spec Tryz.prog 189 [(.agg [v0_0.v, v0_1.v].toArray), (.agg [(.int .i64 a_a.Rel), v1_1.v].toArray), (.agg [(.int .i64 a_f.Rel), v2_1.v].toArray)] [crd (RdS 3 rdInt) v0_0.v a_b.Vars, crd (RdS 3 rdInt) v0_1.v a_b.Values, crd (RdS 3 rdInt) v1_1.v a_a.Terms, crd (RdS 3 rdInt) v2_1.v a_f.Values] (fun p : Sv × List Nat × Sv × List Nat => (.tuple [(.agg [p.1.v, p.2.2.1.v].toArray), (.bool R.2)].toArray)) (fun p => [cown (OwnS 3 (roE rdInt)) p.2.1 p.1.v R.1.Vars, cown (OwnS 3 (roE rdInt)) p.2.2.2 p.2.2.1.v R.1.Values]) := by
 refine Se 88 Tryz.func189 [.cell 6 56, .tmp 7] ?_
 intro H0 F0
 unfold s_MatchAtom at hF
 refine au ?_
 refine AbR (fun k1 => ?_)
 refine AbR (fun k2 => ?_)
 refine AbR (fun k3 => ?_)
 refine AnW (fun k4 => ?_)
 iterate 4 refine au ?_
 refine bnd hF fun r5 hx6 hF => Cx2 (s_l4Copy_ok _ _ _ _ hx6) (fun p7 => ?_)
 refine AnW (fun k8 => ?_)
 refine As (.agg [p7.1.v, p7.2.2.1.v].toArray) ?_
 iterate 3 refine au ?_
 refine C_cut (fun f' cs' => ∃ (g : Fr), f' = updL g [(4, (pz k2)), (5, (pz k3)), (6, (pz k4)), (8, (pz k8)), (35, (.bool (((a_a.Rel : Int) != a_f.Rel) || ((((a_a.Terms.length : Int) : Int) != (a_f.Values.length : Int)) || (((a_b.Vars.length : Int) : Int) != (a_b.Values.length : Int))))))] ∧ Ent cs' [cboR k2 84 (.agg [(.int .i64 a_a.Rel), v1_1.v].toArray), crd (RdS 3 rdInt) v1_1.v a_a.Terms, cboR k3 86 (.agg [(.int .i64 a_f.Rel), v2_1.v].toArray), crd (RdS 3 rdInt) v2_1.v a_f.Values, cbox k4 56 (.agg [(.slice none 0 0), (.slice none 0 0)].toArray), cbox k8 56 (.agg [p7.1.v, p7.2.2.1.v].toArray), cown (OwnS 3 (roE rdInt)) p7.2.1 p7.1.v r5.Vars, cown (OwnS 3 (roE rdInt)) p7.2.2.2 p7.2.2.1.v r5.Values]) ?_ ?_
 · iterate 6 refine au ?_
   rcases Bool.eq_false_or_eq_true ((a_a.Rel : Int) != a_f.Rel) with hg9 | hg9
   · rw [hg9]
     try rw [hg9] at hF; dsimp only [cond_true, cond_false] at hF
     iterate 18 refine au ?_
     exact ⟨_, eqA, entA⟩
   rw [hg9]
   try rw [hg9] at hF; dsimp only [cond_true, cond_false] at hF
   iterate 16 refine au ?_
   rcases Bool.eq_false_or_eq_true (((a_a.Terms.length : Int) : Int) != (a_f.Values.length : Int)) with hg10 | hg10
   · rw [hg10]
     try rw [hg10] at hF; dsimp only [cond_true, cond_false] at hF
     iterate 9 refine au ?_
     exact ⟨_, eqA, entA⟩
   rw [hg10]
   try rw [hg10] at hF; dsimp only [cond_true, cond_false] at hF
   iterate 16 refine au ?_
   exact ⟨_, eqA, entA⟩
 rintro _ _ ⟨g11, rfl, hE⟩
 refine K_ent hE ?_
 refine Ci hF (fun hb138 hF => ?_) (fun hb138 hF => ?_)
 · refine au ?_
   refine C_val (V_build ty56.h rfl (vs := []) .nil (cells := [(.slice none 0 0), (.slice none 0 0)]) rfl) ?_
   refine As (.agg [(.slice none 0 0), (.slice none 0 0)].toArray) ?_
   iterate 3 refine au ?_
   cases hF
   exact End_ret (⟨none, 0, 0⟩, [], ⟨none, 0, 0⟩, []) (.cellA rfl rfl .h rfl ag56.h ty56.h.sz rfl rfl (.tmp rfl rfl .nil)) rfl (.conv .nil (own_nil (Ro := (roE rdInt)) (E := 3)) (.cons .nil) (.conv .nil (own_nil (Ro := (roE rdInt)) (E := 3)) (.cons .nil) (.sel (.cons (.t .h) (.cons .h .nil)))))
 iterate 5 refine au ?_
 refine CW_block (CW_loop (m := a_a.Terms.length) (fun m78 f' cs' => ∃ (g : Fr) (k80 : Nat) (rest81 : List Int) (c71 : List Int) (c74 : List Int) (v72 : Sv) (F73 : List Nat) (v75 : Sv) (F76 : List Nat), m78 = rest81.length ∧ f' = updL g [(4, (pz k2)), (5, (pz k3)), (6, (pz k4)), (8, (pz k8)), (9, (.int .i64 (k80 : Int)))] ∧ List.drop k80 a_a.Terms = rest81 ∧ Ent cs' [cboR k2 84 (.agg [(.int .i64 a_a.Rel), v1_1.v].toArray), crd (RdS 3 rdInt) v1_1.v a_a.Terms, cboR k3 86 (.agg [(.int .i64 a_f.Rel), v2_1.v].toArray), crd (RdS 3 rdInt) v2_1.v a_f.Values, cbox k4 56 (.agg [(.slice none 0 0), (.slice none 0 0)].toArray), cbox k8 56 (.agg [v72.v, v75.v].toArray), cown (OwnS 3 (roE rdInt)) F73 v72.v c71, cown (OwnS 3 (roE rdInt)) F76 v75.v c74] ∧ s_MatchAtom_L1 a_f rest81 k80 c71 c74 = some R) ⟨_, 0, _, _, _, p7.1, p7.2.1, p7.2.2.1, p7.2.2.2, rfl, eqA, rfl, entA, hF⟩ ?_)
 rintro m78 _ _ ⟨g79, k80, rest81, c71, c74, v72, F73, v75, F76, rfl, rfl, hd83, hE, hF⟩
 refine Kb hE a_a.Terms (fun hbd88 => ?_)
 rcases rest81 with _ | ⟨x82, rest81⟩
 · have hk84 := dn hd83
   rw [s_MatchAtom_L1] at hF
   iterate 8 refine au ?_
   refine CdF ?_
   iterate 6 refine au ?_
   refine As (.agg [v72.v, v75.v].toArray) ?_
   iterate 3 refine au ?_
   cases hF
   exact End_ret (v72, F73, v75, F76) (.cellA rfl rfl .h rfl ag56.h ty56.h.sz rfl rfl (.tmp rfl rfl .nil)) rfl (.sel (.cons (.t (.t (.t (.t (.t (.t .h)))))) (.cons (.t (.t (.t (.t (.t (.t .h)))))) .nil)))
 obtain ⟨hk84, hx85, hd86⟩ := drop_cons hd83
 rw [s_MatchAtom_L1] at hF
 iterate 8 refine au ?_
 refine CdT ?_
 refine au ?_
 obtain ⟨o89, hio89, hO90⟩ := bind_some hF
 refine K_cut (fun f' cs' => ∃ (c130 : List Int) (c133 : List Int) (v131 : Sv) (F132 : List Nat) (v134 : Sv) (F135 : List Nat) (g : Fr), o89 = .inr (c130, c133) ∧ f' = updL g [(4, (pz k2)), (5, (pz k3)), (6, (pz k4)), (8, (pz k8)), (9, (.int .i64 (k80 : Int)))] ∧ Ent cs' [cboR k2 84 (.agg [(.int .i64 a_a.Rel), v1_1.v].toArray), crd (RdS 3 rdInt) v1_1.v a_a.Terms, cboR k3 86 (.agg [(.int .i64 a_f.Rel), v2_1.v].toArray), crd (RdS 3 rdInt) v2_1.v a_f.Values, cbox k4 56 (.agg [(.slice none 0 0), (.slice none 0 0)].toArray), cbox k8 56 (.agg [v131.v, v134.v].toArray), cown (OwnS 3 (roE rdInt)) F132 v131.v c130, cown (OwnS 3 (roE rdInt)) F135 v134.v c133]) ?_ ?_
 · replace hF := hio89
   refine CW_block (K_draw [0, 1, 2, 3, 4, 5, 6, 7] [0, 0, 2, 0, 14, 30, 63, 127] [6] mixed (by decide +kernel) ?_)
   refine D_atO rfl .no (.t (.t (.t (.t (.t .h))))) (fun ha hp => V_loadBox ag56.h ty56.h.sz rfl (EN ha (.tmp rfl rfl) rfl) hp.2 rfl) ?_
   iterate 3 refine du ?_
   refine Di hx85 (fun k91 j92 => ?_)
   refine Dl ls3_0 ?_
   refine bnd hF fun r93 hx94 hF => D_act2 rfl rfl .no (.cons (.t (.t (.t (.t (.t (.t (.t (.t .h)))))))) (.cons (.t (.t (.t (.t (.t (.t (.t .h))))))) .nil)) (.dep rfl .nil) (fun ha => XC_borL (pre := []) (.cons frz_own (.cons frz_own .nil)) (fun _ => .nil) (X_callS cf52.h (.cons (EN ha (.tmp rfl rfl) rfl) (.cons (EN ha (.tmp rfl rfl) rfl) .nil)) (s_ValueOf_ok ({ Vars := c71, Values := c74 } : Binding) v72 v75 x82 _ hx94))) (fun _ => ?_)
   iterate 2 refine du ?_
   obtain ⟨o96, hio96, hO97⟩ := bind_some hF
   refine K_draw [0, 1, 2, 3, 4, 5, 6, 7, 8, 9, 10, 11, 12, 13, 14, 15] [0, 1, 0, 7, 15, 31, 63, 127, 127, 383, 127, 1919, 3967, 8191, 16383, 32767] [5, 13] mixed (by decide +kernel) ?_
   refine D_cut (fun f' cs' => ∃ (c109 : Bool) (g : Fr), c109 = o96 ∧ f' = updL g [(4, (pz k2)), (5, (pz k3)), (6, (pz k4)), (8, (pz k8)), (9, (.int .i64 (k80 : Int))), (10, (.int .i64 r93)), (66, (.bool c109))] ∧ Ent cs' [cboR k2 84 (.agg [(.int .i64 a_a.Rel), v1_1.v].toArray), crd (RdS 3 rdInt) v1_1.v a_a.Terms, cboR k3 86 (.agg [(.int .i64 a_f.Rel), v2_1.v].toArray), crd (RdS 3 rdInt) v2_1.v a_f.Values, cbox k4 56 (.agg [(.slice none 0 0), (.slice none 0 0)].toArray), cbox k8 56 (.agg [v72.v, v75.v].toArray), cown (OwnS 3 (roE rdInt)) F73 v72.v c71, cown (OwnS 3 (roE rdInt)) F76 v75.v c74]) ?_ ?_
   · replace hF := hio96
     iterate 3 refine du ?_
     refine Di hx85 (fun k98 j99 => ?_)
     refine Dl ls3_0 ?_
     refine bnd hF fun r100 hx101 hF => Dx0 (s_IsVar_ok _ _ hx101) (fun _ => ?_)
     refine du ?_
     rcases Bool.eq_false_or_eq_true r100 with hg103 | hg103
     · rw [hg103]
       try rw [hg103] at hF; dsimp only [cond_true, cond_false] at hF
       refine D_atO rfl (.on 57 rfl rfl rfl) (.t (.t (.t (.t (.t (.t (.t (.t (.t .h))))))))) (fun ha hp => V_loadBox ag56.h ty56.h.sz rfl (EN ha (.tmp rfl rfl) rfl) hp.2 rfl) ?_
       iterate 3 refine du ?_
       refine Di hx85 (fun k104 j105 => ?_)
       refine Dl ls3_0 ?_
       refine bnd hF fun r106 hx107 hF => D_act2 rfl rfl (.on 57 rfl rfl rfl) (.cons (.t (.t .h)) (.cons (.t (.t .h)) .nil)) (.dep rfl .nil) (fun ha => XC_borL (pre := []) (.cons frz_own (.cons frz_own .nil)) (fun _ => .nil) (X_callS cf203.h (.cons (EN ha (.tmp rfl rfl) rfl) (.cons (EN ha (.tmp rfl rfl) rfl) .nil)) (s_l4Bound_ok ({ Vars := c71, Values := c74 } : Binding) v72 v75 x82 _ hx107))) (fun _ => ?_)
       iterate 3 refine du ?_
       cases hF
       exact ⟨_, _, rfl, eqA, entA⟩
     rw [hg103]
     try rw [hg103] at hF; dsimp only [cond_true, cond_false] at hF
     iterate 10 refine du ?_
     cases hF
     exact ⟨_, _, rfl, eqA, entA⟩
   rintro _ _ ⟨c109, g129, rfl, rfl, hE⟩
   replace hF := hO97
   try dsimp only at hF
   refine K_ent hE ?_
   refine Ci hF (fun hb128 hF => ?_) (fun hb128 hF => ?_)
   · refine CW_draw [0, 1, 2, 3, 4, 5, 6, 7, 8, 9, 10, 11, 12] [0, 0, 2, 0, 14, 30, 0, 64, 0, 448, 960, 2047, 4095] [11, 12] mixed (by decide +kernel) ?_
     refine D_atO rfl .no (.t (.t (.t (.t (.t .h))))) (fun ha hp => V_loadBox ag56.h ty56.h.sz rfl (EN ha (.tmp rfl rfl) rfl) hp.2 rfl) ?_
     iterate 3 refine du ?_
     refine Di hx85 (fun k110 j111 => ?_)
     refine Dl ls3_0 ?_
     iterate 3 refine du ?_
     refine bnd hF fun x112 hx113 hF => ?_
     obtain ⟨hp114, hx115⟩ := ix_some hx113
     refine Di hx115 (fun k116 j117 => ?_)
     refine Dl ls3_0 ?_
     refine bnd hF fun r118 hx119 hF => D_act4 rfl rfl .no (.cons (.t (.t (.t (.t (.t (.t (.t (.t (.t .h))))))))) (.cons (.t (.t (.t (.t (.t (.t (.t (.t .h)))))))) .nil)) (.dep rfl .nil) (fun ha => XC_borL (pre := []) (.cons frz_own (.cons frz_own .nil)) (fun _ => (.cons (.cons .nil))) (X_callS cf51.h (.cons (EN ha (.tmp rfl rfl) rfl) (.cons (EN ha (.tmp rfl rfl) rfl) (.cons (EN ha (.tmp rfl rfl) rfl) .nil))) (s_l4Bind_ok ({ Vars := c71, Values := c74 } : Binding) v72 v75 x82 x112 _ hx119))) (fun p120 => ?_)
     refine D_act1 rfl rfl .no (.cons (.t (.t (.t (.t (.t (.t (.t (.t (.t (.t (.t .h))))))))))) .nil) (.dep rfl .nil) (fun ha => X_storeB (e' := (.agg [p120.1.v, p120.2.2.1.v].toArray)) (v := (.agg [p120.1.v, p120.2.2.1.v].toArray)) ty56.h.sz (EN ha (.tmp rfl rfl) rfl) (EN ha (.tmp rfl rfl) rfl) rfl rfl rfl rfl rfl) (fun _ => ?_)
     refine du ?_
     cases hF
     exact ⟨_, _, p120.1, p120.2.1, p120.2.2.1, p120.2.2.2, _, rfl, eqA, entA⟩
   iterate 5 refine au ?_
   refine bnd hF fun x121 hx122 hF => ?_
   obtain ⟨hp123, hx124⟩ := ix_some hx122
   refine Ai hx124 (fun k125 j126 => ?_)
   refine Al ls3_0 ?_
   iterate 2 refine au ?_
   refine Ci hF (fun hb127 hF => ?_) (fun hb127 hF => ?_)
   · refine au ?_
     refine C_val (V_build ty56.h rfl (vs := []) .nil (cells := [(.slice none 0 0), (.slice none 0 0)]) rfl) ?_
     refine As (.agg [(.slice none 0 0), (.slice none 0 0)].toArray) ?_
     iterate 3 refine au ?_
     cases hF
     replace hF := hO90
     try dsimp only at hF
     cases hF
     exact End_ret (⟨none, 0, 0⟩, [], ⟨none, 0, 0⟩, []) (.cellA rfl rfl .h rfl ag56.h ty56.h.sz rfl rfl (.tmp rfl rfl .nil)) rfl (.conv .nil (own_nil (Ro := (roE rdInt)) (E := 3)) (.cons .nil) (.conv .nil (own_nil (Ro := (roE rdInt)) (E := 3)) (.cons .nil) (.sel (.cons (.t .h) (.cons .h .nil)))))
   refine au ?_
   cases hF
   exact ⟨_, _, v72, F73, v75, F76, _, rfl, eqA, entA⟩
 rintro _ _ ⟨c130, c133, v131, F132, v134, F135, g137, rfl, rfl, hE⟩
 replace hF := hO90
 try dsimp only at hF
 refine K_ent hE ?_
 iterate 5 refine au ?_
 rw [wk k80]
 exact ⟨_, Nat.lt_succ_self _, _, k80 + 1, rest81, _, _, v131, F132, v134, F135, rfl, eqA, hd86, entA, hF⟩
def s_l4Extend_L2 (a_a : Atom) (x11 : Binding) : List Fact → Nat → (List Binding) → Option ((List Binding))
 | [], k26, c20 => some c20
 | x28 :: rest27, k26, c20 => ((s_MatchAtom x11 a_a x28).bind fun r44 =>
     if r44.2 then (
       (app c20 ([r44.1] : List Binding)).bind fun z48 =>
       some z48)
     else (
       some c20)).bind fun o35 =>
   match o35 with
   | c52 => s_l4Extend_L2 a_a x11 rest27 (k26 + 1) c52
def s_l4Extend_L1 (a_a : Atom) (a_facts : List Fact) : List Binding → Nat → (List Binding) → Option ((List Binding))
 | [], k9, c3 => some c3
 | x11 :: rest10, k9, c3 => (s_l4Extend_L2 a_a x11 a_facts 0 c3).bind fun o18 =>
   match o18 with
   | c57 => s_l4Extend_L1 a_a a_facts rest10 (k9 + 1) c57
def s_l4Extend (a_l : List Binding) (a_a : Atom) (a_facts : List Fact) : Option ((List Binding)) :=
 s_l4Extend_L1 a_a a_facts a_l 0 ([] : List Binding)
theorem s_l4Extend_ok (a_l : List Binding) (v0_0 : Sv) (a_a : Atom) (v1_1 : Sv) (a_facts : List Fact) (v2_0 : Sv) (R : (List Binding)) (hF : s_l4Extend a_l a_a a_facts = some R) :
   Fw.Spec Tryz.prog 153 [v0_0.v, (.agg [(.int .i64 a_a.Rel), v1_1.v].toArray), v2_0.v] [crd (RdS 56 rd56) v0_0.v a_l, crd (RdS 3 rdInt) v1_1.v a_a.Terms, crd (RdS 86 rd86) v2_0.v a_facts] (fun p : Sv × List Nat => p.1.v) (fun p => [cown (OwnS 56 ow56) p.2 p.1.v R]) := by
 refine Se 44 Tryz.func153 [.tmp 6] ?_
 intro H0 F0
 unfold s_l4Extend at hF
 refine au ?_
 refine AbR (fun k1 => ?_)
 iterate 3 refine au ?_
 refine C_new rfl (N_buildSliceT (g := true) sl138.h ty56.h .nil (vs := []) rfl rfl rfl (by simp)) (fun k2 => ?_)
 refine Cv1 (.cons .h .nil) (own_lit (Ro := ow56) (E := 56) (F := []) (xs := ([] : List Binding)) MkL_nil rfl rfl) ?_
 iterate 6 refine au ?_
 refine CW_block (CW_loop (m := a_l.length) (fun m7 f' cs' => ∃ (g : Fr) (k9 : Nat) (rest10 : List Binding) (c3 : List Binding) (v4 : Sv) (F5 : List Nat), m7 = rest10.length ∧ f' = updL g [(0, v0_0.v), (2, v2_0.v), (4, (pz k1)), (7, v4.v), (8, (.int .i64 (k9 : Int)))] ∧ List.drop k9 a_l = rest10 ∧ Ent cs' [crd (RdS 56 rd56) v0_0.v a_l, crd (RdS 86 rd86) v2_0.v a_facts, cboR k1 84 (.agg [(.int .i64 a_a.Rel), v1_1.v].toArray), crd (RdS 3 rdInt) v1_1.v a_a.Terms, cown (OwnS 56 ow56) F5 v4.v c3] ∧ s_l4Extend_L1 a_a a_facts rest10 k9 c3 = some R) ⟨_, 0, _, _, ⟨(some ⟨k2, 0, none⟩), 0, 1⟩, (k2 :: []), rfl, eqA, rfl, entA, hF⟩ ?_)
 rintro m7 _ _ ⟨g8, k9, rest10, c3, v4, F5, rfl, rfl, hd12, hE, hF⟩
 refine Kb hE a_l (fun hbd17 => ?_)
 rcases rest10 with _ | ⟨x11, rest10⟩
 · have hk13 := dn hd12
   rw [s_l4Extend_L1] at hF
   iterate 7 refine au ?_
   refine CdF ?_
   iterate 9 refine au ?_
   cases hF
   exact Er (v4, F5)
 obtain ⟨hk13, hx14, hd15⟩ := drop_cons hd12
 rw [s_l4Extend_L1] at hF
 iterate 7 refine au ?_
 refine CdT ?_
 refine au ?_
 obtain ⟨o18, hio18, hO19⟩ := bind_some hF
 refine K_cut (fun f' cs' => ∃ (c57 : List Binding) (v58 : Sv) (F59 : List Nat) (g : Fr), c57 = o18 ∧ f' = updL g [(0, v0_0.v), (2, v2_0.v), (4, (pz k1)), (7, v58.v), (8, (.int .i64 (k9 : Int)))] ∧ Ent cs' [crd (RdS 56 rd56) v0_0.v a_l, crd (RdS 86 rd86) v2_0.v a_facts, cboR k1 84 (.agg [(.int .i64 a_a.Rel), v1_1.v].toArray), crd (RdS 3 rdInt) v1_1.v a_a.Terms, cown (OwnS 56 ow56) F59 v58.v c57]) ?_ ?_
 · replace hF := hio18
   refine CW_block (K_region (C_val (V_assign (v := (.int .i64 0)) (.int _ _)) ?_))
   refine au ?_
   refine CW_block (CW_loop (m := a_facts.length) (fun m24 f' cs' => ∃ (g : Fr) (k26 : Nat) (rest27 : List Fact) (c20 : List Binding) (v21 : Sv) (F22 : List Nat), m24 = rest27.length ∧ f' = updL g [(0, v0_0.v), (2, v2_0.v), (4, (pz k1)), (7, v21.v), (8, (.int .i64 (k9 : Int))), (9, (.int .i64 (k26 : Int)))] ∧ List.drop k26 a_facts = rest27 ∧ Ent cs' [crd (RdS 56 rd56) v0_0.v a_l, crd (RdS 86 rd86) v2_0.v a_facts, cboR k1 84 (.agg [(.int .i64 a_a.Rel), v1_1.v].toArray), crd (RdS 3 rdInt) v1_1.v a_a.Terms, cown (OwnS 56 ow56) F22 v21.v c20] ∧ s_l4Extend_L2 a_a x11 rest27 k26 c20 = some o18) ⟨_, 0, _, _, v4, F5, rfl, eqA, rfl, entA, hF⟩ ?_)
   rintro m24 _ _ ⟨g25, k26, rest27, c20, v21, F22, rfl, rfl, hd29, hE, hF⟩
   refine Kb hE a_facts (fun hbd34 => ?_)
   rcases rest27 with _ | ⟨x28, rest27⟩
   · have hk30 := dn hd29
     rw [s_l4Extend_L2] at hF
     iterate 7 refine au ?_
     refine CdF ?_
     iterate 4 refine au ?_
     cases hF
     exact ⟨_, v21, F22, _, rfl, eqA, entA⟩
   obtain ⟨hk30, hx31, hd32⟩ := drop_cons hd29
   rw [s_l4Extend_L2] at hF
   iterate 7 refine au ?_
   refine CdT ?_
   refine au ?_
   obtain ⟨o35, hio35, hO36⟩ := bind_some hF
   refine K_cut (fun f' cs' => ∃ (c52 : List Binding) (v53 : Sv) (F54 : List Nat) (g : Fr), c52 = o35 ∧ f' = updL g [(0, v0_0.v), (2, v2_0.v), (4, (pz k1)), (7, v53.v), (8, (.int .i64 (k9 : Int))), (9, (.int .i64 (k26 : Int)))] ∧ Ent cs' [crd (RdS 56 rd56) v0_0.v a_l, crd (RdS 86 rd86) v2_0.v a_facts, cboR k1 84 (.agg [(.int .i64 a_a.Rel), v1_1.v].toArray), crd (RdS 3 rdInt) v1_1.v a_a.Terms, cown (OwnS 56 ow56) F54 v53.v c52]) ?_ ?_
   · replace hF := hio35
     refine CW_block (K_draw [0, 1, 2, 3, 4, 5, 6, 7, 8, 13, 9, 10, 11, 12, 14, 15] [0, 0, 3, 7, 0, 0, 0, 96, 224, 511, 1023, 2047, 2047, 0, 12287, 32767] [9, 14] mixed (by decide +kernel) ?_)
     iterate 2 refine du ?_
     refine Di hx14 (fun k37 j38 => ?_)
     refine DlA2 (ul56_0_56 x11) la56_0_56 (fun p39 => ?_)
     iterate 3 refine du ?_
     refine Di hx31 (fun k40 j41 => ?_)
     refine DlA1 (ul86_0_86 x28) la86_0_86 (fun p42 => ?_)
     refine D_new rfl .no rfl (fun ha => N_allocT (g := true) ty56.h rfl rfl) (fun k43 => ?_)
     refine bnd hF fun r44 hx45 hF => D_act2 rfl rfl .no (.rd (.t (.t (.t .h))) rfl (.rd (.t (.t (.t (.t .h)))) rfl (.rd (.t (.t (.t (.t (.t (.t (.t (.t (.t .h))))))))) rfl (.rd (.t .h) rfl .nil)))) (.own .h (fun _ h => h) .nil) (fun ha => X_callS cf189.h (.cons (EN ha (.tmp rfl rfl) rfl) (.cons (EN ha (.tmp rfl rfl) rfl) (.cons (EN ha (.tmp rfl rfl) rfl) .nil))) (s_MatchAtom_ok x11 p39.1 p39.2 a_a v1_1 x28 p42 _ hx45)) (fun p46 => ?_)
     refine du ?_
     refine D_val rfl .no (fun ha => V_extract (l := [(.agg [p46.1.v, p46.2.2.1.v].toArray), (.bool r44.2)]) (v := (.agg [p46.1.v, p46.2.2.1.v].toArray)) (EN ha (.tmp rfl rfl) rfl) rfl) ?_
     refine D_val rfl .no (fun ha => V_extract (l := [(.agg [p46.1.v, p46.2.2.1.v].toArray), (.bool r44.2)]) (v := (.bool r44.2)) (EN ha (.tmp rfl rfl) rfl) rfl) ?_
     refine D_act1 rfl rfl .no (.cons (.t (.t .h)) .nil) (.dep rfl .nil) (fun ha => X_storeB (e' := (.agg [p46.1.v, p46.2.2.1.v].toArray)) (v := (.agg [p46.1.v, p46.2.2.1.v].toArray)) ty56.h.sz (EN ha (.tmp rfl rfl) rfl) (EN ha (.tmp rfl rfl) rfl) rfl rfl rfl rfl rfl) (fun _ => ?_)
     iterate 2 refine du ?_
     iterate 3 refine au ?_
     refine Ci hF (fun hb51 hF => ?_) (fun hb51 hF => ?_)
     · iterate 3 refine au ?_
       refine C_new rfl (N_buildSliceT (g := true) sl138.h ty56.h (.cons (.tmp rfl rfl) .nil) (vs := [(.agg [p46.1.v, p46.2.2.1.v].toArray)]) rfl rfl rfl (by intro v hv; simp at hv; rcases hv with rfl <;> rfl)) (fun k47 => ?_)
       refine Cv1 (.cons .h (.cons (.t .h) (.cons (.t .h) .nil))) (own_lit (Ro := ow56) (E := 56) (F := ((p46.2.1 ++ p46.2.2.2) ++ [])) (xs := ([r44.1] : List Binding)) (MkL_cons mk56 MkL_nil apps) rfl rfl) ?_
       refine bnd hF fun z48 hx49 hF => C_x1 (.cons (.t (.t (.t (.t (.t (.t (.t (.t (.t (.t (.t .h))))))))))) (.cons .h .nil)) (X_appendO (Ro := ow56) sl138.h ni138 ty56.h rfl rfl rfl (.tmp rfl rfl) (.tmp rfl rfl) hx49 src_own) (fun p50 => ?_)
       iterate 2 refine au ?_
       cases hF
       exact ⟨_, p50.1, p50.2, _, rfl, eqA, entA⟩
     refine au ?_
     cases hF
     exact ⟨_, v21, F22, _, rfl, eqA, entA⟩
   rintro _ _ ⟨c52, v53, F54, g56, rfl, rfl, hE⟩
   replace hF := hO36
   try dsimp only at hF
   refine K_ent hE ?_
   iterate 5 refine au ?_
   rw [wk k26]
   exact ⟨_, Nat.lt_succ_self _, _, k26 + 1, rest27, _, v53, F54, rfl, eqA, hd32, entA, hF⟩
 rintro _ _ ⟨c57, v58, F59, g61, rfl, rfl, hE⟩
 replace hF := hO19
 try dsimp only at hF
 refine K_ent hE ?_
 iterate 5 refine au ?_
 rw [wk k9]
 exact ⟨_, Nat.lt_succ_self _, _, k9 + 1, rest10, _, v58, F59, rfl, eqA, hd15, entA, hF⟩
def s_BindingsOf_L1 (a_facts : List Fact) : List Atom → Nat → (List Binding) → Option ((List Binding))
 | [], k9, c3 => some c3
 | x11 :: rest10, k9, c3 => (s_l4Extend c3 x11 a_facts).bind fun r21 =>
   s_BindingsOf_L1 a_facts rest10 (k9 + 1) r21
def s_BindingsOf (a_q : Query) (a_facts : List Fact) : Option ((List Binding)) :=
 s_BindingsOf_L1 a_facts a_q.Atoms 0 ([({ Vars := [], Values := [] } : Binding)] : List Binding)
theorem s_BindingsOf_ok (a_q : Query) (v0_0 : Sv) (v0_1 : Sv) (a_facts : List Fact) (v1_0 : Sv) (R : (List Binding)) (hF : s_BindingsOf a_q a_facts = some R) :
   Fw.Spec Tryz.prog 115 [(.agg [v0_0.v, v0_1.v].toArray), v1_0.v] [crd (RdS 3 rdInt) v0_0.v a_q.Head, crd (RdS 84 rd84) v0_1.v a_q.Atoms, crd (RdS 86 rd86) v1_0.v a_facts] (fun p : Sv × List Nat => p.1.v) (fun p => [cown (OwnS 56 ow56) p.2 p.1.v R]) := by
 refine Se 25 Tryz.func115 [.tmp 4] ?_
 intro H0 F0
 unfold s_BindingsOf at hF
 refine au ?_
 refine AbR (fun k1 => ?_)
 iterate 3 refine au ?_
 refine C_val (V_build ty56.h rfl (vs := []) .nil (cells := [(.slice none 0 0), (.slice none 0 0)]) rfl) ?_
 refine C_new rfl (N_buildSliceT (g := true) sl138.h ty56.h (.cons (.tmp rfl rfl) .nil) (vs := [(.agg [(.slice none 0 0), (.slice none 0 0)].toArray)]) rfl rfl rfl (by intro v hv; simp at hv; rcases hv with rfl <;> rfl)) (fun k2 => ?_)
 iterate 2 refine C_conv .nil (own_nil (Ro := (roE rdInt)) (E := 3)) apps ?_
 refine Cv1 (.cons (.t (.t .h)) (.cons (.t .h) (.cons .h .nil))) (own_lit (Ro := ow56) (E := 56) (F := (([] ++ []) ++ [])) (xs := ([({ Vars := [], Values := [] } : Binding)] : List Binding)) (MkL_cons (mk56 (v0 := ⟨none, 0, 0⟩) (v1 := ⟨none, 0, 0⟩) (a := ({ Vars := [], Values := [] } : Binding))) MkL_nil apps) rfl rfl) ?_
 iterate 6 refine au ?_
 refine CW_block (CW_loop (m := a_q.Atoms.length) (fun m7 f' cs' => ∃ (g : Fr) (k9 : Nat) (rest10 : List Atom) (c3 : List Binding) (v4 : Sv) (F5 : List Nat), m7 = rest10.length ∧ f' = updL g [(1, v1_0.v), (2, (pz k1)), (5, v4.v), (6, (.int .i64 (k9 : Int)))] ∧ List.drop k9 a_q.Atoms = rest10 ∧ Ent cs' [crd (RdS 86 rd86) v1_0.v a_facts, cboR k1 39 (.agg [v0_0.v, v0_1.v].toArray), crd (RdS 3 rdInt) v0_0.v a_q.Head, crd (RdS 84 rd84) v0_1.v a_q.Atoms, cown (OwnS 56 ow56) F5 v4.v c3] ∧ s_BindingsOf_L1 a_facts rest10 k9 c3 = some R) ⟨_, 0, _, _, ⟨(some ⟨k2, 0, none⟩), 1, 1⟩, (k2 :: (([] ++ []) ++ [])), rfl, eqA, rfl, entA, hF⟩ ?_)
 rintro m7 _ _ ⟨g8, k9, rest10, c3, v4, F5, rfl, rfl, hd12, hE, hF⟩
 refine Kb hE a_q.Atoms (fun hbd17 => ?_)
 rcases rest10 with _ | ⟨x11, rest10⟩
 · have hk13 := dn hd12
   rw [s_BindingsOf_L1] at hF
   iterate 8 refine au ?_
   refine CdF ?_
   iterate 9 refine au ?_
   cases hF
   exact Er (v4, F5)
 obtain ⟨hk13, hx14, hd15⟩ := drop_cons hd12
 rw [s_BindingsOf_L1] at hF
 iterate 8 refine au ?_
 refine CdT ?_
 iterate 7 refine au ?_
 refine Ai hx14 (fun k18 j19 => ?_)
 refine AlA1 (ul84_0_84 x11) la84_0_84 (fun p20 => ?_)
 refine au ?_
 refine bnd hF fun r21 hx22 hF => C_x2 (.cons (.t (.t (.t (.t (.t (.t .h)))))) (.rd .h rfl (.rd (.t (.t .h)) rfl .nil))) (XC_bor frz_own (fun _ => (.cons .nil)) (X_callS cf153.h (.cons (.tmp rfl rfl) (.cons (.tmp rfl rfl) (.cons (.tmp rfl rfl) .nil))) (s_l4Extend_ok c3 v4 x11 p20 a_facts v1_0 _ hx22))) (fun p23 => ?_)
 iterate 7 refine au ?_
 rw [wk k9]
 exact ⟨_, Nat.lt_succ_self _, _, k9 + 1, rest10, _, p23.1, p23.2, rfl, eqA, hd15, entA, hF⟩
def s_l2Ints_L1 (a_b : List Int) : List Int → Nat → Option (Bool)
 | [], k4 => some true
 | x6 :: rest5, k4 => (ix a_b (k4 : Int)).bind fun x15 =>
   if ((x6 : Int) != x15) then (
     some false)
   else (
     s_l2Ints_L1 a_b rest5 (k4 + 1))
def s_l2Ints (a_a : List Int) (a_b : List Int) : Option (Bool) :=
 if (((a_a.length : Int) : Int) != (a_b.length : Int)) then (
   some false)
 else (
   s_l2Ints_L1 a_b a_a 0)
theorem s_l2Ints_ok (a_a : List Int) (v0_0 : Sv) (a_b : List Int) (v1_0 : Sv) (R : Bool) (hF : s_l2Ints a_a a_b = some R) :
   Fw.Spec Tryz.prog 116 [v0_0.v, v1_0.v] [crd (RdS 3 rdInt) v0_0.v a_a, crd (RdS 3 rdInt) v1_0.v a_b] (fun _ : Unit => (.bool R)) (fun _ => []) := by
 refine Se 26 Tryz.func116 [.tmp 4] ?_
 intro H0 F0
 unfold s_l2Ints at hF
 iterate 11 refine au ?_
 refine Ci hF (fun hb23 hF => ?_) (fun hb23 hF => ?_)
 · iterate 4 refine au ?_
   cases hF
   exact Er ()
 iterate 5 refine au ?_
 refine CW_block (CW_loop (m := a_a.length) (fun m2 f' cs' => ∃ (g : Fr) (k4 : Nat) (rest5 : List Int), m2 = rest5.length ∧ f' = updL g [(0, v0_0.v), (1, v1_0.v), (5, (.int .i64 (k4 : Int)))] ∧ List.drop k4 a_a = rest5 ∧ Ent cs' [crd (RdS 3 rdInt) v0_0.v a_a, crd (RdS 3 rdInt) v1_0.v a_b] ∧ s_l2Ints_L1 a_b rest5 k4 = some R) ⟨_, 0, _, rfl, eqA, rfl, entA, hF⟩ ?_)
 rintro m2 _ _ ⟨g3, k4, rest5, rfl, rfl, hd7, hE, hF⟩
 refine Kb hE a_a (fun hbd12 => ?_)
 rcases rest5 with _ | ⟨x6, rest5⟩
 · have hk8 := dn hd7
   rw [s_l2Ints_L1] at hF
   iterate 7 refine au ?_
   refine CdF ?_
   iterate 8 refine au ?_
   cases hF
   exact Er ()
 obtain ⟨hk8, hx9, hd10⟩ := drop_cons hd7
 rw [s_l2Ints_L1] at hF
 iterate 7 refine au ?_
 refine CdT ?_
 iterate 2 refine au ?_
 refine K_draw [0, 1, 2, 3, 4, 5, 6, 7, 8] [0, 0, 3, 7, 0, 0, 48, 112, 255] [] mixed (by decide +kernel) ?_
 iterate 2 refine du ?_
 refine Di hx9 (fun k13 j14 => ?_)
 refine Dl ls3_0 ?_
 iterate 2 refine du ?_
 refine bnd hF fun x15 hx16 hF => ?_
 obtain ⟨hp17, hx18⟩ := ix_some hx16
 refine Di hx18 (fun k19 j20 => ?_)
 refine Dl ls3_0 ?_
 iterate 2 refine du ?_
 refine Ci hF (fun hb22 hF => ?_) (fun hb22 hF => ?_)
 · iterate 4 refine au ?_
   cases hF
   exact Er ()
 iterate 6 refine au ?_
 rw [wk k4]
 exact ⟨_, Nat.lt_succ_self _, _, k4 + 1, rest5, rfl, eqA, hd10, entA, hF⟩
def s_FindMapping_L1 (a_q : Query) (a_head : List Int) : List Binding → Nat → Option (Binding × Bool)
 | [], k41 => some (({ Vars := [], Values := [] } : Binding), false)
 | x43 :: rest42, k41 => (s_TupleOf a_q x43).bind fun r53 =>
   (s_l2Ints r53 a_head).bind fun r56 =>
   if r56 then (
     (s_l4Copy x43).bind fun r62 =>
     some (r62, true))
   else (
     s_FindMapping_L1 a_q a_head rest42 (k41 + 1))
def s_FindMapping (a_q : Query) (a_facts : List Fact) (a_head : List Int) : Option (Binding × Bool) :=
 (s_BindingsOf a_q a_facts).bind fun r3 =>
 s_FindMapping_L1 a_q a_head r3 0
theorem s_FindMapping_ok (a_q : Query) (v0_0 : Sv) (v0_1 : Sv) (a_facts : List Fact) (v1_0 : Sv) (a_head : List Int) (v2_0 : Sv) (R : Binding × Bool) (hF : s_FindMapping a_q a_facts a_head = some R) :
   Fw.Spec Tryz.prog 78 [(.agg [v0_0.v, v0_1.v].toArray), v1_0.v, v2_0.v] [crd (RdS 3 rdInt) v0_0.v a_q.Head, crd (RdS 84 rd84) v0_1.v a_q.Atoms, crd (RdS 86 rd86) v1_0.v a_facts, crd (RdS 3 rdInt) v2_0.v a_head] (fun p : Sv × List Nat × Sv × List Nat => (.tuple [(.agg [p.1.v, p.2.2.1.v].toArray), (.bool R.2)].toArray)) (fun p => [cown (OwnS 3 (roE rdInt)) p.2.1 p.1.v R.1.Vars, cown (OwnS 3 (roE rdInt)) p.2.2.2 p.2.2.1.v R.1.Values]) := by
 refine Se 33 Tryz.func78 [.cell 6 56, .tmp 7] ?_
 intro H0 F0
 unfold s_FindMapping at hF
 refine au ?_
 refine AbR (fun k1 => ?_)
 refine AnW (fun k2 => ?_)
 iterate 5 refine au ?_
 refine bnd hF fun r3 hx4 hF => Cx1 (s_BindingsOf_ok _ _ _ _ _ _ hx4) (fun p5 => ?_)
 iterate 6 refine au ?_
 refine CW_block (K_frz .h frz_own ?_)
 refine CW_loop (m := r3.length) (fun m39 f' cs' => ∃ (g : Fr) (k41 : Nat) (rest42 : List Binding), m39 = rest42.length ∧ f' = updL g [(2, v2_0.v), (3, (pz k1)), (6, (pz k2)), (8, p5.1.v), (9, (.int .i64 (k41 : Int)))] ∧ List.drop k41 r3 = rest42 ∧ Ent cs' [crd (RdS 3 rdInt) v2_0.v a_head, cboR k1 39 (.agg [v0_0.v, v0_1.v].toArray), crd (RdS 3 rdInt) v0_0.v a_q.Head, crd (RdS 84 rd84) v0_1.v a_q.Atoms, cbox k2 56 (.agg [(.slice none 0 0), (.slice none 0 0)].toArray), crd (RdS 56 rd56) p5.1.v r3] ∧ s_FindMapping_L1 a_q a_head rest42 k41 = some R) ⟨_, 0, _, rfl, eqA, rfl, entA, hF⟩ ?_
 rintro m39 _ _ ⟨g40, k41, rest42, rfl, rfl, hd44, hE, hF⟩
 refine Kb hE r3 (fun hbd49 => ?_)
 rcases rest42 with _ | ⟨x43, rest42⟩
 · have hk45 := dn hd44
   rw [s_FindMapping_L1] at hF
   iterate 7 refine au ?_
   refine CdF ?_
   iterate 5 refine au ?_
   refine C_val (V_build ty56.h rfl (vs := []) .nil (cells := [(.slice none 0 0), (.slice none 0 0)]) rfl) ?_
   refine As (.agg [(.slice none 0 0), (.slice none 0 0)].toArray) ?_
   iterate 3 refine au ?_
   cases hF
   exact End_ret (⟨none, 0, 0⟩, [], ⟨none, 0, 0⟩, []) (.cellA rfl rfl .h rfl ag56.h ty56.h.sz rfl rfl (.tmp rfl rfl .nil)) rfl (.conv .nil (own_nil (Ro := (roE rdInt)) (E := 3)) (.cons .nil) (.conv .nil (own_nil (Ro := (roE rdInt)) (E := 3)) (.cons .nil) (.sel (.cons (.t .h) (.cons .h .nil)))))
 obtain ⟨hk45, hx46, hd47⟩ := drop_cons hd44
 rw [s_FindMapping_L1] at hF
 iterate 7 refine au ?_
 refine CdT ?_
 iterate 2 refine au ?_
 refine K_draw [0, 1, 2, 3, 4, 6, 5, 7] [0, 0, 0, 6, 14, 31, 0, 127] [5, 7] mixed (by decide +kernel) ?_
 iterate 3 refine du ?_
 refine Di hx46 (fun k50 j51 => ?_)
 refine DlA2 (ul56_0_56 x43) la56_0_56 (fun p52 => ?_)
 refine du ?_
 refine bnd hF fun r53 hx54 hF => Dx1 (s_TupleOf_ok _ _ _ _ _ _ _ hx54) (fun p55 => ?_)
 refine bnd hF fun r56 hx57 hF => D_act1 rfl rfl .no (.cons .h (.rd (.t (.t (.t .h))) rfl .nil)) .nil (fun ha => XC_bor frz_own (fun _ => .nil) (X_callS cf116.h (.cons (EN ha (.tmp rfl rfl) rfl) (.cons (EN ha (.tmp rfl rfl) rfl) .nil)) (s_l2Ints_ok r53 p55.1 a_head v2_0 _ hx57))) (fun _ => ?_)
 refine du ?_
 refine Ci hF (fun hb66 hF => ?_) (fun hb66 hF => ?_)
 · iterate 3 refine au ?_
   refine Ai hx46 (fun k59 j60 => ?_)
   refine AlA2 (ul56_0_56 x43) la56_0_56 (fun p61 => ?_)
   refine bnd hF fun r62 hx63 hF => Cx2 (s_l4Copy_ok _ _ _ _ hx63) (fun p64 => ?_)
   refine As (.agg [p64.1.v, p64.2.2.1.v].toArray) ?_
   iterate 3 refine au ?_
   cases hF
   exact End_ret (p64.1, p64.2.1, p64.2.2.1, p64.2.2.2) (.cellA rfl rfl .h rfl ag56.h ty56.h.sz rfl rfl (.tmp rfl rfl .nil)) rfl (.sel (.cons (.t .h) (.cons (.t .h) .nil)))
 iterate 6 refine au ?_
 rw [wk k41]
 exact ⟨_, Nat.lt_succ_self _, _, k41 + 1, rest42, rfl, eqA, hd47, entA, hF⟩
def s_IsContained (fuel : Nat) (a_s : List Int) (a_p : Query) (a_q : Query) : Option (Bool) :=
 ((s_IsQuery a_s a_p).bind fun r5 =>
   bif (!r5) then (some true)
   else ((s_IsQuery a_s a_q).bind fun r9 =>
     bif (!r9) then (some true)
     else (some (((a_p.Head.length : Int) : Int) != (a_q.Head.length : Int))))).bind fun o3 =>
 match o3 with
 | c13 => if c13 then (
     some false)
   else (
     (s_l9Freeze fuel a_p a_q).bind fun r14 =>
     if (!r14.2.2) then (
       some false)
     else (
       (s_TupleOf a_p r14.2.1).bind fun r19 =>
       (s_FindMapping a_q r14.1 r19).bind fun r22 =>
       some r22.2))
theorem s_IsContained_ok (fuel : Nat) (a_s : List Int) (v0_0 : Sv) (a_p : Query) (v1_0 : Sv) (v1_1 : Sv) (a_q : Query) (v2_0 : Sv) (v2_1 : Sv) (R : Bool) (hF : s_IsContained fuel a_s a_p a_q = some R) :
   Fw.Spec Tryz.prog 48 [v0_0.v, (.agg [v1_0.v, v1_1.v].toArray), (.agg [v2_0.v, v2_1.v].toArray)] [crd (RdS 3 rdInt) v0_0.v a_s, crd (RdS 3 rdInt) v1_0.v a_p.Head, crd (RdS 84 rd84) v1_1.v a_p.Atoms, crd (RdS 3 rdInt) v2_0.v a_q.Head, crd (RdS 84 rd84) v2_1.v a_q.Atoms] (fun _ : Unit => (.bool R)) (fun _ => []) := by
 refine Se 50 Tryz.func48 [.tmp 6] ?_
 intro H0 F0
 unfold s_IsContained at hF
 refine au ?_
 refine AbR (fun k1 => ?_)
 refine AbR (fun k2 => ?_)
 iterate 3 refine au ?_
 obtain ⟨o3, hio3, hO4⟩ := bind_some hF
 refine au ?_
 refine C_cut (fun f' cs' => ∃ (c13 : Bool) (g : Fr), c13 = o3 ∧ f' = updL g [(4, (pz k1)), (5, (pz k2)), (30, (.bool c13))] ∧ Ent cs' [cboR k1 39 (.agg [v1_0.v, v1_1.v].toArray), crd (RdS 3 rdInt) v1_0.v a_p.Head, crd (RdS 84 rd84) v1_1.v a_p.Atoms, cboR k2 39 (.agg [v2_0.v, v2_1.v].toArray), crd (RdS 3 rdInt) v2_0.v a_q.Head, crd (RdS 84 rd84) v2_1.v a_q.Atoms]) ?_ ?_
 · replace hF := hio3
   iterate 2 refine au ?_
   refine bnd hF fun r5 hx6 hF => Cx0 (s_IsQuery_ok _ _ _ _ _ _ hx6) (fun _ => ?_)
   iterate 2 refine au ?_
   rcases Bool.eq_false_or_eq_true (!r5) with hg8 | hg8
   · rw [hg8]
     try rw [hg8] at hF; dsimp only [cond_true, cond_false] at hF
     iterate 15 refine au ?_
     cases hF
     exact ⟨_, _, rfl, eqA, entA⟩
   rw [hg8]
   try rw [hg8] at hF; dsimp only [cond_true, cond_false] at hF
   iterate 5 refine au ?_
   refine bnd hF fun r9 hx10 hF => Cx0 (s_IsQuery_ok _ _ _ _ _ _ hx10) (fun _ => ?_)
   iterate 4 refine au ?_
   rcases Bool.eq_false_or_eq_true (!r9) with hg12 | hg12
   · rw [hg12]
     try rw [hg12] at hF; dsimp only [cond_true, cond_false] at hF
     iterate 9 refine au ?_
     cases hF
     exact ⟨_, _, rfl, eqA, entA⟩
   rw [hg12]
   try rw [hg12] at hF; dsimp only [cond_true, cond_false] at hF
   iterate 16 refine au ?_
   cases hF
   exact ⟨_, _, rfl, eqA, entA⟩
 rintro _ _ ⟨c13, g27, rfl, rfl, hE⟩
 replace hF := hO4
 try dsimp only at hF
 refine K_ent hE ?_
 refine Ci hF (fun hb26 hF => ?_) (fun hb26 hF => ?_)
 · iterate 4 refine au ?_
   cases hF
   exact Er ()
 iterate 4 refine au ?_
 refine bnd hF fun r14 hx15 hF => Cx3 (s_l9Freeze_ok _ _ _ _ _ _ _ _ hx15) (fun p16 => ?_)
 refine au ?_
 refine C_val (V_extract (l := [p16.1.v, (.agg [p16.2.2.1.v, p16.2.2.2.2.1.v].toArray), (.bool r14.2.2)]) (v := p16.1.v) (.tmp rfl rfl) rfl) ?_
 refine C_val (V_extract (l := [p16.1.v, (.agg [p16.2.2.1.v, p16.2.2.2.2.1.v].toArray), (.bool r14.2.2)]) (v := (.agg [p16.2.2.1.v, p16.2.2.2.2.1.v].toArray)) (.tmp rfl rfl) rfl) ?_
 refine C_val (V_extract (l := [p16.1.v, (.agg [p16.2.2.1.v, p16.2.2.2.2.1.v].toArray), (.bool r14.2.2)]) (v := (.bool r14.2.2)) (.tmp rfl rfl) rfl) ?_
 refine AnW (fun k17 => ?_)
 refine au ?_
 refine As (.agg [p16.2.2.1.v, p16.2.2.2.2.1.v].toArray) ?_
 iterate 7 refine au ?_
 refine Ci hF (fun hb25 hF => ?_) (fun hb25 hF => ?_)
 · iterate 4 refine au ?_
   cases hF
   exact Er ()
 refine au ?_
 refine K_draw [0, 1, 2, 3, 9, 4, 5, 6, 7, 8, 10, 11] [0, 0, 0, 0, 12, 31, 63, 127, 127, 0, 767, 2047] [4, 5, 10] mixed (by decide +kernel) ?_
 iterate 3 refine du ?_
 refine D_atO rfl .no .h (fun ha hp => V_loadBox ag56.h ty56.h.sz rfl (EN ha (.tmp rfl rfl) rfl) hp.2 rfl) ?_
 refine D_new rfl .no rfl (fun ha => N_allocT (g := true) ty56.h rfl rfl) (fun k18 => ?_)
 refine bnd hF fun r19 hx20 hF => D_act3 rfl rfl .no (.cons (.t (.t (.t (.t .h)))) (.cons (.t (.t (.t .h))) (.rd (.t (.t (.t (.t .h)))) rfl (.rd (.t (.t (.t (.t (.t .h))))) rfl .nil)))) (.own .h (fun _ h => h) (.dep rfl .nil)) (fun ha => XC_borL (pre := _) (.cons frz_own (.cons frz_own .nil)) (fun _ => (.cons .nil)) (XC_pre (.rd (.t (.t .h)) rfl (.rd (.t (.t (.t .h))) rfl (.rd .h rfl (.rd (.t .h) rfl .nil)))) (X_callS cf28.h (.cons (EN ha (.tmp rfl rfl) rfl) (.cons (EN ha (.tmp rfl rfl) rfl) .nil)) (s_TupleOf_ok a_p v1_0 v1_1 r14.2.1 p16.2.2.1 p16.2.2.2.2.1 _ hx20)))) (fun p21 => ?_)
 refine bnd hF fun r22 hx23 hF => D_act4 rfl rfl .no (.cons (.t (.t .h)) (.cons (.t (.t (.t (.t .h)))) (.rd (.t (.t (.t (.t (.t (.t (.t (.t .h)))))))) rfl (.rd (.t (.t (.t (.t (.t (.t (.t (.t (.t .h))))))))) rfl .nil)))) (.own (.t (.t .h)) (fun _ h => h) (.dep rfl .nil)) (fun ha => XC_borG (pre := _) (.cons frz_own (.cons frz_own .nil)) (fun _ => (.cons (.cons .nil))) (XC_pre (.rd (.t (.t .h)) rfl (.rd (.t (.t (.t .h))) rfl (.rd (.t .h) rfl (.rd .h rfl .nil)))) (X_callS cf78.h (.cons (EN ha (.tmp rfl rfl) rfl) (.cons (EN ha (.tmp rfl rfl) rfl) (.cons (EN ha (.tmp rfl rfl) rfl) .nil))) (s_FindMapping_ok a_q v2_0 v2_1 r14.1 p16.1 r19 p21.1 _ hx23)))) (fun p24 => ?_)
 refine du ?_
 refine D_val rfl .no (fun ha => V_extract (l := [(.agg [p24.1.v, p24.2.2.1.v].toArray), (.bool r22.2)]) (v := (.agg [p24.1.v, p24.2.2.1.v].toArray)) (EN ha (.tmp rfl rfl) rfl) rfl) ?_
 refine D_val rfl .no (fun ha => V_extract (l := [(.agg [p24.1.v, p24.2.2.1.v].toArray), (.bool r22.2)]) (v := (.bool r22.2)) (EN ha (.tmp rfl rfl) rfl) rfl) ?_
 refine D_act1 rfl rfl .no (.cons (.t (.t (.t (.t (.t (.t .h)))))) .nil) (.dep rfl (.dep rfl .nil)) (fun ha => X_storeB (e' := (.agg [p24.1.v, p24.2.2.1.v].toArray)) (v := (.agg [p24.1.v, p24.2.2.1.v].toArray)) ty56.h.sz (EN ha (.tmp rfl rfl) rfl) (EN ha (.tmp rfl rfl) rfl) rfl rfl rfl rfl rfl) (fun _ => ?_)
 iterate 2 refine du ?_
 iterate 5 refine au ?_
 cases hF
 exact Er ()
def s_IsFeasible (fuel : Nat) (a_s : List Int) (a_l : List Method) (a_q : Query) : Option (Bool) :=
 (s_AnswerablePart a_s a_l a_q).bind fun r2 =>
 (bif r2.2 then ((s_IsContained fuel a_s r2.1 a_q).bind fun r9 =>
     some r9)
   else (some false)).bind fun o6 =>
 match o6 with
 | c12 => some c12
theorem s_IsFeasible_ok (fuel : Nat) (a_s : List Int) (v0_0 : Sv) (a_l : List Method) (v1_0 : Sv) (a_q : Query) (v2_0 : Sv) (v2_1 : Sv) (R : Bool) (hF : s_IsFeasible fuel a_s a_l a_q = some R) :
   Fw.Spec Tryz.prog 24 [v0_0.v, v1_0.v, (.agg [v2_0.v, v2_1.v].toArray)] [crd (RdS 3 rdInt) v0_0.v a_s, crd (RdS 65 rd65) v1_0.v a_l, crd (RdS 3 rdInt) v2_0.v a_q.Head, crd (RdS 84 rd84) v2_1.v a_q.Atoms] (fun _ : Unit => (.bool R)) (fun _ => []) := by
 refine Se 23 Tryz.func24 [.tmp 6] ?_
 intro H0 F0
 unfold s_IsFeasible at hF
 refine au ?_
 refine AbR (fun k1 => ?_)
 iterate 6 refine au ?_
 refine bnd hF fun r2 hx3 hF => Cx2 (s_AnswerablePart_ok _ _ _ _ _ _ _ _ hx3) (fun p4 => ?_)
 refine au ?_
 refine C_val (V_extract (l := [(.agg [p4.1.v, p4.2.2.1.v].toArray), (.bool r2.2)]) (v := (.agg [p4.1.v, p4.2.2.1.v].toArray)) (.tmp rfl rfl) rfl) ?_
 refine C_val (V_extract (l := [(.agg [p4.1.v, p4.2.2.1.v].toArray), (.bool r2.2)]) (v := (.bool r2.2)) (.tmp rfl rfl) rfl) ?_
 refine AnW (fun k5 => ?_)
 refine As (.agg [p4.1.v, p4.2.2.1.v].toArray) ?_
 iterate 2 refine au ?_
 obtain ⟨o6, hio6, hO7⟩ := bind_some hF
 refine au ?_
 refine C_cut (fun f' cs' => ∃ (c12 : Bool) (g : Fr), c12 = o6 ∧ f' = updL g [(6, (.bool c12))] ∧ Ent cs' []) ?_ ?_
 · replace hF := hio6
   iterate 2 refine au ?_
   rcases Bool.eq_false_or_eq_true r2.2 with hg8 | hg8
   · rw [hg8]
     try rw [hg8] at hF; dsimp only [cond_true, cond_false] at hF
     iterate 7 refine au ?_
     refine bnd hF fun r9 hx10 hF => C_x2 (.cons (.t (.t .h)) (.cons (.t .h) (.rd (.t (.t .h)) rfl (.rd (.t (.t (.t (.t .h)))) rfl (.rd (.t (.t (.t (.t (.t .h))))) rfl .nil))))) (XC_borL (pre := _) (.cons frz_own (.cons frz_own .nil)) (fun _ => .nil) (XC_pre (.rd (.t (.t .h)) rfl (.rd .h rfl (.rd (.t .h) rfl (.rd (.t (.t (.t .h))) rfl (.rd (.t (.t (.t (.t .h)))) rfl .nil))))) (X_callS cf48.h (.cons (.tmp rfl rfl) (.cons (.tmp rfl rfl) (.cons (.tmp rfl rfl) .nil))) (s_IsContained_ok fuel a_s v0_0 r2.1 p4.1 p4.2.2.1 a_q v2_0 v2_1 _ hx10)))) (fun _ => ?_)
     iterate 3 refine au ?_
     cases hF
     exact ⟨_, _, rfl, eqA, entA⟩
   rw [hg8]
   try rw [hg8] at hF; dsimp only [cond_true, cond_false] at hF
   iterate 7 refine au ?_
   cases hF
   exact ⟨_, _, rfl, eqA, entA⟩
 rintro _ _ ⟨c12, g13, rfl, rfl, hE⟩
 replace hF := hO7
 try dsimp only at hF
 refine K_ent hE ?_
 refine au ?_
 cases hF
 exact Er ()
def s_StartReach_L1 : List Int → Nat → (List Int) → Option (Reached)
 | [], k67, c62 => some ({ Facts := [], Values := c62, Log := [], Rounds := 0 } : Reached)
 | x69 :: rest68, k67, c62 => ((s_l1In x69 0 9).bind fun r80 =>
     if r80 then (
       (s_l3Put c62 x69).bind fun r85 =>
       some r85)
     else (
       some c62)).bind fun o76 =>
   match o76 with
   | c89 => s_StartReach_L1 rest68 (k67 + 1) c89
def s_StartReach (a_seeds : List Int) : Option (Reached) :=
 s_StartReach_L1 a_seeds 0 ([] : List Int)
theorem s_StartReach_ok (a_seeds : List Int) (v0_0 : Sv) (R : Reached) (hF : s_StartReach a_seeds = some R) :
   Fw.Spec Tryz.prog 54 [v0_0.v] [crd (RdS 3 rdInt) v0_0.v a_seeds] (fun p : Sv × List Nat × Sv × Sv × List Nat => (.agg [p.1.v, p.2.2.1.v, p.2.2.2.1.v, (.int .i64 R.Rounds)].toArray)) (fun p => [cown (OwnS 86 ow86) p.2.1 p.1.v R.Facts, crd (RdS 3 rdInt) p.2.2.1.v R.Values, cown (OwnS 130 ow130) p.2.2.2.2 p.2.2.2.1.v R.Log]) := by
 refine Se 26 Tryz.func54 [.cell 2 61] ?_
 intro H0 F0
 unfold s_StartReach at hF
 refine au ?_
 refine AnW (fun k1 => ?_)
 iterate 2 refine au ?_
 refine C_val (V_build ty61.h rfl (vs := []) .nil (cells := [(.slice none 0 0), (.slice none 0 0), (.slice none 0 0), (.int .i64 0)]) rfl) ?_
 refine AnW (fun k2 => ?_)
 refine As (.agg [(.slice none 0 0), (.slice none 0 0), (.slice none 0 0), (.int .i64 0)].toArray) ?_
 iterate 5 refine au ?_
 refine CW_block (CW_loop (m := a_seeds.length) (fun m65 f' cs' => ∃ (g : Fr) (k67 : Nat) (rest68 : List Int) (c62 : List Int) (v63 : Sv), m65 = rest68.length ∧ f' = updL g [(0, v0_0.v), (2, (pz k1)), (3, (pz k2)), (4, (.int .i64 (k67 : Int)))] ∧ List.drop k67 a_seeds = rest68 ∧ Ent cs' [crd (RdS 3 rdInt) v0_0.v a_seeds, cbox k1 61 (.agg [(.slice none 0 0), (.slice none 0 0), (.slice none 0 0), (.int .i64 0)].toArray), cbox k2 61 (.agg [(.slice none 0 0), v63.v, (.slice none 0 0), (.int .i64 0)].toArray), crd (RdS 3 rdInt) v63.v c62] ∧ s_StartReach_L1 rest68 k67 c62 = some R) ⟨_, 0, _, _, ⟨none, 0, 0⟩, rfl, eqA, rfl, (.conv .nil (rd_nil (R := rdInt) (E := 3)) (.cons .nil) entA), hF⟩ ?_)
 rintro m65 _ _ ⟨g66, k67, rest68, c62, v63, rfl, rfl, hd70, hE, hF⟩
 refine Kb hE a_seeds (fun hbd75 => ?_)
 rcases rest68 with _ | ⟨x69, rest68⟩
 · have hk71 := dn hd70
   rw [s_StartReach_L1] at hF
   iterate 7 refine au ?_
   refine CdF ?_
   iterate 6 refine au ?_
   refine As (.agg [(.slice none 0 0), v63.v, (.slice none 0 0), (.int .i64 0)].toArray) ?_
   iterate 2 refine au ?_
   cases hF
   exact End_ret (⟨none, 0, 0⟩, [], v63, ⟨none, 0, 0⟩, []) (.cellA rfl rfl .h rfl ag61.h ty61.h.sz rfl rfl .nil) rfl (.conv .nil (own_nil (Ro := ow86) (E := 86)) (.cons .nil) (.conv .nil (own_nil (Ro := ow130) (E := 130)) (.cons .nil) (.sel (.cons (.t .h) (.rd (.t (.t (.t (.t .h)))) rfl (.cons .h .nil))))))
 obtain ⟨hk71, hx72, hd73⟩ := drop_cons hd70
 rw [s_StartReach_L1] at hF
 iterate 7 refine au ?_
 refine CdT ?_
 refine au ?_
 obtain ⟨o76, hio76, hO77⟩ := bind_some hF
 refine K_cut (fun f' cs' => ∃ (c89 : List Int) (v90 : Sv) (g : Fr), c89 = o76 ∧ f' = updL g [(0, v0_0.v), (2, (pz k1)), (3, (pz k2)), (4, (.int .i64 (k67 : Int)))] ∧ Ent cs' [crd (RdS 3 rdInt) v0_0.v a_seeds, cbox k1 61 (.agg [(.slice none 0 0), (.slice none 0 0), (.slice none 0 0), (.int .i64 0)].toArray), cbox k2 61 (.agg [(.slice none 0 0), v90.v, (.slice none 0 0), (.int .i64 0)].toArray), crd (RdS 3 rdInt) v90.v c89]) ?_ ?_
 · replace hF := hio76
   refine CW_block (K_region (Cm v0_0.v rfl rfl ?_))
   refine au ?_
   refine Ai hx72 (fun k78 j79 => ?_)
   refine Al ls3_0 ?_
   refine bnd hF fun r80 hx81 hF => Cx0 (s_l1In_ok _ _ _ _ hx81) (fun _ => ?_)
   refine au ?_
   refine Ci hF (fun hb88 hF => ?_) (fun hb88 hF => ?_)
   · refine CW_draw [0, 1, 2, 3, 4, 5, 6, 7, 8] [0, 1, 0, 0, 12, 28, 63, 127, 255] [6, 8] mixed (by decide +kernel) ?_
     refine du ?_
     refine D_atO rfl .no (.t (.t (.t .h))) (fun ha hp => V_load (v := v63.v) ag22.h (EN ha (.tmp rfl rfl) rfl) hp.2 rfl rfl) ?_
     iterate 2 refine du ?_
     refine Di hx72 (fun k83 j84 => ?_)
     refine Dl ls3_0 ?_
     refine bnd hF fun r85 hx86 hF => Dx1 (s_l3Put_ok _ _ _ _ hx86) (fun p87 => ?_)
     refine du ?_
     refine D_act1 rfl rfl .no (.cons (.t (.t (.t (.t (.t .h))))) .nil) (.dep rfl .nil) (fun ha => X_storeB (e' := (.agg [(.slice none 0 0), p87.v, (.slice none 0 0), (.int .i64 0)].toArray)) ty22.h.sz (EN ha (.tmp rfl rfl) rfl) (EN ha (.tmp rfl rfl) rfl) rfl rfl rfl rfl rfl) (fun _ => ?_)
     refine du ?_
     cases hF
     exact ⟨_, p87, _, rfl, eqA, entA⟩
   refine au ?_
   cases hF
   exact ⟨_, v63, _, rfl, eqA, entA⟩
 rintro _ _ ⟨c89, v90, g92, rfl, rfl, hE⟩
 replace hF := hO77
 try dsimp only at hF
 refine K_ent hE ?_
 iterate 5 refine au ?_
 rw [wk k67]
 exact ⟨_, Nat.lt_succ_self _, _, k67 + 1, rest68, _, v90, rfl, eqA, hd73, entA, hF⟩
def s_IsFact_L1 : List Int → Nat → Option (Bool)
 | [], k22 => some true
 | x24 :: rest23, k22 => (s_l1In x24 0 9).bind fun r33 =>
   if (!r33) then (
     some false)
   else (
     s_IsFact_L1 rest23 (k22 + 1))
def s_IsFact (a_s : List Int) (a_f : Fact) : Option (Bool) :=
 ((s_IsSchema a_s).bind fun r4 =>
   bif (!r4) then (some true)
   else ((s_l1In a_f.Rel 0 (IntKind.i64.wrap ((a_s.length : Int) - 1))).bind fun r8 =>
     bif (!r8) then (some true)
     else ((ix a_s a_f.Rel).bind fun x12 =>
       some (((a_f.Values.length : Int) : Int) != x12)))).bind fun o2 =>
 match o2 with
 | c18 => if c18 then (
     some false)
   else (
     s_IsFact_L1 a_f.Values 0)
theorem s_IsFact_ok (a_s : List Int) (v0_0 : Sv) (a_f : Fact) (v1_1 : Sv) (R : Bool) (hF : s_IsFact a_s a_f = some R) :
   Fw.Spec Tryz.prog 118 [v0_0.v, (.agg [(.int .i64 a_f.Rel), v1_1.v].toArray)] [crd (RdS 3 rdInt) v0_0.v a_s, crd (RdS 3 rdInt) v1_1.v a_f.Values] (fun _ : Unit => (.bool R)) (fun _ => []) := by
 refine Se 43 Tryz.func118 [.tmp 4] ?_
 intro H0 F0
 unfold s_IsFact at hF
 refine au ?_
 refine AbR (fun k1 => ?_)
 iterate 3 refine au ?_
 obtain ⟨o2, hio2, hO3⟩ := bind_some hF
 refine K_draw [0, 1, 2, 3, 4, 5, 6, 7, 8, 9, 10, 11, 12, 13, 14, 15, 16, 17, 18, 19, 20, 21, 22] [0, 1, 3, 7, 15, 31, 15, 79, 207, 511, 1023, 2047, 4095, 8191, 16383, 32767, 8191, 8191, 139263, 466943, 991231, 2097151, 4194303] [1, 9] mixed (by decide +kernel) ?_
 refine D_cut (fun f' cs' => ∃ (c18 : Bool) (g : Fr), c18 = o2 ∧ f' = updL g [(3, (pz k1)), (28, (.bool c18))] ∧ Ent cs' [cboR k1 86 (.agg [(.int .i64 a_f.Rel), v1_1.v].toArray), crd (RdS 3 rdInt) v1_1.v a_f.Values]) ?_ ?_
 · replace hF := hio2
   refine du ?_
   refine bnd hF fun r4 hx5 hF => Dx0 (s_IsSchema_ok _ _ _ hx5) (fun _ => ?_)
   iterate 2 refine du ?_
   rcases Bool.eq_false_or_eq_true (!r4) with hg7 | hg7
   · rw [hg7]
     try rw [hg7] at hF; dsimp only [cond_true, cond_false] at hF
     iterate 20 refine du ?_
     cases hF
     exact ⟨_, _, rfl, eqA, entA⟩
   rw [hg7]
   try rw [hg7] at hF; dsimp only [cond_true, cond_false] at hF
   iterate 5 refine du ?_
   refine bnd hF fun r8 hx9 hF => Dx0 (s_l1In_ok _ _ _ _ hx9) (fun _ => ?_)
   iterate 3 refine du ?_
   rcases Bool.eq_false_or_eq_true (!r8) with hg11 | hg11
   · rw [hg11]
     try rw [hg11] at hF; dsimp only [cond_true, cond_false] at hF
     iterate 11 refine du ?_
     cases hF
     exact ⟨_, _, rfl, eqA, entA⟩
   rw [hg11]
   try rw [hg11] at hF; dsimp only [cond_true, cond_false] at hF
   iterate 6 refine du ?_
   refine bnd hF fun x12 hx13 hF => ?_
   obtain ⟨hp14, hx15⟩ := ix_some hx13
   refine Di hx15 (fun k16 j17 => ?_)
   refine Dl ls3_0 ?_
   iterate 3 refine du ?_
   cases hF
   exact ⟨_, _, rfl, eqA, entA⟩
 rintro _ _ ⟨c18, g39, rfl, rfl, hE⟩
 replace hF := hO3
 try dsimp only at hF
 refine K_ent hE ?_
 refine Ci hF (fun hb38 hF => ?_) (fun hb38 hF => ?_)
 · iterate 4 refine au ?_
   cases hF
   exact Er ()
 iterate 5 refine au ?_
 refine CW_block (CW_loop (m := a_f.Values.length) (fun m20 f' cs' => ∃ (g : Fr) (k22 : Nat) (rest23 : List Int), m20 = rest23.length ∧ f' = updL g [(3, (pz k1)), (5, (.int .i64 (k22 : Int)))] ∧ List.drop k22 a_f.Values = rest23 ∧ Ent cs' [cboR k1 86 (.agg [(.int .i64 a_f.Rel), v1_1.v].toArray), crd (RdS 3 rdInt) v1_1.v a_f.Values] ∧ s_IsFact_L1 rest23 k22 = some R) ⟨_, 0, _, rfl, eqA, rfl, entA, hF⟩ ?_)
 rintro m20 _ _ ⟨g21, k22, rest23, rfl, rfl, hd25, hE, hF⟩
 refine Kb hE a_f.Values (fun hbd30 => ?_)
 rcases rest23 with _ | ⟨x24, rest23⟩
 · have hk26 := dn hd25
   rw [s_IsFact_L1] at hF
   iterate 8 refine au ?_
   refine CdF ?_
   iterate 8 refine au ?_
   cases hF
   exact Er ()
 obtain ⟨hk26, hx27, hd28⟩ := drop_cons hd25
 rw [s_IsFact_L1] at hF
 iterate 8 refine au ?_
 refine CdT ?_
 iterate 6 refine au ?_
 refine Ai hx27 (fun k31 j32 => ?_)
 refine Al ls3_0 ?_
 refine bnd hF fun r33 hx34 hF => Cx0 (s_l1In_ok _ _ _ _ hx34) (fun _ => ?_)
 iterate 2 refine au ?_
 refine Ci hF (fun hb37 hF => ?_) (fun hb37 hF => ?_)
 · iterate 4 refine au ?_
   cases hF
   exact Er ()
 iterate 6 refine au ?_
 rw [wk k22]
 exact ⟨_, Nat.lt_succ_self _, _, k22 + 1, rest23, rfl, eqA, hd28, entA, hF⟩
def s_AreFacts_L1 (a_s : List Int) (a_l : List Fact) : List Fact → Nat → Option (Bool)
 | [], k4 => ((s_IsSchema a_s).bind fun r15 =>
     bif r15 then (some (decide (((a_l.length : Int) : Int) ≤ 24)))
     else (some false)).bind fun o13 =>
   match o13 with
   | c19 => some c19
 | x6 :: rest5, k4 => ((s_IsFact a_s x6).bind fun r26 =>
     bif (!r26) then (some true)
     else (bif (decide ((0 : Int) < (k4 : Int))) then ((ix a_l (IntKind.i64.wrap ((k4 : Int) - 1))).bind fun x31 =>
         (s_CompareFacts x31 x6).bind fun r41 =>
         some (decide ((0 : Int) ≤ r41)))
       else (some false))).bind fun o21 =>
   match o21 with
   | c44 => if c44 then (
       some false)
     else (
       s_AreFacts_L1 a_s a_l rest5 (k4 + 1))
def s_AreFacts (a_s : List Int) (a_l : List Fact) : Option (Bool) :=
 s_AreFacts_L1 a_s a_l a_l 0
theorem s_AreFacts_ok (a_s : List Int) (v0_0 : Sv) (a_l : List Fact) (v1_0 : Sv) (R : Bool) (hF : s_AreFacts a_s a_l = some R) :
   Fw.Spec Tryz.prog 83 [v0_0.v, v1_0.v] [crd (RdS 3 rdInt) v0_0.v a_s, crd (RdS 86 rd86) v1_0.v a_l] (fun _ : Unit => (.bool R)) (fun _ => []) := by
 refine Se 43 Tryz.func83 [.tmp 4] ?_
 intro H0 F0
 unfold s_AreFacts at hF
 iterate 7 refine au ?_
 refine CW_block (CW_loop (m := a_l.length) (fun m2 f' cs' => ∃ (g : Fr) (k4 : Nat) (rest5 : List Fact), m2 = rest5.length ∧ f' = updL g [(0, v0_0.v), (1, v1_0.v), (5, (.int .i64 (k4 : Int)))] ∧ List.drop k4 a_l = rest5 ∧ Ent cs' [crd (RdS 3 rdInt) v0_0.v a_s, crd (RdS 86 rd86) v1_0.v a_l] ∧ s_AreFacts_L1 a_s a_l rest5 k4 = some R) ⟨_, 0, _, rfl, eqA, rfl, entA, hF⟩ ?_)
 rintro m2 _ _ ⟨g3, k4, rest5, rfl, rfl, hd7, hE, hF⟩
 refine Kb hE a_l (fun hbd12 => ?_)
 rcases rest5 with _ | ⟨x6, rest5⟩
 · have hk8 := dn hd7
   rw [s_AreFacts_L1] at hF
   iterate 7 refine au ?_
   refine CdF ?_
   iterate 4 refine au ?_
   obtain ⟨o13, hio13, hO14⟩ := bind_some hF
   refine au ?_
   refine C_cut (fun f' cs' => ∃ (c19 : Bool) (g : Fr), c19 = o13 ∧ f' = updL g [(4, (.bool c19))] ∧ Ent cs' []) ?_ ?_
   · replace hF := hio13
     refine au ?_
     refine bnd hF fun r15 hx16 hF => Cx0 (s_IsSchema_ok _ _ _ hx16) (fun _ => ?_)
     refine au ?_
     rcases Bool.eq_false_or_eq_true r15 with hg18 | hg18
     · rw [hg18]
       try rw [hg18] at hF; dsimp only [cond_true, cond_false] at hF
       iterate 9 refine au ?_
       cases hF
       exact ⟨_, _, rfl, eqA, entA⟩
     rw [hg18]
     try rw [hg18] at hF; dsimp only [cond_true, cond_false] at hF
     iterate 6 refine au ?_
     cases hF
     exact ⟨_, _, rfl, eqA, entA⟩
   rintro _ _ ⟨c19, g20, rfl, rfl, hE⟩
   replace hF := hO14
   try dsimp only at hF
   refine K_ent hE ?_
   refine au ?_
   cases hF
   exact Er ()
 obtain ⟨hk8, hx9, hd10⟩ := drop_cons hd7
 rw [s_AreFacts_L1] at hF
 iterate 7 refine au ?_
 refine CdT ?_
 iterate 2 refine au ?_
 obtain ⟨o21, hio21, hO22⟩ := bind_some hF
 refine K_draw [0, 1, 2, 3, 4, 5, 6, 7, 8, 9, 10, 11, 12, 13, 14, 15, 16, 17, 18, 19, 20, 21, 22, 23] [0, 0, 0, 6, 14, 31, 63, 127, 255, 511, 1023, 2047, 2047, 6143, 16383, 32767, 2047, 2047, 198655, 460799, 1048575, 2097151, 4194303, 8388607] [5, 20] mixed (by decide +kernel) ?_
 refine D_cut (fun f' cs' => ∃ (c44 : Bool) (g : Fr), c44 = o21 ∧ f' = updL g [(0, v0_0.v), (1, v1_0.v), (5, (.int .i64 (k4 : Int))), (35, (.bool c44))] ∧ Ent cs' [crd (RdS 3 rdInt) v0_0.v a_s, crd (RdS 86 rd86) v1_0.v a_l]) ?_ ?_
 · replace hF := hio21
   iterate 3 refine du ?_
   refine Di hx9 (fun k23 j24 => ?_)
   refine DlA1 (ul86_0_86 x6) la86_0_86 (fun p25 => ?_)
   refine bnd hF fun r26 hx27 hF => Dx0 (s_IsFact_ok _ _ _ _ _ hx27) (fun _ => ?_)
   iterate 2 refine du ?_
   rcases Bool.eq_false_or_eq_true (!r26) with hg29 | hg29
   · rw [hg29]
     try rw [hg29] at hF; dsimp only [cond_true, cond_false] at hF
     iterate 17 refine du ?_
     cases hF
     exact ⟨_, _, rfl, eqA, entA⟩
   rw [hg29]
   try rw [hg29] at hF; dsimp only [cond_true, cond_false] at hF
   iterate 3 refine du ?_
   rcases Bool.eq_false_or_eq_true (decide ((0 : Int) < (k4 : Int))) with hg30 | hg30
   · rw [hg30]
     try rw [hg30] at hF; dsimp only [cond_true, cond_false] at hF
     iterate 3 refine du ?_
     refine bnd hF fun x31 hx32 hF => ?_
     obtain ⟨hp33, hx34⟩ := ix_some hx32
     refine Di hx34 (fun k35 j36 => ?_)
     refine DlA1 (ul86_0_86 x31) la86_0_86 (fun p37 => ?_)
     iterate 2 refine du ?_
     refine Di hx9 (fun k38 j39 => ?_)
     refine DlA1 (ul86_0_86 x6) la86_0_86 (fun p40 => ?_)
     refine bnd hF fun r41 hx42 hF => Dx0 (s_CompareFacts_ok _ _ _ _ _ hx42) (fun _ => ?_)
     iterate 4 refine du ?_
     cases hF
     exact ⟨_, _, rfl, eqA, entA⟩
   rw [hg30]
   try rw [hg30] at hF; dsimp only [cond_true, cond_false] at hF
   iterate 14 refine du ?_
   cases hF
   exact ⟨_, _, rfl, eqA, entA⟩
 rintro _ _ ⟨c44, g47, rfl, rfl, hE⟩
 replace hF := hO22
 try dsimp only at hF
 refine K_ent hE ?_
 refine Ci hF (fun hb46 hF => ?_) (fun hb46 hF => ?_)
 · iterate 4 refine au ?_
   cases hF
   exact Er ()
 iterate 6 refine au ?_
 rw [wk k4]
 exact ⟨_, Nat.lt_succ_self _, _, k4 + 1, rest5, rfl, eqA, hd10, entA, hF⟩
def s_l8Values_L1 (a_l : List Int) : List Int → Nat → Option (Bool)
 | [], k4 => some true
 | x6 :: rest5, k4 => ((s_l1In x6 0 9).bind fun r17 =>
     bif (!r17) then (some true)
     else (bif (decide ((0 : Int) < (k4 : Int))) then ((ix a_l (IntKind.i64.wrap ((k4 : Int) - 1))).bind fun x24 =>
         some (decide ((x6 : Int) ≤ x24)))
       else (some false))).bind fun o13 =>
   match o13 with
   | c30 => if c30 then (
       some false)
     else (
       s_l8Values_L1 a_l rest5 (k4 + 1))
def s_l8Values (a_l : List Int) : Option (Bool) :=
 s_l8Values_L1 a_l a_l 0
theorem s_l8Values_ok (a_l : List Int) (v0_0 : Sv) (R : Bool) (hF : s_l8Values a_l = some R) :
   Fw.Spec Tryz.prog 84 [v0_0.v] [crd (RdS 3 rdInt) v0_0.v a_l] (fun _ : Unit => (.bool R)) (fun _ => []) := by
 refine Se 32 Tryz.func84 [.tmp 2] ?_
 intro H0 F0
 unfold s_l8Values at hF
 iterate 7 refine au ?_
 refine CW_block (CW_loop (m := a_l.length) (fun m2 f' cs' => ∃ (g : Fr) (k4 : Nat) (rest5 : List Int), m2 = rest5.length ∧ f' = updL g [(0, v0_0.v), (3, (.int .i64 (k4 : Int)))] ∧ List.drop k4 a_l = rest5 ∧ Ent cs' [crd (RdS 3 rdInt) v0_0.v a_l] ∧ s_l8Values_L1 a_l rest5 k4 = some R) ⟨_, 0, _, rfl, eqA, rfl, entA, hF⟩ ?_)
 rintro m2 _ _ ⟨g3, k4, rest5, rfl, rfl, hd7, hE, hF⟩
 refine Kb hE a_l (fun hbd12 => ?_)
 rcases rest5 with _ | ⟨x6, rest5⟩
 · have hk8 := dn hd7
   rw [s_l8Values_L1] at hF
   iterate 7 refine au ?_
   refine CdF ?_
   iterate 8 refine au ?_
   cases hF
   exact Er ()
 obtain ⟨hk8, hx9, hd10⟩ := drop_cons hd7
 rw [s_l8Values_L1] at hF
 iterate 7 refine au ?_
 refine CdT ?_
 iterate 2 refine au ?_
 obtain ⟨o13, hio13, hO14⟩ := bind_some hF
 refine K_draw [0, 1, 2, 3, 4, 5, 6, 7, 8, 9, 10, 11, 12, 13, 14, 15, 16, 17, 18, 19, 20, 21] [0, 0, 3, 7, 15, 31, 63, 127, 255, 511, 1023, 1023, 4095, 8191, 1023, 1023, 33791, 115711, 246783, 524287, 1048575, 2097151] [4] mixed (by decide +kernel) ?_
 refine D_cut (fun f' cs' => ∃ (c30 : Bool) (g : Fr), c30 = o13 ∧ f' = updL g [(0, v0_0.v), (3, (.int .i64 (k4 : Int))), (31, (.bool c30))] ∧ Ent cs' [crd (RdS 3 rdInt) v0_0.v a_l]) ?_ ?_
 · replace hF := hio13
   iterate 2 refine du ?_
   refine Di hx9 (fun k15 j16 => ?_)
   refine Dl ls3_0 ?_
   refine bnd hF fun r17 hx18 hF => Dx0 (s_l1In_ok _ _ _ _ hx18) (fun _ => ?_)
   iterate 2 refine du ?_
   rcases Bool.eq_false_or_eq_true (!r17) with hg20 | hg20
   · rw [hg20]
     try rw [hg20] at hF; dsimp only [cond_true, cond_false] at hF
     iterate 16 refine du ?_
     cases hF
     exact ⟨_, _, rfl, eqA, entA⟩
   rw [hg20]
   try rw [hg20] at hF; dsimp only [cond_true, cond_false] at hF
   iterate 3 refine du ?_
   rcases Bool.eq_false_or_eq_true (decide ((0 : Int) < (k4 : Int))) with hg21 | hg21
   · rw [hg21]
     try rw [hg21] at hF; dsimp only [cond_true, cond_false] at hF
     iterate 2 refine du ?_
     refine Di hx9 (fun k22 j23 => ?_)
     refine Dl ls3_0 ?_
     iterate 3 refine du ?_
     refine bnd hF fun x24 hx25 hF => ?_
     obtain ⟨hp26, hx27⟩ := ix_some hx25
     refine Di hx27 (fun k28 j29 => ?_)
     refine Dl ls3_0 ?_
     iterate 4 refine du ?_
     cases hF
     exact ⟨_, _, rfl, eqA, entA⟩
   rw [hg21]
   try rw [hg21] at hF; dsimp only [cond_true, cond_false] at hF
   iterate 13 refine du ?_
   cases hF
   exact ⟨_, _, rfl, eqA, entA⟩
 rintro _ _ ⟨c30, g33, rfl, rfl, hE⟩
 replace hF := hO14
 try dsimp only at hF
 refine K_ent hE ?_
 refine Ci hF (fun hb32 hF => ?_) (fun hb32 hF => ?_)
 · iterate 4 refine au ?_
   cases hF
   exact Er ()
 iterate 6 refine au ?_
 rw [wk k4]
 exact ⟨_, Nat.lt_succ_self _, _, k4 + 1, rest5, rfl, eqA, hd10, entA, hF⟩
def s_l2Copy_L1 : List Fact → Nat → (List Fact) → Option ((List Fact))
 | [], k8, c2 => some c2
 | x10 :: rest9, k8, c2 => (s_l2One x10.Rel x10.Values).bind fun r22 =>
   (app c2 ([r22] : List Fact)).bind fun z26 =>
   s_l2Copy_L1 rest9 (k8 + 1) z26
def s_l2Copy (a_l : List Fact) : Option ((List Fact)) :=
 s_l2Copy_L1 a_l 0 ([] : List Fact)
theorem s_l2Copy_ok (a_l : List Fact) (v0_0 : Sv) (R : (List Fact)) (hF : s_l2Copy a_l = some R) :
   Fw.Spec Tryz.prog 119 [v0_0.v] [crd (RdS 86 rd86) v0_0.v a_l] (fun p : Sv × List Nat => p.1.v) (fun p => [cown (OwnS 86 ow86) p.2 p.1.v R]) := by
 refine Se 27 Tryz.func119 [.tmp 2] ?_
 intro H0 F0
 unfold s_l2Copy at hF
 iterate 4 refine au ?_
 refine C_new rfl (N_buildSliceT (g := true) sl29.h ty86.h .nil (vs := []) rfl rfl rfl (by simp)) (fun k1 => ?_)
 refine Cv1 (.cons .h .nil) (own_lit (Ro := ow86) (E := 86) (F := []) (xs := ([] : List Fact)) MkL_nil rfl rfl) ?_
 iterate 6 refine au ?_
 refine CW_block (CW_loop (m := a_l.length) (fun m6 f' cs' => ∃ (g : Fr) (k8 : Nat) (rest9 : List Fact) (c2 : List Fact) (v3 : Sv) (F4 : List Nat), m6 = rest9.length ∧ f' = updL g [(0, v0_0.v), (3, v3.v), (4, (.int .i64 (k8 : Int)))] ∧ List.drop k8 a_l = rest9 ∧ Ent cs' [crd (RdS 86 rd86) v0_0.v a_l, cown (OwnS 86 ow86) F4 v3.v c2] ∧ s_l2Copy_L1 rest9 k8 c2 = some R) ⟨_, 0, _, _, ⟨(some ⟨k1, 0, none⟩), 0, 1⟩, (k1 :: []), rfl, eqA, rfl, entA, hF⟩ ?_)
 rintro m6 _ _ ⟨g7, k8, rest9, c2, v3, F4, rfl, rfl, hd11, hE, hF⟩
 refine Kb hE a_l (fun hbd16 => ?_)
 rcases rest9 with _ | ⟨x10, rest9⟩
 · have hk12 := dn hd11
   rw [s_l2Copy_L1] at hF
   iterate 7 refine au ?_
   refine CdF ?_
   iterate 9 refine au ?_
   cases hF
   exact Er (v3, F4)
 obtain ⟨hk12, hx13, hd14⟩ := drop_cons hd11
 rw [s_l2Copy_L1] at hF
 iterate 7 refine au ?_
 refine CdT ?_
 iterate 2 refine au ?_
 refine CW_draw [0, 1, 2, 3, 4, 5, 6, 7, 8, 9, 10, 11, 12, 13, 14] [0, 0, 0, 6, 14, 30, 0, 0, 192, 448, 960, 2046, 4094, 8191, 16383] [11, 13] mixed (by decide +kernel) ?_
 iterate 3 refine du ?_
 refine Di hx13 (fun k17 j18 => ?_)
 refine du ?_
 refine Dl ls86_0 ?_
 iterate 2 refine du ?_
 refine Di hx13 (fun k19 j20 => ?_)
 refine du ?_
 refine D_ldV (R' := (RdS 3 rdInt)) ag22.h rfl .no (.tmp rfl rfl) rfl .h lv86_1 (fun w21 => ?_)
 refine bnd hF fun r22 hx23 hF => Dx1 (s_l2One_ok _ _ _ _ hx23) (fun p24 => ?_)
 refine D_new rfl .no rfl (fun ha => N_buildSliceT (g := true) (len := 1) (parts := [(0, .tmp 23)]) sl29.h ty86.h (.cons (EN ha (.tmp rfl rfl) rfl) .nil) (vs := [(.agg [(.int .i64 r22.Rel), p24.1.v].toArray)]) rfl rfl rfl (by intro v hv; simp at hv; rcases hv with rfl <;> rfl)) (fun k25 => ?_)
 refine Dv1 (.cons .h (.cons .h .nil)) (own_lit (Ro := ow86) (E := 86) (F := (p24.2 ++ [])) (xs := ([r22] : List Fact)) (MkL_cons mk86 MkL_nil apps) rfl rfl) ?_
 refine bnd hF fun z26 hx27 hF => D_act1 rfl rfl .no (.cons (.t (.t (.t (.t (.t .h))))) (.cons .h .nil)) (.dep rfl .nil) (fun ha => X_appendO (Ro := ow86) sl29.h ni29 ty86.h rfl rfl rfl (EN ha (.tmp rfl rfl) rfl) (EN ha (.tmp rfl rfl) rfl) hx27 src_own) (fun p28 => ?_)
 iterate 2 refine du ?_
 iterate 5 refine au ?_
 rw [wk k8]
 exact ⟨_, Nat.lt_succ_self _, _, k8 + 1, rest9, _, p28.1, p28.2, rfl, eqA, hd14, entA, hF⟩
def s_l8Access (a_m : Int) (a_values : List Int) : Option (Access) :=
 (app ([] : List Int) a_values).bind fun z3 =>
 some ({ Method := a_m, Values := z3 } : Access)
theorem s_l8Access_ok (a_m : Int) (a_values : List Int) (v1_0 : Sv) (R : Access) (hF : s_l8Access a_m a_values = some R) :
   Fw.Spec Tryz.prog 154 [(.int .i64 a_m), v1_0.v] [crd (RdS 3 rdInt) v1_0.v a_values] (fun p : Sv × List Nat => (.agg [(.int .i64 R.Method), p.1.v].toArray)) (fun p => [cown (OwnS 3 (roE rdInt)) p.2 p.1.v R.Values]) := by
 refine Se 10 Tryz.func154 [.cell 4 130] ?_
 intro H0 F0
 unfold s_l8Access at hF
 refine au ?_
 refine AnW (fun k1 => ?_)
 iterate 3 refine au ?_
 refine C_new rfl (N_buildSliceT (g := true) sl22.h ty3.h .nil (vs := []) rfl rfl rfl (by simp)) (fun k2 => ?_)
 refine Cv1 (.cons .h .nil) (own_lit (Ro := (roE rdInt)) (E := 3) (F := []) (xs := ([] : List Int)) MkL_nil rfl rfl) ?_
 refine au ?_
 refine bnd hF fun z3 hx4 hF => C_x1 (.cons .h (.rd (.t .h) rfl .nil)) (X_appendO (Ro := (roE rdInt)) sl22.h ni22 ty3.h rfl rfl rfl (.tmp rfl rfl) (.tmp rfl rfl) hx4 src_rd) (fun p5 => ?_)
 refine C_val (V_build ty130.h rfl (vs := [(.int .i64 a_m), p5.1.v]) (.cons (.tmp rfl rfl) (.cons (.tmp rfl rfl) .nil)) (cells := [(.int .i64 a_m), p5.1.v]) rfl) ?_
 refine As (.agg [(.int .i64 a_m), p5.1.v].toArray) ?_
 iterate 2 refine au ?_
 cases hF
 exact Er (p5.1, p5.2)
def s_l8Log_L1 : List Access → Nat → (List Access) → Option ((List Access))
 | [], k8, c2 => some c2
 | x10 :: rest9, k8, c2 => (s_l8Access x10.Method x10.Values).bind fun r22 =>
   (app c2 ([r22] : List Access)).bind fun z26 =>
   s_l8Log_L1 rest9 (k8 + 1) z26
def s_l8Log (a_l : List Access) : Option ((List Access)) :=
 s_l8Log_L1 a_l 0 ([] : List Access)
theorem s_l8Log_ok (a_l : List Access) (v0_0 : Sv) (R : (List Access)) (hF : s_l8Log a_l = some R) :
   Fw.Spec Tryz.prog 120 [v0_0.v] [crd (RdS 130 rd130) v0_0.v a_l] (fun p : Sv × List Nat => p.1.v) (fun p => [cown (OwnS 130 ow130) p.2 p.1.v R]) := by
 refine Se 27 Tryz.func120 [.tmp 2] ?_
 intro H0 F0
 unfold s_l8Log at hF
 iterate 4 refine au ?_
 refine C_new rfl (N_buildSliceT (g := true) sl59.h ty130.h .nil (vs := []) rfl rfl rfl (by simp)) (fun k1 => ?_)
 refine Cv1 (.cons .h .nil) (own_lit (Ro := ow130) (E := 130) (F := []) (xs := ([] : List Access)) MkL_nil rfl rfl) ?_
 iterate 6 refine au ?_
 refine CW_block (CW_loop (m := a_l.length) (fun m6 f' cs' => ∃ (g : Fr) (k8 : Nat) (rest9 : List Access) (c2 : List Access) (v3 : Sv) (F4 : List Nat), m6 = rest9.length ∧ f' = updL g [(0, v0_0.v), (3, v3.v), (4, (.int .i64 (k8 : Int)))] ∧ List.drop k8 a_l = rest9 ∧ Ent cs' [crd (RdS 130 rd130) v0_0.v a_l, cown (OwnS 130 ow130) F4 v3.v c2] ∧ s_l8Log_L1 rest9 k8 c2 = some R) ⟨_, 0, _, _, ⟨(some ⟨k1, 0, none⟩), 0, 1⟩, (k1 :: []), rfl, eqA, rfl, entA, hF⟩ ?_)
 rintro m6 _ _ ⟨g7, k8, rest9, c2, v3, F4, rfl, rfl, hd11, hE, hF⟩
 refine Kb hE a_l (fun hbd16 => ?_)
 rcases rest9 with _ | ⟨x10, rest9⟩
 · have hk12 := dn hd11
   rw [s_l8Log_L1] at hF
   iterate 7 refine au ?_
   refine CdF ?_
   iterate 9 refine au ?_
   cases hF
   exact Er (v3, F4)
 obtain ⟨hk12, hx13, hd14⟩ := drop_cons hd11
 rw [s_l8Log_L1] at hF
 iterate 7 refine au ?_
 refine CdT ?_
 iterate 2 refine au ?_
 refine CW_draw [0, 1, 2, 3, 4, 5, 6, 7, 8, 9, 10, 11, 12, 13, 14] [0, 0, 0, 6, 14, 30, 0, 0, 192, 448, 960, 2046, 4094, 8191, 16383] [11, 13] mixed (by decide +kernel) ?_
 iterate 3 refine du ?_
 refine Di hx13 (fun k17 j18 => ?_)
 refine du ?_
 refine Dl ls130_0 ?_
 iterate 2 refine du ?_
 refine Di hx13 (fun k19 j20 => ?_)
 refine du ?_
 refine D_ldV (R' := (RdS 3 rdInt)) ag22.h rfl .no (.tmp rfl rfl) rfl .h lv130_1 (fun w21 => ?_)
 refine bnd hF fun r22 hx23 hF => Dx1 (s_l8Access_ok _ _ _ _ hx23) (fun p24 => ?_)
 refine D_new rfl .no rfl (fun ha => N_buildSliceT (g := true) (len := 1) (parts := [(0, .tmp 23)]) sl59.h ty130.h (.cons (EN ha (.tmp rfl rfl) rfl) .nil) (vs := [(.agg [(.int .i64 r22.Method), p24.1.v].toArray)]) rfl rfl rfl (by intro v hv; simp at hv; rcases hv with rfl <;> rfl)) (fun k25 => ?_)
 refine Dv1 (.cons .h (.cons .h .nil)) (own_lit (Ro := ow130) (E := 130) (F := (p24.2 ++ [])) (xs := ([r22] : List Access)) (MkL_cons mk130 MkL_nil apps) rfl rfl) ?_
 refine bnd hF fun z26 hx27 hF => D_act1 rfl rfl .no (.cons (.t (.t (.t (.t (.t .h))))) (.cons .h .nil)) (.dep rfl .nil) (fun ha => X_appendO (Ro := ow130) sl59.h ni59 ty130.h rfl rfl rfl (EN ha (.tmp rfl rfl) rfl) (EN ha (.tmp rfl rfl) rfl) hx27 src_own) (fun p28 => ?_)
 iterate 2 refine du ?_
 iterate 5 refine au ?_
 rw [wk k8]
 exact ⟨_, Nat.lt_succ_self _, _, k8 + 1, rest9, _, p28.1, p28.2, rfl, eqA, hd14, entA, hF⟩
def s_l8Copy (a_r : Reached) : Option (Reached) :=
 (s_l2Copy a_r.Facts).bind fun r5 =>
 (app ([] : List Int) a_r.Values).bind fun z8 =>
 (s_l8Log a_r.Log).bind fun r11 =>
 some ({ Facts := r5, Values := z8, Log := r11, Rounds := a_r.Rounds } : Reached)
theorem s_l8Copy_ok (a_r : Reached) (v0_0 : Sv) (v0_1 : Sv) (v0_2 : Sv) (R : Reached) (hF : s_l8Copy a_r = some R) :
   Fw.Spec Tryz.prog 85 [(.agg [v0_0.v, v0_1.v, v0_2.v, (.int .i64 a_r.Rounds)].toArray)] [crd (RdS 86 rd86) v0_0.v a_r.Facts, crd (RdS 3 rdInt) v0_1.v a_r.Values, crd (RdS 130 rd130) v0_2.v a_r.Log] (fun p : Sv × List Nat × Sv × List Nat × Sv × List Nat => (.agg [p.1.v, p.2.2.1.v, p.2.2.2.2.1.v, (.int .i64 R.Rounds)].toArray)) (fun p => [cown (OwnS 86 ow86) p.2.1 p.1.v R.Facts, cown (OwnS 3 (roE rdInt)) p.2.2.2.1 p.2.2.1.v R.Values, cown (OwnS 130 ow130) p.2.2.2.2.2 p.2.2.2.2.1.v R.Log]) := by
 refine Se 19 Tryz.func85 [.cell 2 61] ?_
 intro H0 F0
 unfold s_l8Copy at hF
 refine au ?_
 refine AbR (fun k1 => ?_)
 refine AnW (fun k2 => ?_)
 refine au ?_
 refine K_draw [0, 1, 3, 4, 5, 7, 8, 10, 2, 6, 9, 11] [0, 1, 3, 0, 0, 16, 63, 0, 128, 511, 0, 2047] [2, 6, 11] mixed (by decide +kernel) ?_
 iterate 2 refine du ?_
 refine D_new rfl .no rfl (fun ha => N_buildSliceT (g := true) (len := 0) (parts := []) sl22.h ty3.h .nil (vs := []) rfl rfl rfl (by simp)) (fun k3 => ?_)
 refine Dv1 (.cons .h .nil) (own_lit (Ro := (roE rdInt)) (E := 3) (F := []) (xs := ([] : List Int)) MkL_nil rfl rfl) ?_
 iterate 4 refine du ?_
 refine D_new rfl .no rfl (fun ha => N_allocT (g := true) ty61.h rfl rfl) (fun k4 => ?_)
 refine bnd hF fun r5 hx6 hF => D_act1 rfl rfl .no (.rd (.t (.t (.t (.t .h)))) rfl .nil) (.own .h (fun _ h => h) (.own (.t .h) (by simp [cown]) .nil)) (fun ha => X_callS cf119.h (.cons (EN ha (.tmp rfl rfl) rfl) .nil) (s_l2Copy_ok a_r.Facts v0_0 _ hx6)) (fun p7 => ?_)
 refine bnd hF fun z8 hx9 hF => D_act1 rfl rfl .no (.cons (.t (.t .h)) (.rd (.t (.t (.t (.t (.t .h))))) rfl .nil)) (.own (.t .h) (fun _ h => h) (.dep rfl .nil)) (fun ha => X_appendO (Ro := (roE rdInt)) sl22.h ni22 ty3.h rfl rfl rfl (EN ha (.tmp rfl rfl) rfl) (EN ha (.tmp rfl rfl) rfl) hx9 src_rd) (fun p10 => ?_)
 refine D_val rfl .no (fun ha => V_build ty61.h rfl (vs := [p7.1.v, p10.1.v, (.int .i64 a_r.Rounds)]) (.cons (EN ha (.tmp rfl rfl) rfl) (.cons (EN ha (.tmp rfl rfl) rfl) (.cons (EN ha (.tmp rfl rfl) rfl) .nil))) (cells := [p7.1.v, p10.1.v, (.slice none 0 0), (.int .i64 a_r.Rounds)]) rfl) ?_
 refine D_act1 rfl rfl .no (.cons (.t (.t .h)) .nil) (.dep rfl (.dep rfl .nil)) (fun ha => X_storeB (e' := (.agg [p7.1.v, p10.1.v, (.slice none 0 0), (.int .i64 a_r.Rounds)].toArray)) (v := (.agg [p7.1.v, p10.1.v, (.slice none 0 0), (.int .i64 a_r.Rounds)].toArray)) ty61.h.sz (EN ha (.tmp rfl rfl) rfl) (EN ha (.tmp rfl rfl) rfl) rfl rfl rfl rfl rfl) (fun _ => ?_)
 refine du ?_
 iterate 3 refine au ?_
 refine bnd hF fun r11 hx12 hF => Cx1 (s_l8Log_ok _ _ _ hx12) (fun p13 => ?_)
 refine au ?_
 refine As (.agg [p7.1.v, p10.1.v, p13.1.v, (.int .i64 a_r.Rounds)].toArray) ?_
 iterate 3 refine au ?_
 refine As (.agg [p7.1.v, p10.1.v, p13.1.v, (.int .i64 a_r.Rounds)].toArray) ?_
 iterate 2 refine au ?_
 cases hF
 exact Er (p7.1, p7.2, p10.1, p10.2, p13.1, p13.2)
def s_l8Lists_L5 (c207 : List (List Int)) (c212 : Int) : List Int → Nat → (List (List Int)) → Option ((List (List Int)))
 | [], k229, c223 => some c223
 | x231 :: rest230, k229, c223 => (ix c207 c212).bind fun x239 =>
   (app ([] : List Int) x239).bind fun z249 =>
   (app z249 ([x231] : List Int)).bind fun z252 =>
   (app c223 ([z252] : List (List Int))).bind fun z256 =>
   s_l8Lists_L5 c207 c212 rest230 (k229 + 1) z256
def s_l8Lists_L2 (a_values : List Int) : Nat → (List (List Int)) → (List (List Int)) → Int → Option ((List (List Int)))
 | 0, _, _, _ => none
 | m213 + 1, c207, c209, c212 => if (decide ((c212 : Int) < (c207.length : Int))) then (
     (s_l8Lists_L5 c207 c212 a_values 0 c209).bind fun o221 =>
     match o221 with
     | c260 => s_l8Lists_L2 a_values m213 c207 c260 (IntKind.i64.wrap (c212 + 1)))
   else (
     some c209)
def s_l8Lists_L1 (a_values : List Int) (a_n : Int) : Nat → (List (List Int)) → Int → Option ((List (List Int)))
 | 0, _, _ => none
 | m7 + 1, c3, c6 => if (decide ((c6 : Int) < a_n)) then (
     (s_l8Lists_L2 a_values (((c3.length : Int) - 0).toNat + 2) c3 ([] : List (List Int)) 0).bind fun o15 =>
     match o15 with
     | c265 => s_l8Lists_L1 a_values a_n m7 c265 (IntKind.i64.wrap (c6 + 1)))
   else (
     some c3)
def s_l8Lists (a_values : List Int) (a_n : Int) : Option ((List (List Int))) :=
 s_l8Lists_L1 a_values a_n ((a_n - 0).toNat + 2) ([([] : List Int)] : List (List Int)) 0
theorem s_l8Lists_ok (a_values : List Int) (v0_0 : Sv) (a_n : Int) (R : (List (List Int))) (hF : s_l8Lists a_values a_n = some R) :
   Fw.Spec Tryz.prog 155 [v0_0.v, (.int .i64 a_n)] [crd (RdS 3 rdInt) v0_0.v a_values] (fun p : Sv × List Nat => p.1.v) (fun p => [cown (OwnS 22 (OwnS 3 (roE rdInt))) p.2 p.1.v R]) := by
 refine Se 47 Tryz.func155 [.tmp 4] ?_
 intro H0 F0
 unfold s_l8Lists at hF
 iterate 4 refine au ?_
 refine C_new rfl (N_buildSliceT (g := true) sl22.h ty3.h .nil (vs := []) rfl rfl rfl (by simp)) (fun k1 => ?_)
 refine Cv1 (.cons .h .nil) (own_lit (Ro := (roE rdInt)) (E := 3) (F := []) (xs := ([] : List Int)) MkL_nil rfl rfl) ?_
 refine C_new rfl (N_buildSliceT (g := true) sl153.h ty22.h (.cons (.tmp rfl rfl) .nil) (vs := [(.slice (some ⟨k1, 0, none⟩) 0 1)]) rfl rfl rfl (by intro v hv; simp at hv; rcases hv with rfl <;> rfl)) (fun k2 => ?_)
 refine Cv1 (.cons .h (.cons .h .nil)) (own_lit (Ro := (OwnS 3 (roE rdInt))) (E := 22) (F := ((k1 :: []) ++ [])) (xs := ([([] : List Int)] : List (List Int))) (MkL_cons Mk_own MkL_nil apps) rfl rfl) ?_
 iterate 6 refine au ?_
 refine CW_block (CW_loop (m := ((a_n - 0).toNat + 2)) (fun m7 f' cs' => ∃ (g : Fr) (c3 : List (List Int)) (c6 : Int) (v4 : Sv) (F5 : List Nat), f' = updL g [(0, v0_0.v), (1, (.int .i64 a_n)), (5, v4.v), (6, (.int .i64 c6))] ∧ Ent cs' [crd (RdS 3 rdInt) v0_0.v a_values, cown (OwnS 22 (OwnS 3 (roE rdInt))) F5 v4.v c3] ∧ s_l8Lists_L1 a_values a_n m7 c3 c6 = some R) ⟨_, _, _, ⟨(some ⟨k2, 0, none⟩), 1, 1⟩, (k2 :: ((k1 :: []) ++ [])), eqA, entA, hF⟩ ?_)
 rintro m7 _ _ ⟨g8, c3, c6, v4, F5, rfl, hE, hF⟩
 refine K_ent hE ?_
 rcases m7 with _ | m7
 · rw [s_l8Lists_L1] at hF
   exact absurd hF (by simp)
 rw [s_l8Lists_L1] at hF
 iterate 6 refine au ?_
 refine Ci hF (fun hb269 hF => ?_) (fun hb269 hF => ?_)
 · refine au ?_
   obtain ⟨o15, hio15, hO16⟩ := bind_some hF
   refine K_cut (fun f' cs' => ∃ (c265 : List (List Int)) (v266 : Sv) (F267 : List Nat) (g : Fr), c265 = o15 ∧ f' = updL g [(0, v0_0.v), (1, (.int .i64 a_n)), (5, v266.v), (6, (.int .i64 c6))] ∧ Ent cs' [crd (RdS 3 rdInt) v0_0.v a_values, cown (OwnS 22 (OwnS 3 (roE rdInt))) F267 v266.v c265]) ?_ ?_
   · replace hF := hio15
     refine CW_block (K_region (C_new rfl (N_buildSliceT (g := true) sl153.h ty22.h .nil (vs := []) rfl rfl rfl (by simp)) (fun k17 => ?_)))
     refine Cv1 (.cons .h .nil) (own_lit (Ro := (OwnS 3 (roE rdInt))) (E := 22) (F := []) (xs := ([] : List (List Int))) MkL_nil rfl rfl) ?_
     iterate 6 refine au ?_
     refine CW_block (CW_loop (m := (((c3.length : Int) - 0).toNat + 2)) (fun m213 f' cs' => ∃ (g : Fr) (c207 : List (List Int)) (c209 : List (List Int)) (c212 : Int) (v208 : Sv) (v210 : Sv) (F211 : List Nat), f' = updL g [(0, v0_0.v), (1, (.int .i64 a_n)), (5, v208.v), (6, (.int .i64 c6)), (7, v210.v), (8, (.int .i64 c212))] ∧ Ent cs' [crd (RdS 3 rdInt) v0_0.v a_values, crd (RdS 22 (RdS 3 rdInt)) v208.v c207, cown (OwnS 22 (OwnS 3 (roE rdInt))) F211 v210.v c209] ∧ s_l8Lists_L2 a_values m213 c207 c209 c212 = some o15) ⟨_, _, _, _, v4, ⟨(some ⟨k17, 0, none⟩), 0, 1⟩, (k17 :: []), eqA, (.frz (.t (.t .h)) frz_own entA), hF⟩ ?_)
     rintro m213 _ _ ⟨g214, c207, c209, c212, v208, v210, F211, rfl, hE, hF⟩
     refine K_ent hE ?_
     rcases m213 with _ | m213
     · rw [s_l8Lists_L2] at hF
       exact absurd hF (by simp)
     rw [s_l8Lists_L2] at hF
     iterate 7 refine au ?_
     refine Ci hF (fun hb264 hF => ?_) (fun hb264 hF => ?_)
     · refine au ?_
       obtain ⟨o221, hio221, hO222⟩ := bind_some hF
       refine K_cut (fun f' cs' => ∃ (c260 : List (List Int)) (v261 : Sv) (F262 : List Nat) (g : Fr), c260 = o221 ∧ f' = updL g [(0, v0_0.v), (1, (.int .i64 a_n)), (5, v208.v), (6, (.int .i64 c6)), (7, v261.v), (8, (.int .i64 c212))] ∧ Ent cs' [crd (RdS 3 rdInt) v0_0.v a_values, crd (RdS 22 (RdS 3 rdInt)) v208.v c207, cown (OwnS 22 (OwnS 3 (roE rdInt))) F262 v261.v c260]) ?_ ?_
       · replace hF := hio221
         refine CW_block (K_region (C_val (V_assign (v := (.int .i64 0)) (.int _ _)) ?_))
         refine au ?_
         refine CW_block (CW_loop (m := a_values.length) (fun m227 f' cs' => ∃ (g : Fr) (k229 : Nat) (rest230 : List Int) (c223 : List (List Int)) (v224 : Sv) (F225 : List Nat), m227 = rest230.length ∧ f' = updL g [(0, v0_0.v), (1, (.int .i64 a_n)), (5, v208.v), (6, (.int .i64 c6)), (7, v224.v), (8, (.int .i64 c212)), (9, (.int .i64 (k229 : Int)))] ∧ List.drop k229 a_values = rest230 ∧ Ent cs' [crd (RdS 3 rdInt) v0_0.v a_values, crd (RdS 22 (RdS 3 rdInt)) v208.v c207, cown (OwnS 22 (OwnS 3 (roE rdInt))) F225 v224.v c223] ∧ s_l8Lists_L5 c207 c212 rest230 k229 c223 = some o221) ⟨_, 0, _, _, v210, F211, rfl, eqA, rfl, entA, hF⟩ ?_)
         rintro m227 _ _ ⟨g228, k229, rest230, c223, v224, F225, rfl, rfl, hd232, hE, hF⟩
         refine Kb hE a_values (fun hbd237 => ?_)
         rcases rest230 with _ | ⟨x231, rest230⟩
         · have hk233 := dn hd232
           rw [s_l8Lists_L5] at hF
           iterate 7 refine au ?_
           refine CdF ?_
           iterate 4 refine au ?_
           cases hF
           exact ⟨_, v224, F225, _, rfl, eqA, entA⟩
         obtain ⟨hk233, hx234, hd235⟩ := drop_cons hd232
         rw [s_l8Lists_L5] at hF
         iterate 7 refine au ?_
         refine CdT ?_
         iterate 2 refine au ?_
         refine CW_draw [0, 1, 2, 3, 4, 5, 7, 8, 9, 10, 11, 6, 12, 13, 14, 15] [0, 0, 0, 0, 12, 28, 62, 0, 0, 384, 896, 1920, 4094, 8190, 16383, 32767] [6, 12, 14] mixed (by decide +kernel) ?_
         refine du ?_
         refine D_new rfl .no rfl (fun ha => N_buildSliceT (g := true) (len := 0) (parts := []) sl22.h ty3.h .nil (vs := []) rfl rfl rfl (by simp)) (fun k238 => ?_)
         refine Dv1 (.cons .h .nil) (own_lit (Ro := (roE rdInt)) (E := 3) (F := []) (xs := ([] : List Int)) MkL_nil rfl rfl) ?_
         iterate 2 refine du ?_
         refine bnd hF fun x239 hx240 hF => ?_
         obtain ⟨hp241, hx242⟩ := ix_some hx240
         refine Di hx242 (fun k243 j244 => ?_)
         refine D_ldV (R' := (RdS 3 rdInt)) ag22.h rfl .no (.tmp rfl rfl) rfl .h lv22_0 (fun w245 => ?_)
         iterate 2 refine du ?_
         refine Di hx234 (fun k246 j247 => ?_)
         refine Dl ls3_0 ?_
         refine D_new rfl .no rfl (fun ha => N_buildSliceT (g := true) (len := 1) (parts := [(0, .tmp 40)]) sl22.h ty3.h (.cons (EN ha (.tmp rfl rfl) rfl) .nil) (vs := [(.int .i64 x231)]) rfl rfl rfl (by intro v hv; simp at hv; rcases hv with rfl <;> rfl)) (fun k248 => ?_)
         refine Dv1 (.cons .h .nil) (own_lit (Ro := (roE rdInt)) (E := 3) (F := ([] ++ [])) (xs := ([x231] : List Int)) (MkL_cons (Mk_pure (fun _ => rfl)) MkL_nil apps) rfl rfl) ?_
         refine bnd hF fun z249 hx250 hF => D_act1 rfl rfl .no (.cons (.t (.t (.t (.t .h)))) (.rd (.t (.t .h)) rfl .nil)) (.own .h (by simp [cown]) (.dep rfl .nil)) (fun ha => X_appendO (Ro := (roE rdInt)) sl22.h ni22 ty3.h rfl rfl rfl (EN ha (.tmp rfl rfl) rfl) (EN ha (.tmp rfl rfl) rfl) hx250 src_rd) (fun p251 => ?_)
         refine bnd hF fun z252 hx253 hF => D_act1 rfl rfl .no (.cons .h (.cons .h .nil)) (.dep rfl (.dep rfl .nil)) (fun ha => X_appendO (Ro := (roE rdInt)) sl22.h ni22 ty3.h rfl rfl rfl (EN ha (.tmp rfl rfl) rfl) (EN ha (.tmp rfl rfl) rfl) hx253 src_own) (fun p254 => ?_)
         refine D_new rfl .no rfl (fun ha => N_buildSliceT (g := true) (len := 1) (parts := [(0, .tmp 42)]) sl153.h ty22.h (.cons (EN ha (.tmp rfl rfl) rfl) .nil) (vs := [p254.1.v]) rfl rfl rfl (by intro v hv; simp at hv; rcases hv with rfl <;> rfl)) (fun k255 => ?_)
         refine Dv1 (.cons .h (.cons .h .nil)) (own_lit (Ro := (OwnS 3 (roE rdInt))) (E := 22) (F := (p254.2 ++ [])) (xs := ([z252] : List (List Int))) (MkL_cons Mk_own MkL_nil apps) rfl rfl) ?_
         refine bnd hF fun z256 hx257 hF => D_act1 rfl rfl .no (.cons (.t (.t (.t (.t (.t (.t .h)))))) (.cons .h .nil)) (.dep rfl (.dep rfl (.dep rfl .nil))) (fun ha => X_appendO (Ro := (OwnS 3 (roE rdInt))) sl153.h ni153 ty22.h rfl rfl rfl (EN ha (.tmp rfl rfl) rfl) (EN ha (.tmp rfl rfl) rfl) hx257 src_own) (fun p258 => ?_)
         iterate 2 refine du ?_
         iterate 5 refine au ?_
         rw [wk k229]
         exact ⟨_, Nat.lt_succ_self _, _, k229 + 1, rest230, _, p258.1, p258.2, rfl, eqA, hd235, entA, hF⟩
       rintro _ _ ⟨c260, v261, F262, g263, rfl, rfl, hE⟩
       replace hF := hO222
       try dsimp only at hF
       refine K_ent hE ?_
       iterate 5 refine au ?_
       exact ⟨m213, Nat.lt_succ_self _, _, _, _, _, v208, v261, F262, eqA, entA, hF⟩
     iterate 8 refine au ?_
     cases hF
     exact ⟨_, v210, F211, _, rfl, eqA, entA⟩
   rintro _ _ ⟨c265, v266, F267, g268, rfl, rfl, hE⟩
   replace hF := hO16
   try dsimp only at hF
   refine K_ent hE ?_
   iterate 5 refine au ?_
   exact ⟨m7, Nat.lt_succ_self _, _, _, _, v266, F267, eqA, entA, hF⟩
 iterate 9 refine au ?_
 cases hF
 exact Er (v4, F5)
def s_l5Same (a_a : Access) (a_b : Access) : Option (Bool) :=
 (bif ((a_a.Method : Int) == a_b.Method) then ((s_l2Ints a_a.Values a_b.Values).bind fun r6 =>
     some r6)
   else (some false)).bind fun o3 =>
 match o3 with
 | c9 => some c9
theorem s_l5Same_ok (a_a : Access) (v0_1 : Sv) (a_b : Access) (v1_1 : Sv) (R : Bool) (hF : s_l5Same a_a a_b = some R) :
   Fw.Spec Tryz.prog 190 [(.agg [(.int .i64 a_a.Method), v0_1.v].toArray), (.agg [(.int .i64 a_b.Method), v1_1.v].toArray)] [crd (RdS 3 rdInt) v0_1.v a_a.Values, crd (RdS 3 rdInt) v1_1.v a_b.Values] (fun _ : Unit => (.bool R)) (fun _ => []) := by
 refine Se 17 Tryz.func190 [.tmp 4] ?_
 intro H0 F0
 unfold s_l5Same at hF
 refine au ?_
 refine AbR (fun k1 => ?_)
 refine AbR (fun k2 => ?_)
 iterate 2 refine au ?_
 obtain ⟨o3, hio3, hO4⟩ := bind_some hF
 refine au ?_
 refine C_cut (fun f' cs' => ∃ (c9 : Bool) (g : Fr), c9 = o3 ∧ f' = updL g [(4, (.bool c9))] ∧ Ent cs' []) ?_ ?_
 · replace hF := hio3
   iterate 6 refine au ?_
   rcases Bool.eq_false_or_eq_true ((a_a.Method : Int) == a_b.Method) with hg5 | hg5
   · rw [hg5]
     try rw [hg5] at hF; dsimp only [cond_true, cond_false] at hF
     iterate 9 refine au ?_
     refine bnd hF fun r6 hx7 hF => Cx0 (s_l2Ints_ok _ _ _ _ _ hx7) (fun _ => ?_)
     iterate 3 refine au ?_
     cases hF
     exact ⟨_, _, rfl, eqA, entA⟩
   rw [hg5]
   try rw [hg5] at hF; dsimp only [cond_true, cond_false] at hF
   iterate 8 refine au ?_
   cases hF
   exact ⟨_, _, rfl, eqA, entA⟩
 rintro _ _ ⟨c9, g10, rfl, rfl, hE⟩
 replace hF := hO4
 try dsimp only at hF
 refine K_ent hE ?_
 refine au ?_
 cases hF
 exact Er ()
def s_l7Logged_L1 (a_a : Access) : List Access → Nat → Option (Bool)
 | [], k5 => some false
 | x7 :: rest6, k5 => (s_l5Same x7 a_a).bind fun r17 =>
   if r17 then (
     some true)
   else (
     s_l7Logged_L1 a_a rest6 (k5 + 1))
def s_l7Logged (a_log : List Access) (a_a : Access) : Option (Bool) :=
 s_l7Logged_L1 a_a a_log 0
theorem s_l7Logged_ok (a_log : List Access) (v0_0 : Sv) (a_a : Access) (v1_1 : Sv) (R : Bool) (hF : s_l7Logged a_log a_a = some R) :
   Fw.Spec Tryz.prog 156 [v0_0.v, (.agg [(.int .i64 a_a.Method), v1_1.v].toArray)] [crd (RdS 130 rd130) v0_0.v a_log, crd (RdS 3 rdInt) v1_1.v a_a.Values] (fun _ : Unit => (.bool R)) (fun _ => []) := by
 refine Se 18 Tryz.func156 [.tmp 4] ?_
 intro H0 F0
 unfold s_l7Logged at hF
 refine au ?_
 refine AbR (fun k1 => ?_)
 iterate 6 refine au ?_
 refine CW_block (CW_loop (m := a_log.length) (fun m3 f' cs' => ∃ (g : Fr) (k5 : Nat) (rest6 : List Access), m3 = rest6.length ∧ f' = updL g [(0, v0_0.v), (3, (pz k1)), (5, (.int .i64 (k5 : Int)))] ∧ List.drop k5 a_log = rest6 ∧ Ent cs' [crd (RdS 130 rd130) v0_0.v a_log, cboR k1 130 (.agg [(.int .i64 a_a.Method), v1_1.v].toArray), crd (RdS 3 rdInt) v1_1.v a_a.Values] ∧ s_l7Logged_L1 a_a rest6 k5 = some R) ⟨_, 0, _, rfl, eqA, rfl, entA, hF⟩ ?_)
 rintro m3 _ _ ⟨g4, k5, rest6, rfl, rfl, hd8, hE, hF⟩
 refine Kb hE a_log (fun hbd13 => ?_)
 rcases rest6 with _ | ⟨x7, rest6⟩
 · have hk9 := dn hd8
   rw [s_l7Logged_L1] at hF
   iterate 7 refine au ?_
   refine CdF ?_
   iterate 8 refine au ?_
   cases hF
   exact Er ()
 obtain ⟨hk9, hx10, hd11⟩ := drop_cons hd8
 rw [s_l7Logged_L1] at hF
 iterate 7 refine au ?_
 refine CdT ?_
 iterate 2 refine au ?_
 refine K_draw [0, 1, 2, 3, 4, 5] [0, 0, 3, 7, 0, 31] [5] mixed (by decide +kernel) ?_
 iterate 2 refine du ?_
 refine Di hx10 (fun k14 j15 => ?_)
 refine DlA1 (ul130_0_130 x7) la130_0_130 (fun p16 => ?_)
 refine du ?_
 refine bnd hF fun r17 hx18 hF => Dx0 (s_l5Same_ok _ _ _ _ _ hx18) (fun _ => ?_)
 refine du ?_
 refine Ci hF (fun hb21 hF => ?_) (fun hb21 hF => ?_)
 · iterate 4 refine au ?_
   cases hF
   exact Er ()
 iterate 6 refine au ?_
 rw [wk k5]
 exact ⟨_, Nat.lt_succ_self _, _, k5 + 1, rest6, rfl, eqA, hd11, entA, hF⟩
def s_l8Open_L2 (a_r : Reached) (k9 : Nat) : List (List Int) → Nat → (List Access) → Option ((List Access))
 | [], k70, c64 => some c64
 | x72 :: rest71, k70, c64 => ((s_l8Access (k9 : Int) x72).bind fun r84 =>
     (s_l7Logged a_r.Log r84).bind fun r88 =>
     if (!r88) then (
       (app c64 ([r84] : List Access)).bind fun z92 =>
       some z92)
     else (
       some c64)).bind fun o79 =>
   match o79 with
   | c96 => s_l8Open_L2 a_r k9 rest71 (k70 + 1) c96
def s_l8Open_L1 (a_r : Reached) : List Method → Nat → (List Access) → Option ((List Access))
 | [], k9, c3 => some c3
 | x11 :: rest10, k9, c3 => (if ((x11.Limit : Int) != 0) then (
       some c3)
     else (
       (s_l8Lists a_r.Values (x11.Inputs.length : Int)).bind fun r25 =>
       s_l8Open_L2 a_r k9 r25 0 c3)).bind fun o18 =>
   match o18 with
   | c102 => s_l8Open_L1 a_r rest10 (k9 + 1) c102
def s_l8Open (a_l : List Method) (a_r : Reached) : Option ((List Access)) :=
 s_l8Open_L1 a_r a_l 0 ([] : List Access)
theorem s_l8Open_ok (a_l : List Method) (v0_0 : Sv) (a_r : Reached) (v1_0 : Sv) (v1_1 : Sv) (v1_2 : Sv) (R : (List Access)) (hF : s_l8Open a_l a_r = some R) :
   Fw.Spec Tryz.prog 121 [v0_0.v, (.agg [v1_0.v, v1_1.v, v1_2.v, (.int .i64 a_r.Rounds)].toArray)] [crd (RdS 65 rd65) v0_0.v a_l, crd (RdS 86 rd86) v1_0.v a_r.Facts, crd (RdS 3 rdInt) v1_1.v a_r.Values, crd (RdS 130 rd130) v1_2.v a_r.Log] (fun p : Sv × List Nat => p.1.v) (fun p => [cown (OwnS 130 ow130) p.2 p.1.v R]) := by
 refine Se 54 Tryz.func121 [.tmp 4] ?_
 intro H0 F0
 unfold s_l8Open at hF
 refine au ?_
 refine AbR (fun k1 => ?_)
 iterate 3 refine au ?_
 refine C_new rfl (N_buildSliceT (g := true) sl59.h ty130.h .nil (vs := []) rfl rfl rfl (by simp)) (fun k2 => ?_)
 refine Cv1 (.cons .h .nil) (own_lit (Ro := ow130) (E := 130) (F := []) (xs := ([] : List Access)) MkL_nil rfl rfl) ?_
 iterate 6 refine au ?_
 refine CW_block (CW_loop (m := a_l.length) (fun m7 f' cs' => ∃ (g : Fr) (k9 : Nat) (rest10 : List Method) (c3 : List Access) (v4 : Sv) (F5 : List Nat), m7 = rest10.length ∧ f' = updL g [(0, v0_0.v), (3, (pz k1)), (5, v4.v), (6, (.int .i64 (k9 : Int)))] ∧ List.drop k9 a_l = rest10 ∧ Ent cs' [crd (RdS 65 rd65) v0_0.v a_l, cboR k1 61 (.agg [v1_0.v, v1_1.v, v1_2.v, (.int .i64 a_r.Rounds)].toArray), crd (RdS 86 rd86) v1_0.v a_r.Facts, crd (RdS 3 rdInt) v1_1.v a_r.Values, crd (RdS 130 rd130) v1_2.v a_r.Log, cown (OwnS 130 ow130) F5 v4.v c3] ∧ s_l8Open_L1 a_r rest10 k9 c3 = some R) ⟨_, 0, _, _, ⟨(some ⟨k2, 0, none⟩), 0, 1⟩, (k2 :: []), rfl, eqA, rfl, entA, hF⟩ ?_)
 rintro m7 _ _ ⟨g8, k9, rest10, c3, v4, F5, rfl, rfl, hd12, hE, hF⟩
 refine Kb hE a_l (fun hbd17 => ?_)
 rcases rest10 with _ | ⟨x11, rest10⟩
 · have hk13 := dn hd12
   rw [s_l8Open_L1] at hF
   iterate 7 refine au ?_
   refine CdF ?_
   iterate 9 refine au ?_
   cases hF
   exact Er (v4, F5)
 obtain ⟨hk13, hx14, hd15⟩ := drop_cons hd12
 rw [s_l8Open_L1] at hF
 iterate 7 refine au ?_
 refine CdT ?_
 refine au ?_
 obtain ⟨o18, hio18, hO19⟩ := bind_some hF
 refine K_cut (fun f' cs' => ∃ (c102 : List Access) (v103 : Sv) (F104 : List Nat) (g : Fr), c102 = o18 ∧ f' = updL g [(0, v0_0.v), (3, (pz k1)), (5, v103.v), (6, (.int .i64 (k9 : Int)))] ∧ Ent cs' [crd (RdS 65 rd65) v0_0.v a_l, cboR k1 61 (.agg [v1_0.v, v1_1.v, v1_2.v, (.int .i64 a_r.Rounds)].toArray), crd (RdS 86 rd86) v1_0.v a_r.Facts, crd (RdS 3 rdInt) v1_1.v a_r.Values, crd (RdS 130 rd130) v1_2.v a_r.Log, cown (OwnS 130 ow130) F104 v103.v c102]) ?_ ?_
 · replace hF := hio18
   refine CW_block (K_in (K_region (Cm v0_0.v rfl rfl ?_)))
   refine au ?_
   refine Ai hx14 (fun k20 j21 => ?_)
   refine au ?_
   refine Al ls65_2 ?_
   iterate 2 refine au ?_
   refine Ci hF (fun hb101 hF => ?_) (fun hb101 hF => ?_)
   · iterate 3 refine au ?_
     cases hF
     exact ⟨_, v4, F5, _, rfl, eqA, entA⟩
   refine au ?_
   refine K_draw [0, 1, 2, 3, 4, 5, 6, 7, 8, 9] [0, 1, 0, 0, 12, 28, 60, 124, 255, 511] [8] mixed (by decide +kernel) ?_
   iterate 4 refine du ?_
   refine Di hx14 (fun k22 j23 => ?_)
   refine du ?_
   refine D_ldV (R' := (RdS 3 rdInt)) ag22.h rfl .no (.tmp rfl rfl) rfl .h lv65_1 (fun w24 => ?_)
   refine du ?_
   refine bnd hF fun r25 hx26 hF => Dx1 (s_l8Lists_ok _ _ _ _ hx26) (fun p27 => ?_)
   iterate 2 refine du ?_
   iterate 3 refine au ?_
   refine CW_block (K_frz .h frz_own ?_)
   refine CW_loop (m := r25.length) (fun m68 f' cs' => ∃ (g : Fr) (k70 : Nat) (rest71 : List (List Int)) (c64 : List Access) (v65 : Sv) (F66 : List Nat), m68 = rest71.length ∧ f' = updL g [(0, v0_0.v), (3, (pz k1)), (5, v65.v), (6, (.int .i64 (k9 : Int))), (7, p27.1.v), (8, (.int .i64 (k70 : Int)))] ∧ List.drop k70 r25 = rest71 ∧ Ent cs' [crd (RdS 65 rd65) v0_0.v a_l, cboR k1 61 (.agg [v1_0.v, v1_1.v, v1_2.v, (.int .i64 a_r.Rounds)].toArray), crd (RdS 86 rd86) v1_0.v a_r.Facts, crd (RdS 3 rdInt) v1_1.v a_r.Values, crd (RdS 130 rd130) v1_2.v a_r.Log, cown (OwnS 130 ow130) F66 v65.v c64, crd (RdS 22 (RdS 3 rdInt)) p27.1.v r25] ∧ s_l8Open_L2 a_r k9 rest71 k70 c64 = some o18) ⟨_, 0, _, _, v4, F5, rfl, eqA, rfl, entA, hF⟩ ?_
   rintro m68 _ _ ⟨g69, k70, rest71, c64, v65, F66, rfl, rfl, hd73, hE, hF⟩
   refine Kb hE r25 (fun hbd78 => ?_)
   rcases rest71 with _ | ⟨x72, rest71⟩
   · have hk74 := dn hd73
     rw [s_l8Open_L2] at hF
     iterate 7 refine au ?_
     refine CdF ?_
     iterate 4 refine au ?_
     cases hF
     exact ⟨_, v65, F66, _, rfl, eqA, entA⟩
   obtain ⟨hk74, hx75, hd76⟩ := drop_cons hd73
   rw [s_l8Open_L2] at hF
   iterate 7 refine au ?_
   refine CdT ?_
   refine au ?_
   obtain ⟨o79, hio79, hO80⟩ := bind_some hF
   refine K_cut (fun f' cs' => ∃ (c96 : List Access) (v97 : Sv) (F98 : List Nat) (g : Fr), c96 = o79 ∧ f' = updL g [(0, v0_0.v), (3, (pz k1)), (5, v97.v), (6, (.int .i64 (k9 : Int))), (7, p27.1.v), (8, (.int .i64 (k70 : Int)))] ∧ Ent cs' [crd (RdS 65 rd65) v0_0.v a_l, cboR k1 61 (.agg [v1_0.v, v1_1.v, v1_2.v, (.int .i64 a_r.Rounds)].toArray), crd (RdS 86 rd86) v1_0.v a_r.Facts, crd (RdS 3 rdInt) v1_1.v a_r.Values, crd (RdS 130 rd130) v1_2.v a_r.Log, cown (OwnS 130 ow130) F98 v97.v c96, crd (RdS 22 (RdS 3 rdInt)) p27.1.v r25]) ?_ ?_
   · replace hF := hio79
     refine CW_block (K_region (Cm (.int .i64 (k9 : Int)) rfl rfl ?_))
     iterate 2 refine au ?_
     refine Ai hx75 (fun k81 j82 => ?_)
     refine C_ldV (R' := (RdS 3 rdInt)) ag22.h (.tmp rfl rfl) .h lv22_0 (fun w83 => ?_)
     refine bnd hF fun r84 hx85 hF => Cx1 (s_l8Access_ok _ _ _ _ hx85) (fun p86 => ?_)
     refine AnW (fun k87 => ?_)
     refine As (.agg [(.int .i64 r84.Method), p86.1.v].toArray) ?_
     iterate 5 refine au ?_
     refine bnd hF fun r88 hx89 hF => C_x1 (.cons (.t .h) (.rd (.t (.t (.t (.t (.t (.t (.t .h))))))) rfl .nil)) (XC_bor frz_own (fun _ => .nil) (XC_pre (.rd (.t .h) rfl (.rd .h rfl .nil)) (X_callS cf156.h (.cons (.tmp rfl rfl) (.cons (.tmp rfl rfl) .nil)) (s_l7Logged_ok a_r.Log v1_2 r84 p86.1 _ hx89)))) (fun _ => ?_)
     iterate 2 refine au ?_
     refine Ci hF (fun hb95 hF => ?_) (fun hb95 hF => ?_)
     · iterate 3 refine au ?_
       refine C_new rfl (N_buildSliceT (g := true) sl59.h ty130.h (.cons (.tmp rfl rfl) .nil) (vs := [(.agg [(.int .i64 r84.Method), p86.1.v].toArray)]) rfl rfl rfl (by intro v hv; simp at hv; rcases hv with rfl <;> rfl)) (fun k91 => ?_)
       refine Cv1 (.cons .h (.cons .h .nil)) (own_lit (Ro := ow130) (E := 130) (F := (p86.2 ++ [])) (xs := ([r84] : List Access)) (MkL_cons mk130 MkL_nil apps) rfl rfl) ?_
       refine bnd hF fun z92 hx93 hF => C_x1 (.cons (.t (.t (.t (.t (.t (.t (.t (.t (.t .h))))))))) (.cons .h .nil)) (X_appendO (Ro := ow130) sl59.h ni59 ty130.h rfl rfl rfl (.tmp rfl rfl) (.tmp rfl rfl) hx93 src_own) (fun p94 => ?_)
       iterate 2 refine au ?_
       cases hF
       exact ⟨_, p94.1, p94.2, _, rfl, eqA, entA⟩
     refine au ?_
     cases hF
     exact ⟨_, v65, F66, _, rfl, eqA, entA⟩
   rintro _ _ ⟨c96, v97, F98, g100, rfl, rfl, hE⟩
   replace hF := hO80
   try dsimp only at hF
   refine K_ent hE ?_
   iterate 5 refine au ?_
   rw [wk k70]
   exact ⟨_, Nat.lt_succ_self _, _, k70 + 1, rest71, _, v97, F98, rfl, eqA, hd76, entA, hF⟩
 rintro _ _ ⟨c102, v103, F104, g106, rfl, rfl, hE⟩
 replace hF := hO19
 try dsimp only at hF
 refine K_ent hE ?_
 iterate 5 refine au ?_
 rw [wk k9]
 exact ⟨_, Nat.lt_succ_self _, _, k9 + 1, rest10, _, v103, F104, rfl, eqA, hd15, entA, hF⟩
def s_l5Fits_L1 (a_values : List Int) (a_f : Fact) : List Int → Nat → Option (Bool)
 | [], k6 => some true
 | x8 :: rest7, k6 => (ix a_f.Values x8).bind fun x17 =>
   (ix a_values (k6 : Int)).bind fun x23 =>
   if ((x17 : Int) != x23) then (
     some false)
   else (
     s_l5Fits_L1 a_values a_f rest7 (k6 + 1))
def s_l5Fits (a_m : Method) (a_values : List Int) (a_f : Fact) : Option (Bool) :=
 if ((a_f.Rel : Int) != a_m.Rel) then (
   some false)
 else (
   s_l5Fits_L1 a_values a_f a_m.Inputs 0)
theorem s_l5Fits_ok (a_m : Method) (v0_1 : Sv) (a_values : List Int) (v1_0 : Sv) (a_f : Fact) (v2_1 : Sv) (R : Bool) (hF : s_l5Fits a_m a_values a_f = some R) :
   Fw.Spec Tryz.prog 157 [(.agg [(.int .i64 a_m.Rel), v0_1.v, (.int .i64 a_m.Limit), (.int .i64 a_m.Cost), (.int .i64 a_m.Quota)].toArray), v1_0.v, (.agg [(.int .i64 a_f.Rel), v2_1.v].toArray)] [crd (RdS 3 rdInt) v0_1.v a_m.Inputs, crd (RdS 3 rdInt) v1_0.v a_values, crd (RdS 3 rdInt) v2_1.v a_f.Values] (fun _ : Unit => (.bool R)) (fun _ => []) := by
 refine Se 34 Tryz.func157 [.tmp 6] ?_
 intro H0 F0
 unfold s_l5Fits at hF
 refine au ?_
 refine AbR (fun k1 => ?_)
 refine AbR (fun k2 => ?_)
 iterate 10 refine au ?_
 refine Ci hF (fun hb31 hF => ?_) (fun hb31 hF => ?_)
 · iterate 4 refine au ?_
   cases hF
   exact Er ()
 iterate 5 refine au ?_
 refine CW_block (CW_loop (m := a_m.Inputs.length) (fun m4 f' cs' => ∃ (g : Fr) (k6 : Nat) (rest7 : List Int), m4 = rest7.length ∧ f' = updL g [(1, v1_0.v), (3, (pz k1)), (5, (pz k2)), (7, (.int .i64 (k6 : Int)))] ∧ List.drop k6 a_m.Inputs = rest7 ∧ Ent cs' [crd (RdS 3 rdInt) v1_0.v a_values, cboR k1 65 (.agg [(.int .i64 a_m.Rel), v0_1.v, (.int .i64 a_m.Limit), (.int .i64 a_m.Cost), (.int .i64 a_m.Quota)].toArray), crd (RdS 3 rdInt) v0_1.v a_m.Inputs, cboR k2 86 (.agg [(.int .i64 a_f.Rel), v2_1.v].toArray), crd (RdS 3 rdInt) v2_1.v a_f.Values] ∧ s_l5Fits_L1 a_values a_f rest7 k6 = some R) ⟨_, 0, _, rfl, eqA, rfl, entA, hF⟩ ?_)
 rintro m4 _ _ ⟨g5, k6, rest7, rfl, rfl, hd9, hE, hF⟩
 refine Kb hE a_m.Inputs (fun hbd14 => ?_)
 rcases rest7 with _ | ⟨x8, rest7⟩
 · have hk10 := dn hd9
   rw [s_l5Fits_L1] at hF
   iterate 8 refine au ?_
   refine CdF ?_
   iterate 8 refine au ?_
   cases hF
   exact Er ()
 obtain ⟨hk10, hx11, hd12⟩ := drop_cons hd9
 rw [s_l5Fits_L1] at hF
 iterate 8 refine au ?_
 refine CdT ?_
 iterate 2 refine au ?_
 refine K_draw [0, 1, 2, 3, 4, 5, 6, 7, 8, 9, 10, 11, 12, 13] [0, 1, 0, 4, 0, 28, 60, 127, 255, 0, 0, 1536, 3584, 8191] [] mixed (by decide +kernel) ?_
 iterate 5 refine du ?_
 refine Di hx11 (fun k15 j16 => ?_)
 refine Dl ls3_0 ?_
 refine bnd hF fun x17 hx18 hF => ?_
 obtain ⟨hp19, hx20⟩ := ix_some hx18
 refine Di hx20 (fun k21 j22 => ?_)
 refine Dl ls3_0 ?_
 iterate 2 refine du ?_
 refine bnd hF fun x23 hx24 hF => ?_
 obtain ⟨hp25, hx26⟩ := ix_some hx24
 refine Di hx26 (fun k27 j28 => ?_)
 refine Dl ls3_0 ?_
 iterate 2 refine du ?_
 refine Ci hF (fun hb30 hF => ?_) (fun hb30 hF => ?_)
 · iterate 4 refine au ?_
   cases hF
   exact Er ()
 iterate 6 refine au ?_
 rw [wk k6]
 exact ⟨_, Nat.lt_succ_self _, _, k6 + 1, rest7, rfl, eqA, hd12, entA, hF⟩
def s_l5Matches_L1 (a_m : Method) (a_values : List Int) : List Fact → Nat → (List Fact) → Option ((List Fact))
 | [], k9, c3 => some c3
 | x11 :: rest10, k9, c3 => ((s_l5Fits a_m a_values x11).bind fun r23 =>
     if r23 then (
       (s_l2One x11.Rel x11.Values).bind fun r31 =>
       (app c3 ([r31] : List Fact)).bind fun z35 =>
       some z35)
     else (
       some c3)).bind fun o18 =>
   match o18 with
   | c39 => s_l5Matches_L1 a_m a_values rest10 (k9 + 1) c39
def s_l5Matches (a_m : Method) (a_values : List Int) (a_facts : List Fact) : Option ((List Fact)) :=
 s_l5Matches_L1 a_m a_values a_facts 0 ([] : List Fact)
theorem s_l5Matches_ok (a_m : Method) (v0_1 : Sv) (a_values : List Int) (v1_0 : Sv) (a_facts : List Fact) (v2_0 : Sv) (R : (List Fact)) (hF : s_l5Matches a_m a_values a_facts = some R) :
   Fw.Spec Tryz.prog 122 [(.agg [(.int .i64 a_m.Rel), v0_1.v, (.int .i64 a_m.Limit), (.int .i64 a_m.Cost), (.int .i64 a_m.Quota)].toArray), v1_0.v, v2_0.v] [crd (RdS 3 rdInt) v0_1.v a_m.Inputs, crd (RdS 3 rdInt) v1_0.v a_values, crd (RdS 86 rd86) v2_0.v a_facts] (fun p : Sv × List Nat => p.1.v) (fun p => [cown (OwnS 86 ow86) p.2 p.1.v R]) := by
 refine Se 38 Tryz.func122 [.tmp 6] ?_
 intro H0 F0
 unfold s_l5Matches at hF
 refine au ?_
 refine AbR (fun k1 => ?_)
 iterate 3 refine au ?_
 refine C_new rfl (N_buildSliceT (g := true) sl29.h ty86.h .nil (vs := []) rfl rfl rfl (by simp)) (fun k2 => ?_)
 refine Cv1 (.cons .h .nil) (own_lit (Ro := ow86) (E := 86) (F := []) (xs := ([] : List Fact)) MkL_nil rfl rfl) ?_
 iterate 6 refine au ?_
 refine CW_block (CW_loop (m := a_facts.length) (fun m7 f' cs' => ∃ (g : Fr) (k9 : Nat) (rest10 : List Fact) (c3 : List Fact) (v4 : Sv) (F5 : List Nat), m7 = rest10.length ∧ f' = updL g [(1, v1_0.v), (2, v2_0.v), (3, (pz k1)), (7, v4.v), (8, (.int .i64 (k9 : Int)))] ∧ List.drop k9 a_facts = rest10 ∧ Ent cs' [crd (RdS 3 rdInt) v1_0.v a_values, crd (RdS 86 rd86) v2_0.v a_facts, cboR k1 65 (.agg [(.int .i64 a_m.Rel), v0_1.v, (.int .i64 a_m.Limit), (.int .i64 a_m.Cost), (.int .i64 a_m.Quota)].toArray), crd (RdS 3 rdInt) v0_1.v a_m.Inputs, cown (OwnS 86 ow86) F5 v4.v c3] ∧ s_l5Matches_L1 a_m a_values rest10 k9 c3 = some R) ⟨_, 0, _, _, ⟨(some ⟨k2, 0, none⟩), 0, 1⟩, (k2 :: []), rfl, eqA, rfl, entA, hF⟩ ?_)
 rintro m7 _ _ ⟨g8, k9, rest10, c3, v4, F5, rfl, rfl, hd12, hE, hF⟩
 refine Kb hE a_facts (fun hbd17 => ?_)
 rcases rest10 with _ | ⟨x11, rest10⟩
 · have hk13 := dn hd12
   rw [s_l5Matches_L1] at hF
   iterate 7 refine au ?_
   refine CdF ?_
   iterate 9 refine au ?_
   cases hF
   exact Er (v4, F5)
 obtain ⟨hk13, hx14, hd15⟩ := drop_cons hd12
 rw [s_l5Matches_L1] at hF
 iterate 7 refine au ?_
 refine CdT ?_
 refine au ?_
 obtain ⟨o18, hio18, hO19⟩ := bind_some hF
 refine K_cut (fun f' cs' => ∃ (c39 : List Fact) (v40 : Sv) (F41 : List Nat) (g : Fr), c39 = o18 ∧ f' = updL g [(1, v1_0.v), (2, v2_0.v), (3, (pz k1)), (7, v40.v), (8, (.int .i64 (k9 : Int)))] ∧ Ent cs' [crd (RdS 3 rdInt) v1_0.v a_values, crd (RdS 86 rd86) v2_0.v a_facts, cboR k1 65 (.agg [(.int .i64 a_m.Rel), v0_1.v, (.int .i64 a_m.Limit), (.int .i64 a_m.Cost), (.int .i64 a_m.Quota)].toArray), crd (RdS 3 rdInt) v0_1.v a_m.Inputs, cown (OwnS 86 ow86) F41 v40.v c39]) ?_ ?_
 · replace hF := hio18
   refine CW_block (K_draw [0, 1, 2, 3, 4, 5, 6] [0, 0, 0, 0, 12, 28, 63] [6] mixed (by decide +kernel) ?_)
   iterate 4 refine du ?_
   refine Di hx14 (fun k20 j21 => ?_)
   refine DlA1 (ul86_0_86 x11) la86_0_86 (fun p22 => ?_)
   refine bnd hF fun r23 hx24 hF => Dx0 (s_l5Fits_ok _ _ _ _ _ _ _ hx24) (fun _ => ?_)
   refine du ?_
   refine Ci hF (fun hb38 hF => ?_) (fun hb38 hF => ?_)
   · refine CW_draw [0, 1, 2, 3, 4, 5, 6, 7, 8, 9, 10, 11, 12, 13, 14] [0, 0, 0, 6, 14, 30, 0, 0, 192, 448, 960, 2046, 4094, 8191, 16383] [11, 13] mixed (by decide +kernel) ?_
     iterate 3 refine du ?_
     refine Di hx14 (fun k26 j27 => ?_)
     refine du ?_
     refine Dl ls86_0 ?_
     iterate 2 refine du ?_
     refine Di hx14 (fun k28 j29 => ?_)
     refine du ?_
     refine D_ldV (R' := (RdS 3 rdInt)) ag22.h rfl .no (.tmp rfl rfl) rfl .h lv86_1 (fun w30 => ?_)
     refine bnd hF fun r31 hx32 hF => Dx1 (s_l2One_ok _ _ _ _ hx32) (fun p33 => ?_)
     refine D_new rfl .no rfl (fun ha => N_buildSliceT (g := true) (len := 1) (parts := [(0, .tmp 34)]) sl29.h ty86.h (.cons (EN ha (.tmp rfl rfl) rfl) .nil) (vs := [(.agg [(.int .i64 r31.Rel), p33.1.v].toArray)]) rfl rfl rfl (by intro v hv; simp at hv; rcases hv with rfl <;> rfl)) (fun k34 => ?_)
     refine Dv1 (.cons .h (.cons .h .nil)) (own_lit (Ro := ow86) (E := 86) (F := (p33.2 ++ [])) (xs := ([r31] : List Fact)) (MkL_cons mk86 MkL_nil apps) rfl rfl) ?_
     refine bnd hF fun z35 hx36 hF => D_act1 rfl rfl .no (.cons (.t (.t (.t (.t (.t (.t (.t (.t (.t (.t .h)))))))))) (.cons .h .nil)) (.dep rfl .nil) (fun ha => X_appendO (Ro := ow86) sl29.h ni29 ty86.h rfl rfl rfl (EN ha (.tmp rfl rfl) rfl) (EN ha (.tmp rfl rfl) rfl) hx36 src_own) (fun p37 => ?_)
     iterate 2 refine du ?_
     cases hF
     exact ⟨_, p37.1, p37.2, _, rfl, eqA, entA⟩
   refine au ?_
   cases hF
   exact ⟨_, v4, F5, _, rfl, eqA, entA⟩
 rintro _ _ ⟨c39, v40, F41, g43, rfl, rfl, hE⟩
 replace hF := hO19
 try dsimp only at hF
 refine K_ent hE ?_
 iterate 5 refine au ?_
 rw [wk k9]
 exact ⟨_, Nat.lt_succ_self _, _, k9 + 1, rest10, _, v40, F41, rfl, eqA, hd15, entA, hF⟩
def s_l8Step_L24 (x2166 : Fact) (r2178 : (List Fact)) : Nat → (List Int) → Int → Option ((List Fact) × (List Int))
 | 0, _, _ => none
 | m2208 + 1, c2205, c2207 => if (decide ((c2207 : Int) < (x2166.Values.length : Int))) then (
     (ix x2166.Values c2207).bind fun x2222 =>
     (s_l3Put c2205 x2222).bind fun r2228 =>
     s_l8Step_L24 x2166 r2178 m2208 r2228 (IntKind.i64.wrap (c2207 + 1)))
   else (
     some (r2178, c2205))
def s_l8Step_L21 (z1969 : List Access) : List Fact → Nat → (List Fact) → (List Int) → Option ((List Fact) × (List Int) × (List Access))
 | [], k2164, c2156, c2159 => some (c2156, c2159, z1969)
 | x2166 :: rest2165, k2164, c2156, c2159 => ((s_AddFact c2156 x2166).bind fun r2178 =>
     s_l8Step_L24 x2166 r2178 (((x2166.Values.length : Int) - 0).toNat + 2) c2159 0).bind fun o2173 =>
   match o2173 with
   | (c2232, c2235) => s_l8Step_L21 z1969 rest2165 (k2164 + 1) c2232 c2235
def s_l8Step_L1 (a_l : List Method) (a_facts : List Fact) (a_r : Reached) (r3 : Reached) (r7 : (List Access)) : List Access → Nat → (List Fact) → (List Int) → (List Access) → Option (Reached × Bool)
 | [], k1953, c1942, c1945, c1947 => if (((r7.length : Int) : Int) == 0) then (
     some (({ Facts := c1942, Values := c1945, Log := c1947, Rounds := r3.Rounds } : Reached), false))
   else (
     some (({ Facts := c1942, Values := c1945, Log := c1947, Rounds := (IntKind.i64.wrap (a_r.Rounds + 1)) } : Reached), true))
 | x1955 :: rest1954, k1953, c1942, c1945, c1947 => ((app c1947 ([x1955] : List Access)).bind fun z1969 =>
     (ix a_l x1955.Method).bind fun x1974 =>
     (s_l5Matches x1974 x1955.Values a_facts).bind fun r1984 =>
     s_l8Step_L21 z1969 r1984 0 c1942 c1945).bind fun o1963 =>
   match o1963 with
   | (c2239, c2242, c2244) => s_l8Step_L1 a_l a_facts a_r r3 r7 rest1954 (k1953 + 1) c2239 c2242 c2244
def s_l8Step (a_l : List Method) (a_facts : List Fact) (a_r : Reached) : Option (Reached × Bool) :=
 (s_l8Copy a_r).bind fun r3 =>
 (s_l8Open a_l a_r).bind fun r7 =>
 s_l8Step_L1 a_l a_facts a_r r3 r7 r7 0 r3.Facts r3.Values r3.Log
theorem s_l8Step_ok (a_l : List Method) (v0_0 : Sv) (a_facts : List Fact) (v1_0 : Sv) (a_r : Reached) (v2_0 : Sv) (v2_1 : Sv) (v2_2 : Sv) (R : Reached × Bool) (hF : s_l8Step a_l a_facts a_r = some R) :
   Fw.Spec Tryz.prog 86 [v0_0.v, v1_0.v, (.agg [v2_0.v, v2_1.v, v2_2.v, (.int .i64 a_r.Rounds)].toArray)] [crd (RdS 65 rd65) v0_0.v a_l, crd (RdS 86 rd86) v1_0.v a_facts, crd (RdS 86 rd86) v2_0.v a_r.Facts, crd (RdS 3 rdInt) v2_1.v a_r.Values, crd (RdS 130 rd130) v2_2.v a_r.Log] (fun p : Sv × List Nat × Sv × Sv => (.tuple [(.agg [p.1.v, p.2.2.1.v, p.2.2.2.v, (.int .i64 R.1.Rounds)].toArray), (.bool R.2)].toArray)) (fun p => [cown (OwnS 86 ow86) p.2.1 p.1.v R.1.Facts, crd (RdS 3 rdInt) p.2.2.1.v R.1.Values, crd (RdS 130 rd130) p.2.2.2.v R.1.Log]) := by
 refine Se 94 Tryz.func86 [.cell 6 61, .tmp 7] ?_
 intro H0 F0
 unfold s_l8Step at hF
 refine au ?_
 refine AbR (fun k1 => ?_)
 refine AnW (fun k2 => ?_)
 iterate 4 refine au ?_
 refine bnd hF fun r3 hx4 hF => Cx3 (s_l8Copy_ok _ _ _ _ _ hx4) (fun p5 => ?_)
 refine AnW (fun k6 => ?_)
 refine As (.agg [p5.1.v, p5.2.2.1.v, p5.2.2.2.2.1.v, (.int .i64 r3.Rounds)].toArray) ?_
 iterate 4 refine au ?_
 refine bnd hF fun r7 hx8 hF => Cx1 (s_l8Open_ok _ _ _ _ _ _ _ hx8) (fun p9 => ?_)
 iterate 6 refine au ?_
 refine CW_block (K_frz .h frz_own ?_)
 refine CW_loop (m := r7.length) (fun m1951 f' cs' => ∃ (g : Fr) (k1953 : Nat) (rest1954 : List Access) (c1942 : List Fact) (c1945 : List Int) (c1947 : List Access) (v1943 : Sv) (F1944 : List Nat) (v1946 : Sv) (v1948 : Sv) (F1949 : List Nat), m1951 = rest1954.length ∧ f' = updL g [(0, v0_0.v), (1, v1_0.v), (5, (pz k1)), (6, (pz k2)), (8, (pz k6)), (9, p9.1.v), (10, (.int .i64 (k1953 : Int)))] ∧ List.drop k1953 r7 = rest1954 ∧ Ent cs' [crd (RdS 65 rd65) v0_0.v a_l, crd (RdS 86 rd86) v1_0.v a_facts, cboR k1 61 (.agg [v2_0.v, v2_1.v, v2_2.v, (.int .i64 a_r.Rounds)].toArray), crd (RdS 86 rd86) v2_0.v a_r.Facts, crd (RdS 3 rdInt) v2_1.v a_r.Values, crd (RdS 130 rd130) v2_2.v a_r.Log, cbox k2 61 (.agg [(.slice none 0 0), (.slice none 0 0), (.slice none 0 0), (.int .i64 0)].toArray), cbox k6 61 (.agg [v1943.v, v1946.v, v1948.v, (.int .i64 r3.Rounds)].toArray), cown (OwnS 86 ow86) F1944 v1943.v c1942, crd (RdS 3 rdInt) v1946.v c1945, cown (OwnS 130 (roE rd130)) F1949 v1948.v c1947, crd (RdS 130 rd130) p9.1.v r7] ∧ s_l8Step_L1 a_l a_facts a_r r3 r7 rest1954 k1953 c1942 c1945 c1947 = some R) ⟨_, 0, _, _, _, _, p5.1, p5.2.1, p5.2.2.1, p5.2.2.2.2.1, (p5.2.2.2.2.2.take 1), rfl, eqA, rfl, (.frz (.t (.t (.t .h))) frz_own (.half (.t (.t (.t (.t .h)))) entA)), hF⟩ ?_
 rintro m1951 _ _ ⟨g1952, k1953, rest1954, c1942, c1945, c1947, v1943, F1944, v1946, v1948, F1949, rfl, rfl, hd1956, hE, hF⟩
 refine Kb hE r7 (fun hbd1961 => ?_)
 rcases rest1954 with _ | ⟨x1955, rest1954⟩
 · have hk1957 := dn hd1956
   rw [s_l8Step_L1] at hF
   iterate 7 refine au ?_
   refine CdF ?_
   iterate 10 refine au ?_
   refine Ci hF (fun hb1962 hF => ?_) (fun hb1962 hF => ?_)
   · iterate 2 refine au ?_
     refine As (.agg [v1943.v, v1946.v, v1948.v, (.int .i64 r3.Rounds)].toArray) ?_
     iterate 3 refine au ?_
     cases hF
     exact End_ret (v1943, F1944, v1946, v1948) (.cellA rfl rfl .h rfl ag61.h ty61.h.sz rfl rfl (.tmp rfl rfl .nil)) rfl (.frz (.t (.t (.t (.t (.t (.t (.t (.t (.t (.t .h)))))))))) frz_own (.sel (.cons (.t (.t (.t (.t (.t (.t (.t (.t (.t .h))))))))) (.rd (.t (.t (.t (.t (.t (.t (.t (.t (.t .h))))))))) rfl (.rd .h rfl .nil)))))
   iterate 6 refine au ?_
   refine As (.agg [v1943.v, v1946.v, v1948.v, (.int .i64 (IntKind.i64.wrap (a_r.Rounds + 1)))].toArray) ?_
   iterate 3 refine au ?_
   refine As (.agg [v1943.v, v1946.v, v1948.v, (.int .i64 (IntKind.i64.wrap (a_r.Rounds + 1)))].toArray) ?_
   iterate 3 refine au ?_
   cases hF
   exact End_ret (v1943, F1944, v1946, v1948) (.cellA rfl rfl .h rfl ag61.h ty61.h.sz rfl rfl (.tmp rfl rfl .nil)) rfl (.frz (.t (.t (.t (.t (.t (.t (.t (.t (.t (.t .h)))))))))) frz_own (.sel (.cons (.t (.t (.t (.t (.t (.t (.t (.t (.t .h))))))))) (.rd (.t (.t (.t (.t (.t (.t (.t (.t (.t .h))))))))) rfl (.rd .h rfl .nil)))))
 obtain ⟨hk1957, hx1958, hd1959⟩ := drop_cons hd1956
 rw [s_l8Step_L1] at hF
 iterate 7 refine au ?_
 refine CdT ?_
 refine au ?_
 obtain ⟨o1963, hio1963, hO1964⟩ := bind_some hF
 refine K_cut (fun f' cs' => ∃ (c2239 : List Fact) (c2242 : List Int) (c2244 : List Access) (v2240 : Sv) (F2241 : List Nat) (v2243 : Sv) (v2245 : Sv) (F2246 : List Nat) (g : Fr), o1963 = (c2239, c2242, c2244) ∧ f' = updL g [(0, v0_0.v), (1, v1_0.v), (5, (pz k1)), (6, (pz k2)), (8, (pz k6)), (9, p9.1.v), (10, (.int .i64 (k1953 : Int)))] ∧ Ent cs' [crd (RdS 65 rd65) v0_0.v a_l, crd (RdS 86 rd86) v1_0.v a_facts, cboR k1 61 (.agg [v2_0.v, v2_1.v, v2_2.v, (.int .i64 a_r.Rounds)].toArray), crd (RdS 86 rd86) v2_0.v a_r.Facts, crd (RdS 3 rdInt) v2_1.v a_r.Values, crd (RdS 130 rd130) v2_2.v a_r.Log, cbox k2 61 (.agg [(.slice none 0 0), (.slice none 0 0), (.slice none 0 0), (.int .i64 0)].toArray), cbox k6 61 (.agg [v2240.v, v2243.v, v2245.v, (.int .i64 r3.Rounds)].toArray), cown (OwnS 86 ow86) F2241 v2240.v c2239, crd (RdS 3 rdInt) v2243.v c2242, cown (OwnS 130 (roE rd130)) F2246 v2245.v c2244, crd (RdS 130 rd130) p9.1.v r7]) ?_ ?_
 · replace hF := hio1963
   refine CW_block (K_draw [0, 1, 2, 3, 4, 5, 6, 7, 8, 9] [0, 1, 0, 0, 12, 28, 60, 127, 255, 511] [7, 9] mixed (by decide +kernel) ?_)
   refine du ?_
   refine D_atO rfl .no (.t (.t (.t (.t (.t (.t (.t .h))))))) (fun ha hp => V_load (v := v1948.v) ag59.h (EN ha (.tmp rfl rfl) rfl) hp.2 rfl rfl) ?_
   iterate 2 refine du ?_
   refine Di hx1958 (fun k1965 j1966 => ?_)
   refine DlA1 (ul130_0_130 x1955) la130_0_130 (fun p1967 => ?_)
   refine D_new rfl .no rfl (fun ha => N_buildSliceT (g := true) (len := 1) (parts := [(0, .tmp 30)]) sl59.h ty130.h (.cons (EN ha (.tmp rfl rfl) rfl) .nil) (vs := [(.agg [(.int .i64 x1955.Method), p1967.v].toArray)]) rfl rfl rfl (by intro v hv; simp at hv; rcases hv with rfl <;> rfl)) (fun k1968 => ?_)
   refine Dv1 (.cons .h (.rd .h rfl .nil)) (own_lit (Ro := (roE rd130)) (E := 130) (F := ([] ++ [])) (xs := ([x1955] : List Access)) (MkL_cons mr130 MkL_nil apps) rfl rfl) ?_
   refine bnd hF fun z1969 hx1970 hF => D_act1 rfl rfl .no (.cons (.t (.t (.t (.t (.t (.t (.t (.t (.t (.t (.t (.t (.t .h))))))))))))) (.cons .h .nil)) (.dep rfl (.dep rfl .nil)) (fun ha => X_appendO (Ro := (roE rd130)) sl59.h ni59 ty130.h rfl rfl rfl (EN ha (.tmp rfl rfl) rfl) (EN ha (.tmp rfl rfl) rfl) hx1970 src_own) (fun p1971 => ?_)
   refine du ?_
   refine D_act1 rfl rfl .no (.cons (.t (.t (.t (.t (.t (.t (.t (.t (.t (.t .h)))))))))) .nil) (.dep rfl (.dep rfl .nil)) (fun ha => X_storeB (e' := (.agg [v1943.v, v1946.v, p1971.1.v, (.int .i64 r3.Rounds)].toArray)) ty59.h.sz (EN ha (.tmp rfl rfl) rfl) (EN ha (.tmp rfl rfl) rfl) rfl rfl rfl rfl rfl) (fun _ => ?_)
   refine du ?_
   refine K_draw [0, 1, 2, 3, 4, 5, 6, 7, 8, 9, 10, 11, 12, 13, 14, 15] [0, 0, 0, 6, 14, 30, 63, 127, 0, 0, 768, 1792, 3840, 0, 16383, 32767] [14] mixed (by decide +kernel) ?_
   iterate 3 refine du ?_
   refine Di hx1958 (fun k1972 j1973 => ?_)
   refine du ?_
   refine Dl ls130_0 ?_
   refine bnd hF fun x1974 hx1975 hF => ?_
   obtain ⟨hp1976, hx1977⟩ := ix_some hx1975
   refine Di hx1977 (fun k1978 j1979 => ?_)
   refine DlA1 (ul65_0_65 x1974) la65_0_65 (fun p1980 => ?_)
   iterate 2 refine du ?_
   refine Di hx1958 (fun k1981 j1982 => ?_)
   refine du ?_
   refine D_ldV (R' := (RdS 3 rdInt)) ag22.h rfl .no (.tmp rfl rfl) rfl .h lv130_1 (fun w1983 => ?_)
   refine du ?_
   refine bnd hF fun r1984 hx1985 hF => Dx1 (s_l5Matches_ok _ _ _ _ _ _ _ hx1985) (fun p1986 => ?_)
   iterate 2 refine du ?_
   iterate 3 refine au ?_
   refine CW_block (K_frz .h frz_own ?_)
   refine CW_loop (m := r1984.length) (fun m2162 f' cs' => ∃ (g : Fr) (k2164 : Nat) (rest2165 : List Fact) (c2156 : List Fact) (c2159 : List Int) (v2157 : Sv) (F2158 : List Nat) (v2160 : Sv), m2162 = rest2165.length ∧ f' = updL g [(0, v0_0.v), (1, v1_0.v), (5, (pz k1)), (6, (pz k2)), (8, (pz k6)), (9, p9.1.v), (10, (.int .i64 (k1953 : Int))), (11, p1986.1.v), (12, (.int .i64 (k2164 : Int)))] ∧ List.drop k2164 r1984 = rest2165 ∧ Ent cs' [crd (RdS 65 rd65) v0_0.v a_l, crd (RdS 86 rd86) v1_0.v a_facts, cboR k1 61 (.agg [v2_0.v, v2_1.v, v2_2.v, (.int .i64 a_r.Rounds)].toArray), crd (RdS 86 rd86) v2_0.v a_r.Facts, crd (RdS 3 rdInt) v2_1.v a_r.Values, crd (RdS 130 rd130) v2_2.v a_r.Log, cbox k2 61 (.agg [(.slice none 0 0), (.slice none 0 0), (.slice none 0 0), (.int .i64 0)].toArray), cbox k6 61 (.agg [v2157.v, v2160.v, p1971.1.v, (.int .i64 r3.Rounds)].toArray), cown (OwnS 86 ow86) F2158 v2157.v c2156, crd (RdS 3 rdInt) v2160.v c2159, cown (OwnS 130 (roE rd130)) p1971.2 p1971.1.v z1969, crd (RdS 130 rd130) p9.1.v r7, crd (RdS 86 rd86) p1986.1.v r1984] ∧ s_l8Step_L21 z1969 rest2165 k2164 c2156 c2159 = some o1963) ⟨_, 0, _, _, _, v1943, F1944, v1946, rfl, eqA, rfl, entA, hF⟩ ?_
   rintro m2162 _ _ ⟨g2163, k2164, rest2165, c2156, c2159, v2157, F2158, v2160, rfl, rfl, hd2167, hE, hF⟩
   refine Kb hE r1984 (fun hbd2172 => ?_)
   rcases rest2165 with _ | ⟨x2166, rest2165⟩
   · have hk2168 := dn hd2167
     rw [s_l8Step_L21] at hF
     iterate 7 refine au ?_
     refine CdF ?_
     iterate 4 refine au ?_
     cases hF
     exact ⟨_, _, _, v2157, F2158, v2160, p1971.1, p1971.2, _, rfl, eqA, entA⟩
   obtain ⟨hk2168, hx2169, hd2170⟩ := drop_cons hd2167
   rw [s_l8Step_L21] at hF
   iterate 7 refine au ?_
   refine CdT ?_
   refine au ?_
   obtain ⟨o2173, hio2173, hO2174⟩ := bind_some hF
   refine K_cut (fun f' cs' => ∃ (c2232 : List Fact) (c2235 : List Int) (v2233 : Sv) (F2234 : List Nat) (v2236 : Sv) (g : Fr), o2173 = (c2232, c2235) ∧ f' = updL g [(0, v0_0.v), (1, v1_0.v), (5, (pz k1)), (6, (pz k2)), (8, (pz k6)), (9, p9.1.v), (10, (.int .i64 (k1953 : Int))), (11, p1986.1.v), (12, (.int .i64 (k2164 : Int)))] ∧ Ent cs' [crd (RdS 65 rd65) v0_0.v a_l, crd (RdS 86 rd86) v1_0.v a_facts, cboR k1 61 (.agg [v2_0.v, v2_1.v, v2_2.v, (.int .i64 a_r.Rounds)].toArray), crd (RdS 86 rd86) v2_0.v a_r.Facts, crd (RdS 3 rdInt) v2_1.v a_r.Values, crd (RdS 130 rd130) v2_2.v a_r.Log, cbox k2 61 (.agg [(.slice none 0 0), (.slice none 0 0), (.slice none 0 0), (.int .i64 0)].toArray), cbox k6 61 (.agg [v2233.v, v2236.v, p1971.1.v, (.int .i64 r3.Rounds)].toArray), cown (OwnS 86 ow86) F2234 v2233.v c2232, crd (RdS 3 rdInt) v2236.v c2235, cown (OwnS 130 (roE rd130)) p1971.2 p1971.1.v z1969, crd (RdS 130 rd130) p9.1.v r7, crd (RdS 86 rd86) p1986.1.v r1984]) ?_ ?_
   · replace hF := hio2173
     refine CW_block (K_draw [0, 1, 2, 3, 4, 5, 6, 7, 8] [0, 1, 0, 0, 12, 28, 63, 127, 255] [6, 8] mixed (by decide +kernel) ?_)
     refine du ?_
     refine D_atO rfl .no (.t (.t (.t (.t (.t (.t (.t .h))))))) (fun ha hp => V_load (v := v2157.v) ag29.h (EN ha (.tmp rfl rfl) rfl) hp.2 rfl rfl) ?_
     iterate 2 refine du ?_
     refine Di hx2169 (fun k2175 j2176 => ?_)
     refine DlA1 (ul86_0_86 x2166) la86_0_86 (fun p2177 => ?_)
     refine bnd hF fun r2178 hx2179 hF => D_act2 rfl rfl .no (.cons (.t (.t (.t (.t (.t (.t (.t (.t (.t (.t .h)))))))))) (.rd .h rfl .nil)) (.dep rfl .nil) (fun ha => XC_bor frz_own (fun _ => (.cons .nil)) (X_callS cf53.h (.cons (EN ha (.tmp rfl rfl) rfl) (.cons (EN ha (.tmp rfl rfl) rfl) .nil)) (s_AddFact_ok c2156 v2157 x2166 p2177 _ hx2179))) (fun p2180 => ?_)
     refine du ?_
     refine D_act1 rfl rfl .no (.cons (.t (.t (.t (.t (.t (.t (.t (.t (.t (.t (.t .h))))))))))) .nil) (.dep rfl .nil) (fun ha => X_storeB (e' := (.agg [p2180.1.v, v2160.v, p1971.1.v, (.int .i64 r3.Rounds)].toArray)) ty29.h.sz (EN ha (.tmp rfl rfl) rfl) (EN ha (.tmp rfl rfl) rfl) rfl rfl rfl rfl rfl) (fun _ => ?_)
     refine du ?_
     iterate 3 refine au ?_
     refine CW_block (CW_loop (m := (((x2166.Values.length : Int) - 0).toNat + 2)) (fun m2208 f' cs' => ∃ (g : Fr) (c2205 : List Int) (c2207 : Int) (v2206 : Sv), f' = updL g [(0, v0_0.v), (1, v1_0.v), (5, (pz k1)), (6, (pz k2)), (8, (pz k6)), (9, p9.1.v), (10, (.int .i64 (k1953 : Int))), (11, p1986.1.v), (12, (.int .i64 (k2164 : Int))), (13, (.int .i64 c2207))] ∧ Ent cs' [crd (RdS 65 rd65) v0_0.v a_l, crd (RdS 86 rd86) v1_0.v a_facts, cboR k1 61 (.agg [v2_0.v, v2_1.v, v2_2.v, (.int .i64 a_r.Rounds)].toArray), crd (RdS 86 rd86) v2_0.v a_r.Facts, crd (RdS 3 rdInt) v2_1.v a_r.Values, crd (RdS 130 rd130) v2_2.v a_r.Log, cbox k2 61 (.agg [(.slice none 0 0), (.slice none 0 0), (.slice none 0 0), (.int .i64 0)].toArray), cbox k6 61 (.agg [p2180.1.v, v2206.v, p1971.1.v, (.int .i64 r3.Rounds)].toArray), cown (OwnS 86 ow86) p2180.2 p2180.1.v r2178, crd (RdS 3 rdInt) v2206.v c2205, cown (OwnS 130 (roE rd130)) p1971.2 p1971.1.v z1969, crd (RdS 130 rd130) p9.1.v r7, crd (RdS 86 rd86) p1986.1.v r1984] ∧ s_l8Step_L24 x2166 r2178 m2208 c2205 c2207 = some o2173) ⟨_, _, _, v2160, eqA, entA, hF⟩ ?_)
     rintro m2208 _ _ ⟨g2209, c2205, c2207, v2206, rfl, hE, hF⟩
     refine K_ent hE ?_
     rcases m2208 with _ | m2208
     · rw [s_l8Step_L24] at hF
       exact absurd hF (by simp)
     rw [s_l8Step_L24] at hF
     iterate 5 refine au ?_
     refine Ai hx2169 (fun k2216 j2217 => ?_)
     refine au ?_
     refine C_ldV (R' := (RdS 3 rdInt)) ag22.h (.tmp rfl rfl) .h lv86_1 (fun w2218 => ?_)
     iterate 3 refine au ?_
     refine Ci hF (fun hb2231 hF => ?_) (fun hb2231 hF => ?_)
     · iterate 2 refine au ?_
       refine CW_draw [0, 1, 2, 3, 4, 5, 6, 7, 8, 9, 10, 11, 12] [0, 1, 0, 0, 12, 28, 60, 0, 252, 508, 1023, 2047, 4095] [10, 12] mixed (by decide +kernel) ?_
       refine du ?_
       refine D_atO rfl .no (.t (.t (.t (.t (.t (.t (.t (.t (.t .h))))))))) (fun ha hp => V_load (v := v2206.v) ag22.h (EN ha (.tmp rfl rfl) rfl) hp.2 rfl rfl) ?_
       iterate 2 refine du ?_
       refine Di hx2169 (fun k2219 j2220 => ?_)
       refine du ?_
       refine D_ldV (R' := (RdS 3 rdInt)) ag22.h rfl .no (.tmp rfl rfl) rfl .h lv86_1 (fun w2221 => ?_)
       refine du ?_
       refine bnd hF fun x2222 hx2223 hF => ?_
       obtain ⟨hp2224, hx2225⟩ := ix_some hx2223
       refine Di hx2225 (fun k2226 j2227 => ?_)
       refine Dl ls3_0 ?_
       refine bnd hF fun r2228 hx2229 hF => Dx1 (s_l3Put_ok _ _ _ _ hx2229) (fun p2230 => ?_)
       refine du ?_
       refine D_act1 rfl rfl .no (.cons (.t (.t (.t (.t (.t (.t (.t (.t (.t (.t (.t (.t (.t .h))))))))))))) .nil) (.dep rfl .nil) (fun ha => X_storeB (e' := (.agg [p2180.1.v, p2230.v, p1971.1.v, (.int .i64 r3.Rounds)].toArray)) ty22.h.sz (EN ha (.tmp rfl rfl) rfl) (EN ha (.tmp rfl rfl) rfl) rfl rfl rfl rfl rfl) (fun _ => ?_)
       refine du ?_
       iterate 5 refine au ?_
       exact ⟨m2208, Nat.lt_succ_self _, _, _, _, p2230, eqA, entA, hF⟩
     iterate 4 refine au ?_
     cases hF
     exact ⟨_, _, p2180.1, p2180.2, v2206, _, rfl, eqA, entA⟩
   rintro _ _ ⟨c2232, c2235, v2233, F2234, v2236, g2238, rfl, rfl, hE⟩
   replace hF := hO2174
   try dsimp only at hF
   refine K_ent hE ?_
   iterate 5 refine au ?_
   rw [wk k2164]
   exact ⟨_, Nat.lt_succ_self _, _, k2164 + 1, rest2165, _, _, v2233, F2234, v2236, rfl, eqA, hd2170, entA, hF⟩
 rintro _ _ ⟨c2239, c2242, c2244, v2240, F2241, v2243, v2245, F2246, g2248, rfl, rfl, hE⟩
 replace hF := hO1964
 try dsimp only at hF
 refine K_ent hE ?_
 iterate 5 refine au ?_
 rw [wk k1953]
 exact ⟨_, Nat.lt_succ_self _, _, k1953 + 1, rest1954, _, _, _, v2240, F2241, v2243, v2245, F2246, rfl, eqA, hd1959, entA, hF⟩
def s_StepReach (a_s : List Int) (a_l : List Method) (a_facts : List Fact) (a_r : Reached) : Option (Reached × Bool) :=
 ((s_AreMethods a_s a_l).bind fun r5 =>
   bif (!r5) then (some true)
   else ((s_AreFacts a_s a_facts).bind fun r9 =>
     bif (!r9) then (some true)
     else ((s_l8Values a_r.Values).bind fun r13 =>
       bif (!r13) then (some true)
       else ((s_AreFacts a_s a_r.Facts).bind fun r17 =>
         bif (!r17) then (some true)
         else ((s_l1In a_r.Rounds 0 100).bind fun r21 =>
           some (!r21)))))).bind fun o3 =>
 match o3 with
 | c24 => if c24 then (
     (s_l8Copy a_r).bind fun r25 =>
     some (r25, false))
   else (
     (s_l8Step a_l a_facts a_r).bind fun r28 =>
     some (r28.1, r28.2))
theorem s_StepReach_ok (a_s : List Int) (v0_0 : Sv) (a_l : List Method) (v1_0 : Sv) (a_facts : List Fact) (v2_0 : Sv) (a_r : Reached) (v3_0 : Sv) (v3_1 : Sv) (v3_2 : Sv) (R : Reached × Bool) (hF : s_StepReach a_s a_l a_facts a_r = some R) :
   Fw.Spec Tryz.prog 55 [v0_0.v, v1_0.v, v2_0.v, (.agg [v3_0.v, v3_1.v, v3_2.v, (.int .i64 a_r.Rounds)].toArray)] [crd (RdS 3 rdInt) v0_0.v a_s, crd (RdS 65 rd65) v1_0.v a_l, crd (RdS 86 rd86) v2_0.v a_facts, crd (RdS 86 rd86) v3_0.v a_r.Facts, crd (RdS 3 rdInt) v3_1.v a_r.Values, crd (RdS 130 rd130) v3_2.v a_r.Log] (fun p : Sv × List Nat × Sv × Sv => (.tuple [(.agg [p.1.v, p.2.2.1.v, p.2.2.2.v, (.int .i64 R.1.Rounds)].toArray), (.bool R.2)].toArray)) (fun p => [cown (OwnS 86 ow86) p.2.1 p.1.v R.1.Facts, crd (RdS 3 rdInt) p.2.2.1.v R.1.Values, crd (RdS 130 rd130) p.2.2.2.v R.1.Log]) := by
 refine Se 52 Tryz.func55 [.cell 8 61, .tmp 9] ?_
 intro H0 F0
 unfold s_StepReach at hF
 refine au ?_
 refine AbR (fun k1 => ?_)
 refine AnW (fun k2 => ?_)
 iterate 3 refine au ?_
 obtain ⟨o3, hio3, hO4⟩ := bind_some hF
 refine au ?_
 refine C_cut (fun f' cs' => ∃ (c24 : Bool) (g : Fr), c24 = o3 ∧ f' = updL g [(1, v1_0.v), (2, v2_0.v), (7, (pz k1)), (8, (pz k2)), (40, (.bool c24))] ∧ Ent cs' [crd (RdS 65 rd65) v1_0.v a_l, crd (RdS 86 rd86) v2_0.v a_facts, cboR k1 61 (.agg [v3_0.v, v3_1.v, v3_2.v, (.int .i64 a_r.Rounds)].toArray), crd (RdS 86 rd86) v3_0.v a_r.Facts, crd (RdS 3 rdInt) v3_1.v a_r.Values, crd (RdS 130 rd130) v3_2.v a_r.Log, cbox k2 61 (.agg [(.slice none 0 0), (.slice none 0 0), (.slice none 0 0), (.int .i64 0)].toArray)]) ?_ ?_
 · replace hF := hio3
   iterate 2 refine au ?_
   refine bnd hF fun r5 hx6 hF => Cx0 (s_AreMethods_ok _ _ _ _ _ hx6) (fun _ => ?_)
   iterate 2 refine au ?_
   rcases Bool.eq_false_or_eq_true (!r5) with hg8 | hg8
   · rw [hg8]
     try rw [hg8] at hF; dsimp only [cond_true, cond_false] at hF
     iterate 25 refine au ?_
     cases hF
     exact ⟨_, _, rfl, eqA, entA⟩
   rw [hg8]
   try rw [hg8] at hF; dsimp only [cond_true, cond_false] at hF
   iterate 5 refine au ?_
   refine bnd hF fun r9 hx10 hF => Cx0 (s_AreFacts_ok _ _ _ _ _ hx10) (fun _ => ?_)
   iterate 4 refine au ?_
   rcases Bool.eq_false_or_eq_true (!r9) with hg12 | hg12
   · rw [hg12]
     try rw [hg12] at hF; dsimp only [cond_true, cond_false] at hF
     iterate 19 refine au ?_
     cases hF
     exact ⟨_, _, rfl, eqA, entA⟩
   rw [hg12]
   try rw [hg12] at hF; dsimp only [cond_true, cond_false] at hF
   iterate 5 refine au ?_
   refine bnd hF fun r13 hx14 hF => Cx0 (s_l8Values_ok _ _ _ hx14) (fun _ => ?_)
   iterate 4 refine au ?_
   rcases Bool.eq_false_or_eq_true (!r13) with hg16 | hg16
   · rw [hg16]
     try rw [hg16] at hF; dsimp only [cond_true, cond_false] at hF
     iterate 13 refine au ?_
     cases hF
     exact ⟨_, _, rfl, eqA, entA⟩
   rw [hg16]
   try rw [hg16] at hF; dsimp only [cond_true, cond_false] at hF
   iterate 7 refine au ?_
   refine bnd hF fun r17 hx18 hF => Cx0 (s_AreFacts_ok _ _ _ _ _ hx18) (fun _ => ?_)
   iterate 4 refine au ?_
   rcases Bool.eq_false_or_eq_true (!r17) with hg20 | hg20
   · rw [hg20]
     try rw [hg20] at hF; dsimp only [cond_true, cond_false] at hF
     iterate 6 refine au ?_
     cases hF
     exact ⟨_, _, rfl, eqA, entA⟩
   rw [hg20]
   try rw [hg20] at hF; dsimp only [cond_true, cond_false] at hF
   iterate 5 refine au ?_
   refine bnd hF fun r21 hx22 hF => Cx0 (s_l1In_ok _ _ _ _ hx22) (fun _ => ?_)
   iterate 4 refine au ?_
   cases hF
   exact ⟨_, _, rfl, eqA, entA⟩
 rintro _ _ ⟨c24, g33, rfl, rfl, hE⟩
 replace hF := hO4
 try dsimp only at hF
 refine K_ent hE ?_
 refine Ci hF (fun hb32 hF => ?_) (fun hb32 hF => ?_)
 · iterate 2 refine au ?_
   refine bnd hF fun r25 hx26 hF => Cx3 (s_l8Copy_ok _ _ _ _ _ hx26) (fun p27 => ?_)
   refine As (.agg [p27.1.v, p27.2.2.1.v, p27.2.2.2.2.1.v, (.int .i64 r25.Rounds)].toArray) ?_
   iterate 3 refine au ?_
   cases hF
   exact End_ret (p27.1, p27.2.1, p27.2.2.1, p27.2.2.2.2.1) (.cellA rfl rfl .h rfl ag61.h ty61.h.sz rfl rfl (.tmp rfl rfl .nil)) rfl (.frz (.t (.t .h)) frz_own (.frz (.t (.t (.t .h))) frz_own (.sel (.cons (.t (.t (.t .h))) (.rd (.t .h) rfl (.rd .h rfl .nil))))))
 iterate 5 refine au ?_
 refine bnd hF fun r28 hx29 hF => Cx3 (s_l8Step_ok _ _ _ _ _ _ _ _ _ hx29) (fun p30 => ?_)
 refine au ?_
 refine C_val (V_extract (l := [(.agg [p30.1.v, p30.2.2.1.v, p30.2.2.2.v, (.int .i64 r28.1.Rounds)].toArray), (.bool r28.2)]) (v := (.agg [p30.1.v, p30.2.2.1.v, p30.2.2.2.v, (.int .i64 r28.1.Rounds)].toArray)) (.tmp rfl rfl) rfl) ?_
 refine C_val (V_extract (l := [(.agg [p30.1.v, p30.2.2.1.v, p30.2.2.2.v, (.int .i64 r28.1.Rounds)].toArray), (.bool r28.2)]) (v := (.bool r28.2)) (.tmp rfl rfl) rfl) ?_
 refine AnW (fun k31 => ?_)
 refine As (.agg [p30.1.v, p30.2.2.1.v, p30.2.2.2.v, (.int .i64 r28.1.Rounds)].toArray) ?_
 iterate 5 refine au ?_
 refine As (.agg [p30.1.v, p30.2.2.1.v, p30.2.2.2.v, (.int .i64 r28.1.Rounds)].toArray) ?_
 iterate 3 refine au ?_
 cases hF
 exact End_ret (p30.1, p30.2.1, p30.2.2.1, p30.2.2.2) (.cellA rfl rfl .h rfl ag61.h ty61.h.sz rfl rfl (.tmp rfl rfl .nil)) rfl (.sel (.cons (.t (.t .h)) (.rd (.t (.t .h)) rfl (.rd (.t (.t (.t .h))) rfl .nil))))
def s_ReachAll_L1 (a_s : List Int) (a_l : List Method) (a_facts : List Fact) : Nat → (List Fact) → (List Int) → (List Access) → Int → Int → Option (Reached)
 | 0, _, _, _, _, _ => none
 | m50 + 1, c41, c44, c46, c48, c49 => if (decide ((c49 : Int) < 40)) then (
     (s_StepReach a_s a_l a_facts ({ Facts := c41, Values := c44, Log := c46, Rounds := c48 } : Reached)).bind fun r58 =>
     if (!r58.2) then (
       some ({ Facts := c41, Values := c44, Log := c46, Rounds := c48 } : Reached))
     else (
       s_ReachAll_L1 a_s a_l a_facts m50 r58.1.Facts r58.1.Values r58.1.Log r58.1.Rounds (IntKind.i64.wrap (c49 + 1))))
   else (
     some ({ Facts := c41, Values := c44, Log := c46, Rounds := c48 } : Reached))
def s_ReachAll (a_s : List Int) (a_l : List Method) (a_facts : List Fact) (a_seeds : List Int) : Option (Reached) :=
 (s_StartReach a_seeds).bind fun r2 =>
 s_ReachAll_L1 a_s a_l a_facts (((40 : Int) - 0).toNat + 2) r2.Facts r2.Values r2.Log r2.Rounds 0
theorem s_ReachAll_ok (a_s : List Int) (v0_0 : Sv) (a_l : List Method) (v1_0 : Sv) (a_facts : List Fact) (v2_0 : Sv) (a_seeds : List Int) (v3_0 : Sv) (R : Reached) (hF : s_ReachAll a_s a_l a_facts a_seeds = some R) :
   Fw.Spec Tryz.prog 26 [v0_0.v, v1_0.v, v2_0.v, v3_0.v] [crd (RdS 3 rdInt) v0_0.v a_s, crd (RdS 65 rd65) v1_0.v a_l, crd (RdS 86 rd86) v2_0.v a_facts, crd (RdS 3 rdInt) v3_0.v a_seeds] (fun p : Sv × Sv × Sv => (.agg [p.1.v, p.2.1.v, p.2.2.v, (.int .i64 R.Rounds)].toArray)) (fun p => [crd (RdS 86 rd86) p.1.v R.Facts, crd (RdS 3 rdInt) p.2.1.v R.Values, crd (RdS 130 rd130) p.2.2.v R.Log]) := by
 refine Se 32 Tryz.func26 [.cell 8 61] ?_
 intro H0 F0
 unfold s_ReachAll at hF
 refine au ?_
 refine AnW (fun k1 => ?_)
 iterate 3 refine au ?_
 refine bnd hF fun r2 hx3 hF => Cx3 (s_StartReach_ok _ _ _ hx3) (fun p4 => ?_)
 refine AnW (fun k5 => ?_)
 refine As (.agg [p4.1.v, p4.2.2.1.v, p4.2.2.2.1.v, (.int .i64 r2.Rounds)].toArray) ?_
 iterate 5 refine au ?_
 refine CW_block (CW_loop (m := (((40 : Int) - 0).toNat + 2)) (fun m50 f' cs' => ∃ (g : Fr) (c41 : List Fact) (c44 : List Int) (c46 : List Access) (c48 : Int) (c49 : Int) (v42 : Sv) (F43 : List Nat) (v45 : Sv) (v47 : Sv), f' = updL g [(0, v0_0.v), (1, v1_0.v), (2, v2_0.v), (8, (pz k1)), (9, (pz k5)), (10, (.int .i64 c49))] ∧ Ent cs' [crd (RdS 3 rdInt) v0_0.v a_s, crd (RdS 65 rd65) v1_0.v a_l, crd (RdS 86 rd86) v2_0.v a_facts, cbox k1 61 (.agg [(.slice none 0 0), (.slice none 0 0), (.slice none 0 0), (.int .i64 0)].toArray), cbox k5 61 (.agg [v42.v, v45.v, v47.v, (.int .i64 c48)].toArray), cown (OwnS 86 ow86) F43 v42.v c41, crd (RdS 3 rdInt) v45.v c44, crd (RdS 130 rd130) v47.v c46] ∧ s_ReachAll_L1 a_s a_l a_facts m50 c41 c44 c46 c48 c49 = some R) ⟨_, _, _, _, _, _, p4.1, p4.2.1, p4.2.2.1, p4.2.2.2.1, eqA, (.frz (.t (.t (.t .h))) frz_own entA), hF⟩ ?_)
 rintro m50 _ _ ⟨g51, c41, c44, c46, c48, c49, v42, F43, v45, v47, rfl, hE, hF⟩
 refine K_ent hE ?_
 rcases m50 with _ | m50
 · rw [s_ReachAll_L1] at hF
   exact absurd hF (by simp)
 rw [s_ReachAll_L1] at hF
 iterate 5 refine au ?_
 refine Ci hF (fun hb63 hF => ?_) (fun hb63 hF => ?_)
 · iterate 2 refine au ?_
   refine K_frz (.t (.t (.t (.t (.t .h))))) frz_own ?_
   iterate 5 refine au ?_
   refine bnd hF fun r58 hx59 hF => Cx3 (s_StepReach_ok _ _ _ _ _ _ _ _ _ _ _ hx59) (fun p60 => ?_)
   refine au ?_
   refine C_val (V_extract (l := [(.agg [p60.1.v, p60.2.2.1.v, p60.2.2.2.v, (.int .i64 r58.1.Rounds)].toArray), (.bool r58.2)]) (v := (.agg [p60.1.v, p60.2.2.1.v, p60.2.2.2.v, (.int .i64 r58.1.Rounds)].toArray)) (.tmp rfl rfl) rfl) ?_
   refine C_val (V_extract (l := [(.agg [p60.1.v, p60.2.2.1.v, p60.2.2.2.v, (.int .i64 r58.1.Rounds)].toArray), (.bool r58.2)]) (v := (.bool r58.2)) (.tmp rfl rfl) rfl) ?_
   refine AnW (fun k61 => ?_)
   refine As (.agg [p60.1.v, p60.2.2.1.v, p60.2.2.2.v, (.int .i64 r58.1.Rounds)].toArray) ?_
   iterate 7 refine au ?_
   refine Ci hF (fun hb62 hF => ?_) (fun hb62 hF => ?_)
   · iterate 2 refine au ?_
     refine As (.agg [v42.v, v45.v, v47.v, (.int .i64 c48)].toArray) ?_
     iterate 2 refine au ?_
     cases hF
     exact Er (v42, v45, v47)
   iterate 3 refine au ?_
   refine As (.agg [p60.1.v, p60.2.2.1.v, p60.2.2.2.v, (.int .i64 r58.1.Rounds)].toArray) ?_
   iterate 6 refine au ?_
   exact ⟨m50, Nat.lt_succ_self _, _, _, _, _, _, _, p60.1, p60.2.1, p60.2.2.1, p60.2.2.2, eqA, entA, hF⟩
 iterate 6 refine au ?_
 refine As (.agg [v42.v, v45.v, v47.v, (.int .i64 c48)].toArray) ?_
 iterate 2 refine au ?_
 cases hF
 exact End_ret (v42, v45, v47) (.cellA rfl rfl .h rfl ag61.h ty61.h.sz rfl rfl .nil) rfl (.frz (.t (.t (.t (.t (.t .h))))) frz_own (.sel (.rd .h rfl (.rd (.t (.t (.t (.t (.t (.t .h)))))) rfl (.rd (.t (.t (.t (.t (.t (.t (.t .h))))))) rfl .nil)))))
def s_CertificateFor (fuel : Nat) (a_s : List Int) (a_l : List Method) (a_q : Query) : Option (Certificate × Bool) :=
 ((s_l6Fine a_s a_l a_q).bind fun r5 =>
   bif (!r5) then (some true)
   else ((s_IsFeasible fuel a_s a_l a_q).bind fun r9 =>
     some r9)).bind fun o3 =>
 match o3 with
 | c12 => if c12 then (
     some (({ All := [], Some := [], Tuple := [] } : Certificate), false))
   else (
     (s_FreezeQuery fuel a_q).bind fun r13 =>
     if (!r13.2.2) then (
       some (({ All := [], Some := [], Tuple := [] } : Certificate), false))
     else (
       (s_ConstantsOf a_q).bind fun r20 =>
       (s_ReachAll a_s a_l r13.1 r20).bind fun r23 =>
       (s_TupleOf a_q r13.2.1).bind fun r27 =>
       some (({ All := r13.1, Some := r23.Facts, Tuple := r27 } : Certificate), true)))
theorem s_CertificateFor_ok (fuel : Nat) (a_s : List Int) (v0_0 : Sv) (a_l : List Method) (v1_0 : Sv) (a_q : Query) (v2_0 : Sv) (v2_1 : Sv) (R : Certificate × Bool) (hF : s_CertificateFor fuel a_s a_l a_q = some R) :
   Fw.Spec Tryz.prog 6 [v0_0.v, v1_0.v, (.agg [v2_0.v, v2_1.v].toArray)] [crd (RdS 3 rdInt) v0_0.v a_s, crd (RdS 65 rd65) v1_0.v a_l, crd (RdS 3 rdInt) v2_0.v a_q.Head, crd (RdS 84 rd84) v2_1.v a_q.Atoms] (fun p : Sv × Sv × Sv × List Nat => (.tuple [(.agg [p.1.v, p.2.1.v, p.2.2.1.v].toArray), (.bool R.2)].toArray)) (fun p => [crd (RdS 86 rd86) p.1.v R.1.All, crd (RdS 86 rd86) p.2.1.v R.1.Some, cown (OwnS 3 (roE rdInt)) p.2.2.2 p.2.2.1.v R.1.Tuple]) := by
 refine Se 46 Tryz.func6 [.cell 6 31, .tmp 7] ?_
 intro H0 F0
 unfold s_CertificateFor at hF
 refine au ?_
 refine AbR (fun k1 => ?_)
 refine AnW (fun k2 => ?_)
 iterate 3 refine au ?_
 obtain ⟨o3, hio3, hO4⟩ := bind_some hF
 refine au ?_
 refine C_cut (fun f' cs' => ∃ (c12 : Bool) (g : Fr), c12 = o3 ∧ f' = updL g [(0, v0_0.v), (1, v1_0.v), (5, (pz k1)), (6, (pz k2)), (22, (.bool c12))] ∧ Ent cs' [crd (RdS 3 rdInt) v0_0.v a_s, crd (RdS 65 rd65) v1_0.v a_l, cboR k1 39 (.agg [v2_0.v, v2_1.v].toArray), crd (RdS 3 rdInt) v2_0.v a_q.Head, crd (RdS 84 rd84) v2_1.v a_q.Atoms, cbox k2 31 (.agg [(.slice none 0 0), (.slice none 0 0), (.slice none 0 0)].toArray)]) ?_ ?_
 · replace hF := hio3
   iterate 3 refine au ?_
   refine bnd hF fun r5 hx6 hF => Cx0 (s_l6Fine_ok _ _ _ _ _ _ _ _ hx6) (fun _ => ?_)
   iterate 2 refine au ?_
   rcases Bool.eq_false_or_eq_true (!r5) with hg8 | hg8
   · rw [hg8]
     try rw [hg8] at hF; dsimp only [cond_true, cond_false] at hF
     iterate 6 refine au ?_
     cases hF
     exact ⟨_, _, rfl, eqA, entA⟩
   rw [hg8]
   try rw [hg8] at hF; dsimp only [cond_true, cond_false] at hF
   iterate 7 refine au ?_
   refine bnd hF fun r9 hx10 hF => Cx0 (s_IsFeasible_ok _ _ _ _ _ _ _ _ _ hx10) (fun _ => ?_)
   iterate 2 refine au ?_
   cases hF
   exact ⟨_, _, rfl, eqA, entA⟩
 rintro _ _ ⟨c12, g32, rfl, rfl, hE⟩
 replace hF := hO4
 try dsimp only at hF
 refine K_ent hE ?_
 refine Ci hF (fun hb31 hF => ?_) (fun hb31 hF => ?_)
 · refine au ?_
   refine C_val (V_build ty31.h rfl (vs := []) .nil (cells := [(.slice none 0 0), (.slice none 0 0), (.slice none 0 0)]) rfl) ?_
   refine As (.agg [(.slice none 0 0), (.slice none 0 0), (.slice none 0 0)].toArray) ?_
   iterate 3 refine au ?_
   cases hF
   exact End_ret (⟨none, 0, 0⟩, ⟨none, 0, 0⟩, ⟨none, 0, 0⟩, []) (.cellA rfl rfl .h rfl ag31.h ty31.h.sz rfl rfl (.tmp rfl rfl .nil)) rfl (.conv .nil (rd_nil (R := rd86) (E := 86)) (.cons .nil) (.conv .nil (rd_nil (R := rd86) (E := 86)) (.cons .nil) (.conv .nil (own_nil (Ro := (roE rdInt)) (E := 3)) (.cons .nil) (.sel (.rd (.t (.t .h)) rfl (.rd (.t .h) rfl (.cons .h .nil)))))))
 iterate 3 refine au ?_
 refine bnd hF fun r13 hx14 hF => Cx3 (s_FreezeQuery_ok _ _ _ _ _ hx14) (fun p15 => ?_)
 refine au ?_
 refine C_val (V_extract (l := [p15.1.v, (.agg [p15.2.2.1.v, p15.2.2.2.2.1.v].toArray), (.bool r13.2.2)]) (v := p15.1.v) (.tmp rfl rfl) rfl) ?_
 refine C_val (V_extract (l := [p15.1.v, (.agg [p15.2.2.1.v, p15.2.2.2.2.1.v].toArray), (.bool r13.2.2)]) (v := (.agg [p15.2.2.1.v, p15.2.2.2.2.1.v].toArray)) (.tmp rfl rfl) rfl) ?_
 refine C_val (V_extract (l := [p15.1.v, (.agg [p15.2.2.1.v, p15.2.2.2.2.1.v].toArray), (.bool r13.2.2)]) (v := (.bool r13.2.2)) (.tmp rfl rfl) rfl) ?_
 refine AnW (fun k16 => ?_)
 refine au ?_
 refine As (.agg [p15.2.2.1.v, p15.2.2.2.2.1.v].toArray) ?_
 iterate 7 refine au ?_
 refine Ci hF (fun hb30 hF => ?_) (fun hb30 hF => ?_)
 · refine au ?_
   refine C_val (V_build ty31.h rfl (vs := []) .nil (cells := [(.slice none 0 0), (.slice none 0 0), (.slice none 0 0)]) rfl) ?_
   refine As (.agg [(.slice none 0 0), (.slice none 0 0), (.slice none 0 0)].toArray) ?_
   iterate 3 refine au ?_
   cases hF
   exact End_ret (⟨none, 0, 0⟩, ⟨none, 0, 0⟩, ⟨none, 0, 0⟩, []) (.cellA rfl rfl .h rfl ag31.h ty31.h.sz rfl rfl (.tmp rfl rfl .nil)) rfl (.conv .nil (rd_nil (R := rd86) (E := 86)) (.cons .nil) (.conv .nil (rd_nil (R := rd86) (E := 86)) (.cons .nil) (.conv .nil (own_nil (Ro := (roE rdInt)) (E := 3)) (.cons .nil) (.sel (.rd (.t (.t .h)) rfl (.rd (.t .h) rfl (.cons .h .nil)))))))
 refine au ?_
 refine K_frz (.t .h) frz_own ?_
 iterate 5 refine au ?_
 refine bnd hF fun r20 hx21 hF => Cx1 (s_ConstantsOf_ok _ _ _ _ hx21) (fun p22 => ?_)
 refine bnd hF fun r23 hx24 hF => Cx3 (s_ReachAll_ok _ _ _ _ _ _ _ _ _ hx24) (fun p25 => ?_)
 refine AnW (fun k26 => ?_)
 refine As (.agg [p25.1.v, p25.2.1.v, p25.2.2.v, (.int .i64 r23.Rounds)].toArray) ?_
 refine au ?_
 refine K_draw [0, 1, 2, 3, 4, 5, 6, 7, 8] [0, 0, 2, 0, 0, 24, 63, 127, 255] [5, 7] mixed (by decide +kernel) ?_
 iterate 2 refine du ?_
 refine D_atO rfl .no .h (fun ha hp => V_load (v := p25.1.v) ag29.h (EN ha (.tmp rfl rfl) rfl) hp.2 rfl rfl) ?_
 refine du ?_
 refine D_atO rfl .no (.t (.t (.t (.t (.t (.t .h)))))) (fun ha hp => V_loadBox ag56.h ty56.h.sz rfl (EN ha (.tmp rfl rfl) rfl) hp.2 rfl) ?_
 refine bnd hF fun r27 hx28 hF => D_act3 rfl rfl .no (.cons (.t (.t (.t (.t (.t (.t (.t (.t .h)))))))) (.cons (.t (.t (.t (.t (.t (.t (.t .h))))))) (.rd (.t (.t (.t (.t (.t (.t (.t (.t (.t (.t .h)))))))))) rfl (.rd (.t (.t (.t (.t (.t (.t (.t (.t (.t (.t (.t .h))))))))))) rfl .nil)))) (.dep rfl (.own .h (fun _ h => h) .nil)) (fun ha => XC_borL (pre := _) (.cons frz_own (.cons frz_own .nil)) (fun _ => (.cons .nil)) (XC_pre (.rd (.t (.t .h)) rfl (.rd (.t (.t (.t .h))) rfl (.rd .h rfl (.rd (.t .h) rfl .nil)))) (X_callS cf28.h (.cons (EN ha (.tmp rfl rfl) rfl) (.cons (EN ha (.tmp rfl rfl) rfl) .nil)) (s_TupleOf_ok a_q v2_0 v2_1 r13.2.1 p15.2.2.1 p15.2.2.2.2.1 _ hx28)))) (fun p29 => ?_)
 refine D_val rfl .no (fun ha => V_build ty31.h rfl (vs := [p15.1.v, p25.1.v, p29.1.v]) (.cons (EN ha (.tmp rfl rfl) rfl) (.cons (EN ha (.tmp rfl rfl) rfl) (.cons (EN ha (.tmp rfl rfl) rfl) .nil))) (cells := [p15.1.v, p25.1.v, p29.1.v]) rfl) ?_
 refine D_act1 rfl rfl .no (.cons (.t (.t (.t (.t (.t (.t (.t (.t (.t (.t (.t (.t (.t (.t (.t .h))))))))))))))) .nil) (.dep rfl (.dep rfl .nil)) (fun ha => X_storeB (e' := (.agg [p15.1.v, p25.1.v, p29.1.v].toArray)) (v := (.agg [p15.1.v, p25.1.v, p29.1.v].toArray)) ty31.h.sz (EN ha (.tmp rfl rfl) rfl) (EN ha (.tmp rfl rfl) rfl) rfl rfl rfl rfl rfl) (fun _ => ?_)
 iterate 2 refine du ?_
 refine au ?_
 cases hF
 exact End_ret (p15.1, p25.1, p29.1, p29.2) (.cellA rfl rfl .h rfl ag31.h ty31.h.sz rfl rfl (.tmp rfl rfl .nil)) rfl (.sel (.rd (.t (.t (.t (.t (.t (.t (.t (.t (.t .h))))))))) rfl (.rd (.t (.t (.t (.t (.t .h))))) rfl (.cons (.t (.t (.t .h))) .nil))))
def i_within (a_n : Int) (a_low : Int) (a_high : Int) : Option (Bool) :=
 some ((decide ((a_low : Int) ≤ a_n)) && (decide ((a_n : Int) ≤ a_high)))
theorem i_within_ok (a_n : Int) (a_low : Int) (a_high : Int) (R : Bool) (hF : i_within a_n a_low a_high = some R) :
   Fw.Spec Tryz.prog 91 [(.int .i64 a_n), (.int .i64 a_low), (.int .i64 a_high)] [] (fun _ : Unit => (.bool R)) (fun _ => []) := by
 refine Se 15 Tryz.func91 [.tmp 6] ?_
 intro H0 F0
 unfold i_within at hF
 iterate 4 refine au ?_
 refine C_cut (fun f' cs' => ∃ (g : Fr), f' = updL g [(6, (.bool ((decide ((a_low : Int) ≤ a_n)) && (decide ((a_n : Int) ≤ a_high)))))] ∧ Ent cs' []) ?_ ?_
 · iterate 4 refine au ?_
   rcases Bool.eq_false_or_eq_true (decide ((a_low : Int) ≤ a_n)) with hg1 | hg1
   · rw [hg1]
     try rw [hg1] at hF; dsimp only [cond_true, cond_false] at hF
     iterate 9 refine au ?_
     exact ⟨_, eqA, entA⟩
   rw [hg1]
   try rw [hg1] at hF; dsimp only [cond_true, cond_false] at hF
   iterate 6 refine au ?_
   exact ⟨_, eqA, entA⟩
 rintro _ _ ⟨g2, rfl, hE⟩
 refine K_ent hE ?_
 refine au ?_
 cases hF
 exact Er ()
def i_IsSchema_1 (a_n : Int) : Option (Bool) :=
 (i_within a_n 1 3).bind fun r1 =>
 some (!r1)
theorem i_IsSchema_1_ok (a_n : Int) (R : Bool) (hF : i_IsSchema_1 a_n = some R) :
   Fw.Spec Tryz.prog 124 [(.int .i64 a_n)] [] (fun _ : Unit => (.bool R)) (fun _ => []) := by
 refine Se 6 Tryz.func124 [.tmp 2] ?_
 intro H0 F0
 unfold i_IsSchema_1 at hF
 iterate 5 refine au ?_
 refine bnd hF fun r1 hx2 hF => Cx0 (i_within_ok _ _ _ _ hx2) (fun _ => ?_)
 iterate 4 refine au ?_
 cases hF
 exact Er ()
def g_slices_IndexFunc_int_int_iIsSchema1_L1 : List Int → Nat → Option (Int)
 | [], k4 => some (-1)
 | x6 :: rest5, k4 => (i_IsSchema_1 x6).bind fun r15 =>
   if r15 then (
     some (k4 : Int))
   else (
     g_slices_IndexFunc_int_int_iIsSchema1_L1 rest5 (k4 + 1))
def g_slices_IndexFunc_int_int_iIsSchema1 (a_s : List Int) : Option (Int) :=
 g_slices_IndexFunc_int_int_iIsSchema1_L1 a_s 0
theorem g_slices_IndexFunc_int_int_iIsSchema1_ok (a_s : List Int) (v0_0 : Sv) (R : Int) (hF : g_slices_IndexFunc_int_int_iIsSchema1 a_s = some R) :
   Fw.Spec Tryz.prog 158 [v0_0.v, (.func (.func 124) [].toArray [].toArray)] [crd (RdS 3 rdInt) v0_0.v a_s] (fun _ : Unit => (.int .i64 R)) (fun _ => []) := by
 refine Se 19 Tryz.func158 [.tmp 4] ?_
 intro H0 F0
 unfold g_slices_IndexFunc_int_int_iIsSchema1 at hF
 iterate 9 refine au ?_
 refine CW_block (CW_loop (m := a_s.length) (fun m2 f' cs' => ∃ (g : Fr) (k4 : Nat) (rest5 : List Int), m2 = rest5.length ∧ f' = updL g [(0, v0_0.v), (1, (.func (.func 124) [].toArray [].toArray)), (7, (.int .i64 (a_s.length : Int))), (8, (.int .i64 (k4 : Int)))] ∧ List.drop k4 a_s = rest5 ∧ Ent cs' [crd (RdS 3 rdInt) v0_0.v a_s] ∧ g_slices_IndexFunc_int_int_iIsSchema1_L1 rest5 k4 = some R) ⟨_, 0, _, rfl, eqA, rfl, entA, hF⟩ ?_)
 rintro m2 _ _ ⟨g3, k4, rest5, rfl, rfl, hd7, hE, hF⟩
 refine Kb hE a_s (fun hbd12 => ?_)
 rcases rest5 with _ | ⟨x6, rest5⟩
 · have hk8 := dn hd7
   rw [g_slices_IndexFunc_int_int_iIsSchema1_L1] at hF
   iterate 4 refine au ?_
   refine CdF ?_
   iterate 8 refine au ?_
   cases hF
   exact Er ()
 obtain ⟨hk8, hx9, hd10⟩ := drop_cons hd7
 rw [g_slices_IndexFunc_int_int_iIsSchema1_L1] at hF
 iterate 4 refine au ?_
 refine CdT ?_
 iterate 10 refine au ?_
 refine Ai hx9 (fun k13 j14 => ?_)
 refine Al ls3_0 ?_
 refine bnd hF fun r15 hx16 hF => C_x0 .nil (X_callCS cf124.h (.tmp rfl rfl) (.cons (.tmp rfl rfl) .nil) (i_IsSchema_1_ok x6 _ hx16)) (fun _ => ?_)
 refine au ?_
 refine Ci hF (fun hb19 hF => ?_) (fun hb19 hF => ?_)
 · iterate 5 refine au ?_
   cases hF
   exact Er ()
 iterate 5 refine au ?_
 rw [wk k4]
 exact ⟨_, Nat.lt_succ_self _, _, k4 + 1, rest5, rfl, eqA, hd10, entA, hF⟩
def g_slices_ContainsFunc_int_int_iIsSchema1 (a_s : List Int) : Option (Bool) :=
 (g_slices_IndexFunc_int_int_iIsSchema1 a_s).bind fun r1 =>
 some (decide ((0 : Int) ≤ r1))
theorem g_slices_ContainsFunc_int_int_iIsSchema1_ok (a_s : List Int) (v0_0 : Sv) (R : Bool) (hF : g_slices_ContainsFunc_int_int_iIsSchema1 a_s = some R) :
   Fw.Spec Tryz.prog 123 [v0_0.v, (.func (.func 124) [].toArray [].toArray)] [crd (RdS 3 rdInt) v0_0.v a_s] (fun _ : Unit => (.bool R)) (fun _ => []) := by
 refine Se 9 Tryz.func123 [.tmp 4] ?_
 intro H0 F0
 unfold g_slices_ContainsFunc_int_int_iIsSchema1 at hF
 iterate 6 refine au ?_
 refine bnd hF fun r1 hx2 hF => Cx0 (g_slices_IndexFunc_int_int_iIsSchema1_ok _ _ _ hx2) (fun _ => ?_)
 iterate 4 refine au ?_
 cases hF
 exact Er ()
def i_IsSchema (a_s : List Int) : Option (Bool) :=
 ((i_within (a_s.length : Int) 1 3).bind fun r3 =>
   bif r3 then ((g_slices_ContainsFunc_int_int_iIsSchema1 a_s).bind fun r7 =>
     some (!r7))
   else (some false)).bind fun o1 =>
 match o1 with
 | c10 => some c10
theorem i_IsSchema_ok (a_s : List Int) (v0_0 : Sv) (R : Bool) (hF : i_IsSchema a_s = some R) :
   Fw.Spec Tryz.prog 87 [v0_0.v] [crd (RdS 3 rdInt) v0_0.v a_s] (fun _ : Unit => (.bool R)) (fun _ => []) := by
 refine Se 11 Tryz.func87 [.tmp 2] ?_
 intro H0 F0
 unfold i_IsSchema at hF
 iterate 3 refine au ?_
 obtain ⟨o1, hio1, hO2⟩ := bind_some hF
 refine au ?_
 refine C_cut (fun f' cs' => ∃ (c10 : Bool) (g : Fr), c10 = o1 ∧ f' = updL g [(2, (.bool c10))] ∧ Ent cs' []) ?_ ?_
 · replace hF := hio1
   iterate 2 refine au ?_
   refine bnd hF fun r3 hx4 hF => Cx0 (i_within_ok _ _ _ _ hx4) (fun _ => ?_)
   refine au ?_
   rcases Bool.eq_false_or_eq_true r3 with hg6 | hg6
   · rw [hg6]
     try rw [hg6] at hF; dsimp only [cond_true, cond_false] at hF
     iterate 3 refine au ?_
     refine bnd hF fun r7 hx8 hF => Cx0 (g_slices_ContainsFunc_int_int_iIsSchema1_ok _ _ _ hx8) (fun _ => ?_)
     iterate 5 refine au ?_
     cases hF
     exact ⟨_, _, rfl, eqA, entA⟩
   rw [hg6]
   try rw [hg6] at hF; dsimp only [cond_true, cond_false] at hF
   iterate 6 refine au ?_
   cases hF
   exact ⟨_, _, rfl, eqA, entA⟩
 rintro _ _ ⟨c10, g11, rfl, rfl, hE⟩
 replace hF := hO2
 try dsimp only at hF
 refine K_ent hE ?_
 refine au ?_
 cases hF
 exact Er ()
def i_hasRel (a_s : List Int) (a_rel : Int) : Option (Bool) :=
 ((i_IsSchema a_s).bind fun r3 =>
   bif r3 then ((i_within a_rel 0 (IntKind.i64.wrap ((a_s.length : Int) - 1))).bind fun r7 =>
     some r7)
   else (some false)).bind fun o1 =>
 match o1 with
 | c10 => some c10
theorem i_hasRel_ok (a_s : List Int) (v0_0 : Sv) (a_rel : Int) (R : Bool) (hF : i_hasRel a_s a_rel = some R) :
   Fw.Spec Tryz.prog 126 [v0_0.v, (.int .i64 a_rel)] [crd (RdS 3 rdInt) v0_0.v a_s] (fun _ : Unit => (.bool R)) (fun _ => []) := by
 refine Se 14 Tryz.func126 [.tmp 4] ?_
 intro H0 F0
 unfold i_hasRel at hF
 iterate 3 refine au ?_
 obtain ⟨o1, hio1, hO2⟩ := bind_some hF
 refine au ?_
 refine C_cut (fun f' cs' => ∃ (c10 : Bool) (g : Fr), c10 = o1 ∧ f' = updL g [(4, (.bool c10))] ∧ Ent cs' []) ?_ ?_
 · replace hF := hio1
   refine au ?_
   refine bnd hF fun r3 hx4 hF => Cx0 (i_IsSchema_ok _ _ _ hx4) (fun _ => ?_)
   refine au ?_
   rcases Bool.eq_false_or_eq_true r3 with hg6 | hg6
   · rw [hg6]
     try rw [hg6] at hF; dsimp only [cond_true, cond_false] at hF
     iterate 9 refine au ?_
     refine bnd hF fun r7 hx8 hF => Cx0 (i_within_ok _ _ _ _ hx8) (fun _ => ?_)
     iterate 3 refine au ?_
     cases hF
     exact ⟨_, _, rfl, eqA, entA⟩
   rw [hg6]
   try rw [hg6] at hF; dsimp only [cond_true, cond_false] at hF
   iterate 8 refine au ?_
   cases hF
   exact ⟨_, _, rfl, eqA, entA⟩
 rintro _ _ ⟨c10, g11, rfl, rfl, hE⟩
 replace hF := hO2
 try dsimp only at hF
 refine K_ent hE ?_
 refine au ?_
 cases hF
 exact Er ()
def i_ascending_L1 (a_l : List Int) : List Int → Nat → Option (Bool)
 | [], k4 => some true
 | x6 :: rest5, k4 => (bif (decide ((0 : Int) < (k4 : Int))) then ((ix a_l (IntKind.i64.wrap ((k4 : Int) - 1))).bind fun x18 =>
       some (decide ((x6 : Int) ≤ x18)))
     else (some false)).bind fun o13 =>
   match o13 with
   | c24 => if c24 then (
       some false)
     else (
       i_ascending_L1 a_l rest5 (k4 + 1))
def i_ascending (a_l : List Int) : Option (Bool) :=
 i_ascending_L1 a_l a_l 0
theorem i_ascending_ok (a_l : List Int) (v0_0 : Sv) (R : Bool) (hF : i_ascending a_l = some R) :
   Fw.Spec Tryz.prog 159 [v0_0.v] [crd (RdS 3 rdInt) v0_0.v a_l] (fun _ : Unit => (.bool R)) (fun _ => []) := by
 refine Se 24 Tryz.func159 [.tmp 2] ?_
 intro H0 F0
 unfold i_ascending at hF
 iterate 9 refine au ?_
 refine CW_block (CW_loop (m := a_l.length) (fun m2 f' cs' => ∃ (g : Fr) (k4 : Nat) (rest5 : List Int), m2 = rest5.length ∧ f' = updL g [(0, v0_0.v), (5, (.int .i64 (a_l.length : Int))), (6, (.int .i64 (k4 : Int)))] ∧ List.drop k4 a_l = rest5 ∧ Ent cs' [crd (RdS 3 rdInt) v0_0.v a_l] ∧ i_ascending_L1 a_l rest5 k4 = some R) ⟨_, 0, _, rfl, eqA, rfl, entA, hF⟩ ?_)
 rintro m2 _ _ ⟨g3, k4, rest5, rfl, rfl, hd7, hE, hF⟩
 refine Kb hE a_l (fun hbd12 => ?_)
 rcases rest5 with _ | ⟨x6, rest5⟩
 · have hk8 := dn hd7
   rw [i_ascending_L1] at hF
   iterate 4 refine au ?_
   refine CdF ?_
   iterate 8 refine au ?_
   cases hF
   exact Er ()
 obtain ⟨hk8, hx9, hd10⟩ := drop_cons hd7
 rw [i_ascending_L1] at hF
 iterate 4 refine au ?_
 refine CdT ?_
 iterate 6 refine au ?_
 obtain ⟨o13, hio13, hO14⟩ := bind_some hF
 refine K_draw [0, 1, 2, 3, 4, 5, 6, 7, 8, 9, 10, 11, 12, 13] [0, 1, 3, 7, 7, 31, 63, 7, 7, 263, 903, 1927, 4095, 8191] [] mixed (by decide +kernel) ?_
 refine D_cut (fun f' cs' => ∃ (c24 : Bool) (g : Fr), c24 = o13 ∧ f' = updL g [(0, v0_0.v), (5, (.int .i64 (a_l.length : Int))), (6, (.int .i64 (k4 : Int))), (22, (.bool c24))] ∧ Ent cs' [crd (RdS 3 rdInt) v0_0.v a_l]) ?_ ?_
 · replace hF := hio13
   iterate 3 refine du ?_
   rcases Bool.eq_false_or_eq_true (decide ((0 : Int) < (k4 : Int))) with hg15 | hg15
   · rw [hg15]
     try rw [hg15] at hF; dsimp only [cond_true, cond_false] at hF
     iterate 2 refine du ?_
     refine Di hx9 (fun k16 j17 => ?_)
     refine Dl ls3_0 ?_
     iterate 3 refine du ?_
     refine bnd hF fun x18 hx19 hF => ?_
     obtain ⟨hp20, hx21⟩ := ix_some hx19
     refine Di hx21 (fun k22 j23 => ?_)
     refine Dl ls3_0 ?_
     iterate 3 refine du ?_
     cases hF
     exact ⟨_, _, rfl, eqA, entA⟩
   rw [hg15]
   try rw [hg15] at hF; dsimp only [cond_true, cond_false] at hF
   iterate 12 refine du ?_
   cases hF
   exact ⟨_, _, rfl, eqA, entA⟩
 rintro _ _ ⟨c24, g27, rfl, rfl, hE⟩
 replace hF := hO14
 try dsimp only at hF
 refine K_ent hE ?_
 refine Ci hF (fun hb26 hF => ?_) (fun hb26 hF => ?_)
 · iterate 4 refine au ?_
   cases hF
   exact Er ()
 iterate 5 refine au ?_
 rw [wk k4]
 exact ⟨_, Nat.lt_succ_self _, _, k4 + 1, rest5, rfl, eqA, hd10, entA, hF⟩
def i_Method_fits_1 (a_i : Int) (a_e1 : Int) : Option (Bool) :=
 (i_within a_i 0 (IntKind.i64.wrap (a_e1 - 1))).bind fun r1 =>
 some (!r1)
theorem i_Method_fits_1_ok (a_i : Int) (kc1 : Nat) (a_e1 : Int) (R : Bool) (hF : i_Method_fits_1 a_i a_e1 = some R) :
   Fw.Spec Tryz.prog 160 [(.int .i64 a_i), (pz kc1)] [cboR kc1 3 (.int .i64 a_e1)] (fun _ : Unit => (.bool R)) (fun _ => []) := by
 refine Se 9 Tryz.func160 [.tmp 3] ?_
 intro H0 F0
 unfold i_Method_fits_1 at hF
 iterate 7 refine au ?_
 refine bnd hF fun r1 hx2 hF => Cx0 (i_within_ok _ _ _ _ hx2) (fun _ => ?_)
 iterate 4 refine au ?_
 cases hF
 exact Er ()
def g_slices_IndexFunc_int_int_iMethodfits1_L1 (a_e1 : Int) : List Int → Nat → Option (Int)
 | [], k4 => some (-1)
 | x6 :: rest5, k4 => (i_Method_fits_1 x6 a_e1).bind fun r15 =>
   if r15 then (
     some (k4 : Int))
   else (
     g_slices_IndexFunc_int_int_iMethodfits1_L1 a_e1 rest5 (k4 + 1))
def g_slices_IndexFunc_int_int_iMethodfits1 (a_s : List Int) (a_e1 : Int) : Option (Int) :=
 g_slices_IndexFunc_int_int_iMethodfits1_L1 a_e1 a_s 0
theorem g_slices_IndexFunc_int_int_iMethodfits1_ok (a_s : List Int) (v0_0 : Sv) (kc1 : Nat) (a_e1 : Int) (R : Int) (hF : g_slices_IndexFunc_int_int_iMethodfits1 a_s a_e1 = some R) :
   Fw.Spec Tryz.prog 158 [v0_0.v, (.func (.func 160) [].toArray [(pz kc1)].toArray)] [crd (RdS 3 rdInt) v0_0.v a_s, cboR kc1 3 (.int .i64 a_e1)] (fun _ : Unit => (.int .i64 R)) (fun _ => []) := by
 refine Se 19 Tryz.func158 [.tmp 4] ?_
 intro H0 F0
 unfold g_slices_IndexFunc_int_int_iMethodfits1 at hF
 iterate 9 refine au ?_
 refine CW_block (CW_loop (m := a_s.length) (fun m2 f' cs' => ∃ (g : Fr) (k4 : Nat) (rest5 : List Int), m2 = rest5.length ∧ f' = updL g [(0, v0_0.v), (1, (.func (.func 160) [].toArray [(pz kc1)].toArray)), (7, (.int .i64 (a_s.length : Int))), (8, (.int .i64 (k4 : Int)))] ∧ List.drop k4 a_s = rest5 ∧ Ent cs' [crd (RdS 3 rdInt) v0_0.v a_s, cboR kc1 3 (.int .i64 a_e1)] ∧ g_slices_IndexFunc_int_int_iMethodfits1_L1 a_e1 rest5 k4 = some R) ⟨_, 0, _, rfl, eqA, rfl, entA, hF⟩ ?_)
 rintro m2 _ _ ⟨g3, k4, rest5, rfl, rfl, hd7, hE, hF⟩
 refine Kb hE a_s (fun hbd12 => ?_)
 rcases rest5 with _ | ⟨x6, rest5⟩
 · have hk8 := dn hd7
   rw [g_slices_IndexFunc_int_int_iMethodfits1_L1] at hF
   iterate 4 refine au ?_
   refine CdF ?_
   iterate 8 refine au ?_
   cases hF
   exact Er ()
 obtain ⟨hk8, hx9, hd10⟩ := drop_cons hd7
 rw [g_slices_IndexFunc_int_int_iMethodfits1_L1] at hF
 iterate 4 refine au ?_
 refine CdT ?_
 iterate 10 refine au ?_
 refine Ai hx9 (fun k13 j14 => ?_)
 refine Al ls3_0 ?_
 refine bnd hF fun r15 hx16 hF => C_x0 (.rd (.t (.t .h)) rfl .nil) (X_callCS cf160.h (.tmp rfl rfl) (.cons (.tmp rfl rfl) .nil) (i_Method_fits_1_ok x6 kc1 a_e1 _ hx16)) (fun _ => ?_)
 refine au ?_
 refine Ci hF (fun hb19 hF => ?_) (fun hb19 hF => ?_)
 · iterate 5 refine au ?_
   cases hF
   exact Er ()
 iterate 5 refine au ?_
 rw [wk k4]
 exact ⟨_, Nat.lt_succ_self _, _, k4 + 1, rest5, rfl, eqA, hd10, entA, hF⟩
def g_slices_ContainsFunc_int_int_iMethodfits1 (a_s : List Int) (a_e1 : Int) : Option (Bool) :=
 (g_slices_IndexFunc_int_int_iMethodfits1 a_s a_e1).bind fun r1 =>
 some (decide ((0 : Int) ≤ r1))
theorem g_slices_ContainsFunc_int_int_iMethodfits1_ok (a_s : List Int) (v0_0 : Sv) (kc1 : Nat) (a_e1 : Int) (R : Bool) (hF : g_slices_ContainsFunc_int_int_iMethodfits1 a_s a_e1 = some R) :
   Fw.Spec Tryz.prog 123 [v0_0.v, (.func (.func 160) [].toArray [(pz kc1)].toArray)] [crd (RdS 3 rdInt) v0_0.v a_s, cboR kc1 3 (.int .i64 a_e1)] (fun _ : Unit => (.bool R)) (fun _ => []) := by
 refine Se 9 Tryz.func123 [.tmp 4] ?_
 intro H0 F0
 unfold g_slices_ContainsFunc_int_int_iMethodfits1 at hF
 iterate 6 refine au ?_
 refine bnd hF fun r1 hx2 hF => Cx0 (g_slices_IndexFunc_int_int_iMethodfits1_ok _ _ _ _ _ hx2) (fun _ => ?_)
 iterate 4 refine au ?_
 cases hF
 exact Er ()
def i_isCost (a_n : Int) : Option (Bool) :=
 (i_within a_n 0 99).bind fun r1 =>
 some r1
theorem i_isCost_ok (a_n : Int) (R : Bool) (hF : i_isCost a_n = some R) :
   Fw.Spec Tryz.prog 161 [(.int .i64 a_n)] [] (fun _ : Unit => (.bool R)) (fun _ => []) := by
 refine Se 5 Tryz.func161 [.tmp 2] ?_
 intro H0 F0
 unfold i_isCost at hF
 iterate 5 refine au ?_
 refine bnd hF fun r1 hx2 hF => Cx0 (i_within_ok _ _ _ _ hx2) (fun _ => ?_)
 iterate 3 refine au ?_
 cases hF
 exact Er ()
def i_Method_fits (a_m : Method) (a_arity : Int) : Option (Bool) :=
 ((i_ascending a_m.Inputs).bind fun r5 =>
   bif r5 then ((g_slices_ContainsFunc_int_int_iMethodfits1 a_m.Inputs a_arity).bind fun r9 =>
     bif (!r9) then ((i_within a_m.Limit 0 9).bind fun r13 =>
       bif r13 then ((i_isCost a_m.Cost).bind fun r17 =>
         bif r17 then ((i_within a_m.Quota 1 99).bind fun r21 =>
           some r21)
         else (some false))
       else (some false))
     else (some false))
   else (some false)).bind fun o3 =>
 match o3 with
 | c24 => some c24
theorem i_Method_fits_ok (a_m : Method) (v0_1 : Sv) (a_arity : Int) (R : Bool) (hF : i_Method_fits a_m a_arity = some R) :
   Fw.Spec Tryz.prog 127 [(.agg [(.int .i64 a_m.Rel), v0_1.v, (.int .i64 a_m.Limit), (.int .i64 a_m.Cost), (.int .i64 a_m.Quota)].toArray), (.int .i64 a_arity)] [crd (RdS 3 rdInt) v0_1.v a_m.Inputs] (fun _ : Unit => (.bool R)) (fun _ => []) := by
 refine Se 30 Tryz.func127 [.tmp 4] ?_
 intro H0 F0
 unfold i_Method_fits at hF
 refine au ?_
 refine AbR (fun k1 => ?_)
 refine AbR (fun k2 => ?_)
 iterate 2 refine au ?_
 obtain ⟨o3, hio3, hO4⟩ := bind_some hF
 refine au ?_
 refine C_cut (fun f' cs' => ∃ (c24 : Bool) (g : Fr), c24 = o3 ∧ f' = updL g [(4, (.bool c24))] ∧ Ent cs' []) ?_ ?_
 · replace hF := hio3
   iterate 2 refine au ?_
   refine bnd hF fun r5 hx6 hF => Cx0 (i_ascending_ok _ _ _ hx6) (fun _ => ?_)
   refine au ?_
   rcases Bool.eq_false_or_eq_true r5 with hg8 | hg8
   · rw [hg8]
     try rw [hg8] at hF; dsimp only [cond_true, cond_false] at hF
     iterate 5 refine au ?_
     refine C_val (V_makeFunc (fn := .func 160) (vs := []) (us := [(pz k2)]) .nil (.cons (.tmp rfl rfl) .nil)) ?_
     refine au ?_
     refine bnd hF fun r9 hx10 hF => Cx0 (g_slices_ContainsFunc_int_int_iMethodfits1_ok _ _ _ _ _ hx10) (fun _ => ?_)
     iterate 4 refine au ?_
     rcases Bool.eq_false_or_eq_true (!r9) with hg12 | hg12
     · rw [hg12]
       try rw [hg12] at hF; dsimp only [cond_true, cond_false] at hF
       iterate 5 refine au ?_
       refine bnd hF fun r13 hx14 hF => Cx0 (i_within_ok _ _ _ _ hx14) (fun _ => ?_)
       iterate 2 refine au ?_
       rcases Bool.eq_false_or_eq_true r13 with hg16 | hg16
       · rw [hg16]
         try rw [hg16] at hF; dsimp only [cond_true, cond_false] at hF
         iterate 5 refine au ?_
         refine bnd hF fun r17 hx18 hF => Cx0 (i_isCost_ok _ _ hx18) (fun _ => ?_)
         iterate 2 refine au ?_
         rcases Bool.eq_false_or_eq_true r17 with hg20 | hg20
         · rw [hg20]
           try rw [hg20] at hF; dsimp only [cond_true, cond_false] at hF
           iterate 5 refine au ?_
           refine bnd hF fun r21 hx22 hF => Cx0 (i_within_ok _ _ _ _ hx22) (fun _ => ?_)
           iterate 3 refine au ?_
           cases hF
           exact ⟨_, _, rfl, eqA, entA⟩
         rw [hg20]
         try rw [hg20] at hF; dsimp only [cond_true, cond_false] at hF
         iterate 6 refine au ?_
         cases hF
         exact ⟨_, _, rfl, eqA, entA⟩
       rw [hg16]
       try rw [hg16] at hF; dsimp only [cond_true, cond_false] at hF
       iterate 11 refine au ?_
       cases hF
       exact ⟨_, _, rfl, eqA, entA⟩
     rw [hg12]
     try rw [hg12] at hF; dsimp only [cond_true, cond_false] at hF
     iterate 16 refine au ?_
     cases hF
     exact ⟨_, _, rfl, eqA, entA⟩
   rw [hg8]
   try rw [hg8] at hF; dsimp only [cond_true, cond_false] at hF
   iterate 23 refine au ?_
   cases hF
   exact ⟨_, _, rfl, eqA, entA⟩
 rintro _ _ ⟨c24, g25, rfl, rfl, hE⟩
 replace hF := hO4
 try dsimp only at hF
 refine K_ent hE ?_
 refine au ?_
 cases hF
 exact Er ()
def i_IsMethod (a_s : List Int) (a_m : Method) : Option (Bool) :=
 ((i_hasRel a_s a_m.Rel).bind fun r4 =>
   bif r4 then ((ix a_s a_m.Rel).bind fun x8 =>
     (i_Method_fits a_m x8).bind fun r14 =>
     some r14)
   else (some false)).bind fun o2 =>
 match o2 with
 | c17 => some c17
theorem i_IsMethod_ok (a_s : List Int) (v0_0 : Sv) (a_m : Method) (v1_1 : Sv) (R : Bool) (hF : i_IsMethod a_s a_m = some R) :
   Fw.Spec Tryz.prog 90 [v0_0.v, (.agg [(.int .i64 a_m.Rel), v1_1.v, (.int .i64 a_m.Limit), (.int .i64 a_m.Cost), (.int .i64 a_m.Quota)].toArray)] [crd (RdS 3 rdInt) v0_0.v a_s, crd (RdS 3 rdInt) v1_1.v a_m.Inputs] (fun _ : Unit => (.bool R)) (fun _ => []) := by
 refine Se 18 Tryz.func90 [.tmp 4] ?_
 intro H0 F0
 unfold i_IsMethod at hF
 refine au ?_
 refine AbR (fun k1 => ?_)
 iterate 2 refine au ?_
 obtain ⟨o2, hio2, hO3⟩ := bind_some hF
 refine K_draw [0, 1, 2, 3, 4, 5, 6, 7, 8, 9, 10, 11, 12, 13] [0, 0, 2, 7, 15, 31, 31, 31, 159, 479, 991, 2047, 4095, 8191] [3, 11] mixed (by decide +kernel) ?_
 refine D_cut (fun f' cs' => ∃ (c17 : Bool) (g : Fr), c17 = o2 ∧ f' = updL g [(4, (.bool c17))] ∧ Ent cs' []) ?_ ?_
 · replace hF := hio2
   iterate 3 refine du ?_
   refine bnd hF fun r4 hx5 hF => Dx0 (i_hasRel_ok _ _ _ _ hx5) (fun _ => ?_)
   refine du ?_
   rcases Bool.eq_false_or_eq_true r4 with hg7 | hg7
   · rw [hg7]
     try rw [hg7] at hF; dsimp only [cond_true, cond_false] at hF
     iterate 4 refine du ?_
     refine bnd hF fun x8 hx9 hF => ?_
     obtain ⟨hp10, hx11⟩ := ix_some hx9
     refine Di hx11 (fun k12 j13 => ?_)
     refine Dl ls3_0 ?_
     refine bnd hF fun r14 hx15 hF => Dx0 (i_Method_fits_ok _ _ _ _ hx15) (fun _ => ?_)
     iterate 3 refine du ?_
     cases hF
     exact ⟨_, _, rfl, eqA, entA⟩
   rw [hg7]
   try rw [hg7] at hF; dsimp only [cond_true, cond_false] at hF
   iterate 10 refine du ?_
   cases hF
   exact ⟨_, _, rfl, eqA, entA⟩
 rintro _ _ ⟨c17, g18, rfl, rfl, hE⟩
 replace hF := hO3
 try dsimp only at hF
 refine K_ent hE ?_
 refine au ?_
 cases hF
 exact Er ()
def i_AreMethods_1 (a_m : Method) (a_e1 : List Int) : Option (Bool) :=
 (i_IsMethod a_e1 a_m).bind fun r2 =>
 some (!r2)
theorem i_AreMethods_1_ok (a_m : Method) (v0_1 : Sv) (kc1 : Nat) (a_e1 : List Int) (vc1_0 : Sv) (R : Bool) (hF : i_AreMethods_1 a_m a_e1 = some R) :
   Fw.Spec Tryz.prog 89 [(.agg [(.int .i64 a_m.Rel), v0_1.v, (.int .i64 a_m.Limit), (.int .i64 a_m.Cost), (.int .i64 a_m.Quota)].toArray), (pz kc1)] [crd (RdS 3 rdInt) v0_1.v a_m.Inputs, cboR kc1 22 vc1_0.v, crd (RdS 3 rdInt) vc1_0.v a_e1] (fun _ : Unit => (.bool R)) (fun _ => []) := by
 refine Se 8 Tryz.func89 [.tmp 3] ?_
 intro H0 F0
 unfold i_AreMethods_1 at hF
 refine au ?_
 refine AbR (fun k1 => ?_)
 iterate 5 refine au ?_
 refine bnd hF fun r2 hx3 hF => Cx0 (i_IsMethod_ok _ _ _ _ _ hx3) (fun _ => ?_)
 iterate 4 refine au ?_
 cases hF
 exact Er ()
def g_slices_IndexFunc_impl_Method_impl_Method_iAreMethods1_L1 (a_e1 : List Int) : List Method → Nat → Option (Int)
 | [], k4 => some (-1)
 | x6 :: rest5, k4 => (i_AreMethods_1 x6 a_e1).bind fun r16 =>
   if r16 then (
     some (k4 : Int))
   else (
     g_slices_IndexFunc_impl_Method_impl_Method_iAreMethods1_L1 a_e1 rest5 (k4 + 1))
def g_slices_IndexFunc_impl_Method_impl_Method_iAreMethods1 (a_s : List Method) (a_e1 : List Int) : Option (Int) :=
 g_slices_IndexFunc_impl_Method_impl_Method_iAreMethods1_L1 a_e1 a_s 0
theorem g_slices_IndexFunc_impl_Method_impl_Method_iAreMethods1_ok (a_s : List Method) (v0_0 : Sv) (kc1 : Nat) (a_e1 : List Int) (vc1_0 : Sv) (R : Int) (hF : g_slices_IndexFunc_impl_Method_impl_Method_iAreMethods1 a_s a_e1 = some R) :
   Fw.Spec Tryz.prog 125 [v0_0.v, (.func (.func 89) [].toArray [(pz kc1)].toArray)] [crd (RdS 65 rd65) v0_0.v a_s, cboR kc1 22 vc1_0.v, crd (RdS 3 rdInt) vc1_0.v a_e1] (fun _ : Unit => (.int .i64 R)) (fun _ => []) := by
 refine Se 19 Tryz.func125 [.tmp 4] ?_
 intro H0 F0
 unfold g_slices_IndexFunc_impl_Method_impl_Method_iAreMethods1 at hF
 iterate 9 refine au ?_
 refine CW_block (CW_loop (m := a_s.length) (fun m2 f' cs' => ∃ (g : Fr) (k4 : Nat) (rest5 : List Method), m2 = rest5.length ∧ f' = updL g [(0, v0_0.v), (1, (.func (.func 89) [].toArray [(pz kc1)].toArray)), (7, (.int .i64 (a_s.length : Int))), (8, (.int .i64 (k4 : Int)))] ∧ List.drop k4 a_s = rest5 ∧ Ent cs' [crd (RdS 65 rd65) v0_0.v a_s, cboR kc1 22 vc1_0.v, crd (RdS 3 rdInt) vc1_0.v a_e1] ∧ g_slices_IndexFunc_impl_Method_impl_Method_iAreMethods1_L1 a_e1 rest5 k4 = some R) ⟨_, 0, _, rfl, eqA, rfl, entA, hF⟩ ?_)
 rintro m2 _ _ ⟨g3, k4, rest5, rfl, rfl, hd7, hE, hF⟩
 refine Kb hE a_s (fun hbd12 => ?_)
 rcases rest5 with _ | ⟨x6, rest5⟩
 · have hk8 := dn hd7
   rw [g_slices_IndexFunc_impl_Method_impl_Method_iAreMethods1_L1] at hF
   iterate 4 refine au ?_
   refine CdF ?_
   iterate 8 refine au ?_
   cases hF
   exact Er ()
 obtain ⟨hk8, hx9, hd10⟩ := drop_cons hd7
 rw [g_slices_IndexFunc_impl_Method_impl_Method_iAreMethods1_L1] at hF
 iterate 4 refine au ?_
 refine CdT ?_
 iterate 10 refine au ?_
 refine Ai hx9 (fun k13 j14 => ?_)
 refine AlA1 (ul65_0_65 x6) la65_0_65 (fun p15 => ?_)
 refine bnd hF fun r16 hx17 hF => C_x0 (.rd .h rfl (.rd (.t (.t (.t .h))) rfl (.rd (.t (.t (.t (.t .h)))) rfl .nil))) (X_callCS cf89.h (.tmp rfl rfl) (.cons (.tmp rfl rfl) .nil) (i_AreMethods_1_ok x6 p15 kc1 a_e1 vc1_0 _ hx17)) (fun _ => ?_)
 refine au ?_
 refine Ci hF (fun hb20 hF => ?_) (fun hb20 hF => ?_)
 · iterate 5 refine au ?_
   cases hF
   exact Er ()
 iterate 5 refine au ?_
 rw [wk k4]
 exact ⟨_, Nat.lt_succ_self _, _, k4 + 1, rest5, rfl, eqA, hd10, entA, hF⟩
def g_slices_ContainsFunc_impl_Method_impl_Method_iAreMethods1 (a_s : List Method) (a_e1 : List Int) : Option (Bool) :=
 (g_slices_IndexFunc_impl_Method_impl_Method_iAreMethods1 a_s a_e1).bind fun r1 =>
 some (decide ((0 : Int) ≤ r1))
theorem g_slices_ContainsFunc_impl_Method_impl_Method_iAreMethods1_ok (a_s : List Method) (v0_0 : Sv) (kc1 : Nat) (a_e1 : List Int) (vc1_0 : Sv) (R : Bool) (hF : g_slices_ContainsFunc_impl_Method_impl_Method_iAreMethods1 a_s a_e1 = some R) :
   Fw.Spec Tryz.prog 88 [v0_0.v, (.func (.func 89) [].toArray [(pz kc1)].toArray)] [crd (RdS 65 rd65) v0_0.v a_s, cboR kc1 22 vc1_0.v, crd (RdS 3 rdInt) vc1_0.v a_e1] (fun _ : Unit => (.bool R)) (fun _ => []) := by
 refine Se 9 Tryz.func88 [.tmp 4] ?_
 intro H0 F0
 unfold g_slices_ContainsFunc_impl_Method_impl_Method_iAreMethods1 at hF
 iterate 6 refine au ?_
 refine bnd hF fun r1 hx2 hF => Cx0 (g_slices_IndexFunc_impl_Method_impl_Method_iAreMethods1_ok _ _ _ _ _ _ hx2) (fun _ => ?_)
 iterate 4 refine au ?_
 cases hF
 exact Er ()
def i_AreMethods (a_s : List Int) (a_l : List Method) : Option (Bool) :=
 ((i_IsSchema a_s).bind fun r4 =>
   bif r4 then (bif (decide (((a_l.length : Int) : Int) ≤ 5)) then ((g_slices_ContainsFunc_impl_Method_impl_Method_iAreMethods1 a_l a_s).bind fun r9 =>
       some (!r9))
     else (some false))
   else (some false)).bind fun o2 =>
 match o2 with
 | c12 => some c12
theorem i_AreMethods_ok (a_s : List Int) (v0_0 : Sv) (a_l : List Method) (v1_0 : Sv) (R : Bool) (hF : i_AreMethods a_s a_l = some R) :
   Fw.Spec Tryz.prog 59 [v0_0.v, v1_0.v] [crd (RdS 3 rdInt) v0_0.v a_s, crd (RdS 65 rd65) v1_0.v a_l] (fun _ : Unit => (.bool R)) (fun _ => []) := by
 refine Se 18 Tryz.func59 [.tmp 4] ?_
 intro H0 F0
 unfold i_AreMethods at hF
 refine au ?_
 refine AbR (fun k1 => ?_)
 iterate 2 refine au ?_
 obtain ⟨o2, hio2, hO3⟩ := bind_some hF
 refine au ?_
 refine C_cut (fun f' cs' => ∃ (c12 : Bool) (g : Fr), c12 = o2 ∧ f' = updL g [(4, (.bool c12))] ∧ Ent cs' []) ?_ ?_
 · replace hF := hio2
   refine au ?_
   refine bnd hF fun r4 hx5 hF => Cx0 (i_IsSchema_ok _ _ _ hx5) (fun _ => ?_)
   refine au ?_
   rcases Bool.eq_false_or_eq_true r4 with hg7 | hg7
   · rw [hg7]
     try rw [hg7] at hF; dsimp only [cond_true, cond_false] at hF
     iterate 8 refine au ?_
     rcases Bool.eq_false_or_eq_true (decide (((a_l.length : Int) : Int) ≤ 5)) with hg8 | hg8
     · rw [hg8]
       try rw [hg8] at hF; dsimp only [cond_true, cond_false] at hF
       iterate 3 refine au ?_
       refine C_val (V_makeFunc (fn := .func 89) (vs := []) (us := [(pz k1)]) .nil (.cons (.tmp rfl rfl) .nil)) ?_
       refine au ?_
       refine bnd hF fun r9 hx10 hF => Cx0 (g_slices_ContainsFunc_impl_Method_impl_Method_iAreMethods1_ok _ _ _ _ _ _ hx10) (fun _ => ?_)
       iterate 5 refine au ?_
       cases hF
       exact ⟨_, _, rfl, eqA, entA⟩
     rw [hg8]
     try rw [hg8] at hF; dsimp only [cond_true, cond_false] at hF
     iterate 7 refine au ?_
     cases hF
     exact ⟨_, _, rfl, eqA, entA⟩
   rw [hg7]
   try rw [hg7] at hF; dsimp only [cond_true, cond_false] at hF
   iterate 12 refine au ?_
   cases hF
   exact ⟨_, _, rfl, eqA, entA⟩
 rintro _ _ ⟨c12, g13, rfl, rfl, hE⟩
 replace hF := hO3
 try dsimp only at hF
 refine K_ent hE ?_
 refine au ?_
 cases hF
 exact Er ()
def i_isValue (a_n : Int) : Option (Bool) :=
 (i_within a_n 0 9).bind fun r1 =>
 some r1
theorem i_isValue_ok (a_n : Int) (R : Bool) (hF : i_isValue a_n = some R) :
   Fw.Spec Tryz.prog 67 [(.int .i64 a_n)] [] (fun _ : Unit => (.bool R)) (fun _ => []) := by
 refine Se 5 Tryz.func67 [.tmp 2] ?_
 intro H0 F0
 unfold i_isValue at hF
 iterate 5 refine au ?_
 refine bnd hF fun r1 hx2 hF => Cx0 (i_within_ok _ _ _ _ hx2) (fun _ => ?_)
 iterate 3 refine au ?_
 cases hF
 exact Er ()
def i_IsVar (a_t : Int) : Option (Bool) :=
 (i_within a_t 10 17).bind fun r1 =>
 some r1
theorem i_IsVar_ok (a_t : Int) (R : Bool) (hF : i_IsVar a_t = some R) :
   Fw.Spec Tryz.prog 109 [(.int .i64 a_t)] [] (fun _ : Unit => (.bool R)) (fun _ => []) := by
 refine Se 5 Tryz.func109 [.tmp 2] ?_
 intro H0 F0
 unfold i_IsVar at hF
 iterate 5 refine au ?_
 refine bnd hF fun r1 hx2 hF => Cx0 (i_within_ok _ _ _ _ hx2) (fun _ => ?_)
 iterate 3 refine au ?_
 cases hF
 exact Er ()
def i_IsTerm (a_t : Int) : Option (Bool) :=
 ((i_isValue a_t).bind fun r3 =>
   bif r3 then (some true)
   else ((i_IsVar a_t).bind fun r7 =>
     some r7)).bind fun o1 =>
 match o1 with
 | c10 => some c10
theorem i_IsTerm_ok (a_t : Int) (R : Bool) (hF : i_IsTerm a_t = some R) :
   Fw.Spec Tryz.prog 163 [(.int .i64 a_t)] [] (fun _ : Unit => (.bool R)) (fun _ => []) := by
 refine Se 9 Tryz.func163 [.tmp 2] ?_
 intro H0 F0
 unfold i_IsTerm at hF
 iterate 3 refine au ?_
 obtain ⟨o1, hio1, hO2⟩ := bind_some hF
 refine au ?_
 refine C_cut (fun f' cs' => ∃ (c10 : Bool) (g : Fr), c10 = o1 ∧ f' = updL g [(2, (.bool c10))] ∧ Ent cs' []) ?_ ?_
 · replace hF := hio1
   refine au ?_
   refine bnd hF fun r3 hx4 hF => Cx0 (i_isValue_ok _ _ hx4) (fun _ => ?_)
   refine au ?_
   rcases Bool.eq_false_or_eq_true r3 with hg6 | hg6
   · rw [hg6]
     try rw [hg6] at hF; dsimp only [cond_true, cond_false] at hF
     iterate 5 refine au ?_
     cases hF
     exact ⟨_, _, rfl, eqA, entA⟩
   rw [hg6]
   try rw [hg6] at hF; dsimp only [cond_true, cond_false] at hF
   iterate 3 refine au ?_
   refine bnd hF fun r7 hx8 hF => Cx0 (i_IsVar_ok _ _ hx8) (fun _ => ?_)
   iterate 3 refine au ?_
   cases hF
   exact ⟨_, _, rfl, eqA, entA⟩
 rintro _ _ ⟨c10, g11, rfl, rfl, hE⟩
 replace hF := hO2
 try dsimp only at hF
 refine K_ent hE ?_
 refine au ?_
 cases hF
 exact Er ()
def i_areTerms_1 (a_t : Int) : Option (Bool) :=
 (i_IsTerm a_t).bind fun r1 =>
 some (!r1)
theorem i_areTerms_1_ok (a_t : Int) (R : Bool) (hF : i_areTerms_1 a_t = some R) :
   Fw.Spec Tryz.prog 162 [(.int .i64 a_t)] [] (fun _ : Unit => (.bool R)) (fun _ => []) := by
 refine Se 6 Tryz.func162 [.tmp 2] ?_
 intro H0 F0
 unfold i_areTerms_1 at hF
 iterate 5 refine au ?_
 refine bnd hF fun r1 hx2 hF => Cx0 (i_IsTerm_ok _ _ hx2) (fun _ => ?_)
 iterate 4 refine au ?_
 cases hF
 exact Er ()
def g_slices_IndexFunc_int_int_iareTerms1_L1 : List Int → Nat → Option (Int)
 | [], k4 => some (-1)
 | x6 :: rest5, k4 => (i_areTerms_1 x6).bind fun r15 =>
   if r15 then (
     some (k4 : Int))
   else (
     g_slices_IndexFunc_int_int_iareTerms1_L1 rest5 (k4 + 1))
def g_slices_IndexFunc_int_int_iareTerms1 (a_s : List Int) : Option (Int) :=
 g_slices_IndexFunc_int_int_iareTerms1_L1 a_s 0
theorem g_slices_IndexFunc_int_int_iareTerms1_ok (a_s : List Int) (v0_0 : Sv) (R : Int) (hF : g_slices_IndexFunc_int_int_iareTerms1 a_s = some R) :
   Fw.Spec Tryz.prog 158 [v0_0.v, (.func (.func 162) [].toArray [].toArray)] [crd (RdS 3 rdInt) v0_0.v a_s] (fun _ : Unit => (.int .i64 R)) (fun _ => []) := by
 refine Se 19 Tryz.func158 [.tmp 4] ?_
 intro H0 F0
 unfold g_slices_IndexFunc_int_int_iareTerms1 at hF
 iterate 9 refine au ?_
 refine CW_block (CW_loop (m := a_s.length) (fun m2 f' cs' => ∃ (g : Fr) (k4 : Nat) (rest5 : List Int), m2 = rest5.length ∧ f' = updL g [(0, v0_0.v), (1, (.func (.func 162) [].toArray [].toArray)), (7, (.int .i64 (a_s.length : Int))), (8, (.int .i64 (k4 : Int)))] ∧ List.drop k4 a_s = rest5 ∧ Ent cs' [crd (RdS 3 rdInt) v0_0.v a_s] ∧ g_slices_IndexFunc_int_int_iareTerms1_L1 rest5 k4 = some R) ⟨_, 0, _, rfl, eqA, rfl, entA, hF⟩ ?_)
 rintro m2 _ _ ⟨g3, k4, rest5, rfl, rfl, hd7, hE, hF⟩
 refine Kb hE a_s (fun hbd12 => ?_)
 rcases rest5 with _ | ⟨x6, rest5⟩
 · have hk8 := dn hd7
   rw [g_slices_IndexFunc_int_int_iareTerms1_L1] at hF
   iterate 4 refine au ?_
   refine CdF ?_
   iterate 8 refine au ?_
   cases hF
   exact Er ()
 obtain ⟨hk8, hx9, hd10⟩ := drop_cons hd7
 rw [g_slices_IndexFunc_int_int_iareTerms1_L1] at hF
 iterate 4 refine au ?_
 refine CdT ?_
 iterate 10 refine au ?_
 refine Ai hx9 (fun k13 j14 => ?_)
 refine Al ls3_0 ?_
 refine bnd hF fun r15 hx16 hF => C_x0 .nil (X_callCS cf162.h (.tmp rfl rfl) (.cons (.tmp rfl rfl) .nil) (i_areTerms_1_ok x6 _ hx16)) (fun _ => ?_)
 refine au ?_
 refine Ci hF (fun hb19 hF => ?_) (fun hb19 hF => ?_)
 · iterate 5 refine au ?_
   cases hF
   exact Er ()
 iterate 5 refine au ?_
 rw [wk k4]
 exact ⟨_, Nat.lt_succ_self _, _, k4 + 1, rest5, rfl, eqA, hd10, entA, hF⟩
def g_slices_ContainsFunc_int_int_iareTerms1 (a_s : List Int) : Option (Bool) :=
 (g_slices_IndexFunc_int_int_iareTerms1 a_s).bind fun r1 =>
 some (decide ((0 : Int) ≤ r1))
theorem g_slices_ContainsFunc_int_int_iareTerms1_ok (a_s : List Int) (v0_0 : Sv) (R : Bool) (hF : g_slices_ContainsFunc_int_int_iareTerms1 a_s = some R) :
   Fw.Spec Tryz.prog 123 [v0_0.v, (.func (.func 162) [].toArray [].toArray)] [crd (RdS 3 rdInt) v0_0.v a_s] (fun _ : Unit => (.bool R)) (fun _ => []) := by
 refine Se 9 Tryz.func123 [.tmp 4] ?_
 intro H0 F0
 unfold g_slices_ContainsFunc_int_int_iareTerms1 at hF
 iterate 6 refine au ?_
 refine bnd hF fun r1 hx2 hF => Cx0 (g_slices_IndexFunc_int_int_iareTerms1_ok _ _ _ hx2) (fun _ => ?_)
 iterate 4 refine au ?_
 cases hF
 exact Er ()
def i_areTerms (a_l : List Int) : Option (Bool) :=
 (g_slices_ContainsFunc_int_int_iareTerms1 a_l).bind fun r1 =>
 some (!r1)
theorem i_areTerms_ok (a_l : List Int) (v0_0 : Sv) (R : Bool) (hF : i_areTerms a_l = some R) :
   Fw.Spec Tryz.prog 129 [v0_0.v] [crd (RdS 3 rdInt) v0_0.v a_l] (fun _ : Unit => (.bool R)) (fun _ => []) := by
 refine Se 6 Tryz.func129 [.tmp 2] ?_
 intro H0 F0
 unfold i_areTerms at hF
 iterate 5 refine au ?_
 refine bnd hF fun r1 hx2 hF => Cx0 (g_slices_ContainsFunc_int_int_iareTerms1_ok _ _ _ hx2) (fun _ => ?_)
 iterate 4 refine au ?_
 cases hF
 exact Er ()
def i_IsAtom (a_s : List Int) (a_a : Atom) : Option (Bool) :=
 ((i_hasRel a_s a_a.Rel).bind fun r4 =>
   bif r4 then ((ix a_s a_a.Rel).bind fun x8 =>
     bif (((a_a.Terms.length : Int) : Int) == x8) then ((i_areTerms a_a.Terms).bind fun r15 =>
       some r15)
     else (some false))
   else (some false)).bind fun o2 =>
 match o2 with
 | c18 => some c18
theorem i_IsAtom_ok (a_s : List Int) (v0_0 : Sv) (a_a : Atom) (v1_1 : Sv) (R : Bool) (hF : i_IsAtom a_s a_a = some R) :
   Fw.Spec Tryz.prog 94 [v0_0.v, (.agg [(.int .i64 a_a.Rel), v1_1.v].toArray)] [crd (RdS 3 rdInt) v0_0.v a_s, crd (RdS 3 rdInt) v1_1.v a_a.Terms] (fun _ : Unit => (.bool R)) (fun _ => []) := by
 refine Se 25 Tryz.func94 [.tmp 4] ?_
 intro H0 F0
 unfold i_IsAtom at hF
 refine au ?_
 refine AbR (fun k1 => ?_)
 iterate 2 refine au ?_
 obtain ⟨o2, hio2, hO3⟩ := bind_some hF
 refine K_draw [0, 1, 2, 3, 4, 5, 6, 7, 8, 9, 10, 11, 12, 13, 14, 15, 16, 17, 18, 19, 20] [0, 0, 2, 7, 15, 31, 63, 127, 31, 31, 543, 1823, 3871, 8191, 16383, 32767, 65535, 131071, 262143, 524287, 1048575] [3, 18] mixed (by decide +kernel) ?_
 refine D_cut (fun f' cs' => ∃ (c18 : Bool) (g : Fr), c18 = o2 ∧ f' = updL g [(4, (.bool c18))] ∧ Ent cs' []) ?_ ?_
 · replace hF := hio2
   iterate 3 refine du ?_
   refine bnd hF fun r4 hx5 hF => Dx0 (i_hasRel_ok _ _ _ _ hx5) (fun _ => ?_)
   refine du ?_
   rcases Bool.eq_false_or_eq_true r4 with hg7 | hg7
   · rw [hg7]
     try rw [hg7] at hF; dsimp only [cond_true, cond_false] at hF
     iterate 6 refine du ?_
     refine bnd hF fun x8 hx9 hF => ?_
     obtain ⟨hp10, hx11⟩ := ix_some hx9
     refine Di hx11 (fun k12 j13 => ?_)
     refine Dl ls3_0 ?_
     iterate 3 refine du ?_
     rcases Bool.eq_false_or_eq_true (((a_a.Terms.length : Int) : Int) == x8) with hg14 | hg14
     · rw [hg14]
       try rw [hg14] at hF; dsimp only [cond_true, cond_false] at hF
       iterate 2 refine du ?_
       refine bnd hF fun r15 hx16 hF => Dx0 (i_areTerms_ok _ _ _ hx16) (fun _ => ?_)
       iterate 3 refine du ?_
       cases hF
       exact ⟨_, _, rfl, eqA, entA⟩
     rw [hg14]
     try rw [hg14] at hF; dsimp only [cond_true, cond_false] at hF
     iterate 6 refine du ?_
     cases hF
     exact ⟨_, _, rfl, eqA, entA⟩
   rw [hg7]
   try rw [hg7] at hF; dsimp only [cond_true, cond_false] at hF
   iterate 17 refine du ?_
   cases hF
   exact ⟨_, _, rfl, eqA, entA⟩
 rintro _ _ ⟨c18, g19, rfl, rfl, hE⟩
 replace hF := hO3
 try dsimp only at hF
 refine K_ent hE ?_
 refine au ?_
 cases hF
 exact Er ()
def i_IsQuery_1 (a_a : Atom) (a_e1 : List Int) : Option (Bool) :=
 (i_IsAtom a_e1 a_a).bind fun r2 =>
 some (!r2)
theorem i_IsQuery_1_ok (a_a : Atom) (v0_1 : Sv) (kc1 : Nat) (a_e1 : List Int) (vc1_0 : Sv) (R : Bool) (hF : i_IsQuery_1 a_a a_e1 = some R) :
   Fw.Spec Tryz.prog 93 [(.agg [(.int .i64 a_a.Rel), v0_1.v].toArray), (pz kc1)] [crd (RdS 3 rdInt) v0_1.v a_a.Terms, cboR kc1 22 vc1_0.v, crd (RdS 3 rdInt) vc1_0.v a_e1] (fun _ : Unit => (.bool R)) (fun _ => []) := by
 refine Se 8 Tryz.func93 [.tmp 3] ?_
 intro H0 F0
 unfold i_IsQuery_1 at hF
 refine au ?_
 refine AbR (fun k1 => ?_)
 iterate 5 refine au ?_
 refine bnd hF fun r2 hx3 hF => Cx0 (i_IsAtom_ok _ _ _ _ _ hx3) (fun _ => ?_)
 iterate 4 refine au ?_
 cases hF
 exact Er ()
def g_slices_IndexFunc_impl_Atom_impl_Atom_iIsQuery1_L1 (a_e1 : List Int) : List Atom → Nat → Option (Int)
 | [], k4 => some (-1)
 | x6 :: rest5, k4 => (i_IsQuery_1 x6 a_e1).bind fun r16 =>
   if r16 then (
     some (k4 : Int))
   else (
     g_slices_IndexFunc_impl_Atom_impl_Atom_iIsQuery1_L1 a_e1 rest5 (k4 + 1))
def g_slices_IndexFunc_impl_Atom_impl_Atom_iIsQuery1 (a_s : List Atom) (a_e1 : List Int) : Option (Int) :=
 g_slices_IndexFunc_impl_Atom_impl_Atom_iIsQuery1_L1 a_e1 a_s 0
theorem g_slices_IndexFunc_impl_Atom_impl_Atom_iIsQuery1_ok (a_s : List Atom) (v0_0 : Sv) (kc1 : Nat) (a_e1 : List Int) (vc1_0 : Sv) (R : Int) (hF : g_slices_IndexFunc_impl_Atom_impl_Atom_iIsQuery1 a_s a_e1 = some R) :
   Fw.Spec Tryz.prog 128 [v0_0.v, (.func (.func 93) [].toArray [(pz kc1)].toArray)] [crd (RdS 84 rd84) v0_0.v a_s, cboR kc1 22 vc1_0.v, crd (RdS 3 rdInt) vc1_0.v a_e1] (fun _ : Unit => (.int .i64 R)) (fun _ => []) := by
 refine Se 19 Tryz.func128 [.tmp 4] ?_
 intro H0 F0
 unfold g_slices_IndexFunc_impl_Atom_impl_Atom_iIsQuery1 at hF
 iterate 9 refine au ?_
 refine CW_block (CW_loop (m := a_s.length) (fun m2 f' cs' => ∃ (g : Fr) (k4 : Nat) (rest5 : List Atom), m2 = rest5.length ∧ f' = updL g [(0, v0_0.v), (1, (.func (.func 93) [].toArray [(pz kc1)].toArray)), (7, (.int .i64 (a_s.length : Int))), (8, (.int .i64 (k4 : Int)))] ∧ List.drop k4 a_s = rest5 ∧ Ent cs' [crd (RdS 84 rd84) v0_0.v a_s, cboR kc1 22 vc1_0.v, crd (RdS 3 rdInt) vc1_0.v a_e1] ∧ g_slices_IndexFunc_impl_Atom_impl_Atom_iIsQuery1_L1 a_e1 rest5 k4 = some R) ⟨_, 0, _, rfl, eqA, rfl, entA, hF⟩ ?_)
 rintro m2 _ _ ⟨g3, k4, rest5, rfl, rfl, hd7, hE, hF⟩
 refine Kb hE a_s (fun hbd12 => ?_)
 rcases rest5 with _ | ⟨x6, rest5⟩
 · have hk8 := dn hd7
   rw [g_slices_IndexFunc_impl_Atom_impl_Atom_iIsQuery1_L1] at hF
   iterate 4 refine au ?_
   refine CdF ?_
   iterate 8 refine au ?_
   cases hF
   exact Er ()
 obtain ⟨hk8, hx9, hd10⟩ := drop_cons hd7
 rw [g_slices_IndexFunc_impl_Atom_impl_Atom_iIsQuery1_L1] at hF
 iterate 4 refine au ?_
 refine CdT ?_
 iterate 10 refine au ?_
 refine Ai hx9 (fun k13 j14 => ?_)
 refine AlA1 (ul84_0_84 x6) la84_0_84 (fun p15 => ?_)
 refine bnd hF fun r16 hx17 hF => C_x0 (.rd .h rfl (.rd (.t (.t (.t .h))) rfl (.rd (.t (.t (.t (.t .h)))) rfl .nil))) (X_callCS cf93.h (.tmp rfl rfl) (.cons (.tmp rfl rfl) .nil) (i_IsQuery_1_ok x6 p15 kc1 a_e1 vc1_0 _ hx17)) (fun _ => ?_)
 refine au ?_
 refine Ci hF (fun hb20 hF => ?_) (fun hb20 hF => ?_)
 · iterate 5 refine au ?_
   cases hF
   exact Er ()
 iterate 5 refine au ?_
 rw [wk k4]
 exact ⟨_, Nat.lt_succ_self _, _, k4 + 1, rest5, rfl, eqA, hd10, entA, hF⟩
def g_slices_ContainsFunc_impl_Atom_impl_Atom_iIsQuery1 (a_s : List Atom) (a_e1 : List Int) : Option (Bool) :=
 (g_slices_IndexFunc_impl_Atom_impl_Atom_iIsQuery1 a_s a_e1).bind fun r1 =>
 some (decide ((0 : Int) ≤ r1))
theorem g_slices_ContainsFunc_impl_Atom_impl_Atom_iIsQuery1_ok (a_s : List Atom) (v0_0 : Sv) (kc1 : Nat) (a_e1 : List Int) (vc1_0 : Sv) (R : Bool) (hF : g_slices_ContainsFunc_impl_Atom_impl_Atom_iIsQuery1 a_s a_e1 = some R) :
   Fw.Spec Tryz.prog 92 [v0_0.v, (.func (.func 93) [].toArray [(pz kc1)].toArray)] [crd (RdS 84 rd84) v0_0.v a_s, cboR kc1 22 vc1_0.v, crd (RdS 3 rdInt) vc1_0.v a_e1] (fun _ : Unit => (.bool R)) (fun _ => []) := by
 refine Se 9 Tryz.func92 [.tmp 4] ?_
 intro H0 F0
 unfold g_slices_ContainsFunc_impl_Atom_impl_Atom_iIsQuery1 at hF
 iterate 6 refine au ?_
 refine bnd hF fun r1 hx2 hF => Cx0 (g_slices_IndexFunc_impl_Atom_impl_Atom_iIsQuery1_ok _ _ _ _ _ _ hx2) (fun _ => ?_)
 iterate 4 refine au ?_
 cases hF
 exact Er ()
def g_slices_Sort_int_int (a_x : List Int) : Option (List Int) :=
 some (a_x.mergeSort fun x y => decide (x ≤ y))
theorem g_slices_Sort_int_int_ok (a_x : List Int) (v0_0 : Sv) (F0_0 : List Nat) (R : List Int) (hF : g_slices_Sort_int_int a_x = some R) :
   Fw.Spec Tryz.prog 107 [v0_0.v] [cown (OwnS 3 (roE rdInt)) F0_0 v0_0.v a_x] (fun _ : List Nat => (.tuple [].toArray)) (fun p => [cown (OwnS 3 (roE rdInt)) p v0_0.v R]) := by
 cases hF
 exact Spec_sort ty3.h (Go.Proofs.Any.slices_Sort_int_none lays189) (Go.Proofs.Any.slices_Sort_int lays189)
def g_slices_Compact_int_int (a_x : List Int) : Option (List Int) :=
 some (Lib.compact a_x)
theorem g_slices_Compact_int_int_ok (a_x : List Int) (v0_0 : Sv) (F0_0 : List Nat) (R : List Int) (hF : g_slices_Compact_int_int a_x = some R) :
   Fw.Spec Tryz.prog 108 [v0_0.v] [cown (OwnS 3 (roE rdInt)) F0_0 v0_0.v a_x] (fun p : Sv × List Nat => p.1.v) (fun p => [cown (OwnS 3 (roE rdInt)) p.2 p.1.v R]) := by
 cases hF
 exact Spec_compact ty3.h compact_le rfl (Go.Proofs.Any.slices_Compact_int_empty lays2020) (Go.Proofs.Any.slices_Compact_int lays2020)
def i_termsOf_iIsVar_L2 : List Int → Nat → (List Int) → Option ((List Int))
 | [], k35, c29 => some c29
 | x37 :: rest36, k35, c29 => ((i_IsVar x37).bind fun r48 =>
     if r48 then (
       (app c29 ([x37] : List Int)).bind fun z52 =>
       some z52)
     else (
       some c29)).bind fun o44 =>
   match o44 with
   | c56 => i_termsOf_iIsVar_L2 rest36 (k35 + 1) c56
def i_termsOf_iIsVar_L1 : List Atom → Nat → (List Int) → Option ((List Int))
 | [], k8, c2 => (g_slices_Sort_int_int c2).bind fun r17 =>
   (g_slices_Compact_int_int r17).bind fun r20 =>
   some r20
 | x10 :: rest9, k8, c2 => (i_termsOf_iIsVar_L2 x10.Terms 0 c2).bind fun o23 =>
   match o23 with
   | c61 => i_termsOf_iIsVar_L1 rest9 (k8 + 1) c61
def i_termsOf_iIsVar (a_atoms : List Atom) : Option ((List Int)) :=
 i_termsOf_iIsVar_L1 a_atoms 0 ([] : List Int)
theorem i_termsOf_iIsVar_ok (a_atoms : List Atom) (v0_0 : Sv) (R : (List Int)) (hF : i_termsOf_iIsVar a_atoms = some R) :
   Fw.Spec Tryz.prog 66 [v0_0.v, (.func (.func 109) [].toArray [].toArray)] [crd (RdS 84 rd84) v0_0.v a_atoms] (fun p : Sv × List Nat => p.1.v) (fun p => [cown (OwnS 3 (roE rdInt)) p.2 p.1.v R]) := by
 refine Se 37 Tryz.func66 [.tmp 4] ?_
 intro H0 F0
 unfold i_termsOf_iIsVar at hF
 iterate 4 refine au ?_
 refine C_new rfl (N_buildSliceT (g := true) sl22.h ty3.h .nil (vs := []) rfl rfl rfl (by simp)) (fun k1 => ?_)
 refine Cv1 (.cons .h .nil) (own_lit (Ro := (roE rdInt)) (E := 3) (F := []) (xs := ([] : List Int)) MkL_nil rfl rfl) ?_
 iterate 8 refine au ?_
 refine CW_block (CW_loop (m := a_atoms.length) (fun m6 f' cs' => ∃ (g : Fr) (k8 : Nat) (rest9 : List Atom) (c2 : List Int) (v3 : Sv) (F4 : List Nat), m6 = rest9.length ∧ f' = updL g [(1, (.func (.func 109) [].toArray [].toArray)), (5, v3.v), (11, v0_0.v), (12, (.int .i64 (a_atoms.length : Int))), (13, (.int .i64 (k8 : Int)))] ∧ List.drop k8 a_atoms = rest9 ∧ Ent cs' [cown (OwnS 3 (roE rdInt)) F4 v3.v c2, crd (RdS 84 rd84) v0_0.v a_atoms] ∧ i_termsOf_iIsVar_L1 rest9 k8 c2 = some R) ⟨_, 0, _, _, ⟨(some ⟨k1, 0, none⟩), 0, 1⟩, (k1 :: []), rfl, eqA, rfl, entA, hF⟩ ?_)
 rintro m6 _ _ ⟨g7, k8, rest9, c2, v3, F4, rfl, rfl, hd11, hE, hF⟩
 refine Kb hE a_atoms (fun hbd16 => ?_)
 rcases rest9 with _ | ⟨x10, rest9⟩
 · have hk12 := dn hd11
   rw [i_termsOf_iIsVar_L1] at hF
   iterate 4 refine au ?_
   refine CdF ?_
   iterate 6 refine au ?_
   refine bnd hF fun r17 hx18 hF => Cx1 (g_slices_Sort_int_int_ok _ _ _ _ hx18) (fun p19 => ?_)
   iterate 3 refine au ?_
   refine bnd hF fun r20 hx21 hF => Cx1 (g_slices_Compact_int_int_ok _ _ _ _ hx21) (fun p22 => ?_)
   iterate 3 refine au ?_
   cases hF
   exact Er (p22.1, p22.2)
 obtain ⟨hk12, hx13, hd14⟩ := drop_cons hd11
 rw [i_termsOf_iIsVar_L1] at hF
 iterate 4 refine au ?_
 refine CdT ?_
 refine au ?_
 obtain ⟨o23, hio23, hO24⟩ := bind_some hF
 refine K_cut (fun f' cs' => ∃ (c61 : List Int) (v62 : Sv) (F63 : List Nat) (g : Fr), c61 = o23 ∧ f' = updL g [(1, (.func (.func 109) [].toArray [].toArray)), (5, v62.v), (11, v0_0.v), (12, (.int .i64 (a_atoms.length : Int))), (13, (.int .i64 (k8 : Int)))] ∧ Ent cs' [cown (OwnS 3 (roE rdInt)) F63 v62.v c61, crd (RdS 84 rd84) v0_0.v a_atoms]) ?_ ?_
 · replace hF := hio23
   refine CW_block (K_region (C_idx (a := x10) sl37.h ty84.h.sz (.tmp rfl rfl) (.tmp rfl rfl) (.t .h) (Int.natCast_nonneg k8) hx13 (fun k25 j26 => ?_)))
   refine AlA1 (ul84_0_84 x10) la84_0_84 (fun p27 => ?_)
   refine AnW (fun k28 => ?_)
   refine As (.agg [(.int .i64 x10.Rel), p27.v].toArray) ?_
   iterate 7 refine au ?_
   refine CW_block (CW_loop (m := x10.Terms.length) (fun m33 f' cs' => ∃ (g : Fr) (k35 : Nat) (rest36 : List Int) (c29 : List Int) (v30 : Sv) (F31 : List Nat), m33 = rest36.length ∧ f' = updL g [(1, (.func (.func 109) [].toArray [].toArray)), (5, v30.v), (11, v0_0.v), (12, (.int .i64 (a_atoms.length : Int))), (13, (.int .i64 (k8 : Int))), (18, p27.v), (19, (.int .i64 (x10.Terms.length : Int))), (20, (.int .i64 (k35 : Int)))] ∧ List.drop k35 x10.Terms = rest36 ∧ Ent cs' [cown (OwnS 3 (roE rdInt)) F31 v30.v c29, crd (RdS 84 rd84) v0_0.v a_atoms, crd (RdS 3 rdInt) p27.v x10.Terms] ∧ i_termsOf_iIsVar_L2 rest36 k35 c29 = some o23) ⟨_, 0, _, _, v3, F4, rfl, eqA, rfl, entA, hF⟩ ?_)
   rintro m33 _ _ ⟨g34, k35, rest36, c29, v30, F31, rfl, rfl, hd38, hE, hF⟩
   refine Kb hE x10.Terms (fun hbd43 => ?_)
   rcases rest36 with _ | ⟨x37, rest36⟩
   · have hk39 := dn hd38
     rw [i_termsOf_iIsVar_L2] at hF
     iterate 4 refine au ?_
     refine CdF ?_
     iterate 4 refine au ?_
     cases hF
     exact ⟨_, v30, F31, _, rfl, eqA, entA⟩
   obtain ⟨hk39, hx40, hd41⟩ := drop_cons hd38
   rw [i_termsOf_iIsVar_L2] at hF
   iterate 4 refine au ?_
   refine CdT ?_
   refine au ?_
   obtain ⟨o44, hio44, hO45⟩ := bind_some hF
   refine K_cut (fun f' cs' => ∃ (c56 : List Int) (v57 : Sv) (F58 : List Nat) (g : Fr), c56 = o44 ∧ f' = updL g [(1, (.func (.func 109) [].toArray [].toArray)), (5, v57.v), (11, v0_0.v), (12, (.int .i64 (a_atoms.length : Int))), (13, (.int .i64 (k8 : Int))), (18, p27.v), (19, (.int .i64 (x10.Terms.length : Int))), (20, (.int .i64 (k35 : Int)))] ∧ Ent cs' [cown (OwnS 3 (roE rdInt)) F58 v57.v c56, crd (RdS 84 rd84) v0_0.v a_atoms, crd (RdS 3 rdInt) p27.v x10.Terms]) ?_ ?_
   · replace hF := hio44
     refine CW_block (K_region (C_idx (a := x37) sl22.h ty3.h.sz (.tmp rfl rfl) (.tmp rfl rfl) (.t (.t .h)) (Int.natCast_nonneg k35) hx40 (fun k46 j47 => ?_)))
     refine Al ls3_0 ?_
     iterate 5 refine au ?_
     refine bnd hF fun r48 hx49 hF => C_x0 .nil (X_callCS cf109.h (.tmp rfl rfl) (.cons (.tmp rfl rfl) .nil) (i_IsVar_ok x37 _ hx49)) (fun _ => ?_)
     refine au ?_
     refine Ci hF (fun hb55 hF => ?_) (fun hb55 hF => ?_)
     · iterate 3 refine au ?_
       refine C_new rfl (N_buildSliceT (g := true) sl22.h ty3.h (.cons (.tmp rfl rfl) .nil) (vs := [(.int .i64 x37)]) rfl rfl rfl (by intro v hv; simp at hv; rcases hv with rfl <;> rfl)) (fun k51 => ?_)
       refine Cv1 (.cons .h .nil) (own_lit (Ro := (roE rdInt)) (E := 3) (F := ([] ++ [])) (xs := ([x37] : List Int)) (MkL_cons (Mk_pure (fun _ => rfl)) MkL_nil apps) rfl rfl) ?_
       refine bnd hF fun z52 hx53 hF => C_x1 (.cons (.t (.t .h)) (.cons .h .nil)) (X_appendO (Ro := (roE rdInt)) sl22.h ni22 ty3.h rfl rfl rfl (.tmp rfl rfl) (.tmp rfl rfl) hx53 src_own) (fun p54 => ?_)
       iterate 2 refine au ?_
       cases hF
       exact ⟨_, p54.1, p54.2, _, rfl, eqA, entA⟩
     refine au ?_
     cases hF
     exact ⟨_, v30, F31, _, rfl, eqA, entA⟩
   rintro _ _ ⟨c56, v57, F58, g60, rfl, rfl, hE⟩
   replace hF := hO45
   try dsimp only at hF
   refine K_ent hE ?_
   iterate 4 refine au ?_
   rw [wk k35]
   exact ⟨_, Nat.lt_succ_self _, _, k35 + 1, rest36, _, v57, F58, rfl, eqA, hd41, entA, hF⟩
 rintro _ _ ⟨c61, v62, F63, g65, rfl, rfl, hE⟩
 replace hF := hO24
 try dsimp only at hF
 refine K_ent hE ?_
 iterate 4 refine au ?_
 rw [wk k8]
 exact ⟨_, Nat.lt_succ_self _, _, k8 + 1, rest9, _, v62, F63, rfl, eqA, hd14, entA, hF⟩
def i_VarsOf (a_q : Query) : Option ((List Int)) :=
 (i_termsOf_iIsVar a_q.Atoms).bind fun r2 =>
 some r2
theorem i_VarsOf_ok (a_q : Query) (v0_0 : Sv) (v0_1 : Sv) (R : (List Int)) (hF : i_VarsOf a_q = some R) :
   Fw.Spec Tryz.prog 99 [(.agg [v0_0.v, v0_1.v].toArray)] [crd (RdS 3 rdInt) v0_0.v a_q.Head, crd (RdS 84 rd84) v0_1.v a_q.Atoms] (fun p : Sv × List Nat => p.1.v) (fun p => [cown (OwnS 3 (roE rdInt)) p.2 p.1.v R]) := by
 refine Se 6 Tryz.func99 [.tmp 2] ?_
 intro H0 F0
 unfold i_VarsOf at hF
 refine au ?_
 refine AbR (fun k1 => ?_)
 iterate 5 refine au ?_
 refine bnd hF fun r2 hx3 hF => Cx1 (i_termsOf_iIsVar_ok _ _ _ hx3) (fun p4 => ?_)
 iterate 3 refine au ?_
 cases hF
 exact Er (p4.1, p4.2)
def g_slices_Index_int_int_L1 (a_v : Int) : List Int → Nat → Option (Int)
 | [], k4 => some (-1)
 | x6 :: rest5, k4 => if ((a_v : Int) == x6) then (
     some (k4 : Int))
   else (
     g_slices_Index_int_int_L1 a_v rest5 (k4 + 1))
def g_slices_Index_int_int (a_s : List Int) (a_v : Int) : Option (Int) :=
 g_slices_Index_int_int_L1 a_v a_s 0
theorem g_slices_Index_int_int_ok (a_s : List Int) (v0_0 : Sv) (a_v : Int) (R : Int) (hF : g_slices_Index_int_int a_s a_v = some R) :
   Fw.Spec Tryz.prog 138 [v0_0.v, (.int .i64 a_v)] [crd (RdS 3 rdInt) v0_0.v a_s] (fun _ : Unit => (.int .i64 R)) (fun _ => []) := by
 refine Se 19 Tryz.func138 [.tmp 4] ?_
 intro H0 F0
 unfold g_slices_Index_int_int at hF
 iterate 9 refine au ?_
 refine CW_block (CW_loop (m := a_s.length) (fun m2 f' cs' => ∃ (g : Fr) (k4 : Nat) (rest5 : List Int), m2 = rest5.length ∧ f' = updL g [(0, v0_0.v), (1, (.int .i64 a_v)), (7, (.int .i64 (a_s.length : Int))), (8, (.int .i64 (k4 : Int)))] ∧ List.drop k4 a_s = rest5 ∧ Ent cs' [crd (RdS 3 rdInt) v0_0.v a_s] ∧ g_slices_Index_int_int_L1 a_v rest5 k4 = some R) ⟨_, 0, _, rfl, eqA, rfl, entA, hF⟩ ?_)
 rintro m2 _ _ ⟨g3, k4, rest5, rfl, rfl, hd7, hE, hF⟩
 refine Kb hE a_s (fun hbd12 => ?_)
 rcases rest5 with _ | ⟨x6, rest5⟩
 · have hk8 := dn hd7
   rw [g_slices_Index_int_int_L1] at hF
   iterate 4 refine au ?_
   refine CdF ?_
   iterate 8 refine au ?_
   cases hF
   exact Er ()
 obtain ⟨hk8, hx9, hd10⟩ := drop_cons hd7
 rw [g_slices_Index_int_int_L1] at hF
 iterate 4 refine au ?_
 refine CdT ?_
 iterate 10 refine au ?_
 refine Ai hx9 (fun k13 j14 => ?_)
 refine Al ls3_0 ?_
 iterate 2 refine au ?_
 refine Ci hF (fun hb16 hF => ?_) (fun hb16 hF => ?_)
 · iterate 5 refine au ?_
   cases hF
   exact Er ()
 iterate 5 refine au ?_
 rw [wk k4]
 exact ⟨_, Nat.lt_succ_self _, _, k4 + 1, rest5, rfl, eqA, hd10, entA, hF⟩
def g_slices_Contains_int_int (a_s : List Int) (a_v : Int) : Option (Bool) :=
 (g_slices_Index_int_int a_s a_v).bind fun r1 =>
 some (decide ((0 : Int) ≤ r1))
theorem g_slices_Contains_int_int_ok (a_s : List Int) (v0_0 : Sv) (a_v : Int) (R : Bool) (hF : g_slices_Contains_int_int a_s a_v = some R) :
   Fw.Spec Tryz.prog 100 [v0_0.v, (.int .i64 a_v)] [crd (RdS 3 rdInt) v0_0.v a_s] (fun _ : Unit => (.bool R)) (fun _ => []) := by
 refine Se 9 Tryz.func100 [.tmp 4] ?_
 intro H0 F0
 unfold g_slices_Contains_int_int at hF
 iterate 6 refine au ?_
 refine bnd hF fun r1 hx2 hF => Cx0 (g_slices_Index_int_int_ok _ _ _ _ hx2) (fun _ => ?_)
 iterate 4 refine au ?_
 cases hF
 exact Er ()
def i_hasHead_1 (a_t : Int) (a_e1 : List Int) : Option (Bool) :=
 (g_slices_Contains_int_int a_e1 a_t).bind fun r1 =>
 some (!r1)
theorem i_hasHead_1_ok (a_t : Int) (kc1 : Nat) (a_e1 : List Int) (vc1_0 : Sv) (R : Bool) (hF : i_hasHead_1 a_t a_e1 = some R) :
   Fw.Spec Tryz.prog 130 [(.int .i64 a_t), (pz kc1)] [cboR kc1 22 vc1_0.v, crd (RdS 3 rdInt) vc1_0.v a_e1] (fun _ : Unit => (.bool R)) (fun _ => []) := by
 refine Se 8 Tryz.func130 [.tmp 3] ?_
 intro H0 F0
 unfold i_hasHead_1 at hF
 iterate 6 refine au ?_
 refine bnd hF fun r1 hx2 hF => Cx0 (g_slices_Contains_int_int_ok _ _ _ _ hx2) (fun _ => ?_)
 iterate 4 refine au ?_
 cases hF
 exact Er ()
def g_slices_IndexFunc_int_int_ihasHead1_L1 (a_e1 : List Int) : List Int → Nat → Option (Int)
 | [], k4 => some (-1)
 | x6 :: rest5, k4 => (i_hasHead_1 x6 a_e1).bind fun r15 =>
   if r15 then (
     some (k4 : Int))
   else (
     g_slices_IndexFunc_int_int_ihasHead1_L1 a_e1 rest5 (k4 + 1))
def g_slices_IndexFunc_int_int_ihasHead1 (a_s : List Int) (a_e1 : List Int) : Option (Int) :=
 g_slices_IndexFunc_int_int_ihasHead1_L1 a_e1 a_s 0
theorem g_slices_IndexFunc_int_int_ihasHead1_ok (a_s : List Int) (v0_0 : Sv) (kc1 : Nat) (a_e1 : List Int) (vc1_0 : Sv) (R : Int) (hF : g_slices_IndexFunc_int_int_ihasHead1 a_s a_e1 = some R) :
   Fw.Spec Tryz.prog 158 [v0_0.v, (.func (.func 130) [].toArray [(pz kc1)].toArray)] [crd (RdS 3 rdInt) v0_0.v a_s, cboR kc1 22 vc1_0.v, crd (RdS 3 rdInt) vc1_0.v a_e1] (fun _ : Unit => (.int .i64 R)) (fun _ => []) := by
 refine Se 19 Tryz.func158 [.tmp 4] ?_
 intro H0 F0
 unfold g_slices_IndexFunc_int_int_ihasHead1 at hF
 iterate 9 refine au ?_
 refine CW_block (CW_loop (m := a_s.length) (fun m2 f' cs' => ∃ (g : Fr) (k4 : Nat) (rest5 : List Int), m2 = rest5.length ∧ f' = updL g [(0, v0_0.v), (1, (.func (.func 130) [].toArray [(pz kc1)].toArray)), (7, (.int .i64 (a_s.length : Int))), (8, (.int .i64 (k4 : Int)))] ∧ List.drop k4 a_s = rest5 ∧ Ent cs' [crd (RdS 3 rdInt) v0_0.v a_s, cboR kc1 22 vc1_0.v, crd (RdS 3 rdInt) vc1_0.v a_e1] ∧ g_slices_IndexFunc_int_int_ihasHead1_L1 a_e1 rest5 k4 = some R) ⟨_, 0, _, rfl, eqA, rfl, entA, hF⟩ ?_)
 rintro m2 _ _ ⟨g3, k4, rest5, rfl, rfl, hd7, hE, hF⟩
 refine Kb hE a_s (fun hbd12 => ?_)
 rcases rest5 with _ | ⟨x6, rest5⟩
 · have hk8 := dn hd7
   rw [g_slices_IndexFunc_int_int_ihasHead1_L1] at hF
   iterate 4 refine au ?_
   refine CdF ?_
   iterate 8 refine au ?_
   cases hF
   exact Er ()
 obtain ⟨hk8, hx9, hd10⟩ := drop_cons hd7
 rw [g_slices_IndexFunc_int_int_ihasHead1_L1] at hF
 iterate 4 refine au ?_
 refine CdT ?_
 iterate 10 refine au ?_
 refine Ai hx9 (fun k13 j14 => ?_)
 refine Al ls3_0 ?_
 refine bnd hF fun r15 hx16 hF => C_x0 (.rd (.t (.t .h)) rfl (.rd (.t (.t (.t .h))) rfl .nil)) (X_callCS cf130.h (.tmp rfl rfl) (.cons (.tmp rfl rfl) .nil) (i_hasHead_1_ok x6 kc1 a_e1 vc1_0 _ hx16)) (fun _ => ?_)
 refine au ?_
 refine Ci hF (fun hb19 hF => ?_) (fun hb19 hF => ?_)
 · iterate 5 refine au ?_
   cases hF
   exact Er ()
 iterate 5 refine au ?_
 rw [wk k4]
 exact ⟨_, Nat.lt_succ_self _, _, k4 + 1, rest5, rfl, eqA, hd10, entA, hF⟩
def g_slices_ContainsFunc_int_int_ihasHead1 (a_s : List Int) (a_e1 : List Int) : Option (Bool) :=
 (g_slices_IndexFunc_int_int_ihasHead1 a_s a_e1).bind fun r1 =>
 some (decide ((0 : Int) ≤ r1))
theorem g_slices_ContainsFunc_int_int_ihasHead1_ok (a_s : List Int) (v0_0 : Sv) (kc1 : Nat) (a_e1 : List Int) (vc1_0 : Sv) (R : Bool) (hF : g_slices_ContainsFunc_int_int_ihasHead1 a_s a_e1 = some R) :
   Fw.Spec Tryz.prog 123 [v0_0.v, (.func (.func 130) [].toArray [(pz kc1)].toArray)] [crd (RdS 3 rdInt) v0_0.v a_s, cboR kc1 22 vc1_0.v, crd (RdS 3 rdInt) vc1_0.v a_e1] (fun _ : Unit => (.bool R)) (fun _ => []) := by
 refine Se 9 Tryz.func123 [.tmp 4] ?_
 intro H0 F0
 unfold g_slices_ContainsFunc_int_int_ihasHead1 at hF
 iterate 6 refine au ?_
 refine bnd hF fun r1 hx2 hF => Cx0 (g_slices_IndexFunc_int_int_ihasHead1_ok _ _ _ _ _ _ hx2) (fun _ => ?_)
 iterate 4 refine au ?_
 cases hF
 exact Er ()
def i_hasHead (a_q : Query) : Option (Bool) :=
 (i_VarsOf a_q).bind fun r2 =>
 (bif (decide (((a_q.Head.length : Int) : Int) ≤ 3)) then ((g_slices_ContainsFunc_int_int_ihasHead1 a_q.Head r2).bind fun r11 =>
     some (!r11))
   else (some false)).bind fun o8 =>
 match o8 with
 | c14 => some c14
theorem i_hasHead_ok (a_q : Query) (v0_0 : Sv) (v0_1 : Sv) (R : Bool) (hF : i_hasHead a_q = some R) :
   Fw.Spec Tryz.prog 95 [(.agg [v0_0.v, v0_1.v].toArray)] [crd (RdS 3 rdInt) v0_0.v a_q.Head, crd (RdS 84 rd84) v0_1.v a_q.Atoms] (fun _ : Unit => (.bool R)) (fun _ => []) := by
 refine Se 17 Tryz.func95 [.tmp 2] ?_
 intro H0 F0
 unfold i_hasHead at hF
 refine au ?_
 refine AbR (fun k1 => ?_)
 iterate 4 refine au ?_
 refine bnd hF fun r2 hx3 hF => Cx1 (i_VarsOf_ok _ _ _ _ hx3) (fun p4 => ?_)
 refine AnW (fun k5 => ?_)
 refine As p4.1.v ?_
 refine au ?_
 refine K_frz .h frz_blk ?_
 refine K_frz (.t .h) frz_own ?_
 obtain ⟨o8, hio8, hO9⟩ := bind_some hF
 refine au ?_
 refine C_cut (fun f' cs' => ∃ (c14 : Bool) (g : Fr), c14 = o8 ∧ f' = updL g [(2, (.bool c14))] ∧ Ent cs' []) ?_ ?_
 · replace hF := hio8
   iterate 5 refine au ?_
   rcases Bool.eq_false_or_eq_true (decide (((a_q.Head.length : Int) : Int) ≤ 3)) with hg10 | hg10
   · rw [hg10]
     try rw [hg10] at hF; dsimp only [cond_true, cond_false] at hF
     iterate 5 refine au ?_
     refine C_val (V_makeFunc (fn := .func 130) (vs := []) (us := [(pz k5)]) .nil (.cons (.tmp rfl rfl) .nil)) ?_
     refine au ?_
     refine bnd hF fun r11 hx12 hF => Cx0 (g_slices_ContainsFunc_int_int_ihasHead1_ok _ _ _ _ _ _ hx12) (fun _ => ?_)
     iterate 5 refine au ?_
     cases hF
     exact ⟨_, _, rfl, eqA, entA⟩
   rw [hg10]
   try rw [hg10] at hF; dsimp only [cond_true, cond_false] at hF
   iterate 8 refine au ?_
   cases hF
   exact ⟨_, _, rfl, eqA, entA⟩
 rintro _ _ ⟨c14, g15, rfl, rfl, hE⟩
 replace hF := hO9
 try dsimp only at hF
 refine K_ent hE ?_
 refine au ?_
 cases hF
 exact Er ()
def i_IsQuery (a_s : List Int) (a_q : Query) : Option (Bool) :=
 ((i_IsSchema a_s).bind fun r5 =>
   bif r5 then ((i_within (a_q.Atoms.length : Int) 1 4).bind fun r9 =>
     bif r9 then ((g_slices_ContainsFunc_impl_Atom_impl_Atom_iIsQuery1 a_q.Atoms a_s).bind fun r13 =>
       bif (!r13) then ((i_hasHead a_q).bind fun r17 =>
         some r17)
       else (some false))
     else (some false))
   else (some false)).bind fun o3 =>
 match o3 with
 | c20 => some c20
theorem i_IsQuery_ok (a_s : List Int) (v0_0 : Sv) (a_q : Query) (v1_0 : Sv) (v1_1 : Sv) (R : Bool) (hF : i_IsQuery a_s a_q = some R) :
   Fw.Spec Tryz.prog 60 [v0_0.v, (.agg [v1_0.v, v1_1.v].toArray)] [crd (RdS 3 rdInt) v0_0.v a_s, crd (RdS 3 rdInt) v1_0.v a_q.Head, crd (RdS 84 rd84) v1_1.v a_q.Atoms] (fun _ : Unit => (.bool R)) (fun _ => []) := by
 refine Se 24 Tryz.func60 [.tmp 4] ?_
 intro H0 F0
 unfold i_IsQuery at hF
 refine au ?_
 refine AbR (fun k1 => ?_)
 refine AbR (fun k2 => ?_)
 iterate 2 refine au ?_
 obtain ⟨o3, hio3, hO4⟩ := bind_some hF
 refine au ?_
 refine C_cut (fun f' cs' => ∃ (c20 : Bool) (g : Fr), c20 = o3 ∧ f' = updL g [(4, (.bool c20))] ∧ Ent cs' []) ?_ ?_
 · replace hF := hio3
   refine au ?_
   refine bnd hF fun r5 hx6 hF => Cx0 (i_IsSchema_ok _ _ _ hx6) (fun _ => ?_)
   refine au ?_
   rcases Bool.eq_false_or_eq_true r5 with hg8 | hg8
   · rw [hg8]
     try rw [hg8] at hF; dsimp only [cond_true, cond_false] at hF
     iterate 7 refine au ?_
     refine bnd hF fun r9 hx10 hF => Cx0 (i_within_ok _ _ _ _ hx10) (fun _ => ?_)
     iterate 2 refine au ?_
     rcases Bool.eq_false_or_eq_true r9 with hg12 | hg12
     · rw [hg12]
       try rw [hg12] at hF; dsimp only [cond_true, cond_false] at hF
       iterate 5 refine au ?_
       refine C_val (V_makeFunc (fn := .func 93) (vs := []) (us := [(pz k1)]) .nil (.cons (.tmp rfl rfl) .nil)) ?_
       refine au ?_
       refine bnd hF fun r13 hx14 hF => Cx0 (g_slices_ContainsFunc_impl_Atom_impl_Atom_iIsQuery1_ok _ _ _ _ _ _ hx14) (fun _ => ?_)
       iterate 4 refine au ?_
       rcases Bool.eq_false_or_eq_true (!r13) with hg16 | hg16
       · rw [hg16]
         try rw [hg16] at hF; dsimp only [cond_true, cond_false] at hF
         iterate 3 refine au ?_
         refine bnd hF fun r17 hx18 hF => Cx0 (i_hasHead_ok _ _ _ _ hx18) (fun _ => ?_)
         iterate 3 refine au ?_
         cases hF
         exact ⟨_, _, rfl, eqA, entA⟩
       rw [hg16]
       try rw [hg16] at hF; dsimp only [cond_true, cond_false] at hF
       iterate 5 refine au ?_
       cases hF
       exact ⟨_, _, rfl, eqA, entA⟩
     rw [hg12]
     try rw [hg12] at hF; dsimp only [cond_true, cond_false] at hF
     iterate 12 refine au ?_
     cases hF
     exact ⟨_, _, rfl, eqA, entA⟩
   rw [hg8]
   try rw [hg8] at hF; dsimp only [cond_true, cond_false] at hF
   iterate 18 refine au ?_
   cases hF
   exact ⟨_, _, rfl, eqA, entA⟩
 rintro _ _ ⟨c20, g21, rfl, rfl, hE⟩
 replace hF := hO4
 try dsimp only at hF
 refine K_ent hE ?_
 refine au ?_
 cases hF
 exact Er ()
def i_areAsked (a_s : List Int) (a_l : List Method) (a_q : Query) : Option (Bool) :=
 ((i_AreMethods a_s a_l).bind fun r4 =>
   bif r4 then ((i_IsQuery a_s a_q).bind fun r8 =>
     some r8)
   else (some false)).bind fun o2 =>
 match o2 with
 | c11 => some c11
theorem i_areAsked_ok (a_s : List Int) (v0_0 : Sv) (a_l : List Method) (v1_0 : Sv) (a_q : Query) (v2_0 : Sv) (v2_1 : Sv) (R : Bool) (hF : i_areAsked a_s a_l a_q = some R) :
   Fw.Spec Tryz.prog 31 [v0_0.v, v1_0.v, (.agg [v2_0.v, v2_1.v].toArray)] [crd (RdS 3 rdInt) v0_0.v a_s, crd (RdS 65 rd65) v1_0.v a_l, crd (RdS 3 rdInt) v2_0.v a_q.Head, crd (RdS 84 rd84) v2_1.v a_q.Atoms] (fun _ : Unit => (.bool R)) (fun _ => []) := by
 refine Se 15 Tryz.func31 [.tmp 6] ?_
 intro H0 F0
 unfold i_areAsked at hF
 refine au ?_
 refine AbR (fun k1 => ?_)
 iterate 2 refine au ?_
 obtain ⟨o2, hio2, hO3⟩ := bind_some hF
 refine au ?_
 refine C_cut (fun f' cs' => ∃ (c11 : Bool) (g : Fr), c11 = o2 ∧ f' = updL g [(6, (.bool c11))] ∧ Ent cs' []) ?_ ?_
 · replace hF := hio2
   iterate 2 refine au ?_
   refine bnd hF fun r4 hx5 hF => Cx0 (i_AreMethods_ok _ _ _ _ _ hx5) (fun _ => ?_)
   refine au ?_
   rcases Bool.eq_false_or_eq_true r4 with hg7 | hg7
   · rw [hg7]
     try rw [hg7] at hF; dsimp only [cond_true, cond_false] at hF
     iterate 5 refine au ?_
     refine bnd hF fun r8 hx9 hF => Cx0 (i_IsQuery_ok _ _ _ _ _ _ hx9) (fun _ => ?_)
     iterate 3 refine au ?_
     cases hF
     exact ⟨_, _, rfl, eqA, entA⟩
   rw [hg7]
   try rw [hg7] at hF; dsimp only [cond_true, cond_false] at hF
   iterate 6 refine au ?_
   cases hF
   exact ⟨_, _, rfl, eqA, entA⟩
 rintro _ _ ⟨c11, g12, rfl, rfl, hE⟩
 replace hF := hO3
 try dsimp only at hF
 refine K_ent hE ?_
 refine au ?_
 cases hF
 exact Er ()
def g_slices_Clone_impl_Method_impl_Method (a_s : List Method) : Option ((List Method)) :=
 (app ([] : List Method) a_s).bind fun z5 =>
 some z5
theorem g_slices_Clone_impl_Method_impl_Method_ok (a_s : List Method) (v0_0 : Sv) (R : (List Method)) (hF : g_slices_Clone_impl_Method_impl_Method a_s = some R) :
   Fw.Spec Tryz.prog 166 [v0_0.v] [crd (RdS 65 rd65) v0_0.v a_s] (fun p : Sv × List Nat => p.1.v) (fun p => [cown (OwnS 65 (roE rd65)) p.2 p.1.v R]) := by
 refine Se 8 Tryz.func166 [.tmp 2] ?_
 intro H0 F0
 unfold g_slices_Clone_impl_Method_impl_Method at hF
 iterate 6 refine au ?_
 refine C_eqNil (xs := a_s) sl35.h (.tmp rfl rfl) .h crd_nilc (fun bn1 hn2 => ?_)
 refine au ?_
 refine Cc (fun hb3 => ?_) (fun hb3 => ?_)
 · have hnil := hn2 hb3
   replace hF : some [] = some R := by rw [hnil] at hF; simpa [app] using hF
   iterate 4 refine au ?_
   cases hF
   exact End_ret (⟨none, 0, 0⟩, []) (.tmp rfl rfl .nil) rfl (.conv .nil (own_nil (Ro := (roE rd65)) (E := 65)) (.cons .nil) (.sel (.cons .h .nil)))
 iterate 2 refine au ?_
 refine C_new rfl (N_buildSliceT (g := true) sl35.h ty65.h .nil (vs := []) rfl rfl rfl (by simp)) (fun k4 => ?_)
 refine Cv1 (.cons .h .nil) (own_lit (Ro := (roE rd65)) (E := 65) (F := []) (xs := ([] : List Method)) MkL_nil rfl rfl) ?_
 refine au ?_
 refine bnd hF fun z5 hx6 hF => C_x1 (.cons .h (.rd .h rfl .nil)) (X_appendO (Ro := (roE rd65)) sl35.h ni35 ty65.h rfl rfl rfl (.tmp rfl rfl) (.tmp rfl rfl) hx6 src_rd) (fun p7 => ?_)
 iterate 3 refine au ?_
 cases hF
 exact Er (p7.1, p7.2)
def i_exactOnly_L1 (r1 : (List Method)) : Nat → (List Method) → Int → Option ((List Method))
 | 0, _, _ => none
 | m38 + 1, c35, c37 => if (decide ((c37 : Int) < (r1.length : Int))) then (
     ((ix c35 c37).bind fun x51 =>
       if ((x51.Limit : Int) != 0) then (
         (ix c35 c37).bind fun x60 =>
         (some (c35.set (c37).toNat { x60 with Rel := (-1) })).bind fun z64 =>
         some z64)
       else (
         some c35)).bind fun o46 =>
     match o46 with
     | c67 => i_exactOnly_L1 r1 m38 c67 (IntKind.i64.wrap (c37 + 1)))
   else (
     some c35)
def i_exactOnly (a_l : List Method) : Option ((List Method)) :=
 (g_slices_Clone_impl_Method_impl_Method a_l).bind fun r1 =>
 i_exactOnly_L1 r1 (((r1.length : Int) - 0).toNat + 2) r1 0
theorem i_exactOnly_ok (a_l : List Method) (v0_0 : Sv) (R : (List Method)) (hF : i_exactOnly a_l = some R) :
   Fw.Spec Tryz.prog 132 [v0_0.v] [crd (RdS 65 rd65) v0_0.v a_l] (fun p : Sv × List Nat => p.1.v) (fun p => [cown (OwnS 65 (roE rd65)) p.2 p.1.v R]) := by
 refine Se 24 Tryz.func132 [.tmp 2] ?_
 intro H0 F0
 unfold i_exactOnly at hF
 iterate 5 refine au ?_
 refine bnd hF fun r1 hx2 hF => Cx1 (g_slices_Clone_impl_Method_impl_Method_ok _ _ _ hx2) (fun p3 => ?_)
 iterate 8 refine au ?_
 refine CW_block (CW_loop (m := (((r1.length : Int) - 0).toNat + 2)) (fun m38 f' cs' => ∃ (g : Fr) (c35 : List Method) (c37 : Int) (F36 : List Nat), f' = updL g [(3, p3.1.v), (8, p3.1.v), (9, (.int .i64 (r1.length : Int))), (10, (.int .i64 c37))] ∧ Ent cs' [cown (OwnS 65 (roE rd65)) F36 p3.1.v c35] ∧ i_exactOnly_L1 r1 m38 c35 c37 = some R) ⟨_, _, _, p3.2, eqA, entA, hF⟩ ?_)
 rintro m38 _ _ ⟨g39, c35, c37, F36, rfl, hE, hF⟩
 refine K_ent hE ?_
 rcases m38 with _ | m38
 · rw [i_exactOnly_L1] at hF
   exact absurd hF (by simp)
 rw [i_exactOnly_L1] at hF
 iterate 4 refine au ?_
 refine Ci hF (fun hb69 hF => ?_) (fun hb69 hF => ?_)
 · refine au ?_
   obtain ⟨o46, hio46, hO47⟩ := bind_some hF
   refine K_cut (fun f' cs' => ∃ (c67 : List Method) (g : Fr), c67 = o46 ∧ f' = updL g [(3, p3.1.v), (8, p3.1.v), (9, (.int .i64 (r1.length : Int))), (10, (.int .i64 c37))] ∧ Ent cs' [cown (OwnS 65 (roE rd65)) F36 p3.1.v c67]) ?_ ?_
   · replace hF := hio46
     refine CW_block (K_region (Cm (.int .i64 c37) rfl rfl ?_))
     refine bnd hF fun x51 hx52 hF => ?_
     have hi50 := ix_chk hx52
     obtain ⟨hp53, hx54⟩ := ix_some hx52
     refine C_idxO sl35.h ty65.h.sz (.tmp rfl rfl) (.tmp rfl rfl) .h hi50 (fun k48 hk49 => ?_)
     refine C_ldOA1 (ul65_0_65 x51) ag65.h ty65.h.sz rfl (.tmp rfl rfl) .h hk49 hx54 la65_0_65 (fun p55 => ?_)
     refine AnW (fun k56 => ?_)
     refine au ?_
     refine As (.agg [(.int .i64 x51.Rel), p55.v, (.int .i64 x51.Limit), (.int .i64 x51.Cost), (.int .i64 x51.Quota)].toArray) ?_
     iterate 6 refine au ?_
     refine Ci hF (fun hb66 hF => ?_) (fun hb66 hF => ?_)
     · iterate 3 refine au ?_
       refine bnd hF fun x60 hx61 hF => ?_
       have hi59 := ix_chk hx61
       obtain ⟨hp62, hx63⟩ := ix_some hx61
       refine C_idxO sl35.h ty65.h.sz (.tmp rfl rfl) (.tmp rfl rfl) (.t (.t .h)) hi59 (fun k57 hk58 => ?_)
       refine au ?_
       refine bnd hF fun z64 hx65 hF => ?_
       replace hx65 := Option.some.inj hx65
       refine C_x1 (.cons (.t (.t .h)) .nil) (X_storeF (Ro := (roE rd65)) (i := c37) ty3.h.sz rfl (.tmp rfl rfl) (.int _ _) hk58 hx63 rfl rfl fsfs65_0 (sfs65_0 (d := (-1)))) (fun _ => ?_)
       rw [hx65]
       refine au ?_
       cases hF
       exact ⟨_, _, rfl, eqA, entA⟩
     refine au ?_
     cases hF
     exact ⟨_, _, rfl, eqA, entA⟩
   rintro _ _ ⟨c67, g68, rfl, rfl, hE⟩
   replace hF := hO47
   try dsimp only at hF
   refine K_ent hE ?_
   iterate 4 refine au ?_
   exact ⟨m38, Nat.lt_succ_self _, _, _, _, F36, eqA, entA, hF⟩
 iterate 9 refine au ?_
 cases hF
 exact Er (p3.1, F36)
def i_CanCall_1 (a_i : Int) (a_e1 : Atom) (a_e2 : List Int) : Option (Bool) :=
 ((i_within a_i 0 (IntKind.i64.wrap ((a_e1.Terms.length : Int) - 1))).bind fun r3 =>
   bif (!r3) then (some true)
   else ((ix a_e1.Terms a_i).bind fun x7 =>
     (i_IsVar x7).bind fun r13 =>
     bif r13 then ((ix a_e1.Terms a_i).bind fun x17 =>
       (g_slices_Contains_int_int a_e2 x17).bind fun r23 =>
       some (!r23))
     else (some false))).bind fun o1 =>
 match o1 with
 | c26 => some c26
theorem i_CanCall_1_ok (a_i : Int) (kc1 : Nat) (a_e1 : Atom) (vc1_1 : Sv) (kc2 : Nat) (a_e2 : List Int) (vc2_0 : Sv) (R : Bool) (hF : i_CanCall_1 a_i a_e1 a_e2 = some R) :
   Fw.Spec Tryz.prog 204 [(.int .i64 a_i), (pz kc1), (pz kc2)] [cboR kc1 84 (.agg [(.int .i64 a_e1.Rel), vc1_1.v].toArray), crd (RdS 3 rdInt) vc1_1.v a_e1.Terms, cboR kc2 22 vc2_0.v, crd (RdS 3 rdInt) vc2_0.v a_e2] (fun _ : Unit => (.bool R)) (fun _ => []) := by
 refine Se 30 Tryz.func204 [.tmp 4] ?_
 intro H0 F0
 unfold i_CanCall_1 at hF
 iterate 3 refine au ?_
 obtain ⟨o1, hio1, hO2⟩ := bind_some hF
 refine K_draw [0, 1, 2, 3, 4, 5, 6, 7, 8, 9, 10, 11, 12, 13, 14, 15, 16, 17, 18, 19, 20, 21, 22, 23, 24, 25] [0, 0, 2, 6, 14, 31, 63, 127, 255, 511, 255, 2047, 4095, 8191, 16383, 32767, 32767, 98303, 32767, 491519, 1015807, 2097151, 4194303, 8388607, 16777215, 33554431] [5, 13, 21] mixed (by decide +kernel) ?_
 refine D_cut (fun f' cs' => ∃ (c26 : Bool) (g : Fr), c26 = o1 ∧ f' = updL g [(4, (.bool c26))] ∧ Ent cs' []) ?_ ?_
 · replace hF := hio1
   iterate 5 refine du ?_
   refine bnd hF fun r3 hx4 hF => Dx0 (i_within_ok _ _ _ _ hx4) (fun _ => ?_)
   iterate 2 refine du ?_
   rcases Bool.eq_false_or_eq_true (!r3) with hg6 | hg6
   · rw [hg6]
     try rw [hg6] at hF; dsimp only [cond_true, cond_false] at hF
     iterate 19 refine du ?_
     cases hF
     exact ⟨_, _, rfl, eqA, entA⟩
   rw [hg6]
   try rw [hg6] at hF; dsimp only [cond_true, cond_false] at hF
   iterate 3 refine du ?_
   refine bnd hF fun x7 hx8 hF => ?_
   obtain ⟨hp9, hx10⟩ := ix_some hx8
   refine Di hx10 (fun k11 j12 => ?_)
   refine Dl ls3_0 ?_
   refine bnd hF fun r13 hx14 hF => Dx0 (i_IsVar_ok _ _ hx14) (fun _ => ?_)
   refine du ?_
   rcases Bool.eq_false_or_eq_true r13 with hg16 | hg16
   · rw [hg16]
     try rw [hg16] at hF; dsimp only [cond_true, cond_false] at hF
     iterate 4 refine du ?_
     refine bnd hF fun x17 hx18 hF => ?_
     obtain ⟨hp19, hx20⟩ := ix_some hx18
     refine Di hx20 (fun k21 j22 => ?_)
     refine Dl ls3_0 ?_
     refine bnd hF fun r23 hx24 hF => Dx0 (g_slices_Contains_int_int_ok _ _ _ _ hx24) (fun _ => ?_)
     iterate 5 refine du ?_
     cases hF
     exact ⟨_, _, rfl, eqA, entA⟩
   rw [hg16]
   try rw [hg16] at hF; dsimp only [cond_true, cond_false] at hF
   iterate 12 refine du ?_
   cases hF
   exact ⟨_, _, rfl, eqA, entA⟩
 rintro _ _ ⟨c26, g27, rfl, rfl, hE⟩
 replace hF := hO2
 try dsimp only at hF
 refine K_ent hE ?_
 refine au ?_
 cases hF
 exact Er ()
def g_slices_IndexFunc_int_int_iCanCall1_L1 (a_e1 : Atom) (a_e2 : List Int) : List Int → Nat → Option (Int)
 | [], k4 => some (-1)
 | x6 :: rest5, k4 => (i_CanCall_1 x6 a_e1 a_e2).bind fun r15 =>
   if r15 then (
     some (k4 : Int))
   else (
     g_slices_IndexFunc_int_int_iCanCall1_L1 a_e1 a_e2 rest5 (k4 + 1))
def g_slices_IndexFunc_int_int_iCanCall1 (a_s : List Int) (a_e1 : Atom) (a_e2 : List Int) : Option (Int) :=
 g_slices_IndexFunc_int_int_iCanCall1_L1 a_e1 a_e2 a_s 0
theorem g_slices_IndexFunc_int_int_iCanCall1_ok (a_s : List Int) (v0_0 : Sv) (kc1 : Nat) (a_e1 : Atom) (vc1_1 : Sv) (kc2 : Nat) (a_e2 : List Int) (vc2_0 : Sv) (R : Int) (hF : g_slices_IndexFunc_int_int_iCanCall1 a_s a_e1 a_e2 = some R) :
   Fw.Spec Tryz.prog 158 [v0_0.v, (.func (.func 204) [].toArray [(pz kc1), (pz kc2)].toArray)] [crd (RdS 3 rdInt) v0_0.v a_s, cboR kc1 84 (.agg [(.int .i64 a_e1.Rel), vc1_1.v].toArray), crd (RdS 3 rdInt) vc1_1.v a_e1.Terms, cboR kc2 22 vc2_0.v, crd (RdS 3 rdInt) vc2_0.v a_e2] (fun _ : Unit => (.int .i64 R)) (fun _ => []) := by
 refine Se 19 Tryz.func158 [.tmp 4] ?_
 intro H0 F0
 unfold g_slices_IndexFunc_int_int_iCanCall1 at hF
 iterate 9 refine au ?_
 refine CW_block (CW_loop (m := a_s.length) (fun m2 f' cs' => ∃ (g : Fr) (k4 : Nat) (rest5 : List Int), m2 = rest5.length ∧ f' = updL g [(0, v0_0.v), (1, (.func (.func 204) [].toArray [(pz kc1), (pz kc2)].toArray)), (7, (.int .i64 (a_s.length : Int))), (8, (.int .i64 (k4 : Int)))] ∧ List.drop k4 a_s = rest5 ∧ Ent cs' [crd (RdS 3 rdInt) v0_0.v a_s, cboR kc1 84 (.agg [(.int .i64 a_e1.Rel), vc1_1.v].toArray), crd (RdS 3 rdInt) vc1_1.v a_e1.Terms, cboR kc2 22 vc2_0.v, crd (RdS 3 rdInt) vc2_0.v a_e2] ∧ g_slices_IndexFunc_int_int_iCanCall1_L1 a_e1 a_e2 rest5 k4 = some R) ⟨_, 0, _, rfl, eqA, rfl, entA, hF⟩ ?_)
 rintro m2 _ _ ⟨g3, k4, rest5, rfl, rfl, hd7, hE, hF⟩
 refine Kb hE a_s (fun hbd12 => ?_)
 rcases rest5 with _ | ⟨x6, rest5⟩
 · have hk8 := dn hd7
   rw [g_slices_IndexFunc_int_int_iCanCall1_L1] at hF
   iterate 4 refine au ?_
   refine CdF ?_
   iterate 8 refine au ?_
   cases hF
   exact Er ()
 obtain ⟨hk8, hx9, hd10⟩ := drop_cons hd7
 rw [g_slices_IndexFunc_int_int_iCanCall1_L1] at hF
 iterate 4 refine au ?_
 refine CdT ?_
 iterate 10 refine au ?_
 refine Ai hx9 (fun k13 j14 => ?_)
 refine Al ls3_0 ?_
 refine bnd hF fun r15 hx16 hF => C_x0 (.rd (.t (.t .h)) rfl (.rd (.t (.t (.t .h))) rfl (.rd (.t (.t (.t (.t .h)))) rfl (.rd (.t (.t (.t (.t (.t .h))))) rfl .nil)))) (X_callCS cf204.h (.tmp rfl rfl) (.cons (.tmp rfl rfl) .nil) (i_CanCall_1_ok x6 kc1 a_e1 vc1_1 kc2 a_e2 vc2_0 _ hx16)) (fun _ => ?_)
 refine au ?_
 refine Ci hF (fun hb19 hF => ?_) (fun hb19 hF => ?_)
 · iterate 5 refine au ?_
   cases hF
   exact Er ()
 iterate 5 refine au ?_
 rw [wk k4]
 exact ⟨_, Nat.lt_succ_self _, _, k4 + 1, rest5, rfl, eqA, hd10, entA, hF⟩
def g_slices_ContainsFunc_int_int_iCanCall1 (a_s : List Int) (a_e1 : Atom) (a_e2 : List Int) : Option (Bool) :=
 (g_slices_IndexFunc_int_int_iCanCall1 a_s a_e1 a_e2).bind fun r1 =>
 some (decide ((0 : Int) ≤ r1))
theorem g_slices_ContainsFunc_int_int_iCanCall1_ok (a_s : List Int) (v0_0 : Sv) (kc1 : Nat) (a_e1 : Atom) (vc1_1 : Sv) (kc2 : Nat) (a_e2 : List Int) (vc2_0 : Sv) (R : Bool) (hF : g_slices_ContainsFunc_int_int_iCanCall1 a_s a_e1 a_e2 = some R) :
   Fw.Spec Tryz.prog 123 [v0_0.v, (.func (.func 204) [].toArray [(pz kc1), (pz kc2)].toArray)] [crd (RdS 3 rdInt) v0_0.v a_s, cboR kc1 84 (.agg [(.int .i64 a_e1.Rel), vc1_1.v].toArray), crd (RdS 3 rdInt) vc1_1.v a_e1.Terms, cboR kc2 22 vc2_0.v, crd (RdS 3 rdInt) vc2_0.v a_e2] (fun _ : Unit => (.bool R)) (fun _ => []) := by
 refine Se 9 Tryz.func123 [.tmp 4] ?_
 intro H0 F0
 unfold g_slices_ContainsFunc_int_int_iCanCall1 at hF
 iterate 6 refine au ?_
 refine bnd hF fun r1 hx2 hF => Cx0 (g_slices_IndexFunc_int_int_iCanCall1_ok _ _ _ _ _ _ _ _ _ hx2) (fun _ => ?_)
 iterate 4 refine au ?_
 cases hF
 exact Er ()
def i_CanCall (a_m : Method) (a_a : Atom) (a_bound : List Int) : Option (Bool) :=
 (bif ((a_m.Rel : Int) == a_a.Rel) then ((g_slices_ContainsFunc_int_int_iCanCall1 a_m.Inputs a_a a_bound).bind fun r7 =>
     some (!r7))
   else (some false)).bind fun o4 =>
 match o4 with
 | c10 => some c10
theorem i_CanCall_ok (a_m : Method) (v0_1 : Sv) (a_a : Atom) (v1_1 : Sv) (a_bound : List Int) (v2_0 : Sv) (R : Bool) (hF : i_CanCall a_m a_a a_bound = some R) :
   Fw.Spec Tryz.prog 193 [(.agg [(.int .i64 a_m.Rel), v0_1.v, (.int .i64 a_m.Limit), (.int .i64 a_m.Cost), (.int .i64 a_m.Quota)].toArray), (.agg [(.int .i64 a_a.Rel), v1_1.v].toArray), v2_0.v] [crd (RdS 3 rdInt) v0_1.v a_m.Inputs, crd (RdS 3 rdInt) v1_1.v a_a.Terms, crd (RdS 3 rdInt) v2_0.v a_bound] (fun _ : Unit => (.bool R)) (fun _ => []) := by
 refine Se 19 Tryz.func193 [.tmp 6] ?_
 intro H0 F0
 unfold i_CanCall at hF
 refine au ?_
 refine AbR (fun k1 => ?_)
 refine AbR (fun k2 => ?_)
 refine AbR (fun k3 => ?_)
 iterate 2 refine au ?_
 obtain ⟨o4, hio4, hO5⟩ := bind_some hF
 refine au ?_
 refine C_cut (fun f' cs' => ∃ (c10 : Bool) (g : Fr), c10 = o4 ∧ f' = updL g [(6, (.bool c10))] ∧ Ent cs' []) ?_ ?_
 · replace hF := hio4
   iterate 6 refine au ?_
   rcases Bool.eq_false_or_eq_true ((a_m.Rel : Int) == a_a.Rel) with hg6 | hg6
   · rw [hg6]
     try rw [hg6] at hF; dsimp only [cond_true, cond_false] at hF
     iterate 5 refine au ?_
     refine C_val (V_makeFunc (fn := .func 204) (vs := []) (us := [(pz k2), (pz k3)]) .nil (.cons (.tmp rfl rfl) (.cons (.tmp rfl rfl) .nil))) ?_
     refine au ?_
     refine bnd hF fun r7 hx8 hF => Cx0 (g_slices_ContainsFunc_int_int_iCanCall1_ok _ _ _ _ _ _ _ _ _ hx8) (fun _ => ?_)
     iterate 5 refine au ?_
     cases hF
     exact ⟨_, _, rfl, eqA, entA⟩
   rw [hg6]
   try rw [hg6] at hF; dsimp only [cond_true, cond_false] at hF
   iterate 8 refine au ?_
   cases hF
   exact ⟨_, _, rfl, eqA, entA⟩
 rintro _ _ ⟨c10, g11, rfl, rfl, hE⟩
 replace hF := hO5
 try dsimp only at hF
 refine K_ent hE ?_
 refine au ?_
 cases hF
 exact Er ()
def i_greedy_1 (a_m : Method) (a_a : Atom) : Option (Bool) :=
 some true
theorem i_greedy_1_ok (a_m : Method) (v0_1 : Sv) (a_a : Atom) (v1_1 : Sv) (R : Bool) (hF : i_greedy_1 a_m a_a = some R) :
   Fw.Spec Tryz.prog 165 [(.agg [(.int .i64 a_m.Rel), v0_1.v, (.int .i64 a_m.Limit), (.int .i64 a_m.Cost), (.int .i64 a_m.Quota)].toArray), (.agg [(.int .i64 a_a.Rel), v1_1.v].toArray)] [crd (RdS 3 rdInt) v0_1.v a_m.Inputs, crd (RdS 3 rdInt) v1_1.v a_a.Terms] (fun _ : Unit => (.bool R)) (fun _ => []) := by
 refine Se 5 Tryz.func165 [.tmp 4] ?_
 intro H0 F0
 unfold i_greedy_1 at hF
 refine au ?_
 refine AbR (fun k1 => ?_)
 refine AbR (fun k2 => ?_)
 iterate 6 refine au ?_
 cases hF
 exact Er ()
def i_greedyWhere_1_1 (a_m : Method) (a_e1 : Atom) (a_e2 : List Int) : Option (Bool) :=
 ((i_CanCall a_m a_e1 a_e2).bind fun r4 =>
   bif r4 then ((i_greedy_1 a_m a_e1).bind fun r8 =>
     some r8)
   else (some false)).bind fun o2 =>
 match o2 with
 | c11 => some c11
theorem i_greedyWhere_1_1_ok (a_m : Method) (v0_1 : Sv) (kc1 : Nat) (a_e1 : Atom) (vc1_1 : Sv) (kc2 : Nat) (a_e2 : List Int) (vc2_0 : Sv) (kc3 : Nat) (R : Bool) (hF : i_greedyWhere_1_1 a_m a_e1 a_e2 = some R) :
   Fw.Spec Tryz.prog 192 [(.agg [(.int .i64 a_m.Rel), v0_1.v, (.int .i64 a_m.Limit), (.int .i64 a_m.Cost), (.int .i64 a_m.Quota)].toArray), (pz kc1), (pz kc2), (pz kc3)] [crd (RdS 3 rdInt) v0_1.v a_m.Inputs, cboR kc1 84 (.agg [(.int .i64 a_e1.Rel), vc1_1.v].toArray), crd (RdS 3 rdInt) vc1_1.v a_e1.Terms, cboR kc2 22 vc2_0.v, crd (RdS 3 rdInt) vc2_0.v a_e2, cboR kc3 170 (.func (.func 165) [].toArray [].toArray)] (fun _ : Unit => (.bool R)) (fun _ => []) := by
 refine Se 16 Tryz.func192 [.tmp 5] ?_
 intro H0 F0
 unfold i_greedyWhere_1_1 at hF
 refine au ?_
 refine AbR (fun k1 => ?_)
 iterate 2 refine au ?_
 obtain ⟨o2, hio2, hO3⟩ := bind_some hF
 refine au ?_
 refine C_cut (fun f' cs' => ∃ (c11 : Bool) (g : Fr), c11 = o2 ∧ f' = updL g [(5, (.bool c11))] ∧ Ent cs' []) ?_ ?_
 · replace hF := hio2
   iterate 3 refine au ?_
   refine bnd hF fun r4 hx5 hF => Cx0 (i_CanCall_ok _ _ _ _ _ _ _ hx5) (fun _ => ?_)
   refine au ?_
   rcases Bool.eq_false_or_eq_true r4 with hg7 | hg7
   · rw [hg7]
     try rw [hg7] at hF; dsimp only [cond_true, cond_false] at hF
     iterate 7 refine au ?_
     refine bnd hF fun r8 hx9 hF => C_x0 (.rd (.t .h) rfl (.rd (.t (.t (.t .h))) rfl .nil)) (X_callCS cf165.h (.tmp rfl rfl) (.cons (.tmp rfl rfl) (.cons (.tmp rfl rfl) .nil)) (i_greedy_1_ok a_m v0_1 a_e1 vc1_1 _ hx9)) (fun _ => ?_)
     iterate 3 refine au ?_
     cases hF
     exact ⟨_, _, rfl, eqA, entA⟩
   rw [hg7]
   try rw [hg7] at hF; dsimp only [cond_true, cond_false] at hF
   iterate 7 refine au ?_
   cases hF
   exact ⟨_, _, rfl, eqA, entA⟩
 rintro _ _ ⟨c11, g12, rfl, rfl, hE⟩
 replace hF := hO3
 try dsimp only at hF
 refine K_ent hE ?_
 refine au ?_
 cases hF
 exact Er ()
def g_slices_IndexFunc_impl_Method_impl_Method_igreedyWhere11igreedy1_L1 (a_e1 : Atom) (a_e2 : List Int) : List Method → Nat → Option (Int)
 | [], k4 => some (-1)
 | x6 :: rest5, k4 => (i_greedyWhere_1_1 x6 a_e1 a_e2).bind fun r16 =>
   if r16 then (
     some (k4 : Int))
   else (
     g_slices_IndexFunc_impl_Method_impl_Method_igreedyWhere11igreedy1_L1 a_e1 a_e2 rest5 (k4 + 1))
def g_slices_IndexFunc_impl_Method_impl_Method_igreedyWhere11igreedy1 (a_s : List Method) (a_e1 : Atom) (a_e2 : List Int) : Option (Int) :=
 g_slices_IndexFunc_impl_Method_impl_Method_igreedyWhere11igreedy1_L1 a_e1 a_e2 a_s 0
theorem g_slices_IndexFunc_impl_Method_impl_Method_igreedyWhere11igreedy1_ok (a_s : List Method) (v0_0 : Sv) (kc1 : Nat) (a_e1 : Atom) (vc1_1 : Sv) (kc2 : Nat) (a_e2 : List Int) (vc2_0 : Sv) (kc3 : Nat) (R : Int) (hF : g_slices_IndexFunc_impl_Method_impl_Method_igreedyWhere11igreedy1 a_s a_e1 a_e2 = some R) :
   Fw.Spec Tryz.prog 125 [v0_0.v, (.func (.func 192) [].toArray [(pz kc1), (pz kc2), (pz kc3)].toArray)] [crd (RdS 65 rd65) v0_0.v a_s, cboR kc1 84 (.agg [(.int .i64 a_e1.Rel), vc1_1.v].toArray), crd (RdS 3 rdInt) vc1_1.v a_e1.Terms, cboR kc2 22 vc2_0.v, crd (RdS 3 rdInt) vc2_0.v a_e2, cboR kc3 170 (.func (.func 165) [].toArray [].toArray)] (fun _ : Unit => (.int .i64 R)) (fun _ => []) := by
 refine Se 19 Tryz.func125 [.tmp 4] ?_
 intro H0 F0
 unfold g_slices_IndexFunc_impl_Method_impl_Method_igreedyWhere11igreedy1 at hF
 iterate 9 refine au ?_
 refine CW_block (CW_loop (m := a_s.length) (fun m2 f' cs' => ∃ (g : Fr) (k4 : Nat) (rest5 : List Method), m2 = rest5.length ∧ f' = updL g [(0, v0_0.v), (1, (.func (.func 192) [].toArray [(pz kc1), (pz kc2), (pz kc3)].toArray)), (7, (.int .i64 (a_s.length : Int))), (8, (.int .i64 (k4 : Int)))] ∧ List.drop k4 a_s = rest5 ∧ Ent cs' [crd (RdS 65 rd65) v0_0.v a_s, cboR kc1 84 (.agg [(.int .i64 a_e1.Rel), vc1_1.v].toArray), crd (RdS 3 rdInt) vc1_1.v a_e1.Terms, cboR kc2 22 vc2_0.v, crd (RdS 3 rdInt) vc2_0.v a_e2, cboR kc3 170 (.func (.func 165) [].toArray [].toArray)] ∧ g_slices_IndexFunc_impl_Method_impl_Method_igreedyWhere11igreedy1_L1 a_e1 a_e2 rest5 k4 = some R) ⟨_, 0, _, rfl, eqA, rfl, entA, hF⟩ ?_)
 rintro m2 _ _ ⟨g3, k4, rest5, rfl, rfl, hd7, hE, hF⟩
 refine Kb hE a_s (fun hbd12 => ?_)
 rcases rest5 with _ | ⟨x6, rest5⟩
 · have hk8 := dn hd7
   rw [g_slices_IndexFunc_impl_Method_impl_Method_igreedyWhere11igreedy1_L1] at hF
   iterate 4 refine au ?_
   refine CdF ?_
   iterate 8 refine au ?_
   cases hF
   exact Er ()
 obtain ⟨hk8, hx9, hd10⟩ := drop_cons hd7
 rw [g_slices_IndexFunc_impl_Method_impl_Method_igreedyWhere11igreedy1_L1] at hF
 iterate 4 refine au ?_
 refine CdT ?_
 iterate 10 refine au ?_
 refine Ai hx9 (fun k13 j14 => ?_)
 refine AlA1 (ul65_0_65 x6) la65_0_65 (fun p15 => ?_)
 refine bnd hF fun r16 hx17 hF => C_x0 (.rd .h rfl (.rd (.t (.t (.t .h))) rfl (.rd (.t (.t (.t (.t .h)))) rfl (.rd (.t (.t (.t (.t (.t .h))))) rfl (.rd (.t (.t (.t (.t (.t (.t .h)))))) rfl (.rd (.t (.t (.t (.t (.t (.t (.t .h))))))) rfl .nil)))))) (X_callCS cf192.h (.tmp rfl rfl) (.cons (.tmp rfl rfl) .nil) (i_greedyWhere_1_1_ok x6 p15 kc1 a_e1 vc1_1 kc2 a_e2 vc2_0 kc3 _ hx17)) (fun _ => ?_)
 refine au ?_
 refine Ci hF (fun hb20 hF => ?_) (fun hb20 hF => ?_)
 · iterate 5 refine au ?_
   cases hF
   exact Er ()
 iterate 5 refine au ?_
 rw [wk k4]
 exact ⟨_, Nat.lt_succ_self _, _, k4 + 1, rest5, rfl, eqA, hd10, entA, hF⟩
def i_greedyWhere_1_L1 (a_e2 : List Method) (a_e3 : List Int) (a_e5 : List Bool) : List Atom → Nat → Option (Step × Bool)
 | [], k5 => some (({ Atom := 0, Method := 0 } : Step), false)
 | x7 :: rest6, k5 => (g_slices_IndexFunc_impl_Method_impl_Method_igreedyWhere11igreedy1 a_e2 x7 a_e3).bind fun r18 =>
   ((ix a_e5 (k5 : Int)).bind fun x23 =>
     bif (!x23) then (some (decide ((0 : Int) ≤ r18)))
     else (some false)).bind fun o21 =>
   match o21 with
   | c30 => if c30 then (
       some (({ Atom := (k5 : Int), Method := r18 } : Step), true))
     else (
       i_greedyWhere_1_L1 a_e2 a_e3 a_e5 rest6 (k5 + 1))
def i_greedyWhere_1 (a_e1 : List Atom) (a_e2 : List Method) (a_e3 : List Int) (a_e5 : List Bool) : Option (Step × Bool) :=
 i_greedyWhere_1_L1 a_e2 a_e3 a_e5 a_e1 0
theorem i_greedyWhere_1_ok (kc1 : Nat) (a_e1 : List Atom) (vc1_0 : Sv) (kc2 : Nat) (a_e2 : List Method) (vc2_0 : Sv) (kc3 : Nat) (a_e3 : List Int) (vc3_0 : Sv) (kc4 : Nat) (kc5 : Nat) (a_e5 : List Bool) (vc5_0 : Sv) (R : Step × Bool) (hF : i_greedyWhere_1 a_e1 a_e2 a_e3 a_e5 = some R) :
   Fw.Spec Tryz.prog 191 [(pz kc1), (pz kc2), (pz kc3), (pz kc4), (pz kc5)] [cboR kc1 37 vc1_0.v, crd (RdS 84 rd84) vc1_0.v a_e1, cboR kc2 35 vc2_0.v, crd (RdS 65 rd65) vc2_0.v a_e2, cboR kc3 22 vc3_0.v, crd (RdS 3 rdInt) vc3_0.v a_e3, cboR kc4 170 (.func (.func 165) [].toArray [].toArray), cboR kc5 149 vc5_0.v, crd (RdS 4 rdBool) vc5_0.v a_e5] (fun _ : Unit => (.tuple [(.agg [(.int .i64 R.1.Atom), (.int .i64 R.1.Method)].toArray), (.bool R.2)].toArray)) (fun _ => []) := by
 refine Se 34 Tryz.func191 [.cell 5 108, .tmp 6] ?_
 intro H0 F0
 unfold i_greedyWhere_1 at hF
 refine au ?_
 refine AnW (fun k1 => ?_)
 iterate 8 refine au ?_
 refine CW_block (CW_loop (m := a_e1.length) (fun m3 f' cs' => ∃ (g : Fr) (k5 : Nat) (rest6 : List Atom), m3 = rest6.length ∧ f' = updL g [(1, (pz kc2)), (2, (pz kc3)), (3, (pz kc4)), (4, (pz kc5)), (5, (pz k1)), (10, vc1_0.v), (11, (.int .i64 (a_e1.length : Int))), (12, (.int .i64 (k5 : Int)))] ∧ List.drop k5 a_e1 = rest6 ∧ Ent cs' [cboR kc2 35 vc2_0.v, crd (RdS 65 rd65) vc2_0.v a_e2, cboR kc3 22 vc3_0.v, crd (RdS 3 rdInt) vc3_0.v a_e3, cboR kc4 170 (.func (.func 165) [].toArray [].toArray), cboR kc5 149 vc5_0.v, crd (RdS 4 rdBool) vc5_0.v a_e5, cbox k1 108 (.agg [(.int .i64 0), (.int .i64 0)].toArray), crd (RdS 84 rd84) vc1_0.v a_e1] ∧ i_greedyWhere_1_L1 a_e2 a_e3 a_e5 rest6 k5 = some R) ⟨_, 0, _, rfl, eqA, rfl, entA, hF⟩ ?_)
 rintro m3 _ _ ⟨g4, k5, rest6, rfl, rfl, hd8, hE, hF⟩
 refine Kb hE a_e1 (fun hbd13 => ?_)
 rcases rest6 with _ | ⟨x7, rest6⟩
 · have hk9 := dn hd8
   rw [i_greedyWhere_1_L1] at hF
   iterate 4 refine au ?_
   refine CdF ?_
   iterate 5 refine au ?_
   refine C_val (V_build ty108.h rfl (vs := []) .nil (cells := [(.int .i64 0), (.int .i64 0)]) rfl) ?_
   refine As (.agg [(.int .i64 0), (.int .i64 0)].toArray) ?_
   iterate 3 refine au ?_
   cases hF
   exact End_ret () (.cellA rfl rfl .h rfl ag108.h ty108.h.sz rfl rfl (.tmp rfl rfl .nil)) rfl (.sel .nil)
 obtain ⟨hk9, hx10, hd11⟩ := drop_cons hd8
 rw [i_greedyWhere_1_L1] at hF
 iterate 4 refine au ?_
 refine CdT ?_
 iterate 4 refine au ?_
 refine Ai hx10 (fun k14 j15 => ?_)
 refine AlA1 (ul84_0_84 x7) la84_0_84 (fun p16 => ?_)
 refine AnW (fun k17 => ?_)
 refine au ?_
 refine As (.agg [(.int .i64 x7.Rel), p16.v].toArray) ?_
 iterate 3 refine au ?_
 refine C_val (V_makeFunc (fn := .func 192) (vs := []) (us := [(pz k17), (pz kc3), (pz kc4)]) .nil (.cons (.tmp rfl rfl) (.cons (.tmp rfl rfl) (.cons (.tmp rfl rfl) .nil)))) ?_
 refine bnd hF fun r18 hx19 hF => C_x1 (.cons .h (.rd (.t (.t (.t .h))) rfl (.rd .h rfl (.rd (.t (.t (.t (.t .h)))) rfl (.rd (.t (.t (.t (.t (.t .h))))) rfl (.rd (.t (.t (.t (.t (.t (.t .h)))))) rfl .nil)))))) (XC_bor frz_blk (fun _ => .nil) (XC_pre (.rd (.t .h) rfl (.rd .h rfl (.rd (.t (.t .h)) rfl (.rd (.t (.t (.t .h))) rfl (.rd (.t (.t (.t (.t .h)))) rfl (.rd (.t (.t (.t (.t (.t .h))))) rfl .nil)))))) (X_callS cf125.h (.cons (.tmp rfl rfl) (.cons (.tmp rfl rfl) .nil)) (g_slices_IndexFunc_impl_Method_impl_Method_igreedyWhere11igreedy1_ok a_e2 vc2_0 k17 x7 p16 kc3 a_e3 vc3_0 kc4 _ hx19)))) (fun _ => ?_)
 iterate 2 refine au ?_
 obtain ⟨o21, hio21, hO22⟩ := bind_some hF
 refine au ?_
 refine C_cut (fun f' cs' => ∃ (c30 : Bool) (g : Fr), c30 = o21 ∧ f' = updL g [(1, (pz kc2)), (2, (pz kc3)), (3, (pz kc4)), (4, (pz kc5)), (5, (pz k1)), (7, (.int .i64 (k5 : Int))), (9, (.int .i64 r18)), (10, vc1_0.v), (11, (.int .i64 (a_e1.length : Int))), (12, (.int .i64 (k5 : Int))), (28, (.bool c30))] ∧ Ent cs' [cboR kc2 35 vc2_0.v, crd (RdS 65 rd65) vc2_0.v a_e2, cboR kc3 22 vc3_0.v, crd (RdS 3 rdInt) vc3_0.v a_e3, cboR kc4 170 (.func (.func 165) [].toArray [].toArray), cboR kc5 149 vc5_0.v, crd (RdS 4 rdBool) vc5_0.v a_e5, cbox k1 108 (.agg [(.int .i64 0), (.int .i64 0)].toArray), crd (RdS 84 rd84) vc1_0.v a_e1]) ?_ ?_
 · replace hF := hio21
   iterate 2 refine au ?_
   refine bnd hF fun x23 hx24 hF => ?_
   obtain ⟨hp25, hx26⟩ := ix_some hx24
   refine Ai hx26 (fun k27 j28 => ?_)
   refine Al ls4_0 ?_
   iterate 2 refine au ?_
   rcases Bool.eq_false_or_eq_true (!x23) with hg29 | hg29
   · rw [hg29]
     try rw [hg29] at hF; dsimp only [cond_true, cond_false] at hF
     iterate 6 refine au ?_
     cases hF
     exact ⟨_, _, rfl, eqA, entA⟩
   rw [hg29]
   try rw [hg29] at hF; dsimp only [cond_true, cond_false] at hF
   iterate 4 refine au ?_
   cases hF
   exact ⟨_, _, rfl, eqA, entA⟩
 rintro _ _ ⟨c30, g33, rfl, rfl, hE⟩
 replace hF := hO22
 try dsimp only at hF
 refine K_ent hE ?_
 refine Ci hF (fun hb32 hF => ?_) (fun hb32 hF => ?_)
 · iterate 3 refine au ?_
   refine C_val (V_build ty108.h rfl (vs := [(.int .i64 (k5 : Int)), (.int .i64 r18)]) (.cons (.tmp rfl rfl) (.cons (.tmp rfl rfl) .nil)) (cells := [(.int .i64 (k5 : Int)), (.int .i64 r18)]) rfl) ?_
   refine As (.agg [(.int .i64 (k5 : Int)), (.int .i64 r18)].toArray) ?_
   iterate 3 refine au ?_
   cases hF
   exact End_ret () (.cellA rfl rfl .h rfl ag108.h ty108.h.sz rfl rfl (.tmp rfl rfl .nil)) rfl (.sel .nil)
 iterate 5 refine au ?_
 rw [wk k5]
 exact ⟨_, Nat.lt_succ_self _, _, k5 + 1, rest6, rfl, eqA, hd11, entA, hF⟩
def i_greedyWhere_igreedy1_L1 (a_l : List Method) (a_atoms : List Atom) : Nat → (List Step) → (List Bool) → (List Int) → Int → Int → Bool → Option ((List Step) × (List Bool))
 | 0, _, _, _, _, _, _ => none
 | m69 + 1, c57, c60, c62, c66, c67, c68 => if c68 then (
     (chk (decide (0 ≤ c66) && decide (c66 < (c60.length : Int)))).bind fun u80 =>
     (some (c60.set (c66).toNat true)).bind fun z82 =>
     (ix a_atoms c66).bind fun x85 =>
     (app c62 x85.Terms).bind fun z92 =>
     (app c57 ([({ Atom := c66, Method := c67 } : Step)] : List Step)).bind fun z96 =>
     (i_greedyWhere_1 a_atoms a_l z92 z82).bind fun r100 =>
     i_greedyWhere_igreedy1_L1 a_l a_atoms m69 z96 z82 z92 r100.1.Atom r100.1.Method r100.2)
   else (
     some (c57, c60))
def i_greedyWhere_igreedy1 (fuel : Nat) (a_l : List Method) (a_atoms : List Atom) : Option ((List Step) × (List Bool)) :=
 (mkz (a_atoms.length : Int) (false : Bool)).bind fun z5 =>
 (i_greedyWhere_1 a_atoms a_l ([] : List Int) z5).bind fun r12 =>
 i_greedyWhere_igreedy1_L1 a_l a_atoms fuel ([] : List Step) z5 ([] : List Int) r12.1.Atom r12.1.Method r12.2
theorem i_greedyWhere_igreedy1_ok (fuel : Nat) (a_l : List Method) (v0_0 : Sv) (a_atoms : List Atom) (v1_0 : Sv) (R : (List Step) × (List Bool)) (hF : i_greedyWhere_igreedy1 fuel a_l a_atoms = some R) :
   Fw.Spec Tryz.prog 164 [v0_0.v, v1_0.v, (.func (.func 165) [].toArray [].toArray)] [crd (RdS 65 rd65) v0_0.v a_l, crd (RdS 84 rd84) v1_0.v a_atoms] (fun p : Sv × List Nat × Sv × List Nat => (.tuple [p.1.v, p.2.2.1.v].toArray)) (fun p => [cown (OwnS 108 (roE rd108)) p.2.1 p.1.v R.1, cown (OwnS 4 (roE rdBool)) p.2.2.2 p.2.2.1.v R.2]) := by
 refine Se 50 Tryz.func164 [.tmp 6, .tmp 7] ?_
 intro H0 F0
 unfold i_greedyWhere_igreedy1 at hF
 refine au ?_
 refine AbR (fun k1 => ?_)
 refine AbR (fun k2 => ?_)
 refine AbR (fun k3 => ?_)
 iterate 4 refine au ?_
 refine C_new rfl (N_buildSliceT (g := true) sl104.h ty108.h .nil (vs := []) rfl rfl rfl (by simp)) (fun k4 => ?_)
 refine Cv1 (.cons .h .nil) (own_lit (Ro := (roE rd108)) (E := 108) (F := []) (xs := ([] : List Step)) MkL_nil rfl rfl) ?_
 iterate 5 refine au ?_
 refine bnd hF fun z5 hx6 hF => ?_
 have hm7 := mkz_some hx6
 refine C_new rfl (N_makeSlice (g := true) (c := (a_atoms.length : Int)) sl149.h ty4.h rfl rfl (by decide) (.tmp rfl rfl) hm7.2.1 hm7.2.2) (fun k8 => ?_)
 refine Cv1 (.cons .h .nil) (own_make (Ro := (roE rdBool)) (E := 4) (a := (false : Bool)) hx6 (fun _ => ⟨rfl, rfl⟩)) ?_
 refine AnW (fun k9 => ?_)
 refine As (.slice (some ⟨k8, 0, none⟩) (a_atoms.length : Int).toNat 1) ?_
 iterate 2 refine au ?_
 refine C_new rfl (N_buildSliceT (g := true) sl22.h ty3.h .nil (vs := []) rfl rfl rfl (by simp)) (fun k10 => ?_)
 refine Cv1 (.cons .h .nil) (own_lit (Ro := (roE rdInt)) (E := 3) (F := []) (xs := ([] : List Int)) MkL_nil rfl rfl) ?_
 refine AnW (fun k11 => ?_)
 refine As (.slice (some ⟨k10, 0, none⟩) 0 1) ?_
 iterate 2 refine au ?_
 refine C_val (V_makeFunc (fn := .func 191) (vs := []) (us := [(pz k2), (pz k1), (pz k11), (pz k3), (pz k9)]) .nil (.cons (.tmp rfl rfl) (.cons (.tmp rfl rfl) (.cons (.tmp rfl rfl) (.cons (.tmp rfl rfl) (.cons (.tmp rfl rfl) .nil)))))) ?_
 iterate 5 refine au ?_
 refine bnd hF fun r12 hx13 hF => C_x4 (.cons (.t (.t (.t .h))) (.cons (.t (.t .h)) (.cons (.t .h) (.cons .h (.rd (.t (.t .h)) rfl (.rd (.t (.t (.t (.t (.t .h))))) rfl (.rd (.t (.t (.t .h))) rfl (.rd (.t (.t (.t (.t .h)))) rfl (.rd (.t .h) rfl .nil))))))))) (XC_borL (pre := _) (.cons frz_own (.cons frz_blk (.cons frz_own (.cons frz_blk .nil)))) (fun _ => .nil) (XC_pre (.rd (.t (.t (.t (.t .h)))) rfl (.rd (.t (.t (.t (.t (.t .h))))) rfl (.rd (.t (.t (.t (.t (.t (.t .h)))))) rfl (.rd (.t (.t (.t (.t (.t (.t (.t .h))))))) rfl (.rd .h rfl (.rd (.t .h) rfl (.rd (.t (.t (.t (.t (.t (.t (.t (.t .h)))))))) rfl (.rd (.t (.t .h)) rfl (.rd (.t (.t (.t .h))) rfl .nil))))))))) (X_callCS cf191.h (.tmp rfl rfl) .nil (i_greedyWhere_1_ok k2 a_atoms v1_0 k1 a_l v0_0 k11 ([] : List Int) (⟨(some ⟨k10, 0, none⟩), 0, 1⟩) k3 k9 z5 (⟨(some ⟨k8, 0, none⟩), (a_atoms.length : Int).toNat, 1⟩) _ hx13)))) (fun _ => ?_)
 refine au ?_
 refine C_val (V_extract (l := [(.agg [(.int .i64 r12.1.Atom), (.int .i64 r12.1.Method)].toArray), (.bool r12.2)]) (v := (.agg [(.int .i64 r12.1.Atom), (.int .i64 r12.1.Method)].toArray)) (.tmp rfl rfl) rfl) ?_
 refine C_val (V_extract (l := [(.agg [(.int .i64 r12.1.Atom), (.int .i64 r12.1.Method)].toArray), (.bool r12.2)]) (v := (.bool r12.2)) (.tmp rfl rfl) rfl) ?_
 refine AnW (fun k15 => ?_)
 refine As (.agg [(.int .i64 r12.1.Atom), (.int .i64 r12.1.Method)].toArray) ?_
 iterate 2 refine au ?_
 refine CW_block (CW_loop (m := fuel) (fun m69 f' cs' => ∃ (g : Fr) (c57 : List Step) (c60 : List Bool) (c62 : List Int) (c66 : Int) (c67 : Int) (c68 : Bool) (v58 : Sv) (F59 : List Nat) (F61 : List Nat) (v63 : Sv) (F64 : List Nat) (k65 : Nat), f' = updL g [(4, (pz k2)), (8, v58.v), (9, (pz k9)), (10, (pz k11)), (11, (.func (.func 191) [].toArray [(pz k2), (pz k1), (pz k11), (pz k3), (pz k9)].toArray)), (12, (pz k65)), (13, (.bool c68))] ∧ Ent cs' [cboR k2 37 v1_0.v, crd (RdS 84 rd84) v1_0.v a_atoms, cown (OwnS 108 (roE rd108)) F59 v58.v c57, cbox k9 149 (.slice (some ⟨k8, 0, none⟩) (a_atoms.length : Int).toNat 1), cown (OwnS 4 (roE rdBool)) F61 (.slice (some ⟨k8, 0, none⟩) (a_atoms.length : Int).toNat 1) c60, cbox k11 22 v63.v, cown (OwnS 3 (roE rdInt)) F64 v63.v c62, cboR k1 35 v0_0.v, crd (RdS 65 rd65) v0_0.v a_l, cboR k3 170 (.func (.func 165) [].toArray [].toArray), cbox k65 108 (.agg [(.int .i64 c66), (.int .i64 c67)].toArray)] ∧ i_greedyWhere_igreedy1_L1 a_l a_atoms m69 c57 c60 c62 c66 c67 c68 = some R) ⟨_, _, _, _, _, _, _, ⟨(some ⟨k4, 0, none⟩), 0, 1⟩, (k4 :: []), [k8], ⟨(some ⟨k10, 0, none⟩), 0, 1⟩, (k10 :: []), k15, eqA, entA, hF⟩ ?_)
 rintro m69 _ _ ⟨g70, c57, c60, c62, c66, c67, c68, v58, F59, F61, v63, F64, k65, rfl, hE, hF⟩
 refine K_ent hE ?_
 rcases m69 with _ | m69
 · rw [i_greedyWhere_igreedy1_L1] at hF
   exact absurd hF (by simp)
 rw [i_greedyWhere_igreedy1_L1] at hF
 iterate 4 refine au ?_
 refine Ci hF (fun hb103 hF => ?_) (fun hb103 hF => ?_)
 · iterate 6 refine au ?_
   refine bnd hF fun u80 hx81 hF => ?_
   have hi79 := chk_some hx81
   refine C_idxO sl149.h ty4.h.sz (.tmp rfl rfl) (.tmp rfl rfl) (.t (.t (.t (.t .h)))) hi79 (fun k77 hk78 => ?_)
   refine bnd hF fun z82 hx83 hF => ?_
   replace hx83 := Option.some.inj hx83
   refine C_x1 (.cons (.t (.t (.t (.t .h)))) .nil) (X_storeO (Ro := (roE rdBool)) (a := true) (i := c66) ty4.h.sz rfl (.tmp rfl rfl) (.bool _) hk78 hi79 (Mk_pure (fun _ => rfl)) (fun _ _ _ _ h => by obtain ⟨-, h⟩ := h; cases h; rfl)) (fun F84 => ?_)
   rw [hx83]
   refine au ?_
   refine K_draw [0, 1, 2, 3, 4, 5, 6, 7, 8] [0, 0, 0, 4, 14, 30, 62, 127, 255] [7, 8] mixed (by decide +kernel) ?_
   refine D_atO rfl .no (.t (.t (.t (.t (.t .h))))) (fun ha hp => V_load (v := v63.v) ag22.h (EN ha (.tmp rfl rfl) rfl) hp.2 rfl rfl) ?_
   iterate 2 refine du ?_
   refine D_atO rfl .no (.t (.t (.t (.t (.t (.t (.t (.t (.t (.t .h)))))))))) (fun ha hp => V_load (v := (.int .i64 c66)) ag3.h (EN ha (.tmp rfl rfl) rfl) hp.2 rfl rfl) ?_
   refine bnd hF fun x85 hx86 hF => ?_
   obtain ⟨hp87, hx88⟩ := ix_some hx86
   refine Di hx88 (fun k89 j90 => ?_)
   refine du ?_
   refine D_ldV (R' := (RdS 3 rdInt)) ag22.h rfl .no (.tmp rfl rfl) rfl .h lv84_1 (fun w91 => ?_)
   refine bnd hF fun z92 hx93 hF => D_act1 rfl rfl .no (.cons (.t (.t (.t (.t (.t (.t (.t (.t .h)))))))) (.rd .h rfl .nil)) (.dep rfl (.dep rfl .nil)) (fun ha => X_appendO (Ro := (roE rdInt)) sl22.h ni22 ty3.h rfl rfl rfl (EN ha (.tmp rfl rfl) rfl) (EN ha (.tmp rfl rfl) rfl) hx93 src_rd) (fun p94 => ?_)
   refine D_act1 rfl rfl .no (.cons (.t (.t (.t (.t (.t (.t (.t (.t .h)))))))) .nil) (.dep rfl (.dep rfl .nil)) (fun ha => X_storeB (e' := p94.1.v) ty22.h.sz (EN ha (.tmp rfl rfl) rfl) (EN ha (.tmp rfl rfl) rfl) rfl rfl rfl rfl rfl) (fun _ => ?_)
   refine du ?_
   iterate 3 refine au ?_
   refine C_new rfl (N_buildSliceT (g := true) sl104.h ty108.h (.cons (.tmp rfl rfl) .nil) (vs := [(.agg [(.int .i64 c66), (.int .i64 c67)].toArray)]) rfl rfl rfl (by intro v hv; simp at hv; rcases hv with rfl <;> rfl)) (fun k95 => ?_)
   refine Cv1 (.cons .h .nil) (own_lit (Ro := (roE rd108)) (E := 108) (F := ([] ++ [])) (xs := ([({ Atom := c66, Method := c67 } : Step)] : List Step)) (MkL_cons (Mk_pure (fun _ => rfl)) MkL_nil apps) rfl rfl) ?_
   refine bnd hF fun z96 hx97 hF => C_x1 (.cons (.t (.t (.t (.t (.t (.t (.t (.t .h)))))))) (.cons .h .nil)) (X_appendO (Ro := (roE rd108)) sl104.h ni104 ty108.h rfl rfl rfl (.tmp rfl rfl) (.tmp rfl rfl) hx97 src_own) (fun p98 => ?_)
   iterate 7 refine au ?_
   refine AnW (fun k99 => ?_)
   refine As (.agg [(.int .i64 c66), (.int .i64 c67)].toArray) ?_
   iterate 3 refine au ?_
   refine bnd hF fun r100 hx101 hF => C_x4 (.cons (.t (.t (.t (.t (.t (.t .h)))))) (.cons (.t (.t (.t (.t (.t (.t (.t (.t .h)))))))) (.cons (.t (.t (.t .h))) (.cons (.t (.t .h)) (.rd (.t (.t (.t (.t .h)))) rfl (.rd (.t (.t (.t (.t (.t .h))))) rfl (.rd (.t (.t (.t (.t (.t (.t .h)))))) rfl (.rd (.t (.t (.t (.t (.t (.t (.t .h))))))) rfl (.rd (.t (.t (.t (.t (.t (.t (.t (.t .h)))))))) rfl .nil))))))))) (XC_borL (pre := _) (.cons frz_own (.cons frz_blk (.cons frz_own (.cons frz_blk .nil)))) (fun _ => .nil) (XC_pre (.rd (.t (.t (.t (.t .h)))) rfl (.rd (.t (.t (.t (.t (.t .h))))) rfl (.rd (.t (.t (.t (.t (.t (.t .h)))))) rfl (.rd (.t (.t (.t (.t (.t (.t (.t .h))))))) rfl (.rd .h rfl (.rd (.t .h) rfl (.rd (.t (.t (.t (.t (.t (.t (.t (.t .h)))))))) rfl (.rd (.t (.t .h)) rfl (.rd (.t (.t (.t .h))) rfl .nil))))))))) (X_callCS cf191.h (.tmp rfl rfl) .nil (i_greedyWhere_1_ok k2 a_atoms v1_0 k1 a_l v0_0 k11 z92 p94.1 k3 k9 z82 (⟨(some ⟨k8, 0, none⟩), (a_atoms.length : Int).toNat, 1⟩) _ hx101)))) (fun _ => ?_)
   refine au ?_
   refine C_val (V_extract (l := [(.agg [(.int .i64 r100.1.Atom), (.int .i64 r100.1.Method)].toArray), (.bool r100.2)]) (v := (.agg [(.int .i64 r100.1.Atom), (.int .i64 r100.1.Method)].toArray)) (.tmp rfl rfl) rfl) ?_
   refine C_val (V_extract (l := [(.agg [(.int .i64 r100.1.Atom), (.int .i64 r100.1.Method)].toArray), (.bool r100.2)]) (v := (.bool r100.2)) (.tmp rfl rfl) rfl) ?_
   refine As (.agg [(.int .i64 r100.1.Atom), (.int .i64 r100.1.Method)].toArray) ?_
   iterate 2 refine au ?_
   exact ⟨m69, Nat.lt_succ_self _, _, _, _, _, _, _, _, p98.1, p98.2, F84, p94.1, p94.2, k99, eqA, entA, hF⟩
 iterate 4 refine au ?_
 refine K_draw [0, 1, 2, 3] [0, 0, 1, 7] [] mixed (by decide +kernel) ?_
 refine du ?_
 refine D_atO rfl .no (.t (.t (.t .h))) (fun ha hp => V_load (v := (.slice (some ⟨k8, 0, none⟩) (a_atoms.length : Int).toNat 1)) ag149.h (EN ha (.tmp rfl rfl) rfl) hp.2 rfl rfl) ?_
 iterate 3 refine du ?_
 refine au ?_
 cases hF
 exact Er (v58, F59, ⟨(some ⟨k8, 0, none⟩), (a_atoms.length : Int).toNat, 1⟩, F61)
def i_greedy (fuel : Nat) (a_l : List Method) (a_atoms : List Atom) : Option ((List Step) × (List Bool)) :=
 (i_greedyWhere_igreedy1 fuel a_l a_atoms).bind fun r1 =>
 some (r1.1, r1.2)
theorem i_greedy_ok (fuel : Nat) (a_l : List Method) (v0_0 : Sv) (a_atoms : List Atom) (v1_0 : Sv) (R : (List Step) × (List Bool)) (hF : i_greedy fuel a_l a_atoms = some R) :
   Fw.Spec Tryz.prog 131 [v0_0.v, v1_0.v] [crd (RdS 65 rd65) v0_0.v a_l, crd (RdS 84 rd84) v1_0.v a_atoms] (fun p : Sv × List Nat × Sv × List Nat => (.tuple [p.1.v, p.2.2.1.v].toArray)) (fun p => [cown (OwnS 108 (roE rd108)) p.2.1 p.1.v R.1, cown (OwnS 4 (roE rdBool)) p.2.2.2 p.2.2.1.v R.2]) := by
 refine Se 11 Tryz.func131 [.tmp 4, .tmp 5] ?_
 intro H0 F0
 unfold i_greedy at hF
 iterate 7 refine au ?_
 refine bnd hF fun r1 hx2 hF => Cx2 (i_greedyWhere_igreedy1_ok _ _ _ _ _ _ hx2) (fun p3 => ?_)
 refine C_val (V_extract (l := [p3.1.v, p3.2.2.1.v]) (v := p3.1.v) (.tmp rfl rfl) rfl) ?_
 refine C_val (V_extract (l := [p3.1.v, p3.2.2.1.v]) (v := p3.2.2.1.v) (.tmp rfl rfl) rfl) ?_
 iterate 4 refine au ?_
 cases hF
 exact Er (p3.1, p3.2.1, p3.2.2.1, p3.2.2.2)
end Go.Proofs.YtlfebfhfgfjceacGreat
