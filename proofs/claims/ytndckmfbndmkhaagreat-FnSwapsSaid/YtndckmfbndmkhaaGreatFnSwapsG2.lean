/-
  Functions of the program as Lean functions, and that the calls return what these say: part 3. No conditions.
-/
import Derived.Shelf.Sort.Plain
import Derived.Shelf.Slices.In.SortNone
import Derived.Shelf.Slices.CompactI
import Derived.Test.YtndckmfbndmkhaaGreatFnSwapsG1
import Derived.KernelRfl
set_option maxRecDepth 100000
set_option maxHeartbeats 1000000
set_option linter.unusedVariables false
namespace Go.Proofs.YtndckmfbndmkhaaGreat
open Go Go.Fw

def l_sameInts_L1 (a_b : List Int) : List Int → Nat → Option (Bool)
 | [], k4 => some true
 | x6 :: rest5, k4 => (ix a_b (k4 : Int)).bind fun x15 =>
   if ((x6 : Int) != x15) then (
     some false)
   else (
     l_sameInts_L1 a_b rest5 (k4 + 1))
def l_sameInts (a_a : List Int) (a_b : List Int) : Option (Bool) :=
 if (((a_a.length : Int) : Int) != (a_b.length : Int)) then (
   some false)
 else (
   l_sameInts_L1 a_b a_a 0)
theorem l_sameInts_ok (a_a : List Int) (v0_0 : Sv) (a_b : List Int) (v1_0 : Sv) (R : Bool) (hF : l_sameInts a_a a_b = some R) :
   Fw.Spec Tryz.prog 62 [v0_0.v, v1_0.v] [crd (RdS 3 rdInt) v0_0.v a_a, crd (RdS 3 rdInt) v1_0.v a_b] (fun _ : Unit => (.bool R)) (fun _ => []) := by
 refine Se 26 Tryz.func62 [.tmp 4] ?_
 intro H0 F0
 unfold l_sameInts at hF
 iterate 11 refine au ?_
 refine Ci hF (fun hb23 hF => ?_) (fun hb23 hF => ?_)
 · iterate 4 refine au ?_
   cases hF
   exact Er ()
 iterate 5 refine au ?_
 refine CW_block (CW_loop (m := a_a.length) (fun m2 f' cs' => ∃ (g : Fr) (k4 : Nat) (rest5 : List Int), m2 = rest5.length ∧ f' = updL g [(0, v0_0.v), (1, v1_0.v), (5, (.int .i64 (k4 : Int)))] ∧ List.drop k4 a_a = rest5 ∧ Ent cs' [crd (RdS 3 rdInt) v0_0.v a_a, crd (RdS 3 rdInt) v1_0.v a_b] ∧ l_sameInts_L1 a_b rest5 k4 = some R) ⟨_, 0, _, rfl, eqA, rfl, entA, hF⟩ ?_)
 rintro m2 _ _ ⟨g3, k4, rest5, rfl, rfl, hd7, hE, hF⟩
 refine Kb hE a_a (fun hbd12 => ?_)
 rcases rest5 with _ | ⟨x6, rest5⟩
 · have hk8 := dn hd7
   rw [l_sameInts_L1] at hF
   iterate 7 refine au ?_
   refine CdF ?_
   iterate 8 refine au ?_
   cases hF
   exact Er ()
 obtain ⟨hk8, hx9, hd10⟩ := drop_cons hd7
 rw [l_sameInts_L1] at hF
 iterate 7 refine au ?_
 refine CdT ?_
 iterate 2 refine au ?_
 refine K_draw [0, 1, 2, 3, 4, 5, 6, 7, 8] [0, 0, 3, 7, 0, 0, 48, 112, 255] [] mixed (by decide +kernel) ?_
 iterate 2 refine du ?_
 refine Di hx9 (fun k13 j14 => ?_)
 refine Dl ls3_0 ?_
 iterate 2 refine du ?_
 refine bnd hF fun x15 hx16 hF => ?_
 obtain ⟨hp17, hx18⟩ := ix_some hx16
 refine Di hx18 (fun k19 j20 => ?_)
 refine Dl ls3_0 ?_
 iterate 2 refine du ?_
 refine Ci hF (fun hb22 hF => ?_) (fun hb22 hF => ?_)
 · iterate 4 refine au ?_
   cases hF
   exact Er ()
 iterate 6 refine au ?_
 rw [wk k4]
 exact ⟨_, Nat.lt_succ_self _, _, k4 + 1, rest5, rfl, eqA, hd10, entA, hF⟩
def l_within_L2 (x6 : List Int) : List (List Int) → Nat → Bool → Option (Sum (Bool) (Unit))
 | [], k19, c15 => if (!c15) then (
     some (.inl false))
   else (
     some (.inr ()))
 | x21 :: rest20, k19, c15 => (bif c15 then (some true)
     else ((l_sameInts x6 x21).bind fun r38 =>
       some r38)).bind fun o29 =>
   match o29 with
   | c41 => l_within_L2 x6 rest20 (k19 + 1) c41
def l_within_L1 (a_b : List (List Int)) : List (List Int) → Nat → Option (Bool)
 | [], k4 => some true
 | x6 :: rest5, k4 => ((l_within_L2 x6 a_b 0 false) : Option (Sum (Bool) (Unit))).bind fun o13 =>
   match o13 with
   | .inl r => some r
   | .inr _ => l_within_L1 a_b rest5 (k4 + 1)
def l_within (a_a : List (List Int)) (a_b : List (List Int)) : Option (Bool) :=
 l_within_L1 a_b a_a 0
theorem l_within_ok (a_a : List (List Int)) (v0_0 : Sv) (a_b : List (List Int)) (v1_0 : Sv) (R : Bool) (hF : l_within a_a a_b = some R) :
   Fw.Spec Tryz.prog 18 [v0_0.v, v1_0.v] [crd (RdS 24 (RdS 3 rdInt)) v0_0.v a_a, crd (RdS 24 (RdS 3 rdInt)) v1_0.v a_b] (fun _ : Unit => (.bool R)) (fun _ => []) := by
 refine Se 34 Tryz.func18 [.tmp 4] ?_
 intro H0 F0
 unfold l_within at hF
 iterate 7 refine au ?_
 refine CW_block (CW_loop (m := a_a.length) (fun m2 f' cs' => ∃ (g : Fr) (k4 : Nat) (rest5 : List (List Int)), m2 = rest5.length ∧ f' = updL g [(0, v0_0.v), (1, v1_0.v), (5, (.int .i64 (k4 : Int)))] ∧ List.drop k4 a_a = rest5 ∧ Ent cs' [crd (RdS 24 (RdS 3 rdInt)) v0_0.v a_a, crd (RdS 24 (RdS 3 rdInt)) v1_0.v a_b] ∧ l_within_L1 a_b rest5 k4 = some R) ⟨_, 0, _, rfl, eqA, rfl, entA, hF⟩ ?_)
 rintro m2 _ _ ⟨g3, k4, rest5, rfl, rfl, hd7, hE, hF⟩
 refine Kb hE a_a (fun hbd12 => ?_)
 rcases rest5 with _ | ⟨x6, rest5⟩
 · have hk8 := dn hd7
   rw [l_within_L1] at hF
   iterate 7 refine au ?_
   refine CdF ?_
   iterate 8 refine au ?_
   cases hF
   exact Er ()
 obtain ⟨hk8, hx9, hd10⟩ := drop_cons hd7
 rw [l_within_L1] at hF
 iterate 7 refine au ?_
 refine CdT ?_
 refine au ?_
 obtain ⟨o13, hio13, hO14⟩ := bind_some hF
 refine K_cut (fun f' cs' => ∃ (g : Fr), o13 = .inr () ∧ f' = updL g [(0, v0_0.v), (1, v1_0.v), (5, (.int .i64 (k4 : Int)))] ∧ Ent cs' [crd (RdS 24 (RdS 3 rdInt)) v0_0.v a_a, crd (RdS 24 (RdS 3 rdInt)) v1_0.v a_b]) ?_ ?_
 · replace hF := hio13
   refine CW_block (K_region (C_val (V_assign (v := (.bool false)) (.bool _)) ?_))
   iterate 5 refine au ?_
   refine CW_block (CW_loop (m := a_b.length) (fun m17 f' cs' => ∃ (g : Fr) (k19 : Nat) (rest20 : List (List Int)) (c15 : Bool), m17 = rest20.length ∧ f' = updL g [(0, v0_0.v), (1, v1_0.v), (5, (.int .i64 (k4 : Int))), (6, (.bool c15)), (7, (.int .i64 (k19 : Int)))] ∧ List.drop k19 a_b = rest20 ∧ Ent cs' [crd (RdS 24 (RdS 3 rdInt)) v0_0.v a_a, crd (RdS 24 (RdS 3 rdInt)) v1_0.v a_b] ∧ l_within_L2 x6 rest20 k19 c15 = some o13) ⟨_, 0, _, _, rfl, eqA, rfl, entA, hF⟩ ?_)
   rintro m17 _ _ ⟨g18, k19, rest20, c15, rfl, rfl, hd22, hE, hF⟩
   refine Kb hE a_b (fun hbd27 => ?_)
   rcases rest20 with _ | ⟨x21, rest20⟩
   · have hk23 := dn hd22
     rw [l_within_L2] at hF
     iterate 7 refine au ?_
     refine CdF ?_
     iterate 8 refine au ?_
     refine Ci hF (fun hb28 hF => ?_) (fun hb28 hF => ?_)
     · iterate 4 refine au ?_
       cases hF
       replace hF := hO14
       try dsimp only at hF
       cases hF
       exact Er ()
     refine au ?_
     cases hF
     exact ⟨_, rfl, eqA, entA⟩
   obtain ⟨hk23, hx24, hd25⟩ := drop_cons hd22
   rw [l_within_L2] at hF
   iterate 7 refine au ?_
   refine CdT ?_
   iterate 2 refine au ?_
   obtain ⟨o29, hio29, hO30⟩ := bind_some hF
   refine CW_draw [0, 1, 2, 3, 4, 5, 6, 7, 8, 9, 10, 11, 12] [0, 1, 3, 3, 15, 31, 3, 3, 195, 451, 1023, 2047, 4095] [10] mixed (by decide +kernel) ?_
   refine D_cut (fun f' cs' => ∃ (c41 : Bool) (g : Fr), c41 = o29 ∧ f' = updL g [(0, v0_0.v), (1, v1_0.v), (5, (.int .i64 (k4 : Int))), (6, (.bool c41)), (7, (.int .i64 (k19 : Int)))] ∧ Ent cs' [crd (RdS 24 (RdS 3 rdInt)) v0_0.v a_a, crd (RdS 24 (RdS 3 rdInt)) v1_0.v a_b]) ?_ ?_
   · replace hF := hio29
     iterate 2 refine du ?_
     rcases Bool.eq_false_or_eq_true c15 with hg31 | hg31
     · rw [hg31]
       try rw [hg31] at hF; dsimp only [cond_true, cond_false] at hF
       iterate 12 refine du ?_
       cases hF
       exact ⟨_, _, rfl, eqA, entA⟩
     rw [hg31]
     try rw [hg31] at hF; dsimp only [cond_true, cond_false] at hF
     iterate 2 refine du ?_
     refine Di hx9 (fun k32 j33 => ?_)
     refine D_ldV (R' := (RdS 3 rdInt)) ag24.h rfl (.on 21 rfl rfl rfl) (.tmp rfl rfl) rfl .h lv24_0 (fun w34 => ?_)
     iterate 2 refine du ?_
     refine Di hx24 (fun k35 j36 => ?_)
     refine D_ldV (R' := (RdS 3 rdInt)) ag24.h rfl (.on 21 rfl rfl rfl) (.tmp rfl rfl) rfl .h lv24_0 (fun w37 => ?_)
     refine bnd hF fun r38 hx39 hF => Dx0 (l_sameInts_ok _ _ _ _ _ hx39) (fun _ => ?_)
     iterate 3 refine du ?_
     cases hF
     exact ⟨_, _, rfl, eqA, entA⟩
   rintro _ _ ⟨c41, g43, rfl, rfl, hE⟩
   replace hF := hO30
   try dsimp only at hF
   refine K_ent hE ?_
   iterate 5 refine au ?_
   rw [wk k19]
   exact ⟨_, Nat.lt_succ_self _, _, k19 + 1, rest20, _, rfl, eqA, hd25, entA, hF⟩
 rintro _ _ ⟨g45, rfl, rfl, hE⟩
 replace hF := hO14
 try dsimp only at hF
 refine K_ent hE ?_
 iterate 5 refine au ?_
 rw [wk k4]
 exact ⟨_, Nat.lt_succ_self _, _, k4 + 1, rest5, rfl, eqA, hd10, entA, hF⟩
def l_FnSwaps_L3 (r8 : Int) (r11 : Int) (r71 : (List (List Int))) (x262 : List Int) : Nat → (List Int) → Int → Option (Sum (Bool) (Unit))
 | 0, _, _ => none
 | m276 + 1, c272, c275 => if (decide ((c275 : Int) < (x262.length : Int))) then (
     ((ix x262 c275).bind fun x292 =>
       (ix x262 c275).bind fun x301 =>
       if ((x301 : Int) == (Int.tmod r8 5)) then (
         (app c272 ([(Int.tmod r11 5)] : List Int)).bind fun z308 =>
         some z308)
       else (
         (ix x262 c275).bind fun x314 =>
         if ((x314 : Int) == (Int.tmod r11 5)) then (
           (app c272 ([(Int.tmod r8 5)] : List Int)).bind fun z321 =>
           some z321)
         else (
           (app c272 ([x292] : List Int)).bind fun z325 =>
           some z325))).bind fun o287 =>
     match o287 with
     | c330 => l_FnSwaps_L3 r8 r11 r71 x262 m276 c330 (IntKind.i64.wrap (c275 + 1)))
   else (
     (l_within ([c272] : List (List Int)) r71).bind fun r335 =>
     if (!r335) then (
       some (.inl false))
     else (
       some (.inr ())))
def l_FnSwaps_L1 (r8 : Int) (r11 : Int) (r71 : (List (List Int))) : List (List Int) → Nat → Option (Bool)
 | [], k260 => some true
 | x262 :: rest261, k260 => ((l_FnSwaps_L3 r8 r11 r71 x262 (((x262.length : Int) - 0).toNat + 2) ([] : List Int) 0) : Option (Sum (Bool) (Unit))).bind fun o269 =>
   match o269 with
   | .inl r => some r
   | .inr _ => l_FnSwaps_L1 r8 r11 r71 rest261 (k260 + 1)
def l_FnSwaps (fuel : Nat) (a_code : List UInt8) : Option (Bool) :=
 (l_big a_code).bind fun r1 =>
 if r1 then (
   some true)
 else (
   (s_DrawAnswersOf fuel a_code).bind fun r4 =>
   (l_at a_code 1).bind fun r8 =>
   (l_at a_code 2).bind fun r11 =>
   (i_SwapFacts r4.2.2 (Int.tmod r8 5) (Int.tmod r11 5)).bind fun r14 =>
   (i_SwapValue r4.2.1 (Int.tmod r8 5) (Int.tmod r11 5)).bind fun r17 =>
   ((s_SwapFacts r4.2.2 (Int.tmod r8 5) (Int.tmod r11 5)).bind fun r37 =>
     (s_SameFacts r14 r37).bind fun r40 =>
     bif (!r40) then (some true)
     else ((s_SwapValue fuel r4.2.1 (Int.tmod r8 5) (Int.tmod r11 5)).bind fun r44 =>
       (s_SameQueries r17 r44).bind fun r47 =>
       bif (!r47) then (some true)
       else ((i_SwapValue r17 (Int.tmod r8 5) (Int.tmod r11 5)).bind fun r51 =>
         (s_SameQueries r51 r4.2.1).bind fun r54 =>
         some (!r54)))).bind fun o35 =>
   match o35 with
   | c57 => if c57 then (
       some false)
     else (
       ((s_IsQuery r4.1 r4.2.1).bind fun r60 =>
         bif r60 then ((s_AreFacts r4.1 r4.2.2).bind fun r64 =>
           some r64)
         else (some false)).bind fun o58 =>
       match o58 with
       | c67 => if c67 then (
           (s_AnswersOf r4.1 r4.2.1 r4.2.2).bind fun r68 =>
           (i_AnswersOf r4.1 r17 r14).bind fun r71 =>
           (bif (((r68.length : Int) : Int) != (r71.length : Int)) then (some true)
             else ((i_SwapFacts r14 (Int.tmod r8 5) (Int.tmod r11 5)).bind fun r77 =>
               (s_SameFacts r77 r4.2.2).bind fun r80 =>
               some (!r80))).bind fun o74 =>
           match o74 with
           | c83 => if c83 then (
               some false)
             else (
               l_FnSwaps_L1 r8 r11 r71 r68 0))
         else (
           some true)))
theorem l_FnSwaps_ok (fuel : Nat) (a_code : List UInt8) (v0_0 : Sv) (R : Bool) (hF : l_FnSwaps fuel a_code = some R) :
   Fw.Spec Tryz.prog 3 [v0_0.v] [crd (RdS 5 rdU8) v0_0.v a_code] (fun _ : Unit => (.bool R)) (fun _ => []) := by
 refine Se 145 Tryz.func3 [.tmp 2] ?_
 intro H0 F0
 unfold l_FnSwaps at hF
 iterate 6 refine au ?_
 refine bnd hF fun r1 hx2 hF => Cx0 (l_big_ok _ _ _ hx2) (fun _ => ?_)
 refine au ?_
 refine Ci hF (fun hb348 hF => ?_) (fun hb348 hF => ?_)
 · iterate 4 refine au ?_
   cases hF
   exact Er ()
 iterate 3 refine au ?_
 refine bnd hF fun r4 hx5 hF => Cx4 (s_DrawAnswersOf_ok _ _ _ _ hx5) (fun p6 => ?_)
 refine au ?_
 refine C_val (V_extract (l := [p6.1.v, (.agg [p6.2.2.1.v, p6.2.2.2.2.1.v].toArray), p6.2.2.2.2.2.2.1.v]) (v := p6.1.v) (.tmp rfl rfl) rfl) ?_
 refine C_val (V_extract (l := [p6.1.v, (.agg [p6.2.2.1.v, p6.2.2.2.2.1.v].toArray), p6.2.2.2.2.2.2.1.v]) (v := (.agg [p6.2.2.1.v, p6.2.2.2.2.1.v].toArray)) (.tmp rfl rfl) rfl) ?_
 refine C_val (V_extract (l := [p6.1.v, (.agg [p6.2.2.1.v, p6.2.2.2.2.1.v].toArray), p6.2.2.2.2.2.2.1.v]) (v := p6.2.2.2.2.2.2.1.v) (.tmp rfl rfl) rfl) ?_
 refine AnW (fun k7 => ?_)
 refine au ?_
 refine As (.agg [p6.2.2.1.v, p6.2.2.2.2.1.v].toArray) ?_
 iterate 4 refine au ?_
 refine bnd hF fun r8 hx9 hF => Cx0 (l_at_ok _ _ _ _ hx9) (fun _ => ?_)
 refine C_val (V_rem (i := r8) (j := 5) (.tmp rfl rfl) (.int _ _) (by decide)) ?_
 iterate 4 refine au ?_
 refine bnd hF fun r11 hx12 hF => Cx0 (l_at_ok _ _ _ _ hx12) (fun _ => ?_)
 refine C_val (V_rem (i := r11) (j := 5) (.tmp rfl rfl) (.int _ _) (by decide)) ?_
 iterate 6 refine au ?_
 refine bnd hF fun r14 hx15 hF => C_x2 (.cons (.t (.t (.t (.t .h)))) .nil) (XC_bor frz_own (fun _ => (.cons .nil)) (X_callS cf8.h (.cons (.tmp rfl rfl) (.cons (.tmp rfl rfl) (.cons (.tmp rfl rfl) .nil))) (i_SwapFacts_ok r4.2.2 p6.2.2.2.2.2.2.1 (Int.tmod r8 5) (Int.tmod r11 5) _ hx15))) (fun p16 => ?_)
 iterate 2 refine au ?_
 refine K_frz (.t (.t (.t (.t .h)))) frz_own ?_
 refine K_frz (.t (.t (.t (.t (.t .h))))) frz_own ?_
 iterate 4 refine au ?_
 refine bnd hF fun r17 hx18 hF => Cx2 (i_SwapValue_ok _ _ _ _ _ _ hx18) (fun p19 => ?_)
 refine AnW (fun k20 => ?_)
 refine As (.agg [p19.1.v, p19.2.2.v].toArray) ?_
 iterate 2 refine au ?_
 refine K_frz (.t .h) frz_own ?_
 obtain ⟨o35, hio35, hO36⟩ := bind_some hF
 refine K_draw [0, 1, 2, 3, 4, 5, 6, 7, 8, 9, 10, 11, 12, 13, 14, 15, 16, 17, 18, 19, 21, 20, 22, 23, 24] [0, 0, 0, 0, 14, 31, 63, 127, 255, 255, 255, 255, 3839, 8191, 16383, 32767, 65535, 131071, 131071, 131071, 1048575, 131071, 4194303, 8388607, 16777215] [4, 5, 12, 13, 20, 22] mixed (by decide +kernel) ?_
 refine D_cut (fun f' cs' => ∃ (c57 : Bool) (g : Fr), c57 = o35 ∧ f' = updL g [(3, p6.1.v), (4, (pz k7)), (5, p6.2.2.2.2.2.2.1.v), (6, (.int .i64 (Int.tmod r8 5))), (7, (.int .i64 (Int.tmod r11 5))), (8, p16.1.v), (9, (pz k20)), (62, (.bool c57))] ∧ Ent cs' [cown (OwnS 3 (roE rdInt)) p6.2.1 p6.1.v r4.1, cbox k7 27 (.agg [p6.2.2.1.v, p6.2.2.2.2.1.v].toArray), crd (RdS 3 rdInt) p6.2.2.1.v r4.2.1.Head, crd (RdS 78 rd78) p6.2.2.2.2.1.v r4.2.1.Atoms, cown (OwnS 58 ow58) p6.2.2.2.2.2.2.2 p6.2.2.2.2.2.2.1.v r4.2.2, cown (OwnS 58 ow58) p16.2 p16.1.v r14, cbox k20 27 (.agg [p19.1.v, p19.2.2.v].toArray), crd (RdS 3 rdInt) p19.1.v r17.Head, crd (RdS 78 rd78) p19.2.2.v r17.Atoms]) ?_ ?_
 · replace hF := hio35
   iterate 4 refine du ?_
   refine bnd hF fun r37 hx38 hF => D_act2 rfl rfl .no (.cons (.t (.t (.t (.t (.t .h))))) .nil) .nil (fun ha => XC_bor frz_own (fun _ => (.cons .nil)) (X_callS cf11.h (.cons (EN ha (.tmp rfl rfl) rfl) (.cons (EN ha (.tmp rfl rfl) rfl) (.cons (EN ha (.tmp rfl rfl) rfl) .nil))) (s_SwapFacts_ok r4.2.2 p6.2.2.2.2.2.2.1 (Int.tmod r8 5) (Int.tmod r11 5) _ hx38))) (fun p39 => ?_)
   refine bnd hF fun r40 hx41 hF => D_act2 rfl rfl .no (.cons (.t .h) (.cons (.t (.t (.t (.t (.t (.t .h)))))) .nil)) .nil (fun ha => XC_borL (pre := []) (.cons frz_own (.cons frz_own .nil)) (fun _ => .nil) (X_callS cf10.h (.cons (EN ha (.tmp rfl rfl) rfl) (.cons (EN ha (.tmp rfl rfl) rfl) .nil)) (s_SameFacts_ok r14 p16.1 r37 p39.1 _ hx41))) (fun _ => ?_)
   iterate 2 refine du ?_
   rcases Bool.eq_false_or_eq_true (!r40) with hg43 | hg43
   · rw [hg43]
     try rw [hg43] at hF; dsimp only [cond_true, cond_false] at hF
     iterate 18 refine du ?_
     cases hF
     exact ⟨_, _, rfl, eqA, entA⟩
   rw [hg43]
   try rw [hg43] at hF; dsimp only [cond_true, cond_false] at hF
   refine D_atO rfl (.on 45 rfl rfl rfl) (.t (.t (.t (.t .h)))) (fun ha hp => V_loadBox ag27.h ty27.h.sz rfl (EN ha (.tmp rfl rfl) rfl) hp.2 rfl) ?_
   refine D_atO rfl (.on 45 rfl rfl rfl) (.t (.t (.t (.t (.t (.t (.t (.t .h)))))))) (fun ha hp => V_loadBox ag27.h ty27.h.sz rfl (EN ha (.tmp rfl rfl) rfl) hp.2 rfl) ?_
   iterate 2 refine du ?_
   refine bnd hF fun r44 hx45 hF => D_act2 rfl rfl (.on 45 rfl rfl rfl) (.rd (.t (.t (.t (.t (.t (.t (.t .h))))))) rfl (.rd (.t (.t (.t (.t (.t (.t .h)))))) rfl .nil)) (.dep rfl (.own (.t (.t (.t (.t .h)))) (fun _ h => h) .nil)) (fun ha => X_callS cf13.h (.cons (EN ha (.tmp rfl rfl) rfl) (.cons (EN ha (.tmp rfl rfl) rfl) (.cons (EN ha (.tmp rfl rfl) rfl) .nil))) (s_SwapValue_ok fuel r4.2.1 p6.2.2.1 p6.2.2.2.2.1 (Int.tmod r8 5) (Int.tmod r11 5) _ hx45)) (fun p46 => ?_)
   refine bnd hF fun r47 hx48 hF => D_act2 rfl rfl (.on 45 rfl rfl rfl) (.cons (.t .h) (.cons .h (.rd (.t (.t (.t .h))) rfl (.rd (.t (.t (.t (.t (.t .h))))) rfl .nil)))) (.dep rfl (.dep rfl .nil)) (fun ha => XC_borL (pre := _) (.cons frz_own (.cons frz_own .nil)) (fun _ => .nil) (XC_pre (.rd (.t (.t .h)) rfl (.rd (.t (.t (.t .h))) rfl (.rd .h rfl (.rd (.t .h) rfl .nil)))) (X_callS cf12.h (.cons (EN ha (.tmp rfl rfl) rfl) (.cons (EN ha (.tmp rfl rfl) rfl) .nil)) (s_SameQueries_ok r17 p19.1 p19.2.2 r44 p46.1 p46.2.2.1 _ hx48)))) (fun _ => ?_)
   iterate 3 refine du ?_
   rcases Bool.eq_false_or_eq_true (!r47) with hg50 | hg50
   · rw [hg50]
     try rw [hg50] at hF; dsimp only [cond_true, cond_false] at hF
     iterate 9 refine du ?_
     cases hF
     exact ⟨_, _, rfl, eqA, entA⟩
   rw [hg50]
   try rw [hg50] at hF; dsimp only [cond_true, cond_false] at hF
   refine D_atO rfl (.on 54 rfl rfl rfl) (.t (.t (.t (.t (.t (.t .h)))))) (fun ha hp => V_loadBox ag27.h ty27.h.sz rfl (EN ha (.tmp rfl rfl) rfl) hp.2 rfl) ?_
   iterate 2 refine du ?_
   refine D_atO rfl (.on 54 rfl rfl rfl) (.t (.t (.t (.t (.t (.t (.t (.t (.t (.t .h)))))))))) (fun ha hp => V_loadBox ag27.h ty27.h.sz rfl (EN ha (.tmp rfl rfl) rfl) hp.2 rfl) ?_
   refine bnd hF fun r51 hx52 hF => D_act2 rfl rfl (.on 54 rfl rfl rfl) (.rd (.t (.t (.t (.t (.t .h))))) rfl (.rd (.t (.t (.t (.t (.t (.t (.t .h))))))) rfl .nil)) (.own (.t (.t (.t (.t (.t (.t (.t (.t (.t (.t .h)))))))))) (fun _ h => h) (.dep rfl (.dep rfl (.dep rfl .nil)))) (fun ha => X_callS cf9.h (.cons (EN ha (.tmp rfl rfl) rfl) (.cons (EN ha (.tmp rfl rfl) rfl) (.cons (EN ha (.tmp rfl rfl) rfl) .nil))) (i_SwapValue_ok r17 p19.1 p19.2.2 (Int.tmod r8 5) (Int.tmod r11 5) _ hx52)) (fun p53 => ?_)
   refine bnd hF fun r54 hx55 hF => D_act1 rfl rfl (.on 54 rfl rfl rfl) (.cons .h (.rd .h rfl (.rd (.t (.t (.t (.t (.t (.t (.t (.t (.t (.t .h)))))))))) rfl (.rd (.t (.t (.t (.t (.t (.t (.t (.t (.t .h))))))))) rfl .nil)))) (.dep rfl (.dep rfl (.dep rfl (.dep rfl .nil)))) (fun ha => XC_bor frz_own (fun _ => .nil) (X_callS cf12.h (.cons (EN ha (.tmp rfl rfl) rfl) (.cons (EN ha (.tmp rfl rfl) rfl) .nil)) (s_SameQueries_ok r51 p53.1 p53.2.2 r4.2.1 p6.2.2.1 p6.2.2.2.2.1 _ hx55))) (fun _ => ?_)
   iterate 3 refine du ?_
   cases hF
   exact ⟨_, _, rfl, eqA, entA⟩
 rintro _ _ ⟨c57, g347, rfl, rfl, hE⟩
 replace hF := hO36
 try dsimp only at hF
 refine K_ent hE ?_
 refine Ci hF (fun hb346 hF => ?_) (fun hb346 hF => ?_)
 · iterate 4 refine au ?_
   cases hF
   exact Er ()
 iterate 2 refine au ?_
 obtain ⟨o58, hio58, hO59⟩ := bind_some hF
 refine au ?_
 refine C_cut (fun f' cs' => ∃ (c67 : Bool) (g : Fr), c67 = o58 ∧ f' = updL g [(3, p6.1.v), (4, (pz k7)), (5, p6.2.2.2.2.2.2.1.v), (6, (.int .i64 (Int.tmod r8 5))), (7, (.int .i64 (Int.tmod r11 5))), (8, p16.1.v), (9, (pz k20)), (70, (.bool c67))] ∧ Ent cs' [cown (OwnS 3 (roE rdInt)) p6.2.1 p6.1.v r4.1, cbox k7 27 (.agg [p6.2.2.1.v, p6.2.2.2.2.1.v].toArray), crd (RdS 3 rdInt) p6.2.2.1.v r4.2.1.Head, crd (RdS 78 rd78) p6.2.2.2.2.1.v r4.2.1.Atoms, cown (OwnS 58 ow58) p6.2.2.2.2.2.2.2 p6.2.2.2.2.2.2.1.v r4.2.2, cown (OwnS 58 ow58) p16.2 p16.1.v r14, cbox k20 27 (.agg [p19.1.v, p19.2.2.v].toArray), crd (RdS 3 rdInt) p19.1.v r17.Head, crd (RdS 78 rd78) p19.2.2.v r17.Atoms]) ?_ ?_
 · replace hF := hio58
   iterate 2 refine au ?_
   refine bnd hF fun r60 hx61 hF => C_x1 (.cons .h (.rd (.t .h) rfl (.rd (.t (.t .h)) rfl .nil))) (XC_bor frz_own (fun _ => .nil) (X_callS cf14.h (.cons (.tmp rfl rfl) (.cons (.tmp rfl rfl) .nil)) (s_IsQuery_ok r4.1 p6.1 r4.2.1 p6.2.2.1 p6.2.2.2.2.1 _ hx61))) (fun _ => ?_)
   refine au ?_
   rcases Bool.eq_false_or_eq_true r60 with hg63 | hg63
   · rw [hg63]
     try rw [hg63] at hF; dsimp only [cond_true, cond_false] at hF
     iterate 5 refine au ?_
     refine bnd hF fun r64 hx65 hF => C_x2 (.cons (.t (.t (.t (.t .h)))) (.cons .h .nil)) (XC_borL (pre := []) (.cons frz_own (.cons frz_own .nil)) (fun _ => .nil) (X_callS cf15.h (.cons (.tmp rfl rfl) (.cons (.tmp rfl rfl) .nil)) (s_AreFacts_ok r4.1 p6.1 r4.2.2 p6.2.2.2.2.2.2.1 _ hx65))) (fun _ => ?_)
     iterate 2 refine au ?_
     cases hF
     exact ⟨_, _, rfl, eqA, entA⟩
   rw [hg63]
   try rw [hg63] at hF; dsimp only [cond_true, cond_false] at hF
   iterate 5 refine au ?_
   cases hF
   exact ⟨_, _, rfl, eqA, entA⟩
 rintro _ _ ⟨c67, g345, rfl, rfl, hE⟩
 replace hF := hO59
 try dsimp only at hF
 refine K_ent hE ?_
 refine Ci hF (fun hb344 hF => ?_) (fun hb344 hF => ?_)
 · iterate 4 refine au ?_
   refine bnd hF fun r68 hx69 hF => C_x3 (.cons (.t (.t (.t (.t .h)))) (.cons .h (.rd (.t .h) rfl (.rd (.t (.t .h)) rfl .nil)))) (XC_borL (pre := _) (.cons frz_own (.cons frz_own .nil)) (fun _ => (.cons .nil)) (XC_pre (.rd .h rfl (.rd (.t (.t .h)) rfl (.rd (.t (.t (.t .h))) rfl (.rd (.t .h) rfl .nil)))) (X_callS cf16.h (.cons (.tmp rfl rfl) (.cons (.tmp rfl rfl) (.cons (.tmp rfl rfl) .nil))) (s_AnswersOf_ok r4.1 p6.1 r4.2.1 p6.2.2.1 p6.2.2.2.2.1 r4.2.2 p6.2.2.2.2.2.2.1 _ hx69)))) (fun p70 => ?_)
   iterate 6 refine au ?_
   refine bnd hF fun r71 hx72 hF => C_x3 (.cons (.t (.t (.t (.t (.t (.t .h)))))) (.cons (.t .h) (.rd (.t (.t (.t (.t (.t (.t .h)))))) rfl (.rd (.t (.t (.t (.t (.t (.t (.t .h))))))) rfl .nil)))) (XC_borL (pre := _) (.cons frz_own (.cons frz_own .nil)) (fun _ => (.cons .nil)) (XC_pre (.rd .h rfl (.rd (.t (.t .h)) rfl (.rd (.t (.t (.t .h))) rfl (.rd (.t .h) rfl .nil)))) (X_callS cf17.h (.cons (.tmp rfl rfl) (.cons (.tmp rfl rfl) (.cons (.tmp rfl rfl) .nil))) (i_AnswersOf_ok r4.1 p6.1 r17 p19.1 p19.2.2 r14 p16.1 _ hx72)))) (fun p73 => ?_)
   iterate 3 refine au ?_
   obtain ⟨o74, hio74, hO75⟩ := bind_some hF
   refine au ?_
   refine C_cut (fun f' cs' => ∃ (c83 : Bool) (g : Fr), c83 = o74 ∧ f' = updL g [(6, (.int .i64 (Int.tmod r8 5))), (7, (.int .i64 (Int.tmod r11 5))), (10, p70.1.v), (11, p73.1.v), (92, (.bool c83))] ∧ Ent cs' [cown (OwnS 24 (OwnS 3 (roE rdInt))) p70.2 p70.1.v r68, cown (OwnS 24 (OwnS 3 (roE rdInt))) p73.2 p73.1.v r71]) ?_ ?_
   · replace hF := hio74
     iterate 6 refine au ?_
     rcases Bool.eq_false_or_eq_true (((r68.length : Int) : Int) != (r71.length : Int)) with hg76 | hg76
     · rw [hg76]
       try rw [hg76] at hF; dsimp only [cond_true, cond_false] at hF
       iterate 9 refine au ?_
       cases hF
       exact ⟨_, _, rfl, eqA, entA⟩
     rw [hg76]
     try rw [hg76] at hF; dsimp only [cond_true, cond_false] at hF
     iterate 7 refine au ?_
     refine bnd hF fun r77 hx78 hF => C_x2 (.cons .h .nil) (XC_bor frz_own (fun _ => (.cons .nil)) (X_callS cf8.h (.cons (.tmp rfl rfl) (.cons (.tmp rfl rfl) (.cons (.tmp rfl rfl) .nil))) (i_SwapFacts_ok r14 p16.1 (Int.tmod r8 5) (Int.tmod r11 5) _ hx78))) (fun p79 => ?_)
     iterate 3 refine au ?_
     refine bnd hF fun r80 hx81 hF => C_x2 (.cons (.t (.t (.t (.t .h)))) (.cons (.t .h) .nil)) (XC_borL (pre := []) (.cons frz_own (.cons frz_own .nil)) (fun _ => .nil) (X_callS cf10.h (.cons (.tmp rfl rfl) (.cons (.tmp rfl rfl) .nil)) (s_SameFacts_ok r77 p79.1 r4.2.2 p6.2.2.2.2.2.2.1 _ hx81))) (fun _ => ?_)
     iterate 4 refine au ?_
     cases hF
     exact ⟨_, _, rfl, eqA, entA⟩
   rintro _ _ ⟨c83, g343, rfl, rfl, hE⟩
   replace hF := hO75
   try dsimp only at hF
   refine K_ent hE ?_
   refine Ci hF (fun hb342 hF => ?_) (fun hb342 hF => ?_)
   · iterate 4 refine au ?_
     cases hF
     exact Er ()
   iterate 4 refine au ?_
   refine CW_block (K_frz .h frz_own ?_)
   refine CW_loop (m := r68.length) (fun m258 f' cs' => ∃ (g : Fr) (k260 : Nat) (rest261 : List (List Int)), m258 = rest261.length ∧ f' = updL g [(6, (.int .i64 (Int.tmod r8 5))), (7, (.int .i64 (Int.tmod r11 5))), (10, p70.1.v), (11, p73.1.v), (12, (.int .i64 (k260 : Int)))] ∧ List.drop k260 r68 = rest261 ∧ Ent cs' [crd (RdS 24 (RdS 3 rdInt)) p70.1.v r68, cown (OwnS 24 (OwnS 3 (roE rdInt))) p73.2 p73.1.v r71] ∧ l_FnSwaps_L1 r8 r11 r71 rest261 k260 = some R) ⟨_, 0, _, rfl, eqA, rfl, entA, hF⟩ ?_
   rintro m258 _ _ ⟨g259, k260, rest261, rfl, rfl, hd263, hE, hF⟩
   refine Kb hE r68 (fun hbd268 => ?_)
   rcases rest261 with _ | ⟨x262, rest261⟩
   · have hk264 := dn hd263
     rw [l_FnSwaps_L1] at hF
     iterate 7 refine au ?_
     refine CdF ?_
     iterate 8 refine au ?_
     cases hF
     exact Er ()
   obtain ⟨hk264, hx265, hd266⟩ := drop_cons hd263
   rw [l_FnSwaps_L1] at hF
   iterate 7 refine au ?_
   refine CdT ?_
   refine au ?_
   obtain ⟨o269, hio269, hO270⟩ := bind_some hF
   refine K_cut (fun f' cs' => ∃ (g : Fr), o269 = .inr () ∧ f' = updL g [(6, (.int .i64 (Int.tmod r8 5))), (7, (.int .i64 (Int.tmod r11 5))), (10, p70.1.v), (11, p73.1.v), (12, (.int .i64 (k260 : Int)))] ∧ Ent cs' [crd (RdS 24 (RdS 3 rdInt)) p70.1.v r68, cown (OwnS 24 (OwnS 3 (roE rdInt))) p73.2 p73.1.v r71]) ?_ ?_
   · replace hF := hio269
     refine CW_block (K_region (C_new rfl (N_buildSliceT (g := true) sl24.h ty3.h .nil (vs := []) rfl rfl rfl (by simp)) (fun k271 => ?_)))
     refine Cv1 (.cons .h .nil) (own_lit (Ro := (roE rdInt)) (E := 3) (F := []) (xs := ([] : List Int)) MkL_nil rfl rfl) ?_
     iterate 6 refine au ?_
     refine CW_block (CW_loop (m := (((x262.length : Int) - 0).toNat + 2)) (fun m276 f' cs' => ∃ (g : Fr) (c272 : List Int) (c275 : Int) (v273 : Sv) (F274 : List Nat), f' = updL g [(6, (.int .i64 (Int.tmod r8 5))), (7, (.int .i64 (Int.tmod r11 5))), (10, p70.1.v), (11, p73.1.v), (12, (.int .i64 (k260 : Int))), (13, v273.v), (14, (.int .i64 c275))] ∧ Ent cs' [crd (RdS 24 (RdS 3 rdInt)) p70.1.v r68, cown (OwnS 24 (OwnS 3 (roE rdInt))) p73.2 p73.1.v r71, cown (OwnS 3 (roE rdInt)) F274 v273.v c272] ∧ l_FnSwaps_L3 r8 r11 r71 x262 m276 c272 c275 = some o269) ⟨_, _, _, ⟨(some ⟨k271, 0, none⟩), 0, 1⟩, (k271 :: []), eqA, entA, hF⟩ ?_)
     rintro m276 _ _ ⟨g277, c272, c275, v273, F274, rfl, hE, hF⟩
     refine K_ent hE ?_
     rcases m276 with _ | m276
     · rw [l_FnSwaps_L3] at hF
       exact absurd hF (by simp)
     rw [l_FnSwaps_L3] at hF
     iterate 5 refine au ?_
     refine Ai hx265 (fun k284 j285 => ?_)
     refine C_ldV (R' := (RdS 3 rdInt)) ag24.h (.tmp rfl rfl) .h lv24_0 (fun w286 => ?_)
     iterate 3 refine au ?_
     refine Ci hF (fun hb339 hF => ?_) (fun hb339 hF => ?_)
     · refine au ?_
       obtain ⟨o287, hio287, hO288⟩ := bind_some hF
       refine K_cut (fun f' cs' => ∃ (c330 : List Int) (v331 : Sv) (F332 : List Nat) (g : Fr), c330 = o287 ∧ f' = updL g [(6, (.int .i64 (Int.tmod r8 5))), (7, (.int .i64 (Int.tmod r11 5))), (10, p70.1.v), (11, p73.1.v), (12, (.int .i64 (k260 : Int))), (13, v331.v), (14, (.int .i64 c275))] ∧ Ent cs' [crd (RdS 24 (RdS 3 rdInt)) p70.1.v r68, cown (OwnS 24 (OwnS 3 (roE rdInt))) p73.2 p73.1.v r71, cown (OwnS 3 (roE rdInt)) F332 v331.v c330]) ?_ ?_
       · replace hF := hio287
         refine CW_block (K_region (Cm p70.1.v rfl rfl ?_))
         refine au ?_
         refine Ai hx265 (fun k289 j290 => ?_)
         refine C_ldV (R' := (RdS 3 rdInt)) ag24.h (.tmp rfl rfl) .h lv24_0 (fun w291 => ?_)
         refine au ?_
         refine bnd hF fun x292 hx293 hF => ?_
         obtain ⟨hp294, hx295⟩ := ix_some hx293
         refine Ai hx295 (fun k296 j297 => ?_)
         refine Al ls3_0 ?_
         iterate 6 refine au ?_
         refine Ai hx265 (fun k298 j299 => ?_)
         refine C_ldV (R' := (RdS 3 rdInt)) ag24.h (.tmp rfl rfl) .h lv24_0 (fun w300 => ?_)
         refine au ?_
         refine bnd hF fun x301 hx302 hF => ?_
         obtain ⟨hp303, hx304⟩ := ix_some hx302
         refine Ai hx304 (fun k305 j306 => ?_)
         refine Al ls3_0 ?_
         iterate 3 refine au ?_
         refine Ci hF (fun hb329 hF => ?_) (fun hb329 hF => ?_)
         · iterate 7 refine au ?_
           refine C_new rfl (N_buildSliceT (g := true) sl24.h ty3.h (.cons (.tmp rfl rfl) .nil) (vs := [(.int .i64 (Int.tmod r11 5))]) rfl rfl rfl (by intro v hv; simp at hv; rcases hv with rfl <;> rfl)) (fun k307 => ?_)
           refine Cv1 (.cons .h .nil) (own_lit (Ro := (roE rdInt)) (E := 3) (F := ([] ++ [])) (xs := ([(Int.tmod r11 5)] : List Int)) (MkL_cons (Mk_pure (fun _ => rfl)) MkL_nil apps) rfl rfl) ?_
           refine bnd hF fun z308 hx309 hF => C_x1 (.cons (.t (.t (.t (.t (.t (.t (.t (.t (.t (.t (.t .h))))))))))) (.cons .h .nil)) (X_appendO (Ro := (roE rdInt)) sl24.h ni24 ty3.h rfl rfl rfl (.tmp rfl rfl) (.tmp rfl rfl) hx309 src_own) (fun p310 => ?_)
           iterate 2 refine au ?_
           cases hF
           exact ⟨_, p310.1, p310.2, _, rfl, eqA, entA⟩
         iterate 3 refine au ?_
         refine Ai hx265 (fun k311 j312 => ?_)
         refine C_ldV (R' := (RdS 3 rdInt)) ag24.h (.tmp rfl rfl) .h lv24_0 (fun w313 => ?_)
         refine au ?_
         refine bnd hF fun x314 hx315 hF => ?_
         obtain ⟨hp316, hx317⟩ := ix_some hx315
         refine Ai hx317 (fun k318 j319 => ?_)
         refine Al ls3_0 ?_
         iterate 3 refine au ?_
         refine Ci hF (fun hb328 hF => ?_) (fun hb328 hF => ?_)
         · iterate 7 refine au ?_
           refine C_new rfl (N_buildSliceT (g := true) sl24.h ty3.h (.cons (.tmp rfl rfl) .nil) (vs := [(.int .i64 (Int.tmod r8 5))]) rfl rfl rfl (by intro v hv; simp at hv; rcases hv with rfl <;> rfl)) (fun k320 => ?_)
           refine Cv1 (.cons .h .nil) (own_lit (Ro := (roE rdInt)) (E := 3) (F := ([] ++ [])) (xs := ([(Int.tmod r8 5)] : List Int)) (MkL_cons (Mk_pure (fun _ => rfl)) MkL_nil apps) rfl rfl) ?_
           refine bnd hF fun z321 hx322 hF => C_x1 (.cons (.t (.t (.t (.t (.t (.t (.t (.t (.t (.t (.t (.t (.t (.t .h)))))))))))))) (.cons .h .nil)) (X_appendO (Ro := (roE rdInt)) sl24.h ni24 ty3.h rfl rfl rfl (.tmp rfl rfl) (.tmp rfl rfl) hx322 src_own) (fun p323 => ?_)
           iterate 2 refine au ?_
           cases hF
           exact ⟨_, p323.1, p323.2, _, rfl, eqA, entA⟩
         iterate 4 refine au ?_
         refine C_new rfl (N_buildSliceT (g := true) sl24.h ty3.h (.cons (.tmp rfl rfl) .nil) (vs := [(.int .i64 x292)]) rfl rfl rfl (by intro v hv; simp at hv; rcases hv with rfl <;> rfl)) (fun k324 => ?_)
         refine Cv1 (.cons .h .nil) (own_lit (Ro := (roE rdInt)) (E := 3) (F := ([] ++ [])) (xs := ([x292] : List Int)) (MkL_cons (Mk_pure (fun _ => rfl)) MkL_nil apps) rfl rfl) ?_
         refine bnd hF fun z325 hx326 hF => C_x1 (.cons (.t (.t (.t (.t (.t (.t (.t (.t (.t (.t (.t (.t (.t (.t .h)))))))))))))) (.cons .h .nil)) (X_appendO (Ro := (roE rdInt)) sl24.h ni24 ty3.h rfl rfl rfl (.tmp rfl rfl) (.tmp rfl rfl) hx326 src_own) (fun p327 => ?_)
         iterate 2 refine au ?_
         cases hF
         exact ⟨_, p327.1, p327.2, _, rfl, eqA, entA⟩
       rintro _ _ ⟨c330, v331, F332, g333, rfl, rfl, hE⟩
       replace hF := hO288
       try dsimp only at hF
       refine K_ent hE ?_
       iterate 5 refine au ?_
       exact ⟨m276, Nat.lt_succ_self _, _, _, _, v331, F332, eqA, entA, hF⟩
     iterate 6 refine au ?_
     refine C_new rfl (N_buildSliceT (g := true) sl38.h ty24.h (.cons (.tmp rfl rfl) .nil) (vs := [v273.v]) rfl rfl rfl (by intro v hv; simp at hv; rcases hv with rfl <;> rfl)) (fun k334 => ?_)
     refine Cv1 (.cons .h (.cons (.t (.t (.t (.t .h)))) .nil)) (own_lit (Ro := (OwnS 3 (roE rdInt))) (E := 24) (F := (F274 ++ [])) (xs := ([c272] : List (List Int))) (MkL_cons Mk_own MkL_nil apps) rfl rfl) ?_
     refine au ?_
     refine bnd hF fun r335 hx336 hF => C_x2 (.cons (.t (.t (.t (.t .h)))) (.cons .h .nil)) (XC_borL (pre := []) (.cons frz_own (.cons frz_own .nil)) (fun _ => .nil) (X_callS cf18.h (.cons (.tmp rfl rfl) (.cons (.tmp rfl rfl) .nil)) (l_within_ok ([c272] : List (List Int)) (⟨(some ⟨k334, 0, none⟩), 1, 1⟩) r71 p73.1 _ hx336))) (fun _ => ?_)
     iterate 2 refine au ?_
     refine Ci hF (fun hb338 hF => ?_) (fun hb338 hF => ?_)
     · iterate 4 refine au ?_
       cases hF
       replace hF := hO270
       try dsimp only at hF
       cases hF
       exact Er ()
     refine au ?_
     cases hF
     exact ⟨_, rfl, eqA, entA⟩
   rintro _ _ ⟨g341, rfl, rfl, hE⟩
   replace hF := hO270
   try dsimp only at hF
   refine K_ent hE ?_
   iterate 5 refine au ?_
   rw [wk k260]
   exact ⟨_, Nat.lt_succ_self _, _, k260 + 1, rest261, rfl, eqA, hd266, entA, hF⟩
 iterate 5 refine au ?_
 cases hF
 exact Er ()
end Go.Proofs.YtndckmfbndmkhaaGreat
