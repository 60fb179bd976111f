/-
  Functions of the program as Lean functions, and that the calls return what these say: part 2. No conditions.
-/
import Derived.Shelf.Strings.OnBuilder
import Derived.Shelf.Strconv.Itoa3
import Derived.Test.YtlfebfhfgfjceaaGreatDoorTrustLineG0
import Derived.KernelRfl
set_option maxRecDepth 100000
set_option maxHeartbeats 1000000
set_option linter.unusedVariables false
namespace Go.Proofs.YtlfebfhfgfjceaaGreatDoor
open Go Go.Fw

def s_DoubtedFacts_L1 (a_s : List Int) (a_l : List Method) (a_list : List Told) (r2 : (List Fact)) (r5 : (List Fact)) : Nat → (List Fact) → Int → Option ((List Fact))
 | 0, _, _ => none
 | m59 + 1, c55, c58 => (bif (decide ((c58 : Int) < (r5.length : Int))) then ((s_AreMethods a_s a_l).bind fun r70 =>
       bif r70 then (some (decide (((a_list.length : Int) : Int) ≤ 8)))
       else (some false))
     else (some false)).bind fun o67 =>
   match o67 with
   | c74 => if c74 then (
       ((ix r5 c58).bind fun x77 =>
         (s_HasFact r2 x77).bind fun r84 =>
         if (!r84) then (
           (ix r5 c58).bind fun x87 =>
           (app c55 ([x87] : List Fact)).bind fun z95 =>
           some z95)
         else (
           some c55)).bind fun o75 =>
       match o75 with
       | c99 => s_DoubtedFacts_L1 a_s a_l a_list r2 r5 m59 c99 (IntKind.i64.wrap (c58 + 1)))
     else (
       some c55)
def s_DoubtedFacts (fuel : Nat) (a_s : List Int) (a_l : List Method) (a_list : List Told) : Option ((List Fact)) :=
 (s_TrustedFacts fuel a_s a_l a_list).bind fun r2 =>
 (s_UnionOf a_list).bind fun r5 =>
 s_DoubtedFacts_L1 a_s a_l a_list r2 r5 (((r5.length : Int) - 0).toNat + 2) ([] : List Fact) 0
theorem s_DoubtedFacts_ok (fuel : Nat) (a_s : List Int) (v0_0 : Sv) (a_l : List Method) (v1_0 : Sv) (a_list : List Told) (v2_0 : Sv) (R : (List Fact)) (hF : s_DoubtedFacts fuel a_s a_l a_list = some R) :
   Fw.Spec Tryz.prog 37 [v0_0.v, v1_0.v, v2_0.v] [crd (RdS 3 rdInt) v0_0.v a_s, crd (RdS 86 rd86) v1_0.v a_l, crd (RdS 90 rd90) v2_0.v a_list] (fun p : Sv × List Nat => p.1.v) (fun p => [cown (OwnS 129 (roE rd129)) p.2 p.1.v R]) := by
 refine Spec_enter (n := 49) Tryz.func37 rfl rfl (rs := [.tmp 6]) rfl rfl rfl ?_
 intro H0 F0
 unfold s_DoubtedFacts at hF
 refine K_region (C_val (V_assign (v := (.slice none 0 0)) EV.nilSlice) ?_)
 refine C_nil (K_region (C_new rfl (N_buildSliceT (g := true) sl52.h ty129.h .nil (vs := []) rfl rfl rfl (by simp)) (fun k1 => ?_)))
 refine C_conv (.cons .h .nil) (own_lit (Ro := (roE rd129)) (E := 129) (F := []) (xs := ([] : List Fact)) MkL_nil rfl rfl) apps ?_
 refine Ca (.slice (some ⟨k1, 0, none⟩) 0 1) rfl rfl ?_
 refine C_nil (K_region (Cm v0_0.v rfl rfl ?_))
 refine Cm v1_0.v rfl rfl ?_
 refine Cm v2_0.v rfl rfl ?_
 obtain ⟨r2, hx3, hF⟩ := bind_some hF
 refine C_x1 (.rd (.t .h) rfl (.rd (.t (.t .h)) rfl (.rd (.t (.t (.t .h))) rfl .nil))) (X_callS cf36.h (.cons (.tmp rfl rfl) (.cons (.tmp rfl rfl) (.cons (.tmp rfl rfl) .nil))) (s_TrustedFacts_ok fuel a_s v0_0 a_l v1_0 a_list v2_0 _ hx3)) (fun p4 => ?_)
 refine Ca p4.v rfl rfl ?_
 refine C_nil (K_region (Cm v2_0.v rfl rfl ?_))
 obtain ⟨r5, hx6, hF⟩ := bind_some hF
 refine C_x1 (.rd (.t (.t (.t (.t .h)))) rfl .nil) (X_callS cf34.h (.cons (.tmp rfl rfl) .nil) (s_UnionOf_ok a_list v2_0 _ hx6)) (fun p7 => ?_)
 refine Ca p7.1.v rfl rfl ?_
 refine C_nil (K_in (K_region (C_val (V_assign (v := (.int .i64 0)) (.int _ _)) ?_)))
 refine C_nil (CW_block (K_frz .h frz_own ?_))
 refine CW_loop (m := (((r5.length : Int) - 0).toNat + 2)) (fun m59 f' cs' => ∃ (g : Fr) (c55 : List Fact) (c58 : Int) (v56 : Sv) (F57 : List Nat), f' = updL g [(0, v0_0.v), (1, v1_0.v), (2, v2_0.v), (7, v56.v), (8, p4.v), (9, p7.1.v), (10, (.int .i64 c58))] ∧ Ent cs' [crd (RdS 3 rdInt) v0_0.v a_s, crd (RdS 86 rd86) v1_0.v a_l, crd (RdS 90 rd90) v2_0.v a_list, cown (OwnS 129 (roE rd129)) F57 v56.v c55, crd (RdS 129 rd129) p4.v r2, crd (RdS 129 rd129) p7.1.v r5] ∧ s_DoubtedFacts_L1 a_s a_l a_list r2 r5 m59 c55 c58 = some R) ⟨_, _, _, ⟨(some ⟨k1, 0, none⟩), 0, 1⟩, (k1 :: []), (EqL.cons rfl (EqL.cons rfl (EqL.cons rfl (EqL.cons rfl (EqL.cons rfl (EqL.cons rfl (EqL.cons rfl (EqL.nil)))))))).eq, (.sel (.rd (.t (.t (.t .h))) rfl (.rd (.t (.t (.t (.t .h)))) rfl (.rd (.t (.t (.t (.t (.t .h))))) rfl (.cons (.t (.t .h)) (.rd (.t .h) rfl (.rd .h rfl .nil))))))), hF⟩ ?_
 clear hF
 rintro m59 _ _ ⟨g60, c55, c58, v56, F57, rfl, hE, hF⟩
 refine K_ent hE ?_
 clear hE
 rcases m59 with _ | m59
 · rw [s_DoubtedFacts_L1] at hF
   exact absurd hF (by simp)
 rw [s_DoubtedFacts_L1] at hF
 refine K_in ?_
 obtain ⟨o67, hio67, hO68⟩ := bind_some hF
 refine K_region (C_cut (fun f' cs' => ∃ (c74 : Bool) (g : Fr), c74 = o67 ∧ f' = updL g [(0, v0_0.v), (1, v1_0.v), (2, v2_0.v), (7, v56.v), (8, p4.v), (9, p7.1.v), (10, (.int .i64 c58)), (31, (.bool c74))] ∧ Ent cs' [crd (RdS 3 rdInt) v0_0.v a_s, crd (RdS 86 rd86) v1_0.v a_l, crd (RdS 90 rd90) v2_0.v a_list, cown (OwnS 129 (roE rd129)) F57 v56.v c55, crd (RdS 129 rd129) p4.v r2, crd (RdS 129 rd129) p7.1.v r5]) ?_ ?_)
 · replace hF := hio67
   refine Cm (.int .i64 c58) rfl rfl ?_
   refine Cm p7.1.v rfl rfl ?_
   refine C_at (.t (.t (.t (.t (.t .h))))) (fun hp => V_lenR (l := r5.length) sl52.h (.tmp rfl rfl) (crd_len hp)) ?_
   refine C_val (V_lss (i := c58) (j := (r5.length : Int)) (.tmp rfl rfl) (.tmp rfl rfl)) ?_
   refine Cm (.bool (decide ((c58 : Int) < (r5.length : Int)))) rfl rfl ?_
   rcases Bool.eq_false_or_eq_true (decide ((c58 : Int) < (r5.length : Int))) with hg69 | hg69
   · rw [hg69]
     try rw [hg69] at hF; dsimp only [cond_true, cond_false] at hF
     refine C_on (t := 22) rfl rfl rfl ?_
     refine Cm v0_0.v rfl rfl ?_
     refine C_on (t := 22) rfl rfl rfl ?_
     refine Cm v1_0.v rfl rfl ?_
     refine C_on (t := 22) rfl rfl rfl ?_
     obtain ⟨r70, hx71, hF⟩ := bind_some hF
     refine C_x0 (.rd .h rfl (.rd (.t .h) rfl .nil)) (X_callS cf79.h (.cons (.tmp rfl rfl) (.cons (.tmp rfl rfl) .nil)) (s_AreMethods_ok a_s v0_0 a_l v1_0 _ hx71)) (fun _ => ?_)
     refine C_val (V_pick (b := true) (u := (.bool r70)) (v := (.bool false)) (.tmp rfl rfl) (.tmp rfl rfl) (.bool _)) ?_
     refine Cm (.bool r70) rfl rfl ?_
     rcases Bool.eq_false_or_eq_true r70 with hg73 | hg73
     · rw [hg73]
       try rw [hg73] at hF; dsimp only [cond_true, cond_false] at hF
       refine C_on (t := 27) rfl rfl rfl ?_
       refine Cm v2_0.v rfl rfl ?_
       refine C_on (t := 27) rfl rfl rfl ?_
       refine C_at (.t (.t .h)) (fun hp => V_lenR (l := a_list.length) sl31.h (.tmp rfl rfl) (crd_len hp)) ?_
       refine C_on (t := 27) rfl rfl rfl ?_
       refine C_val (V_leq (i := (a_list.length : Int)) (j := 8) (.tmp rfl rfl) (.int _ _)) ?_
       refine C_val (V_pick (b := true) (u := (.bool (decide (((a_list.length : Int) : Int) ≤ 8)))) (v := (.bool false)) (.tmp rfl rfl) (.tmp rfl rfl) (.bool _)) ?_
       refine C_nil ?_
       obtain rfl := Option.some.inj hF
       exact ⟨_, _, rfl, (EqL.cons rfl (EqL.cons rfl (EqL.cons rfl (EqL.cons rfl (EqL.cons rfl (EqL.cons rfl (EqL.cons rfl (EqL.cons rfl (EqL.nil))))))))).eq, (.sel (.rd .h rfl (.rd (.t .h) rfl (.rd (.t (.t .h)) rfl (.cons (.t (.t (.t .h))) (.rd (.t (.t (.t .h))) rfl (.rd (.t (.t (.t (.t .h)))) rfl .nil)))))))⟩
     rw [hg73]
     try rw [hg73] at hF; dsimp only [cond_true, cond_false] at hF
     iterate 3 refine C_off (t := 27) rfl rfl rfl ?_
     refine C_val (V_pick (b := false) (u := undef) (v := (.bool false)) (.tmp rfl rfl) (.tmp rfl rfl) (.bool _)) ?_
     refine C_nil ?_
     obtain rfl := Option.some.inj hF
     exact ⟨_, _, rfl, (EqL.cons rfl (EqL.cons rfl (EqL.cons rfl (EqL.cons rfl (EqL.cons rfl (EqL.cons rfl (EqL.cons rfl (EqL.cons rfl (EqL.nil))))))))).eq, (.sel (.rd .h rfl (.rd (.t .h) rfl (.rd (.t (.t .h)) rfl (.cons (.t (.t (.t .h))) (.rd (.t (.t (.t .h))) rfl (.rd (.t (.t (.t (.t .h)))) rfl .nil)))))))⟩
   rw [hg69]
   try rw [hg69] at hF; dsimp only [cond_true, cond_false] at hF
   iterate 3 refine C_off (t := 22) rfl rfl rfl ?_
   refine C_val (V_pick (b := false) (u := undef) (v := (.bool false)) (.tmp rfl rfl) (.tmp rfl rfl) (.bool _)) ?_
   refine Cm (.bool false) rfl rfl ?_
   iterate 3 refine C_off (t := 27) rfl rfl rfl ?_
   refine C_val (V_pick (b := false) (u := undef) (v := (.bool false)) (.tmp rfl rfl) (.tmp rfl rfl) (.bool _)) ?_
   refine C_nil ?_
   obtain rfl := Option.some.inj hF
   exact ⟨_, _, rfl, (EqL.cons rfl (EqL.cons rfl (EqL.cons rfl (EqL.cons rfl (EqL.cons rfl (EqL.cons rfl (EqL.cons rfl (EqL.cons rfl (EqL.nil))))))))).eq, (.sel (.rd .h rfl (.rd (.t .h) rfl (.rd (.t (.t .h)) rfl (.cons (.t (.t (.t .h))) (.rd (.t (.t (.t .h))) rfl (.rd (.t (.t (.t (.t .h)))) rfl .nil)))))))⟩
 rintro _ _ ⟨c74, g104, rfl, rfl, hE⟩
 replace hF := hO68
 clear hO68
 try dsimp only at hF
 refine K_ent hE ?_
 refine CW_cond (b := c74) (.tmp rfl rfl) (fun hb103 => ?_) (fun hb103 => ?_)
 · rw [if_pos hb103] at hF
   refine CW_skip ?_
   obtain ⟨o75, hio75, hO76⟩ := bind_some hF
   refine K_cut (fun f' cs' => ∃ (c99 : List Fact) (v100 : Sv) (F101 : List Nat) (g : Fr), c99 = o75 ∧ f' = updL g [(0, v0_0.v), (1, v1_0.v), (2, v2_0.v), (7, v100.v), (8, p4.v), (9, p7.1.v), (10, (.int .i64 c58))] ∧ Ent cs' [crd (RdS 3 rdInt) v0_0.v a_s, crd (RdS 86 rd86) v1_0.v a_l, crd (RdS 90 rd90) v2_0.v a_list, cown (OwnS 129 (roE rd129)) F101 v100.v c99, crd (RdS 129 rd129) p4.v r2, crd (RdS 129 rd129) p7.1.v r5]) ?_ ?_
   · replace hF := hio75
     refine CW_block (K_region (Cm p4.v rfl rfl ?_))
     refine Cm p7.1.v rfl rfl ?_
     refine Cm (.int .i64 c58) rfl rfl ?_
     obtain ⟨x77, hx78, hF⟩ := bind_some hF
     obtain ⟨hp79, hx80⟩ := ix_some hx78
     refine C_idx (a := x77) sl52.h ty129.h.sz (.tmp rfl rfl) (.tmp rfl rfl) (.t (.t (.t (.t (.t .h))))) hp79 hx80 (fun k81 j82 => ?_)
     refine C_ldA1 (ul129_0_129 x77) ag129.h ty129.h.sz rfl (.tmp rfl rfl) .h la129_0_129 (fun p83 => ?_)
     obtain ⟨r84, hx85, hF⟩ := bind_some hF
     refine C_x0 (.rd (.t (.t (.t (.t (.t (.t .h)))))) rfl (.rd .h rfl .nil)) (X_callS cf95.h (.cons (.tmp rfl rfl) (.cons (.tmp rfl rfl) .nil)) (s_HasFact_ok r2 p4 x77 p83 _ hx85)) (fun _ => ?_)
     refine C_val (V_not (b := r84) (.tmp rfl rfl)) ?_
     refine C_nil (CW_cond (b := (!r84)) (.tmp rfl rfl) (fun hb98 => ?_) (fun hb98 => ?_))
     · rw [if_pos hb98] at hF
       refine CW_region (Cm v56.v rfl rfl ?_)
       refine Cm p7.1.v rfl rfl ?_
       refine Cm (.int .i64 c58) rfl rfl ?_
       obtain ⟨x87, hx88, hF⟩ := bind_some hF
       obtain ⟨hp89, hx90⟩ := ix_some hx88
       refine C_idx (a := x87) sl52.h ty129.h.sz (.tmp rfl rfl) (.tmp rfl rfl) (.t (.t (.t (.t (.t (.t (.t .h))))))) hp89 hx90 (fun k91 j92 => ?_)
       refine C_ldA1 (ul129_0_129 x87) ag129.h ty129.h.sz rfl (.tmp rfl rfl) .h la129_0_129 (fun p93 => ?_)
       refine C_new rfl (N_buildSliceT (g := true) sl52.h ty129.h (.cons (.tmp rfl rfl) .nil) (vs := [(.agg [(.int .i64 x87.Rel), p93.v].toArray)]) rfl rfl rfl (by intro v hv; simp at hv; rcases hv with rfl <;> rfl)) (fun k94 => ?_)
       refine C_conv (.cons .h (.rd .h rfl .nil)) (own_lit (Ro := (roE rd129)) (E := 129) (F := ([] ++ [])) (xs := ([x87] : List Fact)) (MkL_cons mr129 MkL_nil apps) rfl rfl) apps ?_
       obtain ⟨z95, hx96, hF⟩ := bind_some hF
       refine C_x1 (.cons (.t (.t (.t (.t (.t (.t (.t (.t .h)))))))) (.cons .h .nil)) (X_appendO (Ro := (roE rd129)) sl52.h ni52 ty129.h rfl rfl rfl (.tmp rfl rfl) (.tmp rfl rfl) hx96 src_own) (fun p97 => ?_)
       refine Ca p97.1.v rfl rfl ?_
       refine C_nil ?_
       obtain rfl := Option.some.inj hF
       exact ⟨_, p97.1, p97.2, _, rfl, (EqL.cons rfl (EqL.cons rfl (EqL.cons rfl (EqL.cons rfl (EqL.cons rfl (EqL.cons rfl (EqL.cons rfl (EqL.nil)))))))).eq, (.sel (.rd (.t (.t (.t (.t (.t .h))))) rfl (.rd (.t (.t (.t (.t (.t (.t .h)))))) rfl (.rd (.t (.t (.t (.t (.t (.t (.t .h))))))) rfl (.cons .h (.rd (.t (.t (.t (.t (.t (.t (.t .h))))))) rfl (.rd (.t (.t (.t (.t (.t (.t (.t (.t .h)))))))) rfl .nil)))))))⟩
     rw [if_neg (by rw [hb98]; exact Bool.false_ne_true)] at hF
     refine CW_skip ?_
     obtain rfl := Option.some.inj hF
     exact ⟨_, v56, F57, _, rfl, (EqL.cons rfl (EqL.cons rfl (EqL.cons rfl (EqL.cons rfl (EqL.cons rfl (EqL.cons rfl (EqL.cons rfl (EqL.nil)))))))).eq, (.sel (.rd (.t (.t .h)) rfl (.rd (.t (.t (.t .h))) rfl (.rd (.t (.t (.t (.t .h)))) rfl (.cons (.t (.t (.t (.t (.t .h))))) (.rd (.t (.t (.t (.t (.t .h))))) rfl (.rd (.t (.t (.t (.t (.t (.t .h)))))) rfl .nil)))))))⟩
   rintro _ _ ⟨c99, v100, F101, g102, rfl, rfl, hE⟩
   replace hF := hO76
   clear hO76
   try dsimp only at hF
   refine K_ent hE ?_
   refine CW_region (Cm (.int .i64 c58) rfl rfl ?_)
   refine C_val (V_add (i := c58) (j := 1) (.tmp rfl rfl) (.int _ _)) ?_
   refine Ca (.int .i64 (IntKind.i64.wrap (c58 + 1))) rfl rfl ?_
   refine C_nil ?_
   exact ⟨m59, Nat.lt_succ_self _, _, _, _, v100, F101, (EqL.cons rfl (EqL.cons rfl (EqL.cons rfl (EqL.cons rfl (EqL.cons rfl (EqL.cons rfl (EqL.cons rfl (EqL.nil)))))))).eq, (.sel (.rd .h rfl (.rd (.t .h) rfl (.rd (.t (.t .h)) rfl (.cons (.t (.t (.t .h))) (.rd (.t (.t (.t .h))) rfl (.rd (.t (.t (.t (.t .h)))) rfl .nil))))))), hF⟩
 rw [if_neg (by rw [hb103]; exact Bool.false_ne_true)] at hF
 refine CW_exit ?_
 iterate 2 refine CThen_exit ?_
 refine CIn_self (K_region (Cm v56.v rfl rfl ?_))
 refine Ca v56.v rfl rfl ?_
 refine C_nil (CW_ret ?_)
 obtain rfl := Option.some.inj hF
 exact End_ret (v56, F57) (.tmp rfl rfl .nil) rfl (.sel (.cons (.t (.t (.t .h))) .nil))
def s_TrustLine (fuel : Nat) (a_s : List Int) (a_l : List Method) (a_list : List Told) : Option ((List UInt8)) :=
 (s_SmallestRemoval fuel a_s a_l a_list).bind fun r1 =>
 if (!r1.2) then (
   some [])
 else (
   if (((r1.1.length : Int) : Int) == 0) then (
     (s_UnionOf a_list).bind fun r4 =>
     (s_l36Facts fuel r4).bind fun r7 =>
     (cat [99, 111, 110, 115, 105, 115, 116, 101, 110, 116, 32] r7).bind fun x10 =>
     some x10)
   else (
     (s_l2List fuel r1.1).bind fun r14 =>
     (cat [100, 114, 111, 112, 32] r14).bind fun x17 =>
     (cat x17 [32, 116, 114, 117, 115, 116, 101, 100, 32]).bind fun x21 =>
     (s_TrustedFacts fuel a_s a_l a_list).bind fun r25 =>
     (s_l36Facts fuel r25).bind fun r28 =>
     (cat x21 r28).bind fun x31 =>
     (cat x31 [32, 100, 111, 117, 98, 116, 101, 100, 32]).bind fun x35 =>
     (s_DoubtedFacts fuel a_s a_l a_list).bind fun r39 =>
     (s_l36Facts fuel r39).bind fun r42 =>
     (cat x35 r42).bind fun x45 =>
     some x45))
theorem s_TrustLine_ok (fuel : Nat) (a_s : List Int) (v0_0 : Sv) (a_l : List Method) (v1_0 : Sv) (a_list : List Told) (v2_0 : Sv) (R : (List UInt8)) (hF : s_TrustLine fuel a_s a_l a_list = some R) :
   Fw.Spec Tryz.prog 8 [v0_0.v, v1_0.v, v2_0.v] [crd (RdS 3 rdInt) v0_0.v a_s, crd (RdS 86 rd86) v1_0.v a_l, crd (RdS 90 rd90) v2_0.v a_list] (fun _ : Unit => (sv R)) (fun _ => []) := by
 refine Se 42 Tryz.func8 [.tmp 6] ?_
 intro H0 F0
 unfold s_TrustLine at hF
 iterate 7 refine au ?_
 refine bnd hF fun r1 hx2 hF => Cx1 (s_SmallestRemoval_ok _ _ _ _ _ _ _ _ hx2) (fun p3 => ?_)
 refine au ?_
 refine C_val (V_extract (l := [p3.1.v, (.bool r1.2)]) (v := p3.1.v) (.tmp rfl rfl) rfl) ?_
 refine C_val (V_extract (l := [p3.1.v, (.bool r1.2)]) (v := (.bool r1.2)) (.tmp rfl rfl) rfl) ?_
 iterate 8 refine au ?_
 refine Ci hF (fun hb50 hF => ?_) (fun hb50 hF => ?_)
 · iterate 4 refine au ?_
   cases hF
   exact Er ()
 iterate 7 refine au ?_
 refine Ci hF (fun hb49 hF => ?_) (fun hb49 hF => ?_)
 · iterate 2 refine au ?_
   refine bnd hF fun r4 hx5 hF => Cx1 (s_UnionOf_ok _ _ _ hx5) (fun p6 => ?_)
   refine bnd hF fun r7 hx8 hF => C_x1 (.cons .h .nil) (XC_bor frz_own (fun _ => .nil) (X_callS cf33.h (.cons (.tmp rfl rfl) .nil) (s_l36Facts_ok fuel r4 p6.1 _ hx8))) (fun _ => ?_)
   refine bnd hF fun x10 hx11 hF => ?_
   obtain ⟨hq13, hz12⟩ := cat_some hx11
   refine C_val (V_concatN (s := [99, 111, 110, 115, 105, 115, 116, 101, 110, 116, 32]) (t := r7) (u := x10) (.sv _) (.tmp rfl rfl) hx11) ?_
   iterate 3 refine au ?_
   cases hF
   exact Er ()
 iterate 3 refine au ?_
 refine bnd hF fun r14 hx15 hF => C_x1 (.cons .h .nil) (XC_bor frz_own (fun _ => .nil) (X_callS cf35.h (.cons (.tmp rfl rfl) .nil) (s_l2List_ok fuel r1.1 p3.1 _ hx15))) (fun _ => ?_)
 refine bnd hF fun x17 hx18 hF => ?_
 obtain ⟨hq20, hz19⟩ := cat_some hx18
 refine C_val (V_concatN (s := [100, 114, 111, 112, 32]) (t := r14) (u := x17) (.sv _) (.tmp rfl rfl) hx18) ?_
 refine bnd hF fun x21 hx22 hF => ?_
 obtain ⟨hq24, hz23⟩ := cat_some hx22
 refine C_val (V_concatN (s := x17) (t := [32, 116, 114, 117, 115, 116, 101, 100, 32]) (u := x21) (.tmp rfl rfl) (.sv _) hx22) ?_
 iterate 3 refine au ?_
 refine bnd hF fun r25 hx26 hF => Cx1 (s_TrustedFacts_ok _ _ _ _ _ _ _ _ hx26) (fun p27 => ?_)
 refine bnd hF fun r28 hx29 hF => Cx0 (s_l36Facts_ok _ _ _ _ hx29) (fun _ => ?_)
 refine bnd hF fun x31 hx32 hF => ?_
 obtain ⟨hq34, hz33⟩ := cat_some hx32
 refine C_val (V_concatN (s := x21) (t := r28) (u := x31) (.tmp rfl rfl) (.tmp rfl rfl) hx32) ?_
 refine bnd hF fun x35 hx36 hF => ?_
 obtain ⟨hq38, hz37⟩ := cat_some hx36
 refine C_val (V_concatN (s := x31) (t := [32, 100, 111, 117, 98, 116, 101, 100, 32]) (u := x35) (.tmp rfl rfl) (.sv _) hx36) ?_
 iterate 3 refine au ?_
 refine bnd hF fun r39 hx40 hF => Cx1 (s_DoubtedFacts_ok _ _ _ _ _ _ _ _ hx40) (fun p41 => ?_)
 refine bnd hF fun r42 hx43 hF => C_x1 (.cons .h .nil) (XC_bor frz_own (fun _ => .nil) (X_callS cf33.h (.cons (.tmp rfl rfl) .nil) (s_l36Facts_ok fuel r39 p41.1 _ hx43))) (fun _ => ?_)
 refine bnd hF fun x45 hx46 hF => ?_
 obtain ⟨hq48, hz47⟩ := cat_some hx46
 refine C_val (V_concatN (s := x35) (t := r42) (u := x45) (.tmp rfl rfl) (.tmp rfl rfl) hx46) ?_
 iterate 3 refine au ?_
 cases hF
 exact Er ()
def i_within (a_n : Int) (a_low : Int) (a_high : Int) : Option (Bool) :=
 some ((decide ((a_low : Int) ≤ a_n)) && (decide ((a_n : Int) ≤ a_high)))
theorem i_within_ok (a_n : Int) (a_low : Int) (a_high : Int) (R : Bool) (hF : i_within a_n a_low a_high = some R) :
   Fw.Spec Tryz.prog 124 [(.int .i64 a_n), (.int .i64 a_low), (.int .i64 a_high)] [] (fun _ : Unit => (.bool R)) (fun _ => []) := by
 refine Se 15 Tryz.func124 [.tmp 6] ?_
 intro H0 F0
 unfold i_within at hF
 iterate 4 refine au ?_
 refine C_cut (fun f' cs' => ∃ (g : Fr), f' = updL g [(6, (.bool ((decide ((a_low : Int) ≤ a_n)) && (decide ((a_n : Int) ≤ a_high)))))] ∧ Ent cs' []) ?_ ?_
 · iterate 4 refine au ?_
   rcases Bool.eq_false_or_eq_true (decide ((a_low : Int) ≤ a_n)) with hg1 | hg1
   · rw [hg1]
     try rw [hg1] at hF; dsimp only [cond_true, cond_false] at hF
     iterate 9 refine au ?_
     exact ⟨_, eqA, entA⟩
   rw [hg1]
   try rw [hg1] at hF; dsimp only [cond_true, cond_false] at hF
   iterate 6 refine au ?_
   exact ⟨_, eqA, entA⟩
 rintro _ _ ⟨g2, rfl, hE⟩
 refine K_ent hE ?_
 refine au ?_
 cases hF
 exact Er ()
def i_IsSchema_1 (a_n : Int) : Option (Bool) :=
 (i_within a_n 1 3).bind fun r1 =>
 some (!r1)
theorem i_IsSchema_1_ok (a_n : Int) (R : Bool) (hF : i_IsSchema_1 a_n = some R) :
   Fw.Spec Tryz.prog 190 [(.int .i64 a_n)] [] (fun _ : Unit => (.bool R)) (fun _ => []) := by
 refine Se 6 Tryz.func190 [.tmp 2] ?_
 intro H0 F0
 unfold i_IsSchema_1 at hF
 iterate 5 refine au ?_
 refine bnd hF fun r1 hx2 hF => Cx0 (i_within_ok _ _ _ _ hx2) (fun _ => ?_)
 iterate 4 refine au ?_
 cases hF
 exact Er ()
def g_slices_IndexFunc_int_int_iIsSchema1_L1 : List Int → Nat → Option (Int)
 | [], k4 => some (-1)
 | x6 :: rest5, k4 => (i_IsSchema_1 x6).bind fun r15 =>
   if r15 then (
     some (k4 : Int))
   else (
     g_slices_IndexFunc_int_int_iIsSchema1_L1 rest5 (k4 + 1))
def g_slices_IndexFunc_int_int_iIsSchema1 (a_s : List Int) : Option (Int) :=
 g_slices_IndexFunc_int_int_iIsSchema1_L1 a_s 0
theorem g_slices_IndexFunc_int_int_iIsSchema1_ok (a_s : List Int) (v0_0 : Sv) (R : Int) (hF : g_slices_IndexFunc_int_int_iIsSchema1 a_s = some R) :
   Fw.Spec Tryz.prog 223 [v0_0.v, (.func (.func 190) [].toArray [].toArray)] [crd (RdS 3 rdInt) v0_0.v a_s] (fun _ : Unit => (.int .i64 R)) (fun _ => []) := by
 refine Se 19 Tryz.func223 [.tmp 4] ?_
 intro H0 F0
 unfold g_slices_IndexFunc_int_int_iIsSchema1 at hF
 iterate 9 refine au ?_
 refine CW_block (CW_loop (m := a_s.length) (fun m2 f' cs' => ∃ (g : Fr) (k4 : Nat) (rest5 : List Int), m2 = rest5.length ∧ f' = updL g [(0, v0_0.v), (1, (.func (.func 190) [].toArray [].toArray)), (7, (.int .i64 (a_s.length : Int))), (8, (.int .i64 (k4 : Int)))] ∧ List.drop k4 a_s = rest5 ∧ Ent cs' [crd (RdS 3 rdInt) v0_0.v a_s] ∧ g_slices_IndexFunc_int_int_iIsSchema1_L1 rest5 k4 = some R) ⟨_, 0, _, rfl, eqA, rfl, entA, hF⟩ ?_)
 rintro m2 _ _ ⟨g3, k4, rest5, rfl, rfl, hd7, hE, hF⟩
 refine Kb hE a_s (fun hbd12 => ?_)
 rcases rest5 with _ | ⟨x6, rest5⟩
 · have hk8 := dn hd7
   rw [g_slices_IndexFunc_int_int_iIsSchema1_L1] at hF
   iterate 4 refine au ?_
   refine CdF ?_
   iterate 8 refine au ?_
   cases hF
   exact Er ()
 obtain ⟨hk8, hx9, hd10⟩ := drop_cons hd7
 rw [g_slices_IndexFunc_int_int_iIsSchema1_L1] at hF
 iterate 4 refine au ?_
 refine CdT ?_
 iterate 10 refine au ?_
 refine Ai hx9 (fun k13 j14 => ?_)
 refine Al ls3_0 ?_
 refine bnd hF fun r15 hx16 hF => C_x0 .nil (X_callCS cf190.h (.tmp rfl rfl) (.cons (.tmp rfl rfl) .nil) (i_IsSchema_1_ok x6 _ hx16)) (fun _ => ?_)
 refine au ?_
 refine Ci hF (fun hb19 hF => ?_) (fun hb19 hF => ?_)
 · iterate 5 refine au ?_
   cases hF
   exact Er ()
 iterate 5 refine au ?_
 rw [wk k4]
 exact ⟨_, Nat.lt_succ_self _, _, k4 + 1, rest5, rfl, eqA, hd10, entA, hF⟩
def g_slices_ContainsFunc_int_int_iIsSchema1 (a_s : List Int) : Option (Bool) :=
 (g_slices_IndexFunc_int_int_iIsSchema1 a_s).bind fun r1 =>
 some (decide ((0 : Int) ≤ r1))
theorem g_slices_ContainsFunc_int_int_iIsSchema1_ok (a_s : List Int) (v0_0 : Sv) (R : Bool) (hF : g_slices_ContainsFunc_int_int_iIsSchema1 a_s = some R) :
   Fw.Spec Tryz.prog 180 [v0_0.v, (.func (.func 190) [].toArray [].toArray)] [crd (RdS 3 rdInt) v0_0.v a_s] (fun _ : Unit => (.bool R)) (fun _ => []) := by
 refine Se 9 Tryz.func180 [.tmp 4] ?_
 intro H0 F0
 unfold g_slices_ContainsFunc_int_int_iIsSchema1 at hF
 iterate 6 refine au ?_
 refine bnd hF fun r1 hx2 hF => Cx0 (g_slices_IndexFunc_int_int_iIsSchema1_ok _ _ _ hx2) (fun _ => ?_)
 iterate 4 refine au ?_
 cases hF
 exact Er ()
def i_IsSchema (a_s : List Int) : Option (Bool) :=
 ((i_within (a_s.length : Int) 1 3).bind fun r3 =>
   bif r3 then ((g_slices_ContainsFunc_int_int_iIsSchema1 a_s).bind fun r7 =>
     some (!r7))
   else (some false)).bind fun o1 =>
 match o1 with
 | c10 => some c10
theorem i_IsSchema_ok (a_s : List Int) (v0_0 : Sv) (R : Bool) (hF : i_IsSchema a_s = some R) :
   Fw.Spec Tryz.prog 138 [v0_0.v] [crd (RdS 3 rdInt) v0_0.v a_s] (fun _ : Unit => (.bool R)) (fun _ => []) := by
 refine Se 11 Tryz.func138 [.tmp 2] ?_
 intro H0 F0
 unfold i_IsSchema at hF
 iterate 3 refine au ?_
 obtain ⟨o1, hio1, hO2⟩ := bind_some hF
 refine au ?_
 refine C_cut (fun f' cs' => ∃ (c10 : Bool) (g : Fr), c10 = o1 ∧ f' = updL g [(2, (.bool c10))] ∧ Ent cs' []) ?_ ?_
 · replace hF := hio1
   iterate 2 refine au ?_
   refine bnd hF fun r3 hx4 hF => Cx0 (i_within_ok _ _ _ _ hx4) (fun _ => ?_)
   refine au ?_
   rcases Bool.eq_false_or_eq_true r3 with hg6 | hg6
   · rw [hg6]
     try rw [hg6] at hF; dsimp only [cond_true, cond_false] at hF
     iterate 3 refine au ?_
     refine bnd hF fun r7 hx8 hF => Cx0 (g_slices_ContainsFunc_int_int_iIsSchema1_ok _ _ _ hx8) (fun _ => ?_)
     iterate 5 refine au ?_
     cases hF
     exact ⟨_, _, rfl, eqA, entA⟩
   rw [hg6]
   try rw [hg6] at hF; dsimp only [cond_true, cond_false] at hF
   iterate 6 refine au ?_
   cases hF
   exact ⟨_, _, rfl, eqA, entA⟩
 rintro _ _ ⟨c10, g11, rfl, rfl, hE⟩
 replace hF := hO2
 try dsimp only at hF
 refine K_ent hE ?_
 refine au ?_
 cases hF
 exact Er ()
def i_hasRel (a_s : List Int) (a_rel : Int) : Option (Bool) :=
 ((i_IsSchema a_s).bind fun r3 =>
   bif r3 then ((i_within a_rel 0 (IntKind.i64.wrap ((a_s.length : Int) - 1))).bind fun r7 =>
     some r7)
   else (some false)).bind fun o1 =>
 match o1 with
 | c10 => some c10
theorem i_hasRel_ok (a_s : List Int) (v0_0 : Sv) (a_rel : Int) (R : Bool) (hF : i_hasRel a_s a_rel = some R) :
   Fw.Spec Tryz.prog 192 [v0_0.v, (.int .i64 a_rel)] [crd (RdS 3 rdInt) v0_0.v a_s] (fun _ : Unit => (.bool R)) (fun _ => []) := by
 refine Se 14 Tryz.func192 [.tmp 4] ?_
 intro H0 F0
 unfold i_hasRel at hF
 iterate 3 refine au ?_
 obtain ⟨o1, hio1, hO2⟩ := bind_some hF
 refine au ?_
 refine C_cut (fun f' cs' => ∃ (c10 : Bool) (g : Fr), c10 = o1 ∧ f' = updL g [(4, (.bool c10))] ∧ Ent cs' []) ?_ ?_
 · replace hF := hio1
   refine au ?_
   refine bnd hF fun r3 hx4 hF => Cx0 (i_IsSchema_ok _ _ _ hx4) (fun _ => ?_)
   refine au ?_
   rcases Bool.eq_false_or_eq_true r3 with hg6 | hg6
   · rw [hg6]
     try rw [hg6] at hF; dsimp only [cond_true, cond_false] at hF
     iterate 9 refine au ?_
     refine bnd hF fun r7 hx8 hF => Cx0 (i_within_ok _ _ _ _ hx8) (fun _ => ?_)
     iterate 3 refine au ?_
     cases hF
     exact ⟨_, _, rfl, eqA, entA⟩
   rw [hg6]
   try rw [hg6] at hF; dsimp only [cond_true, cond_false] at hF
   iterate 8 refine au ?_
   cases hF
   exact ⟨_, _, rfl, eqA, entA⟩
 rintro _ _ ⟨c10, g11, rfl, rfl, hE⟩
 replace hF := hO2
 try dsimp only at hF
 refine K_ent hE ?_
 refine au ?_
 cases hF
 exact Er ()
def i_ascending_L1 (a_l : List Int) : List Int → Nat → Option (Bool)
 | [], k4 => some true
 | x6 :: rest5, k4 => (bif (decide ((0 : Int) < (k4 : Int))) then ((ix a_l (IntKind.i64.wrap ((k4 : Int) - 1))).bind fun x18 =>
       some (decide ((x6 : Int) ≤ x18)))
     else (some false)).bind fun o13 =>
   match o13 with
   | c24 => if c24 then (
       some false)
     else (
       i_ascending_L1 a_l rest5 (k4 + 1))
def i_ascending (a_l : List Int) : Option (Bool) :=
 i_ascending_L1 a_l a_l 0
theorem i_ascending_ok (a_l : List Int) (v0_0 : Sv) (R : Bool) (hF : i_ascending a_l = some R) :
   Fw.Spec Tryz.prog 228 [v0_0.v] [crd (RdS 3 rdInt) v0_0.v a_l] (fun _ : Unit => (.bool R)) (fun _ => []) := by
 refine Se 24 Tryz.func228 [.tmp 2] ?_
 intro H0 F0
 unfold i_ascending at hF
 iterate 9 refine au ?_
 refine CW_block (CW_loop (m := a_l.length) (fun m2 f' cs' => ∃ (g : Fr) (k4 : Nat) (rest5 : List Int), m2 = rest5.length ∧ f' = updL g [(0, v0_0.v), (5, (.int .i64 (a_l.length : Int))), (6, (.int .i64 (k4 : Int)))] ∧ List.drop k4 a_l = rest5 ∧ Ent cs' [crd (RdS 3 rdInt) v0_0.v a_l] ∧ i_ascending_L1 a_l rest5 k4 = some R) ⟨_, 0, _, rfl, eqA, rfl, entA, hF⟩ ?_)
 rintro m2 _ _ ⟨g3, k4, rest5, rfl, rfl, hd7, hE, hF⟩
 refine Kb hE a_l (fun hbd12 => ?_)
 rcases rest5 with _ | ⟨x6, rest5⟩
 · have hk8 := dn hd7
   rw [i_ascending_L1] at hF
   iterate 4 refine au ?_
   refine CdF ?_
   iterate 8 refine au ?_
   cases hF
   exact Er ()
 obtain ⟨hk8, hx9, hd10⟩ := drop_cons hd7
 rw [i_ascending_L1] at hF
 iterate 4 refine au ?_
 refine CdT ?_
 iterate 6 refine au ?_
 obtain ⟨o13, hio13, hO14⟩ := bind_some hF
 refine K_draw [0, 1, 2, 3, 4, 5, 6, 7, 8, 9, 10, 11, 12, 13] [0, 1, 3, 7, 7, 31, 63, 7, 7, 263, 903, 1927, 4095, 8191] [] mixed (by decide +kernel) ?_
 refine D_cut (fun f' cs' => ∃ (c24 : Bool) (g : Fr), c24 = o13 ∧ f' = updL g [(0, v0_0.v), (5, (.int .i64 (a_l.length : Int))), (6, (.int .i64 (k4 : Int))), (22, (.bool c24))] ∧ Ent cs' [crd (RdS 3 rdInt) v0_0.v a_l]) ?_ ?_
 · replace hF := hio13
   iterate 3 refine du ?_
   rcases Bool.eq_false_or_eq_true (decide ((0 : Int) < (k4 : Int))) with hg15 | hg15
   · rw [hg15]
     try rw [hg15] at hF; dsimp only [cond_true, cond_false] at hF
     iterate 2 refine du ?_
     refine Di hx9 (fun k16 j17 => ?_)
     refine Dl ls3_0 ?_
     iterate 3 refine du ?_
     refine bnd hF fun x18 hx19 hF => ?_
     obtain ⟨hp20, hx21⟩ := ix_some hx19
     refine Di hx21 (fun k22 j23 => ?_)
     refine Dl ls3_0 ?_
     iterate 3 refine du ?_
     cases hF
     exact ⟨_, _, rfl, eqA, entA⟩
   rw [hg15]
   try rw [hg15] at hF; dsimp only [cond_true, cond_false] at hF
   iterate 12 refine du ?_
   cases hF
   exact ⟨_, _, rfl, eqA, entA⟩
 rintro _ _ ⟨c24, g27, rfl, rfl, hE⟩
 replace hF := hO14
 try dsimp only at hF
 refine K_ent hE ?_
 refine Ci hF (fun hb26 hF => ?_) (fun hb26 hF => ?_)
 · iterate 4 refine au ?_
   cases hF
   exact Er ()
 iterate 5 refine au ?_
 rw [wk k4]
 exact ⟨_, Nat.lt_succ_self _, _, k4 + 1, rest5, rfl, eqA, hd10, entA, hF⟩
def i_Method_fits_1 (a_i : Int) (a_e1 : Int) : Option (Bool) :=
 (i_within a_i 0 (IntKind.i64.wrap (a_e1 - 1))).bind fun r1 =>
 some (!r1)
theorem i_Method_fits_1_ok (a_i : Int) (kc1 : Nat) (a_e1 : Int) (R : Bool) (hF : i_Method_fits_1 a_i a_e1 = some R) :
   Fw.Spec Tryz.prog 229 [(.int .i64 a_i), (pz kc1)] [cboR kc1 3 (.int .i64 a_e1)] (fun _ : Unit => (.bool R)) (fun _ => []) := by
 refine Se 9 Tryz.func229 [.tmp 3] ?_
 intro H0 F0
 unfold i_Method_fits_1 at hF
 iterate 7 refine au ?_
 refine bnd hF fun r1 hx2 hF => Cx0 (i_within_ok _ _ _ _ hx2) (fun _ => ?_)
 iterate 4 refine au ?_
 cases hF
 exact Er ()
def g_slices_IndexFunc_int_int_iMethodfits1_L1 (a_e1 : Int) : List Int → Nat → Option (Int)
 | [], k4 => some (-1)
 | x6 :: rest5, k4 => (i_Method_fits_1 x6 a_e1).bind fun r15 =>
   if r15 then (
     some (k4 : Int))
   else (
     g_slices_IndexFunc_int_int_iMethodfits1_L1 a_e1 rest5 (k4 + 1))
def g_slices_IndexFunc_int_int_iMethodfits1 (a_s : List Int) (a_e1 : Int) : Option (Int) :=
 g_slices_IndexFunc_int_int_iMethodfits1_L1 a_e1 a_s 0
theorem g_slices_IndexFunc_int_int_iMethodfits1_ok (a_s : List Int) (v0_0 : Sv) (kc1 : Nat) (a_e1 : Int) (R : Int) (hF : g_slices_IndexFunc_int_int_iMethodfits1 a_s a_e1 = some R) :
   Fw.Spec Tryz.prog 223 [v0_0.v, (.func (.func 229) [].toArray [(pz kc1)].toArray)] [crd (RdS 3 rdInt) v0_0.v a_s, cboR kc1 3 (.int .i64 a_e1)] (fun _ : Unit => (.int .i64 R)) (fun _ => []) := by
 refine Se 19 Tryz.func223 [.tmp 4] ?_
 intro H0 F0
 unfold g_slices_IndexFunc_int_int_iMethodfits1 at hF
 iterate 9 refine au ?_
 refine CW_block (CW_loop (m := a_s.length) (fun m2 f' cs' => ∃ (g : Fr) (k4 : Nat) (rest5 : List Int), m2 = rest5.length ∧ f' = updL g [(0, v0_0.v), (1, (.func (.func 229) [].toArray [(pz kc1)].toArray)), (7, (.int .i64 (a_s.length : Int))), (8, (.int .i64 (k4 : Int)))] ∧ List.drop k4 a_s = rest5 ∧ Ent cs' [crd (RdS 3 rdInt) v0_0.v a_s, cboR kc1 3 (.int .i64 a_e1)] ∧ g_slices_IndexFunc_int_int_iMethodfits1_L1 a_e1 rest5 k4 = some R) ⟨_, 0, _, rfl, eqA, rfl, entA, hF⟩ ?_)
 rintro m2 _ _ ⟨g3, k4, rest5, rfl, rfl, hd7, hE, hF⟩
 refine Kb hE a_s (fun hbd12 => ?_)
 rcases rest5 with _ | ⟨x6, rest5⟩
 · have hk8 := dn hd7
   rw [g_slices_IndexFunc_int_int_iMethodfits1_L1] at hF
   iterate 4 refine au ?_
   refine CdF ?_
   iterate 8 refine au ?_
   cases hF
   exact Er ()
 obtain ⟨hk8, hx9, hd10⟩ := drop_cons hd7
 rw [g_slices_IndexFunc_int_int_iMethodfits1_L1] at hF
 iterate 4 refine au ?_
 refine CdT ?_
 iterate 10 refine au ?_
 refine Ai hx9 (fun k13 j14 => ?_)
 refine Al ls3_0 ?_
 refine bnd hF fun r15 hx16 hF => C_x0 (.rd (.t (.t .h)) rfl .nil) (X_callCS cf229.h (.tmp rfl rfl) (.cons (.tmp rfl rfl) .nil) (i_Method_fits_1_ok x6 kc1 a_e1 _ hx16)) (fun _ => ?_)
 refine au ?_
 refine Ci hF (fun hb19 hF => ?_) (fun hb19 hF => ?_)
 · iterate 5 refine au ?_
   cases hF
   exact Er ()
 iterate 5 refine au ?_
 rw [wk k4]
 exact ⟨_, Nat.lt_succ_self _, _, k4 + 1, rest5, rfl, eqA, hd10, entA, hF⟩
def g_slices_ContainsFunc_int_int_iMethodfits1 (a_s : List Int) (a_e1 : Int) : Option (Bool) :=
 (g_slices_IndexFunc_int_int_iMethodfits1 a_s a_e1).bind fun r1 =>
 some (decide ((0 : Int) ≤ r1))
theorem g_slices_ContainsFunc_int_int_iMethodfits1_ok (a_s : List Int) (v0_0 : Sv) (kc1 : Nat) (a_e1 : Int) (R : Bool) (hF : g_slices_ContainsFunc_int_int_iMethodfits1 a_s a_e1 = some R) :
   Fw.Spec Tryz.prog 180 [v0_0.v, (.func (.func 229) [].toArray [(pz kc1)].toArray)] [crd (RdS 3 rdInt) v0_0.v a_s, cboR kc1 3 (.int .i64 a_e1)] (fun _ : Unit => (.bool R)) (fun _ => []) := by
 refine Se 9 Tryz.func180 [.tmp 4] ?_
 intro H0 F0
 unfold g_slices_ContainsFunc_int_int_iMethodfits1 at hF
 iterate 6 refine au ?_
 refine bnd hF fun r1 hx2 hF => Cx0 (g_slices_IndexFunc_int_int_iMethodfits1_ok _ _ _ _ _ hx2) (fun _ => ?_)
 iterate 4 refine au ?_
 cases hF
 exact Er ()
def i_isCost (a_n : Int) : Option (Bool) :=
 (i_within a_n 0 99).bind fun r1 =>
 some r1
theorem i_isCost_ok (a_n : Int) (R : Bool) (hF : i_isCost a_n = some R) :
   Fw.Spec Tryz.prog 230 [(.int .i64 a_n)] [] (fun _ : Unit => (.bool R)) (fun _ => []) := by
 refine Se 5 Tryz.func230 [.tmp 2] ?_
 intro H0 F0
 unfold i_isCost at hF
 iterate 5 refine au ?_
 refine bnd hF fun r1 hx2 hF => Cx0 (i_within_ok _ _ _ _ hx2) (fun _ => ?_)
 iterate 3 refine au ?_
 cases hF
 exact Er ()
def i_Method_fits (a_m : Method) (a_arity : Int) : Option (Bool) :=
 ((i_ascending a_m.Inputs).bind fun r5 =>
   bif r5 then ((g_slices_ContainsFunc_int_int_iMethodfits1 a_m.Inputs a_arity).bind fun r9 =>
     bif (!r9) then ((i_within a_m.Limit 0 9).bind fun r13 =>
       bif r13 then ((i_isCost a_m.Cost).bind fun r17 =>
         bif r17 then ((i_within a_m.Quota 1 99).bind fun r21 =>
           some r21)
         else (some false))
       else (some false))
     else (some false))
   else (some false)).bind fun o3 =>
 match o3 with
 | c24 => some c24
theorem i_Method_fits_ok (a_m : Method) (v0_1 : Sv) (a_arity : Int) (R : Bool) (hF : i_Method_fits a_m a_arity = some R) :
   Fw.Spec Tryz.prog 193 [(.agg [(.int .i64 a_m.Rel), v0_1.v, (.int .i64 a_m.Limit), (.int .i64 a_m.Cost), (.int .i64 a_m.Quota)].toArray), (.int .i64 a_arity)] [crd (RdS 3 rdInt) v0_1.v a_m.Inputs] (fun _ : Unit => (.bool R)) (fun _ => []) := by
 refine Se 30 Tryz.func193 [.tmp 4] ?_
 intro H0 F0
 unfold i_Method_fits at hF
 refine au ?_
 refine AbR (fun k1 => ?_)
 refine AbR (fun k2 => ?_)
 iterate 2 refine au ?_
 obtain ⟨o3, hio3, hO4⟩ := bind_some hF
 refine au ?_
 refine C_cut (fun f' cs' => ∃ (c24 : Bool) (g : Fr), c24 = o3 ∧ f' = updL g [(4, (.bool c24))] ∧ Ent cs' []) ?_ ?_
 · replace hF := hio3
   iterate 2 refine au ?_
   refine bnd hF fun r5 hx6 hF => Cx0 (i_ascending_ok _ _ _ hx6) (fun _ => ?_)
   refine au ?_
   rcases Bool.eq_false_or_eq_true r5 with hg8 | hg8
   · rw [hg8]
     try rw [hg8] at hF; dsimp only [cond_true, cond_false] at hF
     iterate 5 refine au ?_
     refine C_val (V_makeFunc (fn := .func 229) (vs := []) (us := [(pz k2)]) .nil (.cons (.tmp rfl rfl) .nil)) ?_
     refine au ?_
     refine bnd hF fun r9 hx10 hF => Cx0 (g_slices_ContainsFunc_int_int_iMethodfits1_ok _ _ _ _ _ hx10) (fun _ => ?_)
     iterate 4 refine au ?_
     rcases Bool.eq_false_or_eq_true (!r9) with hg12 | hg12
     · rw [hg12]
       try rw [hg12] at hF; dsimp only [cond_true, cond_false] at hF
       iterate 5 refine au ?_
       refine bnd hF fun r13 hx14 hF => Cx0 (i_within_ok _ _ _ _ hx14) (fun _ => ?_)
       iterate 2 refine au ?_
       rcases Bool.eq_false_or_eq_true r13 with hg16 | hg16
       · rw [hg16]
         try rw [hg16] at hF; dsimp only [cond_true, cond_false] at hF
         iterate 5 refine au ?_
         refine bnd hF fun r17 hx18 hF => Cx0 (i_isCost_ok _ _ hx18) (fun _ => ?_)
         iterate 2 refine au ?_
         rcases Bool.eq_false_or_eq_true r17 with hg20 | hg20
         · rw [hg20]
           try rw [hg20] at hF; dsimp only [cond_true, cond_false] at hF
           iterate 5 refine au ?_
           refine bnd hF fun r21 hx22 hF => Cx0 (i_within_ok _ _ _ _ hx22) (fun _ => ?_)
           iterate 3 refine au ?_
           cases hF
           exact ⟨_, _, rfl, eqA, entA⟩
         rw [hg20]
         try rw [hg20] at hF; dsimp only [cond_true, cond_false] at hF
         iterate 6 refine au ?_
         cases hF
         exact ⟨_, _, rfl, eqA, entA⟩
       rw [hg16]
       try rw [hg16] at hF; dsimp only [cond_true, cond_false] at hF
       iterate 11 refine au ?_
       cases hF
       exact ⟨_, _, rfl, eqA, entA⟩
     rw [hg12]
     try rw [hg12] at hF; dsimp only [cond_true, cond_false] at hF
     iterate 16 refine au ?_
     cases hF
     exact ⟨_, _, rfl, eqA, entA⟩
   rw [hg8]
   try rw [hg8] at hF; dsimp only [cond_true, cond_false] at hF
   iterate 23 refine au ?_
   cases hF
   exact ⟨_, _, rfl, eqA, entA⟩
 rintro _ _ ⟨c24, g25, rfl, rfl, hE⟩
 replace hF := hO4
 try dsimp only at hF
 refine K_ent hE ?_
 refine au ?_
 cases hF
 exact Er ()
def i_IsMethod (a_s : List Int) (a_m : Method) : Option (Bool) :=
 ((i_hasRel a_s a_m.Rel).bind fun r4 =>
   bif r4 then ((ix a_s a_m.Rel).bind fun x8 =>
     (i_Method_fits a_m x8).bind fun r14 =>
     some r14)
   else (some false)).bind fun o2 =>
 match o2 with
 | c17 => some c17
theorem i_IsMethod_ok (a_s : List Int) (v0_0 : Sv) (a_m : Method) (v1_1 : Sv) (R : Bool) (hF : i_IsMethod a_s a_m = some R) :
   Fw.Spec Tryz.prog 141 [v0_0.v, (.agg [(.int .i64 a_m.Rel), v1_1.v, (.int .i64 a_m.Limit), (.int .i64 a_m.Cost), (.int .i64 a_m.Quota)].toArray)] [crd (RdS 3 rdInt) v0_0.v a_s, crd (RdS 3 rdInt) v1_1.v a_m.Inputs] (fun _ : Unit => (.bool R)) (fun _ => []) := by
 refine Se 18 Tryz.func141 [.tmp 4] ?_
 intro H0 F0
 unfold i_IsMethod at hF
 refine au ?_
 refine AbR (fun k1 => ?_)
 iterate 2 refine au ?_
 obtain ⟨o2, hio2, hO3⟩ := bind_some hF
 refine K_draw [0, 1, 2, 3, 4, 5, 6, 7, 8, 9, 10, 11, 12, 13] [0, 0, 2, 7, 15, 31, 31, 31, 159, 479, 991, 2047, 4095, 8191] [3, 11] mixed (by decide +kernel) ?_
 refine D_cut (fun f' cs' => ∃ (c17 : Bool) (g : Fr), c17 = o2 ∧ f' = updL g [(4, (.bool c17))] ∧ Ent cs' []) ?_ ?_
 · replace hF := hio2
   iterate 3 refine du ?_
   refine bnd hF fun r4 hx5 hF => Dx0 (i_hasRel_ok _ _ _ _ hx5) (fun _ => ?_)
   refine du ?_
   rcases Bool.eq_false_or_eq_true r4 with hg7 | hg7
   · rw [hg7]
     try rw [hg7] at hF; dsimp only [cond_true, cond_false] at hF
     iterate 4 refine du ?_
     refine bnd hF fun x8 hx9 hF => ?_
     obtain ⟨hp10, hx11⟩ := ix_some hx9
     refine Di hx11 (fun k12 j13 => ?_)
     refine Dl ls3_0 ?_
     refine bnd hF fun r14 hx15 hF => Dx0 (i_Method_fits_ok _ _ _ _ hx15) (fun _ => ?_)
     iterate 3 refine du ?_
     cases hF
     exact ⟨_, _, rfl, eqA, entA⟩
   rw [hg7]
   try rw [hg7] at hF; dsimp only [cond_true, cond_false] at hF
   iterate 10 refine du ?_
   cases hF
   exact ⟨_, _, rfl, eqA, entA⟩
 rintro _ _ ⟨c17, g18, rfl, rfl, hE⟩
 replace hF := hO3
 try dsimp only at hF
 refine K_ent hE ?_
 refine au ?_
 cases hF
 exact Er ()
def i_AreMethods_1 (a_m : Method) (a_e1 : List Int) : Option (Bool) :=
 (i_IsMethod a_e1 a_m).bind fun r2 =>
 some (!r2)
theorem i_AreMethods_1_ok (a_m : Method) (v0_1 : Sv) (kc1 : Nat) (a_e1 : List Int) (vc1_0 : Sv) (R : Bool) (hF : i_AreMethods_1 a_m a_e1 = some R) :
   Fw.Spec Tryz.prog 140 [(.agg [(.int .i64 a_m.Rel), v0_1.v, (.int .i64 a_m.Limit), (.int .i64 a_m.Cost), (.int .i64 a_m.Quota)].toArray), (pz kc1)] [crd (RdS 3 rdInt) v0_1.v a_m.Inputs, cboR kc1 22 vc1_0.v, crd (RdS 3 rdInt) vc1_0.v a_e1] (fun _ : Unit => (.bool R)) (fun _ => []) := by
 refine Se 8 Tryz.func140 [.tmp 3] ?_
 intro H0 F0
 unfold i_AreMethods_1 at hF
 refine au ?_
 refine AbR (fun k1 => ?_)
 iterate 5 refine au ?_
 refine bnd hF fun r2 hx3 hF => Cx0 (i_IsMethod_ok _ _ _ _ _ hx3) (fun _ => ?_)
 iterate 4 refine au ?_
 cases hF
 exact Er ()
def g_slices_IndexFunc_impl_Method_impl_Method_iAreMethods1_L1 (a_e1 : List Int) : List Method → Nat → Option (Int)
 | [], k4 => some (-1)
 | x6 :: rest5, k4 => (i_AreMethods_1 x6 a_e1).bind fun r16 =>
   if r16 then (
     some (k4 : Int))
   else (
     g_slices_IndexFunc_impl_Method_impl_Method_iAreMethods1_L1 a_e1 rest5 (k4 + 1))
def g_slices_IndexFunc_impl_Method_impl_Method_iAreMethods1 (a_s : List Method) (a_e1 : List Int) : Option (Int) :=
 g_slices_IndexFunc_impl_Method_impl_Method_iAreMethods1_L1 a_e1 a_s 0
theorem g_slices_IndexFunc_impl_Method_impl_Method_iAreMethods1_ok (a_s : List Method) (v0_0 : Sv) (kc1 : Nat) (a_e1 : List Int) (vc1_0 : Sv) (R : Int) (hF : g_slices_IndexFunc_impl_Method_impl_Method_iAreMethods1 a_s a_e1 = some R) :
   Fw.Spec Tryz.prog 191 [v0_0.v, (.func (.func 140) [].toArray [(pz kc1)].toArray)] [crd (RdS 86 rd86) v0_0.v a_s, cboR kc1 22 vc1_0.v, crd (RdS 3 rdInt) vc1_0.v a_e1] (fun _ : Unit => (.int .i64 R)) (fun _ => []) := by
 refine Se 19 Tryz.func191 [.tmp 4] ?_
 intro H0 F0
 unfold g_slices_IndexFunc_impl_Method_impl_Method_iAreMethods1 at hF
 iterate 9 refine au ?_
 refine CW_block (CW_loop (m := a_s.length) (fun m2 f' cs' => ∃ (g : Fr) (k4 : Nat) (rest5 : List Method), m2 = rest5.length ∧ f' = updL g [(0, v0_0.v), (1, (.func (.func 140) [].toArray [(pz kc1)].toArray)), (7, (.int .i64 (a_s.length : Int))), (8, (.int .i64 (k4 : Int)))] ∧ List.drop k4 a_s = rest5 ∧ Ent cs' [crd (RdS 86 rd86) v0_0.v a_s, cboR kc1 22 vc1_0.v, crd (RdS 3 rdInt) vc1_0.v a_e1] ∧ g_slices_IndexFunc_impl_Method_impl_Method_iAreMethods1_L1 a_e1 rest5 k4 = some R) ⟨_, 0, _, rfl, eqA, rfl, entA, hF⟩ ?_)
 rintro m2 _ _ ⟨g3, k4, rest5, rfl, rfl, hd7, hE, hF⟩
 refine Kb hE a_s (fun hbd12 => ?_)
 rcases rest5 with _ | ⟨x6, rest5⟩
 · have hk8 := dn hd7
   rw [g_slices_IndexFunc_impl_Method_impl_Method_iAreMethods1_L1] at hF
   iterate 4 refine au ?_
   refine CdF ?_
   iterate 8 refine au ?_
   cases hF
   exact Er ()
 obtain ⟨hk8, hx9, hd10⟩ := drop_cons hd7
 rw [g_slices_IndexFunc_impl_Method_impl_Method_iAreMethods1_L1] at hF
 iterate 4 refine au ?_
 refine CdT ?_
 iterate 10 refine au ?_
 refine Ai hx9 (fun k13 j14 => ?_)
 refine AlA1 (ul86_0_86 x6) la86_0_86 (fun p15 => ?_)
 refine bnd hF fun r16 hx17 hF => C_x0 (.rd .h rfl (.rd (.t (.t (.t .h))) rfl (.rd (.t (.t (.t (.t .h)))) rfl .nil))) (X_callCS cf140.h (.tmp rfl rfl) (.cons (.tmp rfl rfl) .nil) (i_AreMethods_1_ok x6 p15 kc1 a_e1 vc1_0 _ hx17)) (fun _ => ?_)
 refine au ?_
 refine Ci hF (fun hb20 hF => ?_) (fun hb20 hF => ?_)
 · iterate 5 refine au ?_
   cases hF
   exact Er ()
 iterate 5 refine au ?_
 rw [wk k4]
 exact ⟨_, Nat.lt_succ_self _, _, k4 + 1, rest5, rfl, eqA, hd10, entA, hF⟩
def g_slices_ContainsFunc_impl_Method_impl_Method_iAreMethods1 (a_s : List Method) (a_e1 : List Int) : Option (Bool) :=
 (g_slices_IndexFunc_impl_Method_impl_Method_iAreMethods1 a_s a_e1).bind fun r1 =>
 some (decide ((0 : Int) ≤ r1))
theorem g_slices_ContainsFunc_impl_Method_impl_Method_iAreMethods1_ok (a_s : List Method) (v0_0 : Sv) (kc1 : Nat) (a_e1 : List Int) (vc1_0 : Sv) (R : Bool) (hF : g_slices_ContainsFunc_impl_Method_impl_Method_iAreMethods1 a_s a_e1 = some R) :
   Fw.Spec Tryz.prog 139 [v0_0.v, (.func (.func 140) [].toArray [(pz kc1)].toArray)] [crd (RdS 86 rd86) v0_0.v a_s, cboR kc1 22 vc1_0.v, crd (RdS 3 rdInt) vc1_0.v a_e1] (fun _ : Unit => (.bool R)) (fun _ => []) := by
 refine Se 9 Tryz.func139 [.tmp 4] ?_
 intro H0 F0
 unfold g_slices_ContainsFunc_impl_Method_impl_Method_iAreMethods1 at hF
 iterate 6 refine au ?_
 refine bnd hF fun r1 hx2 hF => Cx0 (g_slices_IndexFunc_impl_Method_impl_Method_iAreMethods1_ok _ _ _ _ _ _ hx2) (fun _ => ?_)
 iterate 4 refine au ?_
 cases hF
 exact Er ()
def i_AreMethods (a_s : List Int) (a_l : List Method) : Option (Bool) :=
 ((i_IsSchema a_s).bind fun r4 =>
   bif r4 then (bif (decide (((a_l.length : Int) : Int) ≤ 5)) then ((g_slices_ContainsFunc_impl_Method_impl_Method_iAreMethods1 a_l a_s).bind fun r9 =>
       some (!r9))
     else (some false))
   else (some false)).bind fun o2 =>
 match o2 with
 | c12 => some c12
theorem i_AreMethods_ok (a_s : List Int) (v0_0 : Sv) (a_l : List Method) (v1_0 : Sv) (R : Bool) (hF : i_AreMethods a_s a_l = some R) :
   Fw.Spec Tryz.prog 83 [v0_0.v, v1_0.v] [crd (RdS 3 rdInt) v0_0.v a_s, crd (RdS 86 rd86) v1_0.v a_l] (fun _ : Unit => (.bool R)) (fun _ => []) := by
 refine Se 18 Tryz.func83 [.tmp 4] ?_
 intro H0 F0
 unfold i_AreMethods at hF
 refine au ?_
 refine AbR (fun k1 => ?_)
 iterate 2 refine au ?_
 obtain ⟨o2, hio2, hO3⟩ := bind_some hF
 refine au ?_
 refine C_cut (fun f' cs' => ∃ (c12 : Bool) (g : Fr), c12 = o2 ∧ f' = updL g [(4, (.bool c12))] ∧ Ent cs' []) ?_ ?_
 · replace hF := hio2
   refine au ?_
   refine bnd hF fun r4 hx5 hF => Cx0 (i_IsSchema_ok _ _ _ hx5) (fun _ => ?_)
   refine au ?_
   rcases Bool.eq_false_or_eq_true r4 with hg7 | hg7
   · rw [hg7]
     try rw [hg7] at hF; dsimp only [cond_true, cond_false] at hF
     iterate 8 refine au ?_
     rcases Bool.eq_false_or_eq_true (decide (((a_l.length : Int) : Int) ≤ 5)) with hg8 | hg8
     · rw [hg8]
       try rw [hg8] at hF; dsimp only [cond_true, cond_false] at hF
       iterate 3 refine au ?_
       refine C_val (V_makeFunc (fn := .func 140) (vs := []) (us := [(pz k1)]) .nil (.cons (.tmp rfl rfl) .nil)) ?_
       refine au ?_
       refine bnd hF fun r9 hx10 hF => Cx0 (g_slices_ContainsFunc_impl_Method_impl_Method_iAreMethods1_ok _ _ _ _ _ _ hx10) (fun _ => ?_)
       iterate 5 refine au ?_
       cases hF
       exact ⟨_, _, rfl, eqA, entA⟩
     rw [hg8]
     try rw [hg8] at hF; dsimp only [cond_true, cond_false] at hF
     iterate 7 refine au ?_
     cases hF
     exact ⟨_, _, rfl, eqA, entA⟩
   rw [hg7]
   try rw [hg7] at hF; dsimp only [cond_true, cond_false] at hF
   iterate 12 refine au ?_
   cases hF
   exact ⟨_, _, rfl, eqA, entA⟩
 rintro _ _ ⟨c12, g13, rfl, rfl, hE⟩
 replace hF := hO3
 try dsimp only at hF
 refine K_ent hE ?_
 refine au ?_
 cases hF
 exact Er ()
def g_slices_Index_int_int_L1 (a_v : Int) : List Int → Nat → Option (Int)
 | [], k4 => some (-1)
 | x6 :: rest5, k4 => if ((a_v : Int) == x6) then (
     some (k4 : Int))
   else (
     g_slices_Index_int_int_L1 a_v rest5 (k4 + 1))
def g_slices_Index_int_int (a_s : List Int) (a_v : Int) : Option (Int) :=
 g_slices_Index_int_int_L1 a_v a_s 0
theorem g_slices_Index_int_int_ok (a_s : List Int) (v0_0 : Sv) (a_v : Int) (R : Int) (hF : g_slices_Index_int_int a_s a_v = some R) :
   Fw.Spec Tryz.prog 246 [v0_0.v, (.int .i64 a_v)] [crd (RdS 3 rdInt) v0_0.v a_s] (fun _ : Unit => (.int .i64 R)) (fun _ => []) := by
 refine Se 19 Tryz.func246 [.tmp 4] ?_
 intro H0 F0
 unfold g_slices_Index_int_int at hF
 iterate 9 refine au ?_
 refine CW_block (CW_loop (m := a_s.length) (fun m2 f' cs' => ∃ (g : Fr) (k4 : Nat) (rest5 : List Int), m2 = rest5.length ∧ f' = updL g [(0, v0_0.v), (1, (.int .i64 a_v)), (7, (.int .i64 (a_s.length : Int))), (8, (.int .i64 (k4 : Int)))] ∧ List.drop k4 a_s = rest5 ∧ Ent cs' [crd (RdS 3 rdInt) v0_0.v a_s] ∧ g_slices_Index_int_int_L1 a_v rest5 k4 = some R) ⟨_, 0, _, rfl, eqA, rfl, entA, hF⟩ ?_)
 rintro m2 _ _ ⟨g3, k4, rest5, rfl, rfl, hd7, hE, hF⟩
 refine Kb hE a_s (fun hbd12 => ?_)
 rcases rest5 with _ | ⟨x6, rest5⟩
 · have hk8 := dn hd7
   rw [g_slices_Index_int_int_L1] at hF
   iterate 4 refine au ?_
   refine CdF ?_
   iterate 8 refine au ?_
   cases hF
   exact Er ()
 obtain ⟨hk8, hx9, hd10⟩ := drop_cons hd7
 rw [g_slices_Index_int_int_L1] at hF
 iterate 4 refine au ?_
 refine CdT ?_
 iterate 10 refine au ?_
 refine Ai hx9 (fun k13 j14 => ?_)
 refine Al ls3_0 ?_
 iterate 2 refine au ?_
 refine Ci hF (fun hb16 hF => ?_) (fun hb16 hF => ?_)
 · iterate 5 refine au ?_
   cases hF
   exact Er ()
 iterate 5 refine au ?_
 rw [wk k4]
 exact ⟨_, Nat.lt_succ_self _, _, k4 + 1, rest5, rfl, eqA, hd10, entA, hF⟩
def g_slices_Contains_int_int (a_s : List Int) (a_v : Int) : Option (Bool) :=
 (g_slices_Index_int_int a_s a_v).bind fun r1 =>
 some (decide ((0 : Int) ≤ r1))
theorem g_slices_Contains_int_int_ok (a_s : List Int) (v0_0 : Sv) (a_v : Int) (R : Bool) (hF : g_slices_Contains_int_int a_s a_v = some R) :
   Fw.Spec Tryz.prog 207 [v0_0.v, (.int .i64 a_v)] [crd (RdS 3 rdInt) v0_0.v a_s] (fun _ : Unit => (.bool R)) (fun _ => []) := by
 refine Se 9 Tryz.func207 [.tmp 4] ?_
 intro H0 F0
 unfold g_slices_Contains_int_int at hF
 iterate 6 refine au ?_
 refine bnd hF fun r1 hx2 hF => Cx0 (g_slices_Index_int_int_ok _ _ _ _ hx2) (fun _ => ?_)
 iterate 4 refine au ?_
 cases hF
 exact Er ()
def g_slices_Clone_int_int (a_s : List Int) : Option ((List Int)) :=
 (app ([] : List Int) a_s).bind fun z5 =>
 some z5
theorem g_slices_Clone_int_int_ok (a_s : List Int) (v0_0 : Sv) (R : (List Int)) (hF : g_slices_Clone_int_int a_s = some R) :
   Fw.Spec Tryz.prog 213 [v0_0.v] [crd (RdS 3 rdInt) v0_0.v a_s] (fun p : Sv × List Nat => p.1.v) (fun p => [cown (OwnS 3 (roE rdInt)) p.2 p.1.v R]) := by
 refine Se 8 Tryz.func213 [.tmp 2] ?_
 intro H0 F0
 unfold g_slices_Clone_int_int at hF
 iterate 6 refine au ?_
 refine C_eqNil (xs := a_s) sl22.h (.tmp rfl rfl) .h crd_nilc (fun bn1 hn2 => ?_)
 refine au ?_
 refine Cc (fun hb3 => ?_) (fun hb3 => ?_)
 · have hnil := hn2 hb3
   replace hF : some [] = some R := by rw [hnil] at hF; simpa [app] using hF
   iterate 4 refine au ?_
   cases hF
   exact End_ret (⟨none, 0, 0⟩, []) (.tmp rfl rfl .nil) rfl (.conv .nil (own_nil (Ro := (roE rdInt)) (E := 3)) (.cons .nil) (.sel (.cons .h .nil)))
 iterate 2 refine au ?_
 refine C_new rfl (N_buildSliceT (g := true) sl22.h ty3.h .nil (vs := []) rfl rfl rfl (by simp)) (fun k4 => ?_)
 refine Cv1 (.cons .h .nil) (own_lit (Ro := (roE rdInt)) (E := 3) (F := []) (xs := ([] : List Int)) MkL_nil rfl rfl) ?_
 refine au ?_
 refine bnd hF fun z5 hx6 hF => C_x1 (.cons .h (.rd .h rfl .nil)) (X_appendO (Ro := (roE rdInt)) sl22.h ni22 ty3.h rfl rfl rfl (.tmp rfl rfl) (.tmp rfl rfl) hx6 src_rd) (fun p7 => ?_)
 iterate 3 refine au ?_
 cases hF
 exact Er (p7.1, p7.2)
def i_copyAccess (a_a : Access) : Option (Access) :=
 (g_slices_Clone_int_int a_a.Values).bind fun r3 =>
 some ({ Method := a_a.Method, Values := r3 } : Access)
theorem i_copyAccess_ok (a_a : Access) (v0_1 : Sv) (R : Access) (hF : i_copyAccess a_a = some R) :
   Fw.Spec Tryz.prog 247 [(.agg [(.int .i64 a_a.Method), v0_1.v].toArray)] [crd (RdS 3 rdInt) v0_1.v a_a.Values] (fun p : Sv × List Nat => (.agg [(.int .i64 R.Method), p.1.v].toArray)) (fun p => [cown (OwnS 3 (roE rdInt)) p.2 p.1.v R.Values]) := by
 refine Se 9 Tryz.func247 [.cell 2 88] ?_
 intro H0 F0
 unfold i_copyAccess at hF
 refine au ?_
 refine AbR (fun k1 => ?_)
 refine AnW (fun k2 => ?_)
 refine au ?_
 refine K_draw [0, 1, 2, 3, 4, 5, 6] [0, 1, 0, 4, 12, 31, 63] [4, 6] mixed (by decide +kernel) ?_
 iterate 4 refine du ?_
 refine bnd hF fun r3 hx4 hF => Dx1 (g_slices_Clone_int_int_ok _ _ _ hx4) (fun p5 => ?_)
 refine D_val rfl .no (fun ha => V_build ty88.h rfl (vs := [(.int .i64 a_a.Method), p5.1.v]) (.cons (EN ha (.tmp rfl rfl) rfl) (.cons (EN ha (.tmp rfl rfl) rfl) .nil)) (cells := [(.int .i64 a_a.Method), p5.1.v]) rfl) ?_
 refine D_act1 rfl rfl .no (.cons (.t .h) .nil) .nil (fun ha => X_storeB (e' := (.agg [(.int .i64 a_a.Method), p5.1.v].toArray)) (v := (.agg [(.int .i64 a_a.Method), p5.1.v].toArray)) ty88.h.sz (EN ha (.tmp rfl rfl) rfl) (EN ha (.tmp rfl rfl) rfl) rfl rfl rfl rfl rfl) (fun _ => ?_)
 refine du ?_
 refine au ?_
 cases hF
 exact Er (p5.1, p5.2)
def i_copyFact (a_f : Fact) : Option (Fact) :=
 (g_slices_Clone_int_int a_f.Values).bind fun r3 =>
 some ({ Rel := a_f.Rel, Values := r3 } : Fact)
theorem i_copyFact_ok (a_f : Fact) (v0_1 : Sv) (R : Fact) (hF : i_copyFact a_f = some R) :
   Fw.Spec Tryz.prog 165 [(.agg [(.int .i64 a_f.Rel), v0_1.v].toArray)] [crd (RdS 3 rdInt) v0_1.v a_f.Values] (fun p : Sv × List Nat => (.agg [(.int .i64 R.Rel), p.1.v].toArray)) (fun p => [cown (OwnS 3 (roE rdInt)) p.2 p.1.v R.Values]) := by
 refine Se 9 Tryz.func165 [.cell 2 129] ?_
 intro H0 F0
 unfold i_copyFact at hF
 refine au ?_
 refine AbR (fun k1 => ?_)
 refine AnW (fun k2 => ?_)
 refine au ?_
 refine K_draw [0, 1, 2, 3, 4, 5, 6] [0, 1, 0, 4, 12, 31, 63] [4, 6] mixed (by decide +kernel) ?_
 iterate 4 refine du ?_
 refine bnd hF fun r3 hx4 hF => Dx1 (g_slices_Clone_int_int_ok _ _ _ hx4) (fun p5 => ?_)
 refine D_val rfl .no (fun ha => V_build ty129.h rfl (vs := [(.int .i64 a_f.Rel), p5.1.v]) (.cons (EN ha (.tmp rfl rfl) rfl) (.cons (EN ha (.tmp rfl rfl) rfl) .nil)) (cells := [(.int .i64 a_f.Rel), p5.1.v]) rfl) ?_
 refine D_act1 rfl rfl .no (.cons (.t .h) .nil) .nil (fun ha => X_storeB (e' := (.agg [(.int .i64 a_f.Rel), p5.1.v].toArray)) (v := (.agg [(.int .i64 a_f.Rel), p5.1.v].toArray)) ty129.h.sz (EN ha (.tmp rfl rfl) rfl) (EN ha (.tmp rfl rfl) rfl) rfl rfl rfl rfl rfl) (fun _ => ?_)
 refine du ?_
 refine au ?_
 cases hF
 exact Er (p5.1, p5.2)
def i_copyFacts_L1 : List Fact → Nat → (List Fact) → Option ((List Fact))
 | [], k8, c2 => some c2
 | x10 :: rest9, k8, c2 => (i_copyFact x10).bind fun r21 =>
   (app c2 ([r21] : List Fact)).bind fun z25 =>
   i_copyFacts_L1 rest9 (k8 + 1) z25
def i_copyFacts (a_l : List Fact) : Option ((List Fact)) :=
 i_copyFacts_L1 a_l 0 ([] : List Fact)
theorem i_copyFacts_ok (a_l : List Fact) (v0_0 : Sv) (R : (List Fact)) (hF : i_copyFacts a_l = some R) :
   Fw.Spec Tryz.prog 238 [v0_0.v] [crd (RdS 129 rd129) v0_0.v a_l] (fun p : Sv × List Nat => p.1.v) (fun p => [cown (OwnS 129 ow129) p.2 p.1.v R]) := by
 refine Se 20 Tryz.func238 [.tmp 2] ?_
 intro H0 F0
 unfold i_copyFacts at hF
 iterate 4 refine au ?_
 refine C_new rfl (N_buildSliceT (g := true) sl52.h ty129.h .nil (vs := []) rfl rfl rfl (by simp)) (fun k1 => ?_)
 refine Cv1 (.cons .h .nil) (own_lit (Ro := ow129) (E := 129) (F := []) (xs := ([] : List Fact)) MkL_nil rfl rfl) ?_
 iterate 8 refine au ?_
 refine CW_block (CW_loop (m := a_l.length) (fun m6 f' cs' => ∃ (g : Fr) (k8 : Nat) (rest9 : List Fact) (c2 : List Fact) (v3 : Sv) (F4 : List Nat), m6 = rest9.length ∧ f' = updL g [(3, v3.v), (7, v0_0.v), (8, (.int .i64 (a_l.length : Int))), (9, (.int .i64 (k8 : Int)))] ∧ List.drop k8 a_l = rest9 ∧ Ent cs' [cown (OwnS 129 ow129) F4 v3.v c2, crd (RdS 129 rd129) v0_0.v a_l] ∧ i_copyFacts_L1 rest9 k8 c2 = some R) ⟨_, 0, _, _, ⟨(some ⟨k1, 0, none⟩), 0, 1⟩, (k1 :: []), rfl, eqA, rfl, entA, hF⟩ ?_)
 rintro m6 _ _ ⟨g7, k8, rest9, c2, v3, F4, rfl, rfl, hd11, hE, hF⟩
 refine Kb hE a_l (fun hbd16 => ?_)
 rcases rest9 with _ | ⟨x10, rest9⟩
 · have hk12 := dn hd11
   rw [i_copyFacts_L1] at hF
   iterate 4 refine au ?_
   refine CdF ?_
   iterate 9 refine au ?_
   cases hF
   exact Er (v3, F4)
 obtain ⟨hk12, hx13, hd14⟩ := drop_cons hd11
 rw [i_copyFacts_L1] at hF
 iterate 4 refine au ?_
 refine CdT ?_
 iterate 3 refine au ?_
 refine Ai hx13 (fun k17 j18 => ?_)
 refine AlA1 (ul129_0_129 x10) la129_0_129 (fun p19 => ?_)
 refine AnW (fun k20 => ?_)
 refine As (.agg [(.int .i64 x10.Rel), p19.v].toArray) ?_
 iterate 4 refine au ?_
 refine bnd hF fun r21 hx22 hF => Cx1 (i_copyFact_ok _ _ _ hx22) (fun p23 => ?_)
 refine C_new rfl (N_buildSliceT (g := true) sl52.h ty129.h (.cons (.tmp rfl rfl) .nil) (vs := [(.agg [(.int .i64 r21.Rel), p23.1.v].toArray)]) rfl rfl rfl (by intro v hv; simp at hv; rcases hv with rfl <;> rfl)) (fun k24 => ?_)
 refine Cv1 (.cons .h (.cons .h .nil)) (own_lit (Ro := ow129) (E := 129) (F := (p23.2 ++ [])) (xs := ([r21] : List Fact)) (MkL_cons mk129 MkL_nil apps) rfl rfl) ?_
 refine bnd hF fun z25 hx26 hF => C_x1 (.cons (.t (.t (.t (.t .h)))) (.cons .h .nil)) (X_appendO (Ro := ow129) sl52.h ni52 ty129.h rfl rfl rfl (.tmp rfl rfl) (.tmp rfl rfl) hx26 src_own) (fun p27 => ?_)
 iterate 6 refine au ?_
 rw [wk k8]
 exact ⟨_, Nat.lt_succ_self _, _, k8 + 1, rest9, _, p27.1, p27.2, rfl, eqA, hd14, entA, hF⟩
def i_copyTold (a_t : Told) : Option (Told) :=
 (i_copyAccess a_t.Access).bind fun r3 =>
 (i_copyFacts a_t.Facts).bind fun r6 =>
 some ({ Access := r3, Facts := r6 } : Told)
theorem i_copyTold_ok (a_t : Told) (v0_1 : Sv) (v0_2 : Sv) (R : Told) (hF : i_copyTold a_t = some R) :
   Fw.Spec Tryz.prog 208 [(.agg [(.int .i64 a_t.Access.Method), v0_1.v, v0_2.v].toArray)] [crd (RdS 3 rdInt) v0_1.v a_t.Access.Values, crd (RdS 129 rd129) v0_2.v a_t.Facts] (fun p : Sv × List Nat × Sv × List Nat => (.agg [(.int .i64 R.Access.Method), p.1.v, p.2.2.1.v].toArray)) (fun p => [cown (OwnS 3 (roE rdInt)) p.2.1 p.1.v R.Access.Values, cown (OwnS 129 ow129) p.2.2.2 p.2.2.1.v R.Facts]) := by
 refine Se 10 Tryz.func208 [.cell 2 90] ?_
 intro H0 F0
 unfold i_copyTold at hF
 refine au ?_
 refine AbR (fun k1 => ?_)
 refine AnW (fun k2 => ?_)
 refine au ?_
 refine K_draw [0, 1, 3, 4, 2, 5, 6, 7] [0, 1, 3, 0, 8, 31, 63, 127] [2, 5, 7] mixed (by decide +kernel) ?_
 refine du ?_
 refine D_at rfl .no (.t .h) rfl (fun ha hp => V_loadA (s := 2) (l := [(.int .i64 a_t.Access.Method), v0_1.v]) ag88.h ty88.h.sz (EN ha (.tmp rfl rfl) rfl) hp.2 rfl (by decide) (Nat.le_of_ble_eq_true rfl) rfl) ?_
 iterate 2 refine du ?_
 refine bnd hF fun r3 hx4 hF => Dx1 (i_copyAccess_ok _ _ _ hx4) (fun p5 => ?_)
 refine bnd hF fun r6 hx7 hF => Dx1 (i_copyFacts_ok _ _ _ hx7) (fun p8 => ?_)
 refine D_val rfl .no (fun ha => V_build ty90.h rfl (vs := [(.agg [(.int .i64 r3.Method), p5.1.v].toArray), p8.1.v]) (.cons (EN ha (.tmp rfl rfl) rfl) (.cons (EN ha (.tmp rfl rfl) rfl) .nil)) (cells := [(.int .i64 r3.Method), p5.1.v, p8.1.v]) rfl) ?_
 refine D_act1 rfl rfl .no (.cons (.t (.t .h)) .nil) .nil (fun ha => X_storeB (e' := (.agg [(.int .i64 r3.Method), p5.1.v, p8.1.v].toArray)) (v := (.agg [(.int .i64 r3.Method), p5.1.v, p8.1.v].toArray)) ty90.h.sz (EN ha (.tmp rfl rfl) rfl) (EN ha (.tmp rfl rfl) rfl) rfl rfl rfl rfl rfl) (fun _ => ?_)
 refine du ?_
 refine au ?_
 cases hF
 exact Er (p5.1, p5.2, p8.1, p8.2)
def i_Without_L1 (a_drop : List Int) : List Told → Nat → (List Told) → Option ((List Told))
 | [], k8, c2 => some c2
 | x10 :: rest9, k8, c2 => ((g_slices_Contains_int_int a_drop (k8 : Int)).bind fun r23 =>
     if (!r23) then (
       (i_copyTold x10).bind fun r26 =>
       (app c2 ([r26] : List Told)).bind fun z30 =>
       some z30)
     else (
       some c2)).bind fun o17 =>
   match o17 with
   | c34 => i_Without_L1 a_drop rest9 (k8 + 1) c34
def i_Without (a_list : List Told) (a_drop : List Int) : Option ((List Told)) :=
 i_Without_L1 a_drop a_list 0 ([] : List Told)
theorem i_Without_ok (a_list : List Told) (v0_0 : Sv) (a_drop : List Int) (v1_0 : Sv) (R : (List Told)) (hF : i_Without a_list a_drop = some R) :
   Fw.Spec Tryz.prog 154 [v0_0.v, v1_0.v] [crd (RdS 90 rd90) v0_0.v a_list, crd (RdS 3 rdInt) v1_0.v a_drop] (fun p : Sv × List Nat => p.1.v) (fun p => [cown (OwnS 90 ow90) p.2 p.1.v R]) := by
 refine Se 27 Tryz.func154 [.tmp 4] ?_
 intro H0 F0
 unfold i_Without at hF
 iterate 4 refine au ?_
 refine C_new rfl (N_buildSliceT (g := true) sl31.h ty90.h .nil (vs := []) rfl rfl rfl (by simp)) (fun k1 => ?_)
 refine Cv1 (.cons .h .nil) (own_lit (Ro := ow90) (E := 90) (F := []) (xs := ([] : List Told)) MkL_nil rfl rfl) ?_
 iterate 8 refine au ?_
 refine CW_block (CW_loop (m := a_list.length) (fun m6 f' cs' => ∃ (g : Fr) (k8 : Nat) (rest9 : List Told) (c2 : List Told) (v3 : Sv) (F4 : List Nat), m6 = rest9.length ∧ f' = updL g [(1, v1_0.v), (5, v3.v), (9, v0_0.v), (10, (.int .i64 (a_list.length : Int))), (11, (.int .i64 (k8 : Int)))] ∧ List.drop k8 a_list = rest9 ∧ Ent cs' [crd (RdS 3 rdInt) v1_0.v a_drop, cown (OwnS 90 ow90) F4 v3.v c2, crd (RdS 90 rd90) v0_0.v a_list] ∧ i_Without_L1 a_drop rest9 k8 c2 = some R) ⟨_, 0, _, _, ⟨(some ⟨k1, 0, none⟩), 0, 1⟩, (k1 :: []), rfl, eqA, rfl, entA, hF⟩ ?_)
 rintro m6 _ _ ⟨g7, k8, rest9, c2, v3, F4, rfl, rfl, hd11, hE, hF⟩
 refine Kb hE a_list (fun hbd16 => ?_)
 rcases rest9 with _ | ⟨x10, rest9⟩
 · have hk12 := dn hd11
   rw [i_Without_L1] at hF
   iterate 4 refine au ?_
   refine CdF ?_
   iterate 9 refine au ?_
   cases hF
   exact Er (v3, F4)
 obtain ⟨hk12, hx13, hd14⟩ := drop_cons hd11
 rw [i_Without_L1] at hF
 iterate 4 refine au ?_
 refine CdT ?_
 refine au ?_
 obtain ⟨o17, hio17, hO18⟩ := bind_some hF
 refine K_cut (fun f' cs' => ∃ (c34 : List Told) (v35 : Sv) (F36 : List Nat) (g : Fr), c34 = o17 ∧ f' = updL g [(1, v1_0.v), (5, v35.v), (9, v0_0.v), (10, (.int .i64 (a_list.length : Int))), (11, (.int .i64 (k8 : Int)))] ∧ Ent cs' [crd (RdS 3 rdInt) v1_0.v a_drop, cown (OwnS 90 ow90) F36 v35.v c34, crd (RdS 90 rd90) v0_0.v a_list]) ?_ ?_
 · replace hF := hio17
   refine CW_block (K_region (Cm (.int .i64 (k8 : Int)) rfl rfl ?_))
   refine Ai hx13 (fun k19 j20 => ?_)
   refine AlA2 (ul90_0_90 x10) la90_0_90 (fun p21 => ?_)
   refine AnW (fun k22 => ?_)
   refine au ?_
   refine As (.agg [(.int .i64 x10.Access.Method), p21.1.v, p21.2.v].toArray) ?_
   iterate 4 refine au ?_
   refine bnd hF fun r23 hx24 hF => Cx0 (g_slices_Contains_int_int_ok _ _ _ _ hx24) (fun _ => ?_)
   iterate 2 refine au ?_
   refine Ci hF (fun hb33 hF => ?_) (fun hb33 hF => ?_)
   · iterate 3 refine au ?_
     refine bnd hF fun r26 hx27 hF => Cx2 (i_copyTold_ok _ _ _ _ hx27) (fun p28 => ?_)
     refine C_new rfl (N_buildSliceT (g := true) sl31.h ty90.h (.cons (.tmp rfl rfl) .nil) (vs := [(.agg [(.int .i64 r26.Access.Method), p28.1.v, p28.2.2.1.v].toArray)]) rfl rfl rfl (by intro v hv; simp at hv; rcases hv with rfl <;> rfl)) (fun k29 => ?_)
     refine Cv1 (.cons .h (.cons .h (.cons .h .nil))) (own_lit (Ro := ow90) (E := 90) (F := ((p28.2.1 ++ p28.2.2.2) ++ [])) (xs := ([r26] : List Told)) (MkL_cons mk90 MkL_nil apps) rfl rfl) ?_
     refine bnd hF fun z30 hx31 hF => C_x1 (.cons (.t (.t (.t (.t (.t (.t .h)))))) (.cons .h .nil)) (X_appendO (Ro := ow90) sl31.h ni31 ty90.h rfl rfl rfl (.tmp rfl rfl) (.tmp rfl rfl) hx31 src_own) (fun p32 => ?_)
     iterate 2 refine au ?_
     cases hF
     exact ⟨_, p32.1, p32.2, _, rfl, eqA, entA⟩
   refine au ?_
   cases hF
   exact ⟨_, v3, F4, _, rfl, eqA, entA⟩
 rintro _ _ ⟨c34, v35, F36, g38, rfl, rfl, hE⟩
 replace hF := hO18
 try dsimp only at hF
 refine K_ent hE ?_
 iterate 4 refine au ?_
 rw [wk k8]
 exact ⟨_, Nat.lt_succ_self _, _, k8 + 1, rest9, _, v35, F36, rfl, eqA, hd14, entA, hF⟩
def i_isValue (a_n : Int) : Option (Bool) :=
 (i_within a_n 0 9).bind fun r1 =>
 some r1
theorem i_isValue_ok (a_n : Int) (R : Bool) (hF : i_isValue a_n = some R) :
   Fw.Spec Tryz.prog 183 [(.int .i64 a_n)] [] (fun _ : Unit => (.bool R)) (fun _ => []) := by
 refine Se 5 Tryz.func183 [.tmp 2] ?_
 intro H0 F0
 unfold i_isValue at hF
 iterate 5 refine au ?_
 refine bnd hF fun r1 hx2 hF => Cx0 (i_within_ok _ _ _ _ hx2) (fun _ => ?_)
 iterate 3 refine au ?_
 cases hF
 exact Er ()
def i_areValues_1 (a_n : Int) : Option (Bool) :=
 (i_isValue a_n).bind fun r1 =>
 some (!r1)
theorem i_areValues_1_ok (a_n : Int) (R : Bool) (hF : i_areValues_1 a_n = some R) :
   Fw.Spec Tryz.prog 182 [(.int .i64 a_n)] [] (fun _ : Unit => (.bool R)) (fun _ => []) := by
 refine Se 6 Tryz.func182 [.tmp 2] ?_
 intro H0 F0
 unfold i_areValues_1 at hF
 iterate 5 refine au ?_
 refine bnd hF fun r1 hx2 hF => Cx0 (i_isValue_ok _ _ hx2) (fun _ => ?_)
 iterate 4 refine au ?_
 cases hF
 exact Er ()
def g_slices_IndexFunc_int_int_iareValues1_L1 : List Int → Nat → Option (Int)
 | [], k4 => some (-1)
 | x6 :: rest5, k4 => (i_areValues_1 x6).bind fun r15 =>
   if r15 then (
     some (k4 : Int))
   else (
     g_slices_IndexFunc_int_int_iareValues1_L1 rest5 (k4 + 1))
def g_slices_IndexFunc_int_int_iareValues1 (a_s : List Int) : Option (Int) :=
 g_slices_IndexFunc_int_int_iareValues1_L1 a_s 0
theorem g_slices_IndexFunc_int_int_iareValues1_ok (a_s : List Int) (v0_0 : Sv) (R : Int) (hF : g_slices_IndexFunc_int_int_iareValues1 a_s = some R) :
   Fw.Spec Tryz.prog 223 [v0_0.v, (.func (.func 182) [].toArray [].toArray)] [crd (RdS 3 rdInt) v0_0.v a_s] (fun _ : Unit => (.int .i64 R)) (fun _ => []) := by
 refine Se 19 Tryz.func223 [.tmp 4] ?_
 intro H0 F0
 unfold g_slices_IndexFunc_int_int_iareValues1 at hF
 iterate 9 refine au ?_
 refine CW_block (CW_loop (m := a_s.length) (fun m2 f' cs' => ∃ (g : Fr) (k4 : Nat) (rest5 : List Int), m2 = rest5.length ∧ f' = updL g [(0, v0_0.v), (1, (.func (.func 182) [].toArray [].toArray)), (7, (.int .i64 (a_s.length : Int))), (8, (.int .i64 (k4 : Int)))] ∧ List.drop k4 a_s = rest5 ∧ Ent cs' [crd (RdS 3 rdInt) v0_0.v a_s] ∧ g_slices_IndexFunc_int_int_iareValues1_L1 rest5 k4 = some R) ⟨_, 0, _, rfl, eqA, rfl, entA, hF⟩ ?_)
 rintro m2 _ _ ⟨g3, k4, rest5, rfl, rfl, hd7, hE, hF⟩
 refine Kb hE a_s (fun hbd12 => ?_)
 rcases rest5 with _ | ⟨x6, rest5⟩
 · have hk8 := dn hd7
   rw [g_slices_IndexFunc_int_int_iareValues1_L1] at hF
   iterate 4 refine au ?_
   refine CdF ?_
   iterate 8 refine au ?_
   cases hF
   exact Er ()
 obtain ⟨hk8, hx9, hd10⟩ := drop_cons hd7
 rw [g_slices_IndexFunc_int_int_iareValues1_L1] at hF
 iterate 4 refine au ?_
 refine CdT ?_
 iterate 10 refine au ?_
 refine Ai hx9 (fun k13 j14 => ?_)
 refine Al ls3_0 ?_
 refine bnd hF fun r15 hx16 hF => C_x0 .nil (X_callCS cf182.h (.tmp rfl rfl) (.cons (.tmp rfl rfl) .nil) (i_areValues_1_ok x6 _ hx16)) (fun _ => ?_)
 refine au ?_
 refine Ci hF (fun hb19 hF => ?_) (fun hb19 hF => ?_)
 · iterate 5 refine au ?_
   cases hF
   exact Er ()
 iterate 5 refine au ?_
 rw [wk k4]
 exact ⟨_, Nat.lt_succ_self _, _, k4 + 1, rest5, rfl, eqA, hd10, entA, hF⟩
def g_slices_ContainsFunc_int_int_iareValues1 (a_s : List Int) : Option (Bool) :=
 (g_slices_IndexFunc_int_int_iareValues1 a_s).bind fun r1 =>
 some (decide ((0 : Int) ≤ r1))
theorem g_slices_ContainsFunc_int_int_iareValues1_ok (a_s : List Int) (v0_0 : Sv) (R : Bool) (hF : g_slices_ContainsFunc_int_int_iareValues1 a_s = some R) :
   Fw.Spec Tryz.prog 180 [v0_0.v, (.func (.func 182) [].toArray [].toArray)] [crd (RdS 3 rdInt) v0_0.v a_s] (fun _ : Unit => (.bool R)) (fun _ => []) := by
 refine Se 9 Tryz.func180 [.tmp 4] ?_
 intro H0 F0
 unfold g_slices_ContainsFunc_int_int_iareValues1 at hF
 iterate 6 refine au ?_
 refine bnd hF fun r1 hx2 hF => Cx0 (g_slices_IndexFunc_int_int_iareValues1_ok _ _ _ hx2) (fun _ => ?_)
 iterate 4 refine au ?_
 cases hF
 exact Er ()
def i_areValues (a_l : List Int) : Option (Bool) :=
 (g_slices_ContainsFunc_int_int_iareValues1 a_l).bind fun r1 =>
 some (!r1)
theorem i_areValues_ok (a_l : List Int) (v0_0 : Sv) (R : Bool) (hF : i_areValues a_l = some R) :
   Fw.Spec Tryz.prog 125 [v0_0.v] [crd (RdS 3 rdInt) v0_0.v a_l] (fun _ : Unit => (.bool R)) (fun _ => []) := by
 refine Se 6 Tryz.func125 [.tmp 2] ?_
 intro H0 F0
 unfold i_areValues at hF
 iterate 5 refine au ?_
 refine bnd hF fun r1 hx2 hF => Cx0 (g_slices_ContainsFunc_int_int_iareValues1_ok _ _ _ hx2) (fun _ => ?_)
 iterate 4 refine au ?_
 cases hF
 exact Er ()
def i_IsAccess (a_s : List Int) (a_l : List Method) (a_a : Access) : Option (Bool) :=
 ((i_AreMethods a_s a_l).bind fun r4 =>
   bif r4 then ((i_within a_a.Method 0 (IntKind.i64.wrap ((a_l.length : Int) - 1))).bind fun r8 =>
     bif r8 then ((ix a_l a_a.Method).bind fun x12 =>
       bif (((a_a.Values.length : Int) : Int) == (x12.Inputs.length : Int)) then ((i_areValues a_a.Values).bind fun r20 =>
         some r20)
       else (some false))
     else (some false))
   else (some false)).bind fun o2 =>
 match o2 with
 | c23 => some c23
theorem i_IsAccess_ok (a_s : List Int) (v0_0 : Sv) (a_l : List Method) (v1_0 : Sv) (a_a : Access) (v2_1 : Sv) (R : Bool) (hF : i_IsAccess a_s a_l a_a = some R) :
   Fw.Spec Tryz.prog 122 [v0_0.v, v1_0.v, (.agg [(.int .i64 a_a.Method), v2_1.v].toArray)] [crd (RdS 3 rdInt) v0_0.v a_s, crd (RdS 86 rd86) v1_0.v a_l, crd (RdS 3 rdInt) v2_1.v a_a.Values] (fun _ : Unit => (.bool R)) (fun _ => []) := by
 refine Se 36 Tryz.func122 [.tmp 6] ?_
 intro H0 F0
 unfold i_IsAccess at hF
 refine au ?_
 refine AbR (fun k1 => ?_)
 iterate 2 refine au ?_
 obtain ⟨o2, hio2, hO3⟩ := bind_some hF
 refine K_draw [0, 1, 2, 3, 4, 5, 6, 7, 8, 9, 10, 11, 12, 13, 14, 15, 16, 17, 18, 19, 20, 21, 22, 23, 24, 25, 26, 27, 28, 29] [0, 0, 3, 7, 15, 31, 15, 79, 207, 511, 1023, 2047, 4095, 8191, 16383, 4095, 4095, 69631, 233471, 495615, 1019903, 2068479, 4194303, 8388607, 16777215, 33554431, 67108863, 134217727, 268435455, 536870911] [2, 9, 27] mixed (by decide +kernel) ?_
 refine D_cut (fun f' cs' => ∃ (c23 : Bool) (g : Fr), c23 = o2 ∧ f' = updL g [(6, (.bool c23))] ∧ Ent cs' []) ?_ ?_
 · replace hF := hio2
   iterate 2 refine du ?_
   refine bnd hF fun r4 hx5 hF => Dx0 (i_AreMethods_ok _ _ _ _ _ hx5) (fun _ => ?_)
   refine du ?_
   rcases Bool.eq_false_or_eq_true r4 with hg7 | hg7
   · rw [hg7]
     try rw [hg7] at hF; dsimp only [cond_true, cond_false] at hF
     iterate 5 refine du ?_
     refine bnd hF fun r8 hx9 hF => Dx0 (i_within_ok _ _ _ _ hx9) (fun _ => ?_)
     iterate 2 refine du ?_
     rcases Bool.eq_false_or_eq_true r8 with hg11 | hg11
     · rw [hg11]
       try rw [hg11] at hF; dsimp only [cond_true, cond_false] at hF
       iterate 6 refine du ?_
       refine bnd hF fun x12 hx13 hF => ?_
       obtain ⟨hp14, hx15⟩ := ix_some hx13
       refine Di hx15 (fun k16 j17 => ?_)
       refine du ?_
       refine D_ldV (R' := (RdS 3 rdInt)) ag22.h rfl (.on 18 rfl rfl rfl) (.tmp rfl rfl) rfl .h lv86_1 (fun w18 => ?_)
       iterate 4 refine du ?_
       rcases Bool.eq_false_or_eq_true (((a_a.Values.length : Int) : Int) == (x12.Inputs.length : Int)) with hg19 | hg19
       · rw [hg19]
         try rw [hg19] at hF; dsimp only [cond_true, cond_false] at hF
         iterate 2 refine du ?_
         refine bnd hF fun r20 hx21 hF => Dx0 (i_areValues_ok _ _ _ hx21) (fun _ => ?_)
         iterate 3 refine du ?_
         cases hF
         exact ⟨_, _, rfl, eqA, entA⟩
       rw [hg19]
       try rw [hg19] at hF; dsimp only [cond_true, cond_false] at hF
       iterate 6 refine du ?_
       cases hF
       exact ⟨_, _, rfl, eqA, entA⟩
     rw [hg11]
     try rw [hg11] at hF; dsimp only [cond_true, cond_false] at hF
     iterate 19 refine du ?_
     cases hF
     exact ⟨_, _, rfl, eqA, entA⟩
   rw [hg7]
   try rw [hg7] at hF; dsimp only [cond_true, cond_false] at hF
   iterate 27 refine du ?_
   cases hF
   exact ⟨_, _, rfl, eqA, entA⟩
 rintro _ _ ⟨c23, g24, rfl, rfl, hE⟩
 replace hF := hO3
 try dsimp only at hF
 refine K_ent hE ?_
 refine au ?_
 cases hF
 exact Er ()
def i_IsFact (a_s : List Int) (a_f : Fact) : Option (Bool) :=
 ((i_hasRel a_s a_f.Rel).bind fun r4 =>
   bif r4 then ((ix a_s a_f.Rel).bind fun x8 =>
     bif (((a_f.Values.length : Int) : Int) == x8) then ((i_areValues a_f.Values).bind fun r15 =>
       some r15)
     else (some false))
   else (some false)).bind fun o2 =>
 match o2 with
 | c18 => some c18
theorem i_IsFact_ok (a_s : List Int) (v0_0 : Sv) (a_f : Fact) (v1_1 : Sv) (R : Bool) (hF : i_IsFact a_s a_f = some R) :
   Fw.Spec Tryz.prog 142 [v0_0.v, (.agg [(.int .i64 a_f.Rel), v1_1.v].toArray)] [crd (RdS 3 rdInt) v0_0.v a_s, crd (RdS 3 rdInt) v1_1.v a_f.Values] (fun _ : Unit => (.bool R)) (fun _ => []) := by
 refine Se 25 Tryz.func142 [.tmp 4] ?_
 intro H0 F0
 unfold i_IsFact at hF
 refine au ?_
 refine AbR (fun k1 => ?_)
 iterate 2 refine au ?_
 obtain ⟨o2, hio2, hO3⟩ := bind_some hF
 refine K_draw [0, 1, 2, 3, 4, 5, 6, 7, 8, 9, 10, 11, 12, 13, 14, 15, 16, 17, 18, 19, 20] [0, 0, 2, 7, 15, 31, 63, 127, 31, 31, 543, 1823, 3871, 8191, 16383, 32767, 65535, 131071, 262143, 524287, 1048575] [3, 18] mixed (by decide +kernel) ?_
 refine D_cut (fun f' cs' => ∃ (c18 : Bool) (g : Fr), c18 = o2 ∧ f' = updL g [(4, (.bool c18))] ∧ Ent cs' []) ?_ ?_
 · replace hF := hio2
   iterate 3 refine du ?_
   refine bnd hF fun r4 hx5 hF => Dx0 (i_hasRel_ok _ _ _ _ hx5) (fun _ => ?_)
   refine du ?_
   rcases Bool.eq_false_or_eq_true r4 with hg7 | hg7
   · rw [hg7]
     try rw [hg7] at hF; dsimp only [cond_true, cond_false] at hF
     iterate 6 refine du ?_
     refine bnd hF fun x8 hx9 hF => ?_
     obtain ⟨hp10, hx11⟩ := ix_some hx9
     refine Di hx11 (fun k12 j13 => ?_)
     refine Dl ls3_0 ?_
     iterate 3 refine du ?_
     rcases Bool.eq_false_or_eq_true (((a_f.Values.length : Int) : Int) == x8) with hg14 | hg14
     · rw [hg14]
       try rw [hg14] at hF; dsimp only [cond_true, cond_false] at hF
       iterate 2 refine du ?_
       refine bnd hF fun r15 hx16 hF => Dx0 (i_areValues_ok _ _ _ hx16) (fun _ => ?_)
       iterate 3 refine du ?_
       cases hF
       exact ⟨_, _, rfl, eqA, entA⟩
     rw [hg14]
     try rw [hg14] at hF; dsimp only [cond_true, cond_false] at hF
     iterate 6 refine du ?_
     cases hF
     exact ⟨_, _, rfl, eqA, entA⟩
   rw [hg7]
   try rw [hg7] at hF; dsimp only [cond_true, cond_false] at hF
   iterate 17 refine du ?_
   cases hF
   exact ⟨_, _, rfl, eqA, entA⟩
 rintro _ _ ⟨c18, g19, rfl, rfl, hE⟩
 replace hF := hO3
 try dsimp only at hF
 refine K_ent hE ?_
 refine au ?_
 cases hF
 exact Er ()
def g_cmp_isNaN_int (a_x : Int) : Option (Bool) :=
 some ((a_x : Int) != a_x)
theorem g_cmp_isNaN_int_ok (a_x : Int) (R : Bool) (hF : g_cmp_isNaN_int a_x = some R) :
   Fw.Spec Tryz.prog 231 [(.int .i64 a_x)] [] (fun _ : Unit => (.bool R)) (fun _ => []) := by
 refine Se 6 Tryz.func231 [.tmp 2] ?_
 intro H0 F0
 unfold g_cmp_isNaN_int at hF
 iterate 10 refine au ?_
 cases hF
 exact Er ()
def g_cmp_Compare_int (a_x : Int) (a_y : Int) : Option (Int) :=
 (g_cmp_isNaN_int a_x).bind fun r1 =>
 (g_cmp_isNaN_int a_y).bind fun r4 =>
 if r1 then (
   if r4 then (
     some 0)
   else (
     some (-1)))
 else (
   if r4 then (
     some 1)
   else (
     if (decide ((a_x : Int) < a_y)) then (
       some (-1))
     else (
       if (decide ((a_y : Int) < a_x)) then (
         some 1)
       else (
         some 0))))
theorem g_cmp_Compare_int_ok (a_x : Int) (a_y : Int) (R : Int) (hF : g_cmp_Compare_int a_x a_y = some R) :
   Fw.Spec Tryz.prog 195 [(.int .i64 a_x), (.int .i64 a_y)] [] (fun _ : Unit => (.int .i64 R)) (fun _ => []) := by
 refine Se 20 Tryz.func195 [.tmp 4] ?_
 intro H0 F0
 unfold g_cmp_Compare_int at hF
 iterate 5 refine au ?_
 refine bnd hF fun r1 hx2 hF => Cx0 (g_cmp_isNaN_int_ok _ _ hx2) (fun _ => ?_)
 iterate 4 refine au ?_
 refine bnd hF fun r4 hx5 hF => Cx0 (g_cmp_isNaN_int_ok _ _ hx5) (fun _ => ?_)
 iterate 6 refine au ?_
 refine Ci hF (fun hb11 hF => ?_) (fun hb11 hF => ?_)
 · iterate 4 refine au ?_
   refine Ci hF (fun hb7 hF => ?_) (fun hb7 hF => ?_)
   · iterate 4 refine au ?_
     cases hF
     exact Er ()
   iterate 5 refine au ?_
   cases hF
   exact Er ()
 iterate 5 refine au ?_
 refine Ci hF (fun hb10 hF => ?_) (fun hb10 hF => ?_)
 · iterate 4 refine au ?_
   cases hF
   exact Er ()
 iterate 7 refine au ?_
 refine Ci hF (fun hb9 hF => ?_) (fun hb9 hF => ?_)
 · iterate 4 refine au ?_
   cases hF
   exact Er ()
 iterate 7 refine au ?_
 refine Ci hF (fun hb8 hF => ?_) (fun hb8 hF => ?_)
 · iterate 4 refine au ?_
   cases hF
   exact Er ()
 iterate 5 refine au ?_
 cases hF
 exact Er ()
def g_slices_Compare_int_int_L1 (a_s1 : List Int) (a_s2 : List Int) : List Int → Nat → Option (Int)
 | [], k4 => if (decide (((a_s1.length : Int) : Int) < (a_s2.length : Int))) then (
     some (-1))
   else (
     some 0)
 | x6 :: rest5, k4 => if (decide (((a_s2.length : Int) : Int) ≤ (k4 : Int))) then (
     some 1)
   else (
     (ix a_s2 (k4 : Int)).bind fun x16 =>
     (g_cmp_Compare_int x6 x16).bind fun r22 =>
     if ((r22 : Int) != 0) then (
       some r22)
     else (
       g_slices_Compare_int_int_L1 a_s1 a_s2 rest5 (k4 + 1)))
def g_slices_Compare_int_int (a_s1 : List Int) (a_s2 : List Int) : Option (Int) :=
 g_slices_Compare_int_int_L1 a_s1 a_s2 a_s1 0
theorem g_slices_Compare_int_int_ok (a_s1 : List Int) (v0_0 : Sv) (a_s2 : List Int) (v1_0 : Sv) (R : Int) (hF : g_slices_Compare_int_int a_s1 a_s2 = some R) :
   Fw.Spec Tryz.prog 196 [v0_0.v, v1_0.v] [crd (RdS 3 rdInt) v0_0.v a_s1, crd (RdS 3 rdInt) v1_0.v a_s2] (fun _ : Unit => (.int .i64 R)) (fun _ => []) := by
 refine Se 36 Tryz.func196 [.tmp 4] ?_
 intro H0 F0
 unfold g_slices_Compare_int_int at hF
 iterate 9 refine au ?_
 refine CW_block (CW_loop (m := a_s1.length) (fun m2 f' cs' => ∃ (g : Fr) (k4 : Nat) (rest5 : List Int), m2 = rest5.length ∧ f' = updL g [(0, v0_0.v), (1, v1_0.v), (9, v0_0.v), (10, (.int .i64 (a_s1.length : Int))), (11, (.int .i64 (k4 : Int)))] ∧ List.drop k4 a_s1 = rest5 ∧ Ent cs' [crd (RdS 3 rdInt) v0_0.v a_s1, crd (RdS 3 rdInt) v1_0.v a_s2] ∧ g_slices_Compare_int_int_L1 a_s1 a_s2 rest5 k4 = some R) ⟨_, 0, _, rfl, eqA, rfl, entA, hF⟩ ?_)
 rintro m2 _ _ ⟨g3, k4, rest5, rfl, rfl, hd7, hE, hF⟩
 refine Kb hE a_s1 (fun hbd12 => ?_)
 rcases rest5 with _ | ⟨x6, rest5⟩
 · have hk8 := dn hd7
   rw [g_slices_Compare_int_int_L1] at hF
   iterate 4 refine au ?_
   refine CdF ?_
   iterate 12 refine au ?_
   refine Ci hF (fun hb13 hF => ?_) (fun hb13 hF => ?_)
   · iterate 4 refine au ?_
     cases hF
     exact Er ()
   iterate 5 refine au ?_
   cases hF
   exact Er ()
 obtain ⟨hk8, hx9, hd10⟩ := drop_cons hd7
 rw [g_slices_Compare_int_int_L1] at hF
 iterate 4 refine au ?_
 refine CdT ?_
 iterate 4 refine au ?_
 refine Ai hx9 (fun k14 j15 => ?_)
 refine Al ls3_0 ?_
 iterate 10 refine au ?_
 refine Ci hF (fun hb27 hF => ?_) (fun hb27 hF => ?_)
 · iterate 4 refine au ?_
   cases hF
   exact Er ()
 iterate 4 refine au ?_
 refine bnd hF fun x16 hx17 hF => ?_
 obtain ⟨hp18, hx19⟩ := ix_some hx17
 refine Ai hx19 (fun k20 j21 => ?_)
 refine Al ls3_0 ?_
 iterate 5 refine au ?_
 refine bnd hF fun r22 hx23 hF => Cx0 (g_cmp_Compare_int_ok _ _ _ hx23) (fun _ => ?_)
 iterate 6 refine au ?_
 refine Ci hF (fun hb26 hF => ?_) (fun hb26 hF => ?_)
 · iterate 5 refine au ?_
   cases hF
   exact Er ()
 iterate 5 refine au ?_
 rw [wk k4]
 exact ⟨_, Nat.lt_succ_self _, _, k4 + 1, rest5, rfl, eqA, hd10, entA, hF⟩
def g_cmp_Or_int_L1 : List Int → Nat → Option (Int)
 | [], k4 => some 0
 | x6 :: rest5, k4 => if ((x6 : Int) != 0) then (
     some x6)
   else (
     g_cmp_Or_int_L1 rest5 (k4 + 1))
def g_cmp_Or_int (a_vals : List Int) : Option (Int) :=
 g_cmp_Or_int_L1 a_vals 0
theorem g_cmp_Or_int_ok (a_vals : List Int) (v0_0 : Sv) (R : Int) (hF : g_cmp_Or_int a_vals = some R) :
   Fw.Spec Tryz.prog 194 [v0_0.v] [crd (RdS 3 rdInt) v0_0.v a_vals] (fun _ : Unit => (.int .i64 R)) (fun _ => []) := by
 refine Se 18 Tryz.func194 [.tmp 2] ?_
 intro H0 F0
 unfold g_cmp_Or_int at hF
 iterate 12 refine au ?_
 refine CW_block (CW_loop (m := a_vals.length) (fun m2 f' cs' => ∃ (g : Fr) (k4 : Nat) (rest5 : List Int), m2 = rest5.length ∧ f' = updL g [(3, (.int .i64 0)), (6, v0_0.v), (7, (.int .i64 (a_vals.length : Int))), (8, (.int .i64 (k4 : Int)))] ∧ List.drop k4 a_vals = rest5 ∧ Ent cs' [crd (RdS 3 rdInt) v0_0.v a_vals] ∧ g_cmp_Or_int_L1 rest5 k4 = some R) ⟨_, 0, _, rfl, eqA, rfl, entA, hF⟩ ?_)
 rintro m2 _ _ ⟨g3, k4, rest5, rfl, rfl, hd7, hE, hF⟩
 refine Kb hE a_vals (fun hbd12 => ?_)
 rcases rest5 with _ | ⟨x6, rest5⟩
 · have hk8 := dn hd7
   rw [g_cmp_Or_int_L1] at hF
   iterate 4 refine au ?_
   refine CdF ?_
   iterate 9 refine au ?_
   cases hF
   exact Er ()
 obtain ⟨hk8, hx9, hd10⟩ := drop_cons hd7
 rw [g_cmp_Or_int_L1] at hF
 iterate 4 refine au ?_
 refine CdT ?_
 iterate 3 refine au ?_
 refine Ai hx9 (fun k13 j14 => ?_)
 refine Al ls3_0 ?_
 iterate 7 refine au ?_
 refine Ci hF (fun hb16 hF => ?_) (fun hb16 hF => ?_)
 · iterate 5 refine au ?_
   cases hF
   exact Er ()
 iterate 5 refine au ?_
 rw [wk k4]
 exact ⟨_, Nat.lt_succ_self _, _, k4 + 1, rest5, rfl, eqA, hd10, entA, hF⟩
def i_CompareFacts (a_a : Fact) (a_b : Fact) : Option (Int) :=
 (g_cmp_Compare_int a_a.Rel a_b.Rel).bind fun r3 =>
 (g_slices_Compare_int_int a_a.Values a_b.Values).bind fun r6 =>
 (g_cmp_Or_int ([r3, r6] : List Int)).bind fun r10 =>
 some r10
theorem i_CompareFacts_ok (a_a : Fact) (v0_1 : Sv) (a_b : Fact) (v1_1 : Sv) (R : Int) (hF : i_CompareFacts a_a a_b = some R) :
   Fw.Spec Tryz.prog 143 [(.agg [(.int .i64 a_a.Rel), v0_1.v].toArray), (.agg [(.int .i64 a_b.Rel), v1_1.v].toArray)] [crd (RdS 3 rdInt) v0_1.v a_a.Values, crd (RdS 3 rdInt) v1_1.v a_b.Values] (fun _ : Unit => (.int .i64 R)) (fun _ => []) := by
 refine Se 17 Tryz.func143 [.tmp 4] ?_
 intro H0 F0
 unfold i_CompareFacts at hF
 refine au ?_
 refine AbR (fun k1 => ?_)
 refine AbR (fun k2 => ?_)
 iterate 2 refine au ?_
 refine K_draw [0, 1, 2, 3, 5, 6, 7, 8, 4, 9, 10, 11, 12] [0, 1, 0, 4, 15, 0, 32, 0, 128, 511, 1023, 2047, 4095] [4, 9, 11] mixed (by decide +kernel) ?_
 iterate 8 refine du ?_
 refine bnd hF fun r3 hx4 hF => Dx0 (g_cmp_Compare_int_ok _ _ _ hx4) (fun _ => ?_)
 refine bnd hF fun r6 hx7 hF => Dx0 (g_slices_Compare_int_int_ok _ _ _ _ _ hx7) (fun _ => ?_)
 refine D_new rfl .no rfl (fun ha => N_buildSliceT (g := true) (len := 2) (parts := [(0, .tmp 9), (1, .tmp 14)]) sl22.h ty3.h (.cons (EN ha (.tmp rfl rfl) rfl) (.cons (EN ha (.tmp rfl rfl) rfl) .nil)) (vs := [(.int .i64 r3), (.int .i64 r6)]) rfl rfl rfl (by intro v hv; simp at hv; rcases hv with rfl | rfl <;> rfl)) (fun k9 => ?_)
 refine Dv1 (.cons .h .nil) (own_lit (Ro := (roE rdInt)) (E := 3) (F := ([] ++ ([] ++ []))) (xs := ([r3, r6] : List Int)) (MkL_cons (Mk_pure (fun _ => rfl)) (MkL_cons (Mk_pure (fun _ => rfl)) MkL_nil apps) apps) rfl rfl) ?_
 refine bnd hF fun r10 hx11 hF => D_act1 rfl rfl .no (.cons .h .nil) (.dep rfl .nil) (fun ha => XC_bor frz_own (fun _ => .nil) (X_callS cf194.h (.cons (EN ha (.tmp rfl rfl) rfl) .nil) (g_cmp_Or_int_ok ([r3, r6] : List Int) (⟨(some ⟨k9, 0, none⟩), 2, 1⟩) _ hx11))) (fun _ => ?_)
 iterate 2 refine du ?_
 refine au ?_
 cases hF
 exact Er ()
def i_AreFacts_L1 (a_s : List Int) (a_l : List Fact) : List Fact → Nat → Option (Bool)
 | [], k4 => ((i_IsSchema a_s).bind fun r15 =>
     bif r15 then (some (decide (((a_l.length : Int) : Int) ≤ 24)))
     else (some false)).bind fun o13 =>
   match o13 with
   | c19 => some c19
 | x6 :: rest5, k4 => ((i_IsFact a_s x6).bind fun r27 =>
     bif (!r27) then (some true)
     else (bif (decide ((0 : Int) < (k4 : Int))) then ((ix a_l (IntKind.i64.wrap ((k4 : Int) - 1))).bind fun x32 =>
         (i_CompareFacts x32 x6).bind fun r39 =>
         some (decide ((0 : Int) ≤ r39)))
       else (some false))).bind fun o25 =>
   match o25 with
   | c42 => if c42 then (
       some false)
     else (
       i_AreFacts_L1 a_s a_l rest5 (k4 + 1))
def i_AreFacts (a_s : List Int) (a_l : List Fact) : Option (Bool) :=
 i_AreFacts_L1 a_s a_l a_l 0
theorem i_AreFacts_ok (a_s : List Int) (v0_0 : Sv) (a_l : List Fact) (v1_0 : Sv) (R : Bool) (hF : i_AreFacts a_s a_l = some R) :
   Fw.Spec Tryz.prog 84 [v0_0.v, v1_0.v] [crd (RdS 3 rdInt) v0_0.v a_s, crd (RdS 129 rd129) v1_0.v a_l] (fun _ : Unit => (.bool R)) (fun _ => []) := by
 refine Se 40 Tryz.func84 [.tmp 4] ?_
 intro H0 F0
 unfold i_AreFacts at hF
 iterate 9 refine au ?_
 refine CW_block (CW_loop (m := a_l.length) (fun m2 f' cs' => ∃ (g : Fr) (k4 : Nat) (rest5 : List Fact), m2 = rest5.length ∧ f' = updL g [(0, v0_0.v), (1, v1_0.v), (7, v1_0.v), (8, (.int .i64 (a_l.length : Int))), (9, (.int .i64 (k4 : Int)))] ∧ List.drop k4 a_l = rest5 ∧ Ent cs' [crd (RdS 3 rdInt) v0_0.v a_s, crd (RdS 129 rd129) v1_0.v a_l] ∧ i_AreFacts_L1 a_s a_l rest5 k4 = some R) ⟨_, 0, _, rfl, eqA, rfl, entA, hF⟩ ?_)
 rintro m2 _ _ ⟨g3, k4, rest5, rfl, rfl, hd7, hE, hF⟩
 refine Kb hE a_l (fun hbd12 => ?_)
 rcases rest5 with _ | ⟨x6, rest5⟩
 · have hk8 := dn hd7
   rw [i_AreFacts_L1] at hF
   iterate 4 refine au ?_
   refine CdF ?_
   iterate 4 refine au ?_
   obtain ⟨o13, hio13, hO14⟩ := bind_some hF
   refine au ?_
   refine C_cut (fun f' cs' => ∃ (c19 : Bool) (g : Fr), c19 = o13 ∧ f' = updL g [(4, (.bool c19))] ∧ Ent cs' []) ?_ ?_
   · replace hF := hio13
     refine au ?_
     refine bnd hF fun r15 hx16 hF => Cx0 (i_IsSchema_ok _ _ _ hx16) (fun _ => ?_)
     refine au ?_
     rcases Bool.eq_false_or_eq_true r15 with hg18 | hg18
     · rw [hg18]
       try rw [hg18] at hF; dsimp only [cond_true, cond_false] at hF
       iterate 9 refine au ?_
       cases hF
       exact ⟨_, _, rfl, eqA, entA⟩
     rw [hg18]
     try rw [hg18] at hF; dsimp only [cond_true, cond_false] at hF
     iterate 6 refine au ?_
     cases hF
     exact ⟨_, _, rfl, eqA, entA⟩
   rintro _ _ ⟨c19, g20, rfl, rfl, hE⟩
   replace hF := hO14
   try dsimp only at hF
   refine K_ent hE ?_
   refine au ?_
   cases hF
   exact Er ()
 obtain ⟨hk8, hx9, hd10⟩ := drop_cons hd7
 rw [i_AreFacts_L1] at hF
 iterate 4 refine au ?_
 refine CdT ?_
 iterate 4 refine au ?_
 refine Ai hx9 (fun k21 j22 => ?_)
 refine AlA1 (ul129_0_129 x6) la129_0_129 (fun p23 => ?_)
 refine AnW (fun k24 => ?_)
 refine au ?_
 refine As (.agg [(.int .i64 x6.Rel), p23.v].toArray) ?_
 refine au ?_
 obtain ⟨o25, hio25, hO26⟩ := bind_some hF
 refine K_draw [0, 1, 2, 3, 4, 5, 6, 7, 8, 9, 10, 11, 12, 13, 14, 15, 16, 17] [0, 0, 3, 7, 15, 31, 63, 127, 255, 255, 767, 2047, 4095, 255, 16383, 32767, 65535, 131071] [2, 14] mixed (by decide +kernel) ?_
 refine D_cut (fun f' cs' => ∃ (c42 : Bool) (g : Fr), c42 = o25 ∧ f' = updL g [(0, v0_0.v), (1, v1_0.v), (7, v1_0.v), (8, (.int .i64 (a_l.length : Int))), (9, (.int .i64 (k4 : Int))), (31, (.bool c42))] ∧ Ent cs' [crd (RdS 3 rdInt) v0_0.v a_s, crd (RdS 129 rd129) v1_0.v a_l]) ?_ ?_
 · replace hF := hio25
   refine du ?_
   refine D_atO rfl .no .h (fun ha hp => V_loadBox ag129.h ty129.h.sz rfl (EN ha (.tmp rfl rfl) rfl) hp.2 rfl) ?_
   refine bnd hF fun r27 hx28 hF => Dx0 (i_IsFact_ok _ _ _ _ _ hx28) (fun _ => ?_)
   iterate 2 refine du ?_
   rcases Bool.eq_false_or_eq_true (!r27) with hg30 | hg30
   · rw [hg30]
     try rw [hg30] at hF; dsimp only [cond_true, cond_false] at hF
     iterate 14 refine du ?_
     cases hF
     exact ⟨_, _, rfl, eqA, entA⟩
   rw [hg30]
   try rw [hg30] at hF; dsimp only [cond_true, cond_false] at hF
   iterate 3 refine du ?_
   rcases Bool.eq_false_or_eq_true (decide ((0 : Int) < (k4 : Int))) with hg31 | hg31
   · rw [hg31]
     try rw [hg31] at hF; dsimp only [cond_true, cond_false] at hF
     iterate 3 refine du ?_
     refine bnd hF fun x32 hx33 hF => ?_
     obtain ⟨hp34, hx35⟩ := ix_some hx33
     refine Di hx35 (fun k36 j37 => ?_)
     refine DlA1 (ul129_0_129 x32) la129_0_129 (fun p38 => ?_)
     refine D_atO rfl (.on 21 rfl rfl rfl) (.t (.t .h)) (fun ha hp => V_loadBox ag129.h ty129.h.sz rfl (EN ha (.tmp rfl rfl) rfl) hp.2 rfl) ?_
     refine bnd hF fun r39 hx40 hF => Dx0 (i_CompareFacts_ok _ _ _ _ _ hx40) (fun _ => ?_)
     iterate 4 refine du ?_
     cases hF
     exact ⟨_, _, rfl, eqA, entA⟩
   rw [hg31]
   try rw [hg31] at hF; dsimp only [cond_true, cond_false] at hF
   iterate 11 refine du ?_
   cases hF
   exact ⟨_, _, rfl, eqA, entA⟩
 rintro _ _ ⟨c42, g45, rfl, rfl, hE⟩
 replace hF := hO26
 try dsimp only at hF
 refine K_ent hE ?_
 refine Ci hF (fun hb44 hF => ?_) (fun hb44 hF => ?_)
 · iterate 4 refine au ?_
   cases hF
   exact Er ()
 iterate 5 refine au ?_
 rw [wk k4]
 exact ⟨_, Nat.lt_succ_self _, _, k4 + 1, rest5, rfl, eqA, hd10, entA, hF⟩
def i_IsTold (a_s : List Int) (a_l : List Method) (a_t : Told) : Option (Bool) :=
 ((i_IsAccess a_s a_l a_t.Access).bind fun r4 =>
   bif r4 then ((i_AreFacts a_s a_t.Facts).bind fun r8 =>
     some r8)
   else (some false)).bind fun o2 =>
 match o2 with
 | c11 => some c11
theorem i_IsTold_ok (a_s : List Int) (v0_0 : Sv) (a_l : List Method) (v1_0 : Sv) (a_t : Told) (v2_1 : Sv) (v2_2 : Sv) (R : Bool) (hF : i_IsTold a_s a_l a_t = some R) :
   Fw.Spec Tryz.prog 267 [v0_0.v, v1_0.v, (.agg [(.int .i64 a_t.Access.Method), v2_1.v, v2_2.v].toArray)] [crd (RdS 3 rdInt) v0_0.v a_s, crd (RdS 86 rd86) v1_0.v a_l, crd (RdS 3 rdInt) v2_1.v a_t.Access.Values, crd (RdS 129 rd129) v2_2.v a_t.Facts] (fun _ : Unit => (.bool R)) (fun _ => []) := by
 refine Se 18 Tryz.func267 [.tmp 6] ?_
 intro H0 F0
 unfold i_IsTold at hF
 refine au ?_
 refine AbR (fun k1 => ?_)
 iterate 2 refine au ?_
 obtain ⟨o2, hio2, hO3⟩ := bind_some hF
 refine au ?_
 refine C_cut (fun f' cs' => ∃ (c11 : Bool) (g : Fr), c11 = o2 ∧ f' = updL g [(6, (.bool c11))] ∧ Ent cs' []) ?_ ?_
 · replace hF := hio2
   iterate 3 refine au ?_
   refine C_at .h (fun hp => V_loadA (s := 2) (l := [(.int .i64 a_t.Access.Method), v2_1.v]) ag88.h ty88.h.sz (.tmp rfl rfl) hp.2 rfl (by decide) (Nat.le_of_ble_eq_true rfl) rfl) ?_
   refine bnd hF fun r4 hx5 hF => Cx0 (i_IsAccess_ok _ _ _ _ _ _ _ hx5) (fun _ => ?_)
   refine au ?_
   rcases Bool.eq_false_or_eq_true r4 with hg7 | hg7
   · rw [hg7]
     try rw [hg7] at hF; dsimp only [cond_true, cond_false] at hF
     iterate 7 refine au ?_
     refine bnd hF fun r8 hx9 hF => Cx0 (i_AreFacts_ok _ _ _ _ _ hx9) (fun _ => ?_)
     iterate 3 refine au ?_
     cases hF
     exact ⟨_, _, rfl, eqA, entA⟩
   rw [hg7]
   try rw [hg7] at hF; dsimp only [cond_true, cond_false] at hF
   iterate 7 refine au ?_
   cases hF
   exact ⟨_, _, rfl, eqA, entA⟩
 rintro _ _ ⟨c11, g12, rfl, rfl, hE⟩
 replace hF := hO3
 try dsimp only at hF
 refine K_ent hE ?_
 refine au ?_
 cases hF
 exact Er ()
def i_matches_1_L1 (a_f : Fact) (a_e2 : Access) : List Int → Nat → Option (Bool)
 | [], k5 => some false
 | x7 :: rest6, k5 => (ix a_f.Values x7).bind fun x16 =>
   (ix a_e2.Values (k5 : Int)).bind fun x22 =>
   if ((x16 : Int) != x22) then (
     some true)
   else (
     i_matches_1_L1 a_f a_e2 rest6 (k5 + 1))
def i_matches_1 (a_f : Fact) (a_e1 : Method) (a_e2 : Access) : Option (Bool) :=
 if ((a_f.Rel : Int) != a_e1.Rel) then (
   some true)
 else (
   i_matches_1_L1 a_f a_e2 a_e1.Inputs 0)
theorem i_matches_1_ok (a_f : Fact) (v0_1 : Sv) (kc1 : Nat) (a_e1 : Method) (vc1_1 : Sv) (kc2 : Nat) (a_e2 : Access) (vc2_1 : Sv) (R : Bool) (hF : i_matches_1 a_f a_e1 a_e2 = some R) :
   Fw.Spec Tryz.prog 239 [(.agg [(.int .i64 a_f.Rel), v0_1.v].toArray), (pz kc1), (pz kc2)] [crd (RdS 3 rdInt) v0_1.v a_f.Values, cboR kc1 86 (.agg [(.int .i64 a_e1.Rel), vc1_1.v, (.int .i64 a_e1.Limit), (.int .i64 a_e1.Cost), (.int .i64 a_e1.Quota)].toArray), crd (RdS 3 rdInt) vc1_1.v a_e1.Inputs, cboR kc2 88 (.agg [(.int .i64 a_e2.Method), vc2_1.v].toArray), crd (RdS 3 rdInt) vc2_1.v a_e2.Values] (fun _ : Unit => (.bool R)) (fun _ => []) := by
 refine Se 32 Tryz.func239 [.tmp 4] ?_
 intro H0 F0
 unfold i_matches_1 at hF
 refine au ?_
 refine AbR (fun k1 => ?_)
 iterate 10 refine au ?_
 refine Ci hF (fun hb30 hF => ?_) (fun hb30 hF => ?_)
 · iterate 4 refine au ?_
   cases hF
   exact Er ()
 iterate 8 refine au ?_
 refine CW_block (CW_loop (m := a_e1.Inputs.length) (fun m3 f' cs' => ∃ (g : Fr) (k5 : Nat) (rest6 : List Int), m3 = rest6.length ∧ f' = updL g [(2, (pz kc2)), (3, (pz k1)), (13, vc1_1.v), (14, (.int .i64 (a_e1.Inputs.length : Int))), (15, (.int .i64 (k5 : Int)))] ∧ List.drop k5 a_e1.Inputs = rest6 ∧ Ent cs' [cboR kc2 88 (.agg [(.int .i64 a_e2.Method), vc2_1.v].toArray), crd (RdS 3 rdInt) vc2_1.v a_e2.Values, cboR k1 129 (.agg [(.int .i64 a_f.Rel), v0_1.v].toArray), crd (RdS 3 rdInt) v0_1.v a_f.Values, crd (RdS 3 rdInt) vc1_1.v a_e1.Inputs] ∧ i_matches_1_L1 a_f a_e2 rest6 k5 = some R) ⟨_, 0, _, rfl, eqA, rfl, entA, hF⟩ ?_)
 rintro m3 _ _ ⟨g4, k5, rest6, rfl, rfl, hd8, hE, hF⟩
 refine Kb hE a_e1.Inputs (fun hbd13 => ?_)
 rcases rest6 with _ | ⟨x7, rest6⟩
 · have hk9 := dn hd8
   rw [i_matches_1_L1] at hF
   iterate 4 refine au ?_
   refine CdF ?_
   iterate 8 refine au ?_
   cases hF
   exact Er ()
 obtain ⟨hk9, hx10, hd11⟩ := drop_cons hd8
 rw [i_matches_1_L1] at hF
 iterate 4 refine au ?_
 refine CdT ?_
 iterate 4 refine au ?_
 refine Ai hx10 (fun k14 j15 => ?_)
 refine Al ls3_0 ?_
 iterate 3 refine au ?_
 refine K_draw [0, 1, 2, 3, 4, 5, 6, 7, 8, 9, 10] [0, 1, 0, 7, 15, 0, 32, 0, 224, 480, 1023] [] mixed (by decide +kernel) ?_
 iterate 3 refine du ?_
 refine bnd hF fun x16 hx17 hF => ?_
 obtain ⟨hp18, hx19⟩ := ix_some hx17
 refine Di hx19 (fun k20 j21 => ?_)
 refine Dl ls3_0 ?_
 iterate 3 refine du ?_
 refine bnd hF fun x22 hx23 hF => ?_
 obtain ⟨hp24, hx25⟩ := ix_some hx23
 refine Di hx25 (fun k26 j27 => ?_)
 refine Dl ls3_0 ?_
 iterate 2 refine du ?_
 refine Ci hF (fun hb29 hF => ?_) (fun hb29 hF => ?_)
 · iterate 4 refine au ?_
   cases hF
   exact Er ()
 iterate 5 refine au ?_
 rw [wk k5]
 exact ⟨_, Nat.lt_succ_self _, _, k5 + 1, rest6, rfl, eqA, hd11, entA, hF⟩
def g_slices_IndexFunc_impl_Fact_impl_Fact_imatches1_L1 (a_e1 : Method) (a_e2 : Access) : List Fact → Nat → Option (Int)
 | [], k4 => some (-1)
 | x6 :: rest5, k4 => (i_matches_1 x6 a_e1 a_e2).bind fun r16 =>
   if r16 then (
     some (k4 : Int))
   else (
     g_slices_IndexFunc_impl_Fact_impl_Fact_imatches1_L1 a_e1 a_e2 rest5 (k4 + 1))
def g_slices_IndexFunc_impl_Fact_impl_Fact_imatches1 (a_s : List Fact) (a_e1 : Method) (a_e2 : Access) : Option (Int) :=
 g_slices_IndexFunc_impl_Fact_impl_Fact_imatches1_L1 a_e1 a_e2 a_s 0
theorem g_slices_IndexFunc_impl_Fact_impl_Fact_imatches1_ok (a_s : List Fact) (v0_0 : Sv) (kc1 : Nat) (a_e1 : Method) (vc1_1 : Sv) (kc2 : Nat) (a_e2 : Access) (vc2_1 : Sv) (R : Int) (hF : g_slices_IndexFunc_impl_Fact_impl_Fact_imatches1 a_s a_e1 a_e2 = some R) :
   Fw.Spec Tryz.prog 162 [v0_0.v, (.func (.func 239) [].toArray [(pz kc1), (pz kc2)].toArray)] [crd (RdS 129 rd129) v0_0.v a_s, cboR kc1 86 (.agg [(.int .i64 a_e1.Rel), vc1_1.v, (.int .i64 a_e1.Limit), (.int .i64 a_e1.Cost), (.int .i64 a_e1.Quota)].toArray), crd (RdS 3 rdInt) vc1_1.v a_e1.Inputs, cboR kc2 88 (.agg [(.int .i64 a_e2.Method), vc2_1.v].toArray), crd (RdS 3 rdInt) vc2_1.v a_e2.Values] (fun _ : Unit => (.int .i64 R)) (fun _ => []) := by
 refine Se 19 Tryz.func162 [.tmp 4] ?_
 intro H0 F0
 unfold g_slices_IndexFunc_impl_Fact_impl_Fact_imatches1 at hF
 iterate 9 refine au ?_
 refine CW_block (CW_loop (m := a_s.length) (fun m2 f' cs' => ∃ (g : Fr) (k4 : Nat) (rest5 : List Fact), m2 = rest5.length ∧ f' = updL g [(0, v0_0.v), (1, (.func (.func 239) [].toArray [(pz kc1), (pz kc2)].toArray)), (7, (.int .i64 (a_s.length : Int))), (8, (.int .i64 (k4 : Int)))] ∧ List.drop k4 a_s = rest5 ∧ Ent cs' [crd (RdS 129 rd129) v0_0.v a_s, cboR kc1 86 (.agg [(.int .i64 a_e1.Rel), vc1_1.v, (.int .i64 a_e1.Limit), (.int .i64 a_e1.Cost), (.int .i64 a_e1.Quota)].toArray), crd (RdS 3 rdInt) vc1_1.v a_e1.Inputs, cboR kc2 88 (.agg [(.int .i64 a_e2.Method), vc2_1.v].toArray), crd (RdS 3 rdInt) vc2_1.v a_e2.Values] ∧ g_slices_IndexFunc_impl_Fact_impl_Fact_imatches1_L1 a_e1 a_e2 rest5 k4 = some R) ⟨_, 0, _, rfl, eqA, rfl, entA, hF⟩ ?_)
 rintro m2 _ _ ⟨g3, k4, rest5, rfl, rfl, hd7, hE, hF⟩
 refine Kb hE a_s (fun hbd12 => ?_)
 rcases rest5 with _ | ⟨x6, rest5⟩
 · have hk8 := dn hd7
   rw [g_slices_IndexFunc_impl_Fact_impl_Fact_imatches1_L1] at hF
   iterate 4 refine au ?_
   refine CdF ?_
   iterate 8 refine au ?_
   cases hF
   exact Er ()
 obtain ⟨hk8, hx9, hd10⟩ := drop_cons hd7
 rw [g_slices_IndexFunc_impl_Fact_impl_Fact_imatches1_L1] at hF
 iterate 4 refine au ?_
 refine CdT ?_
 iterate 10 refine au ?_
 refine Ai hx9 (fun k13 j14 => ?_)
 refine AlA1 (ul129_0_129 x6) la129_0_129 (fun p15 => ?_)
 refine bnd hF fun r16 hx17 hF => C_x0 (.rd .h rfl (.rd (.t (.t (.t .h))) rfl (.rd (.t (.t (.t (.t .h)))) rfl (.rd (.t (.t (.t (.t (.t .h))))) rfl (.rd (.t (.t (.t (.t (.t (.t .h)))))) rfl .nil))))) (X_callCS cf239.h (.tmp rfl rfl) (.cons (.tmp rfl rfl) .nil) (i_matches_1_ok x6 p15 kc1 a_e1 vc1_1 kc2 a_e2 vc2_1 _ hx17)) (fun _ => ?_)
 refine au ?_
 refine Ci hF (fun hb20 hF => ?_) (fun hb20 hF => ?_)
 · iterate 5 refine au ?_
   cases hF
   exact Er ()
 iterate 5 refine au ?_
 rw [wk k4]
 exact ⟨_, Nat.lt_succ_self _, _, k4 + 1, rest5, rfl, eqA, hd10, entA, hF⟩
def g_slices_DeleteFunc_impl_Fact_impl_Fact_imatches1 (a_s : List Fact) (a_e1 : Method) (a_e2 : Access) : Option (List Fact) :=
 delL (fun a_q => i_matches_1 a_q a_e1 a_e2) a_s
theorem g_slices_DeleteFunc_impl_Fact_impl_Fact_imatches1_sh (qs : List (Value × Fact)) (v : Sv) (F : List Nat) (kc1 : Nat) (a_e1 : Method) (vc1_1 : Sv) (kc2 : Nat) (a_e2 : Access) (vc2_1 : Sv) (p : Value × Fact → Bool) (hcl : ∀ q ∈ qs, i_matches_1 q.2 a_e1 a_e2 = some (p q)) (hidx : g_slices_IndexFunc_impl_Fact_impl_Fact_imatches1 (qs.map Prod.snd) a_e1 a_e2 = some (ixF p qs 0)) (hbd : qs.length < 4611686018427387904) :
   Fw.Spec Tryz.prog 237 [v.v, (.func (.func 239) [].toArray [(.pointer (some ⟨kc1, 0, some 0⟩)), (.pointer (some ⟨kc2, 0, some 0⟩))].toArray)] [cown (OwnS 129 (roE (rq rd129))) F v.v qs, cboR kc1 86 (.agg [(.int .i64 a_e1.Rel), vc1_1.v, (.int .i64 a_e1.Limit), (.int .i64 a_e1.Cost), (.int .i64 a_e1.Quota)].toArray), crd (RdS 3 rdInt) vc1_1.v a_e1.Inputs, cboR kc2 88 (.agg [(.int .i64 a_e2.Method), vc2_1.v].toArray), crd (RdS 3 rdInt) vc2_1.v a_e2.Values] (fun q : Sv × List Nat => q.1.v) (fun q => [cown (OwnS 129 (roE (rq rd129))) q.2 q.1.v (qs.filter fun a => !p a)]) := by
 refine Spec_enter (n := 42) Tryz.func237 rfl rfl (rs := [.tmp 4]) rfl rfl rfl ?_
 intro H0 F0
 refine K_region ?_
 refine C_val (V_assign (v := (.slice none 0 0)) EV.nilSlice) ?_
 refine C_nil ?_
 refine K_region ?_
 refine C_val (V_move (v := v.v) (.tmp rfl rfl)) ?_
 refine C_val (V_move (v := (.func (.func 239) [].toArray [(.pointer (some ⟨kc1, 0, some 0⟩)), (.pointer (some ⟨kc2, 0, some 0⟩))].toArray)) (.tmp rfl rfl)) ?_
 refine C_x1 (.cons .h (.rd .h rfl (.rd (.t .h) rfl (.rd (.t (.t .h)) rfl (.rd (.t (.t (.t .h))) rfl .nil))))) (XC_borR frz_rq (fun _ => .nil) (XC_pre (.rd (.t (.t (.t (.t .h)))) rfl (.rd .h rfl (.rd (.t .h) rfl (.rd (.t (.t .h)) rfl (.rd (.t (.t (.t .h))) rfl .nil))))) (X_callS cf162.h (.cons (.tmp rfl rfl) (.cons (.tmp rfl rfl) .nil)) (g_slices_IndexFunc_impl_Fact_impl_Fact_imatches1_ok (qs.map Prod.snd) v kc1 a_e1 vc1_1 kc2 a_e2 vc2_1 _ hidx)))) (fun _ => ?_)
 generalize hR : ixF p qs 0 = R0
 refine C_val (V_assign (v := (.int .i64 R0)) (.tmp rfl rfl)) ?_
 refine C_nil ?_
 refine K_in ?_
 refine K_region ?_
 refine C_val (V_move (v := (.int .i64 R0)) (.tmp rfl rfl)) ?_
 refine C_val (V_eql (i := R0) (j := (-1)) (.tmp rfl rfl) (.int _ _)) ?_
 refine C_nil ?_
 refine CW_cond (b := (R0 == (-1 : Int))) (.tmp rfl rfl) (fun hb => ?_) (fun hb => ?_)
 · refine K_region ?_
   refine C_val (V_move (v := v.v) (.tmp rfl rfl)) ?_
   refine C_val (V_assign (v := v.v) (.tmp rfl rfl)) ?_
   refine C_nil ?_
   refine CW_ret ?_
   have e : qs.filter (fun q => !p q) = qs := ixF_none (k := 0) (by rw [hR]; simpa using hb)
   rw [e]
   exact End_ret (v, F) (.tmp rfl rfl .nil) rfl (.sel (.cons .h .nil))
 refine CW_skip ?_
 obtain ⟨i0, hi0, hi1⟩ : ∃ i : Nat, R0 = (i : Int) ∧ i < qs.length := by
   rcases ixF_range p qs 0 with h | ⟨i, h, hi⟩
   · rw [hR] at h; subst h; simp at hb
   · exact ⟨i, by rw [← hR, h], by omega⟩
 subst hi0
 refine K_in ?_
 refine K_region ?_
 refine C_val (V_move (v := (.int .i64 (i0 : Int))) (.tmp rfl rfl)) ?_
 refine C_val (V_add (i := (i0 : Int)) (j := 1) (.tmp rfl rfl) (.int _ _)) ?_
 rw [show IntKind.i64.wrap ((i0 : Int) + 1) = ((i0 + 1 : Nat) : Int) from by rw [wrap_in (by omega) (by omega)]; rfl]
 refine C_val (V_assign (v := (.int .i64 ((i0 + 1 : Nat) : Int))) (.tmp rfl rfl)) ?_
 refine C_nil ?_
 refine CW_block ?_
 refine CW_loop (m := qs.length - (i0 + 1)) (fun m f' cs' => ∃ (g : Fr) (cur : List (Value × Fact)) (i j : Nat) (F' : List Nat), m = qs.length - j ∧ f' = updL g [(0, v.v), (1, (.func (.func 239) [].toArray [(.pointer (some ⟨kc1, 0, some 0⟩)), (.pointer (some ⟨kc2, 0, some 0⟩))].toArray)), (5, (.int .i64 (i : Int))), (6, (.int .i64 (j : Int)))] ∧ DelI p qs cur i j ∧ Ent cs' [cown (OwnS 129 (roE (rq rd129))) F' v.v cur, cboR kc1 86 (.agg [(.int .i64 a_e1.Rel), vc1_1.v, (.int .i64 a_e1.Limit), (.int .i64 a_e1.Cost), (.int .i64 a_e1.Quota)].toArray), crd (RdS 3 rdInt) vc1_1.v a_e1.Inputs, cboR kc2 88 (.agg [(.int .i64 a_e2.Method), vc2_1.v].toArray), crd (RdS 3 rdInt) vc2_1.v a_e2.Values]) ⟨_, qs, i0, i0 + 1, F, rfl, (EqL.cons rfl (EqL.cons rfl (EqL.cons rfl (EqL.cons rfl (EqL.nil))))).eq, DelI.init (by rw [hR]), .sel (.cons .h (.rd .h rfl (.rd (.t .h) rfl (.rd (.t (.t .h)) rfl (.rd (.t (.t (.t .h))) rfl .nil)))))⟩ ?_
 rintro m _ _ ⟨g, cur, i, j, F', rfl, rfl, hI, hE⟩
 refine K_ent hE ?_
 clear hE
 refine K_in ?_
 refine K_region ?_
 refine C_val (V_move (v := (.int .i64 (j : Int))) (.tmp rfl rfl)) ?_
 refine C_val (V_move (v := v.v) (.tmp rfl rfl)) ?_
 refine C_at .h (fun hp => V_lenR (l := cur.length) sl52.h (.tmp rfl rfl) (cown_len hp)) ?_
 refine C_val (V_lss (i := (j : Int)) (j := (cur.length : Int)) (.tmp rfl rfl) (.tmp rfl rfl)) ?_
 refine C_nil ?_
 have hlen := hI.len
 have hij := hI.lt
 have hjl := hI.le
 refine CW_cond (b := (decide ((j : Int) < (cur.length : Int)))) (.tmp rfl rfl) (fun hb2 => ?_) (fun hb2 => ?_)
 · refine CW_skip ?_
   have hj : j < qs.length := by simp at hb2; omega
   obtain ⟨x, hx1, hx2⟩ := hI.at hj
   refine K_block ?_
   refine K_region ?_
   refine C_val (V_move (v := v.v) (.tmp rfl rfl)) ?_
   refine C_val (V_move (v := (.int .i64 (j : Int))) (.tmp rfl rfl)) ?_
   refine C_idxO sl52.h ty129.h.sz (.tmp rfl rfl) (.tmp rfl rfl) .h (by simp; omega) (fun k hk => ?_)
   refine C_ldOW (a := x) (ul := fun i : Sv => [(.int .i64 x.2.Rel), i.v]) (cc := fun i => [crd (RdS 3 rdInt) i.v x.2.Values]) ag129.h ty129.h.sz rfl (.tmp rfl rfl) .h hk (by simpa using hx1) (fun H e h => by obtain ⟨-, v0, h1, h0⟩ := h; exact ⟨v0, h1, rfl, by simp [crd, h0]⟩) (fun w => ?_)
   refine C_new rfl (N_allocT (g := true) ty129.h rfl rfl) (fun k1 => ?_)
   refine C_x1 (.cons .h .nil) (X_storeB (e := (.agg [(.int .i64 0), (.slice none 0 0)].toArray)) (e' := (.agg [(.int .i64 x.2.Rel), w.v].toArray)) (v := (.agg [(.int .i64 x.2.Rel), w.v].toArray)) ty129.h.sz (.tmp rfl rfl) (.tmp rfl rfl) rfl rfl rfl rfl rfl) (fun _ => ?_)
   refine C_nil ?_
   refine K_region ?_
   refine C_val (V_move (v := (.func (.func 239) [].toArray [(.pointer (some ⟨kc1, 0, some 0⟩)), (.pointer (some ⟨kc2, 0, some 0⟩))].toArray)) (.tmp rfl rfl)) ?_
   refine C_at .h (fun hp => V_loadBox ag129.h ty129.h.sz rfl (.tmp rfl rfl) hp.2 rfl) ?_
   refine C_x0 (.rd (.t (.t .h)) rfl (.rd (.t (.t (.t (.t .h)))) rfl (.rd (.t (.t (.t (.t (.t .h))))) rfl (.rd (.t (.t (.t (.t (.t (.t .h)))))) rfl (.rd (.t (.t (.t (.t (.t (.t (.t .h))))))) rfl .nil))))) (X_callCS cf239.h (.tmp rfl rfl) (.cons (.tmp rfl rfl) .nil) (i_matches_1_ok x.2 w kc1 a_e1 vc1_1 kc2 a_e2 vc2_1 _ (hcl x (List.mem_of_getElem? hx2)))) (fun _ => ?_)
   refine C_val (V_not (b := p x) (.tmp rfl rfl)) ?_
   refine C_nil ?_
   refine CW_cond (b := (!p x)) (.tmp rfl rfl) (fun hb3 => ?_) (fun hb3 => ?_)
   · refine K_region ?_
     refine C_val (V_move (v := v.v) (.tmp rfl rfl)) ?_
     refine C_val (V_move (v := (.int .i64 (i : Int))) (.tmp rfl rfl)) ?_
     refine C_at .h (fun hp => V_loadBox ag129.h ty129.h.sz rfl (.tmp rfl rfl) hp.2 rfl) ?_
     have hii : (decide ((0 : Int) ≤ (i : Int)) && decide ((i : Int) < (cur.length : Int))) = true := by simp; omega
     refine C_idxO sl52.h ty129.h.sz (.tmp rfl rfl) (.tmp rfl rfl) (.t (.t (.t .h))) hii (fun k2 hk2 => ?_)
     refine C_x1 (.cons (.t (.t (.t .h))) (.rd (.t .h) rfl .nil)) (X_storeO (Ro := roE (rq rd129)) (a := x) (i := (i : Int)) ty129.h.sz rfl (.tmp rfl rfl) (.tmp rfl rfl) hk2 hii Mk_rd (fun _ _ _ _ h => by obtain ⟨-, -, v0, rfl, _⟩ := h; rfl)) (fun F2 => ?_)
     refine C_nil ?_
     refine CW_region ?_
     refine C_val (V_move (v := (.int .i64 (i : Int))) (.tmp rfl rfl)) ?_
     refine C_val (V_add (i := (i : Int)) (j := 1) (.tmp rfl rfl) (.int _ _)) ?_
     rw [show IntKind.i64.wrap ((i : Int) + 1) = ((i + 1 : Nat) : Int) from by rw [wrap_in (by omega) (by omega)]; rfl]
     refine C_val (V_assign (v := (.int .i64 ((i + 1 : Nat) : Int))) (.tmp rfl rfl)) ?_
     refine C_nil ?_
     refine CW_region ?_
     refine C_val (V_move (v := (.int .i64 (j : Int))) (.tmp rfl rfl)) ?_
     refine C_val (V_add (i := (j : Int)) (j := 1) (.tmp rfl rfl) (.int _ _)) ?_
     rw [show IntKind.i64.wrap ((j : Int) + 1) = ((j + 1 : Nat) : Int) from by rw [wrap_in (by omega) (by omega)]; rfl]
     refine C_val (V_assign (v := (.int .i64 ((j + 1 : Nat) : Int))) (.tmp rfl rfl)) ?_
     refine C_nil ?_
     exact ⟨_, by omega, _, cur.set i x, i + 1, j + 1, F2, rfl, (EqL.cons rfl (EqL.cons rfl (EqL.cons rfl (EqL.cons rfl (EqL.nil))))).eq, hI.no hx2 (by simpa using hb3), .sel (.cons .h (.rd (.t (.t (.t .h))) rfl (.rd (.t (.t (.t (.t .h)))) rfl (.rd (.t (.t (.t (.t (.t .h))))) rfl (.rd (.t (.t (.t (.t (.t (.t .h)))))) rfl .nil)))))⟩
   · refine CW_skip ?_
     refine CW_region ?_
     refine C_val (V_move (v := (.int .i64 (j : Int))) (.tmp rfl rfl)) ?_
     refine C_val (V_add (i := (j : Int)) (j := 1) (.tmp rfl rfl) (.int _ _)) ?_
     rw [show IntKind.i64.wrap ((j : Int) + 1) = ((j + 1 : Nat) : Int) from by rw [wrap_in (by omega) (by omega)]; rfl]
     refine C_val (V_assign (v := (.int .i64 ((j + 1 : Nat) : Int))) (.tmp rfl rfl)) ?_
     refine C_nil ?_
     exact ⟨_, by omega, _, cur, i, j + 1, F', rfl, (EqL.cons rfl (EqL.cons rfl (EqL.cons rfl (EqL.cons rfl (EqL.nil))))).eq, hI.yes hx2 (by simpa using hb3), .sel (.cons (.t (.t (.t .h))) (.rd (.t (.t (.t .h))) rfl (.rd (.t (.t (.t (.t .h)))) rfl (.rd (.t (.t (.t (.t (.t .h))))) rfl (.rd (.t (.t (.t (.t (.t (.t .h)))))) rfl .nil)))))⟩
 · refine CW_exit ?_
   refine CThen_exit ?_
   refine CThen_exit ?_
   refine CIn_self ?_
   have hj : qs.length ≤ j := by simp at hb2; omega
   refine K_pure .h (own_form (by intro e; rw [e] at hlen; simp at hlen; omega)) (fun hv => ?_)
   obtain ⟨k0, m0, rfl, hm0⟩ := hv
   refine K_region ?_
   refine C_val (V_move (v := (.slice (some ⟨k0, 0, none⟩) cur.length m0)) (.tmp rfl rfl)) ?_
   refine C_val (V_move (v := (.int .i64 (i : Int))) (.tmp rfl rfl)) ?_
   refine C_sliceLo sl52.h ty129.h.sz (.tmp rfl rfl) (.tmp rfl rfl) .h (by omega) (by omega) ?_
   refine C_x1 (.cons .h .nil) (X_clear (l := cur.length) (m := m0) (k := k0) (i := i) (j := cur.length - i) sl52.h ty129.h rfl rfl rfl rfl rfl (by omega) (.tmp rfl rfl)) (fun _ => ?_)
   refine C_nil ?_
   refine K_region ?_
   refine C_val (V_move (v := (.slice (some ⟨k0, 0, none⟩) cur.length m0)) (.tmp rfl rfl)) ?_
   refine C_val (V_move (v := (.int .i64 (i : Int))) (.tmp rfl rfl)) ?_
   refine C_sliceHi sl52.h ty129.h.sz (.tmp rfl rfl) hm0 (.tmp rfl rfl) .h rfl (by omega) (by omega) (by omega) ?_
   refine C_val (V_assign (v := (.slice (some ⟨k0, 0, none⟩) i 2)) (.tmp rfl rfl)) ?_
   refine C_nil ?_
   refine CW_ret ?_
   rw [← hI.fin hj]
   exact End_ret (⟨some ⟨k0, 0, none⟩, i, 2⟩, F') (.tmp rfl rfl .nil) rfl (.sel (.cons .h .nil))
theorem g_slices_DeleteFunc_impl_Fact_impl_Fact_imatches1_ok (a_s : List Fact) (v0_0 : Sv) (F0_0 : List Nat) (kc1 : Nat) (a_e1 : Method) (vc1_1 : Sv) (kc2 : Nat) (a_e2 : Access) (vc2_1 : Sv) (R : List Fact) (hF : g_slices_DeleteFunc_impl_Fact_impl_Fact_imatches1 a_s a_e1 a_e2 = some R) :
   Fw.Spec Tryz.prog 237 [v0_0.v, (.func (.func 239) [].toArray [(.pointer (some ⟨kc1, 0, some 0⟩)), (.pointer (some ⟨kc2, 0, some 0⟩))].toArray)] [cown (OwnS 129 ow129) F0_0 v0_0.v a_s, cboR kc1 86 (.agg [(.int .i64 a_e1.Rel), vc1_1.v, (.int .i64 a_e1.Limit), (.int .i64 a_e1.Cost), (.int .i64 a_e1.Quota)].toArray), crd (RdS 3 rdInt) vc1_1.v a_e1.Inputs, cboR kc2 88 (.agg [(.int .i64 a_e2.Method), vc2_1.v].toArray), crd (RdS 3 rdInt) vc2_1.v a_e2.Values] (fun p : Sv × List Nat => p.1.v) (fun p => [cown (OwnS 129 ow129) p.2 p.1.v R]) := by
 unfold g_slices_DeleteFunc_impl_Fact_impl_Fact_imatches1 at hF
 obtain ⟨h1, h2⟩ := delL_some hF
 refine Spec_pure cown_bound (fun hb => ?_)
 refine Spec_deep (R := rd129) rfl (fun es F1 hel => ⟨(es.zip a_s).filter (fun a => !(i_matches_1 a.2 a_e1 a_e2).getD false), List.filter_sublist, by rw [h2]; exact zip_filter (fun a => (i_matches_1 a a_e1 a_e2).getD false) es a_s hel, ?_⟩)
 refine g_slices_DeleteFunc_impl_Fact_impl_Fact_imatches1_sh (es.zip a_s) v0_0 F1 kc1 a_e1 vc1_1 kc2 a_e2 vc2_1 (fun a => (i_matches_1 a.2 a_e1 a_e2).getD false) (fun q hq => h1 q.2 (List.of_mem_zip hq).2) ?_ (by simp; omega)
 rw [List.map_snd_zip (Nat.le_of_eq hel.symm), ← ixF_map Prod.snd (fun a => (i_matches_1 a a_e1 a_e2).getD false), List.map_snd_zip (Nat.le_of_eq hel.symm)]
 exact index_loop (L := g_slices_IndexFunc_impl_Fact_impl_Fact_imatches1_L1 a_e1 a_e2) (fun _ => rfl) (fun _ _ _ => rfl) a_s 0 h1
def i_matches (a_l : List Method) (a_facts : List Fact) (a_a : Access) : Option ((List Fact)) :=
 (ix a_l a_a.Method).bind fun x2 =>
 (i_copyFacts a_facts).bind fun r13 =>
 (g_slices_DeleteFunc_impl_Fact_impl_Fact_imatches1 r13 x2 a_a).bind fun r16 =>
 some r16
theorem i_matches_ok (a_l : List Method) (v0_0 : Sv) (a_facts : List Fact) (v1_0 : Sv) (a_a : Access) (v2_1 : Sv) (R : (List Fact)) (hF : i_matches a_l a_facts a_a = some R) :
   Fw.Spec Tryz.prog 199 [v0_0.v, v1_0.v, (.agg [(.int .i64 a_a.Method), v2_1.v].toArray)] [crd (RdS 86 rd86) v0_0.v a_l, crd (RdS 129 rd129) v1_0.v a_facts, crd (RdS 3 rdInt) v2_1.v a_a.Values] (fun p : Sv × List Nat => p.1.v) (fun p => [cown (OwnS 129 ow129) p.2 p.1.v R]) := by
 refine Se 17 Tryz.func199 [.tmp 6] ?_
 intro H0 F0
 unfold i_matches at hF
 refine au ?_
 refine AbR (fun k1 => ?_)
 iterate 6 refine au ?_
 refine bnd hF fun x2 hx3 hF => ?_
 obtain ⟨hp4, hx5⟩ := ix_some hx3
 refine Ai hx5 (fun k6 j7 => ?_)
 refine AlA1 (ul86_0_86 x2) la86_0_86 (fun p8 => ?_)
 refine AnW (fun k9 => ?_)
 refine As (.agg [(.int .i64 x2.Rel), p8.v, (.int .i64 x2.Limit), (.int .i64 x2.Cost), (.int .i64 x2.Quota)].toArray) ?_
 refine au ?_
 refine K_frz .h frz_blk ?_
 iterate 2 refine au ?_
 refine bnd hF fun r13 hx14 hF => Cx1 (i_copyFacts_ok _ _ _ hx14) (fun p15 => ?_)
 refine C_val (V_makeFunc (fn := .func 239) (vs := []) (us := [(pz k9), (pz k1)]) .nil (.cons (.tmp rfl rfl) (.cons (.tmp rfl rfl) .nil))) ?_
 refine bnd hF fun r16 hx17 hF => Cx1 (g_slices_DeleteFunc_impl_Fact_impl_Fact_imatches1_ok _ _ _ _ _ _ _ _ _ _ hx17) (fun p18 => ?_)
 iterate 3 refine au ?_
 cases hF
 exact Er (p18.1, p18.2)
def i_FitsSelf (a_s : List Int) (a_l : List Method) (a_t : Told) : Option (Bool) :=
 (i_IsTold a_s a_l a_t).bind fun r2 =>
 if (!r2) then (
   some false)
 else (
   (ix a_l a_t.Access.Method).bind fun x5 =>
   ((i_matches a_l a_t.Facts a_t.Access).bind fun r13 =>
     bif (((r13.length : Int) : Int) == (a_t.Facts.length : Int)) then (bif ((x5.Limit : Int) == 0) then (some true)
       else (some (decide (((a_t.Facts.length : Int) : Int) ≤ x5.Limit))))
     else (some false)).bind fun o11 =>
   match o11 with
   | c18 => some c18)
theorem i_FitsSelf_ok (a_s : List Int) (v0_0 : Sv) (a_l : List Method) (v1_0 : Sv) (a_t : Told) (v2_1 : Sv) (v2_2 : Sv) (R : Bool) (hF : i_FitsSelf a_s a_l a_t = some R) :
   Fw.Spec Tryz.prog 242 [v0_0.v, v1_0.v, (.agg [(.int .i64 a_t.Access.Method), v2_1.v, v2_2.v].toArray)] [crd (RdS 3 rdInt) v0_0.v a_s, crd (RdS 86 rd86) v1_0.v a_l, crd (RdS 3 rdInt) v2_1.v a_t.Access.Values, crd (RdS 129 rd129) v2_2.v a_t.Facts] (fun _ : Unit => (.bool R)) (fun _ => []) := by
 refine Se 42 Tryz.func242 [.tmp 6] ?_
 intro H0 F0
 unfold i_FitsSelf at hF
 refine au ?_
 refine AbR (fun k1 => ?_)
 iterate 7 refine au ?_
 refine bnd hF fun r2 hx3 hF => Cx0 (i_IsTold_ok _ _ _ _ _ _ _ _ hx3) (fun _ => ?_)
 iterate 2 refine au ?_
 refine Ci hF (fun hb20 hF => ?_) (fun hb20 hF => ?_)
 · iterate 4 refine au ?_
   cases hF
   exact Er ()
 iterate 6 refine au ?_
 refine bnd hF fun x5 hx6 hF => ?_
 obtain ⟨hp7, hx8⟩ := ix_some hx6
 refine Ai hx8 (fun k9 j10 => ?_)
 refine au ?_
 refine Al ls86_2 ?_
 iterate 2 refine au ?_
 obtain ⟨o11, hio11, hO12⟩ := bind_some hF
 refine K_draw [0, 1, 2, 3, 4, 7, 8, 9, 5, 6, 10, 11, 12, 13, 14, 15, 16, 17, 18, 19, 20, 21, 22] [0, 0, 2, 0, 8, 31, 63, 0, 128, 384, 1023, 2047, 4095, 8191, 16383, 32767, 65535, 131071, 32767, 524287, 1048575, 2097151, 4194303] [5] mixed (by decide +kernel) ?_
 refine D_cut (fun f' cs' => ∃ (c18 : Bool) (g : Fr), c18 = o11 ∧ f' = updL g [(6, (.bool c18))] ∧ Ent cs' []) ?_ ?_
 · replace hF := hio11
   iterate 4 refine du ?_
   refine D_at rfl .no (.t .h) rfl (fun ha hp => V_loadA (s := 2) (l := [(.int .i64 a_t.Access.Method), v2_1.v]) ag88.h ty88.h.sz (EN ha (.tmp rfl rfl) rfl) hp.2 rfl (by decide) (Nat.le_of_ble_eq_true rfl) rfl) ?_
   iterate 3 refine du ?_
   refine bnd hF fun r13 hx14 hF => Dx1 (i_matches_ok _ _ _ _ _ _ _ hx14) (fun p15 => ?_)
   refine D_atO rfl .no .h (fun ha hp => V_lenR (l := r13.length) sl52.h (EN ha (.tmp rfl rfl) rfl) (cown_len hp)) ?_
   iterate 2 refine du ?_
   rcases Bool.eq_false_or_eq_true (((r13.length : Int) : Int) == (a_t.Facts.length : Int)) with hg16 | hg16
   · rw [hg16]
     try rw [hg16] at hF; dsimp only [cond_true, cond_false] at hF
     iterate 3 refine du ?_
     rcases Bool.eq_false_or_eq_true ((x5.Limit : Int) == 0) with hg17 | hg17
     · rw [hg17]
       try rw [hg17] at hF; dsimp only [cond_true, cond_false] at hF
       iterate 9 refine du ?_
       cases hF
       exact ⟨_, _, rfl, eqA, entA⟩
     rw [hg17]
     try rw [hg17] at hF; dsimp only [cond_true, cond_false] at hF
     iterate 9 refine du ?_
     cases hF
     exact ⟨_, _, rfl, eqA, entA⟩
   rw [hg16]
   try rw [hg16] at hF; dsimp only [cond_true, cond_false] at hF
   iterate 12 refine du ?_
   cases hF
   exact ⟨_, _, rfl, eqA, entA⟩
 rintro _ _ ⟨c18, g19, rfl, rfl, hE⟩
 replace hF := hO12
 try dsimp only at hF
 refine K_ent hE ?_
 refine au ?_
 cases hF
 exact Er ()
def i_HasFact_1 (a_x : Fact) (a_e1 : Fact) : Option (Bool) :=
 (i_CompareFacts a_x a_e1).bind fun r2 =>
 some ((r2 : Int) == 0)
theorem i_HasFact_1_ok (a_x : Fact) (v0_1 : Sv) (kc1 : Nat) (a_e1 : Fact) (vc1_1 : Sv) (R : Bool) (hF : i_HasFact_1 a_x a_e1 = some R) :
   Fw.Spec Tryz.prog 217 [(.agg [(.int .i64 a_x.Rel), v0_1.v].toArray), (pz kc1)] [crd (RdS 3 rdInt) v0_1.v a_x.Values, cboR kc1 129 (.agg [(.int .i64 a_e1.Rel), vc1_1.v].toArray), crd (RdS 3 rdInt) vc1_1.v a_e1.Values] (fun _ : Unit => (.bool R)) (fun _ => []) := by
 refine Se 8 Tryz.func217 [.tmp 3] ?_
 intro H0 F0
 unfold i_HasFact_1 at hF
 refine au ?_
 refine AbR (fun k1 => ?_)
 iterate 5 refine au ?_
 refine bnd hF fun r2 hx3 hF => Cx0 (i_CompareFacts_ok _ _ _ _ _ hx3) (fun _ => ?_)
 iterate 4 refine au ?_
 cases hF
 exact Er ()
def g_slices_IndexFunc_impl_Fact_impl_Fact_iHasFact1_L1 (a_e1 : Fact) : List Fact → Nat → Option (Int)
 | [], k4 => some (-1)
 | x6 :: rest5, k4 => (i_HasFact_1 x6 a_e1).bind fun r16 =>
   if r16 then (
     some (k4 : Int))
   else (
     g_slices_IndexFunc_impl_Fact_impl_Fact_iHasFact1_L1 a_e1 rest5 (k4 + 1))
def g_slices_IndexFunc_impl_Fact_impl_Fact_iHasFact1 (a_s : List Fact) (a_e1 : Fact) : Option (Int) :=
 g_slices_IndexFunc_impl_Fact_impl_Fact_iHasFact1_L1 a_e1 a_s 0
theorem g_slices_IndexFunc_impl_Fact_impl_Fact_iHasFact1_ok (a_s : List Fact) (v0_0 : Sv) (kc1 : Nat) (a_e1 : Fact) (vc1_1 : Sv) (R : Int) (hF : g_slices_IndexFunc_impl_Fact_impl_Fact_iHasFact1 a_s a_e1 = some R) :
   Fw.Spec Tryz.prog 162 [v0_0.v, (.func (.func 217) [].toArray [(pz kc1)].toArray)] [crd (RdS 129 rd129) v0_0.v a_s, cboR kc1 129 (.agg [(.int .i64 a_e1.Rel), vc1_1.v].toArray), crd (RdS 3 rdInt) vc1_1.v a_e1.Values] (fun _ : Unit => (.int .i64 R)) (fun _ => []) := by
 refine Se 19 Tryz.func162 [.tmp 4] ?_
 intro H0 F0
 unfold g_slices_IndexFunc_impl_Fact_impl_Fact_iHasFact1 at hF
 iterate 9 refine au ?_
 refine CW_block (CW_loop (m := a_s.length) (fun m2 f' cs' => ∃ (g : Fr) (k4 : Nat) (rest5 : List Fact), m2 = rest5.length ∧ f' = updL g [(0, v0_0.v), (1, (.func (.func 217) [].toArray [(pz kc1)].toArray)), (7, (.int .i64 (a_s.length : Int))), (8, (.int .i64 (k4 : Int)))] ∧ List.drop k4 a_s = rest5 ∧ Ent cs' [crd (RdS 129 rd129) v0_0.v a_s, cboR kc1 129 (.agg [(.int .i64 a_e1.Rel), vc1_1.v].toArray), crd (RdS 3 rdInt) vc1_1.v a_e1.Values] ∧ g_slices_IndexFunc_impl_Fact_impl_Fact_iHasFact1_L1 a_e1 rest5 k4 = some R) ⟨_, 0, _, rfl, eqA, rfl, entA, hF⟩ ?_)
 rintro m2 _ _ ⟨g3, k4, rest5, rfl, rfl, hd7, hE, hF⟩
 refine Kb hE a_s (fun hbd12 => ?_)
 rcases rest5 with _ | ⟨x6, rest5⟩
 · have hk8 := dn hd7
   rw [g_slices_IndexFunc_impl_Fact_impl_Fact_iHasFact1_L1] at hF
   iterate 4 refine au ?_
   refine CdF ?_
   iterate 8 refine au ?_
   cases hF
   exact Er ()
 obtain ⟨hk8, hx9, hd10⟩ := drop_cons hd7
 rw [g_slices_IndexFunc_impl_Fact_impl_Fact_iHasFact1_L1] at hF
 iterate 4 refine au ?_
 refine CdT ?_
 iterate 10 refine au ?_
 refine Ai hx9 (fun k13 j14 => ?_)
 refine AlA1 (ul129_0_129 x6) la129_0_129 (fun p15 => ?_)
 refine bnd hF fun r16 hx17 hF => C_x0 (.rd .h rfl (.rd (.t (.t (.t .h))) rfl (.rd (.t (.t (.t (.t .h)))) rfl .nil))) (X_callCS cf217.h (.tmp rfl rfl) (.cons (.tmp rfl rfl) .nil) (i_HasFact_1_ok x6 p15 kc1 a_e1 vc1_1 _ hx17)) (fun _ => ?_)
 refine au ?_
 refine Ci hF (fun hb20 hF => ?_) (fun hb20 hF => ?_)
 · iterate 5 refine au ?_
   cases hF
   exact Er ()
 iterate 5 refine au ?_
 rw [wk k4]
 exact ⟨_, Nat.lt_succ_self _, _, k4 + 1, rest5, rfl, eqA, hd10, entA, hF⟩
def g_slices_ContainsFunc_impl_Fact_impl_Fact_iHasFact1 (a_s : List Fact) (a_e1 : Fact) : Option (Bool) :=
 (g_slices_IndexFunc_impl_Fact_impl_Fact_iHasFact1 a_s a_e1).bind fun r1 =>
 some (decide ((0 : Int) ≤ r1))
theorem g_slices_ContainsFunc_impl_Fact_impl_Fact_iHasFact1_ok (a_s : List Fact) (v0_0 : Sv) (kc1 : Nat) (a_e1 : Fact) (vc1_1 : Sv) (R : Bool) (hF : g_slices_ContainsFunc_impl_Fact_impl_Fact_iHasFact1 a_s a_e1 = some R) :
   Fw.Spec Tryz.prog 216 [v0_0.v, (.func (.func 217) [].toArray [(pz kc1)].toArray)] [crd (RdS 129 rd129) v0_0.v a_s, cboR kc1 129 (.agg [(.int .i64 a_e1.Rel), vc1_1.v].toArray), crd (RdS 3 rdInt) vc1_1.v a_e1.Values] (fun _ : Unit => (.bool R)) (fun _ => []) := by
 refine Se 9 Tryz.func216 [.tmp 4] ?_
 intro H0 F0
 unfold g_slices_ContainsFunc_impl_Fact_impl_Fact_iHasFact1 at hF
 iterate 6 refine au ?_
 refine bnd hF fun r1 hx2 hF => Cx0 (g_slices_IndexFunc_impl_Fact_impl_Fact_iHasFact1_ok _ _ _ _ _ _ hx2) (fun _ => ?_)
 iterate 4 refine au ?_
 cases hF
 exact Er ()
def i_HasFact (a_l : List Fact) (a_f : Fact) : Option (Bool) :=
 (g_slices_ContainsFunc_impl_Fact_impl_Fact_iHasFact1 a_l a_f).bind fun r2 =>
 some r2
theorem i_HasFact_ok (a_l : List Fact) (v0_0 : Sv) (a_f : Fact) (v1_1 : Sv) (R : Bool) (hF : i_HasFact a_l a_f = some R) :
   Fw.Spec Tryz.prog 161 [v0_0.v, (.agg [(.int .i64 a_f.Rel), v1_1.v].toArray)] [crd (RdS 129 rd129) v0_0.v a_l, crd (RdS 3 rdInt) v1_1.v a_f.Values] (fun _ : Unit => (.bool R)) (fun _ => []) := by
 refine Se 8 Tryz.func161 [.tmp 4] ?_
 intro H0 F0
 unfold i_HasFact at hF
 refine au ?_
 refine AbR (fun k1 => ?_)
 iterate 4 refine au ?_
 refine C_val (V_makeFunc (fn := .func 217) (vs := []) (us := [(pz k1)]) .nil (.cons (.tmp rfl rfl) .nil)) ?_
 refine bnd hF fun r2 hx3 hF => Cx0 (g_slices_ContainsFunc_impl_Fact_impl_Fact_iHasFact1_ok _ _ _ _ _ _ hx3) (fun _ => ?_)
 iterate 3 refine au ?_
 cases hF
 exact Er ()
def i_Told_denies (a_t : Told) (a_l : List Method) (a_f : Fact) : Option (Bool) :=
 (ix a_l a_t.Access.Method).bind fun x3 =>
 ((i_matches a_l ([a_f] : List Fact) a_t.Access).bind fun r12 =>
   bif (decide ((0 : Int) < (r12.length : Int))) then ((i_HasFact a_t.Facts a_f).bind fun r16 =>
     bif (!r16) then (bif ((x3.Limit : Int) == 0) then (some true)
       else (some (decide (((a_t.Facts.length : Int) : Int) < x3.Limit))))
     else (some false))
   else (some false)).bind fun o9 =>
 match o9 with
 | c21 => some c21
theorem i_Told_denies_ok (a_t : Told) (v0_1 : Sv) (v0_2 : Sv) (a_l : List Method) (v1_0 : Sv) (a_f : Fact) (v2_1 : Sv) (R : Bool) (hF : i_Told_denies a_t a_l a_f = some R) :
   Fw.Spec Tryz.prog 269 [(.agg [(.int .i64 a_t.Access.Method), v0_1.v, v0_2.v].toArray), v1_0.v, (.agg [(.int .i64 a_f.Rel), v2_1.v].toArray)] [crd (RdS 3 rdInt) v0_1.v a_t.Access.Values, crd (RdS 129 rd129) v0_2.v a_t.Facts, crd (RdS 86 rd86) v1_0.v a_l, crd (RdS 3 rdInt) v2_1.v a_f.Values] (fun _ : Unit => (.bool R)) (fun _ => []) := by
 refine Se 41 Tryz.func269 [.tmp 6] ?_
 intro H0 F0
 unfold i_Told_denies at hF
 refine au ?_
 refine AbR (fun k1 => ?_)
 refine AbR (fun k2 => ?_)
 iterate 7 refine au ?_
 refine bnd hF fun x3 hx4 hF => ?_
 obtain ⟨hp5, hx6⟩ := ix_some hx4
 refine Ai hx6 (fun k7 j8 => ?_)
 refine au ?_
 refine Al ls86_2 ?_
 iterate 2 refine au ?_
 obtain ⟨o9, hio9, hO10⟩ := bind_some hF
 refine au ?_
 refine C_cut (fun f' cs' => ∃ (c21 : Bool) (g : Fr), c21 = o9 ∧ f' = updL g [(6, (.bool c21))] ∧ Ent cs' []) ?_ ?_
 · replace hF := hio9
   iterate 2 refine au ?_
   refine C_new rfl (N_buildSliceT (g := true) sl52.h ty129.h (.cons (.tmp rfl rfl) .nil) (vs := [(.agg [(.int .i64 a_f.Rel), v2_1.v].toArray)]) rfl rfl rfl (by intro v hv; simp at hv; rcases hv with rfl <;> rfl)) (fun k11 => ?_)
   refine Cv1 (.cons .h (.rd (.t (.t (.t (.t (.t (.t .h)))))) rfl .nil)) (own_lit (Ro := (roE rd129)) (E := 129) (F := ([] ++ [])) (xs := ([a_f] : List Fact)) (MkL_cons mr129 MkL_nil apps) rfl rfl) ?_
   refine au ?_
   refine C_at (.t (.t (.t .h))) (fun hp => V_loadA (s := 2) (l := [(.int .i64 a_t.Access.Method), v0_1.v]) ag88.h ty88.h.sz (.tmp rfl rfl) hp.2 rfl (by decide) (Nat.le_of_ble_eq_true rfl) rfl) ?_
   refine bnd hF fun r12 hx13 hF => C_x2 (.cons .h (.rd (.t (.t (.t (.t (.t .h))))) rfl (.rd (.t (.t (.t .h))) rfl .nil))) (XC_bor frz_own (fun _ => (.cons .nil)) (XC_pre (.rd (.t .h) rfl (.rd .h rfl (.rd (.t (.t .h)) rfl .nil))) (X_callS cf199.h (.cons (.tmp rfl rfl) (.cons (.tmp rfl rfl) (.cons (.tmp rfl rfl) .nil))) (i_matches_ok a_l v1_0 ([a_f] : List Fact) (⟨(some ⟨k11, 0, none⟩), 1, 1⟩) a_t.Access v0_1 _ hx13)))) (fun p14 => ?_)
   iterate 3 refine au ?_
   rcases Bool.eq_false_or_eq_true (decide ((0 : Int) < (r12.length : Int))) with hg15 | hg15
   · rw [hg15]
     try rw [hg15] at hF; dsimp only [cond_true, cond_false] at hF
     iterate 7 refine au ?_
     refine bnd hF fun r16 hx17 hF => Cx0 (i_HasFact_ok _ _ _ _ _ hx17) (fun _ => ?_)
     iterate 4 refine au ?_
     rcases Bool.eq_false_or_eq_true (!r16) with hg19 | hg19
     · rw [hg19]
       try rw [hg19] at hF; dsimp only [cond_true, cond_false] at hF
       iterate 6 refine au ?_
       rcases Bool.eq_false_or_eq_true ((x3.Limit : Int) == 0) with hg20 | hg20
       · rw [hg20]
         try rw [hg20] at hF; dsimp only [cond_true, cond_false] at hF
         iterate 10 refine au ?_
         cases hF
         exact ⟨_, _, rfl, eqA, entA⟩
       rw [hg20]
       try rw [hg20] at hF; dsimp only [cond_true, cond_false] at hF
       iterate 15 refine au ?_
       cases hF
       exact ⟨_, _, rfl, eqA, entA⟩
     rw [hg19]
     try rw [hg19] at hF; dsimp only [cond_true, cond_false] at hF
     iterate 12 refine au ?_
     cases hF
     exact ⟨_, _, rfl, eqA, entA⟩
   rw [hg15]
   try rw [hg15] at hF; dsimp only [cond_true, cond_false] at hF
   iterate 19 refine au ?_
   cases hF
   exact ⟨_, _, rfl, eqA, entA⟩
 rintro _ _ ⟨c21, g22, rfl, rfl, hE⟩
 replace hF := hO10
 try dsimp only at hF
 refine K_ent hE ?_
 refine au ?_
 cases hF
 exact Er ()
def i_Disagree_1 (a_f : Fact) (a_e1 : Told) (a_e2 : List Method) : Option (Bool) :=
 (i_Told_denies a_e1 a_e2 a_f).bind fun r2 =>
 some r2
theorem i_Disagree_1_ok (a_f : Fact) (v0_1 : Sv) (kc1 : Nat) (a_e1 : Told) (vc1_1 : Sv) (vc1_2 : Sv) (kc2 : Nat) (a_e2 : List Method) (vc2_0 : Sv) (R : Bool) (hF : i_Disagree_1 a_f a_e1 a_e2 = some R) :
   Fw.Spec Tryz.prog 268 [(.agg [(.int .i64 a_f.Rel), v0_1.v].toArray), (pz kc1), (pz kc2)] [crd (RdS 3 rdInt) v0_1.v a_f.Values, cboR kc1 90 (.agg [(.int .i64 a_e1.Access.Method), vc1_1.v, vc1_2.v].toArray), crd (RdS 3 rdInt) vc1_1.v a_e1.Access.Values, crd (RdS 129 rd129) vc1_2.v a_e1.Facts, cboR kc2 29 vc2_0.v, crd (RdS 86 rd86) vc2_0.v a_e2] (fun _ : Unit => (.bool R)) (fun _ => []) := by
 refine Se 9 Tryz.func268 [.tmp 4] ?_
 intro H0 F0
 unfold i_Disagree_1 at hF
 refine au ?_
 refine AbR (fun k1 => ?_)
 iterate 6 refine au ?_
 refine bnd hF fun r2 hx3 hF => Cx0 (i_Told_denies_ok _ _ _ _ _ _ _ _ hx3) (fun _ => ?_)
 iterate 3 refine au ?_
 cases hF
 exact Er ()
def g_slices_IndexFunc_impl_Fact_impl_Fact_iDisagree1_L1 (a_e1 : Told) (a_e2 : List Method) : List Fact → Nat → Option (Int)
 | [], k4 => some (-1)
 | x6 :: rest5, k4 => (i_Disagree_1 x6 a_e1 a_e2).bind fun r16 =>
   if r16 then (
     some (k4 : Int))
   else (
     g_slices_IndexFunc_impl_Fact_impl_Fact_iDisagree1_L1 a_e1 a_e2 rest5 (k4 + 1))
def g_slices_IndexFunc_impl_Fact_impl_Fact_iDisagree1 (a_s : List Fact) (a_e1 : Told) (a_e2 : List Method) : Option (Int) :=
 g_slices_IndexFunc_impl_Fact_impl_Fact_iDisagree1_L1 a_e1 a_e2 a_s 0
theorem g_slices_IndexFunc_impl_Fact_impl_Fact_iDisagree1_ok (a_s : List Fact) (v0_0 : Sv) (kc1 : Nat) (a_e1 : Told) (vc1_1 : Sv) (vc1_2 : Sv) (kc2 : Nat) (a_e2 : List Method) (vc2_0 : Sv) (R : Int) (hF : g_slices_IndexFunc_impl_Fact_impl_Fact_iDisagree1 a_s a_e1 a_e2 = some R) :
   Fw.Spec Tryz.prog 162 [v0_0.v, (.func (.func 268) [].toArray [(pz kc1), (pz kc2)].toArray)] [crd (RdS 129 rd129) v0_0.v a_s, cboR kc1 90 (.agg [(.int .i64 a_e1.Access.Method), vc1_1.v, vc1_2.v].toArray), crd (RdS 3 rdInt) vc1_1.v a_e1.Access.Values, crd (RdS 129 rd129) vc1_2.v a_e1.Facts, cboR kc2 29 vc2_0.v, crd (RdS 86 rd86) vc2_0.v a_e2] (fun _ : Unit => (.int .i64 R)) (fun _ => []) := by
 refine Se 19 Tryz.func162 [.tmp 4] ?_
 intro H0 F0
 unfold g_slices_IndexFunc_impl_Fact_impl_Fact_iDisagree1 at hF
 iterate 9 refine au ?_
 refine CW_block (CW_loop (m := a_s.length) (fun m2 f' cs' => ∃ (g : Fr) (k4 : Nat) (rest5 : List Fact), m2 = rest5.length ∧ f' = updL g [(0, v0_0.v), (1, (.func (.func 268) [].toArray [(pz kc1), (pz kc2)].toArray)), (7, (.int .i64 (a_s.length : Int))), (8, (.int .i64 (k4 : Int)))] ∧ List.drop k4 a_s = rest5 ∧ Ent cs' [crd (RdS 129 rd129) v0_0.v a_s, cboR kc1 90 (.agg [(.int .i64 a_e1.Access.Method), vc1_1.v, vc1_2.v].toArray), crd (RdS 3 rdInt) vc1_1.v a_e1.Access.Values, crd (RdS 129 rd129) vc1_2.v a_e1.Facts, cboR kc2 29 vc2_0.v, crd (RdS 86 rd86) vc2_0.v a_e2] ∧ g_slices_IndexFunc_impl_Fact_impl_Fact_iDisagree1_L1 a_e1 a_e2 rest5 k4 = some R) ⟨_, 0, _, rfl, eqA, rfl, entA, hF⟩ ?_)
 rintro m2 _ _ ⟨g3, k4, rest5, rfl, rfl, hd7, hE, hF⟩
 refine Kb hE a_s (fun hbd12 => ?_)
 rcases rest5 with _ | ⟨x6, rest5⟩
 · have hk8 := dn hd7
   rw [g_slices_IndexFunc_impl_Fact_impl_Fact_iDisagree1_L1] at hF
   iterate 4 refine au ?_
   refine CdF ?_
   iterate 8 refine au ?_
   cases hF
   exact Er ()
 obtain ⟨hk8, hx9, hd10⟩ := drop_cons hd7
 rw [g_slices_IndexFunc_impl_Fact_impl_Fact_iDisagree1_L1] at hF
 iterate 4 refine au ?_
 refine CdT ?_
 iterate 10 refine au ?_
 refine Ai hx9 (fun k13 j14 => ?_)
 refine AlA1 (ul129_0_129 x6) la129_0_129 (fun p15 => ?_)
 refine bnd hF fun r16 hx17 hF => C_x0 (.rd .h rfl (.rd (.t (.t (.t .h))) rfl (.rd (.t (.t (.t (.t .h)))) rfl (.rd (.t (.t (.t (.t (.t .h))))) rfl (.rd (.t (.t (.t (.t (.t (.t .h)))))) rfl (.rd (.t (.t (.t (.t (.t (.t (.t .h))))))) rfl .nil)))))) (X_callCS cf268.h (.tmp rfl rfl) (.cons (.tmp rfl rfl) .nil) (i_Disagree_1_ok x6 p15 kc1 a_e1 vc1_1 vc1_2 kc2 a_e2 vc2_0 _ hx17)) (fun _ => ?_)
 refine au ?_
 refine Ci hF (fun hb20 hF => ?_) (fun hb20 hF => ?_)
 · iterate 5 refine au ?_
   cases hF
   exact Er ()
 iterate 5 refine au ?_
 rw [wk k4]
 exact ⟨_, Nat.lt_succ_self _, _, k4 + 1, rest5, rfl, eqA, hd10, entA, hF⟩
def g_slices_ContainsFunc_impl_Fact_impl_Fact_iDisagree1 (a_s : List Fact) (a_e1 : Told) (a_e2 : List Method) : Option (Bool) :=
 (g_slices_IndexFunc_impl_Fact_impl_Fact_iDisagree1 a_s a_e1 a_e2).bind fun r1 =>
 some (decide ((0 : Int) ≤ r1))
theorem g_slices_ContainsFunc_impl_Fact_impl_Fact_iDisagree1_ok (a_s : List Fact) (v0_0 : Sv) (kc1 : Nat) (a_e1 : Told) (vc1_1 : Sv) (vc1_2 : Sv) (kc2 : Nat) (a_e2 : List Method) (vc2_0 : Sv) (R : Bool) (hF : g_slices_ContainsFunc_impl_Fact_impl_Fact_iDisagree1 a_s a_e1 a_e2 = some R) :
   Fw.Spec Tryz.prog 216 [v0_0.v, (.func (.func 268) [].toArray [(pz kc1), (pz kc2)].toArray)] [crd (RdS 129 rd129) v0_0.v a_s, cboR kc1 90 (.agg [(.int .i64 a_e1.Access.Method), vc1_1.v, vc1_2.v].toArray), crd (RdS 3 rdInt) vc1_1.v a_e1.Access.Values, crd (RdS 129 rd129) vc1_2.v a_e1.Facts, cboR kc2 29 vc2_0.v, crd (RdS 86 rd86) vc2_0.v a_e2] (fun _ : Unit => (.bool R)) (fun _ => []) := by
 refine Se 9 Tryz.func216 [.tmp 4] ?_
 intro H0 F0
 unfold g_slices_ContainsFunc_impl_Fact_impl_Fact_iDisagree1 at hF
 iterate 6 refine au ?_
 refine bnd hF fun r1 hx2 hF => Cx0 (g_slices_IndexFunc_impl_Fact_impl_Fact_iDisagree1_ok _ _ _ _ _ _ _ _ _ _ hx2) (fun _ => ?_)
 iterate 4 refine au ?_
 cases hF
 exact Er ()
def i_Disagree_2 (a_f : Fact) (a_e1 : Told) (a_e2 : List Method) : Option (Bool) :=
 (i_Told_denies a_e1 a_e2 a_f).bind fun r2 =>
 some r2
theorem i_Disagree_2_ok (a_f : Fact) (v0_1 : Sv) (kc1 : Nat) (a_e1 : Told) (vc1_1 : Sv) (vc1_2 : Sv) (kc2 : Nat) (a_e2 : List Method) (vc2_0 : Sv) (R : Bool) (hF : i_Disagree_2 a_f a_e1 a_e2 = some R) :
   Fw.Spec Tryz.prog 270 [(.agg [(.int .i64 a_f.Rel), v0_1.v].toArray), (pz kc1), (pz kc2)] [crd (RdS 3 rdInt) v0_1.v a_f.Values, cboR kc1 90 (.agg [(.int .i64 a_e1.Access.Method), vc1_1.v, vc1_2.v].toArray), crd (RdS 3 rdInt) vc1_1.v a_e1.Access.Values, crd (RdS 129 rd129) vc1_2.v a_e1.Facts, cboR kc2 29 vc2_0.v, crd (RdS 86 rd86) vc2_0.v a_e2] (fun _ : Unit => (.bool R)) (fun _ => []) := by
 refine Se 9 Tryz.func270 [.tmp 4] ?_
 intro H0 F0
 unfold i_Disagree_2 at hF
 refine au ?_
 refine AbR (fun k1 => ?_)
 iterate 6 refine au ?_
 refine bnd hF fun r2 hx3 hF => Cx0 (i_Told_denies_ok _ _ _ _ _ _ _ _ hx3) (fun _ => ?_)
 iterate 3 refine au ?_
 cases hF
 exact Er ()
def g_slices_IndexFunc_impl_Fact_impl_Fact_iDisagree2_L1 (a_e1 : Told) (a_e2 : List Method) : List Fact → Nat → Option (Int)
 | [], k4 => some (-1)
 | x6 :: rest5, k4 => (i_Disagree_2 x6 a_e1 a_e2).bind fun r16 =>
   if r16 then (
     some (k4 : Int))
   else (
     g_slices_IndexFunc_impl_Fact_impl_Fact_iDisagree2_L1 a_e1 a_e2 rest5 (k4 + 1))
def g_slices_IndexFunc_impl_Fact_impl_Fact_iDisagree2 (a_s : List Fact) (a_e1 : Told) (a_e2 : List Method) : Option (Int) :=
 g_slices_IndexFunc_impl_Fact_impl_Fact_iDisagree2_L1 a_e1 a_e2 a_s 0
theorem g_slices_IndexFunc_impl_Fact_impl_Fact_iDisagree2_ok (a_s : List Fact) (v0_0 : Sv) (kc1 : Nat) (a_e1 : Told) (vc1_1 : Sv) (vc1_2 : Sv) (kc2 : Nat) (a_e2 : List Method) (vc2_0 : Sv) (R : Int) (hF : g_slices_IndexFunc_impl_Fact_impl_Fact_iDisagree2 a_s a_e1 a_e2 = some R) :
   Fw.Spec Tryz.prog 162 [v0_0.v, (.func (.func 270) [].toArray [(pz kc1), (pz kc2)].toArray)] [crd (RdS 129 rd129) v0_0.v a_s, cboR kc1 90 (.agg [(.int .i64 a_e1.Access.Method), vc1_1.v, vc1_2.v].toArray), crd (RdS 3 rdInt) vc1_1.v a_e1.Access.Values, crd (RdS 129 rd129) vc1_2.v a_e1.Facts, cboR kc2 29 vc2_0.v, crd (RdS 86 rd86) vc2_0.v a_e2] (fun _ : Unit => (.int .i64 R)) (fun _ => []) := by
 refine Se 19 Tryz.func162 [.tmp 4] ?_
 intro H0 F0
 unfold g_slices_IndexFunc_impl_Fact_impl_Fact_iDisagree2 at hF
 iterate 9 refine au ?_
 refine CW_block (CW_loop (m := a_s.length) (fun m2 f' cs' => ∃ (g : Fr) (k4 : Nat) (rest5 : List Fact), m2 = rest5.length ∧ f' = updL g [(0, v0_0.v), (1, (.func (.func 270) [].toArray [(pz kc1), (pz kc2)].toArray)), (7, (.int .i64 (a_s.length : Int))), (8, (.int .i64 (k4 : Int)))] ∧ List.drop k4 a_s = rest5 ∧ Ent cs' [crd (RdS 129 rd129) v0_0.v a_s, cboR kc1 90 (.agg [(.int .i64 a_e1.Access.Method), vc1_1.v, vc1_2.v].toArray), crd (RdS 3 rdInt) vc1_1.v a_e1.Access.Values, crd (RdS 129 rd129) vc1_2.v a_e1.Facts, cboR kc2 29 vc2_0.v, crd (RdS 86 rd86) vc2_0.v a_e2] ∧ g_slices_IndexFunc_impl_Fact_impl_Fact_iDisagree2_L1 a_e1 a_e2 rest5 k4 = some R) ⟨_, 0, _, rfl, eqA, rfl, entA, hF⟩ ?_)
 rintro m2 _ _ ⟨g3, k4, rest5, rfl, rfl, hd7, hE, hF⟩
 refine Kb hE a_s (fun hbd12 => ?_)
 rcases rest5 with _ | ⟨x6, rest5⟩
 · have hk8 := dn hd7
   rw [g_slices_IndexFunc_impl_Fact_impl_Fact_iDisagree2_L1] at hF
   iterate 4 refine au ?_
   refine CdF ?_
   iterate 8 refine au ?_
   cases hF
   exact Er ()
 obtain ⟨hk8, hx9, hd10⟩ := drop_cons hd7
 rw [g_slices_IndexFunc_impl_Fact_impl_Fact_iDisagree2_L1] at hF
 iterate 4 refine au ?_
 refine CdT ?_
 iterate 10 refine au ?_
 refine Ai hx9 (fun k13 j14 => ?_)
 refine AlA1 (ul129_0_129 x6) la129_0_129 (fun p15 => ?_)
 refine bnd hF fun r16 hx17 hF => C_x0 (.rd .h rfl (.rd (.t (.t (.t .h))) rfl (.rd (.t (.t (.t (.t .h)))) rfl (.rd (.t (.t (.t (.t (.t .h))))) rfl (.rd (.t (.t (.t (.t (.t (.t .h)))))) rfl (.rd (.t (.t (.t (.t (.t (.t (.t .h))))))) rfl .nil)))))) (X_callCS cf270.h (.tmp rfl rfl) (.cons (.tmp rfl rfl) .nil) (i_Disagree_2_ok x6 p15 kc1 a_e1 vc1_1 vc1_2 kc2 a_e2 vc2_0 _ hx17)) (fun _ => ?_)
 refine au ?_
 refine Ci hF (fun hb20 hF => ?_) (fun hb20 hF => ?_)
 · iterate 5 refine au ?_
   cases hF
   exact Er ()
 iterate 5 refine au ?_
 rw [wk k4]
 exact ⟨_, Nat.lt_succ_self _, _, k4 + 1, rest5, rfl, eqA, hd10, entA, hF⟩
def g_slices_ContainsFunc_impl_Fact_impl_Fact_iDisagree2 (a_s : List Fact) (a_e1 : Told) (a_e2 : List Method) : Option (Bool) :=
 (g_slices_IndexFunc_impl_Fact_impl_Fact_iDisagree2 a_s a_e1 a_e2).bind fun r1 =>
 some (decide ((0 : Int) ≤ r1))
theorem g_slices_ContainsFunc_impl_Fact_impl_Fact_iDisagree2_ok (a_s : List Fact) (v0_0 : Sv) (kc1 : Nat) (a_e1 : Told) (vc1_1 : Sv) (vc1_2 : Sv) (kc2 : Nat) (a_e2 : List Method) (vc2_0 : Sv) (R : Bool) (hF : g_slices_ContainsFunc_impl_Fact_impl_Fact_iDisagree2 a_s a_e1 a_e2 = some R) :
   Fw.Spec Tryz.prog 216 [v0_0.v, (.func (.func 270) [].toArray [(pz kc1), (pz kc2)].toArray)] [crd (RdS 129 rd129) v0_0.v a_s, cboR kc1 90 (.agg [(.int .i64 a_e1.Access.Method), vc1_1.v, vc1_2.v].toArray), crd (RdS 3 rdInt) vc1_1.v a_e1.Access.Values, crd (RdS 129 rd129) vc1_2.v a_e1.Facts, cboR kc2 29 vc2_0.v, crd (RdS 86 rd86) vc2_0.v a_e2] (fun _ : Unit => (.bool R)) (fun _ => []) := by
 refine Se 9 Tryz.func216 [.tmp 4] ?_
 intro H0 F0
 unfold g_slices_ContainsFunc_impl_Fact_impl_Fact_iDisagree2 at hF
 iterate 6 refine au ?_
 refine bnd hF fun r1 hx2 hF => Cx0 (g_slices_IndexFunc_impl_Fact_impl_Fact_iDisagree2_ok _ _ _ _ _ _ _ _ _ _ hx2) (fun _ => ?_)
 iterate 4 refine au ?_
 cases hF
 exact Er ()
def i_Disagree (a_s : List Int) (a_l : List Method) (a_a : Told) (a_b : Told) : Option (Bool) :=
 ((i_FitsSelf a_s a_l a_a).bind fun r6 =>
   bif r6 then ((i_FitsSelf a_s a_l a_b).bind fun r10 =>
     bif r10 then ((g_slices_ContainsFunc_impl_Fact_impl_Fact_iDisagree1 a_a.Facts a_b a_l).bind fun r14 =>
       bif r14 then (some true)
       else ((g_slices_ContainsFunc_impl_Fact_impl_Fact_iDisagree2 a_b.Facts a_a a_l).bind fun r18 =>
         some r18))
     else (some false))
   else (some false)).bind fun o4 =>
 match o4 with
 | c21 => some c21
theorem i_Disagree_ok (a_s : List Int) (v0_0 : Sv) (a_l : List Method) (v1_0 : Sv) (a_a : Told) (v2_1 : Sv) (v2_2 : Sv) (a_b : Told) (v3_1 : Sv) (v3_2 : Sv) (R : Bool) (hF : i_Disagree a_s a_l a_a a_b = some R) :
   Fw.Spec Tryz.prog 245 [v0_0.v, v1_0.v, (.agg [(.int .i64 a_a.Access.Method), v2_1.v, v2_2.v].toArray), (.agg [(.int .i64 a_b.Access.Method), v3_1.v, v3_2.v].toArray)] [crd (RdS 3 rdInt) v0_0.v a_s, crd (RdS 86 rd86) v1_0.v a_l, crd (RdS 3 rdInt) v2_1.v a_a.Access.Values, crd (RdS 129 rd129) v2_2.v a_a.Facts, crd (RdS 3 rdInt) v3_1.v a_b.Access.Values, crd (RdS 129 rd129) v3_2.v a_b.Facts] (fun _ : Unit => (.bool R)) (fun _ => []) := by
 refine Se 31 Tryz.func245 [.tmp 8] ?_
 intro H0 F0
 unfold i_Disagree at hF
 refine au ?_
 refine AbR (fun k1 => ?_)
 refine AbR (fun k2 => ?_)
 refine AbR (fun k3 => ?_)
 iterate 2 refine au ?_
 obtain ⟨o4, hio4, hO5⟩ := bind_some hF
 refine au ?_
 refine C_cut (fun f' cs' => ∃ (c21 : Bool) (g : Fr), c21 = o4 ∧ f' = updL g [(8, (.bool c21))] ∧ Ent cs' []) ?_ ?_
 · replace hF := hio4
   iterate 3 refine au ?_
   refine bnd hF fun r6 hx7 hF => Cx0 (i_FitsSelf_ok _ _ _ _ _ _ _ _ hx7) (fun _ => ?_)
   refine au ?_
   rcases Bool.eq_false_or_eq_true r6 with hg9 | hg9
   · rw [hg9]
     try rw [hg9] at hF; dsimp only [cond_true, cond_false] at hF
     iterate 7 refine au ?_
     refine bnd hF fun r10 hx11 hF => Cx0 (i_FitsSelf_ok _ _ _ _ _ _ _ _ hx11) (fun _ => ?_)
     iterate 2 refine au ?_
     rcases Bool.eq_false_or_eq_true r10 with hg13 | hg13
     · rw [hg13]
       try rw [hg13] at hF; dsimp only [cond_true, cond_false] at hF
       iterate 5 refine au ?_
       refine C_val (V_makeFunc (fn := .func 268) (vs := []) (us := [(pz k3), (pz k1)]) .nil (.cons (.tmp rfl rfl) (.cons (.tmp rfl rfl) .nil))) ?_
       refine au ?_
       refine bnd hF fun r14 hx15 hF => Cx0 (g_slices_ContainsFunc_impl_Fact_impl_Fact_iDisagree1_ok _ _ _ _ _ _ _ _ _ _ hx15) (fun _ => ?_)
       iterate 2 refine au ?_
       rcases Bool.eq_false_or_eq_true r14 with hg17 | hg17
       · rw [hg17]
         try rw [hg17] at hF; dsimp only [cond_true, cond_false] at hF
         iterate 9 refine au ?_
         cases hF
         exact ⟨_, _, rfl, eqA, entA⟩
       rw [hg17]
       try rw [hg17] at hF; dsimp only [cond_true, cond_false] at hF
       iterate 5 refine au ?_
       refine C_val (V_makeFunc (fn := .func 270) (vs := []) (us := [(pz k2), (pz k1)]) .nil (.cons (.tmp rfl rfl) (.cons (.tmp rfl rfl) .nil))) ?_
       refine au ?_
       refine bnd hF fun r18 hx19 hF => Cx0 (g_slices_ContainsFunc_impl_Fact_impl_Fact_iDisagree2_ok _ _ _ _ _ _ _ _ _ _ hx19) (fun _ => ?_)
       iterate 5 refine au ?_
       cases hF
       exact ⟨_, _, rfl, eqA, entA⟩
     rw [hg13]
     try rw [hg13] at hF; dsimp only [cond_true, cond_false] at hF
     iterate 13 refine au ?_
     cases hF
     exact ⟨_, _, rfl, eqA, entA⟩
   rw [hg9]
   try rw [hg9] at hF; dsimp only [cond_true, cond_false] at hF
   iterate 19 refine au ?_
   cases hF
   exact ⟨_, _, rfl, eqA, entA⟩
 rintro _ _ ⟨c21, g22, rfl, rfl, hE⟩
 replace hF := hO5
 try dsimp only at hF
 refine K_ent hE ?_
 refine au ?_
 cases hF
 exact Er ()
def i_FirstConflict_1 (a_x : Told) (a_e1 : List Int) (a_e2 : List Method) (a_e3 : Told) : Option (Bool) :=
 (i_Disagree a_e1 a_e2 a_x a_e3).bind fun r2 =>
 some r2
theorem i_FirstConflict_1_ok (a_x : Told) (v0_1 : Sv) (v0_2 : Sv) (kc1 : Nat) (a_e1 : List Int) (vc1_0 : Sv) (kc2 : Nat) (a_e2 : List Method) (vc2_0 : Sv) (kc3 : Nat) (a_e3 : Told) (vc3_1 : Sv) (vc3_2 : Sv) (R : Bool) (hF : i_FirstConflict_1 a_x a_e1 a_e2 a_e3 = some R) :
   Fw.Spec Tryz.prog 244 [(.agg [(.int .i64 a_x.Access.Method), v0_1.v, v0_2.v].toArray), (pz kc1), (pz kc2), (pz kc3)] [crd (RdS 3 rdInt) v0_1.v a_x.Access.Values, crd (RdS 129 rd129) v0_2.v a_x.Facts, cboR kc1 22 vc1_0.v, crd (RdS 3 rdInt) vc1_0.v a_e1, cboR kc2 29 vc2_0.v, crd (RdS 86 rd86) vc2_0.v a_e2, cboR kc3 90 (.agg [(.int .i64 a_e3.Access.Method), vc3_1.v, vc3_2.v].toArray), crd (RdS 3 rdInt) vc3_1.v a_e3.Access.Values, crd (RdS 129 rd129) vc3_2.v a_e3.Facts] (fun _ : Unit => (.bool R)) (fun _ => []) := by
 refine Se 11 Tryz.func244 [.tmp 5] ?_
 intro H0 F0
 unfold i_FirstConflict_1 at hF
 refine au ?_
 refine AbR (fun k1 => ?_)
 iterate 7 refine au ?_
 refine bnd hF fun r2 hx3 hF => Cx0 (i_Disagree_ok _ _ _ _ _ _ _ _ _ _ _ hx3) (fun _ => ?_)
 iterate 3 refine au ?_
 cases hF
 exact Er ()
def g_slices_IndexFunc_impl_Told_impl_Told_iFirstConflict1_L1 (a_e1 : List Int) (a_e2 : List Method) (a_e3 : Told) : List Told → Nat → Option (Int)
 | [], k4 => some (-1)
 | x6 :: rest5, k4 => (i_FirstConflict_1 x6 a_e1 a_e2 a_e3).bind fun r16 =>
   if r16 then (
     some (k4 : Int))
   else (
     g_slices_IndexFunc_impl_Told_impl_Told_iFirstConflict1_L1 a_e1 a_e2 a_e3 rest5 (k4 + 1))
def g_slices_IndexFunc_impl_Told_impl_Told_iFirstConflict1 (a_s : List Told) (a_e1 : List Int) (a_e2 : List Method) (a_e3 : Told) : Option (Int) :=
 g_slices_IndexFunc_impl_Told_impl_Told_iFirstConflict1_L1 a_e1 a_e2 a_e3 a_s 0
theorem g_slices_IndexFunc_impl_Told_impl_Told_iFirstConflict1_ok (a_s : List Told) (v0_0 : Sv) (kc1 : Nat) (a_e1 : List Int) (vc1_0 : Sv) (kc2 : Nat) (a_e2 : List Method) (vc2_0 : Sv) (kc3 : Nat) (a_e3 : Told) (vc3_1 : Sv) (vc3_2 : Sv) (R : Int) (hF : g_slices_IndexFunc_impl_Told_impl_Told_iFirstConflict1 a_s a_e1 a_e2 a_e3 = some R) :
   Fw.Spec Tryz.prog 243 [v0_0.v, (.func (.func 244) [].toArray [(pz kc1), (pz kc2), (pz kc3)].toArray)] [crd (RdS 90 rd90) v0_0.v a_s, cboR kc1 22 vc1_0.v, crd (RdS 3 rdInt) vc1_0.v a_e1, cboR kc2 29 vc2_0.v, crd (RdS 86 rd86) vc2_0.v a_e2, cboR kc3 90 (.agg [(.int .i64 a_e3.Access.Method), vc3_1.v, vc3_2.v].toArray), crd (RdS 3 rdInt) vc3_1.v a_e3.Access.Values, crd (RdS 129 rd129) vc3_2.v a_e3.Facts] (fun _ : Unit => (.int .i64 R)) (fun _ => []) := by
 refine Se 19 Tryz.func243 [.tmp 4] ?_
 intro H0 F0
 unfold g_slices_IndexFunc_impl_Told_impl_Told_iFirstConflict1 at hF
 iterate 9 refine au ?_
 refine CW_block (CW_loop (m := a_s.length) (fun m2 f' cs' => ∃ (g : Fr) (k4 : Nat) (rest5 : List Told), m2 = rest5.length ∧ f' = updL g [(0, v0_0.v), (1, (.func (.func 244) [].toArray [(pz kc1), (pz kc2), (pz kc3)].toArray)), (7, (.int .i64 (a_s.length : Int))), (8, (.int .i64 (k4 : Int)))] ∧ List.drop k4 a_s = rest5 ∧ Ent cs' [crd (RdS 90 rd90) v0_0.v a_s, cboR kc1 22 vc1_0.v, crd (RdS 3 rdInt) vc1_0.v a_e1, cboR kc2 29 vc2_0.v, crd (RdS 86 rd86) vc2_0.v a_e2, cboR kc3 90 (.agg [(.int .i64 a_e3.Access.Method), vc3_1.v, vc3_2.v].toArray), crd (RdS 3 rdInt) vc3_1.v a_e3.Access.Values, crd (RdS 129 rd129) vc3_2.v a_e3.Facts] ∧ g_slices_IndexFunc_impl_Told_impl_Told_iFirstConflict1_L1 a_e1 a_e2 a_e3 rest5 k4 = some R) ⟨_, 0, _, rfl, eqA, rfl, entA, hF⟩ ?_)
 rintro m2 _ _ ⟨g3, k4, rest5, rfl, rfl, hd7, hE, hF⟩
 refine Kb hE a_s (fun hbd12 => ?_)
 rcases rest5 with _ | ⟨x6, rest5⟩
 · have hk8 := dn hd7
   rw [g_slices_IndexFunc_impl_Told_impl_Told_iFirstConflict1_L1] at hF
   iterate 4 refine au ?_
   refine CdF ?_
   iterate 8 refine au ?_
   cases hF
   exact Er ()
 obtain ⟨hk8, hx9, hd10⟩ := drop_cons hd7
 rw [g_slices_IndexFunc_impl_Told_impl_Told_iFirstConflict1_L1] at hF
 iterate 4 refine au ?_
 refine CdT ?_
 iterate 10 refine au ?_
 refine Ai hx9 (fun k13 j14 => ?_)
 refine AlA2 (ul90_0_90 x6) la90_0_90 (fun p15 => ?_)
 refine bnd hF fun r16 hx17 hF => C_x0 (.rd .h rfl (.rd (.t .h) rfl (.rd (.t (.t (.t (.t .h)))) rfl (.rd (.t (.t (.t (.t (.t .h))))) rfl (.rd (.t (.t (.t (.t (.t (.t .h)))))) rfl (.rd (.t (.t (.t (.t (.t (.t (.t .h))))))) rfl (.rd (.t (.t (.t (.t (.t (.t (.t (.t .h)))))))) rfl (.rd (.t (.t (.t (.t (.t (.t (.t (.t (.t .h))))))))) rfl (.rd (.t (.t (.t (.t (.t (.t (.t (.t (.t (.t .h)))))))))) rfl .nil))))))))) (X_callCS cf244.h (.tmp rfl rfl) (.cons (.tmp rfl rfl) .nil) (i_FirstConflict_1_ok x6 p15.1 p15.2 kc1 a_e1 vc1_0 kc2 a_e2 vc2_0 kc3 a_e3 vc3_1 vc3_2 _ hx17)) (fun _ => ?_)
 refine au ?_
 refine Ci hF (fun hb20 hF => ?_) (fun hb20 hF => ?_)
 · iterate 5 refine au ?_
   cases hF
   exact Er ()
 iterate 5 refine au ?_
 rw [wk k4]
 exact ⟨_, Nat.lt_succ_self _, _, k4 + 1, rest5, rfl, eqA, hd10, entA, hF⟩
def i_FirstConflict_L1 (a_s : List Int) (a_l : List Method) (a_list : List Told) : List Told → Nat → Option (Int × Int × Bool)
 | [], k6 => some ((-1), (-1), false)
 | x8 :: rest7, k6 => (i_FitsSelf a_s a_l x8).bind fun r19 =>
   if (!r19) then (
     some ((k6 : Int), (k6 : Int), true))
   else (
     (chk (decide (0 ≤ (k6 : Int)) && decide ((k6 : Int) ≤ (a_list.length : Int)))).bind fun u27 =>
     (g_slices_IndexFunc_impl_Told_impl_Told_iFirstConflict1 (a_list.take ((k6 : Int)).toNat) a_s a_l x8).bind fun r30 =>
     if (decide ((0 : Int) ≤ r30)) then (
       some (r30, (k6 : Int), true))
     else (
       i_FirstConflict_L1 a_s a_l a_list rest7 (k6 + 1)))
def i_FirstConflict (a_s : List Int) (a_l : List Method) (a_list : List Told) : Option (Int × Int × Bool) :=
 i_FirstConflict_L1 a_s a_l a_list a_list 0
theorem i_FirstConflict_ok (a_s : List Int) (v0_0 : Sv) (a_l : List Method) (v1_0 : Sv) (a_list : List Told) (v2_0 : Sv) (R : Int × Int × Bool) (hF : i_FirstConflict a_s a_l a_list = some R) :
   Fw.Spec Tryz.prog 206 [v0_0.v, v1_0.v, v2_0.v] [crd (RdS 3 rdInt) v0_0.v a_s, crd (RdS 86 rd86) v1_0.v a_l, crd (RdS 90 rd90) v2_0.v a_list] (fun _ : Unit => (.tuple [(.int .i64 R.1), (.int .i64 R.2.1), (.bool R.2.2)].toArray)) (fun _ => []) := by
 refine Se 36 Tryz.func206 [.tmp 6, .tmp 7, .tmp 8] ?_
 intro H0 F0
 unfold i_FirstConflict at hF
 refine au ?_
 refine AbR (fun k1 => ?_)
 refine AbR (fun k2 => ?_)
 iterate 10 refine au ?_
 refine CW_block (CW_loop (m := a_list.length) (fun m4 f' cs' => ∃ (g : Fr) (k6 : Nat) (rest7 : List Told), m4 = rest7.length ∧ f' = updL g [(2, v2_0.v), (3, (pz k1)), (4, (pz k2)), (12, v2_0.v), (13, (.int .i64 (a_list.length : Int))), (14, (.int .i64 (k6 : Int)))] ∧ List.drop k6 a_list = rest7 ∧ Ent cs' [crd (RdS 90 rd90) v2_0.v a_list, cboR k1 22 v0_0.v, crd (RdS 3 rdInt) v0_0.v a_s, cboR k2 29 v1_0.v, crd (RdS 86 rd86) v1_0.v a_l] ∧ i_FirstConflict_L1 a_s a_l a_list rest7 k6 = some R) ⟨_, 0, _, rfl, eqA, rfl, entA, hF⟩ ?_)
 rintro m4 _ _ ⟨g5, k6, rest7, rfl, rfl, hd9, hE, hF⟩
 refine Kb hE a_list (fun hbd14 => ?_)
 rcases rest7 with _ | ⟨x8, rest7⟩
 · have hk10 := dn hd9
   rw [i_FirstConflict_L1] at hF
   iterate 4 refine au ?_
   refine CdF ?_
   iterate 10 refine au ?_
   cases hF
   exact Er ()
 obtain ⟨hk10, hx11, hd12⟩ := drop_cons hd9
 rw [i_FirstConflict_L1] at hF
 iterate 4 refine au ?_
 refine CdT ?_
 iterate 4 refine au ?_
 refine Ai hx11 (fun k15 j16 => ?_)
 refine AlA2 (ul90_0_90 x8) la90_0_90 (fun p17 => ?_)
 refine AnW (fun k18 => ?_)
 refine au ?_
 refine As (.agg [(.int .i64 x8.Access.Method), p17.1.v, p17.2.v].toArray) ?_
 iterate 6 refine au ?_
 refine bnd hF fun r19 hx20 hF => Cx0 (i_FitsSelf_ok _ _ _ _ _ _ _ _ hx20) (fun _ => ?_)
 iterate 2 refine au ?_
 refine Ci hF (fun hb35 hF => ?_) (fun hb35 hF => ?_)
 · iterate 8 refine au ?_
   cases hF
   exact Er ()
 refine au ?_
 refine K_frz .h frz_blk ?_
 iterate 3 refine au ?_
 refine bnd hF fun u27 hx29 hF => ?_
 have hc26 := chk_some hx29
 simp only [Bool.and_eq_true, decide_eq_true_eq] at hc26
 refine C_sliceHiR sl31.h ty90.h.sz (.tmp rfl rfl) (.tmp rfl rfl) (.t (.t (.t (.t .h)))) hc26.1 hc26.2 (fun w28 => ?_)
 refine C_val (V_makeFunc (fn := .func 244) (vs := []) (us := [(pz k1), (pz k2), (pz k18)]) .nil (.cons (.tmp rfl rfl) (.cons (.tmp rfl rfl) (.cons (.tmp rfl rfl) .nil)))) ?_
 refine bnd hF fun r30 hx31 hF => Cx0 (g_slices_IndexFunc_impl_Told_impl_Told_iFirstConflict1_ok _ _ _ _ _ _ _ _ _ _ _ _ _ hx31) (fun _ => ?_)
 iterate 6 refine au ?_
 refine Ci hF (fun hb34 hF => ?_) (fun hb34 hF => ?_)
 · iterate 8 refine au ?_
   cases hF
   exact Er ()
 iterate 5 refine au ?_
 rw [wk k6]
 exact ⟨_, Nat.lt_succ_self _, _, k6 + 1, rest7, rfl, eqA, hd12, entA, hF⟩
def i_IsConsistent (a_s : List Int) (a_l : List Method) (a_list : List Told) : Option (Bool) :=
 (i_FirstConflict a_s a_l a_list).bind fun r1 =>
 ((i_AreMethods a_s a_l).bind fun r6 =>
   bif r6 then (some (!r1.2.2))
   else (some false)).bind fun o4 =>
 match o4 with
 | c10 => some c10
theorem i_IsConsistent_ok (a_s : List Int) (v0_0 : Sv) (a_l : List Method) (v1_0 : Sv) (a_list : List Told) (v2_0 : Sv) (R : Bool) (hF : i_IsConsistent a_s a_l a_list = some R) :
   Fw.Spec Tryz.prog 153 [v0_0.v, v1_0.v, v2_0.v] [crd (RdS 3 rdInt) v0_0.v a_s, crd (RdS 86 rd86) v1_0.v a_l, crd (RdS 90 rd90) v2_0.v a_list] (fun _ : Unit => (.bool R)) (fun _ => []) := by
 refine Se 25 Tryz.func153 [.tmp 6] ?_
 intro H0 F0
 unfold i_IsConsistent at hF
 iterate 7 refine au ?_
 refine bnd hF fun r1 hx2 hF => Cx0 (i_FirstConflict_ok _ _ _ _ _ _ _ hx2) (fun _ => ?_)
 refine au ?_
 refine C_val (V_extract (l := [(.int .i64 r1.1), (.int .i64 r1.2.1), (.bool r1.2.2)]) (v := (.int .i64 r1.1)) (.tmp rfl rfl) rfl) ?_
 refine C_val (V_extract (l := [(.int .i64 r1.1), (.int .i64 r1.2.1), (.bool r1.2.2)]) (v := (.int .i64 r1.2.1)) (.tmp rfl rfl) rfl) ?_
 refine C_val (V_extract (l := [(.int .i64 r1.1), (.int .i64 r1.2.1), (.bool r1.2.2)]) (v := (.bool r1.2.2)) (.tmp rfl rfl) rfl) ?_
 iterate 4 refine au ?_
 obtain ⟨o4, hio4, hO5⟩ := bind_some hF
 refine au ?_
 refine C_cut (fun f' cs' => ∃ (c10 : Bool) (g : Fr), c10 = o4 ∧ f' = updL g [(6, (.bool c10))] ∧ Ent cs' []) ?_ ?_
 · replace hF := hio4
   iterate 2 refine au ?_
   refine bnd hF fun r6 hx7 hF => Cx0 (i_AreMethods_ok _ _ _ _ _ hx7) (fun _ => ?_)
   refine au ?_
   rcases Bool.eq_false_or_eq_true r6 with hg9 | hg9
   · rw [hg9]
     try rw [hg9] at hF; dsimp only [cond_true, cond_false] at hF
     iterate 7 refine au ?_
     cases hF
     exact ⟨_, _, rfl, eqA, entA⟩
   rw [hg9]
   try rw [hg9] at hF; dsimp only [cond_true, cond_false] at hF
   iterate 5 refine au ?_
   cases hF
   exact ⟨_, _, rfl, eqA, entA⟩
 rintro _ _ ⟨c10, g11, rfl, rfl, hE⟩
 replace hF := hO5
 try dsimp only at hF
 refine K_ent hE ?_
 refine au ?_
 cases hF
 exact Er ()
def i_removals_1 (a_set : List Int) (a_e1 : List Int) (a_e2 : List Method) (a_e3 : List Told) : Option (Bool) :=
 (i_Without a_e3 a_set).bind fun r1 =>
 (i_IsConsistent a_e1 a_e2 r1).bind fun r4 =>
 some r4
theorem i_removals_1_ok (a_set : List Int) (v0_0 : Sv) (kc1 : Nat) (a_e1 : List Int) (vc1_0 : Sv) (kc2 : Nat) (a_e2 : List Method) (vc2_0 : Sv) (kc3 : Nat) (a_e3 : List Told) (vc3_0 : Sv) (R : Bool) (hF : i_removals_1 a_set a_e1 a_e2 a_e3 = some R) :
   Fw.Spec Tryz.prog 152 [v0_0.v, (pz kc1), (pz kc2), (pz kc3)] [crd (RdS 3 rdInt) v0_0.v a_set, cboR kc1 22 vc1_0.v, crd (RdS 3 rdInt) vc1_0.v a_e1, cboR kc2 29 vc2_0.v, crd (RdS 86 rd86) vc2_0.v a_e2, cboR kc3 31 vc3_0.v, crd (RdS 90 rd90) vc3_0.v a_e3] (fun _ : Unit => (.bool R)) (fun _ => []) := by
 refine Se 12 Tryz.func152 [.tmp 5] ?_
 intro H0 F0
 unfold i_removals_1 at hF
 iterate 3 refine au ?_
 refine K_draw [0, 1, 2, 3, 4, 5, 6] [0, 0, 0, 0, 12, 31, 63] [4, 5] mixed (by decide +kernel) ?_
 iterate 4 refine du ?_
 refine bnd hF fun r1 hx2 hF => Dx1 (i_Without_ok _ _ _ _ _ hx2) (fun p3 => ?_)
 refine bnd hF fun r4 hx5 hF => D_act1 rfl rfl .no (.cons .h (.rd (.t (.t .h)) rfl (.rd (.t (.t (.t (.t .h)))) rfl .nil))) .nil (fun ha => XC_bor frz_own (fun _ => .nil) (XC_pre (.rd (.t .h) rfl (.rd (.t (.t .h)) rfl (.rd .h rfl .nil))) (X_callS cf153.h (.cons (EN ha (.tmp rfl rfl) rfl) (.cons (EN ha (.tmp rfl rfl) rfl) (.cons (EN ha (.tmp rfl rfl) rfl) .nil))) (i_IsConsistent_ok a_e1 vc1_0 a_e2 vc2_0 r1 p3.1 _ hx5)))) (fun _ => ?_)
 iterate 2 refine du ?_
 refine au ?_
 cases hF
 exact Er ()
def i_smallest_iremovals1_L2 (a_n : Int) (a_e1 : List Int) (a_e2 : List Method) (a_e3 : List Told) (c3 : List Int) (c6 : Bool) (c7 : Int) : Nat → (List Int) → Bool → Int → Option ((List Int) × Bool)
 | 0, _, _, _ => none
 | m24 + 1, c19, c22, c23 => if (decide ((c23 : Int) < a_n)) then (
     ((shrI .i64 c7 c23).bind fun x34 =>
       if (((andI .i64 x34 1) : Int) == 1) then (
         (app c19 ([c23] : List Int)).bind fun z37 =>
         some (z37, false))
       else (
         some (c19, c22))).bind fun o32 =>
     match o32 with
     | (c41, c44) => i_smallest_iremovals1_L2 a_n a_e1 a_e2 a_e3 c3 c6 c7 m24 c41 c44 (IntKind.i64.wrap (c23 + 1)))
   else (
     (bif c6 then ((i_removals_1 c19 a_e1 a_e2 a_e3).bind fun r49 =>
         some r49)
       else (bif (decide (((c19.length : Int) : Int) < (c3.length : Int))) then ((i_removals_1 c19 a_e1 a_e2 a_e3).bind fun r53 =>
           some r53)
         else (bif (((c19.length : Int) : Int) == (c3.length : Int)) then ((g_slices_Compare_int_int c19 c3).bind fun r57 =>
             bif (decide ((r57 : Int) < 0)) then ((i_removals_1 c19 a_e1 a_e2 a_e3).bind fun r61 =>
               some r61)
             else (some false))
           else (some false)))).bind fun o46 =>
     match o46 with
     | c64 => if c64 then (
         some (c19, c22))
       else (
         some (c3, c6)))
def i_smallest_iremovals1_L1 (a_n : Int) (a_e1 : List Int) (a_e2 : List Method) (a_e3 : List Told) (x1 : Int) : Nat → (List Int) → Bool → Int → Option ((List Int) × Bool)
 | 0, _, _, _ => none
 | m8 + 1, c3, c6, c7 => if (decide ((c7 : Int) < x1)) then (
     (i_smallest_iremovals1_L2 a_n a_e1 a_e2 a_e3 c3 c6 c7 ((a_n - 0).toNat + 2) ([] : List Int) false 0).bind fun o16 =>
     match o16 with
     | (c68, c71) => i_smallest_iremovals1_L1 a_n a_e1 a_e2 a_e3 x1 m8 c68 c71 (IntKind.i64.wrap (c7 + 1)))
   else (
     some (c3, (!c6)))
def i_smallest_iremovals1 (a_n : Int) (a_e1 : List Int) (a_e2 : List Method) (a_e3 : List Told) : Option ((List Int) × Bool) :=
 (shlI .i64 1 a_n).bind fun x1 =>
 i_smallest_iremovals1_L1 a_n a_e1 a_e2 a_e3 x1 ((x1 - 0).toNat + 2) ([] : List Int) true 0
theorem i_smallest_iremovals1_ok (a_n : Int) (kc1 : Nat) (a_e1 : List Int) (vc1_0 : Sv) (kc2 : Nat) (a_e2 : List Method) (vc2_0 : Sv) (kc3 : Nat) (a_e3 : List Told) (vc3_0 : Sv) (R : (List Int) × Bool) (hF : i_smallest_iremovals1 a_n a_e1 a_e2 a_e3 = some R) :
   Fw.Spec Tryz.prog 155 [(.int .i64 a_n), (.func (.func 152) [].toArray [(pz kc1), (pz kc2), (pz kc3)].toArray)] [cboR kc1 22 vc1_0.v, crd (RdS 3 rdInt) vc1_0.v a_e1, cboR kc2 29 vc2_0.v, crd (RdS 86 rd86) vc2_0.v a_e2, cboR kc3 31 vc3_0.v, crd (RdS 90 rd90) vc3_0.v a_e3] (fun p : Sv × List Nat => (.tuple [p.1.v, (.bool R.2)].toArray)) (fun p => [cown (OwnS 3 (roE rdInt)) p.2 p.1.v R.1]) := by
 refine Se 62 Tryz.func155 [.tmp 4, .tmp 5] ?_
 intro H0 F0
 unfold i_smallest_iremovals1 at hF
 iterate 10 refine au ?_
 refine bnd hF fun x1 hx2 hF => C_val (V_shl (i := 1) (j := a_n) (.int _ _) (.tmp rfl rfl) hx2) ?_
 iterate 2 refine au ?_
 refine CW_block (CW_loop (m := ((x1 - 0).toNat + 2)) (fun m8 f' cs' => ∃ (g : Fr) (c3 : List Int) (c6 : Bool) (c7 : Int) (v4 : Sv) (F5 : List Nat), f' = updL g [(0, (.int .i64 a_n)), (1, (.func (.func 152) [].toArray [(pz kc1), (pz kc2), (pz kc3)].toArray)), (6, v4.v), (11, (.int .i64 x1)), (12, (.int .i64 c7))] ∧ Ent cs' [cboR kc1 22 vc1_0.v, crd (RdS 3 rdInt) vc1_0.v a_e1, cboR kc2 29 vc2_0.v, crd (RdS 86 rd86) vc2_0.v a_e2, cboR kc3 31 vc3_0.v, crd (RdS 90 rd90) vc3_0.v a_e3, cown (OwnS 3 (roE rdInt)) F5 v4.v c3, cnil v4.v c6] ∧ i_smallest_iremovals1_L1 a_n a_e1 a_e2 a_e3 x1 m8 c3 c6 c7 = some R) ⟨_, _, _, _, ⟨none, 0, 0⟩, [], eqA, (.conv .nil (own_nil (Ro := (roE rdInt)) (E := 3)) (.cons .nil) (.conv .nil cn_nil (.cons .nil) entA)), hF⟩ ?_)
 rintro m8 _ _ ⟨g9, c3, c6, c7, v4, F5, rfl, hE, hF⟩
 refine K_ent hE ?_
 rcases m8 with _ | m8
 · rw [i_smallest_iremovals1_L1] at hF
   exact absurd hF (by simp)
 rw [i_smallest_iremovals1_L1] at hF
 iterate 4 refine au ?_
 refine Ci hF (fun hb73 hF => ?_) (fun hb73 hF => ?_)
 · refine au ?_
   obtain ⟨o16, hio16, hO17⟩ := bind_some hF
   refine K_cut (fun f' cs' => ∃ (c68 : List Int) (c71 : Bool) (v69 : Sv) (F70 : List Nat) (g : Fr), o16 = (c68, c71) ∧ f' = updL g [(0, (.int .i64 a_n)), (1, (.func (.func 152) [].toArray [(pz kc1), (pz kc2), (pz kc3)].toArray)), (6, v69.v), (11, (.int .i64 x1)), (12, (.int .i64 c7))] ∧ Ent cs' [cboR kc1 22 vc1_0.v, crd (RdS 3 rdInt) vc1_0.v a_e1, cboR kc2 29 vc2_0.v, crd (RdS 86 rd86) vc2_0.v a_e2, cboR kc3 31 vc3_0.v, crd (RdS 90 rd90) vc3_0.v a_e3, cown (OwnS 3 (roE rdInt)) F70 v69.v c68, cnil v69.v c71]) ?_ ?_
   · replace hF := hio16
     refine CW_block (K_region (Cm (.int .i64 c7) rfl rfl ?_))
     iterate 3 refine au ?_
     refine C_new rfl (N_buildSliceT (g := true) sl22.h ty3.h .nil (vs := []) rfl rfl rfl (by simp)) (fun k18 => ?_)
     refine Cv1 (.cons .h .nil) (own_lit (Ro := (roE rdInt)) (E := 3) (F := []) (xs := ([] : List Int)) MkL_nil rfl rfl) ?_
     iterate 7 refine au ?_
     refine CW_block (CW_loop (m := ((a_n - 0).toNat + 2)) (fun m24 f' cs' => ∃ (g : Fr) (c19 : List Int) (c22 : Bool) (c23 : Int) (v20 : Sv) (F21 : List Nat), f' = updL g [(0, (.int .i64 a_n)), (1, (.func (.func 152) [].toArray [(pz kc1), (pz kc2), (pz kc3)].toArray)), (6, v4.v), (7, (.int .i64 c7)), (8, v20.v), (11, (.int .i64 x1)), (12, (.int .i64 c7)), (16, (.int .i64 a_n)), (17, (.int .i64 c23))] ∧ Ent cs' [cboR kc1 22 vc1_0.v, crd (RdS 3 rdInt) vc1_0.v a_e1, cboR kc2 29 vc2_0.v, crd (RdS 86 rd86) vc2_0.v a_e2, cboR kc3 31 vc3_0.v, crd (RdS 90 rd90) vc3_0.v a_e3, cown (OwnS 3 (roE rdInt)) F5 v4.v c3, cnil v4.v c6, cown (OwnS 3 (roE rdInt)) F21 v20.v c19, cnil v20.v c22] ∧ i_smallest_iremovals1_L2 a_n a_e1 a_e2 a_e3 c3 c6 c7 m24 c19 c22 c23 = some o16) ⟨_, _, _, _, ⟨(some ⟨k18, 0, none⟩), 0, 1⟩, (k18 :: []), eqA, (.conv .nil cn_lit (.cons .nil) entA), hF⟩ ?_)
     rintro m24 _ _ ⟨g25, c19, c22, c23, v20, F21, rfl, hE, hF⟩
     refine K_ent hE ?_
     rcases m24 with _ | m24
     · rw [i_smallest_iremovals1_L2] at hF
       exact absurd hF (by simp)
     rw [i_smallest_iremovals1_L2] at hF
     iterate 4 refine au ?_
     refine Ci hF (fun hb67 hF => ?_) (fun hb67 hF => ?_)
     · refine au ?_
       obtain ⟨o32, hio32, hO33⟩ := bind_some hF
       refine K_cut (fun f' cs' => ∃ (c41 : List Int) (c44 : Bool) (v42 : Sv) (F43 : List Nat) (g : Fr), o32 = (c41, c44) ∧ f' = updL g [(0, (.int .i64 a_n)), (1, (.func (.func 152) [].toArray [(pz kc1), (pz kc2), (pz kc3)].toArray)), (6, v4.v), (7, (.int .i64 c7)), (8, v42.v), (11, (.int .i64 x1)), (12, (.int .i64 c7)), (16, (.int .i64 a_n)), (17, (.int .i64 c23))] ∧ Ent cs' [cboR kc1 22 vc1_0.v, crd (RdS 3 rdInt) vc1_0.v a_e1, cboR kc2 29 vc2_0.v, crd (RdS 86 rd86) vc2_0.v a_e2, cboR kc3 31 vc3_0.v, crd (RdS 90 rd90) vc3_0.v a_e3, cown (OwnS 3 (roE rdInt)) F5 v4.v c3, cnil v4.v c6, cown (OwnS 3 (roE rdInt)) F43 v42.v c41, cnil v42.v c44]) ?_ ?_
       · replace hF := hio32
         refine CW_block (K_region (Cm (.int .i64 c23) rfl rfl ?_))
         iterate 5 refine au ?_
         refine bnd hF fun x34 hx35 hF => C_val (V_shr (i := c7) (j := c23) (.tmp rfl rfl) (.tmp rfl rfl) hx35) ?_
         refine C_val (V_and (i := x34) (j := 1) (.tmp rfl rfl) (.int _ _)) ?_
         iterate 2 refine au ?_
         refine Ci hF (fun hb40 hF => ?_) (fun hb40 hF => ?_)
         · iterate 3 refine au ?_
           refine C_new rfl (N_buildSliceT (g := true) sl22.h ty3.h (.cons (.tmp rfl rfl) .nil) (vs := [(.int .i64 c23)]) rfl rfl rfl (by intro v hv; simp at hv; rcases hv with rfl <;> rfl)) (fun k36 => ?_)
           refine Cv1 (.cons .h .nil) (own_lit (Ro := (roE rdInt)) (E := 3) (F := ([] ++ [])) (xs := ([c23] : List Int)) (MkL_cons (Mk_pure (fun _ => rfl)) MkL_nil apps) rfl rfl) ?_
           refine bnd hF fun z37 hx38 hF => C_x1 (.cons (.t (.t (.t (.t (.t (.t (.t (.t (.t .h))))))))) (.cons .h .nil)) (X_appendO (Ro := (roE rdInt)) sl22.h ni22 ty3.h rfl rfl rfl (.tmp rfl rfl) (.tmp rfl rfl) hx38 src_own) (fun p39 => ?_)
           refine C_conv (.cons .h .nil) ((cn_own (by obtain ⟨e, -⟩ := app_some hx38; rw [e]; simp))) apps ?_
           iterate 2 refine au ?_
           cases hF
           exact ⟨_, _, p39.1, p39.2, _, rfl, eqA, entA⟩
         refine au ?_
         cases hF
         exact ⟨_, _, v20, F21, _, rfl, eqA, entA⟩
       rintro _ _ ⟨c41, c44, v42, F43, g45, rfl, rfl, hE⟩
       replace hF := hO33
       try dsimp only at hF
       refine K_ent hE ?_
       iterate 4 refine au ?_
       exact ⟨m24, Nat.lt_succ_self _, _, _, _, _, v42, F43, eqA, entA, hF⟩
     iterate 4 refine au ?_
     obtain ⟨o46, hio46, hO47⟩ := bind_some hF
     refine au ?_
     refine C_cut (fun f' cs' => ∃ (c64 : Bool) (g : Fr), c64 = o46 ∧ f' = updL g [(0, (.int .i64 a_n)), (1, (.func (.func 152) [].toArray [(pz kc1), (pz kc2), (pz kc3)].toArray)), (6, v4.v), (8, v20.v), (11, (.int .i64 x1)), (12, (.int .i64 c7)), (56, (.bool c64))] ∧ Ent cs' [cboR kc1 22 vc1_0.v, crd (RdS 3 rdInt) vc1_0.v a_e1, cboR kc2 29 vc2_0.v, crd (RdS 86 rd86) vc2_0.v a_e2, cboR kc3 31 vc3_0.v, crd (RdS 90 rd90) vc3_0.v a_e3, cown (OwnS 3 (roE rdInt)) F5 v4.v c3, cnil v4.v c6, cown (OwnS 3 (roE rdInt)) F21 v20.v c19, cnil v20.v c22]) ?_ ?_
     · replace hF := hio46
       refine au ?_
       refine C_at (.t (.t (.t (.t (.t (.t (.t .h))))))) (fun hp => V_eqNilZ (u := v4) sl22.h (.tmp rfl rfl) hp) ?_
       refine au ?_
       rcases Bool.eq_false_or_eq_true c6 with hg48 | hg48
       · rw [hg48]
         try rw [hg48] at hF; dsimp only [cond_true, cond_false] at hF
         iterate 25 refine au ?_
         refine bnd hF fun r49 hx50 hF => C_x1 (.cons (.t (.t (.t (.t (.t (.t (.t (.t .h)))))))) (.rd .h rfl (.rd (.t .h) rfl (.rd (.t (.t .h)) rfl (.rd (.t (.t (.t .h))) rfl (.rd (.t (.t (.t (.t .h)))) rfl (.rd (.t (.t (.t (.t (.t .h))))) rfl .nil))))))) (XC_bor frz_own (fun _ => .nil) (X_callCS cf152.h (.tmp rfl rfl) (.cons (.tmp rfl rfl) .nil) (i_removals_1_ok c19 v20 kc1 a_e1 vc1_0 kc2 a_e2 vc2_0 kc3 a_e3 vc3_0 _ hx50))) (fun _ => ?_)
         iterate 2 refine au ?_
         cases hF
         exact ⟨_, _, rfl, eqA, entA⟩
       rw [hg48]
       try rw [hg48] at hF; dsimp only [cond_true, cond_false] at hF
       iterate 12 refine au ?_
       rcases Bool.eq_false_or_eq_true (decide (((c19.length : Int) : Int) < (c3.length : Int))) with hg52 | hg52
       · rw [hg52]
         try rw [hg52] at hF; dsimp only [cond_true, cond_false] at hF
         iterate 18 refine au ?_
         refine bnd hF fun r53 hx54 hF => C_x1 (.cons (.t (.t (.t (.t (.t (.t (.t (.t .h)))))))) (.rd .h rfl (.rd (.t .h) rfl (.rd (.t (.t .h)) rfl (.rd (.t (.t (.t .h))) rfl (.rd (.t (.t (.t (.t .h)))) rfl (.rd (.t (.t (.t (.t (.t .h))))) rfl .nil))))))) (XC_bor frz_own (fun _ => .nil) (X_callCS cf152.h (.tmp rfl rfl) (.cons (.tmp rfl rfl) .nil) (i_removals_1_ok c19 v20 kc1 a_e1 vc1_0 kc2 a_e2 vc2_0 kc3 a_e3 vc3_0 _ hx54))) (fun _ => ?_)
         iterate 2 refine au ?_
         cases hF
         exact ⟨_, _, rfl, eqA, entA⟩
       rw [hg52]
       try rw [hg52] at hF; dsimp only [cond_true, cond_false] at hF
       iterate 12 refine au ?_
       rcases Bool.eq_false_or_eq_true (((c19.length : Int) : Int) == (c3.length : Int)) with hg56 | hg56
       · rw [hg56]
         try rw [hg56] at hF; dsimp only [cond_true, cond_false] at hF
         iterate 5 refine au ?_
         refine bnd hF fun r57 hx58 hF => C_x2 (.cons (.t (.t (.t (.t (.t (.t .h)))))) (.cons (.t (.t (.t (.t (.t (.t (.t .h))))))) .nil)) (XC_borL (pre := []) (.cons frz_own (.cons frz_own .nil)) (fun _ => .nil) (X_callS cf196.h (.cons (.tmp rfl rfl) (.cons (.tmp rfl rfl) .nil)) (g_slices_Compare_int_int_ok c19 v20 c3 v4 _ hx58))) (fun _ => ?_)
         iterate 6 refine au ?_
         rcases Bool.eq_false_or_eq_true (decide ((r57 : Int) < 0)) with hg60 | hg60
         · rw [hg60]
           try rw [hg60] at hF; dsimp only [cond_true, cond_false] at hF
           iterate 5 refine au ?_
           refine bnd hF fun r61 hx62 hF => C_x1 (.cons (.t .h) (.rd (.t .h) rfl (.rd (.t (.t .h)) rfl (.rd (.t (.t (.t .h))) rfl (.rd (.t (.t (.t (.t .h)))) rfl (.rd (.t (.t (.t (.t (.t .h))))) rfl (.rd (.t (.t (.t (.t (.t (.t .h)))))) rfl .nil))))))) (XC_bor frz_own (fun _ => .nil) (X_callCS cf152.h (.tmp rfl rfl) (.cons (.tmp rfl rfl) .nil) (i_removals_1_ok c19 v20 kc1 a_e1 vc1_0 kc2 a_e2 vc2_0 kc3 a_e3 vc3_0 _ hx62))) (fun _ => ?_)
           iterate 2 refine au ?_
           cases hF
           exact ⟨_, _, rfl, eqA, entA⟩
         rw [hg60]
         try rw [hg60] at hF; dsimp only [cond_true, cond_false] at hF
         iterate 5 refine au ?_
         cases hF
         exact ⟨_, _, rfl, eqA, entA⟩
       rw [hg56]
       try rw [hg56] at hF; dsimp only [cond_true, cond_false] at hF
       iterate 13 refine au ?_
       cases hF
       exact ⟨_, _, rfl, eqA, entA⟩
     rintro _ _ ⟨c64, g66, rfl, rfl, hE⟩
     replace hF := hO47
     try dsimp only at hF
     refine K_ent hE ?_
     refine Ci hF (fun hb65 hF => ?_) (fun hb65 hF => ?_)
     · iterate 4 refine au ?_
       cases hF
       exact ⟨_, _, v20, F21, _, rfl, eqA, entA⟩
     refine au ?_
     cases hF
     exact ⟨_, _, v4, F5, _, rfl, eqA, entA⟩
   rintro _ _ ⟨c68, c71, v69, F70, g72, rfl, rfl, hE⟩
   replace hF := hO17
   try dsimp only at hF
   refine K_ent hE ?_
   iterate 4 refine au ?_
   exact ⟨m8, Nat.lt_succ_self _, _, _, _, _, v69, F70, eqA, entA, hF⟩
 iterate 7 refine au ?_
 refine C_at (.t (.t (.t (.t (.t (.t (.t .h))))))) (fun hp => V_neNilZ (u := v4) sl22.h (.tmp rfl rfl) hp) ?_
 iterate 4 refine au ?_
 cases hF
 exact Er (v4, F5)
def g_slices_Equal_int_int_L1 (a_s2 : List Int) : List Int → Nat → Option (Bool)
 | [], k4 => some true
 | x6 :: rest5, k4 => (ix a_s2 (k4 : Int)).bind fun x15 =>
   if ((x6 : Int) != x15) then (
     some false)
   else (
     g_slices_Equal_int_int_L1 a_s2 rest5 (k4 + 1))
def g_slices_Equal_int_int (a_s1 : List Int) (a_s2 : List Int) : Option (Bool) :=
 if (((a_s1.length : Int) : Int) != (a_s2.length : Int)) then (
   some false)
 else (
   g_slices_Equal_int_int_L1 a_s2 a_s1 0)
theorem g_slices_Equal_int_int_ok (a_s1 : List Int) (v0_0 : Sv) (a_s2 : List Int) (v1_0 : Sv) (R : Bool) (hF : g_slices_Equal_int_int a_s1 a_s2 = some R) :
   Fw.Spec Tryz.prog 249 [v0_0.v, v1_0.v] [crd (RdS 3 rdInt) v0_0.v a_s1, crd (RdS 3 rdInt) v1_0.v a_s2] (fun _ : Unit => (.bool R)) (fun _ => []) := by
 refine Se 26 Tryz.func249 [.tmp 4] ?_
 intro H0 F0
 unfold g_slices_Equal_int_int at hF
 iterate 11 refine au ?_
 refine Ci hF (fun hb23 hF => ?_) (fun hb23 hF => ?_)
 · iterate 4 refine au ?_
   cases hF
   exact Er ()
 iterate 7 refine au ?_
 refine CW_block (CW_loop (m := a_s1.length) (fun m2 f' cs' => ∃ (g : Fr) (k4 : Nat) (rest5 : List Int), m2 = rest5.length ∧ f' = updL g [(0, v0_0.v), (1, v1_0.v), (12, (.int .i64 (a_s1.length : Int))), (13, (.int .i64 (k4 : Int)))] ∧ List.drop k4 a_s1 = rest5 ∧ Ent cs' [crd (RdS 3 rdInt) v0_0.v a_s1, crd (RdS 3 rdInt) v1_0.v a_s2] ∧ g_slices_Equal_int_int_L1 a_s2 rest5 k4 = some R) ⟨_, 0, _, rfl, eqA, rfl, entA, hF⟩ ?_)
 rintro m2 _ _ ⟨g3, k4, rest5, rfl, rfl, hd7, hE, hF⟩
 refine Kb hE a_s1 (fun hbd12 => ?_)
 rcases rest5 with _ | ⟨x6, rest5⟩
 · have hk8 := dn hd7
   rw [g_slices_Equal_int_int_L1] at hF
   iterate 4 refine au ?_
   refine CdF ?_
   iterate 8 refine au ?_
   cases hF
   exact Er ()
 obtain ⟨hk8, hx9, hd10⟩ := drop_cons hd7
 rw [g_slices_Equal_int_int_L1] at hF
 iterate 4 refine au ?_
 refine CdT ?_
 iterate 6 refine au ?_
 refine K_draw [0, 1, 2, 3, 4, 5, 6, 7, 8] [0, 0, 3, 7, 0, 0, 48, 112, 255] [] mixed (by decide +kernel) ?_
 iterate 2 refine du ?_
 refine Di hx9 (fun k13 j14 => ?_)
 refine Dl ls3_0 ?_
 iterate 2 refine du ?_
 refine bnd hF fun x15 hx16 hF => ?_
 obtain ⟨hp17, hx18⟩ := ix_some hx16
 refine Di hx18 (fun k19 j20 => ?_)
 refine Dl ls3_0 ?_
 iterate 2 refine du ?_
 refine Ci hF (fun hb22 hF => ?_) (fun hb22 hF => ?_)
 · iterate 4 refine au ?_
   cases hF
   exact Er ()
 iterate 5 refine au ?_
 rw [wk k4]
 exact ⟨_, Nat.lt_succ_self _, _, k4 + 1, rest5, rfl, eqA, hd10, entA, hF⟩
def i_hasTuple_1 (a_x : List Int) (a_e1 : List Int) : Option (Bool) :=
 (g_slices_Equal_int_int a_x a_e1).bind fun r1 =>
 some r1
theorem i_hasTuple_1_ok (a_x : List Int) (v0_0 : Sv) (kc1 : Nat) (a_e1 : List Int) (vc1_0 : Sv) (R : Bool) (hF : i_hasTuple_1 a_x a_e1 = some R) :
   Fw.Spec Tryz.prog 248 [v0_0.v, (pz kc1)] [crd (RdS 3 rdInt) v0_0.v a_x, cboR kc1 22 vc1_0.v, crd (RdS 3 rdInt) vc1_0.v a_e1] (fun _ : Unit => (.bool R)) (fun _ => []) := by
 refine Se 7 Tryz.func248 [.tmp 3] ?_
 intro H0 F0
 unfold i_hasTuple_1 at hF
 iterate 6 refine au ?_
 refine bnd hF fun r1 hx2 hF => Cx0 (g_slices_Equal_int_int_ok _ _ _ _ _ hx2) (fun _ => ?_)
 iterate 3 refine au ?_
 cases hF
 exact Er ()
def g_slices_IndexFunc_int_int_ihasTuple1_L1 (a_e1 : List Int) : List (List Int) → Nat → Option (Int)
 | [], k4 => some (-1)
 | x6 :: rest5, k4 => (i_hasTuple_1 x6 a_e1).bind fun r16 =>
   if r16 then (
     some (k4 : Int))
   else (
     g_slices_IndexFunc_int_int_ihasTuple1_L1 a_e1 rest5 (k4 + 1))
def g_slices_IndexFunc_int_int_ihasTuple1 (a_s : List (List Int)) (a_e1 : List Int) : Option (Int) :=
 g_slices_IndexFunc_int_int_ihasTuple1_L1 a_e1 a_s 0
theorem g_slices_IndexFunc_int_int_ihasTuple1_ok (a_s : List (List Int)) (v0_0 : Sv) (kc1 : Nat) (a_e1 : List Int) (vc1_0 : Sv) (R : Int) (hF : g_slices_IndexFunc_int_int_ihasTuple1 a_s a_e1 = some R) :
   Fw.Spec Tryz.prog 210 [v0_0.v, (.func (.func 248) [].toArray [(pz kc1)].toArray)] [crd (RdS 22 (RdS 3 rdInt)) v0_0.v a_s, cboR kc1 22 vc1_0.v, crd (RdS 3 rdInt) vc1_0.v a_e1] (fun _ : Unit => (.int .i64 R)) (fun _ => []) := by
 refine Se 19 Tryz.func210 [.tmp 4] ?_
 intro H0 F0
 unfold g_slices_IndexFunc_int_int_ihasTuple1 at hF
 iterate 9 refine au ?_
 refine CW_block (CW_loop (m := a_s.length) (fun m2 f' cs' => ∃ (g : Fr) (k4 : Nat) (rest5 : List (List Int)), m2 = rest5.length ∧ f' = updL g [(0, v0_0.v), (1, (.func (.func 248) [].toArray [(pz kc1)].toArray)), (7, (.int .i64 (a_s.length : Int))), (8, (.int .i64 (k4 : Int)))] ∧ List.drop k4 a_s = rest5 ∧ Ent cs' [crd (RdS 22 (RdS 3 rdInt)) v0_0.v a_s, cboR kc1 22 vc1_0.v, crd (RdS 3 rdInt) vc1_0.v a_e1] ∧ g_slices_IndexFunc_int_int_ihasTuple1_L1 a_e1 rest5 k4 = some R) ⟨_, 0, _, rfl, eqA, rfl, entA, hF⟩ ?_)
 rintro m2 _ _ ⟨g3, k4, rest5, rfl, rfl, hd7, hE, hF⟩
 refine Kb hE a_s (fun hbd12 => ?_)
 rcases rest5 with _ | ⟨x6, rest5⟩
 · have hk8 := dn hd7
   rw [g_slices_IndexFunc_int_int_ihasTuple1_L1] at hF
   iterate 4 refine au ?_
   refine CdF ?_
   iterate 8 refine au ?_
   cases hF
   exact Er ()
 obtain ⟨hk8, hx9, hd10⟩ := drop_cons hd7
 rw [g_slices_IndexFunc_int_int_ihasTuple1_L1] at hF
 iterate 4 refine au ?_
 refine CdT ?_
 iterate 10 refine au ?_
 refine Ai hx9 (fun k13 j14 => ?_)
 refine C_ldV (R' := (RdS 3 rdInt)) ag22.h (.tmp rfl rfl) .h lv22_0 (fun w15 => ?_)
 refine bnd hF fun r16 hx17 hF => C_x0 (.rd .h rfl (.rd (.t (.t (.t .h))) rfl (.rd (.t (.t (.t (.t .h)))) rfl .nil))) (X_callCS cf248.h (.tmp rfl rfl) (.cons (.tmp rfl rfl) .nil) (i_hasTuple_1_ok x6 w15 kc1 a_e1 vc1_0 _ hx17)) (fun _ => ?_)
 refine au ?_
 refine Ci hF (fun hb20 hF => ?_) (fun hb20 hF => ?_)
 · iterate 5 refine au ?_
   cases hF
   exact Er ()
 iterate 5 refine au ?_
 rw [wk k4]
 exact ⟨_, Nat.lt_succ_self _, _, k4 + 1, rest5, rfl, eqA, hd10, entA, hF⟩
def g_slices_ContainsFunc_int_int_ihasTuple1 (a_s : List (List Int)) (a_e1 : List Int) : Option (Bool) :=
 (g_slices_IndexFunc_int_int_ihasTuple1 a_s a_e1).bind fun r1 =>
 some (decide ((0 : Int) ≤ r1))
theorem g_slices_ContainsFunc_int_int_ihasTuple1_ok (a_s : List (List Int)) (v0_0 : Sv) (kc1 : Nat) (a_e1 : List Int) (vc1_0 : Sv) (R : Bool) (hF : g_slices_ContainsFunc_int_int_ihasTuple1 a_s a_e1 = some R) :
   Fw.Spec Tryz.prog 166 [v0_0.v, (.func (.func 248) [].toArray [(pz kc1)].toArray)] [crd (RdS 22 (RdS 3 rdInt)) v0_0.v a_s, cboR kc1 22 vc1_0.v, crd (RdS 3 rdInt) vc1_0.v a_e1] (fun _ : Unit => (.bool R)) (fun _ => []) := by
 refine Se 9 Tryz.func166 [.tmp 4] ?_
 intro H0 F0
 unfold g_slices_ContainsFunc_int_int_ihasTuple1 at hF
 iterate 6 refine au ?_
 refine bnd hF fun r1 hx2 hF => Cx0 (g_slices_IndexFunc_int_int_ihasTuple1_ok _ _ _ _ _ _ hx2) (fun _ => ?_)
 iterate 4 refine au ?_
 cases hF
 exact Er ()
def i_hasTuple (a_l : List (List Int)) (a_t : List Int) : Option (Bool) :=
 (g_slices_ContainsFunc_int_int_ihasTuple1 a_l a_t).bind fun r2 =>
 some r2
theorem i_hasTuple_ok (a_l : List (List Int)) (v0_0 : Sv) (a_t : List Int) (v1_0 : Sv) (R : Bool) (hF : i_hasTuple a_l a_t = some R) :
   Fw.Spec Tryz.prog 209 [v0_0.v, v1_0.v] [crd (RdS 22 (RdS 3 rdInt)) v0_0.v a_l, crd (RdS 3 rdInt) v1_0.v a_t] (fun _ : Unit => (.bool R)) (fun _ => []) := by
 refine Se 8 Tryz.func209 [.tmp 4] ?_
 intro H0 F0
 unfold i_hasTuple at hF
 refine au ?_
 refine AbR (fun k1 => ?_)
 iterate 4 refine au ?_
 refine C_val (V_makeFunc (fn := .func 248) (vs := []) (us := [(pz k1)]) .nil (.cons (.tmp rfl rfl) .nil)) ?_
 refine bnd hF fun r2 hx3 hF => Cx0 (g_slices_ContainsFunc_int_int_ihasTuple1_ok _ _ _ _ _ _ hx3) (fun _ => ?_)
 iterate 3 refine au ?_
 cases hF
 exact Er ()
def i_addedTuple_1 (a_x : List Int) (a_e1 : List Int) : Option (Bool) :=
 (g_slices_Compare_int_int a_x a_e1).bind fun r1 =>
 some (decide ((0 : Int) < r1))
theorem i_addedTuple_1_ok (a_x : List Int) (v0_0 : Sv) (kc1 : Nat) (a_e1 : List Int) (vc1_0 : Sv) (R : Bool) (hF : i_addedTuple_1 a_x a_e1 = some R) :
   Fw.Spec Tryz.prog 211 [v0_0.v, (pz kc1)] [crd (RdS 3 rdInt) v0_0.v a_x, cboR kc1 22 vc1_0.v, crd (RdS 3 rdInt) vc1_0.v a_e1] (fun _ : Unit => (.bool R)) (fun _ => []) := by
 refine Se 8 Tryz.func211 [.tmp 3] ?_
 intro H0 F0
 unfold i_addedTuple_1 at hF
 iterate 6 refine au ?_
 refine bnd hF fun r1 hx2 hF => Cx0 (g_slices_Compare_int_int_ok _ _ _ _ _ hx2) (fun _ => ?_)
 iterate 4 refine au ?_
 cases hF
 exact Er ()
def g_slices_IndexFunc_int_int_iaddedTuple1_L1 (a_e1 : List Int) : List (List Int) → Nat → Option (Int)
 | [], k4 => some (-1)
 | x6 :: rest5, k4 => (i_addedTuple_1 x6 a_e1).bind fun r16 =>
   if r16 then (
     some (k4 : Int))
   else (
     g_slices_IndexFunc_int_int_iaddedTuple1_L1 a_e1 rest5 (k4 + 1))
def g_slices_IndexFunc_int_int_iaddedTuple1 (a_s : List (List Int)) (a_e1 : List Int) : Option (Int) :=
 g_slices_IndexFunc_int_int_iaddedTuple1_L1 a_e1 a_s 0
theorem g_slices_IndexFunc_int_int_iaddedTuple1_ok (a_s : List (List Int)) (v0_0 : Sv) (kc1 : Nat) (a_e1 : List Int) (vc1_0 : Sv) (R : Int) (hF : g_slices_IndexFunc_int_int_iaddedTuple1 a_s a_e1 = some R) :
   Fw.Spec Tryz.prog 210 [v0_0.v, (.func (.func 211) [].toArray [(pz kc1)].toArray)] [crd (RdS 22 (RdS 3 rdInt)) v0_0.v a_s, cboR kc1 22 vc1_0.v, crd (RdS 3 rdInt) vc1_0.v a_e1] (fun _ : Unit => (.int .i64 R)) (fun _ => []) := by
 refine Se 19 Tryz.func210 [.tmp 4] ?_
 intro H0 F0
 unfold g_slices_IndexFunc_int_int_iaddedTuple1 at hF
 iterate 9 refine au ?_
 refine CW_block (CW_loop (m := a_s.length) (fun m2 f' cs' => ∃ (g : Fr) (k4 : Nat) (rest5 : List (List Int)), m2 = rest5.length ∧ f' = updL g [(0, v0_0.v), (1, (.func (.func 211) [].toArray [(pz kc1)].toArray)), (7, (.int .i64 (a_s.length : Int))), (8, (.int .i64 (k4 : Int)))] ∧ List.drop k4 a_s = rest5 ∧ Ent cs' [crd (RdS 22 (RdS 3 rdInt)) v0_0.v a_s, cboR kc1 22 vc1_0.v, crd (RdS 3 rdInt) vc1_0.v a_e1] ∧ g_slices_IndexFunc_int_int_iaddedTuple1_L1 a_e1 rest5 k4 = some R) ⟨_, 0, _, rfl, eqA, rfl, entA, hF⟩ ?_)
 rintro m2 _ _ ⟨g3, k4, rest5, rfl, rfl, hd7, hE, hF⟩
 refine Kb hE a_s (fun hbd12 => ?_)
 rcases rest5 with _ | ⟨x6, rest5⟩
 · have hk8 := dn hd7
   rw [g_slices_IndexFunc_int_int_iaddedTuple1_L1] at hF
   iterate 4 refine au ?_
   refine CdF ?_
   iterate 8 refine au ?_
   cases hF
   exact Er ()
 obtain ⟨hk8, hx9, hd10⟩ := drop_cons hd7
 rw [g_slices_IndexFunc_int_int_iaddedTuple1_L1] at hF
 iterate 4 refine au ?_
 refine CdT ?_
 iterate 10 refine au ?_
 refine Ai hx9 (fun k13 j14 => ?_)
 refine C_ldV (R' := (RdS 3 rdInt)) ag22.h (.tmp rfl rfl) .h lv22_0 (fun w15 => ?_)
 refine bnd hF fun r16 hx17 hF => C_x0 (.rd .h rfl (.rd (.t (.t (.t .h))) rfl (.rd (.t (.t (.t (.t .h)))) rfl .nil))) (X_callCS cf211.h (.tmp rfl rfl) (.cons (.tmp rfl rfl) .nil) (i_addedTuple_1_ok x6 w15 kc1 a_e1 vc1_0 _ hx17)) (fun _ => ?_)
 refine au ?_
 refine Ci hF (fun hb20 hF => ?_) (fun hb20 hF => ?_)
 · iterate 5 refine au ?_
   cases hF
   exact Er ()
 iterate 5 refine au ?_
 rw [wk k4]
 exact ⟨_, Nat.lt_succ_self _, _, k4 + 1, rest5, rfl, eqA, hd10, entA, hF⟩
def g_slices_Insert_int_int (a_s : List (List Int)) (a_i : Int) (a_v : List (List Int)) : Option (List (List Int)) :=
 match a_v with
 | [a] => if 0 ≤ a_i ∧ a_i.toNat ≤ a_s.length ∧ a_s.length + 1 < 4294967296 then some (a_s.take a_i.toNat ++ a :: a_s.drop a_i.toNat) else none
 | _ => none
set_option maxHeartbeats 4000000 in
theorem g_slices_Insert_int_int_raw (es : List Value) (e : Value) (v u : Sv) (F F2 : List Nat) (i : Nat) (hi : i ≤ es.length) (hb : es.length + 1 < 4294967296) : Fw.Spec Tryz.prog 212 [v.v, .int .i64 (i : Int), u.v] [cown (OwnS 22 (roE (rvs 1))) F v.v es, cown (OwnS 22 (roE (rvs 1))) F2 u.v [e]] (fun q : Sv × List Nat => q.1.v) (fun q => [cown (OwnS 22 (roE (rvs 1))) q.2 q.1.v (es.take i ++ e :: es.drop i)]) := by
 refine Spec_enter (n := 95) Tryz.func212 rfl rfl (rs := [.tmp 6]) rfl rfl rfl ?_
 intro H0 F0
 refine K_region ?_
 refine C_val (V_assign (v := (.slice none 0 0)) EV.nilSlice) ?_
 refine C_nil ?_
 refine K_region ?_
 refine C_val (V_move (v := v.v) (.tmp rfl rfl)) ?_
 refine C_val (V_move (v := (.int .i64 (i : Int))) (.tmp rfl rfl)) ?_
 refine C_x1 (.cons .h .nil) (X_sliceLoE sl139.h ty22.h.sz (.tmp rfl rfl) (.tmp rfl rfl) hi) (fun w0 => ?_)
 refine C_nil ?_
 refine K_region ?_
 refine C_val (V_move (v := u.v) (.tmp rfl rfl)) ?_
 refine C_at (.t .h) (fun hp => V_lenR (l := 1) sl139.h (.tmp rfl rfl) (cown_len hp)) ?_
 refine C_val (V_assign (v := (.int .i64 ((1 : Nat) : Int))) (.tmp rfl rfl)) ?_
 refine C_nil ?_
 refine K_in ?_
 refine K_region ?_
 refine C_val (V_move (v := (.int .i64 ((1 : Nat) : Int))) (.tmp rfl rfl)) ?_
 refine C_val (V_eql (i := ((1 : Nat) : Int)) (j := 0) (.tmp rfl rfl) (.int _ _)) ?_
 refine C_nil ?_
 refine CW_cond (b := (((1 : Nat) : Int) == 0)) (.tmp rfl rfl) (fun hb0 => absurd hb0 (by decide)) (fun _ => ?_)
 refine CW_skip ?_
 refine K_region ?_
 refine C_val (V_move (v := v.v) (.tmp rfl rfl)) ?_
 refine C_at .h (fun hp => V_lenR (l := es.length) sl139.h (.tmp rfl rfl) (cown_len hp)) ?_
 refine C_val (V_assign (v := (.int .i64 (es.length : Int))) (.tmp rfl rfl)) ?_
 refine C_nil ?_
 refine K_in ?_
 refine K_region ?_
 refine C_val (V_move (v := (.int .i64 (i : Int))) (.tmp rfl rfl)) ?_
 refine C_val (V_move (v := (.int .i64 (es.length : Int))) (.tmp rfl rfl)) ?_
 refine C_val (V_eql (i := (i : Int)) (j := (es.length : Int)) (.tmp rfl rfl) (.tmp rfl rfl)) ?_
 refine C_nil ?_
 refine CW_cond (b := ((i : Int) == (es.length : Int))) (.tmp rfl rfl) (fun hb1 => ?_) (fun hb1 => ?_)
 · have hie : i = es.length := by simp only [beq_iff_eq] at hb1; omega
   refine K_region ?_
   refine C_val (V_move (v := v.v) (.tmp rfl rfl)) ?_
   refine C_val (V_move (v := u.v) (.tmp rfl rfl)) ?_
   refine C_x1 (.cons .h (.cons .h .nil)) (X_appendO (Ro := (roE (rvs 1))) sl139.h ni139 ty22.h rfl rfl rfl (.tmp rfl rfl) (.tmp rfl rfl) (app_ok (xs := es) (ys := [e]) (by simpa using hb)) src_own) (fun p => ?_)
   refine C_val (V_assign (v := p.1.v) (.tmp rfl rfl)) ?_
   refine C_nil ?_
   refine CW_ret ?_
   rw [hie, List.take_length, List.drop_length]
   exact End_ret p (.tmp rfl rfl .nil) rfl (.sel (.cons .h .nil))
 refine CW_skip ?_
 have hlt : i < es.length := by simp at hb1; omega
 refine K_pure .h (own_form (by intro h; rw [h] at hlt; simp at hlt)) (fun hv => ?_)
 obtain ⟨k0, m0, rfl, hm0⟩ := hv
 refine K_pure (.t .h) (own_form (by simp)) (fun hu => ?_)
 obtain ⟨k1, m1, rfl, hm1⟩ := hu
 refine K_cap (t := 0) (k := k0) (l := es.length) (m := m0) rfl rfl hm0 (by omega) .h rfl (fun c hc => ?_)
 have w1 : IntKind.i64.wrap ((es.length : Int) + ((1 : Nat) : Int)) = ((es.length + 1 : Nat) : Int) := by rw [wrap_in (by omega) (by omega)]; rfl
 have w2 : IntKind.i64.wrap ((i : Int) + ((1 : Nat) : Int)) = ((i + 1 : Nat) : Int) := by rw [wrap_in (by omega) (by omega)]; rfl
 have w3 : IntKind.i64.wrap (((es.length + 1 : Nat) : Int) - (i : Int)) = ((es.length + 1 - i : Nat) : Int) := by rw [wrap_in (by omega) (by omega)]; omega
 have hel : (es.take i ++ e :: es.drop i).length = es.length + 1 := ins_len hi
 refine K_in ?_
 refine K_region ?_
 refine C_val (V_move (v := (.int .i64 (es.length : Int))) (.tmp rfl rfl)) ?_
 refine C_val (V_move (v := (.int .i64 ((1 : Nat) : Int))) (.tmp rfl rfl)) ?_
 refine C_val (V_add (i := (es.length : Int)) (j := ((1 : Nat) : Int)) (.tmp rfl rfl) (.tmp rfl rfl)) ?_
 rw [w1]
 refine C_val (V_move (v := (.slice (some ⟨k0, 0, none⟩) es.length (c + 3))) (.tmp rfl rfl)) ?_
 refine C_at .h (fun hp => V_capO sl139.h hp rfl (.tmp rfl rfl)) ?_
 refine C_val (V_gtr (i := ((es.length + 1 : Nat) : Int)) (j := (c : Int)) (.tmp rfl rfl) (.tmp rfl rfl)) ?_
 refine C_nil ?_
 refine CW_cond (b := (decide ((c : Int) < ((es.length + 1 : Nat) : Int)))) (.tmp rfl rfl) (fun hb2 => ?_) (fun hb2 => ?_)
 · have hcl : c < es.length + 1 := by simp only [decide_eq_true_eq] at hb2; omega
   refine K_region ?_
   refine C_val (V_move (v := (.slice (some ⟨k0, 0, none⟩) es.length (c + 3))) (.tmp rfl rfl)) ?_
   refine C_val (V_move (v := (.int .i64 (i : Int))) (.tmp rfl rfl)) ?_
   refine C_at .h (fun hp => V_sliceCapO (j := i) sl139.h ty22.h.sz hp rfl (.tmp rfl rfl) (.tmp rfl rfl) (by omega)) ?_
   refine C_val (V_move (v := (.int .i64 (es.length : Int))) (.tmp rfl rfl)) ?_
   refine C_val (V_move (v := (.int .i64 ((1 : Nat) : Int))) (.tmp rfl rfl)) ?_
   refine C_val (V_add (i := (es.length : Int)) (j := ((1 : Nat) : Int)) (.tmp rfl rfl) (.tmp rfl rfl)) ?_
   rw [w1]
   refine C_val (V_move (v := (.int .i64 (i : Int))) (.tmp rfl rfl)) ?_
   refine C_val (V_sub (i := ((es.length + 1 : Nat) : Int)) (j := (i : Int)) (.tmp rfl rfl) (.tmp rfl rfl)) ?_
   rw [w3]
   refine C_x2 (.cons .h .nil) (X_appendMake (c := c) (q := es.length + 1 - i) sl139.h ik3 ty22.h rfl rfl rfl rfl rfl rfl (.tmp rfl rfl) (.tmp rfl rfl) (by omega) (by omega) (by omega) (by omega)) (fun k2 => ?_)
   rw [show i + (es.length + 1 - i) = es.length + 1 from by omega]
   refine C_val (V_assign (v := (.slice (some ⟨k2, 0, none⟩) (es.length + 1) 2)) (.tmp rfl rfl)) ?_
   refine C_nil ?_
   refine K_region ?_
   refine C_val (V_move (v := (.slice (some ⟨k2, 0, none⟩) (es.length + 1) 2)) (.tmp rfl rfl)) ?_
   refine C_val (V_move (v := (.int .i64 (i : Int))) (.tmp rfl rfl)) ?_
   refine C_at .h (fun hp => V_sliceLoO (j := i) sl139.h ty22.h.sz hp rfl (.tmp rfl rfl) (.tmp rfl rfl) (by omega)) ?_
   refine C_val (V_move (v := (.slice (some ⟨k1, 0, none⟩) 1 m1)) (.tmp rfl rfl)) ?_
   refine C_x2 (.cons .h (.cons (.t .h) .nil)) (X_copy2 (m1 := 0) (m2 := m1) (ia := i) (ja := 0) (ld := es.length + 1 - i) (ls := 1) (es2 := [e]) (es' := es.take i ++ e :: List.replicate (es.length - i) (.slice none 0 0)) sl139.h ty22.h.sz rfl rfl rfl (by exact .tmp rfl rfl) (by exact .tmp rfl rfl) (by omega) (by omega) (by rw [List.length_singleton]; omega) (by simp; omega) (ins_l1 (e := e) (z := (.slice none 0 0)) hlt) (by simp; omega)) (fun _ => ?_)
   refine C_nil ?_
   refine K_draw [0, 1, 2, 3, 4, 5, 6, 7, 8] [0, 0, 0, 6, 15, 0, 0, 96, 255] [8] mixed (by decide +kernel) ?_
   refine D_val rfl .no (fun ha => V_move (v := (.slice (some ⟨k2, 0, none⟩) (es.length + 1) 2)) (EN ha (.tmp rfl rfl) rfl)) ?_
   refine D_val rfl .no (fun ha => V_move (v := (.int .i64 (i : Int))) (EN ha (.tmp rfl rfl) rfl)) ?_
   refine D_val rfl .no (fun ha => V_move (v := (.int .i64 ((1 : Nat) : Int))) (EN ha (.tmp rfl rfl) rfl)) ?_
   refine D_val rfl .no (fun ha => V_add (i := (i : Int)) (j := ((1 : Nat) : Int)) (EN ha (.tmp rfl rfl) rfl) (EN ha (.tmp rfl rfl) rfl)) ?_
   rw [w2]
   refine D_atO rfl .no .h (fun ha hp => V_sliceLoO (j := i + 1) sl139.h ty22.h.sz hp rfl (EN ha (.tmp rfl rfl) rfl) (EN ha (.tmp rfl rfl) rfl) (by omega)) ?_
   refine D_val rfl .no (fun ha => V_move (v := (.slice (some ⟨k0, 0, none⟩) es.length (c + 3))) (EN ha (.tmp rfl rfl) rfl)) ?_
   refine D_val rfl .no (fun ha => V_move (v := (.int .i64 (i : Int))) (EN ha (.tmp rfl rfl) rfl)) ?_
   refine D_atO rfl .no (.t (.t .h)) (fun ha hp => V_sliceLoO (j := i) sl139.h ty22.h.sz hp rfl (EN ha (.tmp rfl rfl) rfl) (EN ha (.tmp rfl rfl) rfl) (by omega)) ?_
   refine D_act2 rfl rfl .no (.cons .h (.cons (.t .h) .nil)) (.dep rfl (.dep rfl .nil)) (fun ha => X_copy2 sl139.h ty22.h.sz rfl rfl rfl (EN ha (.tmp rfl rfl) rfl) (EN ha (.tmp rfl rfl) rfl) (by omega) (by omega) (by omega) (by simp; omega) (ins_l2 (e := e) (z := (.slice none 0 0)) hlt) (by omega)) (fun _ => ?_)
   refine D_nil ?_
   refine K_region ?_
   refine C_val (V_move (v := (.slice (some ⟨k2, 0, none⟩) (es.length + 1) 2)) (.tmp rfl rfl)) ?_
   refine C_val (V_assign (v := (.slice (some ⟨k2, 0, none⟩) (es.length + 1) 2)) (.tmp rfl rfl)) ?_
   refine C_nil ?_
   refine CW_ret ?_
   rw [hel]
   exact End_ret (⟨some ⟨k2, 0, none⟩, es.length + 1, 2⟩, [k2]) (.tmp rfl rfl .nil) rfl (.sel (.cons .h .nil))
 refine CW_skip ?_
 have hcl : es.length + 1 ≤ c := by simp only [decide_eq_false_iff_not] at hb2; omega
 refine K_region ?_
 refine C_val (V_move (v := (.slice (some ⟨k0, 0, none⟩) es.length (c + 3))) (.tmp rfl rfl)) ?_
 refine C_val (V_move (v := (.int .i64 (es.length : Int))) (.tmp rfl rfl)) ?_
 refine C_val (V_move (v := (.int .i64 ((1 : Nat) : Int))) (.tmp rfl rfl)) ?_
 refine C_val (V_add (i := (es.length : Int)) (j := ((1 : Nat) : Int)) (.tmp rfl rfl) (.tmp rfl rfl)) ?_
 rw [w1]
 refine C_at .h (fun hp => V_sliceCapO (j := es.length + 1) sl139.h ty22.h.sz hp rfl (.tmp rfl rfl) (.tmp rfl rfl) hcl) ?_
 refine C_val (V_assign (v := (.slice (some ⟨k0, 0, none⟩) (es.length + 1) (c + 3))) (.tmp rfl rfl)) ?_
 refine C_nil ?_
 refine K_in ?_
 refine K_region ?_
 refine C_val (V_move (v := (.slice (some ⟨k1, 0, none⟩) 1 m1)) (.tmp rfl rfl)) ?_
 refine C_val (V_move (v := (.slice (some ⟨k0, 0, none⟩) (es.length + 1) (c + 3))) (.tmp rfl rfl)) ?_
 refine C_val (V_move (v := (.int .i64 (i : Int))) (.tmp rfl rfl)) ?_
 refine C_val (V_move (v := (.int .i64 ((1 : Nat) : Int))) (.tmp rfl rfl)) ?_
 refine C_val (V_add (i := (i : Int)) (j := ((1 : Nat) : Int)) (.tmp rfl rfl) (.tmp rfl rfl)) ?_
 rw [w2]
 refine C_at .h (fun hp => V_sliceLoO (j := i + 1) sl139.h ty22.h.sz hp rfl (.tmp rfl rfl) (.tmp rfl rfl) (by omega)) ?_
 refine C_x2 (.cons (.t .h) (.cons .h .nil)) (X_overlaps sl139.h ty22.h.sz rfl hov250 rfl rfl (.tmp rfl rfl) (.tmp rfl rfl) (by omega) (by omega)) (fun _ => ?_)
 refine C_val (V_not (b := false) (.tmp rfl rfl)) ?_
 refine C_nil ?_
 refine CW_cond (b := (!false)) (.tmp rfl rfl) (fun _ => ?_) (fun h => absurd h (by decide))
 refine K_draw [0, 1, 2, 3, 4, 5, 6, 7, 8] [0, 0, 0, 6, 15, 0, 0, 96, 255] [8] mixed (by decide +kernel) ?_
 refine D_val rfl .no (fun ha => V_move (v := (.slice (some ⟨k0, 0, none⟩) (es.length + 1) (c + 3))) (EN ha (.tmp rfl rfl) rfl)) ?_
 refine D_val rfl .no (fun ha => V_move (v := (.int .i64 (i : Int))) (EN ha (.tmp rfl rfl) rfl)) ?_
 refine D_val rfl .no (fun ha => V_move (v := (.int .i64 ((1 : Nat) : Int))) (EN ha (.tmp rfl rfl) rfl)) ?_
 refine D_val rfl .no (fun ha => V_add (i := (i : Int)) (j := ((1 : Nat) : Int)) (EN ha (.tmp rfl rfl) rfl) (EN ha (.tmp rfl rfl) rfl)) ?_
 rw [w2]
 refine D_atO rfl .no (.t .h) (fun ha hp => V_sliceLoO (j := i + 1) sl139.h ty22.h.sz hp rfl (EN ha (.tmp rfl rfl) rfl) (EN ha (.tmp rfl rfl) rfl) (by omega)) ?_
 refine D_val rfl .no (fun ha => V_move (v := (.slice (some ⟨k0, 0, none⟩) (es.length + 1) (c + 3))) (EN ha (.tmp rfl rfl) rfl)) ?_
 refine D_val rfl .no (fun ha => V_move (v := (.int .i64 (i : Int))) (EN ha (.tmp rfl rfl) rfl)) ?_
 refine D_atO rfl .no (.t .h) (fun ha hp => V_sliceLoO (j := i) sl139.h ty22.h.sz hp rfl (EN ha (.tmp rfl rfl) rfl) (EN ha (.tmp rfl rfl) rfl) (by omega)) ?_
 refine D_act1 rfl rfl .no (.cons (.t .h) .nil) (.dep rfl (.dep rfl .nil)) (fun ha => X_copyS sl139.h ty22.h.sz rfl rfl (EN ha (.tmp rfl rfl) rfl) (EN ha (.tmp rfl rfl) rfl) (by omega) (by omega) (by omega) (by omega) (ins_l3 hlt) (by simp; omega)) (fun _ => ?_)
 refine D_nil ?_
 refine K_region ?_
 refine C_val (V_move (v := (.slice (some ⟨k0, 0, none⟩) (es.length + 1) (c + 3))) (.tmp rfl rfl)) ?_
 refine C_val (V_move (v := (.int .i64 (i : Int))) (.tmp rfl rfl)) ?_
 refine C_at .h (fun hp => V_sliceLoO (j := i) sl139.h ty22.h.sz hp rfl (.tmp rfl rfl) (.tmp rfl rfl) (by omega)) ?_
 refine C_val (V_move (v := (.slice (some ⟨k1, 0, none⟩) 1 m1)) (.tmp rfl rfl)) ?_
 refine C_x2 (.cons .h (.cons .h .nil)) (X_copy2 (m1 := 0) (m2 := m1) (ia := i) (ja := 0) (ld := es.length + 1 - i) (ls := 1) (es2 := [e]) (es' := es.take i ++ e :: es.drop i) sl139.h ty22.h.sz rfl rfl rfl (by exact .tmp rfl rfl) (by exact .tmp rfl rfl) (by omega) (by omega) (by rw [List.length_singleton]; omega) (by simp; omega) (ins_l4 (e := e) hlt) (by omega)) (fun _ => ?_)
 refine C_nil ?_
 refine K_region ?_
 refine C_val (V_move (v := (.slice (some ⟨k0, 0, none⟩) (es.length + 1) (c + 3))) (.tmp rfl rfl)) ?_
 refine C_val (V_assign (v := (.slice (some ⟨k0, 0, none⟩) (es.length + 1) (c + 3))) (.tmp rfl rfl)) ?_
 refine C_nil ?_
 refine K_uncap (t := 6) (k := k0) (l := es.length + 1) (c := c) rfl rfl ?_
 refine CW_ret ?_
 rw [hel]
 exact End_ret (⟨some ⟨k0, 0, none⟩, es.length + 1, 2⟩, F) (.tmp rfl rfl .nil) rfl (.sel (.cons .h .nil))
theorem g_slices_Insert_int_int_ok (a_s : List (List Int)) (v0_0 : Sv) (F0_0 : List Nat) (a_i : Int) (a_v : List (List Int)) (v2_0 : Sv) (F2_0 : List Nat) (R : List (List Int)) (hF : g_slices_Insert_int_int a_s a_i a_v = some R) :
   Fw.Spec Tryz.prog 212 [v0_0.v, .int .i64 a_i, v2_0.v] [cown (OwnS 22 (OwnS 3 (roE rdInt))) F0_0 v0_0.v a_s, cown (OwnS 22 (OwnS 3 (roE rdInt))) F2_0 v2_0.v a_v] (fun p : Sv × List Nat => p.1.v) (fun p => [cown (OwnS 22 (OwnS 3 (roE rdInt))) p.2 p.1.v R]) := by
 unfold g_slices_Insert_int_int at hF
 rcases a_v with _ | ⟨a, _ | ⟨_, _⟩⟩
 · simp at hF
 · dsimp only at hF
   split at hF
   · rename_i h
     obtain ⟨h0, h1, h2⟩ := h
     obtain ⟨i, rfl⟩ : ∃ i : Nat, a_i = (i : Int) := ⟨a_i.toNat, by omega⟩
     cases hF
     rw [Int.toNat_natCast] at h1 ⊢
     exact Spec_insD (s := 1) fun es e Fa Fb hl => g_slices_Insert_int_int_raw es e v0_0 v2_0 Fa Fb i (by omega) (by omega)
   · simp at hF
 · simp at hF
def i_addedTuple (a_l : List (List Int)) (a_t : List Int) : Option ((List (List Int))) :=
 (i_hasTuple a_l a_t).bind fun r2 =>
 if r2 then (
   some a_l)
 else (
   (g_slices_IndexFunc_int_int_iaddedTuple1 a_l a_t).bind fun r5 =>
   if (decide ((r5 : Int) < 0)) then (
     (g_slices_Clone_int_int a_t).bind fun r8 =>
     (g_slices_Insert_int_int a_l (a_l.length : Int) ([r8] : List (List Int))).bind fun r12 =>
     some r12)
   else (
     (g_slices_Clone_int_int a_t).bind fun r15 =>
     (g_slices_Insert_int_int a_l r5 ([r15] : List (List Int))).bind fun r19 =>
     some r19))
theorem i_addedTuple_ok (a_l : List (List Int)) (v0_0 : Sv) (F0_0 : List Nat) (a_t : List Int) (v1_0 : Sv) (R : (List (List Int))) (hF : i_addedTuple a_l a_t = some R) :
   Fw.Spec Tryz.prog 156 [v0_0.v, v1_0.v] [cown (OwnS 22 (OwnS 3 (roE rdInt))) F0_0 v0_0.v a_l, crd (RdS 3 rdInt) v1_0.v a_t] (fun p : Sv × List Nat => p.1.v) (fun p => [cown (OwnS 22 (OwnS 3 (roE rdInt))) p.2 p.1.v R]) := by
 refine Se 23 Tryz.func156 [.tmp 4] ?_
 intro H0 F0
 unfold i_addedTuple at hF
 refine au ?_
 refine AbR (fun k1 => ?_)
 iterate 6 refine au ?_
 refine bnd hF fun r2 hx3 hF => C_x1 (.cons (.t .h) (.rd (.t .h) rfl .nil)) (XC_bor frz_own (fun _ => .nil) (X_callS cf209.h (.cons (.tmp rfl rfl) (.cons (.tmp rfl rfl) .nil)) (i_hasTuple_ok a_l v0_0 a_t v1_0 _ hx3))) (fun _ => ?_)
 refine au ?_
 refine Ci hF (fun hb23 hF => ?_) (fun hb23 hF => ?_)
 · iterate 5 refine au ?_
   cases hF
   exact Er (v0_0, F0_0)
 iterate 3 refine au ?_
 refine C_val (V_makeFunc (fn := .func 211) (vs := []) (us := [(pz k1)]) .nil (.cons (.tmp rfl rfl) .nil)) ?_
 refine bnd hF fun r5 hx6 hF => C_x1 (.cons .h (.rd .h rfl (.rd (.t .h) rfl .nil))) (XC_bor frz_own (fun _ => .nil) (X_callS cf210.h (.cons (.tmp rfl rfl) (.cons (.tmp rfl rfl) .nil)) (g_slices_IndexFunc_int_int_iaddedTuple1_ok a_l v0_0 k1 a_t v1_0 _ hx6))) (fun _ => ?_)
 iterate 7 refine au ?_
 refine Ci hF (fun hb22 hF => ?_) (fun hb22 hF => ?_)
 · iterate 9 refine au ?_
   refine bnd hF fun r8 hx9 hF => Cx1 (g_slices_Clone_int_int_ok _ _ _ hx9) (fun p10 => ?_)
   refine C_new rfl (N_buildSliceT (g := true) sl139.h ty22.h (.cons (.tmp rfl rfl) .nil) (vs := [p10.1.v]) rfl rfl rfl (by intro v hv; simp at hv; rcases hv with rfl <;> rfl)) (fun k11 => ?_)
   refine Cv1 (.cons .h (.cons .h .nil)) (own_lit (Ro := (OwnS 3 (roE rdInt))) (E := 22) (F := (p10.2 ++ [])) (xs := ([r8] : List (List Int))) (MkL_cons Mk_own MkL_nil apps) rfl rfl) ?_
   refine bnd hF fun r12 hx13 hF => Cx1 (g_slices_Insert_int_int_ok _ _ _ _ _ (⟨(some ⟨k11, 0, none⟩), 1, 1⟩) _ _ hx13) (fun p14 => ?_)
   iterate 3 refine au ?_
   cases hF
   exact Er (p14.1, p14.2)
 iterate 5 refine au ?_
 refine bnd hF fun r15 hx16 hF => Cx1 (g_slices_Clone_int_int_ok _ _ _ hx16) (fun p17 => ?_)
 refine C_new rfl (N_buildSliceT (g := true) sl139.h ty22.h (.cons (.tmp rfl rfl) .nil) (vs := [p17.1.v]) rfl rfl rfl (by intro v hv; simp at hv; rcases hv with rfl <;> rfl)) (fun k18 => ?_)
 refine Cv1 (.cons .h (.cons .h .nil)) (own_lit (Ro := (OwnS 3 (roE rdInt))) (E := 22) (F := (p17.2 ++ [])) (xs := ([r15] : List (List Int))) (MkL_cons Mk_own MkL_nil apps) rfl rfl) ?_
 refine bnd hF fun r19 hx20 hF => Cx1 (g_slices_Insert_int_int_ok _ _ _ _ _ (⟨(some ⟨k18, 0, none⟩), 1, 1⟩) _ _ hx20) (fun p21 => ?_)
 iterate 3 refine au ?_
 cases hF
 exact Er (p21.1, p21.2)
def i_removals_L2 (a_s : List Int) (a_l : List Method) (a_list : List Told) (r11 : (List Int) × Bool) (c17 : List (List Int)) (c20 : Int) : List Told → Nat → (List Int) → Option ((List (List Int)))
 | [], k38, c32 => (bif (((c32.length : Int) : Int) == (r11.1.length : Int)) then ((i_removals_1 c32 a_s a_l a_list).bind fun r50 =>
       some r50)
     else (some false)).bind fun o47 =>
   match o47 with
   | c53 => if c53 then (
       (i_addedTuple c17 c32).bind fun r54 =>
       some r54)
     else (
       some c17)
 | x40 :: rest39, k38, c32 => ((shrI .i64 c20 (k38 : Int)).bind fun x61 =>
     if (((andI .i64 x61 1) : Int) == 1) then (
       (app c32 ([(k38 : Int)] : List Int)).bind fun z64 =>
       some z64)
     else (
       some c32)).bind fun o59 =>
   match o59 with
   | c68 => i_removals_L2 a_s a_l a_list r11 c17 c20 rest39 (k38 + 1) c68
def i_removals_L1 (a_s : List Int) (a_l : List Method) (a_list : List Told) (r11 : (List Int) × Bool) (x15 : Int) : Nat → (List (List Int)) → Int → Option ((List (List Int)) × Bool)
 | 0, _, _ => none
 | m21 + 1, c17, c20 => if (decide ((c20 : Int) < x15)) then (
     (i_removals_L2 a_s a_l a_list r11 c17 c20 a_list 0 ([] : List Int)).bind fun o29 =>
     match o29 with
     | c73 => i_removals_L1 a_s a_l a_list r11 x15 m21 c73 (IntKind.i64.wrap (c20 + 1)))
   else (
     some (c17, true))
def i_removals (a_s : List Int) (a_l : List Method) (a_list : List Told) : Option ((List (List Int)) × Bool) :=
 ((i_AreMethods a_s a_l).bind fun r6 =>
   bif (!r6) then (some true)
   else (some (decide ((8 : Int) < (a_list.length : Int))))).bind fun o4 =>
 match o4 with
 | c10 => if c10 then (
     some ([], false))
   else (
     (i_smallest_iremovals1 (a_list.length : Int) a_s a_l a_list).bind fun r11 =>
     if (!r11.2) then (
       some ([], false))
     else (
       (shlI .i64 1 (a_list.length : Int)).bind fun x15 =>
       i_removals_L1 a_s a_l a_list r11 x15 ((x15 - 0).toNat + 2) ([] : List (List Int)) 0))
theorem i_removals_ok (a_s : List Int) (v0_0 : Sv) (a_l : List Method) (v1_0 : Sv) (a_list : List Told) (v2_0 : Sv) (R : (List (List Int)) × Bool) (hF : i_removals a_s a_l a_list = some R) :
   Fw.Spec Tryz.prog 97 [v0_0.v, v1_0.v, v2_0.v] [crd (RdS 3 rdInt) v0_0.v a_s, crd (RdS 86 rd86) v1_0.v a_l, crd (RdS 90 rd90) v2_0.v a_list] (fun p : Sv × List Nat => (.tuple [p.1.v, (.bool R.2)].toArray)) (fun p => [cown (OwnS 22 (OwnS 3 (roE rdInt))) p.2 p.1.v R.1]) := by
 refine Se 72 Tryz.func97 [.tmp 6, .tmp 7] ?_
 intro H0 F0
 unfold i_removals at hF
 refine au ?_
 refine AbR (fun k1 => ?_)
 refine AbR (fun k2 => ?_)
 refine AbR (fun k3 => ?_)
 iterate 4 refine au ?_
 obtain ⟨o4, hio4, hO5⟩ := bind_some hF
 refine au ?_
 refine C_cut (fun f' cs' => ∃ (c10 : Bool) (g : Fr), c10 = o4 ∧ f' = updL g [(3, (pz k1)), (4, (pz k2)), (5, (pz k3)), (23, (.bool c10))] ∧ Ent cs' [cboR k1 22 v0_0.v, crd (RdS 3 rdInt) v0_0.v a_s, cboR k2 29 v1_0.v, crd (RdS 86 rd86) v1_0.v a_l, cboR k3 31 v2_0.v, crd (RdS 90 rd90) v2_0.v a_list]) ?_ ?_
 · replace hF := hio4
   iterate 2 refine au ?_
   refine bnd hF fun r6 hx7 hF => Cx0 (i_AreMethods_ok _ _ _ _ _ hx7) (fun _ => ?_)
   iterate 2 refine au ?_
   rcases Bool.eq_false_or_eq_true (!r6) with hg9 | hg9
   · rw [hg9]
     try rw [hg9] at hF; dsimp only [cond_true, cond_false] at hF
     iterate 5 refine au ?_
     cases hF
     exact ⟨_, _, rfl, eqA, entA⟩
   rw [hg9]
   try rw [hg9] at hF; dsimp only [cond_true, cond_false] at hF
   iterate 8 refine au ?_
   cases hF
   exact ⟨_, _, rfl, eqA, entA⟩
 rintro _ _ ⟨c10, g80, rfl, rfl, hE⟩
 replace hF := hO5
 try dsimp only at hF
 refine K_ent hE ?_
 refine Ci hF (fun hb79 hF => ?_) (fun hb79 hF => ?_)
 · iterate 5 refine au ?_
   cases hF
   exact End_ret (⟨none, 0, 0⟩, []) (.tmp rfl rfl (.tmp rfl rfl .nil)) rfl (.conv .nil (own_nil (Ro := (OwnS 3 (roE rdInt))) (E := 22)) (.cons .nil) (.sel (.cons .h .nil)))
 iterate 2 refine au ?_
 refine C_val (V_makeFunc (fn := .func 152) (vs := []) (us := [(pz k1), (pz k2), (pz k3)]) .nil (.cons (.tmp rfl rfl) (.cons (.tmp rfl rfl) (.cons (.tmp rfl rfl) .nil)))) ?_
 iterate 6 refine au ?_
 refine bnd hF fun r11 hx12 hF => Cx1 (i_smallest_iremovals1_ok _ _ _ _ _ _ _ _ _ _ _ hx12) (fun p13 => ?_)
 refine au ?_
 refine C_val (V_extract (l := [p13.1.v, (.bool r11.2)]) (v := p13.1.v) (.tmp rfl rfl) rfl) ?_
 refine C_val (V_extract (l := [p13.1.v, (.bool r11.2)]) (v := (.bool r11.2)) (.tmp rfl rfl) rfl) ?_
 iterate 8 refine au ?_
 refine Ci hF (fun hb78 hF => ?_) (fun hb78 hF => ?_)
 · iterate 5 refine au ?_
   cases hF
   exact End_ret (⟨none, 0, 0⟩, []) (.tmp rfl rfl (.tmp rfl rfl .nil)) rfl (.conv .nil (own_nil (Ro := (OwnS 3 (roE rdInt))) (E := 22)) (.cons .nil) (.sel (.cons .h .nil)))
 iterate 2 refine au ?_
 refine C_new rfl (N_buildSliceT (g := true) sl139.h ty22.h .nil (vs := []) rfl rfl rfl (by simp)) (fun k14 => ?_)
 refine Cv1 (.cons .h .nil) (own_lit (Ro := (OwnS 3 (roE rdInt))) (E := 22) (F := []) (xs := ([] : List (List Int))) MkL_nil rfl rfl) ?_
 iterate 6 refine au ?_
 refine bnd hF fun x15 hx16 hF => C_val (V_shl (i := 1) (j := (a_list.length : Int)) (.int _ _) (.tmp rfl rfl) hx16) ?_
 iterate 2 refine au ?_
 refine CW_block (CW_loop (m := ((x15 - 0).toNat + 2)) (fun m21 f' cs' => ∃ (g : Fr) (c17 : List (List Int)) (c20 : Int) (v18 : Sv) (F19 : List Nat), f' = updL g [(5, (pz k3)), (8, (.func (.func 152) [].toArray [(pz k1), (pz k2), (pz k3)].toArray)), (9, p13.1.v), (11, v18.v), (37, (.int .i64 x15)), (38, (.int .i64 c20))] ∧ Ent cs' [cboR k3 31 v2_0.v, crd (RdS 90 rd90) v2_0.v a_list, cboR k1 22 v0_0.v, crd (RdS 3 rdInt) v0_0.v a_s, cboR k2 29 v1_0.v, crd (RdS 86 rd86) v1_0.v a_l, cown (OwnS 3 (roE rdInt)) p13.2 p13.1.v r11.1, cown (OwnS 22 (OwnS 3 (roE rdInt))) F19 v18.v c17] ∧ i_removals_L1 a_s a_l a_list r11 x15 m21 c17 c20 = some R) ⟨_, _, _, ⟨(some ⟨k14, 0, none⟩), 0, 1⟩, (k14 :: []), eqA, entA, hF⟩ ?_)
 rintro m21 _ _ ⟨g22, c17, c20, v18, F19, rfl, hE, hF⟩
 refine K_ent hE ?_
 rcases m21 with _ | m21
 · rw [i_removals_L1] at hF
   exact absurd hF (by simp)
 rw [i_removals_L1] at hF
 iterate 4 refine au ?_
 refine Ci hF (fun hb77 hF => ?_) (fun hb77 hF => ?_)
 · refine au ?_
   obtain ⟨o29, hio29, hO30⟩ := bind_some hF
   refine K_cut (fun f' cs' => ∃ (c73 : List (List Int)) (v74 : Sv) (F75 : List Nat) (g : Fr), c73 = o29 ∧ f' = updL g [(5, (pz k3)), (8, (.func (.func 152) [].toArray [(pz k1), (pz k2), (pz k3)].toArray)), (9, p13.1.v), (11, v74.v), (37, (.int .i64 x15)), (38, (.int .i64 c20))] ∧ Ent cs' [cboR k3 31 v2_0.v, crd (RdS 90 rd90) v2_0.v a_list, cboR k1 22 v0_0.v, crd (RdS 3 rdInt) v0_0.v a_s, cboR k2 29 v1_0.v, crd (RdS 86 rd86) v1_0.v a_l, cown (OwnS 3 (roE rdInt)) p13.2 p13.1.v r11.1, cown (OwnS 22 (OwnS 3 (roE rdInt))) F75 v74.v c73]) ?_ ?_
   · replace hF := hio29
     refine CW_block (K_region (Cm (.int .i64 c20) rfl rfl ?_))
     iterate 3 refine au ?_
     refine C_new rfl (N_buildSliceT (g := true) sl22.h ty3.h .nil (vs := []) rfl rfl rfl (by simp)) (fun k31 => ?_)
     refine Cv1 (.cons .h .nil) (own_lit (Ro := (roE rdInt)) (E := 3) (F := []) (xs := ([] : List Int)) MkL_nil rfl rfl) ?_
     iterate 8 refine au ?_
     refine CW_block (CW_loop (m := a_list.length) (fun m36 f' cs' => ∃ (g : Fr) (k38 : Nat) (rest39 : List Told) (c32 : List Int) (v33 : Sv) (F34 : List Nat), m36 = rest39.length ∧ f' = updL g [(5, (pz k3)), (8, (.func (.func 152) [].toArray [(pz k1), (pz k2), (pz k3)].toArray)), (9, p13.1.v), (11, v18.v), (12, (.int .i64 c20)), (13, v33.v), (37, (.int .i64 x15)), (38, (.int .i64 c20)), (43, (.int .i64 (a_list.length : Int))), (44, (.int .i64 (k38 : Int)))] ∧ List.drop k38 a_list = rest39 ∧ Ent cs' [cboR k3 31 v2_0.v, crd (RdS 90 rd90) v2_0.v a_list, cboR k1 22 v0_0.v, crd (RdS 3 rdInt) v0_0.v a_s, cboR k2 29 v1_0.v, crd (RdS 86 rd86) v1_0.v a_l, cown (OwnS 3 (roE rdInt)) p13.2 p13.1.v r11.1, cown (OwnS 22 (OwnS 3 (roE rdInt))) F19 v18.v c17, cown (OwnS 3 (roE rdInt)) F34 v33.v c32] ∧ i_removals_L2 a_s a_l a_list r11 c17 c20 rest39 k38 c32 = some o29) ⟨_, 0, _, _, ⟨(some ⟨k31, 0, none⟩), 0, 1⟩, (k31 :: []), rfl, eqA, rfl, entA, hF⟩ ?_)
     rintro m36 _ _ ⟨g37, k38, rest39, c32, v33, F34, rfl, rfl, hd41, hE, hF⟩
     refine Kb hE a_list (fun hbd46 => ?_)
     rcases rest39 with _ | ⟨x40, rest39⟩
     · have hk42 := dn hd41
       rw [i_removals_L2] at hF
       iterate 4 refine au ?_
       refine CdF ?_
       iterate 4 refine au ?_
       obtain ⟨o47, hio47, hO48⟩ := bind_some hF
       refine au ?_
       refine C_cut (fun f' cs' => ∃ (c53 : Bool) (g : Fr), c53 = o47 ∧ f' = updL g [(5, (pz k3)), (8, (.func (.func 152) [].toArray [(pz k1), (pz k2), (pz k3)].toArray)), (9, p13.1.v), (11, v18.v), (13, v33.v), (37, (.int .i64 x15)), (38, (.int .i64 c20)), (66, (.bool c53))] ∧ Ent cs' [cboR k3 31 v2_0.v, crd (RdS 90 rd90) v2_0.v a_list, cboR k1 22 v0_0.v, crd (RdS 3 rdInt) v0_0.v a_s, cboR k2 29 v1_0.v, crd (RdS 86 rd86) v1_0.v a_l, cown (OwnS 3 (roE rdInt)) p13.2 p13.1.v r11.1, cown (OwnS 22 (OwnS 3 (roE rdInt))) F19 v18.v c17, cown (OwnS 3 (roE rdInt)) F34 v33.v c32]) ?_ ?_
       · replace hF := hio47
         iterate 6 refine au ?_
         rcases Bool.eq_false_or_eq_true (((c32.length : Int) : Int) == (r11.1.length : Int)) with hg49 | hg49
         · rw [hg49]
           try rw [hg49] at hF; dsimp only [cond_true, cond_false] at hF
           iterate 5 refine au ?_
           refine bnd hF fun r50 hx51 hF => C_x1 (.cons (.t (.t (.t (.t (.t (.t (.t (.t .h)))))))) (.rd (.t (.t .h)) rfl (.rd (.t (.t (.t .h))) rfl (.rd (.t (.t (.t (.t .h)))) rfl (.rd (.t (.t (.t (.t (.t .h))))) rfl (.rd .h rfl (.rd (.t .h) rfl .nil))))))) (XC_bor frz_own (fun _ => .nil) (X_callCS cf152.h (.tmp rfl rfl) (.cons (.tmp rfl rfl) .nil) (i_removals_1_ok c32 v33 k1 a_s v0_0 k2 a_l v1_0 k3 a_list v2_0 _ hx51))) (fun _ => ?_)
           iterate 2 refine au ?_
           cases hF
           exact ⟨_, _, rfl, eqA, entA⟩
         rw [hg49]
         try rw [hg49] at hF; dsimp only [cond_true, cond_false] at hF
         iterate 5 refine au ?_
         cases hF
         exact ⟨_, _, rfl, eqA, entA⟩
       rintro _ _ ⟨c53, g58, rfl, rfl, hE⟩
       replace hF := hO48
       try dsimp only at hF
       refine K_ent hE ?_
       refine Ci hF (fun hb57 hF => ?_) (fun hb57 hF => ?_)
       · refine K_frz (.t (.t (.t (.t (.t (.t (.t (.t .h)))))))) frz_own ?_
         iterate 3 refine au ?_
         refine bnd hF fun r54 hx55 hF => Cx1 (i_addedTuple_ok _ _ _ _ _ _ hx55) (fun p56 => ?_)
         iterate 2 refine au ?_
         cases hF
         exact ⟨_, p56.1, p56.2, _, rfl, eqA, entA⟩
       refine au ?_
       cases hF
       exact ⟨_, v18, F19, _, rfl, eqA, entA⟩
     obtain ⟨hk42, hx43, hd44⟩ := drop_cons hd41
     rw [i_removals_L2] at hF
     iterate 4 refine au ?_
     refine CdT ?_
     refine au ?_
     obtain ⟨o59, hio59, hO60⟩ := bind_some hF
     refine K_cut (fun f' cs' => ∃ (c68 : List Int) (v69 : Sv) (F70 : List Nat) (g : Fr), c68 = o59 ∧ f' = updL g [(5, (pz k3)), (8, (.func (.func 152) [].toArray [(pz k1), (pz k2), (pz k3)].toArray)), (9, p13.1.v), (11, v18.v), (12, (.int .i64 c20)), (13, v69.v), (37, (.int .i64 x15)), (38, (.int .i64 c20)), (43, (.int .i64 (a_list.length : Int))), (44, (.int .i64 (k38 : Int)))] ∧ Ent cs' [cboR k3 31 v2_0.v, crd (RdS 90 rd90) v2_0.v a_list, cboR k1 22 v0_0.v, crd (RdS 3 rdInt) v0_0.v a_s, cboR k2 29 v1_0.v, crd (RdS 86 rd86) v1_0.v a_l, cown (OwnS 3 (roE rdInt)) p13.2 p13.1.v r11.1, cown (OwnS 22 (OwnS 3 (roE rdInt))) F19 v18.v c17, cown (OwnS 3 (roE rdInt)) F70 v69.v c68]) ?_ ?_
     · replace hF := hio59
       refine CW_block (K_region (Cm (.int .i64 (k38 : Int)) rfl rfl ?_))
       iterate 5 refine au ?_
       refine bnd hF fun x61 hx62 hF => C_val (V_shr (i := c20) (j := (k38 : Int)) (.tmp rfl rfl) (.tmp rfl rfl) hx62) ?_
       refine C_val (V_and (i := x61) (j := 1) (.tmp rfl rfl) (.int _ _)) ?_
       iterate 2 refine au ?_
       refine Ci hF (fun hb67 hF => ?_) (fun hb67 hF => ?_)
       · iterate 3 refine au ?_
         refine C_new rfl (N_buildSliceT (g := true) sl22.h ty3.h (.cons (.tmp rfl rfl) .nil) (vs := [(.int .i64 (k38 : Int))]) rfl rfl rfl (by intro v hv; simp at hv; rcases hv with rfl <;> rfl)) (fun k63 => ?_)
         refine Cv1 (.cons .h .nil) (own_lit (Ro := (roE rdInt)) (E := 3) (F := ([] ++ [])) (xs := ([(k38 : Int)] : List Int)) (MkL_cons (Mk_pure (fun _ => rfl)) MkL_nil apps) rfl rfl) ?_
         refine bnd hF fun z64 hx65 hF => C_x1 (.cons (.t (.t (.t (.t (.t (.t (.t (.t (.t .h))))))))) (.cons .h .nil)) (X_appendO (Ro := (roE rdInt)) sl22.h ni22 ty3.h rfl rfl rfl (.tmp rfl rfl) (.tmp rfl rfl) hx65 src_own) (fun p66 => ?_)
         iterate 2 refine au ?_
         cases hF
         exact ⟨_, p66.1, p66.2, _, rfl, eqA, entA⟩
       refine au ?_
       cases hF
       exact ⟨_, v33, F34, _, rfl, eqA, entA⟩
     rintro _ _ ⟨c68, v69, F70, g72, rfl, rfl, hE⟩
     replace hF := hO60
     try dsimp only at hF
     refine K_ent hE ?_
     iterate 4 refine au ?_
     rw [wk k38]
     exact ⟨_, Nat.lt_succ_self _, _, k38 + 1, rest39, _, v69, F70, rfl, eqA, hd44, entA, hF⟩
   rintro _ _ ⟨c73, v74, F75, g76, rfl, rfl, hE⟩
   replace hF := hO30
   try dsimp only at hF
   refine K_ent hE ?_
   iterate 4 refine au ?_
   exact ⟨m21, Nat.lt_succ_self _, _, _, _, v74, F75, eqA, entA, hF⟩
 iterate 10 refine au ?_
 cases hF
 exact Er (v18, F19)
def i_SmallestRemoval (a_s : List Int) (a_l : List Method) (a_list : List Told) : Option ((List Int) × Bool) :=
 (i_removals a_s a_l a_list).bind fun r1 =>
 if (!r1.2) then (
   some ([], false))
 else (
   (ix r1.1 0).bind fun x4 =>
   some (x4, true))
theorem i_SmallestRemoval_ok (a_s : List Int) (v0_0 : Sv) (a_l : List Method) (v1_0 : Sv) (a_list : List Told) (v2_0 : Sv) (R : (List Int) × Bool) (hF : i_SmallestRemoval a_s a_l a_list = some R) :
   Fw.Spec Tryz.prog 40 [v0_0.v, v1_0.v, v2_0.v] [crd (RdS 3 rdInt) v0_0.v a_s, crd (RdS 86 rd86) v1_0.v a_l, crd (RdS 90 rd90) v2_0.v a_list] (fun p : Sv => (.tuple [p.v, (.bool R.2)].toArray)) (fun p => [crd (RdS 3 rdInt) p.v R.1]) := by
 refine Se 22 Tryz.func40 [.tmp 6, .tmp 7] ?_
 intro H0 F0
 unfold i_SmallestRemoval at hF
 iterate 8 refine au ?_
 refine bnd hF fun r1 hx2 hF => Cx1 (i_removals_ok _ _ _ _ _ _ _ hx2) (fun p3 => ?_)
 refine au ?_
 refine C_val (V_extract (l := [p3.1.v, (.bool r1.2)]) (v := p3.1.v) (.tmp rfl rfl) rfl) ?_
 refine C_val (V_extract (l := [p3.1.v, (.bool r1.2)]) (v := (.bool r1.2)) (.tmp rfl rfl) rfl) ?_
 iterate 8 refine au ?_
 refine Ci hF (fun hb11 hF => ?_) (fun hb11 hF => ?_)
 · iterate 5 refine au ?_
   cases hF
   exact End_ret (⟨none, 0, 0⟩) (.tmp rfl rfl (.tmp rfl rfl .nil)) rfl (.conv .nil (rd_nil (R := rdInt) (E := 3)) (.cons .nil) (.sel (.rd .h rfl .nil)))
 refine au ?_
 refine K_frz .h frz_own ?_
 iterate 2 refine au ?_
 refine bnd hF fun x4 hx5 hF => ?_
 obtain ⟨hp6, hx7⟩ := ix_some hx5
 refine Ai hx7 (fun k8 j9 => ?_)
 refine C_ldV (R' := (RdS 3 rdInt)) ag22.h (.tmp rfl rfl) .h lv22_0 (fun w10 => ?_)
 iterate 4 refine au ?_
 cases hF
 exact Er w10
def i_added_1 (a_x : Fact) (a_e1 : Fact) : Option (Bool) :=
 (i_CompareFacts a_x a_e1).bind fun r2 =>
 some (decide ((0 : Int) < r2))
theorem i_added_1_ok (a_x : Fact) (v0_1 : Sv) (kc1 : Nat) (a_e1 : Fact) (vc1_1 : Sv) (R : Bool) (hF : i_added_1 a_x a_e1 = some R) :
   Fw.Spec Tryz.prog 163 [(.agg [(.int .i64 a_x.Rel), v0_1.v].toArray), (pz kc1)] [crd (RdS 3 rdInt) v0_1.v a_x.Values, cboR kc1 129 (.agg [(.int .i64 a_e1.Rel), vc1_1.v].toArray), crd (RdS 3 rdInt) vc1_1.v a_e1.Values] (fun _ : Unit => (.bool R)) (fun _ => []) := by
 refine Se 8 Tryz.func163 [.tmp 3] ?_
 intro H0 F0
 unfold i_added_1 at hF
 refine au ?_
 refine AbR (fun k1 => ?_)
 iterate 5 refine au ?_
 refine bnd hF fun r2 hx3 hF => Cx0 (i_CompareFacts_ok _ _ _ _ _ hx3) (fun _ => ?_)
 iterate 4 refine au ?_
 cases hF
 exact Er ()
def g_slices_IndexFunc_impl_Fact_impl_Fact_iadded1_L1 (a_e1 : Fact) : List Fact → Nat → Option (Int)
 | [], k4 => some (-1)
 | x6 :: rest5, k4 => (i_added_1 x6 a_e1).bind fun r16 =>
   if r16 then (
     some (k4 : Int))
   else (
     g_slices_IndexFunc_impl_Fact_impl_Fact_iadded1_L1 a_e1 rest5 (k4 + 1))
def g_slices_IndexFunc_impl_Fact_impl_Fact_iadded1 (a_s : List Fact) (a_e1 : Fact) : Option (Int) :=
 g_slices_IndexFunc_impl_Fact_impl_Fact_iadded1_L1 a_e1 a_s 0
theorem g_slices_IndexFunc_impl_Fact_impl_Fact_iadded1_ok (a_s : List Fact) (v0_0 : Sv) (kc1 : Nat) (a_e1 : Fact) (vc1_1 : Sv) (R : Int) (hF : g_slices_IndexFunc_impl_Fact_impl_Fact_iadded1 a_s a_e1 = some R) :
   Fw.Spec Tryz.prog 162 [v0_0.v, (.func (.func 163) [].toArray [(pz kc1)].toArray)] [crd (RdS 129 rd129) v0_0.v a_s, cboR kc1 129 (.agg [(.int .i64 a_e1.Rel), vc1_1.v].toArray), crd (RdS 3 rdInt) vc1_1.v a_e1.Values] (fun _ : Unit => (.int .i64 R)) (fun _ => []) := by
 refine Se 19 Tryz.func162 [.tmp 4] ?_
 intro H0 F0
 unfold g_slices_IndexFunc_impl_Fact_impl_Fact_iadded1 at hF
 iterate 9 refine au ?_
 refine CW_block (CW_loop (m := a_s.length) (fun m2 f' cs' => ∃ (g : Fr) (k4 : Nat) (rest5 : List Fact), m2 = rest5.length ∧ f' = updL g [(0, v0_0.v), (1, (.func (.func 163) [].toArray [(pz kc1)].toArray)), (7, (.int .i64 (a_s.length : Int))), (8, (.int .i64 (k4 : Int)))] ∧ List.drop k4 a_s = rest5 ∧ Ent cs' [crd (RdS 129 rd129) v0_0.v a_s, cboR kc1 129 (.agg [(.int .i64 a_e1.Rel), vc1_1.v].toArray), crd (RdS 3 rdInt) vc1_1.v a_e1.Values] ∧ g_slices_IndexFunc_impl_Fact_impl_Fact_iadded1_L1 a_e1 rest5 k4 = some R) ⟨_, 0, _, rfl, eqA, rfl, entA, hF⟩ ?_)
 rintro m2 _ _ ⟨g3, k4, rest5, rfl, rfl, hd7, hE, hF⟩
 refine Kb hE a_s (fun hbd12 => ?_)
 rcases rest5 with _ | ⟨x6, rest5⟩
 · have hk8 := dn hd7
   rw [g_slices_IndexFunc_impl_Fact_impl_Fact_iadded1_L1] at hF
   iterate 4 refine au ?_
   refine CdF ?_
   iterate 8 refine au ?_
   cases hF
   exact Er ()
 obtain ⟨hk8, hx9, hd10⟩ := drop_cons hd7
 rw [g_slices_IndexFunc_impl_Fact_impl_Fact_iadded1_L1] at hF
 iterate 4 refine au ?_
 refine CdT ?_
 iterate 10 refine au ?_
 refine Ai hx9 (fun k13 j14 => ?_)
 refine AlA1 (ul129_0_129 x6) la129_0_129 (fun p15 => ?_)
 refine bnd hF fun r16 hx17 hF => C_x0 (.rd .h rfl (.rd (.t (.t (.t .h))) rfl (.rd (.t (.t (.t (.t .h)))) rfl .nil))) (X_callCS cf163.h (.tmp rfl rfl) (.cons (.tmp rfl rfl) .nil) (i_added_1_ok x6 p15 kc1 a_e1 vc1_1 _ hx17)) (fun _ => ?_)
 refine au ?_
 refine Ci hF (fun hb20 hF => ?_) (fun hb20 hF => ?_)
 · iterate 5 refine au ?_
   cases hF
   exact Er ()
 iterate 5 refine au ?_
 rw [wk k4]
 exact ⟨_, Nat.lt_succ_self _, _, k4 + 1, rest5, rfl, eqA, hd10, entA, hF⟩
def g_slices_Insert_impl_Fact_impl_Fact (a_s : List Fact) (a_i : Int) (a_v : List Fact) : Option (List Fact) :=
 match a_v with
 | [a] => if 0 ≤ a_i ∧ a_i.toNat ≤ a_s.length ∧ a_s.length + 1 < 4294967296 then some (a_s.take a_i.toNat ++ a :: a_s.drop a_i.toNat) else none
 | _ => none
set_option maxHeartbeats 4000000 in
theorem g_slices_Insert_impl_Fact_impl_Fact_raw (es : List Value) (e : Value) (v u : Sv) (F F2 : List Nat) (i : Nat) (hi : i ≤ es.length) (hb : es.length + 1 < 4294967296) : Fw.Spec Tryz.prog 164 [v.v, .int .i64 (i : Int), u.v] [cown (OwnS 129 (roE (rvs 2))) F v.v es, cown (OwnS 129 (roE (rvs 2))) F2 u.v [e]] (fun q : Sv × List Nat => q.1.v) (fun q => [cown (OwnS 129 (roE (rvs 2))) q.2 q.1.v (es.take i ++ e :: es.drop i)]) := by
 refine Spec_enter (n := 95) Tryz.func164 rfl rfl (rs := [.tmp 6]) rfl rfl rfl ?_
 intro H0 F0
 refine K_region ?_
 refine C_val (V_assign (v := (.slice none 0 0)) EV.nilSlice) ?_
 refine C_nil ?_
 refine K_region ?_
 refine C_val (V_move (v := v.v) (.tmp rfl rfl)) ?_
 refine C_val (V_move (v := (.int .i64 (i : Int))) (.tmp rfl rfl)) ?_
 refine C_x1 (.cons .h .nil) (X_sliceLoE sl52.h ty129.h.sz (.tmp rfl rfl) (.tmp rfl rfl) hi) (fun w0 => ?_)
 refine C_nil ?_
 refine K_region ?_
 refine C_val (V_move (v := u.v) (.tmp rfl rfl)) ?_
 refine C_at (.t .h) (fun hp => V_lenR (l := 1) sl52.h (.tmp rfl rfl) (cown_len hp)) ?_
 refine C_val (V_assign (v := (.int .i64 ((1 : Nat) : Int))) (.tmp rfl rfl)) ?_
 refine C_nil ?_
 refine K_in ?_
 refine K_region ?_
 refine C_val (V_move (v := (.int .i64 ((1 : Nat) : Int))) (.tmp rfl rfl)) ?_
 refine C_val (V_eql (i := ((1 : Nat) : Int)) (j := 0) (.tmp rfl rfl) (.int _ _)) ?_
 refine C_nil ?_
 refine CW_cond (b := (((1 : Nat) : Int) == 0)) (.tmp rfl rfl) (fun hb0 => absurd hb0 (by decide)) (fun _ => ?_)
 refine CW_skip ?_
 refine K_region ?_
 refine C_val (V_move (v := v.v) (.tmp rfl rfl)) ?_
 refine C_at .h (fun hp => V_lenR (l := es.length) sl52.h (.tmp rfl rfl) (cown_len hp)) ?_
 refine C_val (V_assign (v := (.int .i64 (es.length : Int))) (.tmp rfl rfl)) ?_
 refine C_nil ?_
 refine K_in ?_
 refine K_region ?_
 refine C_val (V_move (v := (.int .i64 (i : Int))) (.tmp rfl rfl)) ?_
 refine C_val (V_move (v := (.int .i64 (es.length : Int))) (.tmp rfl rfl)) ?_
 refine C_val (V_eql (i := (i : Int)) (j := (es.length : Int)) (.tmp rfl rfl) (.tmp rfl rfl)) ?_
 refine C_nil ?_
 refine CW_cond (b := ((i : Int) == (es.length : Int))) (.tmp rfl rfl) (fun hb1 => ?_) (fun hb1 => ?_)
 · have hie : i = es.length := by simp only [beq_iff_eq] at hb1; omega
   refine K_region ?_
   refine C_val (V_move (v := v.v) (.tmp rfl rfl)) ?_
   refine C_val (V_move (v := u.v) (.tmp rfl rfl)) ?_
   refine C_x1 (.cons .h (.cons .h .nil)) (X_appendO (Ro := (roE (rvs 2))) sl52.h ni52 ty129.h rfl rfl rfl (.tmp rfl rfl) (.tmp rfl rfl) (app_ok (xs := es) (ys := [e]) (by simpa using hb)) src_own) (fun p => ?_)
   refine C_val (V_assign (v := p.1.v) (.tmp rfl rfl)) ?_
   refine C_nil ?_
   refine CW_ret ?_
   rw [hie, List.take_length, List.drop_length]
   exact End_ret p (.tmp rfl rfl .nil) rfl (.sel (.cons .h .nil))
 refine CW_skip ?_
 have hlt : i < es.length := by simp at hb1; omega
 refine K_pure .h (own_form (by intro h; rw [h] at hlt; simp at hlt)) (fun hv => ?_)
 obtain ⟨k0, m0, rfl, hm0⟩ := hv
 refine K_pure (.t .h) (own_form (by simp)) (fun hu => ?_)
 obtain ⟨k1, m1, rfl, hm1⟩ := hu
 refine K_cap (t := 0) (k := k0) (l := es.length) (m := m0) rfl rfl hm0 (by omega) .h rfl (fun c hc => ?_)
 have w1 : IntKind.i64.wrap ((es.length : Int) + ((1 : Nat) : Int)) = ((es.length + 1 : Nat) : Int) := by rw [wrap_in (by omega) (by omega)]; rfl
 have w2 : IntKind.i64.wrap ((i : Int) + ((1 : Nat) : Int)) = ((i + 1 : Nat) : Int) := by rw [wrap_in (by omega) (by omega)]; rfl
 have w3 : IntKind.i64.wrap (((es.length + 1 : Nat) : Int) - (i : Int)) = ((es.length + 1 - i : Nat) : Int) := by rw [wrap_in (by omega) (by omega)]; omega
 have hel : (es.take i ++ e :: es.drop i).length = es.length + 1 := ins_len hi
 refine K_in ?_
 refine K_region ?_
 refine C_val (V_move (v := (.int .i64 (es.length : Int))) (.tmp rfl rfl)) ?_
 refine C_val (V_move (v := (.int .i64 ((1 : Nat) : Int))) (.tmp rfl rfl)) ?_
 refine C_val (V_add (i := (es.length : Int)) (j := ((1 : Nat) : Int)) (.tmp rfl rfl) (.tmp rfl rfl)) ?_
 rw [w1]
 refine C_val (V_move (v := (.slice (some ⟨k0, 0, none⟩) es.length (c + 3))) (.tmp rfl rfl)) ?_
 refine C_at .h (fun hp => V_capO sl52.h hp rfl (.tmp rfl rfl)) ?_
 refine C_val (V_gtr (i := ((es.length + 1 : Nat) : Int)) (j := (c : Int)) (.tmp rfl rfl) (.tmp rfl rfl)) ?_
 refine C_nil ?_
 refine CW_cond (b := (decide ((c : Int) < ((es.length + 1 : Nat) : Int)))) (.tmp rfl rfl) (fun hb2 => ?_) (fun hb2 => ?_)
 · have hcl : c < es.length + 1 := by simp only [decide_eq_true_eq] at hb2; omega
   refine K_region ?_
   refine C_val (V_move (v := (.slice (some ⟨k0, 0, none⟩) es.length (c + 3))) (.tmp rfl rfl)) ?_
   refine C_val (V_move (v := (.int .i64 (i : Int))) (.tmp rfl rfl)) ?_
   refine C_at .h (fun hp => V_sliceCapO (j := i) sl52.h ty129.h.sz hp rfl (.tmp rfl rfl) (.tmp rfl rfl) (by omega)) ?_
   refine C_val (V_move (v := (.int .i64 (es.length : Int))) (.tmp rfl rfl)) ?_
   refine C_val (V_move (v := (.int .i64 ((1 : Nat) : Int))) (.tmp rfl rfl)) ?_
   refine C_val (V_add (i := (es.length : Int)) (j := ((1 : Nat) : Int)) (.tmp rfl rfl) (.tmp rfl rfl)) ?_
   rw [w1]
   refine C_val (V_move (v := (.int .i64 (i : Int))) (.tmp rfl rfl)) ?_
   refine C_val (V_sub (i := ((es.length + 1 : Nat) : Int)) (j := (i : Int)) (.tmp rfl rfl) (.tmp rfl rfl)) ?_
   rw [w3]
   refine C_x2 (.cons .h .nil) (X_appendMake (c := c) (q := es.length + 1 - i) sl52.h ik3 ty129.h rfl rfl rfl rfl rfl rfl (.tmp rfl rfl) (.tmp rfl rfl) (by omega) (by omega) (by omega) (by omega)) (fun k2 => ?_)
   rw [show i + (es.length + 1 - i) = es.length + 1 from by omega]
   refine C_val (V_assign (v := (.slice (some ⟨k2, 0, none⟩) (es.length + 1) 2)) (.tmp rfl rfl)) ?_
   refine C_nil ?_
   refine K_region ?_
   refine C_val (V_move (v := (.slice (some ⟨k2, 0, none⟩) (es.length + 1) 2)) (.tmp rfl rfl)) ?_
   refine C_val (V_move (v := (.int .i64 (i : Int))) (.tmp rfl rfl)) ?_
   refine C_at .h (fun hp => V_sliceLoO (j := i) sl52.h ty129.h.sz hp rfl (.tmp rfl rfl) (.tmp rfl rfl) (by omega)) ?_
   refine C_val (V_move (v := (.slice (some ⟨k1, 0, none⟩) 1 m1)) (.tmp rfl rfl)) ?_
   refine C_x2 (.cons .h (.cons (.t .h) .nil)) (X_copy2 (m1 := 0) (m2 := m1) (ia := i) (ja := 0) (ld := es.length + 1 - i) (ls := 1) (es2 := [e]) (es' := es.take i ++ e :: List.replicate (es.length - i) (.agg [(.int .i64 0), (.slice none 0 0)].toArray)) sl52.h ty129.h.sz rfl rfl rfl (by exact .tmp rfl rfl) (by exact .tmp rfl rfl) (by omega) (by omega) (by rw [List.length_singleton]; omega) (by simp; omega) (ins_l1 (e := e) (z := (.agg [(.int .i64 0), (.slice none 0 0)].toArray)) hlt) (by simp; omega)) (fun _ => ?_)
   refine C_nil ?_
   refine K_draw [0, 1, 2, 3, 4, 5, 6, 7, 8] [0, 0, 0, 6, 15, 0, 0, 96, 255] [8] mixed (by decide +kernel) ?_
   refine D_val rfl .no (fun ha => V_move (v := (.slice (some ⟨k2, 0, none⟩) (es.length + 1) 2)) (EN ha (.tmp rfl rfl) rfl)) ?_
   refine D_val rfl .no (fun ha => V_move (v := (.int .i64 (i : Int))) (EN ha (.tmp rfl rfl) rfl)) ?_
   refine D_val rfl .no (fun ha => V_move (v := (.int .i64 ((1 : Nat) : Int))) (EN ha (.tmp rfl rfl) rfl)) ?_
   refine D_val rfl .no (fun ha => V_add (i := (i : Int)) (j := ((1 : Nat) : Int)) (EN ha (.tmp rfl rfl) rfl) (EN ha (.tmp rfl rfl) rfl)) ?_
   rw [w2]
   refine D_atO rfl .no .h (fun ha hp => V_sliceLoO (j := i + 1) sl52.h ty129.h.sz hp rfl (EN ha (.tmp rfl rfl) rfl) (EN ha (.tmp rfl rfl) rfl) (by omega)) ?_
   refine D_val rfl .no (fun ha => V_move (v := (.slice (some ⟨k0, 0, none⟩) es.length (c + 3))) (EN ha (.tmp rfl rfl) rfl)) ?_
   refine D_val rfl .no (fun ha => V_move (v := (.int .i64 (i : Int))) (EN ha (.tmp rfl rfl) rfl)) ?_
   refine D_atO rfl .no (.t (.t .h)) (fun ha hp => V_sliceLoO (j := i) sl52.h ty129.h.sz hp rfl (EN ha (.tmp rfl rfl) rfl) (EN ha (.tmp rfl rfl) rfl) (by omega)) ?_
   refine D_act2 rfl rfl .no (.cons .h (.cons (.t .h) .nil)) (.dep rfl (.dep rfl .nil)) (fun ha => X_copy2 sl52.h ty129.h.sz rfl rfl rfl (EN ha (.tmp rfl rfl) rfl) (EN ha (.tmp rfl rfl) rfl) (by omega) (by omega) (by omega) (by simp; omega) (ins_l2 (e := e) (z := (.agg [(.int .i64 0), (.slice none 0 0)].toArray)) hlt) (by omega)) (fun _ => ?_)
   refine D_nil ?_
   refine K_region ?_
   refine C_val (V_move (v := (.slice (some ⟨k2, 0, none⟩) (es.length + 1) 2)) (.tmp rfl rfl)) ?_
   refine C_val (V_assign (v := (.slice (some ⟨k2, 0, none⟩) (es.length + 1) 2)) (.tmp rfl rfl)) ?_
   refine C_nil ?_
   refine CW_ret ?_
   rw [hel]
   exact End_ret (⟨some ⟨k2, 0, none⟩, es.length + 1, 2⟩, [k2]) (.tmp rfl rfl .nil) rfl (.sel (.cons .h .nil))
 refine CW_skip ?_
 have hcl : es.length + 1 ≤ c := by simp only [decide_eq_false_iff_not] at hb2; omega
 refine K_region ?_
 refine C_val (V_move (v := (.slice (some ⟨k0, 0, none⟩) es.length (c + 3))) (.tmp rfl rfl)) ?_
 refine C_val (V_move (v := (.int .i64 (es.length : Int))) (.tmp rfl rfl)) ?_
 refine C_val (V_move (v := (.int .i64 ((1 : Nat) : Int))) (.tmp rfl rfl)) ?_
 refine C_val (V_add (i := (es.length : Int)) (j := ((1 : Nat) : Int)) (.tmp rfl rfl) (.tmp rfl rfl)) ?_
 rw [w1]
 refine C_at .h (fun hp => V_sliceCapO (j := es.length + 1) sl52.h ty129.h.sz hp rfl (.tmp rfl rfl) (.tmp rfl rfl) hcl) ?_
 refine C_val (V_assign (v := (.slice (some ⟨k0, 0, none⟩) (es.length + 1) (c + 3))) (.tmp rfl rfl)) ?_
 refine C_nil ?_
 refine K_in ?_
 refine K_region ?_
 refine C_val (V_move (v := (.slice (some ⟨k1, 0, none⟩) 1 m1)) (.tmp rfl rfl)) ?_
 refine C_val (V_move (v := (.slice (some ⟨k0, 0, none⟩) (es.length + 1) (c + 3))) (.tmp rfl rfl)) ?_
 refine C_val (V_move (v := (.int .i64 (i : Int))) (.tmp rfl rfl)) ?_
 refine C_val (V_move (v := (.int .i64 ((1 : Nat) : Int))) (.tmp rfl rfl)) ?_
 refine C_val (V_add (i := (i : Int)) (j := ((1 : Nat) : Int)) (.tmp rfl rfl) (.tmp rfl rfl)) ?_
 rw [w2]
 refine C_at .h (fun hp => V_sliceLoO (j := i + 1) sl52.h ty129.h.sz hp rfl (.tmp rfl rfl) (.tmp rfl rfl) (by omega)) ?_
 refine C_x2 (.cons (.t .h) (.cons .h .nil)) (X_overlaps sl52.h ty129.h.sz rfl hov218 rfl rfl (.tmp rfl rfl) (.tmp rfl rfl) (by omega) (by omega)) (fun _ => ?_)
 refine C_val (V_not (b := false) (.tmp rfl rfl)) ?_
 refine C_nil ?_
 refine CW_cond (b := (!false)) (.tmp rfl rfl) (fun _ => ?_) (fun h => absurd h (by decide))
 refine K_draw [0, 1, 2, 3, 4, 5, 6, 7, 8] [0, 0, 0, 6, 15, 0, 0, 96, 255] [8] mixed (by decide +kernel) ?_
 refine D_val rfl .no (fun ha => V_move (v := (.slice (some ⟨k0, 0, none⟩) (es.length + 1) (c + 3))) (EN ha (.tmp rfl rfl) rfl)) ?_
 refine D_val rfl .no (fun ha => V_move (v := (.int .i64 (i : Int))) (EN ha (.tmp rfl rfl) rfl)) ?_
 refine D_val rfl .no (fun ha => V_move (v := (.int .i64 ((1 : Nat) : Int))) (EN ha (.tmp rfl rfl) rfl)) ?_
 refine D_val rfl .no (fun ha => V_add (i := (i : Int)) (j := ((1 : Nat) : Int)) (EN ha (.tmp rfl rfl) rfl) (EN ha (.tmp rfl rfl) rfl)) ?_
 rw [w2]
 refine D_atO rfl .no (.t .h) (fun ha hp => V_sliceLoO (j := i + 1) sl52.h ty129.h.sz hp rfl (EN ha (.tmp rfl rfl) rfl) (EN ha (.tmp rfl rfl) rfl) (by omega)) ?_
 refine D_val rfl .no (fun ha => V_move (v := (.slice (some ⟨k0, 0, none⟩) (es.length + 1) (c + 3))) (EN ha (.tmp rfl rfl) rfl)) ?_
 refine D_val rfl .no (fun ha => V_move (v := (.int .i64 (i : Int))) (EN ha (.tmp rfl rfl) rfl)) ?_
 refine D_atO rfl .no (.t .h) (fun ha hp => V_sliceLoO (j := i) sl52.h ty129.h.sz hp rfl (EN ha (.tmp rfl rfl) rfl) (EN ha (.tmp rfl rfl) rfl) (by omega)) ?_
 refine D_act1 rfl rfl .no (.cons (.t .h) .nil) (.dep rfl (.dep rfl .nil)) (fun ha => X_copyS sl52.h ty129.h.sz rfl rfl (EN ha (.tmp rfl rfl) rfl) (EN ha (.tmp rfl rfl) rfl) (by omega) (by omega) (by omega) (by omega) (ins_l3 hlt) (by simp; omega)) (fun _ => ?_)
 refine D_nil ?_
 refine K_region ?_
 refine C_val (V_move (v := (.slice (some ⟨k0, 0, none⟩) (es.length + 1) (c + 3))) (.tmp rfl rfl)) ?_
 refine C_val (V_move (v := (.int .i64 (i : Int))) (.tmp rfl rfl)) ?_
 refine C_at .h (fun hp => V_sliceLoO (j := i) sl52.h ty129.h.sz hp rfl (.tmp rfl rfl) (.tmp rfl rfl) (by omega)) ?_
 refine C_val (V_move (v := (.slice (some ⟨k1, 0, none⟩) 1 m1)) (.tmp rfl rfl)) ?_
 refine C_x2 (.cons .h (.cons .h .nil)) (X_copy2 (m1 := 0) (m2 := m1) (ia := i) (ja := 0) (ld := es.length + 1 - i) (ls := 1) (es2 := [e]) (es' := es.take i ++ e :: es.drop i) sl52.h ty129.h.sz rfl rfl rfl (by exact .tmp rfl rfl) (by exact .tmp rfl rfl) (by omega) (by omega) (by rw [List.length_singleton]; omega) (by simp; omega) (ins_l4 (e := e) hlt) (by omega)) (fun _ => ?_)
 refine C_nil ?_
 refine K_region ?_
 refine C_val (V_move (v := (.slice (some ⟨k0, 0, none⟩) (es.length + 1) (c + 3))) (.tmp rfl rfl)) ?_
 refine C_val (V_assign (v := (.slice (some ⟨k0, 0, none⟩) (es.length + 1) (c + 3))) (.tmp rfl rfl)) ?_
 refine C_nil ?_
 refine K_uncap (t := 6) (k := k0) (l := es.length + 1) (c := c) rfl rfl ?_
 refine CW_ret ?_
 rw [hel]
 exact End_ret (⟨some ⟨k0, 0, none⟩, es.length + 1, 2⟩, F) (.tmp rfl rfl .nil) rfl (.sel (.cons .h .nil))
theorem g_slices_Insert_impl_Fact_impl_Fact_ok (a_s : List Fact) (v0_0 : Sv) (F0_0 : List Nat) (a_i : Int) (a_v : List Fact) (v2_0 : Sv) (F2_0 : List Nat) (R : List Fact) (hF : g_slices_Insert_impl_Fact_impl_Fact a_s a_i a_v = some R) :
   Fw.Spec Tryz.prog 164 [v0_0.v, .int .i64 a_i, v2_0.v] [cown (OwnS 129 ow129) F0_0 v0_0.v a_s, cown (OwnS 129 ow129) F2_0 v2_0.v a_v] (fun p : Sv × List Nat => p.1.v) (fun p => [cown (OwnS 129 ow129) p.2 p.1.v R]) := by
 unfold g_slices_Insert_impl_Fact_impl_Fact at hF
 rcases a_v with _ | ⟨a, _ | ⟨_, _⟩⟩
 · simp at hF
 · dsimp only at hF
   split at hF
   · rename_i h
     obtain ⟨h0, h1, h2⟩ := h
     obtain ⟨i, rfl⟩ : ∃ i : Nat, a_i = (i : Int) := ⟨a_i.toNat, by omega⟩
     cases hF
     rw [Int.toNat_natCast] at h1 ⊢
     exact Spec_insD (s := 2) fun es e Fa Fb hl => g_slices_Insert_impl_Fact_impl_Fact_raw es e v0_0 v2_0 Fa Fb i (by omega) (by omega)
   · simp at hF
 · simp at hF
def i_added (a_l : List Fact) (a_f : Fact) : Option ((List Fact)) :=
 (i_HasFact a_l a_f).bind fun r2 =>
 if r2 then (
   some a_l)
 else (
   (g_slices_IndexFunc_impl_Fact_impl_Fact_iadded1 a_l a_f).bind fun r5 =>
   if (decide ((r5 : Int) < 0)) then (
     (i_copyFact a_f).bind fun r8 =>
     (g_slices_Insert_impl_Fact_impl_Fact a_l (a_l.length : Int) ([r8] : List Fact)).bind fun r12 =>
     some r12)
   else (
     (i_copyFact a_f).bind fun r15 =>
     (g_slices_Insert_impl_Fact_impl_Fact a_l r5 ([r15] : List Fact)).bind fun r19 =>
     some r19))
theorem i_added_ok (a_l : List Fact) (v0_0 : Sv) (F0_0 : List Nat) (a_f : Fact) (v1_1 : Sv) (R : (List Fact)) (hF : i_added a_l a_f = some R) :
   Fw.Spec Tryz.prog 100 [v0_0.v, (.agg [(.int .i64 a_f.Rel), v1_1.v].toArray)] [cown (OwnS 129 ow129) F0_0 v0_0.v a_l, crd (RdS 3 rdInt) v1_1.v a_f.Values] (fun p : Sv × List Nat => p.1.v) (fun p => [cown (OwnS 129 ow129) p.2 p.1.v R]) := by
 refine Se 23 Tryz.func100 [.tmp 4] ?_
 intro H0 F0
 unfold i_added at hF
 refine au ?_
 refine AbR (fun k1 => ?_)
 iterate 6 refine au ?_
 refine bnd hF fun r2 hx3 hF => C_x1 (.cons (.t .h) (.rd (.t .h) rfl .nil)) (XC_bor frz_own (fun _ => .nil) (X_callS cf161.h (.cons (.tmp rfl rfl) (.cons (.tmp rfl rfl) .nil)) (i_HasFact_ok a_l v0_0 a_f v1_1 _ hx3))) (fun _ => ?_)
 refine au ?_
 refine Ci hF (fun hb23 hF => ?_) (fun hb23 hF => ?_)
 · iterate 5 refine au ?_
   cases hF
   exact Er (v0_0, F0_0)
 iterate 3 refine au ?_
 refine C_val (V_makeFunc (fn := .func 163) (vs := []) (us := [(pz k1)]) .nil (.cons (.tmp rfl rfl) .nil)) ?_
 refine bnd hF fun r5 hx6 hF => C_x1 (.cons .h (.rd .h rfl (.rd (.t .h) rfl .nil))) (XC_bor frz_own (fun _ => .nil) (X_callS cf162.h (.cons (.tmp rfl rfl) (.cons (.tmp rfl rfl) .nil)) (g_slices_IndexFunc_impl_Fact_impl_Fact_iadded1_ok a_l v0_0 k1 a_f v1_1 _ hx6))) (fun _ => ?_)
 iterate 7 refine au ?_
 refine Ci hF (fun hb22 hF => ?_) (fun hb22 hF => ?_)
 · iterate 9 refine au ?_
   refine bnd hF fun r8 hx9 hF => Cx1 (i_copyFact_ok _ _ _ hx9) (fun p10 => ?_)
   refine C_new rfl (N_buildSliceT (g := true) sl52.h ty129.h (.cons (.tmp rfl rfl) .nil) (vs := [(.agg [(.int .i64 r8.Rel), p10.1.v].toArray)]) rfl rfl rfl (by intro v hv; simp at hv; rcases hv with rfl <;> rfl)) (fun k11 => ?_)
   refine Cv1 (.cons .h (.cons .h .nil)) (own_lit (Ro := ow129) (E := 129) (F := (p10.2 ++ [])) (xs := ([r8] : List Fact)) (MkL_cons mk129 MkL_nil apps) rfl rfl) ?_
   refine bnd hF fun r12 hx13 hF => Cx1 (g_slices_Insert_impl_Fact_impl_Fact_ok _ _ _ _ _ (⟨(some ⟨k11, 0, none⟩), 1, 1⟩) _ _ hx13) (fun p14 => ?_)
   iterate 3 refine au ?_
   cases hF
   exact Er (p14.1, p14.2)
 iterate 5 refine au ?_
 refine bnd hF fun r15 hx16 hF => Cx1 (i_copyFact_ok _ _ _ hx16) (fun p17 => ?_)
 refine C_new rfl (N_buildSliceT (g := true) sl52.h ty129.h (.cons (.tmp rfl rfl) .nil) (vs := [(.agg [(.int .i64 r15.Rel), p17.1.v].toArray)]) rfl rfl rfl (by intro v hv; simp at hv; rcases hv with rfl <;> rfl)) (fun k18 => ?_)
 refine Cv1 (.cons .h (.cons .h .nil)) (own_lit (Ro := ow129) (E := 129) (F := (p17.2 ++ [])) (xs := ([r15] : List Fact)) (MkL_cons mk129 MkL_nil apps) rfl rfl) ?_
 refine bnd hF fun r19 hx20 hF => Cx1 (g_slices_Insert_impl_Fact_impl_Fact_ok _ _ _ _ _ (⟨(some ⟨k18, 0, none⟩), 1, 1⟩) _ _ hx20) (fun p21 => ?_)
 iterate 3 refine au ?_
 cases hF
 exact Er (p21.1, p21.2)
def i_UnionOf_L2 : List Fact → Nat → (List Fact) → Option ((List Fact))
 | [], k29, c23 => some c23
 | x31 :: rest30, k29, c23 => (i_added c23 x31).bind fun r42 =>
   i_UnionOf_L2 rest30 (k29 + 1) r42
def i_UnionOf_L1 : List Told → Nat → (List Fact) → Option ((List Fact))
 | [], k8, c2 => some c2
 | x10 :: rest9, k8, c2 => (i_UnionOf_L2 x10.Facts 0 c2).bind fun o17 =>
   match o17 with
   | c46 => i_UnionOf_L1 rest9 (k8 + 1) c46
def i_UnionOf (a_list : List Told) : Option ((List Fact)) :=
 i_UnionOf_L1 a_list 0 ([] : List Fact)
theorem i_UnionOf_ok (a_list : List Told) (v0_0 : Sv) (R : (List Fact)) (hF : i_UnionOf a_list = some R) :
   Fw.Spec Tryz.prog 42 [v0_0.v] [crd (RdS 90 rd90) v0_0.v a_list] (fun p : Sv × List Nat => p.1.v) (fun p => [cown (OwnS 129 ow129) p.2 p.1.v R]) := by
 refine Se 28 Tryz.func42 [.tmp 2] ?_
 intro H0 F0
 unfold i_UnionOf at hF
 iterate 4 refine au ?_
 refine C_new rfl (N_buildSliceT (g := true) sl52.h ty129.h .nil (vs := []) rfl rfl rfl (by simp)) (fun k1 => ?_)
 refine Cv1 (.cons .h .nil) (own_lit (Ro := ow129) (E := 129) (F := []) (xs := ([] : List Fact)) MkL_nil rfl rfl) ?_
 iterate 8 refine au ?_
 refine CW_block (CW_loop (m := a_list.length) (fun m6 f' cs' => ∃ (g : Fr) (k8 : Nat) (rest9 : List Told) (c2 : List Fact) (v3 : Sv) (F4 : List Nat), m6 = rest9.length ∧ f' = updL g [(3, v3.v), (9, v0_0.v), (10, (.int .i64 (a_list.length : Int))), (11, (.int .i64 (k8 : Int)))] ∧ List.drop k8 a_list = rest9 ∧ Ent cs' [cown (OwnS 129 ow129) F4 v3.v c2, crd (RdS 90 rd90) v0_0.v a_list] ∧ i_UnionOf_L1 rest9 k8 c2 = some R) ⟨_, 0, _, _, ⟨(some ⟨k1, 0, none⟩), 0, 1⟩, (k1 :: []), rfl, eqA, rfl, entA, hF⟩ ?_)
 rintro m6 _ _ ⟨g7, k8, rest9, c2, v3, F4, rfl, rfl, hd11, hE, hF⟩
 refine Kb hE a_list (fun hbd16 => ?_)
 rcases rest9 with _ | ⟨x10, rest9⟩
 · have hk12 := dn hd11
   rw [i_UnionOf_L1] at hF
   iterate 4 refine au ?_
   refine CdF ?_
   iterate 9 refine au ?_
   cases hF
   exact Er (v3, F4)
 obtain ⟨hk12, hx13, hd14⟩ := drop_cons hd11
 rw [i_UnionOf_L1] at hF
 iterate 4 refine au ?_
 refine CdT ?_
 refine au ?_
 obtain ⟨o17, hio17, hO18⟩ := bind_some hF
 refine K_cut (fun f' cs' => ∃ (c46 : List Fact) (v47 : Sv) (F48 : List Nat) (g : Fr), c46 = o17 ∧ f' = updL g [(3, v47.v), (9, v0_0.v), (10, (.int .i64 (a_list.length : Int))), (11, (.int .i64 (k8 : Int)))] ∧ Ent cs' [cown (OwnS 129 ow129) F48 v47.v c46, crd (RdS 90 rd90) v0_0.v a_list]) ?_ ?_
 · replace hF := hio17
   refine CW_block (K_region (C_idx (a := x10) sl31.h ty90.h.sz (.tmp rfl rfl) (.tmp rfl rfl) (.t .h) (Int.natCast_nonneg k8) hx13 (fun k19 j20 => ?_)))
   refine AlA2 (ul90_0_90 x10) la90_0_90 (fun p21 => ?_)
   refine AnW (fun k22 => ?_)
   refine As (.agg [(.int .i64 x10.Access.Method), p21.1.v, p21.2.v].toArray) ?_
   iterate 7 refine au ?_
   refine CW_block (CW_loop (m := x10.Facts.length) (fun m27 f' cs' => ∃ (g : Fr) (k29 : Nat) (rest30 : List Fact) (c23 : List Fact) (v24 : Sv) (F25 : List Nat), m27 = rest30.length ∧ f' = updL g [(3, v24.v), (9, v0_0.v), (10, (.int .i64 (a_list.length : Int))), (11, (.int .i64 (k8 : Int))), (16, p21.2.v), (17, (.int .i64 (x10.Facts.length : Int))), (18, (.int .i64 (k29 : Int)))] ∧ List.drop k29 x10.Facts = rest30 ∧ Ent cs' [cown (OwnS 129 ow129) F25 v24.v c23, crd (RdS 90 rd90) v0_0.v a_list, crd (RdS 129 rd129) p21.2.v x10.Facts] ∧ i_UnionOf_L2 rest30 k29 c23 = some o17) ⟨_, 0, _, _, v3, F4, rfl, eqA, rfl, entA, hF⟩ ?_)
   rintro m27 _ _ ⟨g28, k29, rest30, c23, v24, F25, rfl, rfl, hd32, hE, hF⟩
   refine Kb hE x10.Facts (fun hbd37 => ?_)
   rcases rest30 with _ | ⟨x31, rest30⟩
   · have hk33 := dn hd32
     rw [i_UnionOf_L2] at hF
     iterate 4 refine au ?_
     refine CdF ?_
     iterate 4 refine au ?_
     cases hF
     exact ⟨_, v24, F25, _, rfl, eqA, entA⟩
   obtain ⟨hk33, hx34, hd35⟩ := drop_cons hd32
   rw [i_UnionOf_L2] at hF
   iterate 4 refine au ?_
   refine CdT ?_
   iterate 3 refine au ?_
   refine Ai hx34 (fun k38 j39 => ?_)
   refine AlA1 (ul129_0_129 x31) la129_0_129 (fun p40 => ?_)
   refine AnW (fun k41 => ?_)
   refine As (.agg [(.int .i64 x31.Rel), p40.v].toArray) ?_
   iterate 4 refine au ?_
   refine bnd hF fun r42 hx43 hF => Cx1 (i_added_ok _ _ _ _ _ _ hx43) (fun p44 => ?_)
   iterate 6 refine au ?_
   rw [wk k29]
   exact ⟨_, Nat.lt_succ_self _, _, k29 + 1, rest30, _, p44.1, p44.2, rfl, eqA, hd35, entA, hF⟩
 rintro _ _ ⟨c46, v47, F48, g50, rfl, rfl, hE⟩
 replace hF := hO18
 try dsimp only at hF
 refine K_ent hE ?_
 iterate 4 refine au ?_
 rw [wk k8]
 exact ⟨_, Nat.lt_succ_self _, _, k8 + 1, rest9, _, v47, F48, rfl, eqA, hd14, entA, hF⟩
def g_strings_Join (a_e : List (List UInt8)) (a_sep : List UInt8) : Option (List UInt8) :=
 if a_e.length < 4294967296 ∧ (Lib.join a_e a_sep).length < 4294967296 then some (Lib.join a_e a_sep) else none
theorem g_strings_Join_ok (a_e : List (List UInt8)) (v0_0 : Sv) (a_sep : List UInt8) (R : List UInt8) (hF : g_strings_Join a_e a_sep = some R) :
   Fw.Spec Tryz.prog 99 [v0_0.v, sv a_sep] [crd (RdS 9 rdStr) v0_0.v a_e] (fun _ : Unit => (sv R)) (fun _ => []) := by
 unfold g_strings_Join at hF
 split at hF
 · rename_i h
   cases hF
   exact Spec_join ty9.h.sz (Go.Proofs.Any.strings_Join_none lays156 extra) (Go.Proofs.Any.strings_Join lays156 extra) h.1 h.2
 · simp at hF
def i_isRel (a_rel : Int) : Option (Bool) :=
 (i_within a_rel 0 2).bind fun r1 =>
 some r1
theorem i_isRel_ok (a_rel : Int) (R : Bool) (hF : i_isRel a_rel = some R) :
   Fw.Spec Tryz.prog 157 [(.int .i64 a_rel)] [] (fun _ : Unit => (.bool R)) (fun _ => []) := by
 refine Se 5 Tryz.func157 [.tmp 2] ?_
 intro H0 F0
 unfold i_isRel at hF
 iterate 5 refine au ?_
 refine bnd hF fun r1 hx2 hF => Cx0 (i_within_ok _ _ _ _ hx2) (fun _ => ?_)
 iterate 3 refine au ?_
 cases hF
 exact Er ()
def g_strconv_Itoa (a_n : Int) : Option (List UInt8) :=
 if -9223372036854775808 ≤ a_n ∧ a_n ≤ 9223372036854775807 then some (Lib.itoa a_n) else none
theorem g_strconv_Itoa_ok (a_n : Int) (R : List UInt8) (hF : g_strconv_Itoa a_n = some R) :
   Fw.Spec Tryz.prog 126 [.int .i64 a_n] [] (fun _ : Unit => (sv R)) (fun _ => []) := by
 unfold g_strconv_Itoa at hF
 split at hF
 · rename_i h
   cases hF
   exact Spec_itoa fun w hv => Go.Proofs.Any.strconv_Itoa laysM171 a_n h.1 h.2 w (Vok.var (fun _ h => h) hv.choose_spec)
 · simp at hF
def i_FormatInt (a_n : Int) : Option ((List UInt8)) :=
 (g_strconv_Itoa a_n).bind fun r1 =>
 some r1
theorem i_FormatInt_ok (a_n : Int) (R : (List UInt8)) (hF : i_FormatInt a_n = some R) :
   Fw.Spec Tryz.prog 64 [(.int .i64 a_n)] [] (fun _ : Unit => (sv R)) (fun _ => []) := by
 refine Se 5 Tryz.func64 [.tmp 2] ?_
 intro H0 F0
 unfold i_FormatInt at hF
 iterate 5 refine au ?_
 refine bnd hF fun r1 hx2 hF => Cx0 (g_strconv_Itoa_ok _ _ hx2) (fun _ => ?_)
 iterate 3 refine au ?_
 cases hF
 exact Er ()
def i_joined_L1 (a_by : List UInt8) : List Int → Nat → (List (List UInt8)) → Option ((List UInt8))
 | [], k8, c2 => (g_strings_Join c2 a_by).bind fun r17 =>
   some r17
 | x10 :: rest9, k8, c2 => (i_FormatInt x10).bind fun r22 =>
   (app c2 ([r22] : List (List UInt8))).bind fun z26 =>
   i_joined_L1 a_by rest9 (k8 + 1) z26
def i_joined (a_l : List Int) (a_by : List UInt8) : Option ((List UInt8)) :=
 i_joined_L1 a_by a_l 0 ([] : List (List UInt8))
theorem i_joined_ok (a_l : List Int) (v0_0 : Sv) (a_by : List UInt8) (R : (List UInt8)) (hF : i_joined a_l a_by = some R) :
   Fw.Spec Tryz.prog 43 [v0_0.v, (sv a_by)] [crd (RdS 3 rdInt) v0_0.v a_l] (fun _ : Unit => (sv R)) (fun _ => []) := by
 refine Se 24 Tryz.func43 [.tmp 4] ?_
 intro H0 F0
 unfold i_joined at hF
 iterate 4 refine au ?_
 refine C_new rfl (N_buildSliceT (g := true) sl49.h ty9.h .nil (vs := []) rfl rfl rfl (by simp)) (fun k1 => ?_)
 refine Cv1 (.cons .h .nil) (own_lit (Ro := (roE rdStr)) (E := 9) (F := []) (xs := ([] : List (List UInt8))) MkL_nil rfl rfl) ?_
 iterate 8 refine au ?_
 refine CW_block (CW_loop (m := a_l.length) (fun m6 f' cs' => ∃ (g : Fr) (k8 : Nat) (rest9 : List Int) (c2 : List (List UInt8)) (v3 : Sv) (F4 : List Nat), m6 = rest9.length ∧ f' = updL g [(1, (sv a_by)), (5, v3.v), (9, v0_0.v), (10, (.int .i64 (a_l.length : Int))), (11, (.int .i64 (k8 : Int)))] ∧ List.drop k8 a_l = rest9 ∧ Ent cs' [cown (OwnS 9 (roE rdStr)) F4 v3.v c2, crd (RdS 3 rdInt) v0_0.v a_l] ∧ i_joined_L1 a_by rest9 k8 c2 = some R) ⟨_, 0, _, _, ⟨(some ⟨k1, 0, none⟩), 0, 1⟩, (k1 :: []), rfl, eqA, rfl, entA, hF⟩ ?_)
 rintro m6 _ _ ⟨g7, k8, rest9, c2, v3, F4, rfl, rfl, hd11, hE, hF⟩
 refine Kb hE a_l (fun hbd16 => ?_)
 rcases rest9 with _ | ⟨x10, rest9⟩
 · have hk12 := dn hd11
   rw [i_joined_L1] at hF
   iterate 4 refine au ?_
   refine CdF ?_
   iterate 7 refine au ?_
   refine bnd hF fun r17 hx18 hF => C_x1 (.cons .h .nil) (XC_bor frz_own (fun _ => .nil) (X_callS cf99.h (.cons (.tmp rfl rfl) (.cons (.tmp rfl rfl) .nil)) (g_strings_Join_ok c2 v3 a_by _ hx18))) (fun _ => ?_)
   iterate 3 refine au ?_
   cases hF
   exact Er ()
 obtain ⟨hk12, hx13, hd14⟩ := drop_cons hd11
 rw [i_joined_L1] at hF
 iterate 4 refine au ?_
 refine CdT ?_
 iterate 3 refine au ?_
 refine Ai hx13 (fun k20 j21 => ?_)
 refine Al ls3_0 ?_
 iterate 5 refine au ?_
 refine bnd hF fun r22 hx23 hF => Cx0 (i_FormatInt_ok _ _ hx23) (fun _ => ?_)
 refine C_new rfl (N_buildSliceT (g := true) sl49.h ty9.h (.cons (.tmp rfl rfl) .nil) (vs := [(sv r22)]) rfl rfl rfl (by intro v hv; simp at hv; rcases hv with rfl <;> rfl)) (fun k25 => ?_)
 refine Cv1 (.cons .h .nil) (own_lit (Ro := (roE rdStr)) (E := 9) (F := ([] ++ [])) (xs := ([r22] : List (List UInt8))) (MkL_cons (Mk_pure (fun _ => rfl)) MkL_nil apps) rfl rfl) ?_
 refine bnd hF fun z26 hx27 hF => C_x1 (.cons (.t (.t .h)) (.cons .h .nil)) (X_appendO (Ro := (roE rdStr)) sl49.h ni49 ty9.h rfl rfl rfl (.tmp rfl rfl) (.tmp rfl rfl) hx27 src_own) (fun p28 => ?_)
 iterate 6 refine au ?_
 rw [wk k8]
 exact ⟨_, Nat.lt_succ_self _, _, k8 + 1, rest9, _, p28.1, p28.2, rfl, eqA, hd14, entA, hF⟩
end Go.Proofs.YtlfebfhfgfjceaaGreatDoor
