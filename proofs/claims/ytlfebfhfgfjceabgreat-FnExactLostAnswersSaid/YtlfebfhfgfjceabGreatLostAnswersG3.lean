/-
  Functions of the program as Lean functions, and that the calls return what these say: part 4. No conditions.
-/
import Derived.Shelf.Sort.Plain
import Derived.Shelf.Slices.In.SortNone
import Derived.Shelf.Slices.CompactI
import Derived.Test.YtlfebfhfgfjceabGreatLostAnswersG2
import Derived.KernelRfl
set_option maxRecDepth 100000
set_option maxHeartbeats 1000000
set_option linter.unusedVariables false
namespace Go.Proofs.YtlfebfhfgfjceabGreat
open Go Go.Fw
def g_slices_DeleteFunc_int_int_iwithout1 (a_s : List (List Int)) (a_e1 : List (List Int)) : Option (List (List Int)) :=
 delL (fun a_q => i_without_1 a_q a_e1) a_s
theorem g_slices_DeleteFunc_int_int_iwithout1_sh (qs : List (Value × List Int)) (v : Sv) (F : List Nat) (kc1 : Nat) (a_e1 : List (List Int)) (vc1_0 : Sv) (p : Value × List Int → Bool) (hcl : ∀ q ∈ qs, i_without_1 q.2 a_e1 = some (p q)) (hidx : g_slices_IndexFunc_int_int_iwithout1 (qs.map Prod.snd) a_e1 = some (ixF p qs 0)) (hbd : qs.length < 4611686018427387904) :
   Fw.Spec Tryz.prog 98 [v.v, (.func (.func 100) [].toArray [(.pointer (some ⟨kc1, 0, some 0⟩))].toArray)] [cown (OwnS 22 (roE (rq (RdS 3 rdInt)))) F v.v qs, cboR kc1 31 vc1_0.v, crd (RdS 22 (RdS 3 rdInt)) vc1_0.v a_e1] (fun q : Sv × List Nat => q.1.v) (fun q => [cown (OwnS 22 (roE (rq (RdS 3 rdInt)))) q.2 q.1.v (qs.filter fun a => !p a)]) := by
 refine Spec_enter (n := 42) Tryz.func98 rfl rfl (rs := [.tmp 4]) rfl rfl rfl ?_
 intro H0 F0
 refine K_region ?_
 refine C_val (V_assign (v := (.slice none 0 0)) EV.nilSlice) ?_
 refine C_nil ?_
 refine K_region ?_
 refine C_val (V_move (v := v.v) (.tmp rfl rfl)) ?_
 refine C_val (V_move (v := (.func (.func 100) [].toArray [(.pointer (some ⟨kc1, 0, some 0⟩))].toArray)) (.tmp rfl rfl)) ?_
 refine C_x1 (.cons .h (.rd .h rfl (.rd (.t .h) rfl .nil))) (XC_borR frz_rq (fun _ => .nil) (XC_pre (.rd (.t (.t .h)) rfl (.rd .h rfl (.rd (.t .h) rfl .nil))) (X_callS cf137.h (.cons (.tmp rfl rfl) (.cons (.tmp rfl rfl) .nil)) (g_slices_IndexFunc_int_int_iwithout1_ok (qs.map Prod.snd) v kc1 a_e1 vc1_0 _ hidx)))) (fun _ => ?_)
 generalize hR : ixF p qs 0 = R0
 refine C_val (V_assign (v := (.int .i64 R0)) (.tmp rfl rfl)) ?_
 refine C_nil ?_
 refine K_in ?_
 refine K_region ?_
 refine C_val (V_move (v := (.int .i64 R0)) (.tmp rfl rfl)) ?_
 refine C_val (V_eql (i := R0) (j := (-1)) (.tmp rfl rfl) (.int _ _)) ?_
 refine C_nil ?_
 refine CW_cond (b := (R0 == (-1 : Int))) (.tmp rfl rfl) (fun hb => ?_) (fun hb => ?_)
 · refine K_region ?_
   refine C_val (V_move (v := v.v) (.tmp rfl rfl)) ?_
   refine C_val (V_assign (v := v.v) (.tmp rfl rfl)) ?_
   refine C_nil ?_
   refine CW_ret ?_
   have e : qs.filter (fun q => !p q) = qs := ixF_none (k := 0) (by rw [hR]; simpa using hb)
   rw [e]
   exact End_ret (v, F) (.tmp rfl rfl .nil) rfl (.sel (.cons .h .nil))
 refine CW_skip ?_
 obtain ⟨i0, hi0, hi1⟩ : ∃ i : Nat, R0 = (i : Int) ∧ i < qs.length := by
   rcases ixF_range p qs 0 with h | ⟨i, h, hi⟩
   · rw [hR] at h; subst h; simp at hb
   · exact ⟨i, by rw [← hR, h], by omega⟩
 subst hi0
 refine K_in ?_
 refine K_region ?_
 refine C_val (V_move (v := (.int .i64 (i0 : Int))) (.tmp rfl rfl)) ?_
 refine C_val (V_add (i := (i0 : Int)) (j := 1) (.tmp rfl rfl) (.int _ _)) ?_
 rw [show IntKind.i64.wrap ((i0 : Int) + 1) = ((i0 + 1 : Nat) : Int) from by rw [wrap_in (by omega) (by omega)]; rfl]
 refine C_val (V_assign (v := (.int .i64 ((i0 + 1 : Nat) : Int))) (.tmp rfl rfl)) ?_
 refine C_nil ?_
 refine CW_block ?_
 refine CW_loop (m := qs.length - (i0 + 1)) (fun m f' cs' => ∃ (g : Fr) (cur : List (Value × List Int)) (i j : Nat) (F' : List Nat), m = qs.length - j ∧ f' = updL g [(0, v.v), (1, (.func (.func 100) [].toArray [(.pointer (some ⟨kc1, 0, some 0⟩))].toArray)), (5, (.int .i64 (i : Int))), (6, (.int .i64 (j : Int)))] ∧ DelI p qs cur i j ∧ Ent cs' [cown (OwnS 22 (roE (rq (RdS 3 rdInt)))) F' v.v cur, cboR kc1 31 vc1_0.v, crd (RdS 22 (RdS 3 rdInt)) vc1_0.v a_e1]) ⟨_, qs, i0, i0 + 1, F, rfl, (EqL.cons rfl (EqL.cons rfl (EqL.cons rfl (EqL.cons rfl (EqL.nil))))).eq, DelI.init (by rw [hR]), .sel (.cons .h (.rd .h rfl (.rd (.t .h) rfl .nil)))⟩ ?_
 rintro m _ _ ⟨g, cur, i, j, F', rfl, rfl, hI, hE⟩
 refine K_ent hE ?_
 clear hE
 refine K_in ?_
 refine K_region ?_
 refine C_val (V_move (v := (.int .i64 (j : Int))) (.tmp rfl rfl)) ?_
 refine C_val (V_move (v := v.v) (.tmp rfl rfl)) ?_
 refine C_at .h (fun hp => V_lenR (l := cur.length) sl31.h (.tmp rfl rfl) (cown_len hp)) ?_
 refine C_val (V_lss (i := (j : Int)) (j := (cur.length : Int)) (.tmp rfl rfl) (.tmp rfl rfl)) ?_
 refine C_nil ?_
 have hlen := hI.len
 have hij := hI.lt
 have hjl := hI.le
 refine CW_cond (b := (decide ((j : Int) < (cur.length : Int)))) (.tmp rfl rfl) (fun hb2 => ?_) (fun hb2 => ?_)
 · refine CW_skip ?_
   have hj : j < qs.length := by simp at hb2; omega
   obtain ⟨x, hx1, hx2⟩ := hI.at hj
   refine K_block ?_
   refine K_region ?_
   refine C_val (V_move (v := v.v) (.tmp rfl rfl)) ?_
   refine C_val (V_move (v := (.int .i64 (j : Int))) (.tmp rfl rfl)) ?_
   refine C_idxO sl31.h ty22.h.sz (.tmp rfl rfl) (.tmp rfl rfl) .h (by simp; omega) (fun k hk => ?_)
   refine C_ldOW1 (a := x) (u := fun i : Sv => i.v) (cc := fun i => [crd (RdS 3 rdInt) i.v x.2]) ag22.h (.tmp rfl rfl) .h hk (by simpa using hx1) (fun H e h => by obtain ⟨-, h1⟩ := h; obtain ⟨a0, m, rfl⟩ := RdS.len h1; exact ⟨⟨a0, _, m⟩, rfl, rfl, by simpa [crd] using h1⟩) (fun w => ?_)
   refine C_val (V_assign (v := w.v) (.tmp rfl rfl)) ?_
   refine C_nil ?_
   refine K_region ?_
   refine C_val (V_move (v := (.func (.func 100) [].toArray [(.pointer (some ⟨kc1, 0, some 0⟩))].toArray)) (.tmp rfl rfl)) ?_
   refine C_val (V_move (v := w.v) (.tmp rfl rfl)) ?_
   refine C_x0 (.rd (.t .h) rfl (.rd (.t (.t (.t .h))) rfl (.rd (.t (.t (.t (.t .h)))) rfl .nil))) (X_callCS cf100.h (.tmp rfl rfl) (.cons (.tmp rfl rfl) .nil) (i_without_1_ok x.2 w kc1 a_e1 vc1_0 _ (hcl x (List.mem_of_getElem? hx2)))) (fun _ => ?_)
   refine C_val (V_not (b := p x) (.tmp rfl rfl)) ?_
   refine C_nil ?_
   refine CW_cond (b := (!p x)) (.tmp rfl rfl) (fun hb3 => ?_) (fun hb3 => ?_)
   · refine K_region ?_
     refine C_val (V_move (v := v.v) (.tmp rfl rfl)) ?_
     refine C_val (V_move (v := (.int .i64 (i : Int))) (.tmp rfl rfl)) ?_
     refine C_val (V_move (v := w.v) (.tmp rfl rfl)) ?_
     have hii : (decide ((0 : Int) ≤ (i : Int)) && decide ((i : Int) < (cur.length : Int))) = true := by simp; omega
     refine C_idxO sl31.h ty22.h.sz (.tmp rfl rfl) (.tmp rfl rfl) (.t (.t .h)) hii (fun k2 hk2 => ?_)
     refine C_x1 (.cons (.t (.t .h)) (.rd .h rfl .nil)) (X_storeO (Ro := roE (rq (RdS 3 rdInt))) (a := x) (i := (i : Int)) ty22.h.sz rfl (.tmp rfl rfl) (.tmp rfl rfl) hk2 hii Mk_rd (fun _ _ _ _ h => by obtain ⟨-, -, h1⟩ := h; obtain ⟨_, _, rfl⟩ := RdS.len h1; rfl)) (fun F2 => ?_)
     refine C_nil ?_
     refine CW_region ?_
     refine C_val (V_move (v := (.int .i64 (i : Int))) (.tmp rfl rfl)) ?_
     refine C_val (V_add (i := (i : Int)) (j := 1) (.tmp rfl rfl) (.int _ _)) ?_
     rw [show IntKind.i64.wrap ((i : Int) + 1) = ((i + 1 : Nat) : Int) from by rw [wrap_in (by omega) (by omega)]; rfl]
     refine C_val (V_assign (v := (.int .i64 ((i + 1 : Nat) : Int))) (.tmp rfl rfl)) ?_
     refine C_nil ?_
     refine CW_region ?_
     refine C_val (V_move (v := (.int .i64 (j : Int))) (.tmp rfl rfl)) ?_
     refine C_val (V_add (i := (j : Int)) (j := 1) (.tmp rfl rfl) (.int _ _)) ?_
     rw [show IntKind.i64.wrap ((j : Int) + 1) = ((j + 1 : Nat) : Int) from by rw [wrap_in (by omega) (by omega)]; rfl]
     refine C_val (V_assign (v := (.int .i64 ((j + 1 : Nat) : Int))) (.tmp rfl rfl)) ?_
     refine C_nil ?_
     exact ⟨_, by omega, _, cur.set i x, i + 1, j + 1, F2, rfl, (EqL.cons rfl (EqL.cons rfl (EqL.cons rfl (EqL.cons rfl (EqL.nil))))).eq, hI.no hx2 (by simpa using hb3), .sel (.cons .h (.rd (.t (.t .h)) rfl (.rd (.t (.t (.t .h))) rfl .nil)))⟩
   · refine CW_skip ?_
     refine CW_region ?_
     refine C_val (V_move (v := (.int .i64 (j : Int))) (.tmp rfl rfl)) ?_
     refine C_val (V_add (i := (j : Int)) (j := 1) (.tmp rfl rfl) (.int _ _)) ?_
     rw [show IntKind.i64.wrap ((j : Int) + 1) = ((j + 1 : Nat) : Int) from by rw [wrap_in (by omega) (by omega)]; rfl]
     refine C_val (V_assign (v := (.int .i64 ((j + 1 : Nat) : Int))) (.tmp rfl rfl)) ?_
     refine C_nil ?_
     exact ⟨_, by omega, _, cur, i, j + 1, F', rfl, (EqL.cons rfl (EqL.cons rfl (EqL.cons rfl (EqL.cons rfl (EqL.nil))))).eq, hI.yes hx2 (by simpa using hb3), .sel (.cons (.t (.t .h)) (.rd (.t (.t .h)) rfl (.rd (.t (.t (.t .h))) rfl .nil)))⟩
 · refine CW_exit ?_
   refine CThen_exit ?_
   refine CThen_exit ?_
   refine CIn_self ?_
   have hj : qs.length ≤ j := by simp at hb2; omega
   refine K_pure .h (own_form (by intro e; rw [e] at hlen; simp at hlen; omega)) (fun hv => ?_)
   obtain ⟨k0, m0, rfl, hm0⟩ := hv
   refine K_region ?_
   refine C_val (V_move (v := (.slice (some ⟨k0, 0, none⟩) cur.length m0)) (.tmp rfl rfl)) ?_
   refine C_val (V_move (v := (.int .i64 (i : Int))) (.tmp rfl rfl)) ?_
   refine C_sliceLo sl31.h ty22.h.sz (.tmp rfl rfl) (.tmp rfl rfl) .h (by omega) (by omega) ?_
   refine C_x1 (.cons .h .nil) (X_clear (l := cur.length) (m := m0) (k := k0) (i := i) (j := cur.length - i) sl31.h ty22.h rfl rfl rfl rfl rfl (by omega) (.tmp rfl rfl)) (fun _ => ?_)
   refine C_nil ?_
   refine K_region ?_
   refine C_val (V_move (v := (.slice (some ⟨k0, 0, none⟩) cur.length m0)) (.tmp rfl rfl)) ?_
   refine C_val (V_move (v := (.int .i64 (i : Int))) (.tmp rfl rfl)) ?_
   refine C_sliceHi sl31.h ty22.h.sz (.tmp rfl rfl) hm0 (.tmp rfl rfl) .h rfl (by omega) (by omega) (by omega) ?_
   refine C_val (V_assign (v := (.slice (some ⟨k0, 0, none⟩) i 2)) (.tmp rfl rfl)) ?_
   refine C_nil ?_
   refine CW_ret ?_
   rw [← hI.fin hj]
   exact End_ret (⟨some ⟨k0, 0, none⟩, i, 2⟩, F') (.tmp rfl rfl .nil) rfl (.sel (.cons .h .nil))
theorem g_slices_DeleteFunc_int_int_iwithout1_ok (a_s : List (List Int)) (v0_0 : Sv) (F0_0 : List Nat) (kc1 : Nat) (a_e1 : List (List Int)) (vc1_0 : Sv) (R : List (List Int)) (hF : g_slices_DeleteFunc_int_int_iwithout1 a_s a_e1 = some R) :
   Fw.Spec Tryz.prog 98 [v0_0.v, (.func (.func 100) [].toArray [(.pointer (some ⟨kc1, 0, some 0⟩))].toArray)] [cown (OwnS 22 (OwnS 3 (roE rdInt))) F0_0 v0_0.v a_s, cboR kc1 31 vc1_0.v, crd (RdS 22 (RdS 3 rdInt)) vc1_0.v a_e1] (fun p : Sv × List Nat => p.1.v) (fun p => [cown (OwnS 22 (OwnS 3 (roE rdInt))) p.2 p.1.v R]) := by
 unfold g_slices_DeleteFunc_int_int_iwithout1 at hF
 obtain ⟨h1, h2⟩ := delL_some hF
 refine Spec_pure cown_bound (fun hb => ?_)
 refine Spec_deep (R := (RdS 3 rdInt)) rfl (fun es F1 hel => ⟨(es.zip a_s).filter (fun a => !(i_without_1 a.2 a_e1).getD false), List.filter_sublist, by rw [h2]; exact zip_filter (fun a => (i_without_1 a a_e1).getD false) es a_s hel, ?_⟩)
 refine g_slices_DeleteFunc_int_int_iwithout1_sh (es.zip a_s) v0_0 F1 kc1 a_e1 vc1_0 (fun a => (i_without_1 a.2 a_e1).getD false) (fun q hq => h1 q.2 (List.of_mem_zip hq).2) ?_ (by simp; omega)
 rw [List.map_snd_zip (Nat.le_of_eq hel.symm), ← ixF_map Prod.snd (fun a => (i_without_1 a a_e1).getD false), List.map_snd_zip (Nat.le_of_eq hel.symm)]
 exact index_loop (L := g_slices_IndexFunc_int_int_iwithout1_L1 a_e1) (fun _ => rfl) (fun _ _ _ => rfl) a_s 0 h1
def i_without (a_l : List (List Int)) (a_other : List (List Int)) : Option ((List (List Int))) :=
 (i_copyTuples a_l).bind fun r2 =>
 (g_slices_DeleteFunc_int_int_iwithout1 r2 a_other).bind fun r5 =>
 some r5
theorem i_without_ok (a_l : List (List Int)) (v0_0 : Sv) (a_other : List (List Int)) (v1_0 : Sv) (R : (List (List Int))) (hF : i_without a_l a_other = some R) :
   Fw.Spec Tryz.prog 62 [v0_0.v, v1_0.v] [crd (RdS 22 (RdS 3 rdInt)) v0_0.v a_l, crd (RdS 22 (RdS 3 rdInt)) v1_0.v a_other] (fun p : Sv × List Nat => p.1.v) (fun p => [cown (OwnS 22 (OwnS 3 (roE rdInt))) p.2 p.1.v R]) := by
 refine Spec_enter (n := 9) Tryz.func62 rfl rfl (rs := [.tmp 4]) rfl rfl rfl ?_
 intro H0 F0
 unfold i_without at hF
 refine au ?_
 refine C_newR rfl (N_box (g := false) (v := v1_0.v) ty31.h.sz (.tmp rfl rfl) rfl) (fun k1 => ?_)
 iterate 4 refine au ?_
 obtain ⟨r2, hx3, hF⟩ := bind_some hF
 refine C_x1 (.rd (.t .h) rfl .nil) (X_callS cf99.h (.cons (.tmp rfl rfl) .nil) (i_copyTuples_ok a_l v0_0 _ hx3)) (fun p4 => ?_)
 refine C_val (V_makeFunc (fn := .func 100) (vs := []) (us := [(.pointer (some ⟨k1, 0, some 0⟩))]) .nil (.cons (.tmp rfl rfl) .nil)) ?_
 obtain ⟨r5, hx6, hF⟩ := bind_some hF
 refine C_x1 (.cons .h (.rd .h rfl (.rd (.t (.t .h)) rfl .nil))) (X_callS cf98.h (.cons (.tmp rfl rfl) (.cons (.tmp rfl rfl) .nil)) (g_slices_DeleteFunc_int_int_iwithout1_ok r2 p4.1 p4.2 k1 a_other v1_0 _ hx6)) (fun p7 => ?_)
 iterate 3 refine au ?_
 obtain rfl := Option.some.inj hF
 exact End_ret (p7.1, p7.2) (.tmp rfl rfl .nil) rfl (.sel (.cons .h .nil))
def i_LostAnswers (a_s : List Int) (a_l : List Method) (a_q : Query) (a_facts : List Fact) : Option ((List (List Int))) :=
 (i_AreMethods a_s a_l).bind fun r2 =>
 if (!r2) then (
   some [])
 else (
   (i_AnswersOf a_s a_q a_facts).bind fun r5 =>
   (i_MaximalAnswers a_s a_l a_q a_facts).bind fun r8 =>
   (i_without r5 r8).bind fun r11 =>
   some r11)
theorem i_LostAnswers_ok (a_s : List Int) (v0_0 : Sv) (a_l : List Method) (v1_0 : Sv) (a_q : Query) (v2_0 : Sv) (v2_1 : Sv) (a_facts : List Fact) (v3_0 : Sv) (R : (List (List Int))) (hF : i_LostAnswers a_s a_l a_q a_facts = some R) :
   Fw.Spec Tryz.prog 32 [v0_0.v, v1_0.v, (.agg [v2_0.v, v2_1.v].toArray), v3_0.v] [crd (RdS 3 rdInt) v0_0.v a_s, crd (RdS 77 rd77) v1_0.v a_l, crd (RdS 3 rdInt) v2_0.v a_q.Head, crd (RdS 102 rd102) v2_1.v a_q.Atoms, crd (RdS 80 rd80) v3_0.v a_facts] (fun p : Sv × List Nat => p.1.v) (fun p => [cown (OwnS 22 (OwnS 3 (roE rdInt))) p.2 p.1.v R]) := by
 refine Spec_enter (n := 23) Tryz.func32 rfl rfl (rs := [.tmp 8]) rfl rfl rfl ?_
 intro H0 F0
 unfold i_LostAnswers at hF
 refine K_region (C_newR rfl (N_box (g := false) (v := (.agg [v2_0.v, v2_1.v].toArray)) ty38.h.sz (.tmp rfl rfl) rfl) (fun k1 => ?_))
 refine C_val (V_assign (v := (.slice none 0 0)) EV.nilSlice) ?_
 refine C_nil (K_in (K_region (Cm v0_0.v rfl rfl ?_)))
 refine Cm v1_0.v rfl rfl ?_
 obtain ⟨r2, hx3, hF⟩ := bind_some hF
 refine C_x0 (.rd (.t .h) rfl (.rd (.t (.t .h)) rfl .nil)) (X_callS cf61.h (.cons (.tmp rfl rfl) (.cons (.tmp rfl rfl) .nil)) (i_AreMethods_ok a_s v0_0 a_l v1_0 _ hx3)) (fun _ => ?_)
 refine C_val (V_not (b := r2) (.tmp rfl rfl)) ?_
 refine C_nil (CW_cond (b := (!r2)) (.tmp rfl rfl) (fun hb14 => ?_) (fun hb14 => ?_))
 · rw [if_pos hb14] at hF
   refine K_region (C_val (V_assign (v := (.slice none 0 0)) EV.nilSlice) ?_)
   refine C_nil (CW_ret ?_)
   obtain rfl := Option.some.inj hF
   exact End_ret (⟨none, 0, 0⟩, []) (.tmp rfl rfl .nil) rfl (.conv .nil (own_nil (Ro := (OwnS 3 (roE rdInt))) (E := 22)) (.cons .nil) (.sel (.cons .h .nil)))
 rw [if_neg (by rw [hb14]; exact Bool.false_ne_true)] at hF
 refine CW_skip (K_draw [0, 1, 2, 4, 5, 6, 7, 3, 8, 9, 10] [0, 0, 0, 7, 0, 0, 0, 0, 255, 511, 1023] [3, 8, 9] mixed (by decide +kernel) ?_)
 refine Dm v0_0.v rfl rfl rfl rfl ?_
 refine D_at rfl .no .h rfl (fun ha hp => V_loadBox ag38.h ty38.h.sz rfl (EN ha (.tmp rfl rfl) rfl) hp.2 rfl) ?_
 refine Dm v3_0.v rfl rfl rfl rfl ?_
 refine Dm v0_0.v rfl rfl rfl rfl ?_
 refine Dm v1_0.v rfl rfl rfl rfl ?_
 refine D_at rfl .no .h rfl (fun ha hp => V_loadBox ag38.h ty38.h.sz rfl (EN ha (.tmp rfl rfl) rfl) hp.2 rfl) ?_
 refine Dm v3_0.v rfl rfl rfl rfl ?_
 obtain ⟨r5, hx6, hF⟩ := bind_some hF
 refine D_act1 rfl rfl .no (.rd (.t .h) rfl (.rd (.t (.t (.t .h))) rfl (.rd (.t (.t (.t (.t .h)))) rfl (.rd (.t (.t (.t (.t (.t .h))))) rfl .nil)))) .nil (fun ha => X_callS cf63.h (.cons (EN ha (.tmp rfl rfl) rfl) (.cons (EN ha (.tmp rfl rfl) rfl) (.cons (EN ha (.tmp rfl rfl) rfl) .nil))) (i_AnswersOf_ok a_s v0_0 a_q v2_0 v2_1 a_facts v3_0 _ hx6)) (fun p7 => ?_)
 obtain ⟨r8, hx9, hF⟩ := bind_some hF
 refine D_act1 rfl rfl .no (.rd (.t (.t .h)) rfl (.rd (.t (.t (.t .h))) rfl (.rd (.t (.t (.t (.t .h)))) rfl (.rd (.t (.t (.t (.t (.t .h))))) rfl (.rd (.t (.t (.t (.t (.t (.t .h)))))) rfl .nil))))) .nil (fun ha => X_callS cf14.h (.cons (EN ha (.tmp rfl rfl) rfl) (.cons (EN ha (.tmp rfl rfl) rfl) (.cons (EN ha (.tmp rfl rfl) rfl) (.cons (EN ha (.tmp rfl rfl) rfl) .nil)))) (i_MaximalAnswers_ok a_s v0_0 a_l v1_0 a_q v2_0 v2_1 a_facts v3_0 _ hx9)) (fun p10 => ?_)
 obtain ⟨r11, hx12, hF⟩ := bind_some hF
 refine D_act3 rfl rfl .no (.cons .h (.cons .h .nil)) .nil (fun ha => XC_borL (pre := []) (.cons frz_own (.cons frz_own .nil)) (fun _ => (.cons .nil)) (X_callS cf62.h (.cons (EN ha (.tmp rfl rfl) rfl) (.cons (EN ha (.tmp rfl rfl) rfl) .nil)) (i_without_ok r5 p7.1 r8 p10.1 _ hx12))) (fun p13 => ?_)
 refine Da p13.1.v rfl rfl rfl rfl ?_
 refine D_nil (CW_ret ?_)
 obtain rfl := Option.some.inj hF
 exact End_ret (p13.1, p13.2) (.tmp rfl rfl .nil) rfl (.sel (.cons (.t (.t .h)) .nil))
def l_eqIntS_L1 (a_b : List Int) : List Int → Nat → Option (Bool)
 | [], k4 => some true
 | x6 :: rest5, k4 => (ix a_b (k4 : Int)).bind fun x15 =>
   if ((x6 : Int) != x15) then (
     some false)
   else (
     l_eqIntS_L1 a_b rest5 (k4 + 1))
def l_eqIntS (a_a : List Int) (a_b : List Int) : Option (Bool) :=
 if (((a_a.length : Int) : Int) != (a_b.length : Int)) then (
   some false)
 else (
   l_eqIntS_L1 a_b a_a 0)
theorem l_eqIntS_ok (a_a : List Int) (v0_0 : Sv) (a_b : List Int) (v1_0 : Sv) (R : Bool) (hF : l_eqIntS a_a a_b = some R) :
   Fw.Spec Tryz.prog 16 [v0_0.v, v1_0.v] [crd (RdS 3 rdInt) v0_0.v a_a, crd (RdS 3 rdInt) v1_0.v a_b] (fun _ : Unit => (.bool R)) (fun _ => []) := by
 refine Spec_enter (n := 26) Tryz.func16 rfl rfl (rs := [.tmp 4]) rfl rfl rfl ?_
 intro H0 F0
 unfold l_eqIntS at hF
 iterate 11 refine au ?_
 refine Cc (fun hb23 => ?_) (fun hb23 => ?_)
 · rw [if_pos hb23] at hF
   iterate 4 refine au ?_
   cases hF
   exact Er ()
 rw [if_neg (nt hb23)] at hF
 iterate 5 refine au ?_
 refine CW_block (CW_loop (m := a_a.length) (fun m2 f' cs' => ∃ (g : Fr) (k4 : Nat) (rest5 : List Int), m2 = rest5.length ∧ f' = updL g [(0, v0_0.v), (1, v1_0.v), (5, (.int .i64 (k4 : Int)))] ∧ List.drop k4 a_a = rest5 ∧ Ent cs' [crd (RdS 3 rdInt) v0_0.v a_a, crd (RdS 3 rdInt) v1_0.v a_b] ∧ l_eqIntS_L1 a_b rest5 k4 = some R) ⟨_, 0, _, rfl, eqA, rfl, entA, hF⟩ ?_)
 clear hF
 rintro m2 _ _ ⟨g3, k4, rest5, rfl, rfl, hd7, hE, hF⟩
 refine K_ent hE ?_
 clear hE
 refine K_pure (c := crd (RdS 3 rdInt) v0_0.v a_a) .h crd_bound (fun hbd12 => ?_)
 rcases rest5 with _ | ⟨x6, rest5⟩
 · have hk8 := List.drop_eq_nil_iff.1 hd7
   rw [l_eqIntS_L1] at hF
   iterate 7 refine au ?_
   refine CdF ?_
   iterate 8 refine au ?_
   cases hF
   exact Er ()
 obtain ⟨hk8, hx9, hd10⟩ := drop_cons hd7
 rw [l_eqIntS_L1] at hF
 iterate 7 refine au ?_
 refine CdT ?_
 iterate 2 refine au ?_
 refine K_draw [0, 1, 2, 3, 4, 5, 6, 7, 8] [0, 0, 3, 7, 0, 0, 48, 112, 255] [] mixed (by decide +kernel) ?_
 iterate 2 refine du ?_
 refine Di hx9 (fun k13 j14 => ?_)
 refine Dl ls3_0 ?_
 iterate 2 refine du ?_
 obtain ⟨x15, hx16, hF⟩ := bind_some hF
 obtain ⟨hp17, hx18⟩ := ix_some hx16
 refine Di hx18 (fun k19 j20 => ?_)
 refine Dl ls3_0 ?_
 iterate 2 refine du ?_
 refine Cc (fun hb22 => ?_) (fun hb22 => ?_)
 · rw [if_pos hb22] at hF
   iterate 4 refine au ?_
   cases hF
   exact Er ()
 rw [if_neg (nt hb22)] at hF
 iterate 6 refine au ?_
 rw [wk k4]
 exact ⟨_, Nat.lt_succ_self _, _, k4 + 1, rest5, rfl, eqA, hd10, entA, hF⟩
def l_eqIntSS_L1 (a_b : List (List Int)) : List (List Int) → Nat → Option (Bool)
 | [], k4 => some true
 | x6 :: rest5, k4 => (ix a_b (k4 : Int)).bind fun x16 =>
   (l_eqIntS x6 x16).bind fun r23 =>
   if (!r23) then (
     some false)
   else (
     l_eqIntSS_L1 a_b rest5 (k4 + 1))
def l_eqIntSS (a_a : List (List Int)) (a_b : List (List Int)) : Option (Bool) :=
 if (((a_a.length : Int) : Int) != (a_b.length : Int)) then (
   some false)
 else (
   l_eqIntSS_L1 a_b a_a 0)
theorem l_eqIntSS_ok (a_a : List (List Int)) (v0_0 : Sv) (a_b : List (List Int)) (v1_0 : Sv) (R : Bool) (hF : l_eqIntSS a_a a_b = some R) :
   Fw.Spec Tryz.prog 15 [v0_0.v, v1_0.v] [crd (RdS 22 (RdS 3 rdInt)) v0_0.v a_a, crd (RdS 22 (RdS 3 rdInt)) v1_0.v a_b] (fun _ : Unit => (.bool R)) (fun _ => []) := by
 refine Spec_enter (n := 27) Tryz.func15 rfl rfl (rs := [.tmp 4]) rfl rfl rfl ?_
 intro H0 F0
 unfold l_eqIntSS at hF
 iterate 11 refine au ?_
 refine Cc (fun hb28 => ?_) (fun hb28 => ?_)
 · rw [if_pos hb28] at hF
   iterate 4 refine au ?_
   cases hF
   exact Er ()
 rw [if_neg (nt hb28)] at hF
 iterate 5 refine au ?_
 refine CW_block (CW_loop (m := a_a.length) (fun m2 f' cs' => ∃ (g : Fr) (k4 : Nat) (rest5 : List (List Int)), m2 = rest5.length ∧ f' = updL g [(0, v0_0.v), (1, v1_0.v), (5, (.int .i64 (k4 : Int)))] ∧ List.drop k4 a_a = rest5 ∧ Ent cs' [crd (RdS 22 (RdS 3 rdInt)) v0_0.v a_a, crd (RdS 22 (RdS 3 rdInt)) v1_0.v a_b] ∧ l_eqIntSS_L1 a_b rest5 k4 = some R) ⟨_, 0, _, rfl, eqA, rfl, entA, hF⟩ ?_)
 clear hF
 rintro m2 _ _ ⟨g3, k4, rest5, rfl, rfl, hd7, hE, hF⟩
 refine K_ent hE ?_
 clear hE
 refine K_pure (c := crd (RdS 22 (RdS 3 rdInt)) v0_0.v a_a) .h crd_bound (fun hbd12 => ?_)
 rcases rest5 with _ | ⟨x6, rest5⟩
 · have hk8 := List.drop_eq_nil_iff.1 hd7
   rw [l_eqIntSS_L1] at hF
   iterate 7 refine au ?_
   refine CdF ?_
   iterate 8 refine au ?_
   cases hF
   exact Er ()
 obtain ⟨hk8, hx9, hd10⟩ := drop_cons hd7
 rw [l_eqIntSS_L1] at hF
 iterate 7 refine au ?_
 refine CdT ?_
 iterate 2 refine au ?_
 refine K_draw [0, 1, 2, 3, 4, 5, 6, 7, 8, 9] [0, 0, 3, 7, 0, 0, 48, 112, 255, 511] [8] mixed (by decide +kernel) ?_
 iterate 2 refine du ?_
 refine Di hx9 (fun k13 j14 => ?_)
 refine D_ldV (R' := (RdS 3 rdInt)) ag22.h rfl .no (.tmp rfl rfl) rfl .h lv22_0 (fun w15 => ?_)
 iterate 2 refine du ?_
 obtain ⟨x16, hx17, hF⟩ := bind_some hF
 obtain ⟨hp18, hx19⟩ := ix_some hx17
 refine Di hx19 (fun k20 j21 => ?_)
 refine D_ldV (R' := (RdS 3 rdInt)) ag22.h rfl .no (.tmp rfl rfl) rfl .h lv22_0 (fun w22 => ?_)
 obtain ⟨r23, hx24, hF⟩ := bind_some hF
 refine Dx0 (l_eqIntS_ok _ _ _ _ _ hx24) (fun _ => ?_)
 iterate 2 refine du ?_
 refine Cc (fun hb27 => ?_) (fun hb27 => ?_)
 · rw [if_pos hb27] at hF
   iterate 4 refine au ?_
   cases hF
   exact Er ()
 rw [if_neg (nt hb27)] at hF
 iterate 6 refine au ?_
 rw [wk k4]
 exact ⟨_, Nat.lt_succ_self _, _, k4 + 1, rest5, rfl, eqA, hd10, entA, hF⟩
def l_eqMethod (a_a : Method) (a_b : Method) : Option (Bool) :=
 if ((a_a.Rel : Int) != a_b.Rel) then (
   some false)
 else (
   (l_eqIntS a_a.Inputs a_b.Inputs).bind fun r3 =>
   if (!r3) then (
     some false)
   else (
     if ((a_a.Limit : Int) != a_b.Limit) then (
       some false)
     else (
       if ((a_a.Cost : Int) != a_b.Cost) then (
         some false)
       else (
         if ((a_a.Quota : Int) != a_b.Quota) then (
           some false)
         else (
           some true)))))
theorem l_eqMethod_ok (a_a : Method) (v0_1 : Sv) (a_b : Method) (v1_1 : Sv) (R : Bool) (hF : l_eqMethod a_a a_b = some R) :
   Fw.Spec Tryz.prog 50 [(.agg [(.int .i64 a_a.Rel), v0_1.v, (.int .i64 a_a.Limit), (.int .i64 a_a.Cost), (.int .i64 a_a.Quota)].toArray), (.agg [(.int .i64 a_b.Rel), v1_1.v, (.int .i64 a_b.Limit), (.int .i64 a_b.Cost), (.int .i64 a_b.Quota)].toArray)] [crd (RdS 3 rdInt) v0_1.v a_a.Inputs, crd (RdS 3 rdInt) v1_1.v a_b.Inputs] (fun _ : Unit => (.bool R)) (fun _ => []) := by
 refine Spec_enter (n := 31) Tryz.func50 rfl rfl (rs := [.tmp 4]) rfl rfl rfl ?_
 intro H0 F0
 unfold l_eqMethod at hF
 refine au ?_
 refine AbR (fun k1 => ?_)
 refine AbR (fun k2 => ?_)
 iterate 10 refine au ?_
 refine Cc (fun hb10 => ?_) (fun hb10 => ?_)
 · rw [if_pos hb10] at hF
   iterate 4 refine au ?_
   cases hF
   exact Er ()
 rw [if_neg (nt hb10)] at hF
 iterate 7 refine au ?_
 obtain ⟨r3, hx4, hF⟩ := bind_some hF
 refine Cx0 (l_eqIntS_ok _ _ _ _ _ hx4) (fun _ => ?_)
 iterate 2 refine au ?_
 refine Cc (fun hb9 => ?_) (fun hb9 => ?_)
 · rw [if_pos hb9] at hF
   iterate 4 refine au ?_
   cases hF
   exact Er ()
 rw [if_neg (nt hb9)] at hF
 iterate 9 refine au ?_
 refine Cc (fun hb8 => ?_) (fun hb8 => ?_)
 · rw [if_pos hb8] at hF
   iterate 4 refine au ?_
   cases hF
   exact Er ()
 rw [if_neg (nt hb8)] at hF
 iterate 9 refine au ?_
 refine Cc (fun hb7 => ?_) (fun hb7 => ?_)
 · rw [if_pos hb7] at hF
   iterate 4 refine au ?_
   cases hF
   exact Er ()
 rw [if_neg (nt hb7)] at hF
 iterate 9 refine au ?_
 refine Cc (fun hb6 => ?_) (fun hb6 => ?_)
 · rw [if_pos hb6] at hF
   iterate 4 refine au ?_
   cases hF
   exact Er ()
 rw [if_neg (nt hb6)] at hF
 iterate 5 refine au ?_
 cases hF
 exact Er ()
def l_eqMethodS_L1 (a_b : List Method) : List Method → Nat → Option (Bool)
 | [], k4 => some true
 | x6 :: rest5, k4 => (ix a_b (k4 : Int)).bind fun x16 =>
   (l_eqMethod x6 x16).bind fun r23 =>
   if (!r23) then (
     some false)
   else (
     l_eqMethodS_L1 a_b rest5 (k4 + 1))
def l_eqMethodS (a_a : List Method) (a_b : List Method) : Option (Bool) :=
 if (((a_a.length : Int) : Int) != (a_b.length : Int)) then (
   some false)
 else (
   l_eqMethodS_L1 a_b a_a 0)
theorem l_eqMethodS_ok (a_a : List Method) (v0_0 : Sv) (a_b : List Method) (v1_0 : Sv) (R : Bool) (hF : l_eqMethodS a_a a_b = some R) :
   Fw.Spec Tryz.prog 17 [v0_0.v, v1_0.v] [crd (RdS 77 rd77) v0_0.v a_a, crd (RdS 77 rd77) v1_0.v a_b] (fun _ : Unit => (.bool R)) (fun _ => []) := by
 refine Spec_enter (n := 27) Tryz.func17 rfl rfl (rs := [.tmp 4]) rfl rfl rfl ?_
 intro H0 F0
 unfold l_eqMethodS at hF
 iterate 11 refine au ?_
 refine Cc (fun hb28 => ?_) (fun hb28 => ?_)
 · rw [if_pos hb28] at hF
   iterate 4 refine au ?_
   cases hF
   exact Er ()
 rw [if_neg (nt hb28)] at hF
 iterate 5 refine au ?_
 refine CW_block (CW_loop (m := a_a.length) (fun m2 f' cs' => ∃ (g : Fr) (k4 : Nat) (rest5 : List Method), m2 = rest5.length ∧ f' = updL g [(0, v0_0.v), (1, v1_0.v), (5, (.int .i64 (k4 : Int)))] ∧ List.drop k4 a_a = rest5 ∧ Ent cs' [crd (RdS 77 rd77) v0_0.v a_a, crd (RdS 77 rd77) v1_0.v a_b] ∧ l_eqMethodS_L1 a_b rest5 k4 = some R) ⟨_, 0, _, rfl, eqA, rfl, entA, hF⟩ ?_)
 clear hF
 rintro m2 _ _ ⟨g3, k4, rest5, rfl, rfl, hd7, hE, hF⟩
 refine K_ent hE ?_
 clear hE
 refine K_pure (c := crd (RdS 77 rd77) v0_0.v a_a) .h crd_bound (fun hbd12 => ?_)
 rcases rest5 with _ | ⟨x6, rest5⟩
 · have hk8 := List.drop_eq_nil_iff.1 hd7
   rw [l_eqMethodS_L1] at hF
   iterate 7 refine au ?_
   refine CdF ?_
   iterate 8 refine au ?_
   cases hF
   exact Er ()
 obtain ⟨hk8, hx9, hd10⟩ := drop_cons hd7
 rw [l_eqMethodS_L1] at hF
 iterate 7 refine au ?_
 refine CdT ?_
 iterate 2 refine au ?_
 refine K_draw [0, 1, 2, 3, 4, 5, 6, 7, 8, 9] [0, 0, 3, 7, 0, 0, 48, 112, 255, 511] [8] mixed (by decide +kernel) ?_
 iterate 2 refine du ?_
 refine Di hx9 (fun k13 j14 => ?_)
 refine DlA1 (ul77_0_77 x6) la77_0_77 (fun p15 => ?_)
 iterate 2 refine du ?_
 obtain ⟨x16, hx17, hF⟩ := bind_some hF
 obtain ⟨hp18, hx19⟩ := ix_some hx17
 refine Di hx19 (fun k20 j21 => ?_)
 refine DlA1 (ul77_0_77 x16) la77_0_77 (fun p22 => ?_)
 obtain ⟨r23, hx24, hF⟩ := bind_some hF
 refine Dx0 (l_eqMethod_ok _ _ _ _ _ hx24) (fun _ => ?_)
 iterate 2 refine du ?_
 refine Cc (fun hb27 => ?_) (fun hb27 => ?_)
 · rw [if_pos hb27] at hF
   iterate 4 refine au ?_
   cases hF
   exact Er ()
 rw [if_neg (nt hb27)] at hF
 iterate 6 refine au ?_
 rw [wk k4]
 exact ⟨_, Nat.lt_succ_self _, _, k4 + 1, rest5, rfl, eqA, hd10, entA, hF⟩
def l_eqAtom (a_a : Atom) (a_b : Atom) : Option (Bool) :=
 if ((a_a.Rel : Int) != a_b.Rel) then (
   some false)
 else (
   (l_eqIntS a_a.Terms a_b.Terms).bind fun r3 =>
   if (!r3) then (
     some false)
   else (
     some true))
theorem l_eqAtom_ok (a_a : Atom) (v0_1 : Sv) (a_b : Atom) (v1_1 : Sv) (R : Bool) (hF : l_eqAtom a_a a_b = some R) :
   Fw.Spec Tryz.prog 86 [(.agg [(.int .i64 a_a.Rel), v0_1.v].toArray), (.agg [(.int .i64 a_b.Rel), v1_1.v].toArray)] [crd (RdS 3 rdInt) v0_1.v a_a.Terms, crd (RdS 3 rdInt) v1_1.v a_b.Terms] (fun _ : Unit => (.bool R)) (fun _ => []) := by
 refine Spec_enter (n := 16) Tryz.func86 rfl rfl (rs := [.tmp 4]) rfl rfl rfl ?_
 intro H0 F0
 unfold l_eqAtom at hF
 refine au ?_
 refine AbR (fun k1 => ?_)
 refine AbR (fun k2 => ?_)
 iterate 10 refine au ?_
 refine Cc (fun hb7 => ?_) (fun hb7 => ?_)
 · rw [if_pos hb7] at hF
   iterate 4 refine au ?_
   cases hF
   exact Er ()
 rw [if_neg (nt hb7)] at hF
 iterate 7 refine au ?_
 obtain ⟨r3, hx4, hF⟩ := bind_some hF
 refine Cx0 (l_eqIntS_ok _ _ _ _ _ hx4) (fun _ => ?_)
 iterate 2 refine au ?_
 refine Cc (fun hb6 => ?_) (fun hb6 => ?_)
 · rw [if_pos hb6] at hF
   iterate 4 refine au ?_
   cases hF
   exact Er ()
 rw [if_neg (nt hb6)] at hF
 iterate 5 refine au ?_
 cases hF
 exact Er ()
def l_eqAtomS_L1 (a_b : List Atom) : List Atom → Nat → Option (Bool)
 | [], k4 => some true
 | x6 :: rest5, k4 => (ix a_b (k4 : Int)).bind fun x16 =>
   (l_eqAtom x6 x16).bind fun r23 =>
   if (!r23) then (
     some false)
   else (
     l_eqAtomS_L1 a_b rest5 (k4 + 1))
def l_eqAtomS (a_a : List Atom) (a_b : List Atom) : Option (Bool) :=
 if (((a_a.length : Int) : Int) != (a_b.length : Int)) then (
   some false)
 else (
   l_eqAtomS_L1 a_b a_a 0)
theorem l_eqAtomS_ok (a_a : List Atom) (v0_0 : Sv) (a_b : List Atom) (v1_0 : Sv) (R : Bool) (hF : l_eqAtomS a_a a_b = some R) :
   Fw.Spec Tryz.prog 51 [v0_0.v, v1_0.v] [crd (RdS 102 rd102) v0_0.v a_a, crd (RdS 102 rd102) v1_0.v a_b] (fun _ : Unit => (.bool R)) (fun _ => []) := by
 refine Spec_enter (n := 27) Tryz.func51 rfl rfl (rs := [.tmp 4]) rfl rfl rfl ?_
 intro H0 F0
 unfold l_eqAtomS at hF
 iterate 11 refine au ?_
 refine Cc (fun hb28 => ?_) (fun hb28 => ?_)
 · rw [if_pos hb28] at hF
   iterate 4 refine au ?_
   cases hF
   exact Er ()
 rw [if_neg (nt hb28)] at hF
 iterate 5 refine au ?_
 refine CW_block (CW_loop (m := a_a.length) (fun m2 f' cs' => ∃ (g : Fr) (k4 : Nat) (rest5 : List Atom), m2 = rest5.length ∧ f' = updL g [(0, v0_0.v), (1, v1_0.v), (5, (.int .i64 (k4 : Int)))] ∧ List.drop k4 a_a = rest5 ∧ Ent cs' [crd (RdS 102 rd102) v0_0.v a_a, crd (RdS 102 rd102) v1_0.v a_b] ∧ l_eqAtomS_L1 a_b rest5 k4 = some R) ⟨_, 0, _, rfl, eqA, rfl, entA, hF⟩ ?_)
 clear hF
 rintro m2 _ _ ⟨g3, k4, rest5, rfl, rfl, hd7, hE, hF⟩
 refine K_ent hE ?_
 clear hE
 refine K_pure (c := crd (RdS 102 rd102) v0_0.v a_a) .h crd_bound (fun hbd12 => ?_)
 rcases rest5 with _ | ⟨x6, rest5⟩
 · have hk8 := List.drop_eq_nil_iff.1 hd7
   rw [l_eqAtomS_L1] at hF
   iterate 7 refine au ?_
   refine CdF ?_
   iterate 8 refine au ?_
   cases hF
   exact Er ()
 obtain ⟨hk8, hx9, hd10⟩ := drop_cons hd7
 rw [l_eqAtomS_L1] at hF
 iterate 7 refine au ?_
 refine CdT ?_
 iterate 2 refine au ?_
 refine K_draw [0, 1, 2, 3, 4, 5, 6, 7, 8, 9] [0, 0, 3, 7, 0, 0, 48, 112, 255, 511] [8] mixed (by decide +kernel) ?_
 iterate 2 refine du ?_
 refine Di hx9 (fun k13 j14 => ?_)
 refine DlA1 (ul102_0_102 x6) la102_0_102 (fun p15 => ?_)
 iterate 2 refine du ?_
 obtain ⟨x16, hx17, hF⟩ := bind_some hF
 obtain ⟨hp18, hx19⟩ := ix_some hx17
 refine Di hx19 (fun k20 j21 => ?_)
 refine DlA1 (ul102_0_102 x16) la102_0_102 (fun p22 => ?_)
 obtain ⟨r23, hx24, hF⟩ := bind_some hF
 refine Dx0 (l_eqAtom_ok _ _ _ _ _ hx24) (fun _ => ?_)
 iterate 2 refine du ?_
 refine Cc (fun hb27 => ?_) (fun hb27 => ?_)
 · rw [if_pos hb27] at hF
   iterate 4 refine au ?_
   cases hF
   exact Er ()
 rw [if_neg (nt hb27)] at hF
 iterate 6 refine au ?_
 rw [wk k4]
 exact ⟨_, Nat.lt_succ_self _, _, k4 + 1, rest5, rfl, eqA, hd10, entA, hF⟩
def l_eqQuery (a_a : Query) (a_b : Query) : Option (Bool) :=
 (l_eqIntS a_a.Head a_b.Head).bind fun r3 =>
 if (!r3) then (
   some false)
 else (
   (l_eqAtomS a_a.Atoms a_b.Atoms).bind fun r6 =>
   if (!r6) then (
     some false)
   else (
     some true))
theorem l_eqQuery_ok (a_a : Query) (v0_0 : Sv) (v0_1 : Sv) (a_b : Query) (v1_0 : Sv) (v1_1 : Sv) (R : Bool) (hF : l_eqQuery a_a a_b = some R) :
   Fw.Spec Tryz.prog 18 [(.agg [v0_0.v, v0_1.v].toArray), (.agg [v1_0.v, v1_1.v].toArray)] [crd (RdS 3 rdInt) v0_0.v a_a.Head, crd (RdS 102 rd102) v0_1.v a_a.Atoms, crd (RdS 3 rdInt) v1_0.v a_b.Head, crd (RdS 102 rd102) v1_1.v a_b.Atoms] (fun _ : Unit => (.bool R)) (fun _ => []) := by
 refine Spec_enter (n := 17) Tryz.func18 rfl rfl (rs := [.tmp 4]) rfl rfl rfl ?_
 intro H0 F0
 unfold l_eqQuery at hF
 refine au ?_
 refine AbR (fun k1 => ?_)
 refine AbR (fun k2 => ?_)
 iterate 8 refine au ?_
 obtain ⟨r3, hx4, hF⟩ := bind_some hF
 refine Cx0 (l_eqIntS_ok _ _ _ _ _ hx4) (fun _ => ?_)
 iterate 2 refine au ?_
 refine Cc (fun hb10 => ?_) (fun hb10 => ?_)
 · rw [if_pos hb10] at hF
   iterate 4 refine au ?_
   cases hF
   exact Er ()
 rw [if_neg (nt hb10)] at hF
 iterate 7 refine au ?_
 obtain ⟨r6, hx7, hF⟩ := bind_some hF
 refine Cx0 (l_eqAtomS_ok _ _ _ _ _ hx7) (fun _ => ?_)
 iterate 2 refine au ?_
 refine Cc (fun hb9 => ?_) (fun hb9 => ?_)
 · rw [if_pos hb9] at hF
   iterate 4 refine au ?_
   cases hF
   exact Er ()
 rw [if_neg (nt hb9)] at hF
 iterate 5 refine au ?_
 cases hF
 exact Er ()
def l_eqFact (a_a : Fact) (a_b : Fact) : Option (Bool) :=
 if ((a_a.Rel : Int) != a_b.Rel) then (
   some false)
 else (
   (l_eqIntS a_a.Values a_b.Values).bind fun r3 =>
   if (!r3) then (
     some false)
   else (
     some true))
theorem l_eqFact_ok (a_a : Fact) (v0_1 : Sv) (a_b : Fact) (v1_1 : Sv) (R : Bool) (hF : l_eqFact a_a a_b = some R) :
   Fw.Spec Tryz.prog 52 [(.agg [(.int .i64 a_a.Rel), v0_1.v].toArray), (.agg [(.int .i64 a_b.Rel), v1_1.v].toArray)] [crd (RdS 3 rdInt) v0_1.v a_a.Values, crd (RdS 3 rdInt) v1_1.v a_b.Values] (fun _ : Unit => (.bool R)) (fun _ => []) := by
 refine Spec_enter (n := 16) Tryz.func52 rfl rfl (rs := [.tmp 4]) rfl rfl rfl ?_
 intro H0 F0
 unfold l_eqFact at hF
 refine au ?_
 refine AbR (fun k1 => ?_)
 refine AbR (fun k2 => ?_)
 iterate 10 refine au ?_
 refine Cc (fun hb7 => ?_) (fun hb7 => ?_)
 · rw [if_pos hb7] at hF
   iterate 4 refine au ?_
   cases hF
   exact Er ()
 rw [if_neg (nt hb7)] at hF
 iterate 7 refine au ?_
 obtain ⟨r3, hx4, hF⟩ := bind_some hF
 refine Cx0 (l_eqIntS_ok _ _ _ _ _ hx4) (fun _ => ?_)
 iterate 2 refine au ?_
 refine Cc (fun hb6 => ?_) (fun hb6 => ?_)
 · rw [if_pos hb6] at hF
   iterate 4 refine au ?_
   cases hF
   exact Er ()
 rw [if_neg (nt hb6)] at hF
 iterate 5 refine au ?_
 cases hF
 exact Er ()
def l_eqFactS_L1 (a_b : List Fact) : List Fact → Nat → Option (Bool)
 | [], k4 => some true
 | x6 :: rest5, k4 => (ix a_b (k4 : Int)).bind fun x16 =>
   (l_eqFact x6 x16).bind fun r23 =>
   if (!r23) then (
     some false)
   else (
     l_eqFactS_L1 a_b rest5 (k4 + 1))
def l_eqFactS (a_a : List Fact) (a_b : List Fact) : Option (Bool) :=
 if (((a_a.length : Int) : Int) != (a_b.length : Int)) then (
   some false)
 else (
   l_eqFactS_L1 a_b a_a 0)
theorem l_eqFactS_ok (a_a : List Fact) (v0_0 : Sv) (a_b : List Fact) (v1_0 : Sv) (R : Bool) (hF : l_eqFactS a_a a_b = some R) :
   Fw.Spec Tryz.prog 19 [v0_0.v, v1_0.v] [crd (RdS 80 rd80) v0_0.v a_a, crd (RdS 80 rd80) v1_0.v a_b] (fun _ : Unit => (.bool R)) (fun _ => []) := by
 refine Spec_enter (n := 27) Tryz.func19 rfl rfl (rs := [.tmp 4]) rfl rfl rfl ?_
 intro H0 F0
 unfold l_eqFactS at hF
 iterate 11 refine au ?_
 refine Cc (fun hb28 => ?_) (fun hb28 => ?_)
 · rw [if_pos hb28] at hF
   iterate 4 refine au ?_
   cases hF
   exact Er ()
 rw [if_neg (nt hb28)] at hF
 iterate 5 refine au ?_
 refine CW_block (CW_loop (m := a_a.length) (fun m2 f' cs' => ∃ (g : Fr) (k4 : Nat) (rest5 : List Fact), m2 = rest5.length ∧ f' = updL g [(0, v0_0.v), (1, v1_0.v), (5, (.int .i64 (k4 : Int)))] ∧ List.drop k4 a_a = rest5 ∧ Ent cs' [crd (RdS 80 rd80) v0_0.v a_a, crd (RdS 80 rd80) v1_0.v a_b] ∧ l_eqFactS_L1 a_b rest5 k4 = some R) ⟨_, 0, _, rfl, eqA, rfl, entA, hF⟩ ?_)
 clear hF
 rintro m2 _ _ ⟨g3, k4, rest5, rfl, rfl, hd7, hE, hF⟩
 refine K_ent hE ?_
 clear hE
 refine K_pure (c := crd (RdS 80 rd80) v0_0.v a_a) .h crd_bound (fun hbd12 => ?_)
 rcases rest5 with _ | ⟨x6, rest5⟩
 · have hk8 := List.drop_eq_nil_iff.1 hd7
   rw [l_eqFactS_L1] at hF
   iterate 7 refine au ?_
   refine CdF ?_
   iterate 8 refine au ?_
   cases hF
   exact Er ()
 obtain ⟨hk8, hx9, hd10⟩ := drop_cons hd7
 rw [l_eqFactS_L1] at hF
 iterate 7 refine au ?_
 refine CdT ?_
 iterate 2 refine au ?_
 refine K_draw [0, 1, 2, 3, 4, 5, 6, 7, 8, 9] [0, 0, 3, 7, 0, 0, 48, 112, 255, 511] [8] mixed (by decide +kernel) ?_
 iterate 2 refine du ?_
 refine Di hx9 (fun k13 j14 => ?_)
 refine DlA1 (ul80_0_80 x6) la80_0_80 (fun p15 => ?_)
 iterate 2 refine du ?_
 obtain ⟨x16, hx17, hF⟩ := bind_some hF
 obtain ⟨hp18, hx19⟩ := ix_some hx17
 refine Di hx19 (fun k20 j21 => ?_)
 refine DlA1 (ul80_0_80 x16) la80_0_80 (fun p22 => ?_)
 obtain ⟨r23, hx24, hF⟩ := bind_some hF
 refine Dx0 (l_eqFact_ok _ _ _ _ _ hx24) (fun _ => ?_)
 iterate 2 refine du ?_
 refine Cc (fun hb27 => ?_) (fun hb27 => ?_)
 · rw [if_pos hb27] at hF
   iterate 4 refine au ?_
   cases hF
   exact Er ()
 rw [if_neg (nt hb27)] at hF
 iterate 6 refine au ?_
 rw [wk k4]
 exact ⟨_, Nat.lt_succ_self _, _, k4 + 1, rest5, rfl, eqA, hd10, entA, hF⟩
def l_markIntS_L1 : Nat → (List Int) → Int → Int → Option (Int × (List Int))
 | 0, _, _, _ => none
 | m23 + 1, c19, c21, c22 => if (decide ((c22 : Int) < (c19.length : Int))) then (
     (chk (decide (0 ≤ c22) && decide (c22 < (c19.length : Int)))).bind fun u34 =>
     (some (c19.set (c22).toNat c21)).bind fun z36 =>
     l_markIntS_L1 m23 z36 (IntKind.i64.wrap (c21 + 1)) (IntKind.i64.wrap (c22 + 1)))
   else (
     some (c21, c19))
def l_markIntS (a_a : List Int) (a_k : Int) : Option (Int × (List Int)) :=
 l_markIntS_L1 (((a_a.length : Int) - 0).toNat + 2) a_a a_k 0
theorem l_markIntS_ok (a_a : List Int) (v0_0 : Sv) (F0_0 : List Nat) (a_k : Int) (R : Int × (List Int)) (hF : l_markIntS a_a a_k = some R) :
   Fw.Spec Tryz.prog 20 [v0_0.v, (.int .i64 a_k)] [cown (OwnS 3 (roE rdInt)) F0_0 v0_0.v a_a] (fun _ : List Nat => (.int .i64 R.1)) (fun p => [cown (OwnS 3 (roE rdInt)) p v0_0.v R.2]) := by
 refine Spec_enter (n := 19) Tryz.func20 rfl rfl (rs := [.tmp 4]) rfl rfl rfl ?_
 intro H0 F0
 unfold l_markIntS at hF
 iterate 7 refine au ?_
 refine CW_block (CW_loop (m := (((a_a.length : Int) - 0).toNat + 2)) (fun m23 f' cs' => ∃ (g : Fr) (c19 : List Int) (c21 : Int) (c22 : Int) (F20 : List Nat), f' = updL g [(0, v0_0.v), (1, (.int .i64 c21)), (5, (.int .i64 c22))] ∧ Ent cs' [cown (OwnS 3 (roE rdInt)) F20 v0_0.v c19] ∧ l_markIntS_L1 m23 c19 c21 c22 = some R) ⟨_, _, _, _, F0_0, eqA, entA, hF⟩ ?_)
 clear hF
 rintro m23 _ _ ⟨g24, c19, c21, c22, F20, rfl, hE, hF⟩
 refine K_ent hE ?_
 clear hE
 rcases m23 with _ | m23
 · rw [l_markIntS_L1] at hF
   exact absurd hF (by simp)
 rw [l_markIntS_L1] at hF
 iterate 7 refine au ?_
 refine Cc (fun hb39 => ?_) (fun hb39 => ?_)
 · rw [if_pos hb39] at hF
   iterate 6 refine au ?_
   obtain ⟨u34, hx35, hF⟩ := bind_some hF
   have hi33 := chk_some hx35
   refine C_idxO sl22.h ty3.h.sz (.tmp rfl rfl) (.tmp rfl rfl) .h hi33 (fun k31 hk32 => ?_)
   obtain ⟨z36, hx37, hF⟩ := bind_some hF
   replace hx37 := Option.some.inj hx37
   refine C_x1 (.cons .h .nil) (X_storeO (Ro := (roE rdInt)) (a := c21) (i := c22) ty3.h.sz rfl (.tmp rfl rfl) (.tmp rfl rfl) hk32 hi33 (Mk_pure (fun _ => rfl)) (fun _ _ _ _ h => by obtain ⟨-, h⟩ := h; cases h; rfl)) (fun F38 => ?_)
   rw [hx37]
   iterate 11 refine au ?_
   exact ⟨m23, Nat.lt_succ_self _, _, _, _, _, F38, eqA, entA, hF⟩
 rw [if_neg (nt hb39)] at hF
 iterate 9 refine au ?_
 cases hF
 exact Er F20
def l_markMethodS_L1 : Nat → (List Method) → Int → Int → Option (Int × (List Method))
 | 0, _, _, _ => none
 | m64 + 1, c60, c62, c63 => if (decide ((c63 : Int) < (c60.length : Int))) then (
     (ix c60 c63).bind fun x75 =>
     (some (c60.set (c63).toNat { x75 with Rel := c62 })).bind fun z79 =>
     (ix z79 c63).bind fun x84 =>
     (l_markIntS x84.Inputs (IntKind.i64.wrap (c62 + 1))).bind fun r89 =>
     (some (z79.set (c63).toNat { x84 with Inputs := r89.2 })).bind fun z92 =>
     (ix z92 c63).bind fun x97 =>
     (some (z92.set (c63).toNat { x97 with Limit := r89.1 })).bind fun z101 =>
     (ix z101 c63).bind fun x106 =>
     (some (z101.set (c63).toNat { x106 with Cost := (IntKind.i64.wrap (r89.1 + 1)) })).bind fun z110 =>
     (ix z110 c63).bind fun x115 =>
     (some (z110.set (c63).toNat { x115 with Quota := (IntKind.i64.wrap ((IntKind.i64.wrap (r89.1 + 1)) + 1)) })).bind fun z119 =>
     l_markMethodS_L1 m64 z119 (IntKind.i64.wrap ((IntKind.i64.wrap ((IntKind.i64.wrap (r89.1 + 1)) + 1)) + 1)) (IntKind.i64.wrap (c63 + 1)))
   else (
     some (c62, c60))
def l_markMethodS (a_a : List Method) (a_k : Int) : Option (Int × (List Method)) :=
 l_markMethodS_L1 (((a_a.length : Int) - 0).toNat + 2) a_a a_k 0
theorem l_markMethodS_ok (a_a : List Method) (v0_0 : Sv) (F0_0 : List Nat) (a_k : Int) (R : Int × (List Method)) (hF : l_markMethodS a_a a_k = some R) :
   Fw.Spec Tryz.prog 21 [v0_0.v, (.int .i64 a_k)] [cown (OwnS 77 ow77) F0_0 v0_0.v a_a] (fun _ : List Nat => (.int .i64 R.1)) (fun p => [cown (OwnS 77 ow77) p v0_0.v R.2]) := by
 refine Spec_enter (n := 48) Tryz.func21 rfl rfl (rs := [.tmp 4]) rfl rfl rfl ?_
 intro H0 F0
 unfold l_markMethodS at hF
 iterate 7 refine au ?_
 refine CW_block (CW_loop (m := (((a_a.length : Int) - 0).toNat + 2)) (fun m64 f' cs' => ∃ (g : Fr) (c60 : List Method) (c62 : Int) (c63 : Int) (F61 : List Nat), f' = updL g [(0, v0_0.v), (1, (.int .i64 c62)), (5, (.int .i64 c63))] ∧ Ent cs' [cown (OwnS 77 ow77) F61 v0_0.v c60] ∧ l_markMethodS_L1 m64 c60 c62 c63 = some R) ⟨_, _, _, _, F0_0, eqA, entA, hF⟩ ?_)
 clear hF
 rintro m64 _ _ ⟨g65, c60, c62, c63, F61, rfl, hE, hF⟩
 refine K_ent hE ?_
 clear hE
 rcases m64 with _ | m64
 · rw [l_markMethodS_L1] at hF
   exact absurd hF (by simp)
 rw [l_markMethodS_L1] at hF
 iterate 7 refine au ?_
 refine Cc (fun hb121 => ?_) (fun hb121 => ?_)
 · rw [if_pos hb121] at hF
   iterate 6 refine au ?_
   obtain ⟨x75, hx76, hF⟩ := bind_some hF
   have hi74 := ix_chk hx76
   obtain ⟨hp77, hx78⟩ := ix_some hx76
   refine C_idxO sl34.h ty77.h.sz (.tmp rfl rfl) (.tmp rfl rfl) .h hi74 (fun k72 hk73 => ?_)
   refine au ?_
   obtain ⟨z79, hx80, hF⟩ := bind_some hF
   replace hx80 := Option.some.inj hx80
   refine C_x1 (.cons .h .nil) (X_storeF (Ro := ow77) (i := c63) ty3.h.sz rfl (.tmp rfl rfl) (.tmp rfl rfl) hk73 hx78 rfl rfl fsf77_0 (sf77_0 (d := c62))) (fun _ => ?_)
   rw [hx80]
   iterate 9 refine au ?_
   obtain ⟨x84, hx85, hF⟩ := bind_some hF
   have hi83 := ix_chk hx85
   obtain ⟨hp86, hx87⟩ := ix_some hx85
   refine C_idxO sl34.h ty77.h.sz (.tmp rfl rfl) (.tmp rfl rfl) .h hi83 (fun k81 hk82 => ?_)
   refine au ?_
   refine C_ldOV ag22.h (.tmp rfl rfl) .h hk82 hx87 pt77_1 (fun w88 => ?_)
   refine au ?_
   obtain ⟨r89, hx90, hF⟩ := bind_some hF
   obtain ⟨z92, hx93, hF⟩ := bind_some hF
   replace hx93 := Option.some.inj hx93
   refine C_x1 (.cons .h .nil) (X_part hx87 pt77_1 (fun Fw => X_callS cf20.h (.cons (.tmp rfl rfl) (.cons (.tmp rfl rfl) .nil)) (l_markIntS_ok x84.Inputs w88 Fw (IntKind.i64.wrap (c62 + 1)) _ hx90)) rfl) (fun p91 => ?_)
   rw [hx93]
   iterate 6 refine au ?_
   obtain ⟨x97, hx98, hF⟩ := bind_some hF
   have hi96 := ix_chk hx98
   obtain ⟨hp99, hx100⟩ := ix_some hx98
   refine C_idxO sl34.h ty77.h.sz (.tmp rfl rfl) (.tmp rfl rfl) .h hi96 (fun k94 hk95 => ?_)
   refine au ?_
   obtain ⟨z101, hx102, hF⟩ := bind_some hF
   replace hx102 := Option.some.inj hx102
   refine C_x1 (.cons .h .nil) (X_storeF (Ro := ow77) (i := c63) ty3.h.sz rfl (.tmp rfl rfl) (.tmp rfl rfl) hk95 hx100 rfl rfl fsf77_2 (sf77_2 (d := r89.1))) (fun _ => ?_)
   rw [hx102]
   iterate 10 refine au ?_
   obtain ⟨x106, hx107, hF⟩ := bind_some hF
   have hi105 := ix_chk hx107
   obtain ⟨hp108, hx109⟩ := ix_some hx107
   refine C_idxO sl34.h ty77.h.sz (.tmp rfl rfl) (.tmp rfl rfl) .h hi105 (fun k103 hk104 => ?_)
   refine au ?_
   obtain ⟨z110, hx111, hF⟩ := bind_some hF
   replace hx111 := Option.some.inj hx111
   refine C_x1 (.cons .h .nil) (X_storeF (Ro := ow77) (i := c63) ty3.h.sz rfl (.tmp rfl rfl) (.tmp rfl rfl) hk104 hx109 rfl rfl fsf77_3 (sf77_3 (d := (IntKind.i64.wrap (r89.1 + 1))))) (fun _ => ?_)
   rw [hx111]
   iterate 10 refine au ?_
   obtain ⟨x115, hx116, hF⟩ := bind_some hF
   have hi114 := ix_chk hx116
   obtain ⟨hp117, hx118⟩ := ix_some hx116
   refine C_idxO sl34.h ty77.h.sz (.tmp rfl rfl) (.tmp rfl rfl) .h hi114 (fun k112 hk113 => ?_)
   refine au ?_
   obtain ⟨z119, hx120, hF⟩ := bind_some hF
   replace hx120 := Option.some.inj hx120
   refine C_x1 (.cons .h .nil) (X_storeF (Ro := ow77) (i := c63) ty3.h.sz rfl (.tmp rfl rfl) (.tmp rfl rfl) hk113 hx118 rfl rfl fsf77_4 (sf77_4 (d := (IntKind.i64.wrap ((IntKind.i64.wrap (r89.1 + 1)) + 1))))) (fun _ => ?_)
   rw [hx120]
   iterate 11 refine au ?_
   exact ⟨m64, Nat.lt_succ_self _, _, _, _, _, p91.2, eqA, entA, hF⟩
 rw [if_neg (nt hb121)] at hF
 iterate 9 refine au ?_
 cases hF
 exact Er F61
def l_markAtomS_L1 : Nat → (List Atom) → Int → Int → Option (Int × (List Atom))
 | 0, _, _, _ => none
 | m37 + 1, c33, c35, c36 => if (decide ((c36 : Int) < (c33.length : Int))) then (
     (ix c33 c36).bind fun x48 =>
     (some (c33.set (c36).toNat { x48 with Rel := c35 })).bind fun z52 =>
     (ix z52 c36).bind fun x57 =>
     (l_markIntS x57.Terms (IntKind.i64.wrap (c35 + 1))).bind fun r62 =>
     (some (z52.set (c36).toNat { x57 with Terms := r62.2 })).bind fun z65 =>
     l_markAtomS_L1 m37 z65 r62.1 (IntKind.i64.wrap (c36 + 1)))
   else (
     some (c35, c33))
def l_markAtomS (a_a : List Atom) (a_k : Int) : Option (Int × (List Atom)) :=
 l_markAtomS_L1 (((a_a.length : Int) - 0).toNat + 2) a_a a_k 0
theorem l_markAtomS_ok (a_a : List Atom) (v0_0 : Sv) (F0_0 : List Nat) (a_k : Int) (R : Int × (List Atom)) (hF : l_markAtomS a_a a_k = some R) :
   Fw.Spec Tryz.prog 53 [v0_0.v, (.int .i64 a_k)] [cown (OwnS 102 ow102) F0_0 v0_0.v a_a] (fun _ : List Nat => (.int .i64 R.1)) (fun p => [cown (OwnS 102 ow102) p v0_0.v R.2]) := by
 refine Spec_enter (n := 27) Tryz.func53 rfl rfl (rs := [.tmp 4]) rfl rfl rfl ?_
 intro H0 F0
 unfold l_markAtomS at hF
 iterate 7 refine au ?_
 refine CW_block (CW_loop (m := (((a_a.length : Int) - 0).toNat + 2)) (fun m37 f' cs' => ∃ (g : Fr) (c33 : List Atom) (c35 : Int) (c36 : Int) (F34 : List Nat), f' = updL g [(0, v0_0.v), (1, (.int .i64 c35)), (5, (.int .i64 c36))] ∧ Ent cs' [cown (OwnS 102 ow102) F34 v0_0.v c33] ∧ l_markAtomS_L1 m37 c33 c35 c36 = some R) ⟨_, _, _, _, F0_0, eqA, entA, hF⟩ ?_)
 clear hF
 rintro m37 _ _ ⟨g38, c33, c35, c36, F34, rfl, hE, hF⟩
 refine K_ent hE ?_
 clear hE
 rcases m37 with _ | m37
 · rw [l_markAtomS_L1] at hF
   exact absurd hF (by simp)
 rw [l_markAtomS_L1] at hF
 iterate 7 refine au ?_
 refine Cc (fun hb67 => ?_) (fun hb67 => ?_)
 · rw [if_pos hb67] at hF
   iterate 6 refine au ?_
   obtain ⟨x48, hx49, hF⟩ := bind_some hF
   have hi47 := ix_chk hx49
   obtain ⟨hp50, hx51⟩ := ix_some hx49
   refine C_idxO sl36.h ty102.h.sz (.tmp rfl rfl) (.tmp rfl rfl) .h hi47 (fun k45 hk46 => ?_)
   refine au ?_
   obtain ⟨z52, hx53, hF⟩ := bind_some hF
   replace hx53 := Option.some.inj hx53
   refine C_x1 (.cons .h .nil) (X_storeF (Ro := ow102) (i := c36) ty3.h.sz rfl (.tmp rfl rfl) (.tmp rfl rfl) hk46 hx51 rfl rfl fsf102_0 (sf102_0 (d := c35))) (fun _ => ?_)
   rw [hx53]
   iterate 9 refine au ?_
   obtain ⟨x57, hx58, hF⟩ := bind_some hF
   have hi56 := ix_chk hx58
   obtain ⟨hp59, hx60⟩ := ix_some hx58
   refine C_idxO sl36.h ty102.h.sz (.tmp rfl rfl) (.tmp rfl rfl) .h hi56 (fun k54 hk55 => ?_)
   refine au ?_
   refine C_ldOV ag22.h (.tmp rfl rfl) .h hk55 hx60 pt102_1 (fun w61 => ?_)
   refine au ?_
   obtain ⟨r62, hx63, hF⟩ := bind_some hF
   obtain ⟨z65, hx66, hF⟩ := bind_some hF
   replace hx66 := Option.some.inj hx66
   refine C_x1 (.cons .h .nil) (X_part hx60 pt102_1 (fun Fw => X_callS cf20.h (.cons (.tmp rfl rfl) (.cons (.tmp rfl rfl) .nil)) (l_markIntS_ok x57.Terms w61 Fw (IntKind.i64.wrap (c35 + 1)) _ hx63)) rfl) (fun p64 => ?_)
   rw [hx66]
   iterate 7 refine au ?_
   exact ⟨m37, Nat.lt_succ_self _, _, _, _, _, p64.2, eqA, entA, hF⟩
 rw [if_neg (nt hb67)] at hF
 iterate 9 refine au ?_
 cases hF
 exact Er F34
def l_markQuery (a_a : Query) (a_k : Int) : Option (Int × Query) :=
 (l_markIntS a_a.Head a_k).bind fun r2 =>
 (l_markAtomS a_a.Atoms r2.1).bind fun r5 =>
 some (r5.1, ({ Head := r2.2, Atoms := r5.2 } : Query))
theorem l_markQuery_ok (a_a : Query) (v0_0 : Sv) (F0_0 : List Nat) (v0_1 : Sv) (F0_1 : List Nat) (a_k : Int) (R : Int × Query) (hF : l_markQuery a_a a_k = some R) :
   Fw.Spec Tryz.prog 22 [(.agg [v0_0.v, v0_1.v].toArray), (.int .i64 a_k)] [cown (OwnS 3 (roE rdInt)) F0_0 v0_0.v a_a.Head, cown (OwnS 102 ow102) F0_1 v0_1.v a_a.Atoms] (fun _ : List Nat × List Nat => (.int .i64 R.1)) (fun p => [cown (OwnS 3 (roE rdInt)) p.1 v0_0.v R.2.Head, cown (OwnS 102 ow102) p.2 v0_1.v R.2.Atoms]) := by
 refine Spec_enter (n := 14) Tryz.func22 rfl rfl (rs := [.tmp 4]) rfl rfl rfl ?_
 intro H0 F0
 unfold l_markQuery at hF
 refine au ?_
 refine C_newR rfl (N_box (g := false) (v := (.agg [v0_0.v, v0_1.v].toArray)) ty38.h.sz (.tmp rfl rfl) rfl) (fun k1 => ?_)
 iterate 6 refine au ?_
 obtain ⟨r2, hx3, hF⟩ := bind_some hF
 refine C_x1 (.cons (.t .h) .nil) (X_callS cf20.h (.cons (.tmp rfl rfl) (.cons (.tmp rfl rfl) .nil)) (l_markIntS_ok a_a.Head v0_0 F0_0 a_k _ hx3)) (fun p4 => ?_)
 iterate 6 refine au ?_
 obtain ⟨r5, hx6, hF⟩ := bind_some hF
 refine C_x1 (.cons (.t (.t .h)) .nil) (X_callS cf53.h (.cons (.tmp rfl rfl) (.cons (.tmp rfl rfl) .nil)) (l_markAtomS_ok a_a.Atoms v0_1 F0_1 r2.1 _ hx6)) (fun p7 => ?_)
 iterate 7 refine au ?_
 obtain rfl := Option.some.inj hF
 exact End_ret (p4, p7) (.tmp rfl rfl .nil) rfl (.sel (.cons (.t .h) (.cons .h .nil)))
def l_markFactS_L1 : Nat → (List Fact) → Int → Int → Option (Int × (List Fact))
 | 0, _, _, _ => none
 | m37 + 1, c33, c35, c36 => if (decide ((c36 : Int) < (c33.length : Int))) then (
     (ix c33 c36).bind fun x48 =>
     (some (c33.set (c36).toNat { x48 with Rel := c35 })).bind fun z52 =>
     (ix z52 c36).bind fun x57 =>
     (l_markIntS x57.Values (IntKind.i64.wrap (c35 + 1))).bind fun r62 =>
     (some (z52.set (c36).toNat { x57 with Values := r62.2 })).bind fun z65 =>
     l_markFactS_L1 m37 z65 r62.1 (IntKind.i64.wrap (c36 + 1)))
   else (
     some (c35, c33))
def l_markFactS (a_a : List Fact) (a_k : Int) : Option (Int × (List Fact)) :=
 l_markFactS_L1 (((a_a.length : Int) - 0).toNat + 2) a_a a_k 0
theorem l_markFactS_ok (a_a : List Fact) (v0_0 : Sv) (F0_0 : List Nat) (a_k : Int) (R : Int × (List Fact)) (hF : l_markFactS a_a a_k = some R) :
   Fw.Spec Tryz.prog 23 [v0_0.v, (.int .i64 a_k)] [cown (OwnS 80 ow80) F0_0 v0_0.v a_a] (fun _ : List Nat => (.int .i64 R.1)) (fun p => [cown (OwnS 80 ow80) p v0_0.v R.2]) := by
 refine Spec_enter (n := 27) Tryz.func23 rfl rfl (rs := [.tmp 4]) rfl rfl rfl ?_
 intro H0 F0
 unfold l_markFactS at hF
 iterate 7 refine au ?_
 refine CW_block (CW_loop (m := (((a_a.length : Int) - 0).toNat + 2)) (fun m37 f' cs' => ∃ (g : Fr) (c33 : List Fact) (c35 : Int) (c36 : Int) (F34 : List Nat), f' = updL g [(0, v0_0.v), (1, (.int .i64 c35)), (5, (.int .i64 c36))] ∧ Ent cs' [cown (OwnS 80 ow80) F34 v0_0.v c33] ∧ l_markFactS_L1 m37 c33 c35 c36 = some R) ⟨_, _, _, _, F0_0, eqA, entA, hF⟩ ?_)
 clear hF
 rintro m37 _ _ ⟨g38, c33, c35, c36, F34, rfl, hE, hF⟩
 refine K_ent hE ?_
 clear hE
 rcases m37 with _ | m37
 · rw [l_markFactS_L1] at hF
   exact absurd hF (by simp)
 rw [l_markFactS_L1] at hF
 iterate 7 refine au ?_
 refine Cc (fun hb67 => ?_) (fun hb67 => ?_)
 · rw [if_pos hb67] at hF
   iterate 6 refine au ?_
   obtain ⟨x48, hx49, hF⟩ := bind_some hF
   have hi47 := ix_chk hx49
   obtain ⟨hp50, hx51⟩ := ix_some hx49
   refine C_idxO sl40.h ty80.h.sz (.tmp rfl rfl) (.tmp rfl rfl) .h hi47 (fun k45 hk46 => ?_)
   refine au ?_
   obtain ⟨z52, hx53, hF⟩ := bind_some hF
   replace hx53 := Option.some.inj hx53
   refine C_x1 (.cons .h .nil) (X_storeF (Ro := ow80) (i := c36) ty3.h.sz rfl (.tmp rfl rfl) (.tmp rfl rfl) hk46 hx51 rfl rfl fsf80_0 (sf80_0 (d := c35))) (fun _ => ?_)
   rw [hx53]
   iterate 9 refine au ?_
   obtain ⟨x57, hx58, hF⟩ := bind_some hF
   have hi56 := ix_chk hx58
   obtain ⟨hp59, hx60⟩ := ix_some hx58
   refine C_idxO sl40.h ty80.h.sz (.tmp rfl rfl) (.tmp rfl rfl) .h hi56 (fun k54 hk55 => ?_)
   refine au ?_
   refine C_ldOV ag22.h (.tmp rfl rfl) .h hk55 hx60 pt80_1 (fun w61 => ?_)
   refine au ?_
   obtain ⟨r62, hx63, hF⟩ := bind_some hF
   obtain ⟨z65, hx66, hF⟩ := bind_some hF
   replace hx66 := Option.some.inj hx66
   refine C_x1 (.cons .h .nil) (X_part hx60 pt80_1 (fun Fw => X_callS cf20.h (.cons (.tmp rfl rfl) (.cons (.tmp rfl rfl) .nil)) (l_markIntS_ok x57.Values w61 Fw (IntKind.i64.wrap (c35 + 1)) _ hx63)) rfl) (fun p64 => ?_)
   rw [hx66]
   iterate 7 refine au ?_
   exact ⟨m37, Nat.lt_succ_self _, _, _, _, _, p64.2, eqA, entA, hF⟩
 rw [if_neg (nt hb67)] at hF
 iterate 9 refine au ?_
 cases hF
 exact Er F34
def l_markIntSS_L1 : Nat → (List (List Int)) → Int → Int → Option (Int × (List (List Int)))
 | 0, _, _, _ => none
 | m28 + 1, c24, c26, c27 => if (decide ((c27 : Int) < (c24.length : Int))) then (
     (ix c24 c27).bind fun x39 =>
     (l_markIntS x39 c26).bind fun r44 =>
     (some (c24.set (c27).toNat r44.2)).bind fun z47 =>
     l_markIntSS_L1 m28 z47 r44.1 (IntKind.i64.wrap (c27 + 1)))
   else (
     some (c26, c24))
def l_markIntSS (a_a : List (List Int)) (a_k : Int) : Option (Int × (List (List Int))) :=
 l_markIntSS_L1 (((a_a.length : Int) - 0).toNat + 2) a_a a_k 0
theorem l_markIntSS_ok (a_a : List (List Int)) (v0_0 : Sv) (F0_0 : List Nat) (a_k : Int) (R : Int × (List (List Int))) (hF : l_markIntSS a_a a_k = some R) :
   Fw.Spec Tryz.prog 24 [v0_0.v, (.int .i64 a_k)] [cown (OwnS 22 (OwnS 3 (roE rdInt))) F0_0 v0_0.v a_a] (fun _ : List Nat => (.int .i64 R.1)) (fun p => [cown (OwnS 22 (OwnS 3 (roE rdInt))) p v0_0.v R.2]) := by
 refine Spec_enter (n := 19) Tryz.func24 rfl rfl (rs := [.tmp 4]) rfl rfl rfl ?_
 intro H0 F0
 unfold l_markIntSS at hF
 iterate 7 refine au ?_
 refine CW_block (CW_loop (m := (((a_a.length : Int) - 0).toNat + 2)) (fun m28 f' cs' => ∃ (g : Fr) (c24 : List (List Int)) (c26 : Int) (c27 : Int) (F25 : List Nat), f' = updL g [(0, v0_0.v), (1, (.int .i64 c26)), (5, (.int .i64 c27))] ∧ Ent cs' [cown (OwnS 22 (OwnS 3 (roE rdInt))) F25 v0_0.v c24] ∧ l_markIntSS_L1 m28 c24 c26 c27 = some R) ⟨_, _, _, _, F0_0, eqA, entA, hF⟩ ?_)
 clear hF
 rintro m28 _ _ ⟨g29, c24, c26, c27, F25, rfl, hE, hF⟩
 refine K_ent hE ?_
 clear hE
 rcases m28 with _ | m28
 · rw [l_markIntSS_L1] at hF
   exact absurd hF (by simp)
 rw [l_markIntSS_L1] at hF
 iterate 7 refine au ?_
 refine Cc (fun hb49 => ?_) (fun hb49 => ?_)
 · rw [if_pos hb49] at hF
   iterate 5 refine au ?_
   obtain ⟨x39, hx40, hF⟩ := bind_some hF
   have hi38 := ix_chk hx40
   obtain ⟨hp41, hx42⟩ := ix_some hx40
   refine C_idxO sl31.h ty22.h.sz (.tmp rfl rfl) (.tmp rfl rfl) .h hi38 (fun k36 hk37 => ?_)
   refine C_ldOV ag22.h (.tmp rfl rfl) .h hk37 hx42 pt22_0 (fun w43 => ?_)
   refine au ?_
   obtain ⟨r44, hx45, hF⟩ := bind_some hF
   obtain ⟨z47, hx48, hF⟩ := bind_some hF
   replace hx48 := Option.some.inj hx48
   refine C_x1 (.cons .h .nil) (X_part hx42 pt22_0 (fun Fw => X_callS cf20.h (.cons (.tmp rfl rfl) (.cons (.tmp rfl rfl) .nil)) (l_markIntS_ok x39 w43 Fw c26 _ hx45)) rfl) (fun p46 => ?_)
   rw [hx48]
   iterate 7 refine au ?_
   exact ⟨m28, Nat.lt_succ_self _, _, _, _, _, p46.2, eqA, entA, hF⟩
 rw [if_neg (nt hb49)] at hF
 iterate 9 refine au ?_
 cases hF
 exact Er F25
def l_heldIntS_L1 : List Int → Nat → Int → Option (Int)
 | [], k5, c1 => some c1
 | x7 :: rest6, k5, c1 => if ((x7 : Int) != c1) then (
     some (-1))
   else (
     l_heldIntS_L1 rest6 (k5 + 1) (IntKind.i64.wrap (c1 + 1)))
def l_heldIntS (a_a : List Int) (a_k : Int) : Option (Int) :=
 l_heldIntS_L1 a_a 0 a_k
theorem l_heldIntS_ok (a_a : List Int) (v0_0 : Sv) (a_k : Int) (R : Int) (hF : l_heldIntS a_a a_k = some R) :
   Fw.Spec Tryz.prog 54 [v0_0.v, (.int .i64 a_k)] [crd (RdS 3 rdInt) v0_0.v a_a] (fun _ : Unit => (.int .i64 R)) (fun _ => []) := by
 refine Spec_enter (n := 21) Tryz.func54 rfl rfl (rs := [.tmp 4]) rfl rfl rfl ?_
 intro H0 F0
 unfold l_heldIntS at hF
 iterate 7 refine au ?_
 refine CW_block (CW_loop (m := a_a.length) (fun m3 f' cs' => ∃ (g : Fr) (k5 : Nat) (rest6 : List Int) (c1 : Int), m3 = rest6.length ∧ f' = updL g [(0, v0_0.v), (1, (.int .i64 c1)), (5, (.int .i64 (k5 : Int)))] ∧ List.drop k5 a_a = rest6 ∧ Ent cs' [crd (RdS 3 rdInt) v0_0.v a_a] ∧ l_heldIntS_L1 rest6 k5 c1 = some R) ⟨_, 0, _, _, rfl, eqA, rfl, entA, hF⟩ ?_)
 clear hF
 rintro m3 _ _ ⟨g4, k5, rest6, c1, rfl, rfl, hd8, hE, hF⟩
 refine K_ent hE ?_
 clear hE
 refine K_pure (c := crd (RdS 3 rdInt) v0_0.v a_a) .h crd_bound (fun hbd13 => ?_)
 rcases rest6 with _ | ⟨x7, rest6⟩
 · have hk9 := List.drop_eq_nil_iff.1 hd8
   rw [l_heldIntS_L1] at hF
   iterate 7 refine au ?_
   refine CdF ?_
   iterate 9 refine au ?_
   cases hF
   exact Er ()
 obtain ⟨hk9, hx10, hd11⟩ := drop_cons hd8
 rw [l_heldIntS_L1] at hF
 iterate 7 refine au ?_
 refine CdT ?_
 iterate 6 refine au ?_
 refine Ai hx10 (fun k14 j15 => ?_)
 refine Al ls3_0 ?_
 iterate 3 refine au ?_
 refine Cc (fun hb17 => ?_) (fun hb17 => ?_)
 · rw [if_pos hb17] at hF
   iterate 4 refine au ?_
   cases hF
   exact Er ()
 rw [if_neg (nt hb17)] at hF
 iterate 11 refine au ?_
 rw [wk k5]
 exact ⟨_, Nat.lt_succ_self _, _, k5 + 1, rest6, _, rfl, eqA, hd11, entA, hF⟩
def l_heldIntSS_L1 : List (List Int) → Nat → Int → Option (Int)
 | [], k5, c1 => some c1
 | x7 :: rest6, k5, c1 => (l_heldIntS x7 c1).bind fun r17 =>
   if (decide ((r17 : Int) < 0)) then (
     some (-1))
   else (
     l_heldIntSS_L1 rest6 (k5 + 1) r17)
def l_heldIntSS (a_a : List (List Int)) (a_k : Int) : Option (Int) :=
 l_heldIntSS_L1 a_a 0 a_k
theorem l_heldIntSS_ok (a_a : List (List Int)) (v0_0 : Sv) (a_k : Int) (R : Int) (hF : l_heldIntSS a_a a_k = some R) :
   Fw.Spec Tryz.prog 25 [v0_0.v, (.int .i64 a_k)] [crd (RdS 22 (RdS 3 rdInt)) v0_0.v a_a] (fun _ : Unit => (.int .i64 R)) (fun _ => []) := by
 refine Spec_enter (n := 21) Tryz.func25 rfl rfl (rs := [.tmp 4]) rfl rfl rfl ?_
 intro H0 F0
 unfold l_heldIntSS at hF
 iterate 7 refine au ?_
 refine CW_block (CW_loop (m := a_a.length) (fun m3 f' cs' => ∃ (g : Fr) (k5 : Nat) (rest6 : List (List Int)) (c1 : Int), m3 = rest6.length ∧ f' = updL g [(0, v0_0.v), (1, (.int .i64 c1)), (5, (.int .i64 (k5 : Int)))] ∧ List.drop k5 a_a = rest6 ∧ Ent cs' [crd (RdS 22 (RdS 3 rdInt)) v0_0.v a_a] ∧ l_heldIntSS_L1 rest6 k5 c1 = some R) ⟨_, 0, _, _, rfl, eqA, rfl, entA, hF⟩ ?_)
 clear hF
 rintro m3 _ _ ⟨g4, k5, rest6, c1, rfl, rfl, hd8, hE, hF⟩
 refine K_ent hE ?_
 clear hE
 refine K_pure (c := crd (RdS 22 (RdS 3 rdInt)) v0_0.v a_a) .h crd_bound (fun hbd13 => ?_)
 rcases rest6 with _ | ⟨x7, rest6⟩
 · have hk9 := List.drop_eq_nil_iff.1 hd8
   rw [l_heldIntSS_L1] at hF
   iterate 7 refine au ?_
   refine CdF ?_
   iterate 9 refine au ?_
   cases hF
   exact Er ()
 obtain ⟨hk9, hx10, hd11⟩ := drop_cons hd8
 rw [l_heldIntSS_L1] at hF
 iterate 7 refine au ?_
 refine CdT ?_
 iterate 5 refine au ?_
 refine Ai hx10 (fun k14 j15 => ?_)
 refine C_ldV (R' := (RdS 3 rdInt)) ag22.h (.tmp rfl rfl) .h lv22_0 (fun w16 => ?_)
 refine au ?_
 obtain ⟨r17, hx18, hF⟩ := bind_some hF
 refine Cx0 (l_heldIntS_ok _ _ _ _ hx18) (fun _ => ?_)
 iterate 6 refine au ?_
 refine Cc (fun hb21 => ?_) (fun hb21 => ?_)
 · rw [if_pos hb21] at hF
   iterate 4 refine au ?_
   cases hF
   exact Er ()
 rw [if_neg (nt hb21)] at hF
 iterate 6 refine au ?_
 rw [wk k5]
 exact ⟨_, Nat.lt_succ_self _, _, k5 + 1, rest6, _, rfl, eqA, hd11, entA, hF⟩
def l_FnExactLostAnswers (a_aS : List Int) (a_aL : List Method) (a_aQ : Query) (a_aFacts : List Fact) : Option (Bool) :=
 if (decide ((1048576 : Int) < (a_aS.length : Int))) then (
   some true)
 else (
   (l_szMethodS a_aL 1048576).bind fun r2 =>
   if (decide ((r2 : Int) < 0)) then (
     some true)
   else (
     (l_szQuery a_aQ r2).bind fun r5 =>
     if (decide ((r5 : Int) < 0)) then (
       some true)
     else (
       (l_szFactS a_aFacts r5).bind fun r8 =>
       if (decide ((r8 : Int) < 0)) then (
         some true)
       else (
         (l_toIntS a_aS).bind fun r11 =>
         (l_toMethodS a_aL).bind fun r14 =>
         (l_toQuery a_aQ).bind fun r17 =>
         (l_toFactS a_aFacts).bind fun r20 =>
         (s_LostAnswers r11 r14 r17 r20).bind fun r23 =>
         (l_toIntS a_aS).bind fun r26 =>
         (l_toMethodS a_aL).bind fun r29 =>
         (l_toQuery a_aQ).bind fun r32 =>
         (l_toFactS a_aFacts).bind fun r36 =>
         (i_LostAnswers r26 r29 r32 r36).bind fun r39 =>
         (l_eqIntSS r39 r23).bind fun r42 =>
         if (!r42) then (
           some false)
         else (
           (l_toIntS a_aS).bind fun r45 =>
           (l_eqIntS r26 r45).bind fun r48 =>
           if (!r48) then (
             some false)
           else (
             (l_toMethodS a_aL).bind fun r51 =>
             (l_eqMethodS r29 r51).bind fun r54 =>
             if (!r54) then (
               some false)
             else (
               (l_toQuery a_aQ).bind fun r57 =>
               (l_eqQuery r32 r57).bind fun r60 =>
               if (!r60) then (
                 some false)
               else (
                 (l_toFactS a_aFacts).bind fun r63 =>
                 (l_eqFactS r36 r63).bind fun r66 =>
                 if (!r66) then (
                   some false)
                 else (
                   (l_markIntS r26 1).bind fun r69 =>
                   (l_markMethodS r29 r69.1).bind fun r72 =>
                   (l_markQuery r32 r72.1).bind fun r75 =>
                   (l_markFactS r36 r75.1).bind fun r78 =>
                   (bif (decide ((r78.1 : Int) < 0)) then (some true)
                     else ((l_eqIntSS r39 r23).bind fun r84 =>
                       some (!r84))).bind fun o81 =>
                   match o81 with
                   | c87 => if c87 then (
                       some false)
                     else (
                       (l_markIntSS r39 1).bind fun r88 =>
                       (l_heldIntSS r88.2 1).bind fun r91 =>
                       if (decide ((r91 : Int) < 0)) then (
                         some false)
                       else (
                         if ((r91 : Int) != r88.1) then (
                           some false)
                         else (
                           (l_toIntS a_aS).bind fun r94 =>
                           (l_toMethodS a_aL).bind fun r97 =>
                           (l_toQuery a_aQ).bind fun r100 =>
                           (l_toFactS a_aFacts).bind fun r103 =>
                           (i_LostAnswers r94 r97 r100 r103).bind fun r106 =>
                           (l_eqIntSS r106 r23).bind fun r109 =>
                           if (!r109) then (
                             some false)
                           else (
                             (l_heldIntSS r88.2 1).bind fun r112 =>
                             if (decide ((r112 : Int) < 0)) then (
                               some false)
                             else (
                               if ((r112 : Int) != r88.1) then (
                                 some false)
                               else (
                                 some true)))))))))))))))
theorem l_FnExactLostAnswers_ok (a_aS : List Int) (v0_0 : Sv) (a_aL : List Method) (v1_0 : Sv) (a_aQ : Query) (v2_0 : Sv) (v2_1 : Sv) (a_aFacts : List Fact) (v3_0 : Sv) (R : Bool) (hF : l_FnExactLostAnswers a_aS a_aL a_aQ a_aFacts = some R) :
   Fw.Spec Tryz.prog 5 [v0_0.v, v1_0.v, (.agg [v2_0.v, v2_1.v].toArray), v3_0.v] [crd (RdS 3 rdInt) v0_0.v a_aS, crd (RdS 64 rd64) v1_0.v a_aL, crd (RdS 3 rdInt) v2_0.v a_aQ.Head, crd (RdS 94 rd94) v2_1.v a_aQ.Atoms, crd (RdS 68 rd68) v3_0.v a_aFacts] (fun _ : Unit => (.bool R)) (fun _ => []) := by
 refine Spec_enter (n := 136) Tryz.func5 rfl rfl (rs := [.tmp 8]) rfl rfl rfl ?_
 intro H0 F0
 unfold l_FnExactLostAnswers at hF
 refine K_region (C_newR rfl (N_box (g := false) (v := (.agg [v2_0.v, v2_1.v].toArray)) ty26.h.sz (.tmp rfl rfl) rfl) (fun k1 => ?_))
 refine C_val (V_assign (v := (.bool false)) (.bool _)) ?_
 refine C_nil (K_in (K_region (Cm v0_0.v rfl rfl ?_)))
 refine C_at (.t .h) (fun hp => V_lenR (l := a_aS.length) sl22.h (.tmp rfl rfl) (crd_len hp)) ?_
 refine C_val (V_gtr (i := (a_aS.length : Int)) (j := 1048576) (.tmp rfl rfl) (.int _ _)) ?_
 refine C_nil (CW_cond (b := (decide ((1048576 : Int) < (a_aS.length : Int)))) (.tmp rfl rfl) (fun hb130 => ?_) (fun hb130 => ?_))
 · rw [if_pos hb130] at hF
   refine K_region (C_val (V_assign (v := (.bool true)) (.bool _)) ?_)
   refine C_nil (CW_ret ?_)
   obtain rfl := Option.some.inj hF
   exact End_ret () (.tmp rfl rfl .nil) rfl (.sel .nil)
 rw [if_neg (by rw [hb130]; exact Bool.false_ne_true)] at hF
 refine CW_skip (K_region (C_val (V_assign (v := (.int .i64 1048576)) (.int _ _)) ?_))
 refine C_nil (K_region (Cm v1_0.v rfl rfl ?_))
 refine Cm (.int .i64 1048576) rfl rfl ?_
 obtain ⟨r2, hx3, hF⟩ := bind_some hF
 refine C_x0 (.rd (.t (.t .h)) rfl .nil) (X_callS cf6.h (.cons (.tmp rfl rfl) (.cons (.tmp rfl rfl) .nil)) (l_szMethodS_ok a_aL v1_0 1048576 _ hx3)) (fun _ => ?_)
 refine Ca (.int .i64 r2) rfl rfl ?_
 refine C_nil (K_in (K_region (Cm (.int .i64 r2) rfl rfl ?_)))
 refine C_val (V_lss (i := r2) (j := 0) (.tmp rfl rfl) (.int _ _)) ?_
 refine C_nil (CW_cond (b := (decide ((r2 : Int) < 0))) (.tmp rfl rfl) (fun hb129 => ?_) (fun hb129 => ?_))
 · rw [if_pos hb129] at hF
   refine K_region (C_val (V_assign (v := (.bool true)) (.bool _)) ?_)
   refine C_nil (CW_ret ?_)
   obtain rfl := Option.some.inj hF
   exact End_ret () (.tmp rfl rfl .nil) rfl (.sel .nil)
 rw [if_neg (by rw [hb129]; exact Bool.false_ne_true)] at hF
 refine CW_skip (K_region (C_at .h (fun hp => V_loadBox ag26.h ty26.h.sz rfl (.tmp rfl rfl) hp.2 rfl) ?_))
 refine Cm (.int .i64 r2) rfl rfl ?_
 obtain ⟨r5, hx6, hF⟩ := bind_some hF
 refine C_x0 (.rd (.t (.t (.t .h))) rfl (.rd (.t (.t (.t (.t .h)))) rfl .nil)) (X_callS cf7.h (.cons (.tmp rfl rfl) (.cons (.tmp rfl rfl) .nil)) (l_szQuery_ok a_aQ v2_0 v2_1 r2 _ hx6)) (fun _ => ?_)
 refine Ca (.int .i64 r5) rfl rfl ?_
 refine C_nil (K_in (K_region (Cm (.int .i64 r5) rfl rfl ?_)))
 refine C_val (V_lss (i := r5) (j := 0) (.tmp rfl rfl) (.int _ _)) ?_
 refine C_nil (CW_cond (b := (decide ((r5 : Int) < 0))) (.tmp rfl rfl) (fun hb128 => ?_) (fun hb128 => ?_))
 · rw [if_pos hb128] at hF
   refine K_region (C_val (V_assign (v := (.bool true)) (.bool _)) ?_)
   refine C_nil (CW_ret ?_)
   obtain rfl := Option.some.inj hF
   exact End_ret () (.tmp rfl rfl .nil) rfl (.sel .nil)
 rw [if_neg (by rw [hb128]; exact Bool.false_ne_true)] at hF
 refine CW_skip (K_region (Cm v3_0.v rfl rfl ?_))
 refine Cm (.int .i64 r5) rfl rfl ?_
 obtain ⟨r8, hx9, hF⟩ := bind_some hF
 refine C_x0 (.rd (.t (.t (.t (.t (.t .h))))) rfl .nil) (X_callS cf8.h (.cons (.tmp rfl rfl) (.cons (.tmp rfl rfl) .nil)) (l_szFactS_ok a_aFacts v3_0 r5 _ hx9)) (fun _ => ?_)
 refine Ca (.int .i64 r8) rfl rfl ?_
 refine C_nil (K_in (K_region (Cm (.int .i64 r8) rfl rfl ?_)))
 refine C_val (V_lss (i := r8) (j := 0) (.tmp rfl rfl) (.int _ _)) ?_
 refine C_nil (CW_cond (b := (decide ((r8 : Int) < 0))) (.tmp rfl rfl) (fun hb127 => ?_) (fun hb127 => ?_))
 · rw [if_pos hb127] at hF
   refine K_region (C_val (V_assign (v := (.bool true)) (.bool _)) ?_)
   refine C_nil (CW_ret ?_)
   obtain rfl := Option.some.inj hF
   exact End_ret () (.tmp rfl rfl .nil) rfl (.sel .nil)
 rw [if_neg (by rw [hb127]; exact Bool.false_ne_true)] at hF
 refine CW_skip (K_draw [0, 2, 4, 6, 1, 3, 5, 7, 8, 9] [0, 1, 0, 7, 0, 31, 0, 127, 255, 511] [1, 3, 5, 7, 8] mixed (by decide +kernel) ?_)
 refine Dm v0_0.v rfl rfl rfl rfl ?_
 refine Dm v1_0.v rfl rfl rfl rfl ?_
 refine D_at rfl .no .h rfl (fun ha hp => V_loadBox ag26.h ty26.h.sz rfl (EN ha (.tmp rfl rfl) rfl) hp.2 rfl) ?_
 refine Dm v3_0.v rfl rfl rfl rfl ?_
 obtain ⟨r11, hx12, hF⟩ := bind_some hF
 refine D_act1 rfl rfl .no (.rd (.t .h) rfl .nil) .nil (fun ha => XC_ent (post' := fun p13 : Sv × List Nat => [crd (RdS 3 rdInt) p13.1.v r11]) (fun p13 => (.frz .h frz_own (.sel (.rd .h rfl .nil)))) (X_callS cf10.h (.cons (EN ha (.tmp rfl rfl) rfl) .nil) (l_toIntS_ok a_aS v0_0 _ hx12))) (fun p13 => ?_)
 obtain ⟨r14, hx15, hF⟩ := bind_some hF
 refine D_act1 rfl rfl .no (.rd (.t (.t (.t .h))) rfl .nil) .nil (fun ha => XC_ent (post' := fun p16 : Sv × List Nat => [crd (RdS 77 rd77) p16.1.v r14]) (fun p16 => (.frz .h frz_own (.sel (.rd .h rfl .nil)))) (X_callS cf11.h (.cons (EN ha (.tmp rfl rfl) rfl) .nil) (l_toMethodS_ok a_aL v1_0 _ hx15))) (fun p16 => ?_)
 obtain ⟨r17, hx18, hF⟩ := bind_some hF
 refine D_act2 rfl rfl .no (.rd (.t (.t (.t (.t (.t .h))))) rfl (.rd (.t (.t (.t (.t (.t (.t .h)))))) rfl .nil)) .nil (fun ha => XC_ent (post' := fun p19 : Sv × List Nat × Sv × List Nat => [crd (RdS 3 rdInt) p19.1.v r17.Head, crd (RdS 102 rd102) p19.2.2.1.v r17.Atoms]) (fun p19 => (.frz .h frz_own (.frz (.t .h) frz_own (.sel (.rd (.t .h) rfl (.rd .h rfl .nil)))))) (X_callS cf12.h (.cons (EN ha (.tmp rfl rfl) rfl) .nil) (l_toQuery_ok a_aQ v2_0 v2_1 _ hx18))) (fun p19 => ?_)
 obtain ⟨r20, hx21, hF⟩ := bind_some hF
 refine D_act1 rfl rfl .no (.rd (.t (.t (.t (.t (.t (.t (.t (.t (.t .h))))))))) rfl .nil) .nil (fun ha => XC_ent (post' := fun p22 : Sv × List Nat => [crd (RdS 80 rd80) p22.1.v r20]) (fun p22 => (.frz .h frz_own (.sel (.rd .h rfl .nil)))) (X_callS cf13.h (.cons (EN ha (.tmp rfl rfl) rfl) .nil) (l_toFactS_ok a_aFacts v3_0 _ hx21))) (fun p22 => ?_)
 obtain ⟨r23, hx24, hF⟩ := bind_some hF
 refine D_act1 rfl rfl .no (.rd (.t (.t (.t (.t .h)))) rfl (.rd (.t (.t (.t .h))) rfl (.rd (.t .h) rfl (.rd (.t (.t .h)) rfl (.rd .h rfl .nil))))) .nil (fun ha => X_callS cf31.h (.cons (EN ha (.tmp rfl rfl) rfl) (.cons (EN ha (.tmp rfl rfl) rfl) (.cons (EN ha (.tmp rfl rfl) rfl) (.cons (EN ha (.tmp rfl rfl) rfl) .nil)))) (s_LostAnswers_ok r11 p13.1 r14 p16.1 r17 p19.1 p19.2.2.1 r20 p22.1 _ hx24)) (fun p25 => ?_)
 refine Da p25.1.v rfl rfl rfl rfl ?_
 refine D_nil (K_region (Cm v0_0.v rfl rfl ?_))
 obtain ⟨r26, hx27, hF⟩ := bind_some hF
 refine C_x1 (.rd (.t (.t (.t (.t (.t (.t (.t .h))))))) rfl .nil) (X_callS cf10.h (.cons (.tmp rfl rfl) .nil) (l_toIntS_ok a_aS v0_0 _ hx27)) (fun p28 => ?_)
 refine Ca p28.1.v rfl rfl ?_
 refine C_nil (K_region (Cm v1_0.v rfl rfl ?_))
 obtain ⟨r29, hx30, hF⟩ := bind_some hF
 refine C_x1 (.rd (.t (.t (.t (.t (.t (.t (.t (.t (.t .h))))))))) rfl .nil) (X_callS cf11.h (.cons (.tmp rfl rfl) .nil) (l_toMethodS_ok a_aL v1_0 _ hx30)) (fun p31 => ?_)
 refine Ca p31.1.v rfl rfl ?_
 refine C_nil (K_region (C_at (.t (.t (.t (.t (.t (.t (.t (.t .h)))))))) (fun hp => V_loadBox ag26.h ty26.h.sz rfl (.tmp rfl rfl) hp.2 rfl) ?_))
 obtain ⟨r32, hx33, hF⟩ := bind_some hF
 refine C_x2 (.rd (.t (.t (.t (.t (.t (.t (.t (.t (.t (.t (.t .h))))))))))) rfl (.rd (.t (.t (.t (.t (.t (.t (.t (.t (.t (.t (.t (.t .h)))))))))))) rfl .nil)) (X_callS cf12.h (.cons (.tmp rfl rfl) .nil) (l_toQuery_ok a_aQ v2_0 v2_1 _ hx33)) (fun p34 => ?_)
 refine C_new rfl (N_allocT (g := true) ty38.h rfl rfl) (fun k35 => ?_)
 refine C_x1 (.cons .h .nil) (X_storeB (e' := (.agg [p34.1.v, p34.2.2.1.v].toArray)) (v := (.agg [p34.1.v, p34.2.2.1.v].toArray)) ty38.h.sz (.tmp rfl rfl) (.tmp rfl rfl) rfl rfl rfl rfl rfl) (fun _ => ?_)
 refine C_nil (K_region (Cm v3_0.v rfl rfl ?_))
 obtain ⟨r36, hx37, hF⟩ := bind_some hF
 refine C_x1 (.rd (.t (.t (.t (.t (.t (.t (.t (.t (.t (.t (.t (.t (.t (.t (.t (.t .h)))))))))))))))) rfl .nil) (X_callS cf13.h (.cons (.tmp rfl rfl) .nil) (l_toFactS_ok a_aFacts v3_0 _ hx37)) (fun p38 => ?_)
 refine Ca p38.1.v rfl rfl ?_
 refine C_nil (K_region (Cm p28.1.v rfl rfl ?_))
 refine Cm p31.1.v rfl rfl ?_
 refine C_at (.t .h) (fun hp => V_loadBox ag38.h ty38.h.sz rfl (.tmp rfl rfl) hp.2 rfl) ?_
 refine Cm p38.1.v rfl rfl ?_
 obtain ⟨r39, hx40, hF⟩ := bind_some hF
 refine C_x6 (.cons .h (.cons (.t (.t .h)) (.cons (.t .h) (.cons (.t .h) (.cons (.t .h) .nil))))) (XC_borL (pre := []) (.cons frz_own (.cons frz_own (.cons frz_own (.cons frz_own (.cons frz_own .nil))))) (fun _ => (.cons .nil)) (X_callS cf32.h (.cons (.tmp rfl rfl) (.cons (.tmp rfl rfl) (.cons (.tmp rfl rfl) (.cons (.tmp rfl rfl) .nil)))) (i_LostAnswers_ok r26 p28.1 r29 p31.1 r32 p34.1 p34.2.2.1 r36 p38.1 _ hx40))) (fun p41 => ?_)
 refine Ca p41.1.v rfl rfl ?_
 refine C_nil (K_in (K_region (Cm p41.1.v rfl rfl ?_)))
 refine Cm p25.1.v rfl rfl ?_
 obtain ⟨r42, hx43, hF⟩ := bind_some hF
 refine C_x2 (.cons (.t (.t (.t (.t (.t (.t (.t .h))))))) (.cons (.t (.t (.t (.t (.t .h))))) .nil)) (XC_borG (pre := []) (.cons frz_own (.cons frz_own .nil)) (fun _ => .nil) (XC_pre (.rd (.t .h) rfl (.rd .h rfl .nil)) (X_callS cf15.h (.cons (.tmp rfl rfl) (.cons (.tmp rfl rfl) .nil)) (l_eqIntSS_ok r39 p41.1 r23 p25.1 _ hx43)))) (fun _ => ?_)
 refine C_val (V_not (b := r42) (.tmp rfl rfl)) ?_
 refine C_nil (CW_cond (b := (!r42)) (.tmp rfl rfl) (fun hb126 => ?_) (fun hb126 => ?_))
 · rw [if_pos hb126] at hF
   refine K_region (C_val (V_assign (v := (.bool false)) (.bool _)) ?_)
   refine C_nil (CW_ret ?_)
   obtain rfl := Option.some.inj hF
   exact End_ret () (.tmp rfl rfl .nil) rfl (.sel .nil)
 rw [if_neg (by rw [hb126]; exact Bool.false_ne_true)] at hF
 refine CW_skip (K_in (K_region (Cm p28.1.v rfl rfl ?_)))
 refine Cm v0_0.v rfl rfl ?_
 obtain ⟨r45, hx46, hF⟩ := bind_some hF
 refine C_x1 (.rd (.t (.t (.t (.t (.t (.t (.t (.t (.t (.t (.t (.t (.t (.t .h)))))))))))))) rfl .nil) (X_callS cf10.h (.cons (.tmp rfl rfl) .nil) (l_toIntS_ok a_aS v0_0 _ hx46)) (fun p47 => ?_)
 obtain ⟨r48, hx49, hF⟩ := bind_some hF
 refine C_x2 (.cons .h (.cons (.t (.t (.t (.t (.t (.t .h)))))) .nil)) (XC_borL (pre := []) (.cons frz_own (.cons frz_own .nil)) (fun _ => .nil) (X_callS cf16.h (.cons (.tmp rfl rfl) (.cons (.tmp rfl rfl) .nil)) (l_eqIntS_ok r26 p28.1 r45 p47.1 _ hx49))) (fun _ => ?_)
 refine C_val (V_not (b := r48) (.tmp rfl rfl)) ?_
 refine C_nil (CW_cond (b := (!r48)) (.tmp rfl rfl) (fun hb125 => ?_) (fun hb125 => ?_))
 · rw [if_pos hb125] at hF
   refine K_region (C_val (V_assign (v := (.bool false)) (.bool _)) ?_)
   refine C_nil (CW_ret ?_)
   obtain rfl := Option.some.inj hF
   exact End_ret () (.tmp rfl rfl .nil) rfl (.sel .nil)
 rw [if_neg (by rw [hb125]; exact Bool.false_ne_true)] at hF
 refine CW_skip (K_in (K_region (Cm p31.1.v rfl rfl ?_)))
 refine Cm v1_0.v rfl rfl ?_
 obtain ⟨r51, hx52, hF⟩ := bind_some hF
 refine C_x1 (.rd (.t (.t (.t (.t (.t (.t (.t (.t (.t (.t (.t (.t (.t (.t (.t (.t .h)))))))))))))))) rfl .nil) (X_callS cf11.h (.cons (.tmp rfl rfl) .nil) (l_toMethodS_ok a_aL v1_0 _ hx52)) (fun p53 => ?_)
 obtain ⟨r54, hx55, hF⟩ := bind_some hF
 refine C_x2 (.cons .h (.cons (.t (.t (.t (.t (.t (.t (.t .h))))))) .nil)) (XC_borL (pre := []) (.cons frz_own (.cons frz_own .nil)) (fun _ => .nil) (X_callS cf17.h (.cons (.tmp rfl rfl) (.cons (.tmp rfl rfl) .nil)) (l_eqMethodS_ok r29 p31.1 r51 p53.1 _ hx55))) (fun _ => ?_)
 refine C_val (V_not (b := r54) (.tmp rfl rfl)) ?_
 refine C_nil (CW_cond (b := (!r54)) (.tmp rfl rfl) (fun hb124 => ?_) (fun hb124 => ?_))
 · rw [if_pos hb124] at hF
   refine K_region (C_val (V_assign (v := (.bool false)) (.bool _)) ?_)
   refine C_nil (CW_ret ?_)
   obtain rfl := Option.some.inj hF
   exact End_ret () (.tmp rfl rfl .nil) rfl (.sel .nil)
 rw [if_neg (by rw [hb124]; exact Bool.false_ne_true)] at hF
 refine CW_skip (K_in (K_draw [0, 1, 2, 3, 4] [0, 0, 2, 7, 15] [2, 3] mixed (by decide +kernel) ?_))
 refine D_atO rfl .no (.t (.t (.t (.t (.t (.t (.t (.t (.t .h))))))))) (fun ha hp => V_loadBox ag38.h ty38.h.sz rfl (EN ha (.tmp rfl rfl) rfl) hp.2 rfl) ?_
 refine D_at rfl .no (.t (.t (.t (.t (.t (.t (.t (.t (.t (.t (.t (.t (.t (.t (.t .h))))))))))))))) rfl (fun ha hp => V_loadBox ag26.h ty26.h.sz rfl (EN ha (.tmp rfl rfl) rfl) hp.2 rfl) ?_
 obtain ⟨r57, hx58, hF⟩ := bind_some hF
 refine D_act2 rfl rfl .no (.rd (.t (.t (.t (.t (.t (.t (.t (.t (.t (.t (.t (.t (.t (.t (.t (.t (.t (.t .h)))))))))))))))))) rfl (.rd (.t (.t (.t (.t (.t (.t (.t (.t (.t (.t (.t (.t (.t (.t (.t (.t (.t (.t (.t .h))))))))))))))))))) rfl .nil)) (.own (.t (.t (.t (.t (.t (.t (.t (.t (.t .h))))))))) (fun _ h => h) .nil) (fun ha => X_callS cf12.h (.cons (EN ha (.tmp rfl rfl) rfl) .nil) (l_toQuery_ok a_aQ v2_0 v2_1 _ hx58)) (fun p59 => ?_)
 obtain ⟨r60, hx61, hF⟩ := bind_some hF
 refine D_act4 rfl rfl .no (.cons (.t .h) (.cons .h (.cons (.t (.t (.t (.t (.t (.t (.t .h))))))) (.cons (.t (.t (.t (.t (.t (.t (.t .h))))))) .nil)))) (.dep rfl .nil) (fun ha => XC_borL (pre := []) (.cons frz_own (.cons frz_own (.cons frz_own (.cons frz_own .nil)))) (fun _ => .nil) (X_callS cf18.h (.cons (EN ha (.tmp rfl rfl) rfl) (.cons (EN ha (.tmp rfl rfl) rfl) .nil)) (l_eqQuery_ok r32 p34.1 p34.2.2.1 r57 p59.1 p59.2.2.1 _ hx61))) (fun _ => ?_)
 refine D_val rfl .no (fun ha => V_not (b := r60) (EN ha (.tmp rfl rfl) rfl)) ?_
 refine D_nil (CW_cond (b := (!r60)) (.tmp rfl rfl) (fun hb123 => ?_) (fun hb123 => ?_))
 · rw [if_pos hb123] at hF
   refine K_region (C_val (V_assign (v := (.bool false)) (.bool _)) ?_)
   refine C_nil (CW_ret ?_)
   obtain rfl := Option.some.inj hF
   exact End_ret () (.tmp rfl rfl .nil) rfl (.sel .nil)
 rw [if_neg (by rw [hb123]; exact Bool.false_ne_true)] at hF
 refine CW_skip (K_in (K_region (Cm p38.1.v rfl rfl ?_)))
 refine Cm v3_0.v rfl rfl ?_
 obtain ⟨r63, hx64, hF⟩ := bind_some hF
 refine C_x1 (.rd (.t (.t (.t (.t (.t (.t (.t (.t (.t (.t (.t (.t (.t (.t (.t (.t (.t (.t (.t (.t (.t (.t .h)))))))))))))))))))))) rfl .nil) (X_callS cf13.h (.cons (.tmp rfl rfl) .nil) (l_toFactS_ok a_aFacts v3_0 _ hx64)) (fun p65 => ?_)
 obtain ⟨r66, hx67, hF⟩ := bind_some hF
 refine C_x2 (.cons .h (.cons (.t (.t (.t (.t (.t (.t (.t (.t (.t (.t .h)))))))))) .nil)) (XC_borL (pre := []) (.cons frz_own (.cons frz_own .nil)) (fun _ => .nil) (X_callS cf19.h (.cons (.tmp rfl rfl) (.cons (.tmp rfl rfl) .nil)) (l_eqFactS_ok r36 p38.1 r63 p65.1 _ hx67))) (fun _ => ?_)
 refine C_val (V_not (b := r66) (.tmp rfl rfl)) ?_
 refine C_nil (CW_cond (b := (!r66)) (.tmp rfl rfl) (fun hb122 => ?_) (fun hb122 => ?_))
 · rw [if_pos hb122] at hF
   refine K_region (C_val (V_assign (v := (.bool false)) (.bool _)) ?_)
   refine C_nil (CW_ret ?_)
   obtain rfl := Option.some.inj hF
   exact End_ret () (.tmp rfl rfl .nil) rfl (.sel .nil)
 rw [if_neg (by rw [hb122]; exact Bool.false_ne_true)] at hF
 refine CW_skip (K_region (C_val (V_assign (v := (.int .i64 1)) (.int _ _)) ?_))
 refine C_nil (K_region (Cm p28.1.v rfl rfl ?_))
 refine Cm (.int .i64 1) rfl rfl ?_
 obtain ⟨r69, hx70, hF⟩ := bind_some hF
 refine C_x1 (.cons (.t (.t (.t (.t (.t (.t (.t (.t (.t .h))))))))) .nil) (X_callS cf20.h (.cons (.tmp rfl rfl) (.cons (.tmp rfl rfl) .nil)) (l_markIntS_ok r26 p28.1 p28.2 1 _ hx70)) (fun p71 => ?_)
 refine Ca (.int .i64 r69.1) rfl rfl ?_
 refine C_nil (K_region (Cm p31.1.v rfl rfl ?_))
 refine Cm (.int .i64 r69.1) rfl rfl ?_
 obtain ⟨r72, hx73, hF⟩ := bind_some hF
 refine C_x1 (.cons (.t (.t (.t (.t (.t (.t (.t (.t .h)))))))) .nil) (X_callS cf21.h (.cons (.tmp rfl rfl) (.cons (.tmp rfl rfl) .nil)) (l_markMethodS_ok r29 p31.1 p31.2 r69.1 _ hx73)) (fun p74 => ?_)
 refine Ca (.int .i64 r72.1) rfl rfl ?_
 refine C_nil (K_region (C_at (.t (.t (.t (.t (.t (.t (.t (.t (.t (.t (.t (.t .h)))))))))))) (fun hp => V_loadBox ag38.h ty38.h.sz rfl (.tmp rfl rfl) hp.2 rfl) ?_))
 refine Cm (.int .i64 r72.1) rfl rfl ?_
 obtain ⟨r75, hx76, hF⟩ := bind_some hF
 refine C_x2 (.cons (.t (.t (.t (.t (.t (.t (.t .h))))))) (.cons (.t (.t (.t (.t (.t (.t .h)))))) .nil)) (X_callS cf22.h (.cons (.tmp rfl rfl) (.cons (.tmp rfl rfl) .nil)) (l_markQuery_ok r32 p34.1 p34.2.1 p34.2.2.1 p34.2.2.2 r72.1 _ hx76)) (fun p77 => ?_)
 refine Ca (.int .i64 r75.1) rfl rfl ?_
 refine C_nil (K_region (Cm p38.1.v rfl rfl ?_))
 refine Cm (.int .i64 r75.1) rfl rfl ?_
 obtain ⟨r78, hx79, hF⟩ := bind_some hF
 refine C_x1 (.cons (.t (.t (.t (.t (.t .h))))) .nil) (X_callS cf23.h (.cons (.tmp rfl rfl) (.cons (.tmp rfl rfl) .nil)) (l_markFactS_ok r36 p38.1 p38.2 r75.1 _ hx79)) (fun p80 => ?_)
 refine Ca (.int .i64 r78.1) rfl rfl ?_
 refine C_nil (K_in ?_)
 obtain ⟨o81, hio81, hO82⟩ := bind_some hF
 refine K_region (C_cut (fun f' cs' => ∃ (c87 : Bool) (g : Fr), c87 = o81 ∧ f' = updL g [(0, v0_0.v), (1, v1_0.v), (3, v3_0.v), (6, (.pointer (some ⟨k1, 0, some 0⟩))), (10, p25.1.v), (15, p41.1.v), (103, (.bool c87))] ∧ Ent cs' [crd (RdS 3 rdInt) v0_0.v a_aS, crd (RdS 64 rd64) v1_0.v a_aL, crd (RdS 68 rd68) v3_0.v a_aFacts, cboR k1 26 (.agg [v2_0.v, v2_1.v].toArray), crd (RdS 3 rdInt) v2_0.v a_aQ.Head, crd (RdS 94 rd94) v2_1.v a_aQ.Atoms, cown (OwnS 22 (roE (RdS 3 rdInt))) p25.2 p25.1.v r23, cown (OwnS 22 (OwnS 3 (roE rdInt))) p41.2 p41.1.v r39]) ?_ ?_)
 · replace hF := hio81
   refine Cm (.int .i64 r78.1) rfl rfl ?_
   refine C_val (V_lss (i := r78.1) (j := 0) (.tmp rfl rfl) (.int _ _)) ?_
   refine Cm (.bool (decide ((r78.1 : Int) < 0))) rfl rfl ?_
   rcases Bool.eq_false_or_eq_true (decide ((r78.1 : Int) < 0)) with hg83 | hg83
   · rw [hg83]
     try rw [hg83] at hF; dsimp only [cond_true, cond_false] at hF
     iterate 4 refine C_off (t := 98) rfl rfl rfl ?_
     refine C_val (V_pick (b := true) (u := (.bool true)) (v := undef) (.tmp rfl rfl) (.bool _) (.tmp rfl rfl)) ?_
     refine C_nil ?_
     obtain rfl := Option.some.inj hF
     exact ⟨_, _, rfl, (EqL.cons rfl (EqL.cons rfl (EqL.cons rfl (EqL.cons rfl (EqL.cons rfl (EqL.cons rfl (EqL.cons rfl (EqL.nil)))))))).eq, (.sel (.rd (.t (.t (.t (.t (.t (.t (.t (.t (.t (.t (.t (.t (.t (.t (.t (.t (.t (.t (.t .h))))))))))))))))))) rfl (.rd (.t (.t (.t (.t (.t (.t (.t (.t (.t (.t (.t (.t (.t (.t (.t (.t (.t (.t (.t (.t .h)))))))))))))))))))) rfl (.rd (.t (.t (.t (.t (.t (.t (.t (.t (.t (.t (.t (.t (.t (.t (.t (.t (.t (.t (.t (.t (.t (.t (.t .h))))))))))))))))))))))) rfl (.rd (.t (.t (.t (.t (.t (.t (.t (.t (.t (.t (.t (.t (.t (.t (.t (.t (.t (.t .h)))))))))))))))))) rfl (.rd (.t (.t (.t (.t (.t (.t (.t (.t (.t (.t (.t (.t (.t (.t (.t (.t (.t (.t (.t (.t (.t .h))))))))))))))))))))) rfl (.rd (.t (.t (.t (.t (.t (.t (.t (.t (.t (.t (.t (.t (.t (.t (.t (.t (.t (.t (.t (.t (.t (.t .h)))))))))))))))))))))) rfl (.cons (.t (.t (.t (.t (.t (.t (.t (.t (.t (.t .h)))))))))) (.cons (.t (.t (.t (.t (.t (.t (.t (.t (.t (.t .h)))))))))) .nil)))))))))⟩
   rw [hg83]
   try rw [hg83] at hF; dsimp only [cond_true, cond_false] at hF
   refine C_on (t := 98) rfl rfl rfl ?_
   refine Cm p41.1.v rfl rfl ?_
   refine C_on (t := 98) rfl rfl rfl ?_
   refine Cm p25.1.v rfl rfl ?_
   refine C_on (t := 98) rfl rfl rfl ?_
   obtain ⟨r84, hx85, hF⟩ := bind_some hF
   refine C_x2 (.cons (.t (.t (.t (.t (.t (.t (.t (.t (.t (.t .h)))))))))) (.cons (.t (.t (.t (.t (.t (.t (.t (.t (.t (.t .h)))))))))) .nil)) (XC_borG (pre := []) (.cons frz_own (.cons frz_own .nil)) (fun _ => .nil) (XC_pre (.rd (.t .h) rfl (.rd .h rfl .nil)) (X_callS cf15.h (.cons (.tmp rfl rfl) (.cons (.tmp rfl rfl) .nil)) (l_eqIntSS_ok r39 p41.1 r23 p25.1 _ hx85)))) (fun _ => ?_)
   refine C_on (t := 98) rfl rfl rfl ?_
   refine C_val (V_not (b := r84) (.tmp rfl rfl)) ?_
   refine C_val (V_pick (b := false) (u := (.bool true)) (v := (.bool (!r84))) (.tmp rfl rfl) (.bool _) (.tmp rfl rfl)) ?_
   refine C_nil ?_
   obtain rfl := Option.some.inj hF
   exact ⟨_, _, rfl, (EqL.cons rfl (EqL.cons rfl (EqL.cons rfl (EqL.cons rfl (EqL.cons rfl (EqL.cons rfl (EqL.cons rfl (EqL.nil)))))))).eq, (.sel (.rd (.t (.t (.t (.t (.t (.t (.t (.t (.t (.t (.t (.t (.t (.t (.t (.t (.t (.t (.t .h))))))))))))))))))) rfl (.rd (.t (.t (.t (.t (.t (.t (.t (.t (.t (.t (.t (.t (.t (.t (.t (.t (.t (.t (.t (.t .h)))))))))))))))))))) rfl (.rd (.t (.t (.t (.t (.t (.t (.t (.t (.t (.t (.t (.t (.t (.t (.t (.t (.t (.t (.t (.t (.t (.t (.t .h))))))))))))))))))))))) rfl (.rd (.t (.t (.t (.t (.t (.t (.t (.t (.t (.t (.t (.t (.t (.t (.t (.t (.t (.t .h)))))))))))))))))) rfl (.rd (.t (.t (.t (.t (.t (.t (.t (.t (.t (.t (.t (.t (.t (.t (.t (.t (.t (.t (.t (.t (.t .h))))))))))))))))))))) rfl (.rd (.t (.t (.t (.t (.t (.t (.t (.t (.t (.t (.t (.t (.t (.t (.t (.t (.t (.t (.t (.t (.t (.t .h)))))))))))))))))))))) rfl (.cons .h (.cons .h .nil)))))))))⟩
 rintro _ _ ⟨c87, g121, rfl, rfl, hE⟩
 replace hF := hO82
 clear hO82
 try dsimp only at hF
 refine K_ent hE ?_
 refine CW_cond (b := c87) (.tmp rfl rfl) (fun hb120 => ?_) (fun hb120 => ?_)
 · rw [if_pos hb120] at hF
   refine K_region (C_val (V_assign (v := (.bool false)) (.bool _)) ?_)
   refine C_nil (CW_ret ?_)
   obtain rfl := Option.some.inj hF
   exact End_ret () (.tmp rfl rfl .nil) rfl (.sel .nil)
 rw [if_neg (by rw [hb120]; exact Bool.false_ne_true)] at hF
 refine CW_skip (K_region (C_val (V_assign (v := (.int .i64 1)) (.int _ _)) ?_))
 refine C_nil (K_region (Cm p41.1.v rfl rfl ?_))
 refine Cm (.int .i64 1) rfl rfl ?_
 obtain ⟨r88, hx89, hF⟩ := bind_some hF
 refine C_x1 (.cons (.t (.t (.t (.t (.t (.t (.t .h))))))) .nil) (X_callS cf24.h (.cons (.tmp rfl rfl) (.cons (.tmp rfl rfl) .nil)) (l_markIntSS_ok r39 p41.1 p41.2 1 _ hx89)) (fun p90 => ?_)
 refine Ca (.int .i64 r88.1) rfl rfl ?_
 refine C_nil (K_region (C_val (V_assign (v := (.int .i64 1)) (.int _ _)) ?_))
 refine C_nil (K_region (Cm p41.1.v rfl rfl ?_))
 refine Cm (.int .i64 1) rfl rfl ?_
 obtain ⟨r91, hx92, hF⟩ := bind_some hF
 refine C_x1 (.cons .h .nil) (XC_bor frz_own (fun _ => .nil) (X_callS cf25.h (.cons (.tmp rfl rfl) (.cons (.tmp rfl rfl) .nil)) (l_heldIntSS_ok r88.2 p41.1 1 _ hx92))) (fun _ => ?_)
 refine Ca (.int .i64 r91) rfl rfl ?_
 refine C_nil (K_in (K_region (Cm (.int .i64 r91) rfl rfl ?_)))
 refine C_val (V_lss (i := r91) (j := 0) (.tmp rfl rfl) (.int _ _)) ?_
 refine C_nil (CW_cond (b := (decide ((r91 : Int) < 0))) (.tmp rfl rfl) (fun hb119 => ?_) (fun hb119 => ?_))
 · rw [if_pos hb119] at hF
   refine K_region (C_val (V_assign (v := (.bool false)) (.bool _)) ?_)
   refine C_nil (CW_ret ?_)
   obtain rfl := Option.some.inj hF
   exact End_ret () (.tmp rfl rfl .nil) rfl (.sel .nil)
 rw [if_neg (by rw [hb119]; exact Bool.false_ne_true)] at hF
 refine CW_skip (K_in (K_region (Cm (.int .i64 r91) rfl rfl ?_)))
 refine Cm (.int .i64 r88.1) rfl rfl ?_
 refine C_val (V_neq (i := r91) (j := r88.1) (.tmp rfl rfl) (.tmp rfl rfl)) ?_
 refine C_nil (CW_cond (b := ((r91 : Int) != r88.1)) (.tmp rfl rfl) (fun hb118 => ?_) (fun hb118 => ?_))
 · rw [if_pos hb118] at hF
   refine K_region (C_val (V_assign (v := (.bool false)) (.bool _)) ?_)
   refine C_nil (CW_ret ?_)
   obtain rfl := Option.some.inj hF
   exact End_ret () (.tmp rfl rfl .nil) rfl (.sel .nil)
 rw [if_neg (by rw [hb118]; exact Bool.false_ne_true)] at hF
 refine CW_skip (K_draw [0, 2, 4, 6, 1, 3, 5, 7, 8, 9] [0, 1, 0, 7, 0, 31, 0, 127, 255, 511] [1, 3, 5, 7, 8] mixed (by decide +kernel) ?_)
 refine Dm v0_0.v rfl rfl rfl rfl ?_
 refine Dm v1_0.v rfl rfl rfl rfl ?_
 refine D_at rfl .no (.t (.t (.t (.t .h)))) rfl (fun ha hp => V_loadBox ag26.h ty26.h.sz rfl (EN ha (.tmp rfl rfl) rfl) hp.2 rfl) ?_
 refine Dm v3_0.v rfl rfl rfl rfl ?_
 obtain ⟨r94, hx95, hF⟩ := bind_some hF
 refine D_act1 rfl rfl .no (.rd (.t .h) rfl .nil) .nil (fun ha => X_callS cf10.h (.cons (EN ha (.tmp rfl rfl) rfl) .nil) (l_toIntS_ok a_aS v0_0 _ hx95)) (fun p96 => ?_)
 obtain ⟨r97, hx98, hF⟩ := bind_some hF
 refine D_act1 rfl rfl .no (.rd (.t (.t (.t .h))) rfl .nil) .nil (fun ha => X_callS cf11.h (.cons (EN ha (.tmp rfl rfl) rfl) .nil) (l_toMethodS_ok a_aL v1_0 _ hx98)) (fun p99 => ?_)
 obtain ⟨r100, hx101, hF⟩ := bind_some hF
 refine D_act2 rfl rfl .no (.rd (.t (.t (.t (.t (.t (.t (.t .h))))))) rfl (.rd (.t (.t (.t (.t (.t (.t (.t (.t .h)))))))) rfl .nil)) .nil (fun ha => X_callS cf12.h (.cons (EN ha (.tmp rfl rfl) rfl) .nil) (l_toQuery_ok a_aQ v2_0 v2_1 _ hx101)) (fun p102 => ?_)
 obtain ⟨r103, hx104, hF⟩ := bind_some hF
 refine D_act1 rfl rfl .no (.rd (.t (.t (.t (.t (.t (.t (.t .h))))))) rfl .nil) .nil (fun ha => X_callS cf13.h (.cons (EN ha (.tmp rfl rfl) rfl) .nil) (l_toFactS_ok a_aFacts v3_0 _ hx104)) (fun p105 => ?_)
 obtain ⟨r106, hx107, hF⟩ := bind_some hF
 refine D_act6 rfl rfl .no (.cons .h (.cons (.t .h) (.cons .h (.cons .h (.cons .h .nil))))) .nil (fun ha => XC_borL (pre := []) (.cons frz_own (.cons frz_own (.cons frz_own (.cons frz_own (.cons frz_own .nil))))) (fun _ => (.cons .nil)) (X_callS cf32.h (.cons (EN ha (.tmp rfl rfl) rfl) (.cons (EN ha (.tmp rfl rfl) rfl) (.cons (EN ha (.tmp rfl rfl) rfl) (.cons (EN ha (.tmp rfl rfl) rfl) .nil)))) (i_LostAnswers_ok r94 p96.1 r97 p99.1 r100 p102.1 p102.2.2.1 r103 p105.1 _ hx107))) (fun p108 => ?_)
 refine Da p108.1.v rfl rfl rfl rfl ?_
 refine D_nil (K_in (K_region (Cm p108.1.v rfl rfl ?_)))
 refine Cm p25.1.v rfl rfl ?_
 obtain ⟨r109, hx110, hF⟩ := bind_some hF
 refine C_x2 (.cons (.t (.t (.t (.t (.t (.t (.t (.t (.t (.t (.t (.t (.t .h))))))))))))) (.cons (.t (.t (.t (.t (.t .h))))) .nil)) (XC_borG (pre := []) (.cons frz_own (.cons frz_own .nil)) (fun _ => .nil) (XC_pre (.rd (.t .h) rfl (.rd .h rfl .nil)) (X_callS cf15.h (.cons (.tmp rfl rfl) (.cons (.tmp rfl rfl) .nil)) (l_eqIntSS_ok r106 p108.1 r23 p25.1 _ hx110)))) (fun _ => ?_)
 refine C_val (V_not (b := r109) (.tmp rfl rfl)) ?_
 refine C_nil (CW_cond (b := (!r109)) (.tmp rfl rfl) (fun hb117 => ?_) (fun hb117 => ?_))
 · rw [if_pos hb117] at hF
   refine K_region (C_val (V_assign (v := (.bool false)) (.bool _)) ?_)
   refine C_nil (CW_ret ?_)
   obtain rfl := Option.some.inj hF
   exact End_ret () (.tmp rfl rfl .nil) rfl (.sel .nil)
 rw [if_neg (by rw [hb117]; exact Bool.false_ne_true)] at hF
 refine CW_skip (K_region (C_val (V_assign (v := (.int .i64 1)) (.int _ _)) ?_))
 refine C_nil (K_region (Cm p41.1.v rfl rfl ?_))
 refine Cm (.int .i64 1) rfl rfl ?_
 obtain ⟨r112, hx113, hF⟩ := bind_some hF
 refine C_x1 (.cons (.t (.t (.t (.t (.t (.t (.t .h))))))) .nil) (XC_bor frz_own (fun _ => .nil) (X_callS cf25.h (.cons (.tmp rfl rfl) (.cons (.tmp rfl rfl) .nil)) (l_heldIntSS_ok r88.2 p41.1 1 _ hx113))) (fun _ => ?_)
 refine Ca (.int .i64 r112) rfl rfl ?_
 refine C_nil (K_in (K_region (Cm (.int .i64 r112) rfl rfl ?_)))
 refine C_val (V_lss (i := r112) (j := 0) (.tmp rfl rfl) (.int _ _)) ?_
 refine C_nil (CW_cond (b := (decide ((r112 : Int) < 0))) (.tmp rfl rfl) (fun hb116 => ?_) (fun hb116 => ?_))
 · rw [if_pos hb116] at hF
   refine K_region (C_val (V_assign (v := (.bool false)) (.bool _)) ?_)
   refine C_nil (CW_ret ?_)
   obtain rfl := Option.some.inj hF
   exact End_ret () (.tmp rfl rfl .nil) rfl (.sel .nil)
 rw [if_neg (by rw [hb116]; exact Bool.false_ne_true)] at hF
 refine CW_skip (K_in (K_region (Cm (.int .i64 r112) rfl rfl ?_)))
 refine Cm (.int .i64 r88.1) rfl rfl ?_
 refine C_val (V_neq (i := r112) (j := r88.1) (.tmp rfl rfl) (.tmp rfl rfl)) ?_
 refine C_nil (CW_cond (b := ((r112 : Int) != r88.1)) (.tmp rfl rfl) (fun hb115 => ?_) (fun hb115 => ?_))
 · rw [if_pos hb115] at hF
   refine K_region (C_val (V_assign (v := (.bool false)) (.bool _)) ?_)
   refine C_nil (CW_ret ?_)
   obtain rfl := Option.some.inj hF
   exact End_ret () (.tmp rfl rfl .nil) rfl (.sel .nil)
 rw [if_neg (by rw [hb115]; exact Bool.false_ne_true)] at hF
 refine CW_skip (K_region (C_val (V_assign (v := (.bool true)) (.bool _)) ?_))
 refine C_nil (CW_ret ?_)
 obtain rfl := Option.some.inj hF
 exact End_ret () (.tmp rfl rfl .nil) rfl (.sel .nil)
end Go.Proofs.YtlfebfhfgfjceabGreat
