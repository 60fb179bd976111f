/-
  Functions of the program as Lean functions, and that the calls return what these say: part 3. No conditions.
-/
import Derived.Test.YtelpifelhmfdmaaGreatChangeFactG1
import Derived.KernelRfl
set_option maxRecDepth 100000
set_option maxHeartbeats 1000000
set_option linter.unusedVariables false
namespace Go.Proofs.YtelpifelhmfdmaaGreat
open Go Go.Fw

/-! impl.Fact] -/
def g_slices_DeleteFunc_impl_Fact_impl_Fact_imatches1 (a_s : List Fact) (a_e1 : Method) (a_e2 : Access) : Option (List Fact) :=
  delL (fun a_q => i_matches_1 a_q a_e1 a_e2) a_s
theorem g_slices_DeleteFunc_impl_Fact_impl_Fact_imatches1_sh (qs : List (Value × Fact)) (v : Sv) (F : List Nat) (kc1 : Nat) (a_e1 : Method) (vc1_1 : Sv) (kc2 : Nat) (a_e2 : Access) (vc2_1 : Sv) (p : Value × Fact → Bool) (hcl : ∀ q ∈ qs, i_matches_1 q.2 a_e1 a_e2 = some (p q)) (hidx : g_slices_IndexFunc_impl_Fact_impl_Fact_imatches1 (qs.map Prod.snd) a_e1 a_e2 = some (ixF p qs 0)) (hbd : qs.length < 4611686018427387904) :
    Fw.Spec Tryz.prog 110 [v.v, (.func (.func 184) [].toArray [(.pointer (some ⟨kc1, 0, some 0⟩)), (.pointer (some ⟨kc2, 0, some 0⟩))].toArray)] [cown (OwnS 55 (roE (rq rd55))) F v.v qs, cboR kc1 114 (.agg [(.int .i64 a_e1.Rel), vc1_1.v, (.int .i64 a_e1.Limit), (.int .i64 a_e1.Cost), (.int .i64 a_e1.Quota)].toArray), crd (RdS 3 rdInt) vc1_1.v a_e1.Inputs, cboR kc2 124 (.agg [(.int .i64 a_e2.Method), vc2_1.v].toArray), crd (RdS 3 rdInt) vc2_1.v a_e2.Values] (fun q : Sv × List Nat => q.1.v) (fun q => [cown (OwnS 55 (roE (rq rd55))) q.2 q.1.v (qs.filter fun a => !p a)]) := by
  refine Spec_enter (n := 42) Tryz.func110 rfl rfl (rs := [.tmp 4]) rfl rfl rfl ?_
  intro H0 F0
  refine K_region ?_
  refine C_val (V_assign (v := (.slice none 0 0)) EV.nilSlice) ?_
  refine C_nil ?_
  refine K_region ?_
  refine C_val (V_move (v := v.v) (.tmp rfl rfl)) ?_
  refine C_val (V_move (v := (.func (.func 184) [].toArray [(.pointer (some ⟨kc1, 0, some 0⟩)), (.pointer (some ⟨kc2, 0, some 0⟩))].toArray)) (.tmp rfl rfl)) ?_
  refine C_x1 (.cons .h (.rd .h rfl (.rd (.t .h) rfl (.rd (.t (.t .h)) rfl (.rd (.t (.t (.t .h))) rfl .nil))))) (XC_borR frz_rq (fun _ => .nil) (XC_pre (.rd (.t (.t (.t (.t .h)))) rfl (.rd .h rfl (.rd (.t .h) rfl (.rd (.t (.t .h)) rfl (.rd (.t (.t (.t .h))) rfl .nil))))) (X_callS cf157.h (.cons (.tmp rfl rfl) (.cons (.tmp rfl rfl) .nil)) (g_slices_IndexFunc_impl_Fact_impl_Fact_imatches1_ok (qs.map Prod.snd) v kc1 a_e1 vc1_1 kc2 a_e2 vc2_1 _ hidx)))) (fun _ => ?_)
  generalize hR : ixF p qs 0 = R0
  refine C_val (V_assign (v := (.int .i64 R0)) (.tmp rfl rfl)) ?_
  refine C_nil ?_
  refine K_in ?_
  refine K_region ?_
  refine C_val (V_move (v := (.int .i64 R0)) (.tmp rfl rfl)) ?_
  refine C_val (V_eql (i := R0) (j := (-1)) (.tmp rfl rfl) (.int _ _)) ?_
  refine C_nil ?_
  refine CW_cond (b := (R0 == (-1 : Int))) (.tmp rfl rfl) (fun hb => ?_) (fun hb => ?_)
  · refine K_region ?_
    refine C_val (V_move (v := v.v) (.tmp rfl rfl)) ?_
    refine C_val (V_assign (v := v.v) (.tmp rfl rfl)) ?_
    refine C_nil ?_
    refine CW_ret ?_
    have e : qs.filter (fun q => !p q) = qs := ixF_none (k := 0) (by rw [hR]; simpa using hb)
    rw [e]
    exact End_ret (v, F) (.tmp rfl rfl .nil) rfl (.sel (.cons .h .nil))
  refine CW_skip ?_
  obtain ⟨i0, hi0, hi1⟩ : ∃ i : Nat, R0 = (i : Int) ∧ i < qs.length := by
    rcases ixF_range p qs 0 with h | ⟨i, h, hi⟩
    · rw [hR] at h; subst h; simp at hb
    · exact ⟨i, by rw [← hR, h], by omega⟩
  subst hi0
  refine K_in ?_
  refine K_region ?_
  refine C_val (V_move (v := (.int .i64 (i0 : Int))) (.tmp rfl rfl)) ?_
  refine C_val (V_add (i := (i0 : Int)) (j := 1) (.tmp rfl rfl) (.int _ _)) ?_
  rw [show IntKind.i64.wrap ((i0 : Int) + 1) = ((i0 + 1 : Nat) : Int) from by rw [wrap_in (by omega) (by omega)]; rfl]
  refine C_val (V_assign (v := (.int .i64 ((i0 + 1 : Nat) : Int))) (.tmp rfl rfl)) ?_
  refine C_nil ?_
  refine CW_block ?_
  refine CW_loop (m := qs.length - (i0 + 1)) (fun m f' cs' => ∃ (g : Fr) (cur : List (Value × Fact)) (i j : Nat) (F' : List Nat), m = qs.length - j ∧ f' = updL g [(0, v.v), (1, (.func (.func 184) [].toArray [(.pointer (some ⟨kc1, 0, some 0⟩)), (.pointer (some ⟨kc2, 0, some 0⟩))].toArray)), (5, (.int .i64 (i : Int))), (6, (.int .i64 (j : Int)))] ∧ DelI p qs cur i j ∧ Ent cs' [cown (OwnS 55 (roE (rq rd55))) F' v.v cur, cboR kc1 114 (.agg [(.int .i64 a_e1.Rel), vc1_1.v, (.int .i64 a_e1.Limit), (.int .i64 a_e1.Cost), (.int .i64 a_e1.Quota)].toArray), crd (RdS 3 rdInt) vc1_1.v a_e1.Inputs, cboR kc2 124 (.agg [(.int .i64 a_e2.Method), vc2_1.v].toArray), crd (RdS 3 rdInt) vc2_1.v a_e2.Values]) ⟨_, qs, i0, i0 + 1, F, rfl, (EqL.cons rfl (EqL.cons rfl (EqL.cons rfl (EqL.cons rfl (EqL.nil))))).eq, DelI.init (by rw [hR]), .sel (.cons .h (.rd .h rfl (.rd (.t .h) rfl (.rd (.t (.t .h)) rfl (.rd (.t (.t (.t .h))) rfl .nil)))))⟩ ?_
  rintro m _ _ ⟨g, cur, i, j, F', rfl, rfl, hI, hE⟩
  refine K_ent hE ?_
  clear hE
  refine K_in ?_
  refine K_region ?_
  refine C_val (V_move (v := (.int .i64 (j : Int))) (.tmp rfl rfl)) ?_
  refine C_val (V_move (v := v.v) (.tmp rfl rfl)) ?_
  refine C_at .h (fun hp => V_lenR (l := cur.length) sl43.h (.tmp rfl rfl) (cown_len hp)) ?_
  refine C_val (V_lss (i := (j : Int)) (j := (cur.length : Int)) (.tmp rfl rfl) (.tmp rfl rfl)) ?_
  refine C_nil ?_
  have hlen := hI.len
  have hij := hI.lt
  have hjl := hI.le
  refine CW_cond (b := (decide ((j : Int) < (cur.length : Int)))) (.tmp rfl rfl) (fun hb2 => ?_) (fun hb2 => ?_)
  · refine CW_skip ?_
    have hj : j < qs.length := by simp at hb2; omega
    obtain ⟨x, hx1, hx2⟩ := hI.at hj
    refine K_block ?_
    refine K_region ?_
    refine C_val (V_move (v := v.v) (.tmp rfl rfl)) ?_
    refine C_val (V_move (v := (.int .i64 (j : Int))) (.tmp rfl rfl)) ?_
    refine C_idxO sl43.h ty55.h.sz (.tmp rfl rfl) (.tmp rfl rfl) .h (by simp; omega) (fun k hk => ?_)
    refine C_ldOW (a := x) (ul := fun i : Sv => [(.int .i64 x.2.Rel), i.v]) (cc := fun i => [crd (RdS 3 rdInt) i.v x.2.Values]) ag55.h ty55.h.sz rfl (.tmp rfl rfl) .h hk (by simpa using hx1) (fun H e h => by obtain ⟨-, v0, h1, h0⟩ := h; exact ⟨v0, h1, rfl, by simp [crd, h0]⟩) (fun w => ?_)
    refine C_new rfl (N_allocT (g := true) ty55.h rfl rfl) (fun k1 => ?_)
    refine C_x1 (.cons .h .nil) (X_storeB (e := (.agg [(.int .i64 0), (.slice none 0 0)].toArray)) (e' := (.agg [(.int .i64 x.2.Rel), w.v].toArray)) (v := (.agg [(.int .i64 x.2.Rel), w.v].toArray)) ty55.h.sz (.tmp rfl rfl) (.tmp rfl rfl) rfl rfl rfl rfl rfl) (fun _ => ?_)
    refine C_nil ?_
    refine K_region ?_
    refine C_val (V_move (v := (.func (.func 184) [].toArray [(.pointer (some ⟨kc1, 0, some 0⟩)), (.pointer (some ⟨kc2, 0, some 0⟩))].toArray)) (.tmp rfl rfl)) ?_
    refine C_at .h (fun hp => V_loadBox ag55.h ty55.h.sz rfl (.tmp rfl rfl) hp.2 rfl) ?_
    refine C_x0 (.rd (.t (.t .h)) rfl (.rd (.t (.t (.t (.t .h)))) rfl (.rd (.t (.t (.t (.t (.t .h))))) rfl (.rd (.t (.t (.t (.t (.t (.t .h)))))) rfl (.rd (.t (.t (.t (.t (.t (.t (.t .h))))))) rfl .nil))))) (X_callCS cf184.h (.tmp rfl rfl) (.cons (.tmp rfl rfl) .nil) (i_matches_1_ok x.2 w kc1 a_e1 vc1_1 kc2 a_e2 vc2_1 _ (hcl x (List.mem_of_getElem? hx2)))) (fun _ => ?_)
    refine C_val (V_not (b := p x) (.tmp rfl rfl)) ?_
    refine C_nil ?_
    refine CW_cond (b := (!p x)) (.tmp rfl rfl) (fun hb3 => ?_) (fun hb3 => ?_)
    · refine K_region ?_
      refine C_val (V_move (v := v.v) (.tmp rfl rfl)) ?_
      refine C_val (V_move (v := (.int .i64 (i : Int))) (.tmp rfl rfl)) ?_
      refine C_at .h (fun hp => V_loadBox ag55.h ty55.h.sz rfl (.tmp rfl rfl) hp.2 rfl) ?_
      have hii : (decide ((0 : Int) ≤ (i : Int)) && decide ((i : Int) < (cur.length : Int))) = true := by simp; omega
      refine C_idxO sl43.h ty55.h.sz (.tmp rfl rfl) (.tmp rfl rfl) (.t (.t (.t .h))) hii (fun k2 hk2 => ?_)
      refine C_x1 (.cons (.t (.t (.t .h))) (.rd (.t .h) rfl .nil)) (X_storeO (Ro := roE (rq rd55)) (a := x) (i := (i : Int)) ty55.h.sz rfl (.tmp rfl rfl) (.tmp rfl rfl) hk2 hii Mk_rd (fun _ _ _ _ h => by obtain ⟨-, -, v0, rfl, _⟩ := h; rfl)) (fun F2 => ?_)
      refine C_nil ?_
      refine CW_region ?_
      refine C_val (V_move (v := (.int .i64 (i : Int))) (.tmp rfl rfl)) ?_
      refine C_val (V_add (i := (i : Int)) (j := 1) (.tmp rfl rfl) (.int _ _)) ?_
      rw [show IntKind.i64.wrap ((i : Int) + 1) = ((i + 1 : Nat) : Int) from by rw [wrap_in (by omega) (by omega)]; rfl]
      refine C_val (V_assign (v := (.int .i64 ((i + 1 : Nat) : Int))) (.tmp rfl rfl)) ?_
      refine C_nil ?_
      refine CW_region ?_
      refine C_val (V_move (v := (.int .i64 (j : Int))) (.tmp rfl rfl)) ?_
      refine C_val (V_add (i := (j : Int)) (j := 1) (.tmp rfl rfl) (.int _ _)) ?_
      rw [show IntKind.i64.wrap ((j : Int) + 1) = ((j + 1 : Nat) : Int) from by rw [wrap_in (by omega) (by omega)]; rfl]
      refine C_val (V_assign (v := (.int .i64 ((j + 1 : Nat) : Int))) (.tmp rfl rfl)) ?_
      refine C_nil ?_
      exact ⟨_, by omega, _, cur.set i x, i + 1, j + 1, F2, rfl, (EqL.cons rfl (EqL.cons rfl (EqL.cons rfl (EqL.cons rfl (EqL.nil))))).eq, hI.no hx2 (by simpa using hb3), .sel (.cons .h (.rd (.t (.t (.t .h))) rfl (.rd (.t (.t (.t (.t .h)))) rfl (.rd (.t (.t (.t (.t (.t .h))))) rfl (.rd (.t (.t (.t (.t (.t (.t .h)))))) rfl .nil)))))⟩
    · refine CW_skip ?_
      refine CW_region ?_
      refine C_val (V_move (v := (.int .i64 (j : Int))) (.tmp rfl rfl)) ?_
      refine C_val (V_add (i := (j : Int)) (j := 1) (.tmp rfl rfl) (.int _ _)) ?_
      rw [show IntKind.i64.wrap ((j : Int) + 1) = ((j + 1 : Nat) : Int) from by rw [wrap_in (by omega) (by omega)]; rfl]
      refine C_val (V_assign (v := (.int .i64 ((j + 1 : Nat) : Int))) (.tmp rfl rfl)) ?_
      refine C_nil ?_
      exact ⟨_, by omega, _, cur, i, j + 1, F', rfl, (EqL.cons rfl (EqL.cons rfl (EqL.cons rfl (EqL.cons rfl (EqL.nil))))).eq, hI.yes hx2 (by simpa using hb3), .sel (.cons (.t (.t (.t .h))) (.rd (.t (.t (.t .h))) rfl (.rd (.t (.t (.t (.t .h)))) rfl (.rd (.t (.t (.t (.t (.t .h))))) rfl (.rd (.t (.t (.t (.t (.t (.t .h)))))) rfl .nil)))))⟩
  · refine CW_exit ?_
    refine CThen_exit ?_
    refine CThen_exit ?_
    refine CIn_self ?_
    have hj : qs.length ≤ j := by simp at hb2; omega
    refine K_pure .h (own_form (by intro e; rw [e] at hlen; simp at hlen; omega)) (fun hv => ?_)
    obtain ⟨k0, m0, rfl, hm0⟩ := hv
    refine K_region ?_
    refine C_val (V_move (v := (.slice (some ⟨k0, 0, none⟩) cur.length m0)) (.tmp rfl rfl)) ?_
    refine C_val (V_move (v := (.int .i64 (i : Int))) (.tmp rfl rfl)) ?_
    refine C_sliceLo sl43.h ty55.h.sz (.tmp rfl rfl) (.tmp rfl rfl) .h (by omega) (by omega) ?_
    refine C_x1 (.cons .h .nil) (X_clear (l := cur.length) (m := m0) (k := k0) (i := i) (j := cur.length - i) sl43.h ty55.h rfl rfl rfl rfl rfl (by omega) (.tmp rfl rfl)) (fun _ => ?_)
    refine C_nil ?_
    refine K_region ?_
    refine C_val (V_move (v := (.slice (some ⟨k0, 0, none⟩) cur.length m0)) (.tmp rfl rfl)) ?_
    refine C_val (V_move (v := (.int .i64 (i : Int))) (.tmp rfl rfl)) ?_
    refine C_sliceHi sl43.h ty55.h.sz (.tmp rfl rfl) hm0 (.tmp rfl rfl) .h rfl (by omega) (by omega) (by omega) ?_
    refine C_val (V_assign (v := (.slice (some ⟨k0, 0, none⟩) i 2)) (.tmp rfl rfl)) ?_
    refine C_nil ?_
    refine CW_ret ?_
    rw [← hI.fin hj]
    exact End_ret (⟨some ⟨k0, 0, none⟩, i, 2⟩, F') (.tmp rfl rfl .nil) rfl (.sel (.cons .h .nil))
theorem g_slices_DeleteFunc_impl_Fact_impl_Fact_imatches1_ok (a_s : List Fact) (v0_0 : Sv) (F0_0 : List Nat) (kc1 : Nat) (a_e1 : Method) (vc1_1 : Sv) (kc2 : Nat) (a_e2 : Access) (vc2_1 : Sv) (R : List Fact) (hF : g_slices_DeleteFunc_impl_Fact_impl_Fact_imatches1 a_s a_e1 a_e2 = some R) :
    Fw.Spec Tryz.prog 110 [v0_0.v, (.func (.func 184) [].toArray [(.pointer (some ⟨kc1, 0, some 0⟩)), (.pointer (some ⟨kc2, 0, some 0⟩))].toArray)] [cown (OwnS 55 ow55) F0_0 v0_0.v a_s, cboR kc1 114 (.agg [(.int .i64 a_e1.Rel), vc1_1.v, (.int .i64 a_e1.Limit), (.int .i64 a_e1.Cost), (.int .i64 a_e1.Quota)].toArray), crd (RdS 3 rdInt) vc1_1.v a_e1.Inputs, cboR kc2 124 (.agg [(.int .i64 a_e2.Method), vc2_1.v].toArray), crd (RdS 3 rdInt) vc2_1.v a_e2.Values] (fun p : Sv × List Nat => p.1.v) (fun p => [cown (OwnS 55 ow55) p.2 p.1.v R]) := by
  unfold g_slices_DeleteFunc_impl_Fact_impl_Fact_imatches1 at hF
  obtain ⟨h1, h2⟩ := delL_some hF
  refine Spec_pure cown_bound (fun hb => ?_)
  refine Spec_deep (R := rd55) rfl (fun es F1 hel => ⟨(es.zip a_s).filter (fun a => !(i_matches_1 a.2 a_e1 a_e2).getD false), List.filter_sublist, by rw [h2]; exact zip_filter (fun a => (i_matches_1 a a_e1 a_e2).getD false) es a_s hel, ?_⟩)
  refine g_slices_DeleteFunc_impl_Fact_impl_Fact_imatches1_sh (es.zip a_s) v0_0 F1 kc1 a_e1 vc1_1 kc2 a_e2 vc2_1 (fun a => (i_matches_1 a.2 a_e1 a_e2).getD false) (fun q hq => h1 q.2 (List.of_mem_zip hq).2) ?_ (by simp; omega)
  rw [List.map_snd_zip (Nat.le_of_eq hel.symm), ← ixF_map Prod.snd (fun a => (i_matches_1 a a_e1 a_e2).getD false), List.map_snd_zip (Nat.le_of_eq hel.symm)]
  exact index_loop (L := g_slices_IndexFunc_impl_Fact_impl_Fact_imatches1_L1 a_e1 a_e2) (fun _ => rfl) (fun _ _ _ => rfl) a_s 0 h1

/-! impl.matches -/
def i_matches (a_l : List Method) (a_facts : List Fact) (a_a : Access) : Option ((List Fact)) :=
  (ix a_l a_a.Method).bind fun x2 =>
  (i_copyFacts a_facts).bind fun r13 =>
  (g_slices_DeleteFunc_impl_Fact_impl_Fact_imatches1 r13 x2 a_a).bind fun r16 =>
  some r16
theorem i_matches_ok (a_l : List Method) (v0_0 : Sv) (a_facts : List Fact) (v1_0 : Sv) (a_a : Access) (v2_1 : Sv) (R : (List Fact)) (hF : i_matches a_l a_facts a_a = some R) :
    Fw.Spec Tryz.prog 172 [v0_0.v, v1_0.v, (.agg [(.int .i64 a_a.Method), v2_1.v].toArray)] [crd (RdS 114 rd114) v0_0.v a_l, crd (RdS 55 rd55) v1_0.v a_facts, crd (RdS 3 rdInt) v2_1.v a_a.Values] (fun p : Sv × List Nat => p.1.v) (fun p => [cown (OwnS 55 ow55) p.2 p.1.v R]) := by
  refine Spec_enter (n := 17) Tryz.func172 rfl rfl (rs := [.tmp 6]) rfl rfl rfl ?_
  intro H0 F0
  unfold i_matches at hF
  refine au ?_
  refine C_newR rfl (N_box (g := false) (v := (.agg [(.int .i64 a_a.Method), v2_1.v].toArray)) ty124.h.sz (.tmp rfl rfl) rfl) (fun k1 => ?_)
  iterate 6 refine au ?_
  obtain ⟨x2, hx3, hF⟩ := bind_some hF
  obtain ⟨hp4, hx5⟩ := ix_some hx3
  refine C_idx (a := x2) sl41.h ty114.h.sz (.tmp rfl rfl) (.tmp rfl rfl) (.t .h) hp4 hx5 (fun k6 j7 => ?_)
  refine C_ldA1 (ul114_0_114 x2) ag114.h ty114.h.sz rfl (.tmp rfl rfl) .h la114_0_114 (fun p8 => ?_)
  refine C_new rfl (N_allocT (g := true) ty114.h rfl rfl) (fun k9 => ?_)
  refine C_x1 (.cons .h .nil) (X_storeB (e' := (.agg [(.int .i64 x2.Rel), p8.v, (.int .i64 x2.Limit), (.int .i64 x2.Cost), (.int .i64 x2.Quota)].toArray)) (v := (.agg [(.int .i64 x2.Rel), p8.v, (.int .i64 x2.Limit), (.int .i64 x2.Cost), (.int .i64 x2.Quota)].toArray)) ty114.h.sz (.tmp rfl rfl) (.tmp rfl rfl) rfl rfl rfl rfl rfl) (fun _ => ?_)
  refine au ?_
  refine K_frz .h frz_blk ?_
  iterate 2 refine au ?_
  obtain ⟨r13, hx14, hF⟩ := bind_some hF
  refine C_x1 (.rd (.t (.t (.t (.t (.t .h))))) rfl .nil) (X_callS cf135.h (.cons (.tmp rfl rfl) .nil) (i_copyFacts_ok a_facts v1_0 _ hx14)) (fun p15 => ?_)
  refine C_val (V_makeFunc (fn := .func 184) (vs := []) (us := [(.pointer (some ⟨k9, 0, some 0⟩)), (.pointer (some ⟨k1, 0, some 0⟩))]) .nil (.cons (.tmp rfl rfl) (.cons (.tmp rfl rfl) .nil))) ?_
  obtain ⟨r16, hx17, hF⟩ := bind_some hF
  refine C_x1 (.cons .h (.rd .h rfl (.rd (.t .h) rfl (.rd (.t (.t (.t .h))) rfl (.rd (.t (.t (.t (.t (.t (.t .h)))))) rfl .nil))))) (X_callS cf110.h (.cons (.tmp rfl rfl) (.cons (.tmp rfl rfl) .nil)) (g_slices_DeleteFunc_impl_Fact_impl_Fact_imatches1_ok r13 p15.1 p15.2 k9 x2 p8 k1 a_a v2_1 _ hx17)) (fun p18 => ?_)
  iterate 3 refine au ?_
  obtain rfl := Option.some.inj hF
  exact End_ret (p18.1, p18.2) (.tmp rfl rfl .nil) rfl (.sel (.cons .h .nil))

/-! impl.isTime -/
def i_isTime (a_t : Int) : Option (Bool) :=
  (i_within a_t 0 10000).bind fun r1 =>
  some r1
theorem i_isTime_ok (a_t : Int) (R : Bool) (hF : i_isTime a_t = some R) :
    Fw.Spec Tryz.prog 101 [(.int .i64 a_t)] [] (fun _ : Unit => (.bool R)) (fun _ => []) := by
  refine Spec_enter (n := 5) Tryz.func101 rfl rfl (rs := [.tmp 2]) rfl rfl rfl ?_
  intro H0 F0
  unfold i_isTime at hF
  iterate 5 refine au ?_
  obtain ⟨r1, hx2, hF⟩ := bind_some hF
  refine Cx0 (i_within_ok _ _ _ _ hx2) (fun _ => ?_)
  iterate 3 refine au ?_
  cases hF
  exact Er ()

/-! impl.isStored -/
def i_isStored (a_s : List Int) (a_l : List Method) (a_x : Stored) : Option (Bool) :=
  ((i_IsAccess a_s a_l a_x.Access).bind fun r4 =>
    bif r4 then ((i_AreFacts a_s a_x.Facts).bind fun r8 =>
      bif r8 then ((i_matches a_l a_x.Facts a_x.Access).bind fun r12 =>
        bif (((r12.length : Int) : Int) == (a_x.Facts.length : Int)) then ((i_isTime a_x.At).bind fun r16 =>
          some r16)
        else (some false))
      else (some false))
    else (some false)).bind fun o2 =>
  match o2 with
  | c19 => some c19
theorem i_isStored_ok (a_s : List Int) (v0_0 : Sv) (a_l : List Method) (v1_0 : Sv) (a_x : Stored) (v2_1 : Sv) (v2_2 : Sv) (R : Bool) (hF : i_isStored a_s a_l a_x = some R) :
    Fw.Spec Tryz.prog 147 [v0_0.v, v1_0.v, (.agg [(.int .i64 a_x.Access.Method), v2_1.v, v2_2.v, (.int .i64 a_x.At)].toArray)] [crd (RdS 3 rdInt) v0_0.v a_s, crd (RdS 114 rd114) v1_0.v a_l, crd (RdS 3 rdInt) v2_1.v a_x.Access.Values, crd (RdS 55 rd55) v2_2.v a_x.Facts] (fun _ : Unit => (.bool R)) (fun _ => []) := by
  refine Spec_enter (n := 36) Tryz.func147 rfl rfl (rs := [.tmp 6]) rfl rfl rfl ?_
  intro H0 F0
  unfold i_isStored at hF
  refine au ?_
  refine AbR (fun k1 => ?_)
  iterate 2 refine au ?_
  obtain ⟨o2, hio2, hO3⟩ := bind_some hF
  refine K_draw [0, 1, 2, 3, 4, 5, 6, 7, 8, 9, 10, 11, 12, 13, 14, 15, 16, 19, 20, 21, 17, 18, 22, 23, 24, 25, 26, 27, 28, 29] [0, 0, 0, 4, 15, 31, 63, 63, 191, 511, 1023, 2047, 4095, 4095, 12287, 4095, 36863, 131071, 262143, 4095, 528383, 1576959, 4194303, 8388607, 16777215, 33554431, 67108863, 134217727, 268435455, 536870911] [4, 9, 17, 27] mixed (by decide +kernel) ?_
  refine D_cut (fun f' cs' => ∃ (c19 : Bool) (g : Fr), c19 = o2 ∧ f' = updL g [(6, (.bool c19))] ∧ Ent cs' []) ?_ ?_
  · replace hF := hio2
    iterate 3 refine du ?_
    refine D_at rfl .no .h rfl (fun ha hp => V_loadA (s := 2) (l := [(.int .i64 a_x.Access.Method), v2_1.v]) ag124.h ty124.h.sz (EN ha (.tmp rfl rfl) rfl) hp.2 rfl (by decide) (Nat.le_of_ble_eq_true rfl) rfl) ?_
    obtain ⟨r4, hx5, hF⟩ := bind_some hF
    refine Dx0 (i_IsAccess_ok _ _ _ _ _ _ _ hx5) (fun _ => ?_)
    refine du ?_
    rcases Bool.eq_false_or_eq_true r4 with hg7 | hg7
    · rw [hg7]
      try rw [hg7] at hF; dsimp only [cond_true, cond_false] at hF
      iterate 3 refine du ?_
      obtain ⟨r8, hx9, hF⟩ := bind_some hF
      refine Dx0 (i_AreFacts_ok _ _ _ _ _ hx9) (fun _ => ?_)
      iterate 2 refine du ?_
      rcases Bool.eq_false_or_eq_true r8 with hg11 | hg11
      · rw [hg11]
        try rw [hg11] at hF; dsimp only [cond_true, cond_false] at hF
        iterate 4 refine du ?_
        refine D_at rfl (.on 18 rfl rfl rfl) .h rfl (fun ha hp => V_loadA (s := 2) (l := [(.int .i64 a_x.Access.Method), v2_1.v]) ag124.h ty124.h.sz (EN ha (.tmp rfl rfl) rfl) hp.2 rfl (by decide) (Nat.le_of_ble_eq_true rfl) rfl) ?_
        iterate 3 refine du ?_
        obtain ⟨r12, hx13, hF⟩ := bind_some hF
        refine Dx1 (i_matches_ok _ _ _ _ _ _ _ hx13) (fun p14 => ?_)
        refine D_atO rfl (.on 18 rfl rfl rfl) .h (fun ha hp => V_lenR (l := r12.length) sl43.h (EN ha (.tmp rfl rfl) rfl) (cown_len hp)) ?_
        iterate 3 refine du ?_
        rcases Bool.eq_false_or_eq_true (((r12.length : Int) : Int) == (a_x.Facts.length : Int)) with hg15 | hg15
        · rw [hg15]
          try rw [hg15] at hF; dsimp only [cond_true, cond_false] at hF
          iterate 2 refine du ?_
          obtain ⟨r16, hx17, hF⟩ := bind_some hF
          refine Dx0 (i_isTime_ok _ _ hx17) (fun _ => ?_)
          iterate 3 refine du ?_
          cases hF
          exact ⟨_, _, rfl, eqA, entA⟩
        rw [hg15]
        try rw [hg15] at hF; dsimp only [cond_true, cond_false] at hF
        iterate 6 refine du ?_
        cases hF
        exact ⟨_, _, rfl, eqA, entA⟩
      rw [hg11]
      try rw [hg11] at hF; dsimp only [cond_true, cond_false] at hF
      iterate 19 refine du ?_
      cases hF
      exact ⟨_, _, rfl, eqA, entA⟩
    rw [hg7]
    try rw [hg7] at hF; dsimp only [cond_true, cond_false] at hF
    iterate 25 refine du ?_
    cases hF
    exact ⟨_, _, rfl, eqA, entA⟩
  rintro _ _ ⟨c19, g20, rfl, rfl, hE⟩
  replace hF := hO3
  clear hO3
  try dsimp only at hF
  refine K_ent hE ?_
  refine au ?_
  cases hF
  exact Er ()

/-! impl.compareAccesses -/
def i_compareAccesses (a_a : Access) (a_b : Access) : Option (Int) :=
  (g_cmp_Compare_int a_a.Method a_b.Method).bind fun r3 =>
  (g_slices_Compare_int_int a_a.Values a_b.Values).bind fun r6 =>
  (g_cmp_Or_int ([r3, r6] : List Int)).bind fun r10 =>
  some r10
theorem i_compareAccesses_ok (a_a : Access) (v0_1 : Sv) (a_b : Access) (v1_1 : Sv) (R : Int) (hF : i_compareAccesses a_a a_b = some R) :
    Fw.Spec Tryz.prog 148 [(.agg [(.int .i64 a_a.Method), v0_1.v].toArray), (.agg [(.int .i64 a_b.Method), v1_1.v].toArray)] [crd (RdS 3 rdInt) v0_1.v a_a.Values, crd (RdS 3 rdInt) v1_1.v a_b.Values] (fun _ : Unit => (.int .i64 R)) (fun _ => []) := by
  refine Spec_enter (n := 17) Tryz.func148 rfl rfl (rs := [.tmp 4]) rfl rfl rfl ?_
  intro H0 F0
  unfold i_compareAccesses at hF
  refine au ?_
  refine AbR (fun k1 => ?_)
  refine AbR (fun k2 => ?_)
  iterate 2 refine au ?_
  refine K_draw [0, 1, 2, 3, 5, 6, 7, 8, 4, 9, 10, 11, 12] [0, 1, 0, 4, 15, 0, 32, 0, 128, 511, 1023, 2047, 4095] [4, 9, 11] mixed (by decide +kernel) ?_
  iterate 8 refine du ?_
  obtain ⟨r3, hx4, hF⟩ := bind_some hF
  refine Dx0 (g_cmp_Compare_int_ok _ _ _ hx4) (fun _ => ?_)
  obtain ⟨r6, hx7, hF⟩ := bind_some hF
  refine Dx0 (g_slices_Compare_int_int_ok _ _ _ _ _ hx7) (fun _ => ?_)
  refine D_new rfl .no rfl (fun ha => N_buildSliceT (g := true) (len := 2) (parts := [(0, .tmp 9), (1, .tmp 14)]) sl22.h ty3.h (.cons (EN ha (.tmp rfl rfl) rfl) (.cons (EN ha (.tmp rfl rfl) rfl) .nil)) (vs := [(.int .i64 r3), (.int .i64 r6)]) rfl rfl rfl (by intro v hv; simp at hv; rcases hv with rfl | rfl <;> rfl)) (fun k9 => ?_)
  refine Dv1 (.cons .h .nil) (own_lit (Ro := (roE rdInt)) (E := 3) (F := ([] ++ ([] ++ []))) (xs := ([r3, r6] : List Int)) (MkL_cons (Mk_pure (fun _ => rfl)) (MkL_cons (Mk_pure (fun _ => rfl)) MkL_nil apps) apps) rfl rfl) ?_
  obtain ⟨r10, hx11, hF⟩ := bind_some hF
  refine D_act1 rfl rfl .no (.cons .h .nil) (.dep rfl .nil) (fun ha => XC_borL (pre := []) (.cons frz_own .nil) (fun _ => .nil) (X_callS cf161.h (.cons (EN ha (.tmp rfl rfl) rfl) .nil) (g_cmp_Or_int_ok ([r3, r6] : List Int) (⟨(some ⟨k9, 0, none⟩), 2, 1⟩) _ hx11))) (fun _ => ?_)
  iterate 2 refine du ?_
  refine au ?_
  cases hF
  exact Er ()

/-! impl.IsCache -/
def i_IsCache_L1 (a_s : List Int) (a_l : List Method) (a_c : Cache) : List Stored → Nat → Option (Bool)
  | [], k5 => ((i_AreMethods a_s a_l).bind fun r16 =>
      bif r16 then ((i_within a_c.Age 0 100).bind fun r20 =>
        bif r20 then (some (decide (((a_c.Entries.length : Int) : Int) ≤ 100)))
        else (some false))
      else (some false)).bind fun o14 =>
    match o14 with
    | c24 => some c24
  | x7 :: rest6, k5 => ((i_isStored a_s a_l x7).bind fun r32 =>
      bif (!r32) then (some true)
      else (bif (decide ((0 : Int) < (k5 : Int))) then ((ix a_c.Entries (IntKind.i64.wrap ((k5 : Int) - 1))).bind fun x37 =>
          (i_compareAccesses x37.Access x7.Access).bind fun r44 =>
          some (decide ((0 : Int) ≤ r44)))
        else (some false))).bind fun o30 =>
    match o30 with
    | c47 => if c47 then (
        some false)
      else (
        i_IsCache_L1 a_s a_l a_c rest6 (k5 + 1))
def i_IsCache (a_s : List Int) (a_l : List Method) (a_c : Cache) : Option (Bool) :=
  i_IsCache_L1 a_s a_l a_c a_c.Entries 0
theorem i_IsCache_ok (a_s : List Int) (v0_0 : Sv) (a_l : List Method) (v1_0 : Sv) (a_c : Cache) (v2_0 : Sv) (R : Bool) (hF : i_IsCache a_s a_l a_c = some R) :
    Fw.Spec Tryz.prog 100 [v0_0.v, v1_0.v, (.agg [v2_0.v, (.int .i64 a_c.Age)].toArray)] [crd (RdS 3 rdInt) v0_0.v a_s, crd (RdS 114 rd114) v1_0.v a_l, crd (RdS 156 rd156) v2_0.v a_c.Entries] (fun _ : Unit => (.bool R)) (fun _ => []) := by
  refine Spec_enter (n := 54) Tryz.func100 rfl rfl (rs := [.tmp 6]) rfl rfl rfl ?_
  intro H0 F0
  unfold i_IsCache at hF
  refine au ?_
  refine AbR (fun k1 => ?_)
  iterate 9 refine au ?_
  refine CW_block (CW_loop (m := a_c.Entries.length) (fun m3 f' cs' => ∃ (g : Fr) (k5 : Nat) (rest6 : List Stored), m3 = rest6.length ∧ f' = updL g [(0, v0_0.v), (1, v1_0.v), (5, (.pointer (some ⟨k1, 0, some 0⟩))), (10, v2_0.v), (11, (.int .i64 (a_c.Entries.length : Int))), (12, (.int .i64 (k5 : Int)))] ∧ List.drop k5 a_c.Entries = rest6 ∧ Ent cs' [crd (RdS 3 rdInt) v0_0.v a_s, crd (RdS 114 rd114) v1_0.v a_l, cboR k1 48 (.agg [v2_0.v, (.int .i64 a_c.Age)].toArray), crd (RdS 156 rd156) v2_0.v a_c.Entries] ∧ i_IsCache_L1 a_s a_l a_c rest6 k5 = some R) ⟨_, 0, _, rfl, eqA, rfl, entA, hF⟩ ?_)
  clear hF
  rintro m3 _ _ ⟨g4, k5, rest6, rfl, rfl, hd8, hE, hF⟩
  refine K_ent hE ?_
  clear hE
  refine K_pure (c := crd (RdS 156 rd156) v2_0.v a_c.Entries) (.t (.t (.t .h))) crd_bound (fun hbd13 => ?_)
  rcases rest6 with _ | ⟨x7, rest6⟩
  · have hk9 := List.drop_eq_nil_iff.1 hd8
    rw [i_IsCache_L1] at hF
    iterate 4 refine au ?_
    refine CdF ?_
    iterate 4 refine au ?_
    obtain ⟨o14, hio14, hO15⟩ := bind_some hF
    refine au ?_
    refine C_cut (fun f' cs' => ∃ (c24 : Bool) (g : Fr), c24 = o14 ∧ f' = updL g [(6, (.bool c24))] ∧ Ent cs' []) ?_ ?_
    · replace hF := hio14
      iterate 2 refine au ?_
      obtain ⟨r16, hx17, hF⟩ := bind_some hF
      refine Cx0 (i_AreMethods_ok _ _ _ _ _ hx17) (fun _ => ?_)
      refine au ?_
      rcases Bool.eq_false_or_eq_true r16 with hg19 | hg19
      · rw [hg19]
        try rw [hg19] at hF; dsimp only [cond_true, cond_false] at hF
        iterate 5 refine au ?_
        obtain ⟨r20, hx21, hF⟩ := bind_some hF
        refine Cx0 (i_within_ok _ _ _ _ hx21) (fun _ => ?_)
        iterate 2 refine au ?_
        rcases Bool.eq_false_or_eq_true r20 with hg23 | hg23
        · rw [hg23]
          try rw [hg23] at hF; dsimp only [cond_true, cond_false] at hF
          iterate 11 refine au ?_
          cases hF
          exact ⟨_, _, rfl, eqA, entA⟩
        rw [hg23]
        try rw [hg23] at hF; dsimp only [cond_true, cond_false] at hF
        iterate 7 refine au ?_
        cases hF
        exact ⟨_, _, rfl, eqA, entA⟩
      rw [hg19]
      try rw [hg19] at hF; dsimp only [cond_true, cond_false] at hF
      iterate 12 refine au ?_
      cases hF
      exact ⟨_, _, rfl, eqA, entA⟩
    rintro _ _ ⟨c24, g25, rfl, rfl, hE⟩
    replace hF := hO15
    clear hO15
    try dsimp only at hF
    refine K_ent hE ?_
    refine au ?_
    cases hF
    exact Er ()
  obtain ⟨hk9, hx10, hd11⟩ := drop_cons hd8
  rw [i_IsCache_L1] at hF
  iterate 4 refine au ?_
  refine CdT ?_
  iterate 4 refine au ?_
  refine Ai hx10 (fun k26 j27 => ?_)
  refine AlA2 (ul156_0_156 x7) la156_0_156 (fun p28 => ?_)
  refine AnW (fun k29 => ?_)
  refine au ?_
  refine As (.agg [(.int .i64 x7.Access.Method), p28.1.v, p28.2.v, (.int .i64 x7.At)].toArray) ?_
  refine au ?_
  obtain ⟨o30, hio30, hO31⟩ := bind_some hF
  refine K_draw [0, 1, 2, 3, 4, 5, 6, 7, 8, 9, 10, 11, 12, 13, 14, 15, 16, 17, 18, 19, 20, 21] [0, 0, 0, 7, 15, 31, 63, 127, 255, 511, 1023, 511, 2559, 8191, 16383, 32767, 511, 66047, 262143, 524287, 1048575, 2097151] [3, 18] mixed (by decide +kernel) ?_
  refine D_cut (fun f' cs' => ∃ (c47 : Bool) (g : Fr), c47 = o30 ∧ f' = updL g [(0, v0_0.v), (1, v1_0.v), (5, (.pointer (some ⟨k1, 0, some 0⟩))), (10, v2_0.v), (11, (.int .i64 (a_c.Entries.length : Int))), (12, (.int .i64 (k5 : Int))), (38, (.bool c47))] ∧ Ent cs' [crd (RdS 3 rdInt) v0_0.v a_s, crd (RdS 114 rd114) v1_0.v a_l, cboR k1 48 (.agg [v2_0.v, (.int .i64 a_c.Age)].toArray), crd (RdS 156 rd156) v2_0.v a_c.Entries]) ?_ ?_
  · replace hF := hio30
    iterate 2 refine du ?_
    refine D_atO rfl .no .h (fun ha hp => V_loadBox ag156.h ty156.h.sz rfl (EN ha (.tmp rfl rfl) rfl) hp.2 rfl) ?_
    obtain ⟨r32, hx33, hF⟩ := bind_some hF
    refine Dx0 (i_isStored_ok _ _ _ _ _ _ _ _ hx33) (fun _ => ?_)
    iterate 2 refine du ?_
    rcases Bool.eq_false_or_eq_true (!r32) with hg35 | hg35
    · rw [hg35]
      try rw [hg35] at hF; dsimp only [cond_true, cond_false] at hF
      iterate 17 refine du ?_
      cases hF
      exact ⟨_, _, rfl, eqA, entA⟩
    rw [hg35]
    try rw [hg35] at hF; dsimp only [cond_true, cond_false] at hF
    iterate 3 refine du ?_
    rcases Bool.eq_false_or_eq_true (decide ((0 : Int) < (k5 : Int))) with hg36 | hg36
    · rw [hg36]
      try rw [hg36] at hF; dsimp only [cond_true, cond_false] at hF
      iterate 4 refine du ?_
      obtain ⟨x37, hx38, hF⟩ := bind_some hF
      obtain ⟨hp39, hx40⟩ := ix_some hx38
      refine Di hx40 (fun k41 j42 => ?_)
      refine du ?_
      refine DlA1 (ul156_0_124 x37) la156_0_124 (fun p43 => ?_)
      refine du ?_
      refine D_atO rfl (.on 25 rfl rfl rfl) (.t (.t .h)) (fun ha hp => V_loadA (s := 2) (l := [(.int .i64 x7.Access.Method), p28.1.v]) ag124.h ty124.h.sz (EN ha (.tmp rfl rfl) rfl) hp.2 rfl (by decide) (Nat.le_of_ble_eq_true rfl) rfl) ?_
      obtain ⟨r44, hx45, hF⟩ := bind_some hF
      refine Dx0 (i_compareAccesses_ok _ _ _ _ _ hx45) (fun _ => ?_)
      iterate 4 refine du ?_
      cases hF
      exact ⟨_, _, rfl, eqA, entA⟩
    rw [hg36]
    try rw [hg36] at hF; dsimp only [cond_true, cond_false] at hF
    iterate 14 refine du ?_
    cases hF
    exact ⟨_, _, rfl, eqA, entA⟩
  rintro _ _ ⟨c47, g50, rfl, rfl, hE⟩
  replace hF := hO31
  clear hO31
  try dsimp only at hF
  refine K_ent hE ?_
  refine Cc (fun hb49 => ?_) (fun hb49 => ?_)
  · rw [if_pos hb49] at hF
    iterate 4 refine au ?_
    cases hF
    exact Er ()
  rw [if_neg (nt hb49)] at hF
  iterate 5 refine au ?_
  rw [wk k5]
  exact ⟨_, Nat.lt_succ_self _, _, k5 + 1, rest6, rfl, eqA, hd11, entA, hF⟩

/-! impl.IsMediator$1 -/
def i_IsMediator_1 (a_a : Access) (a_e1 : Mediator) : Option (Bool) :=
  (i_IsAccess a_e1.Schema a_e1.Methods a_a).bind fun r2 =>
  some (!r2)
theorem i_IsMediator_1_ok (a_a : Access) (v0_1 : Sv) (kc1 : Nat) (a_e1 : Mediator) (vc1_0 : Sv) (vc1_1 : Sv) (vc1_2 : Sv) (vc1_3 : Sv) (vc1_5 : Sv) (vc1_8 : Sv) (vc1_9 : Sv) (vc1_11 : Sv) (R : Bool) (hF : i_IsMediator_1 a_a a_e1 = some R) :
    Fw.Spec Tryz.prog 103 [(.agg [(.int .i64 a_a.Method), v0_1.v].toArray), (.pointer (some ⟨kc1, 0, some 0⟩))] [crd (RdS 3 rdInt) v0_1.v a_a.Values, cboR kc1 51 (.agg [vc1_0.v, vc1_1.v, vc1_2.v, vc1_3.v, (.int .i64 a_e1.Source.Version), vc1_5.v, (.int .i64 a_e1.Cache.Age), (.int .i64 a_e1.Now), vc1_8.v, vc1_9.v, (.int .i64 a_e1.Spent), vc1_11.v].toArray), crd (RdS 3 rdInt) vc1_0.v a_e1.Schema, crd (RdS 114 rd114) vc1_1.v a_e1.Methods, crd (RdS 116 rd116) vc1_2.v a_e1.Rules, crd (RdS 55 rd55) vc1_3.v a_e1.Source.Facts, crd (RdS 156 rd156) vc1_5.v a_e1.Cache.Entries, crd (RdS 124 rd124) vc1_8.v a_e1.Log, crd (RdS 3 rdInt) vc1_9.v a_e1.Times, crd (RdS 110 (RdS 22 (RdS 3 rdInt))) vc1_11.v a_e1.Results] (fun _ : Unit => (.bool R)) (fun _ => []) := by
  refine Spec_enter (n := 11) Tryz.func103 rfl rfl (rs := [.tmp 3]) rfl rfl rfl ?_
  intro H0 F0
  unfold i_IsMediator_1 at hF
  refine au ?_
  refine AbR (fun k1 => ?_)
  iterate 8 refine au ?_
  obtain ⟨r2, hx3, hF⟩ := bind_some hF
  refine Cx0 (i_IsAccess_ok _ _ _ _ _ _ _ hx3) (fun _ => ?_)
  iterate 4 refine au ?_
  cases hF
  exact Er ()

/-! impl.Access] -/
def g_slices_IndexFunc_impl_Access_impl_Access_iIsMediator1_L1 (a_e1 : Mediator) : List Access → Nat → Option (Int)
  | [], k4 => some (-1)
  | x6 :: rest5, k4 => (i_IsMediator_1 x6 a_e1).bind fun r16 =>
    if r16 then (
      some (k4 : Int))
    else (
      g_slices_IndexFunc_impl_Access_impl_Access_iIsMediator1_L1 a_e1 rest5 (k4 + 1))
def g_slices_IndexFunc_impl_Access_impl_Access_iIsMediator1 (a_s : List Access) (a_e1 : Mediator) : Option (Int) :=
  g_slices_IndexFunc_impl_Access_impl_Access_iIsMediator1_L1 a_e1 a_s 0
theorem g_slices_IndexFunc_impl_Access_impl_Access_iIsMediator1_ok (a_s : List Access) (v0_0 : Sv) (kc1 : Nat) (a_e1 : Mediator) (vc1_0 : Sv) (vc1_1 : Sv) (vc1_2 : Sv) (vc1_3 : Sv) (vc1_5 : Sv) (vc1_8 : Sv) (vc1_9 : Sv) (vc1_11 : Sv) (R : Int) (hF : g_slices_IndexFunc_impl_Access_impl_Access_iIsMediator1 a_s a_e1 = some R) :
    Fw.Spec Tryz.prog 149 [v0_0.v, (.func (.func 103) [].toArray [(.pointer (some ⟨kc1, 0, some 0⟩))].toArray)] [crd (RdS 124 rd124) v0_0.v a_s, cboR kc1 51 (.agg [vc1_0.v, vc1_1.v, vc1_2.v, vc1_3.v, (.int .i64 a_e1.Source.Version), vc1_5.v, (.int .i64 a_e1.Cache.Age), (.int .i64 a_e1.Now), vc1_8.v, vc1_9.v, (.int .i64 a_e1.Spent), vc1_11.v].toArray), crd (RdS 3 rdInt) vc1_0.v a_e1.Schema, crd (RdS 114 rd114) vc1_1.v a_e1.Methods, crd (RdS 116 rd116) vc1_2.v a_e1.Rules, crd (RdS 55 rd55) vc1_3.v a_e1.Source.Facts, crd (RdS 156 rd156) vc1_5.v a_e1.Cache.Entries, crd (RdS 124 rd124) vc1_8.v a_e1.Log, crd (RdS 3 rdInt) vc1_9.v a_e1.Times, crd (RdS 110 (RdS 22 (RdS 3 rdInt))) vc1_11.v a_e1.Results] (fun _ : Unit => (.int .i64 R)) (fun _ => []) := by
  refine Spec_enter (n := 19) Tryz.func149 rfl rfl (rs := [.tmp 4]) rfl rfl rfl ?_
  intro H0 F0
  unfold g_slices_IndexFunc_impl_Access_impl_Access_iIsMediator1 at hF
  iterate 9 refine au ?_
  refine CW_block (CW_loop (m := a_s.length) (fun m2 f' cs' => ∃ (g : Fr) (k4 : Nat) (rest5 : List Access), m2 = rest5.length ∧ f' = updL g [(0, v0_0.v), (1, (.func (.func 103) [].toArray [(.pointer (some ⟨kc1, 0, some 0⟩))].toArray)), (7, (.int .i64 (a_s.length : Int))), (8, (.int .i64 (k4 : Int)))] ∧ List.drop k4 a_s = rest5 ∧ Ent cs' [crd (RdS 124 rd124) v0_0.v a_s, cboR kc1 51 (.agg [vc1_0.v, vc1_1.v, vc1_2.v, vc1_3.v, (.int .i64 a_e1.Source.Version), vc1_5.v, (.int .i64 a_e1.Cache.Age), (.int .i64 a_e1.Now), vc1_8.v, vc1_9.v, (.int .i64 a_e1.Spent), vc1_11.v].toArray), crd (RdS 3 rdInt) vc1_0.v a_e1.Schema, crd (RdS 114 rd114) vc1_1.v a_e1.Methods, crd (RdS 116 rd116) vc1_2.v a_e1.Rules, crd (RdS 55 rd55) vc1_3.v a_e1.Source.Facts, crd (RdS 156 rd156) vc1_5.v a_e1.Cache.Entries, crd (RdS 124 rd124) vc1_8.v a_e1.Log, crd (RdS 3 rdInt) vc1_9.v a_e1.Times, crd (RdS 110 (RdS 22 (RdS 3 rdInt))) vc1_11.v a_e1.Results] ∧ g_slices_IndexFunc_impl_Access_impl_Access_iIsMediator1_L1 a_e1 rest5 k4 = some R) ⟨_, 0, _, rfl, eqA, rfl, entA, hF⟩ ?_)
  clear hF
  rintro m2 _ _ ⟨g3, k4, rest5, rfl, rfl, hd7, hE, hF⟩
  refine K_ent hE ?_
  clear hE
  refine K_pure (c := crd (RdS 124 rd124) v0_0.v a_s) .h crd_bound (fun hbd12 => ?_)
  rcases rest5 with _ | ⟨x6, rest5⟩
  · have hk8 := List.drop_eq_nil_iff.1 hd7
    rw [g_slices_IndexFunc_impl_Access_impl_Access_iIsMediator1_L1] at hF
    iterate 4 refine au ?_
    refine CdF ?_
    iterate 8 refine au ?_
    cases hF
    exact Er ()
  obtain ⟨hk8, hx9, hd10⟩ := drop_cons hd7
  rw [g_slices_IndexFunc_impl_Access_impl_Access_iIsMediator1_L1] at hF
  iterate 4 refine au ?_
  refine CdT ?_
  iterate 10 refine au ?_
  refine Ai hx9 (fun k13 j14 => ?_)
  refine AlA1 (ul124_0_124 x6) la124_0_124 (fun p15 => ?_)
  obtain ⟨r16, hx17, hF⟩ := bind_some hF
  refine C_x0 (.rd .h rfl (.rd (.t (.t (.t .h))) rfl (.rd (.t (.t (.t (.t .h)))) rfl (.rd (.t (.t (.t (.t (.t .h))))) rfl (.rd (.t (.t (.t (.t (.t (.t .h)))))) rfl (.rd (.t (.t (.t (.t (.t (.t (.t .h))))))) rfl (.rd (.t (.t (.t (.t (.t (.t (.t (.t .h)))))))) rfl (.rd (.t (.t (.t (.t (.t (.t (.t (.t (.t .h))))))))) rfl (.rd (.t (.t (.t (.t (.t (.t (.t (.t (.t (.t .h)))))))))) rfl (.rd (.t (.t (.t (.t (.t (.t (.t (.t (.t (.t (.t .h))))))))))) rfl .nil)))))))))) (X_callCS cf103.h (.tmp rfl rfl) (.cons (.tmp rfl rfl) .nil) (i_IsMediator_1_ok x6 p15 kc1 a_e1 vc1_0 vc1_1 vc1_2 vc1_3 vc1_5 vc1_8 vc1_9 vc1_11 _ hx17)) (fun _ => ?_)
  refine au ?_
  refine Cc (fun hb20 => ?_) (fun hb20 => ?_)
  · rw [if_pos hb20] at hF
    iterate 5 refine au ?_
    cases hF
    exact Er ()
  rw [if_neg (nt hb20)] at hF
  iterate 5 refine au ?_
  rw [wk k4]
  exact ⟨_, Nat.lt_succ_self _, _, k4 + 1, rest5, rfl, eqA, hd10, entA, hF⟩

/-! impl.Access] -/
def g_slices_ContainsFunc_impl_Access_impl_Access_iIsMediator1 (a_s : List Access) (a_e1 : Mediator) : Option (Bool) :=
  (g_slices_IndexFunc_impl_Access_impl_Access_iIsMediator1 a_s a_e1).bind fun r1 =>
  some (decide ((0 : Int) ≤ r1))
theorem g_slices_ContainsFunc_impl_Access_impl_Access_iIsMediator1_ok (a_s : List Access) (v0_0 : Sv) (kc1 : Nat) (a_e1 : Mediator) (vc1_0 : Sv) (vc1_1 : Sv) (vc1_2 : Sv) (vc1_3 : Sv) (vc1_5 : Sv) (vc1_8 : Sv) (vc1_9 : Sv) (vc1_11 : Sv) (R : Bool) (hF : g_slices_ContainsFunc_impl_Access_impl_Access_iIsMediator1 a_s a_e1 = some R) :
    Fw.Spec Tryz.prog 102 [v0_0.v, (.func (.func 103) [].toArray [(.pointer (some ⟨kc1, 0, some 0⟩))].toArray)] [crd (RdS 124 rd124) v0_0.v a_s, cboR kc1 51 (.agg [vc1_0.v, vc1_1.v, vc1_2.v, vc1_3.v, (.int .i64 a_e1.Source.Version), vc1_5.v, (.int .i64 a_e1.Cache.Age), (.int .i64 a_e1.Now), vc1_8.v, vc1_9.v, (.int .i64 a_e1.Spent), vc1_11.v].toArray), crd (RdS 3 rdInt) vc1_0.v a_e1.Schema, crd (RdS 114 rd114) vc1_1.v a_e1.Methods, crd (RdS 116 rd116) vc1_2.v a_e1.Rules, crd (RdS 55 rd55) vc1_3.v a_e1.Source.Facts, crd (RdS 156 rd156) vc1_5.v a_e1.Cache.Entries, crd (RdS 124 rd124) vc1_8.v a_e1.Log, crd (RdS 3 rdInt) vc1_9.v a_e1.Times, crd (RdS 110 (RdS 22 (RdS 3 rdInt))) vc1_11.v a_e1.Results] (fun _ : Unit => (.bool R)) (fun _ => []) := by
  refine Spec_enter (n := 9) Tryz.func102 rfl rfl (rs := [.tmp 4]) rfl rfl rfl ?_
  intro H0 F0
  unfold g_slices_ContainsFunc_impl_Access_impl_Access_iIsMediator1 at hF
  iterate 6 refine au ?_
  obtain ⟨r1, hx2, hF⟩ := bind_some hF
  refine Cx0 (g_slices_IndexFunc_impl_Access_impl_Access_iIsMediator1_ok _ _ _ _ _ _ _ _ _ _ _ _ _ hx2) (fun _ => ?_)
  iterate 4 refine au ?_
  cases hF
  exact Er ()

/-! cmp.Less[int] -/
def g_cmp_Less_int (a_x : Int) (a_y : Int) : Option (Bool) :=
  ((g_cmp_isNaN_int a_x).bind fun r3 =>
    bif r3 then ((g_cmp_isNaN_int a_y).bind fun r7 =>
      bif (!r7) then (some true)
      else (some (decide ((a_x : Int) < a_y))))
    else (some (decide ((a_x : Int) < a_y)))).bind fun o1 =>
  match o1 with
  | c11 => some c11
theorem g_cmp_Less_int_ok (a_x : Int) (a_y : Int) (R : Bool) (hF : g_cmp_Less_int a_x a_y = some R) :
    Fw.Spec Tryz.prog 175 [(.int .i64 a_x), (.int .i64 a_y)] [] (fun _ : Unit => (.bool R)) (fun _ => []) := by
  refine Spec_enter (n := 17) Tryz.func175 rfl rfl (rs := [.tmp 4]) rfl rfl rfl ?_
  intro H0 F0
  unfold g_cmp_Less_int at hF
  iterate 3 refine au ?_
  obtain ⟨o1, hio1, hO2⟩ := bind_some hF
  refine au ?_
  refine C_cut (fun f' cs' => ∃ (c11 : Bool) (g : Fr), c11 = o1 ∧ f' = updL g [(4, (.bool c11))] ∧ Ent cs' []) ?_ ?_
  · replace hF := hio1
    refine au ?_
    obtain ⟨r3, hx4, hF⟩ := bind_some hF
    refine Cx0 (g_cmp_isNaN_int_ok _ _ hx4) (fun _ => ?_)
    refine au ?_
    rcases Bool.eq_false_or_eq_true r3 with hg6 | hg6
    · rw [hg6]
      try rw [hg6] at hF; dsimp only [cond_true, cond_false] at hF
      iterate 3 refine au ?_
      obtain ⟨r7, hx8, hF⟩ := bind_some hF
      refine Cx0 (g_cmp_isNaN_int_ok _ _ hx8) (fun _ => ?_)
      iterate 4 refine au ?_
      rcases Bool.eq_false_or_eq_true (!r7) with hg10 | hg10
      · rw [hg10]
        try rw [hg10] at hF; dsimp only [cond_true, cond_false] at hF
        iterate 6 refine au ?_
        cases hF
        exact ⟨_, _, rfl, eqA, entA⟩
      rw [hg10]
      try rw [hg10] at hF; dsimp only [cond_true, cond_false] at hF
      iterate 9 refine au ?_
      cases hF
      exact ⟨_, _, rfl, eqA, entA⟩
    rw [hg6]
    try rw [hg6] at hF; dsimp only [cond_true, cond_false] at hF
    iterate 14 refine au ?_
    cases hF
    exact ⟨_, _, rfl, eqA, entA⟩
  rintro _ _ ⟨c11, g12, rfl, rfl, hE⟩
  replace hF := hO2
  clear hO2
  try dsimp only at hF
  refine K_ent hE ?_
  refine au ?_
  cases hF
  exact Er ()

/-! slices.IsSorted[[]int,int] -/
def g_slices_IsSorted_int_int_L1 (a_x : List Int) : Nat → Int → Option (Bool)
  | 0, _ => none
  | m2 + 1, c1 => if (decide ((0 : Int) < c1)) then (
      (ix a_x c1).bind fun x10 =>
      (ix a_x (IntKind.i64.wrap (c1 - 1))).bind fun x16 =>
      (g_cmp_Less_int x10 x16).bind fun r22 =>
      if r22 then (
        some false)
      else (
        g_slices_IsSorted_int_int_L1 a_x m2 (IntKind.i64.wrap (c1 - 1))))
    else (
      some true)
def g_slices_IsSorted_int_int (a_x : List Int) : Option (Bool) :=
  g_slices_IsSorted_int_int_L1 a_x (((IntKind.i64.wrap ((a_x.length : Int) - 1)) - 0).toNat + 2) (IntKind.i64.wrap ((a_x.length : Int) - 1))
theorem g_slices_IsSorted_int_int_ok (a_x : List Int) (v0_0 : Sv) (R : Bool) (hF : g_slices_IsSorted_int_int a_x = some R) :
    Fw.Spec Tryz.prog 151 [v0_0.v] [crd (RdS 3 rdInt) v0_0.v a_x] (fun _ : Unit => (.bool R)) (fun _ => []) := by
  refine Spec_enter (n := 21) Tryz.func151 rfl rfl (rs := [.tmp 2]) rfl rfl rfl ?_
  intro H0 F0
  unfold g_slices_IsSorted_int_int at hF
  iterate 10 refine au ?_
  refine CW_block (CW_loop (m := (((IntKind.i64.wrap ((a_x.length : Int) - 1)) - 0).toNat + 2)) (fun m2 f' cs' => ∃ (g : Fr) (c1 : Int), f' = updL g [(0, v0_0.v), (3, (.int .i64 c1))] ∧ Ent cs' [crd (RdS 3 rdInt) v0_0.v a_x] ∧ g_slices_IsSorted_int_int_L1 a_x m2 c1 = some R) ⟨_, _, eqA, entA, hF⟩ ?_)
  clear hF
  rintro m2 _ _ ⟨g3, c1, rfl, hE, hF⟩
  refine K_ent hE ?_
  clear hE
  rcases m2 with _ | m2
  · rw [g_slices_IsSorted_int_int_L1] at hF
    exact absurd hF (by simp)
  rw [g_slices_IsSorted_int_int_L1] at hF
  iterate 5 refine au ?_
  refine Cc (fun hb26 => ?_) (fun hb26 => ?_)
  · rw [if_pos hb26] at hF
    iterate 2 refine au ?_
    refine K_draw [0, 1, 2, 3, 4, 5, 6, 7, 8, 9] [0, 0, 3, 7, 0, 0, 32, 112, 240, 511] [9] mixed (by decide +kernel) ?_
    iterate 2 refine du ?_
    obtain ⟨x10, hx11, hF⟩ := bind_some hF
    obtain ⟨hp12, hx13⟩ := ix_some hx11
    refine Di hx13 (fun k14 j15 => ?_)
    refine Dl ls3_0 ?_
    iterate 3 refine du ?_
    obtain ⟨x16, hx17, hF⟩ := bind_some hF
    obtain ⟨hp18, hx19⟩ := ix_some hx17
    refine Di hx19 (fun k20 j21 => ?_)
    refine Dl ls3_0 ?_
    obtain ⟨r22, hx23, hF⟩ := bind_some hF
    refine Dx0 (g_cmp_Less_int_ok _ _ _ hx23) (fun _ => ?_)
    refine du ?_
    refine Cc (fun hb25 => ?_) (fun hb25 => ?_)
    · rw [if_pos hb25] at hF
      iterate 4 refine au ?_
      cases hF
      exact Er ()
    rw [if_neg (nt hb25)] at hF
    iterate 6 refine au ?_
    exact ⟨m2, Nat.lt_succ_self _, _, _, eqA, entA, hF⟩
  rw [if_neg (nt hb26)] at hF
  iterate 8 refine au ?_
  cases hF
  exact Er ()

/-! impl.areTimes$1 -/
def i_areTimes_1 (a_t : Int) : Option (Bool) :=
  (i_isTime a_t).bind fun r1 =>
  some (!r1)
theorem i_areTimes_1_ok (a_t : Int) (R : Bool) (hF : i_areTimes_1 a_t = some R) :
    Fw.Spec Tryz.prog 153 [(.int .i64 a_t)] [] (fun _ : Unit => (.bool R)) (fun _ => []) := by
  refine Spec_enter (n := 6) Tryz.func153 rfl rfl (rs := [.tmp 2]) rfl rfl rfl ?_
  intro H0 F0
  unfold i_areTimes_1 at hF
  iterate 5 refine au ?_
  obtain ⟨r1, hx2, hF⟩ := bind_some hF
  refine Cx0 (i_isTime_ok _ _ hx2) (fun _ => ?_)
  iterate 4 refine au ?_
  cases hF
  exact Er ()

/-! slices.IndexFunc[[]int,int] -/
def g_slices_IndexFunc_int_int_iareTimes1_L1 : List Int → Nat → Option (Int)
  | [], k4 => some (-1)
  | x6 :: rest5, k4 => (i_areTimes_1 x6).bind fun r15 =>
    if r15 then (
      some (k4 : Int))
    else (
      g_slices_IndexFunc_int_int_iareTimes1_L1 rest5 (k4 + 1))
def g_slices_IndexFunc_int_int_iareTimes1 (a_s : List Int) : Option (Int) :=
  g_slices_IndexFunc_int_int_iareTimes1_L1 a_s 0
theorem g_slices_IndexFunc_int_int_iareTimes1_ok (a_s : List Int) (v0_0 : Sv) (R : Int) (hF : g_slices_IndexFunc_int_int_iareTimes1 a_s = some R) :
    Fw.Spec Tryz.prog 176 [v0_0.v, (.func (.func 153) [].toArray [].toArray)] [crd (RdS 3 rdInt) v0_0.v a_s] (fun _ : Unit => (.int .i64 R)) (fun _ => []) := by
  refine Spec_enter (n := 19) Tryz.func176 rfl rfl (rs := [.tmp 4]) rfl rfl rfl ?_
  intro H0 F0
  unfold g_slices_IndexFunc_int_int_iareTimes1 at hF
  iterate 9 refine au ?_
  refine CW_block (CW_loop (m := a_s.length) (fun m2 f' cs' => ∃ (g : Fr) (k4 : Nat) (rest5 : List Int), m2 = rest5.length ∧ f' = updL g [(0, v0_0.v), (1, (.func (.func 153) [].toArray [].toArray)), (7, (.int .i64 (a_s.length : Int))), (8, (.int .i64 (k4 : Int)))] ∧ List.drop k4 a_s = rest5 ∧ Ent cs' [crd (RdS 3 rdInt) v0_0.v a_s] ∧ g_slices_IndexFunc_int_int_iareTimes1_L1 rest5 k4 = some R) ⟨_, 0, _, rfl, eqA, rfl, entA, hF⟩ ?_)
  clear hF
  rintro m2 _ _ ⟨g3, k4, rest5, rfl, rfl, hd7, hE, hF⟩
  refine K_ent hE ?_
  clear hE
  refine K_pure (c := crd (RdS 3 rdInt) v0_0.v a_s) .h crd_bound (fun hbd12 => ?_)
  rcases rest5 with _ | ⟨x6, rest5⟩
  · have hk8 := List.drop_eq_nil_iff.1 hd7
    rw [g_slices_IndexFunc_int_int_iareTimes1_L1] at hF
    iterate 4 refine au ?_
    refine CdF ?_
    iterate 8 refine au ?_
    cases hF
    exact Er ()
  obtain ⟨hk8, hx9, hd10⟩ := drop_cons hd7
  rw [g_slices_IndexFunc_int_int_iareTimes1_L1] at hF
  iterate 4 refine au ?_
  refine CdT ?_
  iterate 10 refine au ?_
  refine Ai hx9 (fun k13 j14 => ?_)
  refine Al ls3_0 ?_
  obtain ⟨r15, hx16, hF⟩ := bind_some hF
  refine C_x0 .nil (X_callCS cf153.h (.tmp rfl rfl) (.cons (.tmp rfl rfl) .nil) (i_areTimes_1_ok x6 _ hx16)) (fun _ => ?_)
  refine au ?_
  refine Cc (fun hb19 => ?_) (fun hb19 => ?_)
  · rw [if_pos hb19] at hF
    iterate 5 refine au ?_
    cases hF
    exact Er ()
  rw [if_neg (nt hb19)] at hF
  iterate 5 refine au ?_
  rw [wk k4]
  exact ⟨_, Nat.lt_succ_self _, _, k4 + 1, rest5, rfl, eqA, hd10, entA, hF⟩

/-! slices.ContainsFunc[[]int,int] -/
def g_slices_ContainsFunc_int_int_iareTimes1 (a_s : List Int) : Option (Bool) :=
  (g_slices_IndexFunc_int_int_iareTimes1 a_s).bind fun r1 =>
  some (decide ((0 : Int) ≤ r1))
theorem g_slices_ContainsFunc_int_int_iareTimes1_ok (a_s : List Int) (v0_0 : Sv) (R : Bool) (hF : g_slices_ContainsFunc_int_int_iareTimes1 a_s = some R) :
    Fw.Spec Tryz.prog 152 [v0_0.v, (.func (.func 153) [].toArray [].toArray)] [crd (RdS 3 rdInt) v0_0.v a_s] (fun _ : Unit => (.bool R)) (fun _ => []) := by
  refine Spec_enter (n := 9) Tryz.func152 rfl rfl (rs := [.tmp 4]) rfl rfl rfl ?_
  intro H0 F0
  unfold g_slices_ContainsFunc_int_int_iareTimes1 at hF
  iterate 6 refine au ?_
  obtain ⟨r1, hx2, hF⟩ := bind_some hF
  refine Cx0 (g_slices_IndexFunc_int_int_iareTimes1_ok _ _ _ hx2) (fun _ => ?_)
  iterate 4 refine au ?_
  cases hF
  exact Er ()

/-! impl.areTimes -/
def i_areTimes (a_l : List Int) : Option (Bool) :=
  ((g_slices_IsSorted_int_int a_l).bind fun r3 =>
    bif r3 then ((g_slices_ContainsFunc_int_int_iareTimes1 a_l).bind fun r7 =>
      some (!r7))
    else (some false)).bind fun o1 =>
  match o1 with
  | c10 => some c10
theorem i_areTimes_ok (a_l : List Int) (v0_0 : Sv) (R : Bool) (hF : i_areTimes a_l = some R) :
    Fw.Spec Tryz.prog 105 [v0_0.v] [crd (RdS 3 rdInt) v0_0.v a_l] (fun _ : Unit => (.bool R)) (fun _ => []) := by
  refine Spec_enter (n := 10) Tryz.func105 rfl rfl (rs := [.tmp 2]) rfl rfl rfl ?_
  intro H0 F0
  unfold i_areTimes at hF
  iterate 3 refine au ?_
  obtain ⟨o1, hio1, hO2⟩ := bind_some hF
  refine au ?_
  refine C_cut (fun f' cs' => ∃ (c10 : Bool) (g : Fr), c10 = o1 ∧ f' = updL g [(2, (.bool c10))] ∧ Ent cs' []) ?_ ?_
  · replace hF := hio1
    refine au ?_
    obtain ⟨r3, hx4, hF⟩ := bind_some hF
    refine Cx0 (g_slices_IsSorted_int_int_ok _ _ _ hx4) (fun _ => ?_)
    refine au ?_
    rcases Bool.eq_false_or_eq_true r3 with hg6 | hg6
    · rw [hg6]
      try rw [hg6] at hF; dsimp only [cond_true, cond_false] at hF
      iterate 3 refine au ?_
      obtain ⟨r7, hx8, hF⟩ := bind_some hF
      refine Cx0 (g_slices_ContainsFunc_int_int_iareTimes1_ok _ _ _ hx8) (fun _ => ?_)
      iterate 5 refine au ?_
      cases hF
      exact ⟨_, _, rfl, eqA, entA⟩
    rw [hg6]
    try rw [hg6] at hF; dsimp only [cond_true, cond_false] at hF
    iterate 6 refine au ?_
    cases hF
    exact ⟨_, _, rfl, eqA, entA⟩
  rintro _ _ ⟨c10, g11, rfl, rfl, hE⟩
  replace hF := hO2
  clear hO2
  try dsimp only at hF
  refine K_ent hE ?_
  refine au ?_
  cases hF
  exact Er ()

/-! impl.IsMediator -/
def i_IsMediator (a_m : Mediator) : Option (Bool) :=
  ((i_AreMethods a_m.Schema a_m.Methods).bind fun r4 =>
    bif r4 then ((i_AreRules a_m.Schema a_m.Rules).bind fun r8 =>
      bif r8 then ((i_IsSource a_m.Schema a_m.Source).bind fun r12 =>
        bif r12 then ((i_IsCache a_m.Schema a_m.Methods a_m.Cache).bind fun r16 =>
          bif r16 then ((i_isTime a_m.Now).bind fun r20 =>
            bif r20 then (bif (decide (((a_m.Log.length : Int) : Int) ≤ 1000)) then ((g_slices_ContainsFunc_impl_Access_impl_Access_iIsMediator1 a_m.Log a_m).bind fun r25 =>
                bif (!r25) then (bif (((a_m.Times.length : Int) : Int) == (a_m.Log.length : Int)) then ((i_areTimes a_m.Times).bind fun r30 =>
                    bif r30 then ((i_within a_m.Spent 0 1000000).bind fun r34 =>
                      bif r34 then (some (decide (((a_m.Results.length : Int) : Int) ≤ 100)))
                      else (some false))
                    else (some false))
                  else (some false))
                else (some false))
              else (some false))
            else (some false))
          else (some false))
        else (some false))
      else (some false))
    else (some false)).bind fun o2 =>
  match o2 with
  | c38 => some c38
theorem i_IsMediator_ok (a_m : Mediator) (v0_0 : Sv) (v0_1 : Sv) (v0_2 : Sv) (v0_3 : Sv) (v0_5 : Sv) (v0_8 : Sv) (v0_9 : Sv) (v0_11 : Sv) (R : Bool) (hF : i_IsMediator a_m = some R) :
    Fw.Spec Tryz.prog 35 [(.agg [v0_0.v, v0_1.v, v0_2.v, v0_3.v, (.int .i64 a_m.Source.Version), v0_5.v, (.int .i64 a_m.Cache.Age), (.int .i64 a_m.Now), v0_8.v, v0_9.v, (.int .i64 a_m.Spent), v0_11.v].toArray)] [crd (RdS 3 rdInt) v0_0.v a_m.Schema, crd (RdS 114 rd114) v0_1.v a_m.Methods, crd (RdS 116 rd116) v0_2.v a_m.Rules, crd (RdS 55 rd55) v0_3.v a_m.Source.Facts, crd (RdS 156 rd156) v0_5.v a_m.Cache.Entries, crd (RdS 124 rd124) v0_8.v a_m.Log, crd (RdS 3 rdInt) v0_9.v a_m.Times, crd (RdS 110 (RdS 22 (RdS 3 rdInt))) v0_11.v a_m.Results] (fun _ : Unit => (.bool R)) (fun _ => []) := by
  refine Spec_enter (n := 74) Tryz.func35 rfl rfl (rs := [.tmp 2]) rfl rfl rfl ?_
  intro H0 F0
  unfold i_IsMediator at hF
  refine K_region (C_newR rfl (N_box (g := false) (v := (.agg [v0_0.v, v0_1.v, v0_2.v, v0_3.v, (.int .i64 a_m.Source.Version), v0_5.v, (.int .i64 a_m.Cache.Age), (.int .i64 a_m.Now), v0_8.v, v0_9.v, (.int .i64 a_m.Spent), v0_11.v].toArray)) ty51.h.sz (.tmp rfl rfl) rfl) (fun k1 => ?_))
  refine C_val (V_assign (v := (.bool false)) (.bool _)) ?_
  refine C_nil ?_
  obtain ⟨o2, hio2, hO3⟩ := bind_some hF
  refine K_region (C_cut (fun f' cs' => ∃ (c38 : Bool) (g : Fr), c38 = o2 ∧ f' = updL g [(2, (.bool c38))] ∧ Ent cs' []) ?_ ?_)
  · replace hF := hio2
    refine C_val (V_fieldAddr (off := 0) fd51_0.h (.tmp rfl rfl)) ?_
    refine C_at .h (fun hp => V_load (v := v0_0.v) ag22.h (.tmp rfl rfl) hp.2 rfl rfl) ?_
    refine C_val (V_fieldAddr (off := 1) fd51_1.h (.tmp rfl rfl)) ?_
    refine C_at .h (fun hp => V_load (v := v0_1.v) ag41.h (.tmp rfl rfl) hp.2 rfl rfl) ?_
    obtain ⟨r4, hx5, hF⟩ := bind_some hF
    refine C_x0 (.rd (.t .h) rfl (.rd (.t (.t .h)) rfl .nil)) (X_callS cf97.h (.cons (.tmp rfl rfl) (.cons (.tmp rfl rfl) .nil)) (i_AreMethods_ok a_m.Schema v0_0 a_m.Methods v0_1 _ hx5)) (fun _ => ?_)
    refine Cm (.bool r4) rfl rfl ?_
    rcases Bool.eq_false_or_eq_true r4 with hg7 | hg7
    · rw [hg7]
      try rw [hg7] at hF; dsimp only [cond_true, cond_false] at hF
      refine C_on (t := 8) rfl rfl rfl ?_
      refine C_val (V_fieldAddr (off := 0) fd51_0.h (.tmp rfl rfl)) ?_
      refine C_on (t := 8) rfl rfl rfl ?_
      refine C_at .h (fun hp => V_load (v := v0_0.v) ag22.h (.tmp rfl rfl) hp.2 rfl rfl) ?_
      refine C_on (t := 8) rfl rfl rfl ?_
      refine C_val (V_fieldAddr (off := 2) fd51_2.h (.tmp rfl rfl)) ?_
      refine C_on (t := 8) rfl rfl rfl ?_
      refine C_at .h (fun hp => V_load (v := v0_2.v) ag42.h (.tmp rfl rfl) hp.2 rfl rfl) ?_
      refine C_on (t := 8) rfl rfl rfl ?_
      obtain ⟨r8, hx9, hF⟩ := bind_some hF
      refine C_x0 (.rd (.t .h) rfl (.rd (.t (.t (.t .h))) rfl .nil)) (X_callS cf98.h (.cons (.tmp rfl rfl) (.cons (.tmp rfl rfl) .nil)) (i_AreRules_ok a_m.Schema v0_0 a_m.Rules v0_2 _ hx9)) (fun _ => ?_)
      refine C_val (V_pick (b := true) (u := (.bool r8)) (v := (.bool false)) (.tmp rfl rfl) (.tmp rfl rfl) (.bool _)) ?_
      refine Cm (.bool r8) rfl rfl ?_
      rcases Bool.eq_false_or_eq_true r8 with hg11 | hg11
      · rw [hg11]
        try rw [hg11] at hF; dsimp only [cond_true, cond_false] at hF
        refine C_on (t := 15) rfl rfl rfl ?_
        refine C_val (V_fieldAddr (off := 0) fd51_0.h (.tmp rfl rfl)) ?_
        refine C_on (t := 15) rfl rfl rfl ?_
        refine C_at .h (fun hp => V_load (v := v0_0.v) ag22.h (.tmp rfl rfl) hp.2 rfl rfl) ?_
        refine C_on (t := 15) rfl rfl rfl ?_
        refine C_val (V_fieldAddr (off := 3) fd51_3.h (.tmp rfl rfl)) ?_
        refine C_on (t := 15) rfl rfl rfl ?_
        refine C_at .h (fun hp => V_loadA (s := 2) (l := [v0_3.v, (.int .i64 a_m.Source.Version)]) ag45.h ty45.h.sz (.tmp rfl rfl) hp.2 rfl (by decide) (Nat.le_of_ble_eq_true rfl) rfl) ?_
        refine C_on (t := 15) rfl rfl rfl ?_
        obtain ⟨r12, hx13, hF⟩ := bind_some hF
        refine C_x0 (.rd (.t .h) rfl (.rd (.t (.t (.t (.t .h)))) rfl .nil)) (X_callS cf99.h (.cons (.tmp rfl rfl) (.cons (.tmp rfl rfl) .nil)) (i_IsSource_ok a_m.Schema v0_0 a_m.Source v0_3 _ hx13)) (fun _ => ?_)
        refine C_val (V_pick (b := true) (u := (.bool r12)) (v := (.bool false)) (.tmp rfl rfl) (.tmp rfl rfl) (.bool _)) ?_
        refine Cm (.bool r12) rfl rfl ?_
        rcases Bool.eq_false_or_eq_true r12 with hg15 | hg15
        · rw [hg15]
          try rw [hg15] at hF; dsimp only [cond_true, cond_false] at hF
          refine C_on (t := 22) rfl rfl rfl ?_
          refine C_val (V_fieldAddr (off := 0) fd51_0.h (.tmp rfl rfl)) ?_
          refine C_on (t := 22) rfl rfl rfl ?_
          refine C_at .h (fun hp => V_load (v := v0_0.v) ag22.h (.tmp rfl rfl) hp.2 rfl rfl) ?_
          refine C_on (t := 22) rfl rfl rfl ?_
          refine C_val (V_fieldAddr (off := 1) fd51_1.h (.tmp rfl rfl)) ?_
          refine C_on (t := 22) rfl rfl rfl ?_
          refine C_at .h (fun hp => V_load (v := v0_1.v) ag41.h (.tmp rfl rfl) hp.2 rfl rfl) ?_
          refine C_on (t := 22) rfl rfl rfl ?_
          refine C_val (V_fieldAddr (off := 5) fd51_4.h (.tmp rfl rfl)) ?_
          refine C_on (t := 22) rfl rfl rfl ?_
          refine C_at .h (fun hp => V_loadA (s := 2) (l := [v0_5.v, (.int .i64 a_m.Cache.Age)]) ag48.h ty48.h.sz (.tmp rfl rfl) hp.2 rfl (by decide) (Nat.le_of_ble_eq_true rfl) rfl) ?_
          refine C_on (t := 22) rfl rfl rfl ?_
          obtain ⟨r16, hx17, hF⟩ := bind_some hF
          refine C_x0 (.rd (.t .h) rfl (.rd (.t (.t .h)) rfl (.rd (.t (.t (.t (.t (.t .h))))) rfl .nil))) (X_callS cf100.h (.cons (.tmp rfl rfl) (.cons (.tmp rfl rfl) (.cons (.tmp rfl rfl) .nil))) (i_IsCache_ok a_m.Schema v0_0 a_m.Methods v0_1 a_m.Cache v0_5 _ hx17)) (fun _ => ?_)
          refine C_val (V_pick (b := true) (u := (.bool r16)) (v := (.bool false)) (.tmp rfl rfl) (.tmp rfl rfl) (.bool _)) ?_
          refine Cm (.bool r16) rfl rfl ?_
          rcases Bool.eq_false_or_eq_true r16 with hg19 | hg19
          · rw [hg19]
            try rw [hg19] at hF; dsimp only [cond_true, cond_false] at hF
            refine C_on (t := 31) rfl rfl rfl ?_
            refine C_val (V_fieldAddr (off := 7) fd51_5.h (.tmp rfl rfl)) ?_
            refine C_on (t := 31) rfl rfl rfl ?_
            refine C_at .h (fun hp => V_load (v := (.int .i64 a_m.Now)) ag3.h (.tmp rfl rfl) hp.2 rfl rfl) ?_
            refine C_on (t := 31) rfl rfl rfl ?_
            obtain ⟨r20, hx21, hF⟩ := bind_some hF
            refine C_x0 .nil (X_callS cf101.h (.cons (.tmp rfl rfl) .nil) (i_isTime_ok a_m.Now _ hx21)) (fun _ => ?_)
            refine C_val (V_pick (b := true) (u := (.bool r20)) (v := (.bool false)) (.tmp rfl rfl) (.tmp rfl rfl) (.bool _)) ?_
            refine Cm (.bool r20) rfl rfl ?_
            rcases Bool.eq_false_or_eq_true r20 with hg23 | hg23
            · rw [hg23]
              try rw [hg23] at hF; dsimp only [cond_true, cond_false] at hF
              refine C_on (t := 36) rfl rfl rfl ?_
              refine C_val (V_fieldAddr (off := 8) fd51_6.h (.tmp rfl rfl)) ?_
              refine C_on (t := 36) rfl rfl rfl ?_
              refine C_at .h (fun hp => V_load (v := v0_8.v) ag49.h (.tmp rfl rfl) hp.2 rfl rfl) ?_
              refine C_on (t := 36) rfl rfl rfl ?_
              refine C_at (.t (.t (.t (.t (.t (.t .h)))))) (fun hp => V_lenR (l := a_m.Log.length) sl49.h (.tmp rfl rfl) (crd_len hp)) ?_
              refine C_on (t := 36) rfl rfl rfl ?_
              refine C_val (V_leq (i := (a_m.Log.length : Int)) (j := 1000) (.tmp rfl rfl) (.int _ _)) ?_
              refine C_val (V_pick (b := true) (u := (.bool (decide (((a_m.Log.length : Int) : Int) ≤ 1000)))) (v := (.bool false)) (.tmp rfl rfl) (.tmp rfl rfl) (.bool _)) ?_
              refine Cm (.bool (decide (((a_m.Log.length : Int) : Int) ≤ 1000))) rfl rfl ?_
              rcases Bool.eq_false_or_eq_true (decide (((a_m.Log.length : Int) : Int) ≤ 1000)) with hg24 | hg24
              · rw [hg24]
                try rw [hg24] at hF; dsimp only [cond_true, cond_false] at hF
                refine C_on (t := 42) rfl rfl rfl ?_
                refine C_val (V_fieldAddr (off := 8) fd51_6.h (.tmp rfl rfl)) ?_
                refine C_on (t := 42) rfl rfl rfl ?_
                refine C_at .h (fun hp => V_load (v := v0_8.v) ag49.h (.tmp rfl rfl) hp.2 rfl rfl) ?_
                refine C_on (t := 42) rfl rfl rfl ?_
                refine C_val (V_makeFunc (fn := .func 103) (vs := []) (us := [(.pointer (some ⟨k1, 0, some 0⟩))]) .nil (.cons (.tmp rfl rfl) .nil)) ?_
                refine C_on (t := 42) rfl rfl rfl ?_
                obtain ⟨r25, hx26, hF⟩ := bind_some hF
                refine C_x0 (.rd (.t (.t (.t (.t (.t (.t .h)))))) rfl (.rd .h rfl (.rd (.t .h) rfl (.rd (.t (.t .h)) rfl (.rd (.t (.t (.t .h))) rfl (.rd (.t (.t (.t (.t .h)))) rfl (.rd (.t (.t (.t (.t (.t .h))))) rfl (.rd (.t (.t (.t (.t (.t (.t .h)))))) rfl (.rd (.t (.t (.t (.t (.t (.t (.t .h))))))) rfl (.rd (.t (.t (.t (.t (.t (.t (.t (.t .h)))))))) rfl .nil)))))))))) (X_callS cf102.h (.cons (.tmp rfl rfl) (.cons (.tmp rfl rfl) .nil)) (g_slices_ContainsFunc_impl_Access_impl_Access_iIsMediator1_ok a_m.Log v0_8 k1 a_m v0_0 v0_1 v0_2 v0_3 v0_5 v0_8 v0_9 v0_11 _ hx26)) (fun _ => ?_)
                refine C_on (t := 42) rfl rfl rfl ?_
                refine C_val (V_not (b := r25) (.tmp rfl rfl)) ?_
                refine C_val (V_pick (b := true) (u := (.bool (!r25))) (v := (.bool false)) (.tmp rfl rfl) (.tmp rfl rfl) (.bool _)) ?_
                refine Cm (.bool (!r25)) rfl rfl ?_
                rcases Bool.eq_false_or_eq_true (!r25) with hg28 | hg28
                · rw [hg28]
                  try rw [hg28] at hF; dsimp only [cond_true, cond_false] at hF
                  refine C_on (t := 49) rfl rfl rfl ?_
                  refine C_val (V_fieldAddr (off := 9) fd51_7.h (.tmp rfl rfl)) ?_
                  refine C_on (t := 49) rfl rfl rfl ?_
                  refine C_at .h (fun hp => V_load (v := v0_9.v) ag22.h (.tmp rfl rfl) hp.2 rfl rfl) ?_
                  refine C_on (t := 49) rfl rfl rfl ?_
                  refine C_at (.t (.t (.t (.t (.t (.t (.t .h))))))) (fun hp => V_lenR (l := a_m.Times.length) sl22.h (.tmp rfl rfl) (crd_len hp)) ?_
                  refine C_on (t := 49) rfl rfl rfl ?_
                  refine C_val (V_fieldAddr (off := 8) fd51_6.h (.tmp rfl rfl)) ?_
                  refine C_on (t := 49) rfl rfl rfl ?_
                  refine C_at .h (fun hp => V_load (v := v0_8.v) ag49.h (.tmp rfl rfl) hp.2 rfl rfl) ?_
                  refine C_on (t := 49) rfl rfl rfl ?_
                  refine C_at (.t (.t (.t (.t (.t (.t .h)))))) (fun hp => V_lenR (l := a_m.Log.length) sl49.h (.tmp rfl rfl) (crd_len hp)) ?_
                  refine C_on (t := 49) rfl rfl rfl ?_
                  refine C_val (V_eql (i := (a_m.Times.length : Int)) (j := (a_m.Log.length : Int)) (.tmp rfl rfl) (.tmp rfl rfl)) ?_
                  refine C_val (V_pick (b := true) (u := (.bool (((a_m.Times.length : Int) : Int) == (a_m.Log.length : Int)))) (v := (.bool false)) (.tmp rfl rfl) (.tmp rfl rfl) (.bool _)) ?_
                  refine Cm (.bool (((a_m.Times.length : Int) : Int) == (a_m.Log.length : Int))) rfl rfl ?_
                  rcases Bool.eq_false_or_eq_true (((a_m.Times.length : Int) : Int) == (a_m.Log.length : Int)) with hg29 | hg29
                  · rw [hg29]
                    try rw [hg29] at hF; dsimp only [cond_true, cond_false] at hF
                    refine C_on (t := 58) rfl rfl rfl ?_
                    refine C_val (V_fieldAddr (off := 9) fd51_7.h (.tmp rfl rfl)) ?_
                    refine C_on (t := 58) rfl rfl rfl ?_
                    refine C_at .h (fun hp => V_load (v := v0_9.v) ag22.h (.tmp rfl rfl) hp.2 rfl rfl) ?_
                    refine C_on (t := 58) rfl rfl rfl ?_
                    obtain ⟨r30, hx31, hF⟩ := bind_some hF
                    refine C_x0 (.rd (.t (.t (.t (.t (.t (.t (.t .h))))))) rfl .nil) (X_callS cf105.h (.cons (.tmp rfl rfl) .nil) (i_areTimes_ok a_m.Times v0_9 _ hx31)) (fun _ => ?_)
                    refine C_val (V_pick (b := true) (u := (.bool r30)) (v := (.bool false)) (.tmp rfl rfl) (.tmp rfl rfl) (.bool _)) ?_
                    refine Cm (.bool r30) rfl rfl ?_
                    rcases Bool.eq_false_or_eq_true r30 with hg33 | hg33
                    · rw [hg33]
                      try rw [hg33] at hF; dsimp only [cond_true, cond_false] at hF
                      refine C_on (t := 63) rfl rfl rfl ?_
                      refine C_val (V_fieldAddr (off := 10) fd51_8.h (.tmp rfl rfl)) ?_
                      refine C_on (t := 63) rfl rfl rfl ?_
                      refine C_at .h (fun hp => V_load (v := (.int .i64 a_m.Spent)) ag3.h (.tmp rfl rfl) hp.2 rfl rfl) ?_
                      refine C_on (t := 63) rfl rfl rfl ?_
                      obtain ⟨r34, hx35, hF⟩ := bind_some hF
                      refine C_x0 .nil (X_callS cf106.h (.cons (.tmp rfl rfl) (.cons (.int _ _) (.cons (.int _ _) .nil))) (i_within_ok a_m.Spent 0 1000000 _ hx35)) (fun _ => ?_)
                      refine C_val (V_pick (b := true) (u := (.bool r34)) (v := (.bool false)) (.tmp rfl rfl) (.tmp rfl rfl) (.bool _)) ?_
                      refine Cm (.bool r34) rfl rfl ?_
                      rcases Bool.eq_false_or_eq_true r34 with hg37 | hg37
                      · rw [hg37]
                        try rw [hg37] at hF; dsimp only [cond_true, cond_false] at hF
                        refine C_on (t := 68) rfl rfl rfl ?_
                        refine C_val (V_fieldAddr (off := 11) fd51_9.h (.tmp rfl rfl)) ?_
                        refine C_on (t := 68) rfl rfl rfl ?_
                        refine C_at .h (fun hp => V_load (v := v0_11.v) ag32.h (.tmp rfl rfl) hp.2 rfl rfl) ?_
                        refine C_on (t := 68) rfl rfl rfl ?_
                        refine C_at (.t (.t (.t (.t (.t (.t (.t (.t .h)))))))) (fun hp => V_lenR (l := a_m.Results.length) sl32.h (.tmp rfl rfl) (crd_len hp)) ?_
                        refine C_on (t := 68) rfl rfl rfl ?_
                        refine C_val (V_leq (i := (a_m.Results.length : Int)) (j := 100) (.tmp rfl rfl) (.int _ _)) ?_
                        refine C_val (V_pick (b := true) (u := (.bool (decide (((a_m.Results.length : Int) : Int) ≤ 100)))) (v := (.bool false)) (.tmp rfl rfl) (.tmp rfl rfl) (.bool _)) ?_
                        refine Ca (.bool (decide (((a_m.Results.length : Int) : Int) ≤ 100))) rfl rfl ?_
                        refine C_nil ?_
                        obtain rfl := Option.some.inj hF
                        exact ⟨_, _, rfl, (EqL.cons rfl (EqL.nil)).eq, (.sel .nil)⟩
                      rw [hg37]
                      try rw [hg37] at hF; dsimp only [cond_true, cond_false] at hF
                      iterate 4 refine C_off (t := 68) rfl rfl rfl ?_
                      refine C_val (V_pick (b := false) (u := undef) (v := (.bool false)) (.tmp rfl rfl) (.tmp rfl rfl) (.bool _)) ?_
                      refine Ca (.bool false) rfl rfl ?_
                      refine C_nil ?_
                      obtain rfl := Option.some.inj hF
                      exact ⟨_, _, rfl, (EqL.cons rfl (EqL.nil)).eq, (.sel .nil)⟩
                    rw [hg33]
                    try rw [hg33] at hF; dsimp only [cond_true, cond_false] at hF
                    iterate 3 refine C_off (t := 63) rfl rfl rfl ?_
                    refine C_val (V_pick (b := false) (u := undef) (v := (.bool false)) (.tmp rfl rfl) (.tmp rfl rfl) (.bool _)) ?_
                    refine Cm (.bool false) rfl rfl ?_
                    iterate 4 refine C_off (t := 68) rfl rfl rfl ?_
                    refine C_val (V_pick (b := false) (u := undef) (v := (.bool false)) (.tmp rfl rfl) (.tmp rfl rfl) (.bool _)) ?_
                    refine Ca (.bool false) rfl rfl ?_
                    refine C_nil ?_
                    obtain rfl := Option.some.inj hF
                    exact ⟨_, _, rfl, (EqL.cons rfl (EqL.nil)).eq, (.sel .nil)⟩
                  rw [hg29]
                  try rw [hg29] at hF; dsimp only [cond_true, cond_false] at hF
                  iterate 3 refine C_off (t := 58) rfl rfl rfl ?_
                  refine C_val (V_pick (b := false) (u := undef) (v := (.bool false)) (.tmp rfl rfl) (.tmp rfl rfl) (.bool _)) ?_
                  refine Cm (.bool false) rfl rfl ?_
                  iterate 3 refine C_off (t := 63) rfl rfl rfl ?_
                  refine C_val (V_pick (b := false) (u := undef) (v := (.bool false)) (.tmp rfl rfl) (.tmp rfl rfl) (.bool _)) ?_
                  refine Cm (.bool false) rfl rfl ?_
                  iterate 4 refine C_off (t := 68) rfl rfl rfl ?_
                  refine C_val (V_pick (b := false) (u := undef) (v := (.bool false)) (.tmp rfl rfl) (.tmp rfl rfl) (.bool _)) ?_
                  refine Ca (.bool false) rfl rfl ?_
                  refine C_nil ?_
                  obtain rfl := Option.some.inj hF
                  exact ⟨_, _, rfl, (EqL.cons rfl (EqL.nil)).eq, (.sel .nil)⟩
                rw [hg28]
                try rw [hg28] at hF; dsimp only [cond_true, cond_false] at hF
                iterate 7 refine C_off (t := 49) rfl rfl rfl ?_
                refine C_val (V_pick (b := false) (u := undef) (v := (.bool false)) (.tmp rfl rfl) (.tmp rfl rfl) (.bool _)) ?_
                refine Cm (.bool false) rfl rfl ?_
                iterate 3 refine C_off (t := 58) rfl rfl rfl ?_
                refine C_val (V_pick (b := false) (u := undef) (v := (.bool false)) (.tmp rfl rfl) (.tmp rfl rfl) (.bool _)) ?_
                refine Cm (.bool false) rfl rfl ?_
                iterate 3 refine C_off (t := 63) rfl rfl rfl ?_
                refine C_val (V_pick (b := false) (u := undef) (v := (.bool false)) (.tmp rfl rfl) (.tmp rfl rfl) (.bool _)) ?_
                refine Cm (.bool false) rfl rfl ?_
                iterate 4 refine C_off (t := 68) rfl rfl rfl ?_
                refine C_val (V_pick (b := false) (u := undef) (v := (.bool false)) (.tmp rfl rfl) (.tmp rfl rfl) (.bool _)) ?_
                refine Ca (.bool false) rfl rfl ?_
                refine C_nil ?_
                obtain rfl := Option.some.inj hF
                exact ⟨_, _, rfl, (EqL.cons rfl (EqL.nil)).eq, (.sel .nil)⟩
              rw [hg24]
              try rw [hg24] at hF; dsimp only [cond_true, cond_false] at hF
              iterate 5 refine C_off (t := 42) rfl rfl rfl ?_
              refine C_val (V_pick (b := false) (u := undef) (v := (.bool false)) (.tmp rfl rfl) (.tmp rfl rfl) (.bool _)) ?_
              refine Cm (.bool false) rfl rfl ?_
              iterate 7 refine C_off (t := 49) rfl rfl rfl ?_
              refine C_val (V_pick (b := false) (u := undef) (v := (.bool false)) (.tmp rfl rfl) (.tmp rfl rfl) (.bool _)) ?_
              refine Cm (.bool false) rfl rfl ?_
              iterate 3 refine C_off (t := 58) rfl rfl rfl ?_
              refine C_val (V_pick (b := false) (u := undef) (v := (.bool false)) (.tmp rfl rfl) (.tmp rfl rfl) (.bool _)) ?_
              refine Cm (.bool false) rfl rfl ?_
              iterate 3 refine C_off (t := 63) rfl rfl rfl ?_
              refine C_val (V_pick (b := false) (u := undef) (v := (.bool false)) (.tmp rfl rfl) (.tmp rfl rfl) (.bool _)) ?_
              refine Cm (.bool false) rfl rfl ?_
              iterate 4 refine C_off (t := 68) rfl rfl rfl ?_
              refine C_val (V_pick (b := false) (u := undef) (v := (.bool false)) (.tmp rfl rfl) (.tmp rfl rfl) (.bool _)) ?_
              refine Ca (.bool false) rfl rfl ?_
              refine C_nil ?_
              obtain rfl := Option.some.inj hF
              exact ⟨_, _, rfl, (EqL.cons rfl (EqL.nil)).eq, (.sel .nil)⟩
            rw [hg23]
            try rw [hg23] at hF; dsimp only [cond_true, cond_false] at hF
            iterate 4 refine C_off (t := 36) rfl rfl rfl ?_
            refine C_val (V_pick (b := false) (u := undef) (v := (.bool false)) (.tmp rfl rfl) (.tmp rfl rfl) (.bool _)) ?_
            refine Cm (.bool false) rfl rfl ?_
            iterate 5 refine C_off (t := 42) rfl rfl rfl ?_
            refine C_val (V_pick (b := false) (u := undef) (v := (.bool false)) (.tmp rfl rfl) (.tmp rfl rfl) (.bool _)) ?_
            refine Cm (.bool false) rfl rfl ?_
            iterate 7 refine C_off (t := 49) rfl rfl rfl ?_
            refine C_val (V_pick (b := false) (u := undef) (v := (.bool false)) (.tmp rfl rfl) (.tmp rfl rfl) (.bool _)) ?_
            refine Cm (.bool false) rfl rfl ?_
            iterate 3 refine C_off (t := 58) rfl rfl rfl ?_
            refine C_val (V_pick (b := false) (u := undef) (v := (.bool false)) (.tmp rfl rfl) (.tmp rfl rfl) (.bool _)) ?_
            refine Cm (.bool false) rfl rfl ?_
            iterate 3 refine C_off (t := 63) rfl rfl rfl ?_
            refine C_val (V_pick (b := false) (u := undef) (v := (.bool false)) (.tmp rfl rfl) (.tmp rfl rfl) (.bool _)) ?_
            refine Cm (.bool false) rfl rfl ?_
            iterate 4 refine C_off (t := 68) rfl rfl rfl ?_
            refine C_val (V_pick (b := false) (u := undef) (v := (.bool false)) (.tmp rfl rfl) (.tmp rfl rfl) (.bool _)) ?_
            refine Ca (.bool false) rfl rfl ?_
            refine C_nil ?_
            obtain rfl := Option.some.inj hF
            exact ⟨_, _, rfl, (EqL.cons rfl (EqL.nil)).eq, (.sel .nil)⟩
          rw [hg19]
          try rw [hg19] at hF; dsimp only [cond_true, cond_false] at hF
          iterate 3 refine C_off (t := 31) rfl rfl rfl ?_
          refine C_val (V_pick (b := false) (u := undef) (v := (.bool false)) (.tmp rfl rfl) (.tmp rfl rfl) (.bool _)) ?_
          refine Cm (.bool false) rfl rfl ?_
          iterate 4 refine C_off (t := 36) rfl rfl rfl ?_
          refine C_val (V_pick (b := false) (u := undef) (v := (.bool false)) (.tmp rfl rfl) (.tmp rfl rfl) (.bool _)) ?_
          refine Cm (.bool false) rfl rfl ?_
          iterate 5 refine C_off (t := 42) rfl rfl rfl ?_
          refine C_val (V_pick (b := false) (u := undef) (v := (.bool false)) (.tmp rfl rfl) (.tmp rfl rfl) (.bool _)) ?_
          refine Cm (.bool false) rfl rfl ?_
          iterate 7 refine C_off (t := 49) rfl rfl rfl ?_
          refine C_val (V_pick (b := false) (u := undef) (v := (.bool false)) (.tmp rfl rfl) (.tmp rfl rfl) (.bool _)) ?_
          refine Cm (.bool false) rfl rfl ?_
          iterate 3 refine C_off (t := 58) rfl rfl rfl ?_
          refine C_val (V_pick (b := false) (u := undef) (v := (.bool false)) (.tmp rfl rfl) (.tmp rfl rfl) (.bool _)) ?_
          refine Cm (.bool false) rfl rfl ?_
          iterate 3 refine C_off (t := 63) rfl rfl rfl ?_
          refine C_val (V_pick (b := false) (u := undef) (v := (.bool false)) (.tmp rfl rfl) (.tmp rfl rfl) (.bool _)) ?_
          refine Cm (.bool false) rfl rfl ?_
          iterate 4 refine C_off (t := 68) rfl rfl rfl ?_
          refine C_val (V_pick (b := false) (u := undef) (v := (.bool false)) (.tmp rfl rfl) (.tmp rfl rfl) (.bool _)) ?_
          refine Ca (.bool false) rfl rfl ?_
          refine C_nil ?_
          obtain rfl := Option.some.inj hF
          exact ⟨_, _, rfl, (EqL.cons rfl (EqL.nil)).eq, (.sel .nil)⟩
        rw [hg15]
        try rw [hg15] at hF; dsimp only [cond_true, cond_false] at hF
        iterate 7 refine C_off (t := 22) rfl rfl rfl ?_
        refine C_val (V_pick (b := false) (u := undef) (v := (.bool false)) (.tmp rfl rfl) (.tmp rfl rfl) (.bool _)) ?_
        refine Cm (.bool false) rfl rfl ?_
        iterate 3 refine C_off (t := 31) rfl rfl rfl ?_
        refine C_val (V_pick (b := false) (u := undef) (v := (.bool false)) (.tmp rfl rfl) (.tmp rfl rfl) (.bool _)) ?_
        refine Cm (.bool false) rfl rfl ?_
        iterate 4 refine C_off (t := 36) rfl rfl rfl ?_
        refine C_val (V_pick (b := false) (u := undef) (v := (.bool false)) (.tmp rfl rfl) (.tmp rfl rfl) (.bool _)) ?_
        refine Cm (.bool false) rfl rfl ?_
        iterate 5 refine C_off (t := 42) rfl rfl rfl ?_
        refine C_val (V_pick (b := false) (u := undef) (v := (.bool false)) (.tmp rfl rfl) (.tmp rfl rfl) (.bool _)) ?_
        refine Cm (.bool false) rfl rfl ?_
        iterate 7 refine C_off (t := 49) rfl rfl rfl ?_
        refine C_val (V_pick (b := false) (u := undef) (v := (.bool false)) (.tmp rfl rfl) (.tmp rfl rfl) (.bool _)) ?_
        refine Cm (.bool false) rfl rfl ?_
        iterate 3 refine C_off (t := 58) rfl rfl rfl ?_
        refine C_val (V_pick (b := false) (u := undef) (v := (.bool false)) (.tmp rfl rfl) (.tmp rfl rfl) (.bool _)) ?_
        refine Cm (.bool false) rfl rfl ?_
        iterate 3 refine C_off (t := 63) rfl rfl rfl ?_
        refine C_val (V_pick (b := false) (u := undef) (v := (.bool false)) (.tmp rfl rfl) (.tmp rfl rfl) (.bool _)) ?_
        refine Cm (.bool false) rfl rfl ?_
        iterate 4 refine C_off (t := 68) rfl rfl rfl ?_
        refine C_val (V_pick (b := false) (u := undef) (v := (.bool false)) (.tmp rfl rfl) (.tmp rfl rfl) (.bool _)) ?_
        refine Ca (.bool false) rfl rfl ?_
        refine C_nil ?_
        obtain rfl := Option.some.inj hF
        exact ⟨_, _, rfl, (EqL.cons rfl (EqL.nil)).eq, (.sel .nil)⟩
      rw [hg11]
      try rw [hg11] at hF; dsimp only [cond_true, cond_false] at hF
      iterate 5 refine C_off (t := 15) rfl rfl rfl ?_
      refine C_val (V_pick (b := false) (u := undef) (v := (.bool false)) (.tmp rfl rfl) (.tmp rfl rfl) (.bool _)) ?_
      refine Cm (.bool false) rfl rfl ?_
      iterate 7 refine C_off (t := 22) rfl rfl rfl ?_
      refine C_val (V_pick (b := false) (u := undef) (v := (.bool false)) (.tmp rfl rfl) (.tmp rfl rfl) (.bool _)) ?_
      refine Cm (.bool false) rfl rfl ?_
      iterate 3 refine C_off (t := 31) rfl rfl rfl ?_
      refine C_val (V_pick (b := false) (u := undef) (v := (.bool false)) (.tmp rfl rfl) (.tmp rfl rfl) (.bool _)) ?_
      refine Cm (.bool false) rfl rfl ?_
      iterate 4 refine C_off (t := 36) rfl rfl rfl ?_
      refine C_val (V_pick (b := false) (u := undef) (v := (.bool false)) (.tmp rfl rfl) (.tmp rfl rfl) (.bool _)) ?_
      refine Cm (.bool false) rfl rfl ?_
      iterate 5 refine C_off (t := 42) rfl rfl rfl ?_
      refine C_val (V_pick (b := false) (u := undef) (v := (.bool false)) (.tmp rfl rfl) (.tmp rfl rfl) (.bool _)) ?_
      refine Cm (.bool false) rfl rfl ?_
      iterate 7 refine C_off (t := 49) rfl rfl rfl ?_
      refine C_val (V_pick (b := false) (u := undef) (v := (.bool false)) (.tmp rfl rfl) (.tmp rfl rfl) (.bool _)) ?_
      refine Cm (.bool false) rfl rfl ?_
      iterate 3 refine C_off (t := 58) rfl rfl rfl ?_
      refine C_val (V_pick (b := false) (u := undef) (v := (.bool false)) (.tmp rfl rfl) (.tmp rfl rfl) (.bool _)) ?_
      refine Cm (.bool false) rfl rfl ?_
      iterate 3 refine C_off (t := 63) rfl rfl rfl ?_
      refine C_val (V_pick (b := false) (u := undef) (v := (.bool false)) (.tmp rfl rfl) (.tmp rfl rfl) (.bool _)) ?_
      refine Cm (.bool false) rfl rfl ?_
      iterate 4 refine C_off (t := 68) rfl rfl rfl ?_
      refine C_val (V_pick (b := false) (u := undef) (v := (.bool false)) (.tmp rfl rfl) (.tmp rfl rfl) (.bool _)) ?_
      refine Ca (.bool false) rfl rfl ?_
      refine C_nil ?_
      obtain rfl := Option.some.inj hF
      exact ⟨_, _, rfl, (EqL.cons rfl (EqL.nil)).eq, (.sel .nil)⟩
    rw [hg7]
    try rw [hg7] at hF; dsimp only [cond_true, cond_false] at hF
    iterate 5 refine C_off (t := 8) rfl rfl rfl ?_
    refine C_val (V_pick (b := false) (u := undef) (v := (.bool false)) (.tmp rfl rfl) (.tmp rfl rfl) (.bool _)) ?_
    refine Cm (.bool false) rfl rfl ?_
    iterate 5 refine C_off (t := 15) rfl rfl rfl ?_
    refine C_val (V_pick (b := false) (u := undef) (v := (.bool false)) (.tmp rfl rfl) (.tmp rfl rfl) (.bool _)) ?_
    refine Cm (.bool false) rfl rfl ?_
    iterate 7 refine C_off (t := 22) rfl rfl rfl ?_
    refine C_val (V_pick (b := false) (u := undef) (v := (.bool false)) (.tmp rfl rfl) (.tmp rfl rfl) (.bool _)) ?_
    refine Cm (.bool false) rfl rfl ?_
    iterate 3 refine C_off (t := 31) rfl rfl rfl ?_
    refine C_val (V_pick (b := false) (u := undef) (v := (.bool false)) (.tmp rfl rfl) (.tmp rfl rfl) (.bool _)) ?_
    refine Cm (.bool false) rfl rfl ?_
    iterate 4 refine C_off (t := 36) rfl rfl rfl ?_
    refine C_val (V_pick (b := false) (u := undef) (v := (.bool false)) (.tmp rfl rfl) (.tmp rfl rfl) (.bool _)) ?_
    refine Cm (.bool false) rfl rfl ?_
    iterate 5 refine C_off (t := 42) rfl rfl rfl ?_
    refine C_val (V_pick (b := false) (u := undef) (v := (.bool false)) (.tmp rfl rfl) (.tmp rfl rfl) (.bool _)) ?_
    refine Cm (.bool false) rfl rfl ?_
    iterate 7 refine C_off (t := 49) rfl rfl rfl ?_
    refine C_val (V_pick (b := false) (u := undef) (v := (.bool false)) (.tmp rfl rfl) (.tmp rfl rfl) (.bool _)) ?_
    refine Cm (.bool false) rfl rfl ?_
    iterate 3 refine C_off (t := 58) rfl rfl rfl ?_
    refine C_val (V_pick (b := false) (u := undef) (v := (.bool false)) (.tmp rfl rfl) (.tmp rfl rfl) (.bool _)) ?_
    refine Cm (.bool false) rfl rfl ?_
    iterate 3 refine C_off (t := 63) rfl rfl rfl ?_
    refine C_val (V_pick (b := false) (u := undef) (v := (.bool false)) (.tmp rfl rfl) (.tmp rfl rfl) (.bool _)) ?_
    refine Cm (.bool false) rfl rfl ?_
    iterate 4 refine C_off (t := 68) rfl rfl rfl ?_
    refine C_val (V_pick (b := false) (u := undef) (v := (.bool false)) (.tmp rfl rfl) (.tmp rfl rfl) (.bool _)) ?_
    refine Ca (.bool false) rfl rfl ?_
    refine C_nil ?_
    obtain rfl := Option.some.inj hF
    exact ⟨_, _, rfl, (EqL.cons rfl (EqL.nil)).eq, (.sel .nil)⟩
  rintro _ _ ⟨c38, g39, rfl, rfl, hE⟩
  replace hF := hO3
  clear hO3
  try dsimp only at hF
  refine K_ent hE ?_
  refine CW_ret ?_
  obtain rfl := Option.some.inj hF
  exact End_ret () (.tmp rfl rfl .nil) rfl (.sel .nil)

/-! impl.HasFact$1 -/
def i_HasFact_1 (a_x : Fact) (a_e1 : Fact) : Option (Bool) :=
  (i_CompareFacts a_x a_e1).bind fun r2 =>
  some ((r2 : Int) == 0)
theorem i_HasFact_1_ok (a_x : Fact) (v0_1 : Sv) (kc1 : Nat) (a_e1 : Fact) (vc1_1 : Sv) (R : Bool) (hF : i_HasFact_1 a_x a_e1 = some R) :
    Fw.Spec Tryz.prog 155 [(.agg [(.int .i64 a_x.Rel), v0_1.v].toArray), (.pointer (some ⟨kc1, 0, some 0⟩))] [crd (RdS 3 rdInt) v0_1.v a_x.Values, cboR kc1 55 (.agg [(.int .i64 a_e1.Rel), vc1_1.v].toArray), crd (RdS 3 rdInt) vc1_1.v a_e1.Values] (fun _ : Unit => (.bool R)) (fun _ => []) := by
  refine Spec_enter (n := 8) Tryz.func155 rfl rfl (rs := [.tmp 3]) rfl rfl rfl ?_
  intro H0 F0
  unfold i_HasFact_1 at hF
  refine au ?_
  refine AbR (fun k1 => ?_)
  iterate 5 refine au ?_
  obtain ⟨r2, hx3, hF⟩ := bind_some hF
  refine Cx0 (i_CompareFacts_ok _ _ _ _ _ hx3) (fun _ => ?_)
  iterate 4 refine au ?_
  cases hF
  exact Er ()

/-! impl.Fact] -/
def g_slices_IndexFunc_impl_Fact_impl_Fact_iHasFact1_L1 (a_e1 : Fact) : List Fact → Nat → Option (Int)
  | [], k4 => some (-1)
  | x6 :: rest5, k4 => (i_HasFact_1 x6 a_e1).bind fun r16 =>
    if r16 then (
      some (k4 : Int))
    else (
      g_slices_IndexFunc_impl_Fact_impl_Fact_iHasFact1_L1 a_e1 rest5 (k4 + 1))
def g_slices_IndexFunc_impl_Fact_impl_Fact_iHasFact1 (a_s : List Fact) (a_e1 : Fact) : Option (Int) :=
  g_slices_IndexFunc_impl_Fact_impl_Fact_iHasFact1_L1 a_e1 a_s 0
theorem g_slices_IndexFunc_impl_Fact_impl_Fact_iHasFact1_ok (a_s : List Fact) (v0_0 : Sv) (kc1 : Nat) (a_e1 : Fact) (vc1_1 : Sv) (R : Int) (hF : g_slices_IndexFunc_impl_Fact_impl_Fact_iHasFact1 a_s a_e1 = some R) :
    Fw.Spec Tryz.prog 157 [v0_0.v, (.func (.func 155) [].toArray [(.pointer (some ⟨kc1, 0, some 0⟩))].toArray)] [crd (RdS 55 rd55) v0_0.v a_s, cboR kc1 55 (.agg [(.int .i64 a_e1.Rel), vc1_1.v].toArray), crd (RdS 3 rdInt) vc1_1.v a_e1.Values] (fun _ : Unit => (.int .i64 R)) (fun _ => []) := by
  refine Spec_enter (n := 19) Tryz.func157 rfl rfl (rs := [.tmp 4]) rfl rfl rfl ?_
  intro H0 F0
  unfold g_slices_IndexFunc_impl_Fact_impl_Fact_iHasFact1 at hF
  refine K_region (C_val (V_assign (v := (.int .i64 0)) (.int _ _)) ?_)
  refine C_nil (K_in (K_region (Cm v0_0.v rfl rfl ?_)))
  refine C_at .h (fun hp => V_lenR (l := a_s.length) sl43.h (.tmp rfl rfl) (crd_len hp)) ?_
  refine C_val (V_move (v := (.int .i64 0)) (.int _ _)) ?_
  refine C_nil (CW_block (CW_loop (m := a_s.length) (fun m2 f' cs' => ∃ (g : Fr) (k4 : Nat) (rest5 : List Fact), m2 = rest5.length ∧ f' = updL g [(0, v0_0.v), (1, (.func (.func 155) [].toArray [(.pointer (some ⟨kc1, 0, some 0⟩))].toArray)), (7, (.int .i64 (a_s.length : Int))), (8, (.int .i64 (k4 : Int)))] ∧ List.drop k4 a_s = rest5 ∧ Ent cs' [crd (RdS 55 rd55) v0_0.v a_s, cboR kc1 55 (.agg [(.int .i64 a_e1.Rel), vc1_1.v].toArray), crd (RdS 3 rdInt) vc1_1.v a_e1.Values] ∧ g_slices_IndexFunc_impl_Fact_impl_Fact_iHasFact1_L1 a_e1 rest5 k4 = some R) ⟨_, 0, _, rfl, (EqL.cons rfl (EqL.cons rfl (EqL.cons rfl (EqL.cons rfl (EqL.nil))))).eq, rfl, (.sel (.rd .h rfl (.rd (.t .h) rfl (.rd (.t (.t .h)) rfl .nil)))), hF⟩ ?_))
  clear hF
  rintro m2 _ _ ⟨g3, k4, rest5, rfl, rfl, hd7, hE, hF⟩
  refine K_ent hE ?_
  clear hE
  refine K_pure (c := crd (RdS 55 rd55) v0_0.v a_s) .h crd_bound (fun hbd12 => ?_)
  rcases rest5 with _ | ⟨x6, rest5⟩
  · have hk8 := List.drop_eq_nil_iff.1 hd7
    have hfe11 : (decide (((k4 : Int) : Int) < (a_s.length : Int))) = false := decide_eq_false (by omega)
    rw [g_slices_IndexFunc_impl_Fact_impl_Fact_iHasFact1_L1] at hF
    refine K_region (C_val (V_lss (i := (k4 : Int)) (j := (a_s.length : Int)) (.tmp rfl rfl) (.tmp rfl rfl)) ?_)
    refine C_nil (K_in (CW_cond (b := (decide (((k4 : Int) : Int) < (a_s.length : Int)))) (.tmp rfl rfl) (fun hb => absurd (hfe11.symm.trans hb) (by decide)) (fun _ => ?_)))
    refine CW_exit ?_
    iterate 2 refine CThen_exit ?_
    refine CIn_self (K_region (C_val (V_assign (v := (.int .i64 (-1))) (.int _ _)) ?_))
    refine C_nil (CW_ret ?_)
    obtain rfl := Option.some.inj hF
    exact End_ret () (.tmp rfl rfl .nil) rfl (.sel .nil)
  obtain ⟨hk8, hx9, hd10⟩ := drop_cons hd7
  have hfe11 : (decide (((k4 : Int) : Int) < (a_s.length : Int))) = true := decide_eq_true (by omega)
  rw [g_slices_IndexFunc_impl_Fact_impl_Fact_iHasFact1_L1] at hF
  refine K_region (C_val (V_lss (i := (k4 : Int)) (j := (a_s.length : Int)) (.tmp rfl rfl) (.tmp rfl rfl)) ?_)
  refine C_nil (K_in (CW_cond (b := (decide (((k4 : Int) : Int) < (a_s.length : Int)))) (.tmp rfl rfl) (fun _ => ?_) (fun hb => absurd (hfe11.symm.trans hb) (by decide))))
  refine CW_skip (K_block (K_region (Cm (.int .i64 (k4 : Int)) rfl rfl ?_)))
  refine Ca (.int .i64 (k4 : Int)) rfl rfl ?_
  refine C_nil (K_region (Cm (.func (.func 155) [].toArray [(.pointer (some ⟨kc1, 0, some 0⟩))].toArray) rfl rfl ?_))
  refine Cm v0_0.v rfl rfl ?_
  refine Cm (.int .i64 (k4 : Int)) rfl rfl ?_
  refine C_idx (a := x6) sl43.h ty55.h.sz (.tmp rfl rfl) (.tmp rfl rfl) .h (Int.natCast_nonneg k4) hx9 (fun k13 j14 => ?_)
  refine C_ldA1 (ul55_0_55 x6) ag55.h ty55.h.sz rfl (.tmp rfl rfl) .h la55_0_55 (fun p15 => ?_)
  obtain ⟨r16, hx17, hF⟩ := bind_some hF
  refine C_x0 (.rd .h rfl (.rd (.t (.t (.t .h))) rfl (.rd (.t (.t (.t (.t .h)))) rfl .nil))) (X_callCS cf155.h (.tmp rfl rfl) (.cons (.tmp rfl rfl) .nil) (i_HasFact_1_ok x6 p15 kc1 a_e1 vc1_1 _ hx17)) (fun _ => ?_)
  refine C_nil (CW_cond (b := r16) (.tmp rfl rfl) (fun hb20 => ?_) (fun hb20 => ?_))
  · rw [if_pos hb20] at hF
    refine K_region (Cm (.int .i64 (k4 : Int)) rfl rfl ?_)
    refine Ca (.int .i64 (k4 : Int)) rfl rfl ?_
    refine C_nil (CW_ret ?_)
    obtain rfl := Option.some.inj hF
    exact End_ret () (.tmp rfl rfl .nil) rfl (.sel .nil)
  rw [if_neg (by rw [hb20]; exact Bool.false_ne_true)] at hF
  refine CW_skip (CW_region (C_val (V_add (i := (k4 : Int)) (j := 1) (.tmp rfl rfl) (.int _ _)) ?_))
  refine Cm (.int .i64 (IntKind.i64.wrap ((k4 : Int) + 1))) rfl rfl ?_
  refine C_nil ?_
  have hw19 : IntKind.i64.wrap ((k4 : Int) + 1) = ((k4 + 1 : Nat) : Int) := by rw [wrap_in (by omega) (by omega)]; rfl
  rw [hw19]
  exact ⟨_, Nat.lt_succ_self _, _, k4 + 1, rest5, rfl, (EqL.cons rfl (EqL.cons rfl (EqL.cons rfl (EqL.cons rfl (EqL.nil))))).eq, hd10, (.sel (.rd (.t (.t .h)) rfl (.rd (.t (.t (.t .h))) rfl (.rd (.t (.t (.t (.t .h)))) rfl .nil)))), hF⟩

/-! impl.Fact] -/
def g_slices_ContainsFunc_impl_Fact_impl_Fact_iHasFact1 (a_s : List Fact) (a_e1 : Fact) : Option (Bool) :=
  (g_slices_IndexFunc_impl_Fact_impl_Fact_iHasFact1 a_s a_e1).bind fun r1 =>
  some (decide ((0 : Int) ≤ r1))
theorem g_slices_ContainsFunc_impl_Fact_impl_Fact_iHasFact1_ok (a_s : List Fact) (v0_0 : Sv) (kc1 : Nat) (a_e1 : Fact) (vc1_1 : Sv) (R : Bool) (hF : g_slices_ContainsFunc_impl_Fact_impl_Fact_iHasFact1 a_s a_e1 = some R) :
    Fw.Spec Tryz.prog 154 [v0_0.v, (.func (.func 155) [].toArray [(.pointer (some ⟨kc1, 0, some 0⟩))].toArray)] [crd (RdS 55 rd55) v0_0.v a_s, cboR kc1 55 (.agg [(.int .i64 a_e1.Rel), vc1_1.v].toArray), crd (RdS 3 rdInt) vc1_1.v a_e1.Values] (fun _ : Unit => (.bool R)) (fun _ => []) := by
  refine Spec_enter (n := 9) Tryz.func154 rfl rfl (rs := [.tmp 4]) rfl rfl rfl ?_
  intro H0 F0
  unfold g_slices_ContainsFunc_impl_Fact_impl_Fact_iHasFact1 at hF
  refine K_region (C_val (V_assign (v := (.bool false)) (.bool _)) ?_)
  refine C_nil (K_region (Cm v0_0.v rfl rfl ?_))
  refine Cm (.func (.func 155) [].toArray [(.pointer (some ⟨kc1, 0, some 0⟩))].toArray) rfl rfl ?_
  obtain ⟨r1, hx2, hF⟩ := bind_some hF
  refine C_x0 (.rd .h rfl (.rd (.t .h) rfl (.rd (.t (.t .h)) rfl .nil))) (X_callS cf157.h (.cons (.tmp rfl rfl) (.cons (.tmp rfl rfl) .nil)) (g_slices_IndexFunc_impl_Fact_impl_Fact_iHasFact1_ok a_s v0_0 kc1 a_e1 vc1_1 _ hx2)) (fun _ => ?_)
  refine C_val (V_geq (i := r1) (j := 0) (.tmp rfl rfl) (.int _ _)) ?_
  refine Ca (.bool (decide ((0 : Int) ≤ r1))) rfl rfl ?_
  refine C_nil (CW_ret ?_)
  obtain rfl := Option.some.inj hF
  exact End_ret () (.tmp rfl rfl .nil) rfl (.sel .nil)

/-! impl.HasFact -/
def i_HasFact (a_l : List Fact) (a_f : Fact) : Option (Bool) :=
  (g_slices_ContainsFunc_impl_Fact_impl_Fact_iHasFact1 a_l a_f).bind fun r2 =>
  some r2
theorem i_HasFact_ok (a_l : List Fact) (v0_0 : Sv) (a_f : Fact) (v1_1 : Sv) (R : Bool) (hF : i_HasFact a_l a_f = some R) :
    Fw.Spec Tryz.prog 107 [v0_0.v, (.agg [(.int .i64 a_f.Rel), v1_1.v].toArray)] [crd (RdS 55 rd55) v0_0.v a_l, crd (RdS 3 rdInt) v1_1.v a_f.Values] (fun _ : Unit => (.bool R)) (fun _ => []) := by
  refine Spec_enter (n := 8) Tryz.func107 rfl rfl (rs := [.tmp 4]) rfl rfl rfl ?_
  intro H0 F0
  unfold i_HasFact at hF
  refine au ?_
  refine AbR (fun k1 => ?_)
  iterate 4 refine au ?_
  refine C_val (V_makeFunc (fn := .func 155) (vs := []) (us := [(.pointer (some ⟨k1, 0, some 0⟩))]) .nil (.cons (.tmp rfl rfl) .nil)) ?_
  obtain ⟨r2, hx3, hF⟩ := bind_some hF
  refine Cx0 (g_slices_ContainsFunc_impl_Fact_impl_Fact_iHasFact1_ok _ _ _ _ _ _ hx3) (fun _ => ?_)
  iterate 3 refine au ?_
  cases hF
  exact Er ()

/-! impl.added$1 -/
def i_added_1 (a_x : Fact) (a_e1 : Fact) : Option (Bool) :=
  (i_CompareFacts a_x a_e1).bind fun r2 =>
  some (decide ((0 : Int) < r2))
theorem i_added_1_ok (a_x : Fact) (v0_1 : Sv) (kc1 : Nat) (a_e1 : Fact) (vc1_1 : Sv) (R : Bool) (hF : i_added_1 a_x a_e1 = some R) :
    Fw.Spec Tryz.prog 158 [(.agg [(.int .i64 a_x.Rel), v0_1.v].toArray), (.pointer (some ⟨kc1, 0, some 0⟩))] [crd (RdS 3 rdInt) v0_1.v a_x.Values, cboR kc1 55 (.agg [(.int .i64 a_e1.Rel), vc1_1.v].toArray), crd (RdS 3 rdInt) vc1_1.v a_e1.Values] (fun _ : Unit => (.bool R)) (fun _ => []) := by
  refine Spec_enter (n := 8) Tryz.func158 rfl rfl (rs := [.tmp 3]) rfl rfl rfl ?_
  intro H0 F0
  unfold i_added_1 at hF
  refine au ?_
  refine AbR (fun k1 => ?_)
  iterate 5 refine au ?_
  obtain ⟨r2, hx3, hF⟩ := bind_some hF
  refine Cx0 (i_CompareFacts_ok _ _ _ _ _ hx3) (fun _ => ?_)
  iterate 4 refine au ?_
  cases hF
  exact Er ()

/-! impl.Fact] -/
def g_slices_IndexFunc_impl_Fact_impl_Fact_iadded1_L1 (a_e1 : Fact) : List Fact → Nat → Option (Int)
  | [], k4 => some (-1)
  | x6 :: rest5, k4 => (i_added_1 x6 a_e1).bind fun r16 =>
    if r16 then (
      some (k4 : Int))
    else (
      g_slices_IndexFunc_impl_Fact_impl_Fact_iadded1_L1 a_e1 rest5 (k4 + 1))
def g_slices_IndexFunc_impl_Fact_impl_Fact_iadded1 (a_s : List Fact) (a_e1 : Fact) : Option (Int) :=
  g_slices_IndexFunc_impl_Fact_impl_Fact_iadded1_L1 a_e1 a_s 0
theorem g_slices_IndexFunc_impl_Fact_impl_Fact_iadded1_ok (a_s : List Fact) (v0_0 : Sv) (kc1 : Nat) (a_e1 : Fact) (vc1_1 : Sv) (R : Int) (hF : g_slices_IndexFunc_impl_Fact_impl_Fact_iadded1 a_s a_e1 = some R) :
    Fw.Spec Tryz.prog 157 [v0_0.v, (.func (.func 158) [].toArray [(.pointer (some ⟨kc1, 0, some 0⟩))].toArray)] [crd (RdS 55 rd55) v0_0.v a_s, cboR kc1 55 (.agg [(.int .i64 a_e1.Rel), vc1_1.v].toArray), crd (RdS 3 rdInt) vc1_1.v a_e1.Values] (fun _ : Unit => (.int .i64 R)) (fun _ => []) := by
  refine Spec_enter (n := 19) Tryz.func157 rfl rfl (rs := [.tmp 4]) rfl rfl rfl ?_
  intro H0 F0
  unfold g_slices_IndexFunc_impl_Fact_impl_Fact_iadded1 at hF
  refine K_region (C_val (V_assign (v := (.int .i64 0)) (.int _ _)) ?_)
  refine C_nil (K_in (K_region (Cm v0_0.v rfl rfl ?_)))
  refine C_at .h (fun hp => V_lenR (l := a_s.length) sl43.h (.tmp rfl rfl) (crd_len hp)) ?_
  refine C_val (V_move (v := (.int .i64 0)) (.int _ _)) ?_
  refine C_nil (CW_block (CW_loop (m := a_s.length) (fun m2 f' cs' => ∃ (g : Fr) (k4 : Nat) (rest5 : List Fact), m2 = rest5.length ∧ f' = updL g [(0, v0_0.v), (1, (.func (.func 158) [].toArray [(.pointer (some ⟨kc1, 0, some 0⟩))].toArray)), (7, (.int .i64 (a_s.length : Int))), (8, (.int .i64 (k4 : Int)))] ∧ List.drop k4 a_s = rest5 ∧ Ent cs' [crd (RdS 55 rd55) v0_0.v a_s, cboR kc1 55 (.agg [(.int .i64 a_e1.Rel), vc1_1.v].toArray), crd (RdS 3 rdInt) vc1_1.v a_e1.Values] ∧ g_slices_IndexFunc_impl_Fact_impl_Fact_iadded1_L1 a_e1 rest5 k4 = some R) ⟨_, 0, _, rfl, (EqL.cons rfl (EqL.cons rfl (EqL.cons rfl (EqL.cons rfl (EqL.nil))))).eq, rfl, (.sel (.rd .h rfl (.rd (.t .h) rfl (.rd (.t (.t .h)) rfl .nil)))), hF⟩ ?_))
  clear hF
  rintro m2 _ _ ⟨g3, k4, rest5, rfl, rfl, hd7, hE, hF⟩
  refine K_ent hE ?_
  clear hE
  refine K_pure (c := crd (RdS 55 rd55) v0_0.v a_s) .h crd_bound (fun hbd12 => ?_)
  rcases rest5 with _ | ⟨x6, rest5⟩
  · have hk8 := List.drop_eq_nil_iff.1 hd7
    have hfe11 : (decide (((k4 : Int) : Int) < (a_s.length : Int))) = false := decide_eq_false (by omega)
    rw [g_slices_IndexFunc_impl_Fact_impl_Fact_iadded1_L1] at hF
    refine K_region (C_val (V_lss (i := (k4 : Int)) (j := (a_s.length : Int)) (.tmp rfl rfl) (.tmp rfl rfl)) ?_)
    refine C_nil (K_in (CW_cond (b := (decide (((k4 : Int) : Int) < (a_s.length : Int)))) (.tmp rfl rfl) (fun hb => absurd (hfe11.symm.trans hb) (by decide)) (fun _ => ?_)))
    refine CW_exit ?_
    iterate 2 refine CThen_exit ?_
    refine CIn_self (K_region (C_val (V_assign (v := (.int .i64 (-1))) (.int _ _)) ?_))
    refine C_nil (CW_ret ?_)
    obtain rfl := Option.some.inj hF
    exact End_ret () (.tmp rfl rfl .nil) rfl (.sel .nil)
  obtain ⟨hk8, hx9, hd10⟩ := drop_cons hd7
  have hfe11 : (decide (((k4 : Int) : Int) < (a_s.length : Int))) = true := decide_eq_true (by omega)
  rw [g_slices_IndexFunc_impl_Fact_impl_Fact_iadded1_L1] at hF
  refine K_region (C_val (V_lss (i := (k4 : Int)) (j := (a_s.length : Int)) (.tmp rfl rfl) (.tmp rfl rfl)) ?_)
  refine C_nil (K_in (CW_cond (b := (decide (((k4 : Int) : Int) < (a_s.length : Int)))) (.tmp rfl rfl) (fun _ => ?_) (fun hb => absurd (hfe11.symm.trans hb) (by decide))))
  refine CW_skip (K_block (K_region (Cm (.int .i64 (k4 : Int)) rfl rfl ?_)))
  refine Ca (.int .i64 (k4 : Int)) rfl rfl ?_
  refine C_nil (K_region (Cm (.func (.func 158) [].toArray [(.pointer (some ⟨kc1, 0, some 0⟩))].toArray) rfl rfl ?_))
  refine Cm v0_0.v rfl rfl ?_
  refine Cm (.int .i64 (k4 : Int)) rfl rfl ?_
  refine C_idx (a := x6) sl43.h ty55.h.sz (.tmp rfl rfl) (.tmp rfl rfl) .h (Int.natCast_nonneg k4) hx9 (fun k13 j14 => ?_)
  refine C_ldA1 (ul55_0_55 x6) ag55.h ty55.h.sz rfl (.tmp rfl rfl) .h la55_0_55 (fun p15 => ?_)
  obtain ⟨r16, hx17, hF⟩ := bind_some hF
  refine C_x0 (.rd .h rfl (.rd (.t (.t (.t .h))) rfl (.rd (.t (.t (.t (.t .h)))) rfl .nil))) (X_callCS cf158.h (.tmp rfl rfl) (.cons (.tmp rfl rfl) .nil) (i_added_1_ok x6 p15 kc1 a_e1 vc1_1 _ hx17)) (fun _ => ?_)
  refine C_nil (CW_cond (b := r16) (.tmp rfl rfl) (fun hb20 => ?_) (fun hb20 => ?_))
  · rw [if_pos hb20] at hF
    refine K_region (Cm (.int .i64 (k4 : Int)) rfl rfl ?_)
    refine Ca (.int .i64 (k4 : Int)) rfl rfl ?_
    refine C_nil (CW_ret ?_)
    obtain rfl := Option.some.inj hF
    exact End_ret () (.tmp rfl rfl .nil) rfl (.sel .nil)
  rw [if_neg (by rw [hb20]; exact Bool.false_ne_true)] at hF
  refine CW_skip (CW_region (C_val (V_add (i := (k4 : Int)) (j := 1) (.tmp rfl rfl) (.int _ _)) ?_))
  refine Cm (.int .i64 (IntKind.i64.wrap ((k4 : Int) + 1))) rfl rfl ?_
  refine C_nil ?_
  have hw19 : IntKind.i64.wrap ((k4 : Int) + 1) = ((k4 + 1 : Nat) : Int) := by rw [wrap_in (by omega) (by omega)]; rfl
  rw [hw19]
  exact ⟨_, Nat.lt_succ_self _, _, k4 + 1, rest5, rfl, (EqL.cons rfl (EqL.cons rfl (EqL.cons rfl (EqL.cons rfl (EqL.nil))))).eq, hd10, (.sel (.rd (.t (.t .h)) rfl (.rd (.t (.t (.t .h))) rfl (.rd (.t (.t (.t (.t .h)))) rfl .nil)))), hF⟩

/-! impl.Fact] -/
def g_slices_Insert_impl_Fact_impl_Fact (a_s : List Fact) (a_i : Int) (a_v : List Fact) : Option (List Fact) :=
  match a_v with
  | [a] => if 0 ≤ a_i ∧ a_i.toNat ≤ a_s.length ∧ a_s.length + 1 < 4294967296 then some (a_s.take a_i.toNat ++ a :: a_s.drop a_i.toNat) else none
  | _ => none
set_option maxHeartbeats 4000000 in
theorem g_slices_Insert_impl_Fact_impl_Fact_raw (es : List Value) (e : Value) (v u : Sv) (F F2 : List Nat) (i : Nat) (hi : i ≤ es.length) (hb : es.length + 1 < 4294967296) : Fw.Spec Tryz.prog 159 [v.v, .int .i64 (i : Int), u.v] [cown (OwnS 55 (roE (rvs 2))) F v.v es, cown (OwnS 55 (roE (rvs 2))) F2 u.v [e]] (fun q : Sv × List Nat => q.1.v) (fun q => [cown (OwnS 55 (roE (rvs 2))) q.2 q.1.v (es.take i ++ e :: es.drop i)]) := by
  refine Spec_enter (n := 95) Tryz.func159 rfl rfl (rs := [.tmp 6]) rfl rfl rfl ?_
  intro H0 F0
  refine K_region ?_
  refine C_val (V_assign (v := (.slice none 0 0)) EV.nilSlice) ?_
  refine C_nil ?_
  refine K_region ?_
  refine C_val (V_move (v := v.v) (.tmp rfl rfl)) ?_
  refine C_val (V_move (v := (.int .i64 (i : Int))) (.tmp rfl rfl)) ?_
  refine C_x1 (.cons .h .nil) (X_sliceLoE sl43.h ty55.h.sz (.tmp rfl rfl) (.tmp rfl rfl) hi) (fun w0 => ?_)
  refine C_nil ?_
  refine K_region ?_
  refine C_val (V_move (v := u.v) (.tmp rfl rfl)) ?_
  refine C_at (.t .h) (fun hp => V_lenR (l := 1) sl43.h (.tmp rfl rfl) (cown_len hp)) ?_
  refine C_val (V_assign (v := (.int .i64 ((1 : Nat) : Int))) (.tmp rfl rfl)) ?_
  refine C_nil ?_
  refine K_in ?_
  refine K_region ?_
  refine C_val (V_move (v := (.int .i64 ((1 : Nat) : Int))) (.tmp rfl rfl)) ?_
  refine C_val (V_eql (i := ((1 : Nat) : Int)) (j := 0) (.tmp rfl rfl) (.int _ _)) ?_
  refine C_nil ?_
  refine CW_cond (b := (((1 : Nat) : Int) == 0)) (.tmp rfl rfl) (fun hb0 => absurd hb0 (by decide)) (fun _ => ?_)
  refine CW_skip ?_
  refine K_region ?_
  refine C_val (V_move (v := v.v) (.tmp rfl rfl)) ?_
  refine C_at .h (fun hp => V_lenR (l := es.length) sl43.h (.tmp rfl rfl) (cown_len hp)) ?_
  refine C_val (V_assign (v := (.int .i64 (es.length : Int))) (.tmp rfl rfl)) ?_
  refine C_nil ?_
  refine K_in ?_
  refine K_region ?_
  refine C_val (V_move (v := (.int .i64 (i : Int))) (.tmp rfl rfl)) ?_
  refine C_val (V_move (v := (.int .i64 (es.length : Int))) (.tmp rfl rfl)) ?_
  refine C_val (V_eql (i := (i : Int)) (j := (es.length : Int)) (.tmp rfl rfl) (.tmp rfl rfl)) ?_
  refine C_nil ?_
  refine CW_cond (b := ((i : Int) == (es.length : Int))) (.tmp rfl rfl) (fun hb1 => ?_) (fun hb1 => ?_)
  · have hie : i = es.length := by simp only [beq_iff_eq] at hb1; omega
    refine K_region ?_
    refine C_val (V_move (v := v.v) (.tmp rfl rfl)) ?_
    refine C_val (V_move (v := u.v) (.tmp rfl rfl)) ?_
    refine C_x1 (.cons .h (.cons .h .nil)) (X_appendO (Ro := (roE (rvs 2))) sl43.h ni43 ty55.h rfl rfl rfl (.tmp rfl rfl) (.tmp rfl rfl) (app_ok (xs := es) (ys := [e]) (by simpa using hb)) src_own) (fun p => ?_)
    refine C_val (V_assign (v := p.1.v) (.tmp rfl rfl)) ?_
    refine C_nil ?_
    refine CW_ret ?_
    rw [hie, List.take_length, List.drop_length]
    exact End_ret p (.tmp rfl rfl .nil) rfl (.sel (.cons .h .nil))
  refine CW_skip ?_
  have hlt : i < es.length := by simp at hb1; omega
  refine K_pure .h (own_form (by intro h; rw [h] at hlt; simp at hlt)) (fun hv => ?_)
  obtain ⟨k0, m0, rfl, hm0⟩ := hv
  refine K_pure (.t .h) (own_form (by simp)) (fun hu => ?_)
  obtain ⟨k1, m1, rfl, hm1⟩ := hu
  refine K_cap (t := 0) (k := k0) (l := es.length) (m := m0) rfl rfl hm0 (by omega) .h rfl (fun c hc => ?_)
  have w1 : IntKind.i64.wrap ((es.length : Int) + ((1 : Nat) : Int)) = ((es.length + 1 : Nat) : Int) := by rw [wrap_in (by omega) (by omega)]; rfl
  have w2 : IntKind.i64.wrap ((i : Int) + ((1 : Nat) : Int)) = ((i + 1 : Nat) : Int) := by rw [wrap_in (by omega) (by omega)]; rfl
  have w3 : IntKind.i64.wrap (((es.length + 1 : Nat) : Int) - (i : Int)) = ((es.length + 1 - i : Nat) : Int) := by rw [wrap_in (by omega) (by omega)]; omega
  have hel : (es.take i ++ e :: es.drop i).length = es.length + 1 := ins_len hi
  refine K_in ?_
  refine K_region ?_
  refine C_val (V_move (v := (.int .i64 (es.length : Int))) (.tmp rfl rfl)) ?_
  refine C_val (V_move (v := (.int .i64 ((1 : Nat) : Int))) (.tmp rfl rfl)) ?_
  refine C_val (V_add (i := (es.length : Int)) (j := ((1 : Nat) : Int)) (.tmp rfl rfl) (.tmp rfl rfl)) ?_
  rw [w1]
  refine C_val (V_move (v := (.slice (some ⟨k0, 0, none⟩) es.length (c + 3))) (.tmp rfl rfl)) ?_
  refine C_at .h (fun hp => V_capO sl43.h hp rfl (.tmp rfl rfl)) ?_
  refine C_val (V_gtr (i := ((es.length + 1 : Nat) : Int)) (j := (c : Int)) (.tmp rfl rfl) (.tmp rfl rfl)) ?_
  refine C_nil ?_
  refine CW_cond (b := (decide ((c : Int) < ((es.length + 1 : Nat) : Int)))) (.tmp rfl rfl) (fun hb2 => ?_) (fun hb2 => ?_)
  · have hcl : c < es.length + 1 := by simp only [decide_eq_true_eq] at hb2; omega
    refine K_region ?_
    refine C_val (V_move (v := (.slice (some ⟨k0, 0, none⟩) es.length (c + 3))) (.tmp rfl rfl)) ?_
    refine C_val (V_move (v := (.int .i64 (i : Int))) (.tmp rfl rfl)) ?_
    refine C_at .h (fun hp => V_sliceCapO (j := i) sl43.h ty55.h.sz hp rfl (.tmp rfl rfl) (.tmp rfl rfl) (by omega)) ?_
    refine C_val (V_move (v := (.int .i64 (es.length : Int))) (.tmp rfl rfl)) ?_
    refine C_val (V_move (v := (.int .i64 ((1 : Nat) : Int))) (.tmp rfl rfl)) ?_
    refine C_val (V_add (i := (es.length : Int)) (j := ((1 : Nat) : Int)) (.tmp rfl rfl) (.tmp rfl rfl)) ?_
    rw [w1]
    refine C_val (V_move (v := (.int .i64 (i : Int))) (.tmp rfl rfl)) ?_
    refine C_val (V_sub (i := ((es.length + 1 : Nat) : Int)) (j := (i : Int)) (.tmp rfl rfl) (.tmp rfl rfl)) ?_
    rw [w3]
    refine C_x2 (.cons .h .nil) (X_appendMake (c := c) (q := es.length + 1 - i) sl43.h ik3 ty55.h rfl rfl rfl rfl rfl rfl (.tmp rfl rfl) (.tmp rfl rfl) (by omega) (by omega) (by omega) (by omega)) (fun k2 => ?_)
    rw [show i + (es.length + 1 - i) = es.length + 1 from by omega]
    refine C_val (V_assign (v := (.slice (some ⟨k2, 0, none⟩) (es.length + 1) 2)) (.tmp rfl rfl)) ?_
    refine C_nil ?_
    refine K_region ?_
    refine C_val (V_move (v := (.slice (some ⟨k2, 0, none⟩) (es.length + 1) 2)) (.tmp rfl rfl)) ?_
    refine C_val (V_move (v := (.int .i64 (i : Int))) (.tmp rfl rfl)) ?_
    refine C_at .h (fun hp => V_sliceLoO (j := i) sl43.h ty55.h.sz hp rfl (.tmp rfl rfl) (.tmp rfl rfl) (by omega)) ?_
    refine C_val (V_move (v := (.slice (some ⟨k1, 0, none⟩) 1 m1)) (.tmp rfl rfl)) ?_
    refine C_x2 (.cons .h (.cons (.t .h) .nil)) (X_copy2 (m1 := 0) (m2 := m1) (ia := i) (ja := 0) (ld := es.length + 1 - i) (ls := 1) (es2 := [e]) (es' := es.take i ++ e :: List.replicate (es.length - i) (.agg [(.int .i64 0), (.slice none 0 0)].toArray)) sl43.h ty55.h.sz rfl rfl rfl (by exact .tmp rfl rfl) (by exact .tmp rfl rfl) (by omega) (by omega) (by rw [List.length_singleton]; omega) (by simp; omega) (ins_l1 (e := e) (z := (.agg [(.int .i64 0), (.slice none 0 0)].toArray)) hlt) (by simp; omega)) (fun _ => ?_)
    refine C_nil ?_
    refine K_draw [0, 1, 2, 3, 4, 5, 6, 7, 8] [0, 0, 0, 6, 15, 0, 0, 96, 255] [8] mixed (by decide +kernel) ?_
    refine D_val rfl .no (fun ha => V_move (v := (.slice (some ⟨k2, 0, none⟩) (es.length + 1) 2)) (EN ha (.tmp rfl rfl) rfl)) ?_
    refine D_val rfl .no (fun ha => V_move (v := (.int .i64 (i : Int))) (EN ha (.tmp rfl rfl) rfl)) ?_
    refine D_val rfl .no (fun ha => V_move (v := (.int .i64 ((1 : Nat) : Int))) (EN ha (.tmp rfl rfl) rfl)) ?_
    refine D_val rfl .no (fun ha => V_add (i := (i : Int)) (j := ((1 : Nat) : Int)) (EN ha (.tmp rfl rfl) rfl) (EN ha (.tmp rfl rfl) rfl)) ?_
    rw [w2]
    refine D_atO rfl .no .h (fun ha hp => V_sliceLoO (j := i + 1) sl43.h ty55.h.sz hp rfl (EN ha (.tmp rfl rfl) rfl) (EN ha (.tmp rfl rfl) rfl) (by omega)) ?_
    refine D_val rfl .no (fun ha => V_move (v := (.slice (some ⟨k0, 0, none⟩) es.length (c + 3))) (EN ha (.tmp rfl rfl) rfl)) ?_
    refine D_val rfl .no (fun ha => V_move (v := (.int .i64 (i : Int))) (EN ha (.tmp rfl rfl) rfl)) ?_
    refine D_atO rfl .no (.t (.t .h)) (fun ha hp => V_sliceLoO (j := i) sl43.h ty55.h.sz hp rfl (EN ha (.tmp rfl rfl) rfl) (EN ha (.tmp rfl rfl) rfl) (by omega)) ?_
    refine D_act2 rfl rfl .no (.cons .h (.cons (.t .h) .nil)) (.dep rfl (.dep rfl .nil)) (fun ha => X_copy2 sl43.h ty55.h.sz rfl rfl rfl (EN ha (.tmp rfl rfl) rfl) (EN ha (.tmp rfl rfl) rfl) (by omega) (by omega) (by omega) (by simp; omega) (ins_l2 (e := e) (z := (.agg [(.int .i64 0), (.slice none 0 0)].toArray)) hlt) (by omega)) (fun _ => ?_)
    refine D_nil ?_
    refine K_region ?_
    refine C_val (V_move (v := (.slice (some ⟨k2, 0, none⟩) (es.length + 1) 2)) (.tmp rfl rfl)) ?_
    refine C_val (V_assign (v := (.slice (some ⟨k2, 0, none⟩) (es.length + 1) 2)) (.tmp rfl rfl)) ?_
    refine C_nil ?_
    refine CW_ret ?_
    rw [hel]
    exact End_ret (⟨some ⟨k2, 0, none⟩, es.length + 1, 2⟩, [k2]) (.tmp rfl rfl .nil) rfl (.sel (.cons .h .nil))
  refine CW_skip ?_
  have hcl : es.length + 1 ≤ c := by simp only [decide_eq_false_iff_not] at hb2; omega
  refine K_region ?_
  refine C_val (V_move (v := (.slice (some ⟨k0, 0, none⟩) es.length (c + 3))) (.tmp rfl rfl)) ?_
  refine C_val (V_move (v := (.int .i64 (es.length : Int))) (.tmp rfl rfl)) ?_
  refine C_val (V_move (v := (.int .i64 ((1 : Nat) : Int))) (.tmp rfl rfl)) ?_
  refine C_val (V_add (i := (es.length : Int)) (j := ((1 : Nat) : Int)) (.tmp rfl rfl) (.tmp rfl rfl)) ?_
  rw [w1]
  refine C_at .h (fun hp => V_sliceCapO (j := es.length + 1) sl43.h ty55.h.sz hp rfl (.tmp rfl rfl) (.tmp rfl rfl) hcl) ?_
  refine C_val (V_assign (v := (.slice (some ⟨k0, 0, none⟩) (es.length + 1) (c + 3))) (.tmp rfl rfl)) ?_
  refine C_nil ?_
  refine K_in ?_
  refine K_region ?_
  refine C_val (V_move (v := (.slice (some ⟨k1, 0, none⟩) 1 m1)) (.tmp rfl rfl)) ?_
  refine C_val (V_move (v := (.slice (some ⟨k0, 0, none⟩) (es.length + 1) (c + 3))) (.tmp rfl rfl)) ?_
  refine C_val (V_move (v := (.int .i64 (i : Int))) (.tmp rfl rfl)) ?_
  refine C_val (V_move (v := (.int .i64 ((1 : Nat) : Int))) (.tmp rfl rfl)) ?_
  refine C_val (V_add (i := (i : Int)) (j := ((1 : Nat) : Int)) (.tmp rfl rfl) (.tmp rfl rfl)) ?_
  rw [w2]
  refine C_at .h (fun hp => V_sliceLoO (j := i + 1) sl43.h ty55.h.sz hp rfl (.tmp rfl rfl) (.tmp rfl rfl) (by omega)) ?_
  refine C_x2 (.cons (.t .h) (.cons .h .nil)) (X_overlaps sl43.h ty55.h.sz rfl hov177 rfl rfl (.tmp rfl rfl) (.tmp rfl rfl) (by omega) (by omega)) (fun _ => ?_)
  refine C_val (V_not (b := false) (.tmp rfl rfl)) ?_
  refine C_nil ?_
  refine CW_cond (b := (!false)) (.tmp rfl rfl) (fun _ => ?_) (fun h => absurd h (by decide))
  refine K_draw [0, 1, 2, 3, 4, 5, 6, 7, 8] [0, 0, 0, 6, 15, 0, 0, 96, 255] [8] mixed (by decide +kernel) ?_
  refine D_val rfl .no (fun ha => V_move (v := (.slice (some ⟨k0, 0, none⟩) (es.length + 1) (c + 3))) (EN ha (.tmp rfl rfl) rfl)) ?_
  refine D_val rfl .no (fun ha => V_move (v := (.int .i64 (i : Int))) (EN ha (.tmp rfl rfl) rfl)) ?_
  refine D_val rfl .no (fun ha => V_move (v := (.int .i64 ((1 : Nat) : Int))) (EN ha (.tmp rfl rfl) rfl)) ?_
  refine D_val rfl .no (fun ha => V_add (i := (i : Int)) (j := ((1 : Nat) : Int)) (EN ha (.tmp rfl rfl) rfl) (EN ha (.tmp rfl rfl) rfl)) ?_
  rw [w2]
  refine D_atO rfl .no (.t .h) (fun ha hp => V_sliceLoO (j := i + 1) sl43.h ty55.h.sz hp rfl (EN ha (.tmp rfl rfl) rfl) (EN ha (.tmp rfl rfl) rfl) (by omega)) ?_
  refine D_val rfl .no (fun ha => V_move (v := (.slice (some ⟨k0, 0, none⟩) (es.length + 1) (c + 3))) (EN ha (.tmp rfl rfl) rfl)) ?_
  refine D_val rfl .no (fun ha => V_move (v := (.int .i64 (i : Int))) (EN ha (.tmp rfl rfl) rfl)) ?_
  refine D_atO rfl .no (.t .h) (fun ha hp => V_sliceLoO (j := i) sl43.h ty55.h.sz hp rfl (EN ha (.tmp rfl rfl) rfl) (EN ha (.tmp rfl rfl) rfl) (by omega)) ?_
  refine D_act1 rfl rfl .no (.cons (.t .h) .nil) (.dep rfl (.dep rfl .nil)) (fun ha => X_copyS sl43.h ty55.h.sz rfl rfl (EN ha (.tmp rfl rfl) rfl) (EN ha (.tmp rfl rfl) rfl) (by omega) (by omega) (by omega) (by omega) (ins_l3 hlt) (by simp; omega)) (fun _ => ?_)
  refine D_nil ?_
  refine K_region ?_
  refine C_val (V_move (v := (.slice (some ⟨k0, 0, none⟩) (es.length + 1) (c + 3))) (.tmp rfl rfl)) ?_
  refine C_val (V_move (v := (.int .i64 (i : Int))) (.tmp rfl rfl)) ?_
  refine C_at .h (fun hp => V_sliceLoO (j := i) sl43.h ty55.h.sz hp rfl (.tmp rfl rfl) (.tmp rfl rfl) (by omega)) ?_
  refine C_val (V_move (v := (.slice (some ⟨k1, 0, none⟩) 1 m1)) (.tmp rfl rfl)) ?_
  refine C_x2 (.cons .h (.cons .h .nil)) (X_copy2 (m1 := 0) (m2 := m1) (ia := i) (ja := 0) (ld := es.length + 1 - i) (ls := 1) (es2 := [e]) (es' := es.take i ++ e :: es.drop i) sl43.h ty55.h.sz rfl rfl rfl (by exact .tmp rfl rfl) (by exact .tmp rfl rfl) (by omega) (by omega) (by rw [List.length_singleton]; omega) (by simp; omega) (ins_l4 (e := e) hlt) (by omega)) (fun _ => ?_)
  refine C_nil ?_
  refine K_region ?_
  refine C_val (V_move (v := (.slice (some ⟨k0, 0, none⟩) (es.length + 1) (c + 3))) (.tmp rfl rfl)) ?_
  refine C_val (V_assign (v := (.slice (some ⟨k0, 0, none⟩) (es.length + 1) (c + 3))) (.tmp rfl rfl)) ?_
  refine C_nil ?_
  refine K_uncap (t := 6) (k := k0) (l := es.length + 1) (c := c) rfl rfl ?_
  refine CW_ret ?_
  rw [hel]
  exact End_ret (⟨some ⟨k0, 0, none⟩, es.length + 1, 2⟩, F) (.tmp rfl rfl .nil) rfl (.sel (.cons .h .nil))
theorem g_slices_Insert_impl_Fact_impl_Fact_ok (a_s : List Fact) (v0_0 : Sv) (F0_0 : List Nat) (a_i : Int) (a_v : List Fact) (v2_0 : Sv) (F2_0 : List Nat) (R : List Fact) (hF : g_slices_Insert_impl_Fact_impl_Fact a_s a_i a_v = some R) :
    Fw.Spec Tryz.prog 159 [v0_0.v, .int .i64 a_i, v2_0.v] [cown (OwnS 55 ow55) F0_0 v0_0.v a_s, cown (OwnS 55 ow55) F2_0 v2_0.v a_v] (fun p : Sv × List Nat => p.1.v) (fun p => [cown (OwnS 55 ow55) p.2 p.1.v R]) := by
  unfold g_slices_Insert_impl_Fact_impl_Fact at hF
  rcases a_v with _ | ⟨a, _ | ⟨_, _⟩⟩
  · simp at hF
  · dsimp only at hF
    split at hF
    · rename_i h
      obtain ⟨h0, h1, h2⟩ := h
      obtain ⟨i, rfl⟩ : ∃ i : Nat, a_i = (i : Int) := ⟨a_i.toNat, by omega⟩
      cases hF
      rw [Int.toNat_natCast] at h1 ⊢
      exact Spec_insD (s := 2) fun es e Fa Fb hl => g_slices_Insert_impl_Fact_impl_Fact_raw es e v0_0 v2_0 Fa Fb i (by omega) (by omega)
    · simp at hF
  · simp at hF

/-! impl.added -/
def i_added (a_l : List Fact) (a_f : Fact) : Option ((List Fact)) :=
  (i_HasFact a_l a_f).bind fun r2 =>
  if r2 then (
    some a_l)
  else (
    (g_slices_IndexFunc_impl_Fact_impl_Fact_iadded1 a_l a_f).bind fun r5 =>
    if (decide ((r5 : Int) < 0)) then (
      (i_copyFact a_f).bind fun r8 =>
      (g_slices_Insert_impl_Fact_impl_Fact a_l (a_l.length : Int) ([r8] : List Fact)).bind fun r12 =>
      some r12)
    else (
      (i_copyFact a_f).bind fun r15 =>
      (g_slices_Insert_impl_Fact_impl_Fact a_l r5 ([r15] : List Fact)).bind fun r19 =>
      some r19))
theorem i_added_ok (a_l : List Fact) (v0_0 : Sv) (F0_0 : List Nat) (a_f : Fact) (v1_1 : Sv) (R : (List Fact)) (hF : i_added a_l a_f = some R) :
    Fw.Spec Tryz.prog 109 [v0_0.v, (.agg [(.int .i64 a_f.Rel), v1_1.v].toArray)] [cown (OwnS 55 ow55) F0_0 v0_0.v a_l, crd (RdS 3 rdInt) v1_1.v a_f.Values] (fun p : Sv × List Nat => p.1.v) (fun p => [cown (OwnS 55 ow55) p.2 p.1.v R]) := by
  refine Spec_enter (n := 23) Tryz.func109 rfl rfl (rs := [.tmp 4]) rfl rfl rfl ?_
  intro H0 F0
  unfold i_added at hF
  refine au ?_
  refine C_newR rfl (N_box (g := false) (v := (.agg [(.int .i64 a_f.Rel), v1_1.v].toArray)) ty55.h.sz (.tmp rfl rfl) rfl) (fun k1 => ?_)
  iterate 6 refine au ?_
  obtain ⟨r2, hx3, hF⟩ := bind_some hF
  refine C_x1 (.cons (.t .h) (.rd (.t .h) rfl .nil)) (XC_borL (pre := _) (.cons frz_own .nil) (fun _ => .nil) (X_callS cf107.h (.cons (.tmp rfl rfl) (.cons (.tmp rfl rfl) .nil)) (i_HasFact_ok a_l v0_0 a_f v1_1 _ hx3))) (fun _ => ?_)
  refine au ?_
  refine CW_cond (b := r2) (.tmp rfl rfl) (fun hb23 => ?_) (fun hb23 => ?_)
  · rw [if_pos hb23] at hF
    iterate 5 refine au ?_
    obtain rfl := Option.some.inj hF
    exact End_ret (v0_0, F0_0) (.tmp rfl rfl .nil) rfl (.sel (.cons .h .nil))
  rw [if_neg (by rw [hb23]; exact Bool.false_ne_true)] at hF
  iterate 3 refine au ?_
  refine C_val (V_makeFunc (fn := .func 158) (vs := []) (us := [(.pointer (some ⟨k1, 0, some 0⟩))]) .nil (.cons (.tmp rfl rfl) .nil)) ?_
  obtain ⟨r5, hx6, hF⟩ := bind_some hF
  refine C_x1 (.cons .h (.rd .h rfl (.rd (.t .h) rfl .nil))) (XC_borL (pre := _) (.cons frz_own .nil) (fun _ => .nil) (X_callS cf157.h (.cons (.tmp rfl rfl) (.cons (.tmp rfl rfl) .nil)) (g_slices_IndexFunc_impl_Fact_impl_Fact_iadded1_ok a_l v0_0 k1 a_f v1_1 _ hx6))) (fun _ => ?_)
  iterate 7 refine au ?_
  refine CW_cond (b := (decide ((r5 : Int) < 0))) (.tmp rfl rfl) (fun hb22 => ?_) (fun hb22 => ?_)
  · rw [if_pos hb22] at hF
    iterate 9 refine au ?_
    obtain ⟨r8, hx9, hF⟩ := bind_some hF
    refine C_x1 (.rd (.t (.t .h)) rfl .nil) (X_callS cf160.h (.cons (.tmp rfl rfl) .nil) (i_copyFact_ok a_f v1_1 _ hx9)) (fun p10 => ?_)
    refine C_new rfl (N_buildSliceT (g := true) sl43.h ty55.h (.cons (.tmp rfl rfl) .nil) (vs := [(.agg [(.int .i64 r8.Rel), p10.1.v].toArray)]) rfl rfl rfl (by intro v hv; simp at hv; rcases hv with rfl <;> rfl)) (fun k11 => ?_)
    refine C_conv (.cons .h (.cons .h .nil)) (own_lit (Ro := ow55) (E := 55) (F := (p10.2 ++ [])) (xs := ([r8] : List Fact)) (MkL_cons mk55 MkL_nil apps) rfl rfl) apps ?_
    obtain ⟨r12, hx13, hF⟩ := bind_some hF
    refine C_x1 (.cons (.t .h) (.cons .h .nil)) (X_callS cf159.h (.cons (.tmp rfl rfl) (.cons (.tmp rfl rfl) (.cons (.tmp rfl rfl) .nil))) (g_slices_Insert_impl_Fact_impl_Fact_ok a_l v0_0 F0_0 (a_l.length : Int) ([r8] : List Fact) (⟨(some ⟨k11, 0, none⟩), 1, 1⟩) (k11 :: (p10.2 ++ [])) _ hx13)) (fun p14 => ?_)
    iterate 3 refine au ?_
    obtain rfl := Option.some.inj hF
    exact End_ret (p14.1, p14.2) (.tmp rfl rfl .nil) rfl (.sel (.cons .h .nil))
  rw [if_neg (by rw [hb22]; exact Bool.false_ne_true)] at hF
  iterate 5 refine au ?_
  obtain ⟨r15, hx16, hF⟩ := bind_some hF
  refine C_x1 (.rd (.t (.t .h)) rfl .nil) (X_callS cf160.h (.cons (.tmp rfl rfl) .nil) (i_copyFact_ok a_f v1_1 _ hx16)) (fun p17 => ?_)
  refine C_new rfl (N_buildSliceT (g := true) sl43.h ty55.h (.cons (.tmp rfl rfl) .nil) (vs := [(.agg [(.int .i64 r15.Rel), p17.1.v].toArray)]) rfl rfl rfl (by intro v hv; simp at hv; rcases hv with rfl <;> rfl)) (fun k18 => ?_)
  refine C_conv (.cons .h (.cons .h .nil)) (own_lit (Ro := ow55) (E := 55) (F := (p17.2 ++ [])) (xs := ([r15] : List Fact)) (MkL_cons mk55 MkL_nil apps) rfl rfl) apps ?_
  obtain ⟨r19, hx20, hF⟩ := bind_some hF
  refine C_x1 (.cons (.t .h) (.cons .h .nil)) (X_callS cf159.h (.cons (.tmp rfl rfl) (.cons (.tmp rfl rfl) (.cons (.tmp rfl rfl) .nil))) (g_slices_Insert_impl_Fact_impl_Fact_ok a_l v0_0 F0_0 r5 ([r15] : List Fact) (⟨(some ⟨k18, 0, none⟩), 1, 1⟩) (k18 :: (p17.2 ++ [])) _ hx20)) (fun p21 => ?_)
  iterate 3 refine au ?_
  obtain rfl := Option.some.inj hF
  exact End_ret (p21.1, p21.2) (.tmp rfl rfl .nil) rfl (.sel (.cons .h .nil))

/-! impl.ApplyChange$1 -/
def i_ApplyChange_1 (a_f : Fact) (a_e1 : Change) : Option (Bool) :=
  (i_CompareFacts a_f a_e1.Fact).bind fun r2 =>
  some ((r2 : Int) == 0)
theorem i_ApplyChange_1_ok (a_f : Fact) (v0_1 : Sv) (kc1 : Nat) (a_e1 : Change) (vc1_2 : Sv) (R : Bool) (hF : i_ApplyChange_1 a_f a_e1 = some R) :
    Fw.Spec Tryz.prog 111 [(.agg [(.int .i64 a_f.Rel), v0_1.v].toArray), (.pointer (some ⟨kc1, 0, some 0⟩))] [crd (RdS 3 rdInt) v0_1.v a_f.Values, cboR kc1 57 (.agg [(.bool a_e1.Add), (.int .i64 a_e1.Fact.Rel), vc1_2.v].toArray), crd (RdS 3 rdInt) vc1_2.v a_e1.Fact.Values] (fun _ : Unit => (.bool R)) (fun _ => []) := by
  refine Spec_enter (n := 9) Tryz.func111 rfl rfl (rs := [.tmp 3]) rfl rfl rfl ?_
  intro H0 F0
  unfold i_ApplyChange_1 at hF
  refine au ?_
  refine AbR (fun k1 => ?_)
  iterate 5 refine au ?_
  refine C_at (.t (.t .h)) (fun hp => V_loadA (s := 2) (l := [(.int .i64 a_e1.Fact.Rel), vc1_2.v]) ag55.h ty55.h.sz (.tmp rfl rfl) hp.2 rfl (by decide) (Nat.le_of_ble_eq_true rfl) rfl) ?_
  obtain ⟨r2, hx3, hF⟩ := bind_some hF
  refine Cx0 (i_CompareFacts_ok _ _ _ _ _ hx3) (fun _ => ?_)
  iterate 4 refine au ?_
  cases hF
  exact Er ()

/-! impl.Fact] -/
def g_slices_IndexFunc_impl_Fact_impl_Fact_iApplyChange1_L1 (a_e1 : Change) : List Fact → Nat → Option (Int)
  | [], k4 => some (-1)
  | x6 :: rest5, k4 => (i_ApplyChange_1 x6 a_e1).bind fun r16 =>
    if r16 then (
      some (k4 : Int))
    else (
      g_slices_IndexFunc_impl_Fact_impl_Fact_iApplyChange1_L1 a_e1 rest5 (k4 + 1))
def g_slices_IndexFunc_impl_Fact_impl_Fact_iApplyChange1 (a_s : List Fact) (a_e1 : Change) : Option (Int) :=
  g_slices_IndexFunc_impl_Fact_impl_Fact_iApplyChange1_L1 a_e1 a_s 0
theorem g_slices_IndexFunc_impl_Fact_impl_Fact_iApplyChange1_ok (a_s : List Fact) (v0_0 : Sv) (kc1 : Nat) (a_e1 : Change) (vc1_2 : Sv) (R : Int) (hF : g_slices_IndexFunc_impl_Fact_impl_Fact_iApplyChange1 a_s a_e1 = some R) :
    Fw.Spec Tryz.prog 157 [v0_0.v, (.func (.func 111) [].toArray [(.pointer (some ⟨kc1, 0, some 0⟩))].toArray)] [crd (RdS 55 rd55) v0_0.v a_s, cboR kc1 57 (.agg [(.bool a_e1.Add), (.int .i64 a_e1.Fact.Rel), vc1_2.v].toArray), crd (RdS 3 rdInt) vc1_2.v a_e1.Fact.Values] (fun _ : Unit => (.int .i64 R)) (fun _ => []) := by
  refine Spec_enter (n := 19) Tryz.func157 rfl rfl (rs := [.tmp 4]) rfl rfl rfl ?_
  intro H0 F0
  unfold g_slices_IndexFunc_impl_Fact_impl_Fact_iApplyChange1 at hF
  refine K_region (C_val (V_assign (v := (.int .i64 0)) (.int _ _)) ?_)
  refine C_nil (K_in (K_region (Cm v0_0.v rfl rfl ?_)))
  refine C_at .h (fun hp => V_lenR (l := a_s.length) sl43.h (.tmp rfl rfl) (crd_len hp)) ?_
  refine C_val (V_move (v := (.int .i64 0)) (.int _ _)) ?_
  refine C_nil (CW_block (CW_loop (m := a_s.length) (fun m2 f' cs' => ∃ (g : Fr) (k4 : Nat) (rest5 : List Fact), m2 = rest5.length ∧ f' = updL g [(0, v0_0.v), (1, (.func (.func 111) [].toArray [(.pointer (some ⟨kc1, 0, some 0⟩))].toArray)), (7, (.int .i64 (a_s.length : Int))), (8, (.int .i64 (k4 : Int)))] ∧ List.drop k4 a_s = rest5 ∧ Ent cs' [crd (RdS 55 rd55) v0_0.v a_s, cboR kc1 57 (.agg [(.bool a_e1.Add), (.int .i64 a_e1.Fact.Rel), vc1_2.v].toArray), crd (RdS 3 rdInt) vc1_2.v a_e1.Fact.Values] ∧ g_slices_IndexFunc_impl_Fact_impl_Fact_iApplyChange1_L1 a_e1 rest5 k4 = some R) ⟨_, 0, _, rfl, (EqL.cons rfl (EqL.cons rfl (EqL.cons rfl (EqL.cons rfl (EqL.nil))))).eq, rfl, (.sel (.rd .h rfl (.rd (.t .h) rfl (.rd (.t (.t .h)) rfl .nil)))), hF⟩ ?_))
  clear hF
  rintro m2 _ _ ⟨g3, k4, rest5, rfl, rfl, hd7, hE, hF⟩
  refine K_ent hE ?_
  clear hE
  refine K_pure (c := crd (RdS 55 rd55) v0_0.v a_s) .h crd_bound (fun hbd12 => ?_)
  rcases rest5 with _ | ⟨x6, rest5⟩
  · have hk8 := List.drop_eq_nil_iff.1 hd7
    have hfe11 : (decide (((k4 : Int) : Int) < (a_s.length : Int))) = false := decide_eq_false (by omega)
    rw [g_slices_IndexFunc_impl_Fact_impl_Fact_iApplyChange1_L1] at hF
    refine K_region (C_val (V_lss (i := (k4 : Int)) (j := (a_s.length : Int)) (.tmp rfl rfl) (.tmp rfl rfl)) ?_)
    refine C_nil (K_in (CW_cond (b := (decide (((k4 : Int) : Int) < (a_s.length : Int)))) (.tmp rfl rfl) (fun hb => absurd (hfe11.symm.trans hb) (by decide)) (fun _ => ?_)))
    refine CW_exit ?_
    iterate 2 refine CThen_exit ?_
    refine CIn_self (K_region (C_val (V_assign (v := (.int .i64 (-1))) (.int _ _)) ?_))
    refine C_nil (CW_ret ?_)
    obtain rfl := Option.some.inj hF
    exact End_ret () (.tmp rfl rfl .nil) rfl (.sel .nil)
  obtain ⟨hk8, hx9, hd10⟩ := drop_cons hd7
  have hfe11 : (decide (((k4 : Int) : Int) < (a_s.length : Int))) = true := decide_eq_true (by omega)
  rw [g_slices_IndexFunc_impl_Fact_impl_Fact_iApplyChange1_L1] at hF
  refine K_region (C_val (V_lss (i := (k4 : Int)) (j := (a_s.length : Int)) (.tmp rfl rfl) (.tmp rfl rfl)) ?_)
  refine C_nil (K_in (CW_cond (b := (decide (((k4 : Int) : Int) < (a_s.length : Int)))) (.tmp rfl rfl) (fun _ => ?_) (fun hb => absurd (hfe11.symm.trans hb) (by decide))))
  refine CW_skip (K_block (K_region (Cm (.int .i64 (k4 : Int)) rfl rfl ?_)))
  refine Ca (.int .i64 (k4 : Int)) rfl rfl ?_
  refine C_nil (K_region (Cm (.func (.func 111) [].toArray [(.pointer (some ⟨kc1, 0, some 0⟩))].toArray) rfl rfl ?_))
  refine Cm v0_0.v rfl rfl ?_
  refine Cm (.int .i64 (k4 : Int)) rfl rfl ?_
  refine C_idx (a := x6) sl43.h ty55.h.sz (.tmp rfl rfl) (.tmp rfl rfl) .h (Int.natCast_nonneg k4) hx9 (fun k13 j14 => ?_)
  refine C_ldA1 (ul55_0_55 x6) ag55.h ty55.h.sz rfl (.tmp rfl rfl) .h la55_0_55 (fun p15 => ?_)
  obtain ⟨r16, hx17, hF⟩ := bind_some hF
  refine C_x0 (.rd .h rfl (.rd (.t (.t (.t .h))) rfl (.rd (.t (.t (.t (.t .h)))) rfl .nil))) (X_callCS cf111.h (.tmp rfl rfl) (.cons (.tmp rfl rfl) .nil) (i_ApplyChange_1_ok x6 p15 kc1 a_e1 vc1_2 _ hx17)) (fun _ => ?_)
  refine C_nil (CW_cond (b := r16) (.tmp rfl rfl) (fun hb20 => ?_) (fun hb20 => ?_))
  · rw [if_pos hb20] at hF
    refine K_region (Cm (.int .i64 (k4 : Int)) rfl rfl ?_)
    refine Ca (.int .i64 (k4 : Int)) rfl rfl ?_
    refine C_nil (CW_ret ?_)
    obtain rfl := Option.some.inj hF
    exact End_ret () (.tmp rfl rfl .nil) rfl (.sel .nil)
  rw [if_neg (by rw [hb20]; exact Bool.false_ne_true)] at hF
  refine CW_skip (CW_region (C_val (V_add (i := (k4 : Int)) (j := 1) (.tmp rfl rfl) (.int _ _)) ?_))
  refine Cm (.int .i64 (IntKind.i64.wrap ((k4 : Int) + 1))) rfl rfl ?_
  refine C_nil ?_
  have hw19 : IntKind.i64.wrap ((k4 : Int) + 1) = ((k4 + 1 : Nat) : Int) := by rw [wrap_in (by omega) (by omega)]; rfl
  rw [hw19]
  exact ⟨_, Nat.lt_succ_self _, _, k4 + 1, rest5, rfl, (EqL.cons rfl (EqL.cons rfl (EqL.cons rfl (EqL.cons rfl (EqL.nil))))).eq, hd10, (.sel (.rd (.t (.t .h)) rfl (.rd (.t (.t (.t .h))) rfl (.rd (.t (.t (.t (.t .h)))) rfl .nil)))), hF⟩

/-! impl.Fact] -/
def g_slices_DeleteFunc_impl_Fact_impl_Fact_iApplyChange1 (a_s : List Fact) (a_e1 : Change) : Option (List Fact) :=
  delL (fun a_q => i_ApplyChange_1 a_q a_e1) a_s
theorem g_slices_DeleteFunc_impl_Fact_impl_Fact_iApplyChange1_sh (qs : List (Value × Fact)) (v : Sv) (F : List Nat) (kc1 : Nat) (a_e1 : Change) (vc1_2 : Sv) (p : Value × Fact → Bool) (hcl : ∀ q ∈ qs, i_ApplyChange_1 q.2 a_e1 = some (p q)) (hidx : g_slices_IndexFunc_impl_Fact_impl_Fact_iApplyChange1 (qs.map Prod.snd) a_e1 = some (ixF p qs 0)) (hbd : qs.length < 4611686018427387904) :
    Fw.Spec Tryz.prog 110 [v.v, (.func (.func 111) [].toArray [(.pointer (some ⟨kc1, 0, some 0⟩))].toArray)] [cown (OwnS 55 (roE (rq rd55))) F v.v qs, cboR kc1 57 (.agg [(.bool a_e1.Add), (.int .i64 a_e1.Fact.Rel), vc1_2.v].toArray), crd (RdS 3 rdInt) vc1_2.v a_e1.Fact.Values] (fun q : Sv × List Nat => q.1.v) (fun q => [cown (OwnS 55 (roE (rq rd55))) q.2 q.1.v (qs.filter fun a => !p a)]) := by
  refine Spec_enter (n := 42) Tryz.func110 rfl rfl (rs := [.tmp 4]) rfl rfl rfl ?_
  intro H0 F0
  refine K_region ?_
  refine C_val (V_assign (v := (.slice none 0 0)) EV.nilSlice) ?_
  refine C_nil ?_
  refine K_region ?_
  refine C_val (V_move (v := v.v) (.tmp rfl rfl)) ?_
  refine C_val (V_move (v := (.func (.func 111) [].toArray [(.pointer (some ⟨kc1, 0, some 0⟩))].toArray)) (.tmp rfl rfl)) ?_
  refine C_x1 (.cons .h (.rd .h rfl (.rd (.t .h) rfl .nil))) (XC_borR frz_rq (fun _ => .nil) (XC_pre (.rd (.t (.t .h)) rfl (.rd .h rfl (.rd (.t .h) rfl .nil))) (X_callS cf157.h (.cons (.tmp rfl rfl) (.cons (.tmp rfl rfl) .nil)) (g_slices_IndexFunc_impl_Fact_impl_Fact_iApplyChange1_ok (qs.map Prod.snd) v kc1 a_e1 vc1_2 _ hidx)))) (fun _ => ?_)
  generalize hR : ixF p qs 0 = R0
  refine C_val (V_assign (v := (.int .i64 R0)) (.tmp rfl rfl)) ?_
  refine C_nil ?_
  refine K_in ?_
  refine K_region ?_
  refine C_val (V_move (v := (.int .i64 R0)) (.tmp rfl rfl)) ?_
  refine C_val (V_eql (i := R0) (j := (-1)) (.tmp rfl rfl) (.int _ _)) ?_
  refine C_nil ?_
  refine CW_cond (b := (R0 == (-1 : Int))) (.tmp rfl rfl) (fun hb => ?_) (fun hb => ?_)
  · refine K_region ?_
    refine C_val (V_move (v := v.v) (.tmp rfl rfl)) ?_
    refine C_val (V_assign (v := v.v) (.tmp rfl rfl)) ?_
    refine C_nil ?_
    refine CW_ret ?_
    have e : qs.filter (fun q => !p q) = qs := ixF_none (k := 0) (by rw [hR]; simpa using hb)
    rw [e]
    exact End_ret (v, F) (.tmp rfl rfl .nil) rfl (.sel (.cons .h .nil))
  refine CW_skip ?_
  obtain ⟨i0, hi0, hi1⟩ : ∃ i : Nat, R0 = (i : Int) ∧ i < qs.length := by
    rcases ixF_range p qs 0 with h | ⟨i, h, hi⟩
    · rw [hR] at h; subst h; simp at hb
    · exact ⟨i, by rw [← hR, h], by omega⟩
  subst hi0
  refine K_in ?_
  refine K_region ?_
  refine C_val (V_move (v := (.int .i64 (i0 : Int))) (.tmp rfl rfl)) ?_
  refine C_val (V_add (i := (i0 : Int)) (j := 1) (.tmp rfl rfl) (.int _ _)) ?_
  rw [show IntKind.i64.wrap ((i0 : Int) + 1) = ((i0 + 1 : Nat) : Int) from by rw [wrap_in (by omega) (by omega)]; rfl]
  refine C_val (V_assign (v := (.int .i64 ((i0 + 1 : Nat) : Int))) (.tmp rfl rfl)) ?_
  refine C_nil ?_
  refine CW_block ?_
  refine CW_loop (m := qs.length - (i0 + 1)) (fun m f' cs' => ∃ (g : Fr) (cur : List (Value × Fact)) (i j : Nat) (F' : List Nat), m = qs.length - j ∧ f' = updL g [(0, v.v), (1, (.func (.func 111) [].toArray [(.pointer (some ⟨kc1, 0, some 0⟩))].toArray)), (5, (.int .i64 (i : Int))), (6, (.int .i64 (j : Int)))] ∧ DelI p qs cur i j ∧ Ent cs' [cown (OwnS 55 (roE (rq rd55))) F' v.v cur, cboR kc1 57 (.agg [(.bool a_e1.Add), (.int .i64 a_e1.Fact.Rel), vc1_2.v].toArray), crd (RdS 3 rdInt) vc1_2.v a_e1.Fact.Values]) ⟨_, qs, i0, i0 + 1, F, rfl, (EqL.cons rfl (EqL.cons rfl (EqL.cons rfl (EqL.cons rfl (EqL.nil))))).eq, DelI.init (by rw [hR]), .sel (.cons .h (.rd .h rfl (.rd (.t .h) rfl .nil)))⟩ ?_
  rintro m _ _ ⟨g, cur, i, j, F', rfl, rfl, hI, hE⟩
  refine K_ent hE ?_
  clear hE
  refine K_in ?_
  refine K_region ?_
  refine C_val (V_move (v := (.int .i64 (j : Int))) (.tmp rfl rfl)) ?_
  refine C_val (V_move (v := v.v) (.tmp rfl rfl)) ?_
  refine C_at .h (fun hp => V_lenR (l := cur.length) sl43.h (.tmp rfl rfl) (cown_len hp)) ?_
  refine C_val (V_lss (i := (j : Int)) (j := (cur.length : Int)) (.tmp rfl rfl) (.tmp rfl rfl)) ?_
  refine C_nil ?_
  have hlen := hI.len
  have hij := hI.lt
  have hjl := hI.le
  refine CW_cond (b := (decide ((j : Int) < (cur.length : Int)))) (.tmp rfl rfl) (fun hb2 => ?_) (fun hb2 => ?_)
  · refine CW_skip ?_
    have hj : j < qs.length := by simp at hb2; omega
    obtain ⟨x, hx1, hx2⟩ := hI.at hj
    refine K_block ?_
    refine K_region ?_
    refine C_val (V_move (v := v.v) (.tmp rfl rfl)) ?_
    refine C_val (V_move (v := (.int .i64 (j : Int))) (.tmp rfl rfl)) ?_
    refine C_idxO sl43.h ty55.h.sz (.tmp rfl rfl) (.tmp rfl rfl) .h (by simp; omega) (fun k hk => ?_)
    refine C_ldOW (a := x) (ul := fun i : Sv => [(.int .i64 x.2.Rel), i.v]) (cc := fun i => [crd (RdS 3 rdInt) i.v x.2.Values]) ag55.h ty55.h.sz rfl (.tmp rfl rfl) .h hk (by simpa using hx1) (fun H e h => by obtain ⟨-, v0, h1, h0⟩ := h; exact ⟨v0, h1, rfl, by simp [crd, h0]⟩) (fun w => ?_)
    refine C_new rfl (N_allocT (g := true) ty55.h rfl rfl) (fun k1 => ?_)
    refine C_x1 (.cons .h .nil) (X_storeB (e := (.agg [(.int .i64 0), (.slice none 0 0)].toArray)) (e' := (.agg [(.int .i64 x.2.Rel), w.v].toArray)) (v := (.agg [(.int .i64 x.2.Rel), w.v].toArray)) ty55.h.sz (.tmp rfl rfl) (.tmp rfl rfl) rfl rfl rfl rfl rfl) (fun _ => ?_)
    refine C_nil ?_
    refine K_region ?_
    refine C_val (V_move (v := (.func (.func 111) [].toArray [(.pointer (some ⟨kc1, 0, some 0⟩))].toArray)) (.tmp rfl rfl)) ?_
    refine C_at .h (fun hp => V_loadBox ag55.h ty55.h.sz rfl (.tmp rfl rfl) hp.2 rfl) ?_
    refine C_x0 (.rd (.t (.t .h)) rfl (.rd (.t (.t (.t (.t .h)))) rfl (.rd (.t (.t (.t (.t (.t .h))))) rfl .nil))) (X_callCS cf111.h (.tmp rfl rfl) (.cons (.tmp rfl rfl) .nil) (i_ApplyChange_1_ok x.2 w kc1 a_e1 vc1_2 _ (hcl x (List.mem_of_getElem? hx2)))) (fun _ => ?_)
    refine C_val (V_not (b := p x) (.tmp rfl rfl)) ?_
    refine C_nil ?_
    refine CW_cond (b := (!p x)) (.tmp rfl rfl) (fun hb3 => ?_) (fun hb3 => ?_)
    · refine K_region ?_
      refine C_val (V_move (v := v.v) (.tmp rfl rfl)) ?_
      refine C_val (V_move (v := (.int .i64 (i : Int))) (.tmp rfl rfl)) ?_
      refine C_at .h (fun hp => V_loadBox ag55.h ty55.h.sz rfl (.tmp rfl rfl) hp.2 rfl) ?_
      have hii : (decide ((0 : Int) ≤ (i : Int)) && decide ((i : Int) < (cur.length : Int))) = true := by simp; omega
      refine C_idxO sl43.h ty55.h.sz (.tmp rfl rfl) (.tmp rfl rfl) (.t (.t (.t .h))) hii (fun k2 hk2 => ?_)
      refine C_x1 (.cons (.t (.t (.t .h))) (.rd (.t .h) rfl .nil)) (X_storeO (Ro := roE (rq rd55)) (a := x) (i := (i : Int)) ty55.h.sz rfl (.tmp rfl rfl) (.tmp rfl rfl) hk2 hii Mk_rd (fun _ _ _ _ h => by obtain ⟨-, -, v0, rfl, _⟩ := h; rfl)) (fun F2 => ?_)
      refine C_nil ?_
      refine CW_region ?_
      refine C_val (V_move (v := (.int .i64 (i : Int))) (.tmp rfl rfl)) ?_
      refine C_val (V_add (i := (i : Int)) (j := 1) (.tmp rfl rfl) (.int _ _)) ?_
      rw [show IntKind.i64.wrap ((i : Int) + 1) = ((i + 1 : Nat) : Int) from by rw [wrap_in (by omega) (by omega)]; rfl]
      refine C_val (V_assign (v := (.int .i64 ((i + 1 : Nat) : Int))) (.tmp rfl rfl)) ?_
      refine C_nil ?_
      refine CW_region ?_
      refine C_val (V_move (v := (.int .i64 (j : Int))) (.tmp rfl rfl)) ?_
      refine C_val (V_add (i := (j : Int)) (j := 1) (.tmp rfl rfl) (.int _ _)) ?_
      rw [show IntKind.i64.wrap ((j : Int) + 1) = ((j + 1 : Nat) : Int) from by rw [wrap_in (by omega) (by omega)]; rfl]
      refine C_val (V_assign (v := (.int .i64 ((j + 1 : Nat) : Int))) (.tmp rfl rfl)) ?_
      refine C_nil ?_
      exact ⟨_, by omega, _, cur.set i x, i + 1, j + 1, F2, rfl, (EqL.cons rfl (EqL.cons rfl (EqL.cons rfl (EqL.cons rfl (EqL.nil))))).eq, hI.no hx2 (by simpa using hb3), .sel (.cons .h (.rd (.t (.t (.t .h))) rfl (.rd (.t (.t (.t (.t .h)))) rfl .nil)))⟩
    · refine CW_skip ?_
      refine CW_region ?_
      refine C_val (V_move (v := (.int .i64 (j : Int))) (.tmp rfl rfl)) ?_
      refine C_val (V_add (i := (j : Int)) (j := 1) (.tmp rfl rfl) (.int _ _)) ?_
      rw [show IntKind.i64.wrap ((j : Int) + 1) = ((j + 1 : Nat) : Int) from by rw [wrap_in (by omega) (by omega)]; rfl]
      refine C_val (V_assign (v := (.int .i64 ((j + 1 : Nat) : Int))) (.tmp rfl rfl)) ?_
      refine C_nil ?_
      exact ⟨_, by omega, _, cur, i, j + 1, F', rfl, (EqL.cons rfl (EqL.cons rfl (EqL.cons rfl (EqL.cons rfl (EqL.nil))))).eq, hI.yes hx2 (by simpa using hb3), .sel (.cons (.t (.t (.t .h))) (.rd (.t (.t (.t .h))) rfl (.rd (.t (.t (.t (.t .h)))) rfl .nil)))⟩
  · refine CW_exit ?_
    refine CThen_exit ?_
    refine CThen_exit ?_
    refine CIn_self ?_
    have hj : qs.length ≤ j := by simp at hb2; omega
    refine K_pure .h (own_form (by intro e; rw [e] at hlen; simp at hlen; omega)) (fun hv => ?_)
    obtain ⟨k0, m0, rfl, hm0⟩ := hv
    refine K_region ?_
    refine C_val (V_move (v := (.slice (some ⟨k0, 0, none⟩) cur.length m0)) (.tmp rfl rfl)) ?_
    refine C_val (V_move (v := (.int .i64 (i : Int))) (.tmp rfl rfl)) ?_
    refine C_sliceLo sl43.h ty55.h.sz (.tmp rfl rfl) (.tmp rfl rfl) .h (by omega) (by omega) ?_
    refine C_x1 (.cons .h .nil) (X_clear (l := cur.length) (m := m0) (k := k0) (i := i) (j := cur.length - i) sl43.h ty55.h rfl rfl rfl rfl rfl (by omega) (.tmp rfl rfl)) (fun _ => ?_)
    refine C_nil ?_
    refine K_region ?_
    refine C_val (V_move (v := (.slice (some ⟨k0, 0, none⟩) cur.length m0)) (.tmp rfl rfl)) ?_
    refine C_val (V_move (v := (.int .i64 (i : Int))) (.tmp rfl rfl)) ?_
    refine C_sliceHi sl43.h ty55.h.sz (.tmp rfl rfl) hm0 (.tmp rfl rfl) .h rfl (by omega) (by omega) (by omega) ?_
    refine C_val (V_assign (v := (.slice (some ⟨k0, 0, none⟩) i 2)) (.tmp rfl rfl)) ?_
    refine C_nil ?_
    refine CW_ret ?_
    rw [← hI.fin hj]
    exact End_ret (⟨some ⟨k0, 0, none⟩, i, 2⟩, F') (.tmp rfl rfl .nil) rfl (.sel (.cons .h .nil))
theorem g_slices_DeleteFunc_impl_Fact_impl_Fact_iApplyChange1_ok (a_s : List Fact) (v0_0 : Sv) (F0_0 : List Nat) (kc1 : Nat) (a_e1 : Change) (vc1_2 : Sv) (R : List Fact) (hF : g_slices_DeleteFunc_impl_Fact_impl_Fact_iApplyChange1 a_s a_e1 = some R) :
    Fw.Spec Tryz.prog 110 [v0_0.v, (.func (.func 111) [].toArray [(.pointer (some ⟨kc1, 0, some 0⟩))].toArray)] [cown (OwnS 55 ow55) F0_0 v0_0.v a_s, cboR kc1 57 (.agg [(.bool a_e1.Add), (.int .i64 a_e1.Fact.Rel), vc1_2.v].toArray), crd (RdS 3 rdInt) vc1_2.v a_e1.Fact.Values] (fun p : Sv × List Nat => p.1.v) (fun p => [cown (OwnS 55 ow55) p.2 p.1.v R]) := by
  unfold g_slices_DeleteFunc_impl_Fact_impl_Fact_iApplyChange1 at hF
  obtain ⟨h1, h2⟩ := delL_some hF
  refine Spec_pure cown_bound (fun hb => ?_)
  refine Spec_deep (R := rd55) rfl (fun es F1 hel => ⟨(es.zip a_s).filter (fun a => !(i_ApplyChange_1 a.2 a_e1).getD false), List.filter_sublist, by rw [h2]; exact zip_filter (fun a => (i_ApplyChange_1 a a_e1).getD false) es a_s hel, ?_⟩)
  refine g_slices_DeleteFunc_impl_Fact_impl_Fact_iApplyChange1_sh (es.zip a_s) v0_0 F1 kc1 a_e1 vc1_2 (fun a => (i_ApplyChange_1 a.2 a_e1).getD false) (fun q hq => h1 q.2 (List.of_mem_zip hq).2) ?_ (by simp; omega)
  rw [List.map_snd_zip (Nat.le_of_eq hel.symm), ← ixF_map Prod.snd (fun a => (i_ApplyChange_1 a a_e1).getD false), List.map_snd_zip (Nat.le_of_eq hel.symm)]
  exact index_loop (L := g_slices_IndexFunc_impl_Fact_impl_Fact_iApplyChange1_L1 a_e1) (fun _ => rfl) (fun _ _ _ => rfl) a_s 0 h1

/-! impl.ApplyChange -/
def i_ApplyChange (a_s : List Int) (a_x : Source) (a_c : Change) : Option (Source × Bool) :=
  (i_copySource a_x).bind fun r4 =>
  (i_HasFact a_x.Facts a_c.Fact).bind fun r8 =>
  ((i_IsSource a_s a_x).bind fun r13 =>
    bif (!r13) then (some true)
    else ((i_IsFact a_s a_c.Fact).bind fun r17 =>
      bif (!r17) then (some true)
      else (bif ((a_x.Version : Int) == 1000) then (some true)
        else (bif (r8 == a_c.Add) then (some true)
          else (bif a_c.Add then (some (decide ((24 : Int) ≤ (a_x.Facts.length : Int))))
            else (some false)))))).bind fun o11 =>
  match o11 with
  | c24 => if c24 then (
      some (r4, false))
    else (
      if a_c.Add then (
        (i_added r4.Facts a_c.Fact).bind fun r25 =>
        some (({ Facts := r25, Version := (IntKind.i64.wrap (r4.Version + 1)) } : Source), true))
      else (
        (g_slices_DeleteFunc_impl_Fact_impl_Fact_iApplyChange1 r4.Facts a_c).bind fun r28 =>
        some (({ Facts := r28, Version := (IntKind.i64.wrap (r4.Version + 1)) } : Source), true)))
theorem i_ApplyChange_ok (a_s : List Int) (v0_0 : Sv) (a_x : Source) (v1_0 : Sv) (a_c : Change) (v2_2 : Sv) (R : Source × Bool) (hF : i_ApplyChange a_s a_x a_c = some R) :
    Fw.Spec Tryz.prog 36 [v0_0.v, (.agg [v1_0.v, (.int .i64 a_x.Version)].toArray), (.agg [(.bool a_c.Add), (.int .i64 a_c.Fact.Rel), v2_2.v].toArray)] [crd (RdS 3 rdInt) v0_0.v a_s, crd (RdS 55 rd55) v1_0.v a_x.Facts, crd (RdS 3 rdInt) v2_2.v a_c.Fact.Values] (fun p : Sv × List Nat => (.tuple [(.agg [p.1.v, (.int .i64 R.1.Version)].toArray), (.bool R.2)].toArray)) (fun p => [cown (OwnS 55 ow55) p.2 p.1.v R.1.Facts]) := by
  refine Spec_enter (n := 68) Tryz.func36 rfl rfl (rs := [.cell 6 45, .tmp 7]) rfl rfl rfl ?_
  intro H0 F0
  unfold i_ApplyChange at hF
  refine au ?_
  refine C_newR rfl (N_box (g := false) (v := (.agg [v1_0.v, (.int .i64 a_x.Version)].toArray)) ty45.h.sz (.tmp rfl rfl) rfl) (fun k1 => ?_)
  refine C_newR rfl (N_box (g := false) (v := (.agg [(.bool a_c.Add), (.int .i64 a_c.Fact.Rel), v2_2.v].toArray)) ty57.h.sz (.tmp rfl rfl) rfl) (fun k2 => ?_)
  refine C_new rfl (N_allocT (g := true) ty45.h rfl rfl) (fun k3 => ?_)
  iterate 4 refine au ?_
  obtain ⟨r4, hx5, hF⟩ := bind_some hF
  refine C_x1 (.rd (.t (.t (.t (.t .h)))) rfl .nil) (X_callS cf92.h (.cons (.tmp rfl rfl) .nil) (i_copySource_ok a_x v1_0 _ hx5)) (fun p6 => ?_)
  refine C_new rfl (N_allocT (g := true) ty45.h rfl rfl) (fun k7 => ?_)
  refine C_x1 (.cons .h .nil) (X_storeB (e' := (.agg [p6.1.v, (.int .i64 r4.Version)].toArray)) (v := (.agg [p6.1.v, (.int .i64 r4.Version)].toArray)) ty45.h.sz (.tmp rfl rfl) (.tmp rfl rfl) rfl rfl rfl rfl rfl) (fun _ => ?_)
  iterate 5 refine au ?_
  refine C_at (.t (.t (.t .h))) (fun hp => V_loadA (s := 2) (l := [(.int .i64 a_c.Fact.Rel), v2_2.v]) ag55.h ty55.h.sz (.tmp rfl rfl) hp.2 rfl (by decide) (Nat.le_of_ble_eq_true rfl) rfl) ?_
  obtain ⟨r8, hx9, hF⟩ := bind_some hF
  refine C_x0 (.rd (.t (.t (.t (.t (.t (.t .h)))))) rfl (.rd (.t (.t (.t (.t (.t (.t (.t .h))))))) rfl .nil)) (X_callS cf107.h (.cons (.tmp rfl rfl) (.cons (.tmp rfl rfl) .nil)) (i_HasFact_ok a_x.Facts v1_0 a_c.Fact v2_2 _ hx9)) (fun _ => ?_)
  iterate 3 refine au ?_
  obtain ⟨o11, hio11, hO12⟩ := bind_some hF
  refine au ?_
  refine C_cut (fun f' cs' => ∃ (c24 : Bool) (g : Fr), c24 = o11 ∧ f' = updL g [(5, (.pointer (some ⟨k2, 0, some 0⟩))), (6, (.pointer (some ⟨k3, 0, some 0⟩))), (8, (.pointer (some ⟨k7, 0, some 0⟩))), (48, (.bool c24))] ∧ Ent cs' [cboR k2 57 (.agg [(.bool a_c.Add), (.int .i64 a_c.Fact.Rel), v2_2.v].toArray), crd (RdS 3 rdInt) v2_2.v a_c.Fact.Values, cbox k3 45 (.agg [(.slice none 0 0), (.int .i64 0)].toArray), cbox k7 45 (.agg [p6.1.v, (.int .i64 r4.Version)].toArray), cown (OwnS 55 ow55) p6.2 p6.1.v r4.Facts]) ?_ ?_
  · replace hF := hio11
    iterate 2 refine au ?_
    obtain ⟨r13, hx14, hF⟩ := bind_some hF
    refine C_x0 (.rd (.t (.t (.t (.t (.t .h))))) rfl (.rd (.t (.t (.t (.t (.t (.t .h)))))) rfl .nil)) (X_callS cf99.h (.cons (.tmp rfl rfl) (.cons (.tmp rfl rfl) .nil)) (i_IsSource_ok a_s v0_0 a_x v1_0 _ hx14)) (fun _ => ?_)
    iterate 2 refine au ?_
    rcases Bool.eq_false_or_eq_true (!r13) with hg16 | hg16
    · rw [hg16]
      try rw [hg16] at hF; dsimp only [cond_true, cond_false] at hF
      iterate 28 refine au ?_
      obtain rfl := Option.some.inj hF
      exact ⟨_, _, rfl, (EqL.cons rfl (EqL.cons rfl (EqL.cons rfl (EqL.cons rfl (EqL.nil))))).eq, (.sel (.rd (.t (.t (.t .h))) rfl (.rd (.t (.t (.t (.t (.t (.t (.t .h))))))) rfl (.cons (.t (.t .h)) (.cons .h (.cons .h .nil))))))⟩
    rw [hg16]
    try rw [hg16] at hF; dsimp only [cond_true, cond_false] at hF
    iterate 5 refine au ?_
    refine C_at (.t (.t (.t .h))) (fun hp => V_loadA (s := 2) (l := [(.int .i64 a_c.Fact.Rel), v2_2.v]) ag55.h ty55.h.sz (.tmp rfl rfl) hp.2 rfl (by decide) (Nat.le_of_ble_eq_true rfl) rfl) ?_
    refine au ?_
    obtain ⟨r17, hx18, hF⟩ := bind_some hF
    refine C_x0 (.rd (.t (.t (.t (.t (.t .h))))) rfl (.rd (.t (.t (.t (.t (.t (.t (.t .h))))))) rfl .nil)) (X_callS cf108.h (.cons (.tmp rfl rfl) (.cons (.tmp rfl rfl) .nil)) (i_IsFact_ok a_s v0_0 a_c.Fact v2_2 _ hx18)) (fun _ => ?_)
    iterate 4 refine au ?_
    rcases Bool.eq_false_or_eq_true (!r17) with hg20 | hg20
    · rw [hg20]
      try rw [hg20] at hF; dsimp only [cond_true, cond_false] at hF
      iterate 21 refine au ?_
      obtain rfl := Option.some.inj hF
      exact ⟨_, _, rfl, (EqL.cons rfl (EqL.cons rfl (EqL.cons rfl (EqL.cons rfl (EqL.nil))))).eq, (.sel (.rd (.t (.t (.t .h))) rfl (.rd (.t (.t (.t (.t (.t (.t (.t .h))))))) rfl (.cons (.t (.t .h)) (.cons .h (.cons .h .nil))))))⟩
    rw [hg20]
    try rw [hg20] at hF; dsimp only [cond_true, cond_false] at hF
    iterate 8 refine au ?_
    rcases Bool.eq_false_or_eq_true ((a_x.Version : Int) == 1000) with hg21 | hg21
    · rw [hg21]
      try rw [hg21] at hF; dsimp only [cond_true, cond_false] at hF
      iterate 16 refine au ?_
      obtain rfl := Option.some.inj hF
      exact ⟨_, _, rfl, (EqL.cons rfl (EqL.cons rfl (EqL.cons rfl (EqL.cons rfl (EqL.nil))))).eq, (.sel (.rd (.t (.t (.t .h))) rfl (.rd (.t (.t (.t (.t (.t (.t (.t .h))))))) rfl (.cons (.t (.t .h)) (.cons .h (.cons .h .nil))))))⟩
    rw [hg21]
    try rw [hg21] at hF; dsimp only [cond_true, cond_false] at hF
    iterate 7 refine au ?_
    refine C_val (V_eqB (a := r8) (b := a_c.Add) Tryz.underlying4 (.tmp rfl rfl) (.tmp rfl rfl)) ?_
    iterate 2 refine au ?_
    rcases Bool.eq_false_or_eq_true (r8 == a_c.Add) with hg22 | hg22
    · rw [hg22]
      try rw [hg22] at hF; dsimp only [cond_true, cond_false] at hF
      iterate 10 refine au ?_
      obtain rfl := Option.some.inj hF
      exact ⟨_, _, rfl, (EqL.cons rfl (EqL.cons rfl (EqL.cons rfl (EqL.cons rfl (EqL.nil))))).eq, (.sel (.rd (.t (.t (.t .h))) rfl (.rd (.t (.t (.t (.t (.t (.t (.t .h))))))) rfl (.cons (.t (.t .h)) (.cons .h (.cons .h .nil))))))⟩
    rw [hg22]
    try rw [hg22] at hF; dsimp only [cond_true, cond_false] at hF
    iterate 6 refine au ?_
    rcases Bool.eq_false_or_eq_true a_c.Add with hg23 | hg23
    · rw [hg23]
      try rw [hg23] at hF; dsimp only [cond_true, cond_false] at hF
      iterate 12 refine au ?_
      obtain rfl := Option.some.inj hF
      exact ⟨_, _, rfl, (EqL.cons rfl (EqL.cons rfl (EqL.cons rfl (EqL.cons rfl (EqL.nil))))).eq, (.sel (.rd (.t (.t (.t .h))) rfl (.rd (.t (.t (.t (.t (.t (.t (.t .h))))))) rfl (.cons (.t (.t .h)) (.cons .h (.cons .h .nil))))))⟩
    rw [hg23]
    try rw [hg23] at hF; dsimp only [cond_true, cond_false] at hF
    iterate 8 refine au ?_
    obtain rfl := Option.some.inj hF
    exact ⟨_, _, rfl, (EqL.cons rfl (EqL.cons rfl (EqL.cons rfl (EqL.cons rfl (EqL.nil))))).eq, (.sel (.rd (.t (.t (.t .h))) rfl (.rd (.t (.t (.t (.t (.t (.t (.t .h))))))) rfl (.cons (.t (.t .h)) (.cons .h (.cons .h .nil))))))⟩
  rintro _ _ ⟨c24, g33, rfl, rfl, hE⟩
  replace hF := hO12
  clear hO12
  try dsimp only at hF
  refine K_ent hE ?_
  refine CW_cond (b := c24) (.tmp rfl rfl) (fun hb32 => ?_) (fun hb32 => ?_)
  · rw [if_pos hb32] at hF
    iterate 2 refine au ?_
    refine C_x1 (.cons (.t (.t .h)) .nil) (X_storeB (e' := (.agg [p6.1.v, (.int .i64 r4.Version)].toArray)) (v := (.agg [p6.1.v, (.int .i64 r4.Version)].toArray)) ty45.h.sz (.tmp rfl rfl) (.tmp rfl rfl) rfl rfl rfl rfl rfl) (fun _ => ?_)
    iterate 3 refine au ?_
    obtain rfl := Option.some.inj hF
    exact End_ret (p6.1, p6.2) (.cellA rfl rfl .h rfl ag45.h ty45.h.sz rfl rfl (.tmp rfl rfl .nil)) rfl (.sel (.cons (.t (.t (.t (.t .h)))) .nil))
  rw [if_neg (by rw [hb32]; exact Bool.false_ne_true)] at hF
  iterate 6 refine au ?_
  refine CW_cond (b := a_c.Add) (.tmp rfl rfl) (fun hb31 => ?_) (fun hb31 => ?_)
  · rw [if_pos hb31] at hF
    iterate 4 refine au ?_
    refine C_at .h (fun hp => V_loadA (s := 2) (l := [(.int .i64 a_c.Fact.Rel), v2_2.v]) ag55.h ty55.h.sz (.tmp rfl rfl) hp.2 rfl (by decide) (Nat.le_of_ble_eq_true rfl) rfl) ?_
    obtain ⟨r25, hx26, hF⟩ := bind_some hF
    refine C_x1 (.cons (.t (.t (.t (.t .h)))) (.rd (.t .h) rfl .nil)) (X_callS cf109.h (.cons (.tmp rfl rfl) (.cons (.tmp rfl rfl) .nil)) (i_added_ok r4.Facts p6.1 p6.2 a_c.Fact v2_2 _ hx26)) (fun p27 => ?_)
    refine au ?_
    refine C_x1 (.cons (.t (.t (.t (.t .h)))) .nil) (X_storeB (e' := (.agg [p27.1.v, (.int .i64 r4.Version)].toArray)) ty43.h.sz (.tmp rfl rfl) (.tmp rfl rfl) rfl rfl rfl rfl rfl) (fun _ => ?_)
    iterate 6 refine au ?_
    refine C_x1 (.cons .h .nil) (X_storeB (e' := (.agg [p27.1.v, (.int .i64 (IntKind.i64.wrap (r4.Version + 1)))].toArray)) (v := (.int .i64 (IntKind.i64.wrap (r4.Version + 1)))) ty3.h.sz (.tmp rfl rfl) (.tmp rfl rfl) rfl rfl rfl rfl rfl) (fun _ => ?_)
    iterate 3 refine au ?_
    refine C_x1 (.cons (.t (.t (.t (.t .h)))) .nil) (X_storeB (e' := (.agg [p27.1.v, (.int .i64 (IntKind.i64.wrap (r4.Version + 1)))].toArray)) (v := (.agg [p27.1.v, (.int .i64 (IntKind.i64.wrap (r4.Version + 1)))].toArray)) ty45.h.sz (.tmp rfl rfl) (.tmp rfl rfl) rfl rfl rfl rfl rfl) (fun _ => ?_)
    iterate 3 refine au ?_
    obtain rfl := Option.some.inj hF
    exact End_ret (p27.1, p27.2) (.cellA rfl rfl .h rfl ag45.h ty45.h.sz rfl rfl (.tmp rfl rfl .nil)) rfl (.sel (.cons (.t (.t .h)) .nil))
  rw [if_neg (by rw [hb31]; exact Bool.false_ne_true)] at hF
  iterate 3 refine au ?_
  refine C_val (V_makeFunc (fn := .func 111) (vs := []) (us := [(.pointer (some ⟨k2, 0, some 0⟩))]) .nil (.cons (.tmp rfl rfl) .nil)) ?_
  obtain ⟨r28, hx29, hF⟩ := bind_some hF
  refine C_x1 (.cons (.t (.t (.t (.t .h)))) (.rd .h rfl (.rd (.t .h) rfl .nil))) (X_callS cf110.h (.cons (.tmp rfl rfl) (.cons (.tmp rfl rfl) .nil)) (g_slices_DeleteFunc_impl_Fact_impl_Fact_iApplyChange1_ok r4.Facts p6.1 p6.2 k2 a_c v2_2 _ hx29)) (fun p30 => ?_)
  refine au ?_
  refine C_x1 (.cons (.t (.t (.t (.t .h)))) .nil) (X_storeB (e' := (.agg [p30.1.v, (.int .i64 r4.Version)].toArray)) ty43.h.sz (.tmp rfl rfl) (.tmp rfl rfl) rfl rfl rfl rfl rfl) (fun _ => ?_)
  iterate 6 refine au ?_
  refine C_x1 (.cons .h .nil) (X_storeB (e' := (.agg [p30.1.v, (.int .i64 (IntKind.i64.wrap (r4.Version + 1)))].toArray)) (v := (.int .i64 (IntKind.i64.wrap (r4.Version + 1)))) ty3.h.sz (.tmp rfl rfl) (.tmp rfl rfl) rfl rfl rfl rfl rfl) (fun _ => ?_)
  iterate 3 refine au ?_
  refine C_x1 (.cons (.t (.t (.t (.t .h)))) .nil) (X_storeB (e' := (.agg [p30.1.v, (.int .i64 (IntKind.i64.wrap (r4.Version + 1)))].toArray)) (v := (.agg [p30.1.v, (.int .i64 (IntKind.i64.wrap (r4.Version + 1)))].toArray)) ty45.h.sz (.tmp rfl rfl) (.tmp rfl rfl) rfl rfl rfl rfl rfl) (fun _ => ?_)
  iterate 3 refine au ?_
  obtain rfl := Option.some.inj hF
  exact End_ret (p30.1, p30.2) (.cellA rfl rfl .h rfl ag45.h ty45.h.sz rfl rfl (.tmp rfl rfl .nil)) rfl (.sel (.cons (.t (.t .h)) .nil))

/-! impl.ChangeFact -/
def i_ChangeFact (a_m : Mediator) (a_c : Change) : Option (Mediator × Bool) :=
  (i_copyMediator a_m).bind fun r4 =>
  (i_IsMediator a_m).bind fun r8 =>
  if (!r8) then (
    some (r4, false))
  else (
    (i_ApplyChange a_m.Schema a_m.Source a_c).bind fun r11 =>
    some (({ Schema := r4.Schema, Methods := r4.Methods, Rules := r4.Rules, Source := r11.1, Cache := r4.Cache, Now := r4.Now, Log := r4.Log, Times := r4.Times, Spent := r4.Spent, Results := r4.Results } : Mediator), r11.2))
theorem i_ChangeFact_ok (a_m : Mediator) (v0_0 : Sv) (v0_1 : Sv) (v0_2 : Sv) (v0_3 : Sv) (v0_5 : Sv) (v0_8 : Sv) (v0_9 : Sv) (v0_11 : Sv) (a_c : Change) (v1_2 : Sv) (R : Mediator × Bool) (hF : i_ChangeFact a_m a_c = some R) :
    Fw.Spec Tryz.prog 9 [(.agg [v0_0.v, v0_1.v, v0_2.v, v0_3.v, (.int .i64 a_m.Source.Version), v0_5.v, (.int .i64 a_m.Cache.Age), (.int .i64 a_m.Now), v0_8.v, v0_9.v, (.int .i64 a_m.Spent), v0_11.v].toArray), (.agg [(.bool a_c.Add), (.int .i64 a_c.Fact.Rel), v1_2.v].toArray)] [crd (RdS 3 rdInt) v0_0.v a_m.Schema, crd (RdS 114 rd114) v0_1.v a_m.Methods, crd (RdS 116 rd116) v0_2.v a_m.Rules, crd (RdS 55 rd55) v0_3.v a_m.Source.Facts, crd (RdS 156 rd156) v0_5.v a_m.Cache.Entries, crd (RdS 124 rd124) v0_8.v a_m.Log, crd (RdS 3 rdInt) v0_9.v a_m.Times, crd (RdS 110 (RdS 22 (RdS 3 rdInt))) v0_11.v a_m.Results, crd (RdS 3 rdInt) v1_2.v a_c.Fact.Values] (fun p : Sv × List Nat × Sv × List Nat × Sv × List Nat × Sv × List Nat × Sv × List Nat × Sv × List Nat × Sv × List Nat × Sv × List Nat => (.tuple [(.agg [p.1.v, p.2.2.1.v, p.2.2.2.2.1.v, p.2.2.2.2.2.2.1.v, (.int .i64 R.1.Source.Version), p.2.2.2.2.2.2.2.2.1.v, (.int .i64 R.1.Cache.Age), (.int .i64 R.1.Now), p.2.2.2.2.2.2.2.2.2.2.1.v, p.2.2.2.2.2.2.2.2.2.2.2.2.1.v, (.int .i64 R.1.Spent), p.2.2.2.2.2.2.2.2.2.2.2.2.2.2.1.v].toArray), (.bool R.2)].toArray)) (fun p => [cown (OwnS 3 (roE rdInt)) p.2.1 p.1.v R.1.Schema, cown (OwnS 114 ow114) p.2.2.2.1 p.2.2.1.v R.1.Methods, cown (OwnS 116 ow116) p.2.2.2.2.2.1 p.2.2.2.2.1.v R.1.Rules, cown (OwnS 55 ow55) p.2.2.2.2.2.2.2.1 p.2.2.2.2.2.2.1.v R.1.Source.Facts, cown (OwnS 156 ow156) p.2.2.2.2.2.2.2.2.2.1 p.2.2.2.2.2.2.2.2.1.v R.1.Cache.Entries, cown (OwnS 124 ow124) p.2.2.2.2.2.2.2.2.2.2.2.1 p.2.2.2.2.2.2.2.2.2.2.1.v R.1.Log, cown (OwnS 3 (roE rdInt)) p.2.2.2.2.2.2.2.2.2.2.2.2.2.1 p.2.2.2.2.2.2.2.2.2.2.2.2.1.v R.1.Times, cown (OwnS 110 (OwnS 22 (OwnS 3 (roE rdInt)))) p.2.2.2.2.2.2.2.2.2.2.2.2.2.2.2 p.2.2.2.2.2.2.2.2.2.2.2.2.2.2.1.v R.1.Results]) := by
  refine Spec_enter (n := 28) Tryz.func9 rfl rfl (rs := [.cell 4 51, .tmp 5]) rfl rfl rfl ?_
  intro H0 F0
  unfold i_ChangeFact at hF
  refine au ?_
  refine AbR (fun k1 => ?_)
  refine AbR (fun k2 => ?_)
  refine AnW (fun k3 => ?_)
  iterate 4 refine au ?_
  obtain ⟨r4, hx5, hF⟩ := bind_some hF
  refine Cx8 (i_copyMediator_ok _ _ _ _ _ _ _ _ _ _ hx5) (fun p6 => ?_)
  refine AnW (fun k7 => ?_)
  refine As (.agg [p6.1.v, p6.2.2.1.v, p6.2.2.2.2.1.v, p6.2.2.2.2.2.2.1.v, (.int .i64 r4.Source.Version), p6.2.2.2.2.2.2.2.2.1.v, (.int .i64 r4.Cache.Age), (.int .i64 r4.Now), p6.2.2.2.2.2.2.2.2.2.2.1.v, p6.2.2.2.2.2.2.2.2.2.2.2.2.1.v, (.int .i64 r4.Spent), p6.2.2.2.2.2.2.2.2.2.2.2.2.2.2.1.v].toArray) ?_
  iterate 4 refine au ?_
  obtain ⟨r8, hx9, hF⟩ := bind_some hF
  refine Cx0 (i_IsMediator_ok _ _ _ _ _ _ _ _ _ _ hx9) (fun _ => ?_)
  iterate 2 refine au ?_
  refine Cc (fun hb15 => ?_) (fun hb15 => ?_)
  · rw [if_pos hb15] at hF
    iterate 2 refine au ?_
    refine As (.agg [p6.1.v, p6.2.2.1.v, p6.2.2.2.2.1.v, p6.2.2.2.2.2.2.1.v, (.int .i64 r4.Source.Version), p6.2.2.2.2.2.2.2.2.1.v, (.int .i64 r4.Cache.Age), (.int .i64 r4.Now), p6.2.2.2.2.2.2.2.2.2.2.1.v, p6.2.2.2.2.2.2.2.2.2.2.2.2.1.v, (.int .i64 r4.Spent), p6.2.2.2.2.2.2.2.2.2.2.2.2.2.2.1.v].toArray) ?_
    iterate 3 refine au ?_
    cases hF
    exact End_ret (p6.1, p6.2.1, p6.2.2.1, p6.2.2.2.1, p6.2.2.2.2.1, p6.2.2.2.2.2.1, p6.2.2.2.2.2.2.1, p6.2.2.2.2.2.2.2.1, p6.2.2.2.2.2.2.2.2.1, p6.2.2.2.2.2.2.2.2.2.1, p6.2.2.2.2.2.2.2.2.2.2.1, p6.2.2.2.2.2.2.2.2.2.2.2.1, p6.2.2.2.2.2.2.2.2.2.2.2.2.1, p6.2.2.2.2.2.2.2.2.2.2.2.2.2.1, p6.2.2.2.2.2.2.2.2.2.2.2.2.2.2.1, p6.2.2.2.2.2.2.2.2.2.2.2.2.2.2.2) (.cellA rfl rfl .h rfl ag51.h ty51.h.sz rfl rfl (.tmp rfl rfl .nil)) rfl (.sel (.cons (.t (.t .h)) (.cons (.t (.t .h)) (.cons (.t (.t .h)) (.cons (.t (.t .h)) (.cons (.t (.t .h)) (.cons (.t (.t .h)) (.cons (.t (.t .h)) (.cons (.t (.t .h)) .nil)))))))))
  rw [if_neg (nt hb15)] at hF
  iterate 5 refine au ?_
  refine C_at (.t (.t (.t (.t (.t (.t (.t (.t (.t (.t (.t .h))))))))))) (fun hp => V_loadA (s := 2) (l := [v0_3.v, (.int .i64 a_m.Source.Version)]) ag45.h ty45.h.sz (.tmp rfl rfl) hp.2 rfl (by decide) (Nat.le_of_ble_eq_true rfl) rfl) ?_
  refine au ?_
  obtain ⟨r11, hx12, hF⟩ := bind_some hF
  refine Cx1 (i_ApplyChange_ok _ _ _ _ _ _ _ hx12) (fun p13 => ?_)
  refine au ?_
  refine C_val (V_extract (l := [(.agg [p13.1.v, (.int .i64 r11.1.Version)].toArray), (.bool r11.2)]) (v := (.agg [p13.1.v, (.int .i64 r11.1.Version)].toArray)) (.tmp rfl rfl) rfl) ?_
  refine C_val (V_extract (l := [(.agg [p13.1.v, (.int .i64 r11.1.Version)].toArray), (.bool r11.2)]) (v := (.bool r11.2)) (.tmp rfl rfl) rfl) ?_
  refine AnW (fun k14 => ?_)
  refine As (.agg [p13.1.v, (.int .i64 r11.1.Version)].toArray) ?_
  iterate 5 refine au ?_
  refine As (.agg [p6.1.v, p6.2.2.1.v, p6.2.2.2.2.1.v, p13.1.v, (.int .i64 r11.1.Version), p6.2.2.2.2.2.2.2.2.1.v, (.int .i64 r4.Cache.Age), (.int .i64 r4.Now), p6.2.2.2.2.2.2.2.2.2.2.1.v, p6.2.2.2.2.2.2.2.2.2.2.2.2.1.v, (.int .i64 r4.Spent), p6.2.2.2.2.2.2.2.2.2.2.2.2.2.2.1.v].toArray) ?_
  iterate 4 refine au ?_
  refine As (.agg [p6.1.v, p6.2.2.1.v, p6.2.2.2.2.1.v, p13.1.v, (.int .i64 r11.1.Version), p6.2.2.2.2.2.2.2.2.1.v, (.int .i64 r4.Cache.Age), (.int .i64 r4.Now), p6.2.2.2.2.2.2.2.2.2.2.1.v, p6.2.2.2.2.2.2.2.2.2.2.2.2.1.v, (.int .i64 r4.Spent), p6.2.2.2.2.2.2.2.2.2.2.2.2.2.2.1.v].toArray) ?_
  iterate 3 refine au ?_
  cases hF
  exact End_ret (p6.1, p6.2.1, p6.2.2.1, p6.2.2.2.1, p6.2.2.2.2.1, p6.2.2.2.2.2.1, p13.1, p13.2, p6.2.2.2.2.2.2.2.2.1, p6.2.2.2.2.2.2.2.2.2.1, p6.2.2.2.2.2.2.2.2.2.2.1, p6.2.2.2.2.2.2.2.2.2.2.2.1, p6.2.2.2.2.2.2.2.2.2.2.2.2.1, p6.2.2.2.2.2.2.2.2.2.2.2.2.2.1, p6.2.2.2.2.2.2.2.2.2.2.2.2.2.2.1, p6.2.2.2.2.2.2.2.2.2.2.2.2.2.2.2) (.cellA rfl rfl .h rfl ag51.h ty51.h.sz rfl rfl (.tmp rfl rfl .nil)) rfl (.sel (.cons (.t (.t (.t (.t .h)))) (.cons (.t (.t (.t (.t .h)))) (.cons (.t (.t (.t (.t .h)))) (.cons (.t (.t (.t .h))) (.cons (.t (.t (.t (.t .h)))) (.cons (.t (.t (.t (.t .h)))) (.cons (.t (.t (.t (.t .h)))) (.cons (.t (.t (.t (.t .h)))) .nil)))))))))

/-! laws.eqIntS -/
def l_eqIntS_L1 (a_b : List Int) : List Int → Nat → Option (Bool)
  | [], k4 => some true
  | x6 :: rest5, k4 => (ix a_b (k4 : Int)).bind fun x15 =>
    if ((x6 : Int) != x15) then (
      some false)
    else (
      l_eqIntS_L1 a_b rest5 (k4 + 1))
def l_eqIntS (a_a : List Int) (a_b : List Int) : Option (Bool) :=
  if (((a_a.length : Int) : Int) != (a_b.length : Int)) then (
    some false)
  else (
    l_eqIntS_L1 a_b a_a 0)
theorem l_eqIntS_ok (a_a : List Int) (v0_0 : Sv) (a_b : List Int) (v1_0 : Sv) (R : Bool) (hF : l_eqIntS a_a a_b = some R) :
    Fw.Spec Tryz.prog 37 [v0_0.v, v1_0.v] [crd (RdS 3 rdInt) v0_0.v a_a, crd (RdS 3 rdInt) v1_0.v a_b] (fun _ : Unit => (.bool R)) (fun _ => []) := by
  refine Spec_enter (n := 26) Tryz.func37 rfl rfl (rs := [.tmp 4]) rfl rfl rfl ?_
  intro H0 F0
  unfold l_eqIntS at hF
  iterate 11 refine au ?_
  refine Cc (fun hb23 => ?_) (fun hb23 => ?_)
  · rw [if_pos hb23] at hF
    iterate 4 refine au ?_
    cases hF
    exact Er ()
  rw [if_neg (nt hb23)] at hF
  iterate 5 refine au ?_
  refine CW_block (CW_loop (m := a_a.length) (fun m2 f' cs' => ∃ (g : Fr) (k4 : Nat) (rest5 : List Int), m2 = rest5.length ∧ f' = updL g [(0, v0_0.v), (1, v1_0.v), (5, (.int .i64 (k4 : Int)))] ∧ List.drop k4 a_a = rest5 ∧ Ent cs' [crd (RdS 3 rdInt) v0_0.v a_a, crd (RdS 3 rdInt) v1_0.v a_b] ∧ l_eqIntS_L1 a_b rest5 k4 = some R) ⟨_, 0, _, rfl, eqA, rfl, entA, hF⟩ ?_)
  clear hF
  rintro m2 _ _ ⟨g3, k4, rest5, rfl, rfl, hd7, hE, hF⟩
  refine K_ent hE ?_
  clear hE
  refine K_pure (c := crd (RdS 3 rdInt) v0_0.v a_a) .h crd_bound (fun hbd12 => ?_)
  rcases rest5 with _ | ⟨x6, rest5⟩
  · have hk8 := List.drop_eq_nil_iff.1 hd7
    rw [l_eqIntS_L1] at hF
    iterate 7 refine au ?_
    refine CdF ?_
    iterate 8 refine au ?_
    cases hF
    exact Er ()
  obtain ⟨hk8, hx9, hd10⟩ := drop_cons hd7
  rw [l_eqIntS_L1] at hF
  iterate 7 refine au ?_
  refine CdT ?_
  iterate 2 refine au ?_
  refine K_draw [0, 1, 2, 3, 4, 5, 6, 7, 8] [0, 0, 3, 7, 0, 0, 48, 112, 255] [] mixed (by decide +kernel) ?_
  iterate 2 refine du ?_
  refine Di hx9 (fun k13 j14 => ?_)
  refine Dl ls3_0 ?_
  iterate 2 refine du ?_
  obtain ⟨x15, hx16, hF⟩ := bind_some hF
  obtain ⟨hp17, hx18⟩ := ix_some hx16
  refine Di hx18 (fun k19 j20 => ?_)
  refine Dl ls3_0 ?_
  iterate 2 refine du ?_
  refine Cc (fun hb22 => ?_) (fun hb22 => ?_)
  · rw [if_pos hb22] at hF
    iterate 4 refine au ?_
    cases hF
    exact Er ()
  rw [if_neg (nt hb22)] at hF
  iterate 6 refine au ?_
  rw [wk k4]
  exact ⟨_, Nat.lt_succ_self _, _, k4 + 1, rest5, rfl, eqA, hd10, entA, hF⟩

/-! laws.eqMethod -/
def l_eqMethod (a_a : Method) (a_b : Method) : Option (Bool) :=
  if ((a_a.Rel : Int) != a_b.Rel) then (
    some false)
  else (
    (l_eqIntS a_a.Inputs a_b.Inputs).bind fun r3 =>
    if (!r3) then (
      some false)
    else (
      if ((a_a.Limit : Int) != a_b.Limit) then (
        some false)
      else (
        if ((a_a.Cost : Int) != a_b.Cost) then (
          some false)
        else (
          if ((a_a.Quota : Int) != a_b.Quota) then (
            some false)
          else (
            some true)))))
theorem l_eqMethod_ok (a_a : Method) (v0_1 : Sv) (a_b : Method) (v1_1 : Sv) (R : Bool) (hF : l_eqMethod a_a a_b = some R) :
    Fw.Spec Tryz.prog 113 [(.agg [(.int .i64 a_a.Rel), v0_1.v, (.int .i64 a_a.Limit), (.int .i64 a_a.Cost), (.int .i64 a_a.Quota)].toArray), (.agg [(.int .i64 a_b.Rel), v1_1.v, (.int .i64 a_b.Limit), (.int .i64 a_b.Cost), (.int .i64 a_b.Quota)].toArray)] [crd (RdS 3 rdInt) v0_1.v a_a.Inputs, crd (RdS 3 rdInt) v1_1.v a_b.Inputs] (fun _ : Unit => (.bool R)) (fun _ => []) := by
  refine Spec_enter (n := 31) Tryz.func113 rfl rfl (rs := [.tmp 4]) rfl rfl rfl ?_
  intro H0 F0
  unfold l_eqMethod at hF
  refine au ?_
  refine AbR (fun k1 => ?_)
  refine AbR (fun k2 => ?_)
  iterate 10 refine au ?_
  refine Cc (fun hb10 => ?_) (fun hb10 => ?_)
  · rw [if_pos hb10] at hF
    iterate 4 refine au ?_
    cases hF
    exact Er ()
  rw [if_neg (nt hb10)] at hF
  iterate 7 refine au ?_
  obtain ⟨r3, hx4, hF⟩ := bind_some hF
  refine Cx0 (l_eqIntS_ok _ _ _ _ _ hx4) (fun _ => ?_)
  iterate 2 refine au ?_
  refine Cc (fun hb9 => ?_) (fun hb9 => ?_)
  · rw [if_pos hb9] at hF
    iterate 4 refine au ?_
    cases hF
    exact Er ()
  rw [if_neg (nt hb9)] at hF
  iterate 9 refine au ?_
  refine Cc (fun hb8 => ?_) (fun hb8 => ?_)
  · rw [if_pos hb8] at hF
    iterate 4 refine au ?_
    cases hF
    exact Er ()
  rw [if_neg (nt hb8)] at hF
  iterate 9 refine au ?_
  refine Cc (fun hb7 => ?_) (fun hb7 => ?_)
  · rw [if_pos hb7] at hF
    iterate 4 refine au ?_
    cases hF
    exact Er ()
  rw [if_neg (nt hb7)] at hF
  iterate 9 refine au ?_
  refine Cc (fun hb6 => ?_) (fun hb6 => ?_)
  · rw [if_pos hb6] at hF
    iterate 4 refine au ?_
    cases hF
    exact Er ()
  rw [if_neg (nt hb6)] at hF
  iterate 5 refine au ?_
  cases hF
  exact Er ()

/-! laws.eqMethodS -/
def l_eqMethodS_L1 (a_b : List Method) : List Method → Nat → Option (Bool)
  | [], k4 => some true
  | x6 :: rest5, k4 => (ix a_b (k4 : Int)).bind fun x16 =>
    (l_eqMethod x6 x16).bind fun r23 =>
    if (!r23) then (
      some false)
    else (
      l_eqMethodS_L1 a_b rest5 (k4 + 1))
def l_eqMethodS (a_a : List Method) (a_b : List Method) : Option (Bool) :=
  if (((a_a.length : Int) : Int) != (a_b.length : Int)) then (
    some false)
  else (
    l_eqMethodS_L1 a_b a_a 0)
theorem l_eqMethodS_ok (a_a : List Method) (v0_0 : Sv) (a_b : List Method) (v1_0 : Sv) (R : Bool) (hF : l_eqMethodS a_a a_b = some R) :
    Fw.Spec Tryz.prog 38 [v0_0.v, v1_0.v] [crd (RdS 114 rd114) v0_0.v a_a, crd (RdS 114 rd114) v1_0.v a_b] (fun _ : Unit => (.bool R)) (fun _ => []) := by
  refine Spec_enter (n := 27) Tryz.func38 rfl rfl (rs := [.tmp 4]) rfl rfl rfl ?_
  intro H0 F0
  unfold l_eqMethodS at hF
  iterate 11 refine au ?_
  refine Cc (fun hb28 => ?_) (fun hb28 => ?_)
  · rw [if_pos hb28] at hF
    iterate 4 refine au ?_
    cases hF
    exact Er ()
  rw [if_neg (nt hb28)] at hF
  iterate 5 refine au ?_
  refine CW_block (CW_loop (m := a_a.length) (fun m2 f' cs' => ∃ (g : Fr) (k4 : Nat) (rest5 : List Method), m2 = rest5.length ∧ f' = updL g [(0, v0_0.v), (1, v1_0.v), (5, (.int .i64 (k4 : Int)))] ∧ List.drop k4 a_a = rest5 ∧ Ent cs' [crd (RdS 114 rd114) v0_0.v a_a, crd (RdS 114 rd114) v1_0.v a_b] ∧ l_eqMethodS_L1 a_b rest5 k4 = some R) ⟨_, 0, _, rfl, eqA, rfl, entA, hF⟩ ?_)
  clear hF
  rintro m2 _ _ ⟨g3, k4, rest5, rfl, rfl, hd7, hE, hF⟩
  refine K_ent hE ?_
  clear hE
  refine K_pure (c := crd (RdS 114 rd114) v0_0.v a_a) .h crd_bound (fun hbd12 => ?_)
  rcases rest5 with _ | ⟨x6, rest5⟩
  · have hk8 := List.drop_eq_nil_iff.1 hd7
    rw [l_eqMethodS_L1] at hF
    iterate 7 refine au ?_
    refine CdF ?_
    iterate 8 refine au ?_
    cases hF
    exact Er ()
  obtain ⟨hk8, hx9, hd10⟩ := drop_cons hd7
  rw [l_eqMethodS_L1] at hF
  iterate 7 refine au ?_
  refine CdT ?_
  iterate 2 refine au ?_
  refine K_draw [0, 1, 2, 3, 4, 5, 6, 7, 8, 9] [0, 0, 3, 7, 0, 0, 48, 112, 255, 511] [8] mixed (by decide +kernel) ?_
  iterate 2 refine du ?_
  refine Di hx9 (fun k13 j14 => ?_)
  refine DlA1 (ul114_0_114 x6) la114_0_114 (fun p15 => ?_)
  iterate 2 refine du ?_
  obtain ⟨x16, hx17, hF⟩ := bind_some hF
  obtain ⟨hp18, hx19⟩ := ix_some hx17
  refine Di hx19 (fun k20 j21 => ?_)
  refine DlA1 (ul114_0_114 x16) la114_0_114 (fun p22 => ?_)
  obtain ⟨r23, hx24, hF⟩ := bind_some hF
  refine Dx0 (l_eqMethod_ok _ _ _ _ _ hx24) (fun _ => ?_)
  iterate 2 refine du ?_
  refine Cc (fun hb27 => ?_) (fun hb27 => ?_)
  · rw [if_pos hb27] at hF
    iterate 4 refine au ?_
    cases hF
    exact Er ()
  rw [if_neg (nt hb27)] at hF
  iterate 6 refine au ?_
  rw [wk k4]
  exact ⟨_, Nat.lt_succ_self _, _, k4 + 1, rest5, rfl, eqA, hd10, entA, hF⟩

/-! laws.eqRule -/
def l_eqRule (a_a : Rule) (a_b : Rule) : Option (Bool) :=
  if ((a_a.From : Int) != a_b.From) then (
    some false)
  else (
    if ((a_a.To : Int) != a_b.To) then (
      some false)
    else (
      (l_eqIntS a_a.Map a_b.Map).bind fun r3 =>
      if (!r3) then (
        some false)
      else (
        some true)))
theorem l_eqRule_ok (a_a : Rule) (v0_2 : Sv) (a_b : Rule) (v1_2 : Sv) (R : Bool) (hF : l_eqRule a_a a_b = some R) :
    Fw.Spec Tryz.prog 114 [(.agg [(.int .i64 a_a.From), (.int .i64 a_a.To), v0_2.v].toArray), (.agg [(.int .i64 a_b.From), (.int .i64 a_b.To), v1_2.v].toArray)] [crd (RdS 3 rdInt) v0_2.v a_a.Map, crd (RdS 3 rdInt) v1_2.v a_b.Map] (fun _ : Unit => (.bool R)) (fun _ => []) := by
  refine Spec_enter (n := 21) Tryz.func114 rfl rfl (rs := [.tmp 4]) rfl rfl rfl ?_
  intro H0 F0
  unfold l_eqRule at hF
  refine au ?_
  refine AbR (fun k1 => ?_)
  refine AbR (fun k2 => ?_)
  iterate 10 refine au ?_
  refine Cc (fun hb8 => ?_) (fun hb8 => ?_)
  · rw [if_pos hb8] at hF
    iterate 4 refine au ?_
    cases hF
    exact Er ()
  rw [if_neg (nt hb8)] at hF
  iterate 9 refine au ?_
  refine Cc (fun hb7 => ?_) (fun hb7 => ?_)
  · rw [if_pos hb7] at hF
    iterate 4 refine au ?_
    cases hF
    exact Er ()
  rw [if_neg (nt hb7)] at hF
  iterate 7 refine au ?_
  obtain ⟨r3, hx4, hF⟩ := bind_some hF
  refine Cx0 (l_eqIntS_ok _ _ _ _ _ hx4) (fun _ => ?_)
  iterate 2 refine au ?_
  refine Cc (fun hb6 => ?_) (fun hb6 => ?_)
  · rw [if_pos hb6] at hF
    iterate 4 refine au ?_
    cases hF
    exact Er ()
  rw [if_neg (nt hb6)] at hF
  iterate 5 refine au ?_
  cases hF
  exact Er ()

/-! laws.eqRuleS -/
def l_eqRuleS_L1 (a_b : List Rule) : List Rule → Nat → Option (Bool)
  | [], k4 => some true
  | x6 :: rest5, k4 => (ix a_b (k4 : Int)).bind fun x16 =>
    (l_eqRule x6 x16).bind fun r23 =>
    if (!r23) then (
      some false)
    else (
      l_eqRuleS_L1 a_b rest5 (k4 + 1))
def l_eqRuleS (a_a : List Rule) (a_b : List Rule) : Option (Bool) :=
  if (((a_a.length : Int) : Int) != (a_b.length : Int)) then (
    some false)
  else (
    l_eqRuleS_L1 a_b a_a 0)
theorem l_eqRuleS_ok (a_a : List Rule) (v0_0 : Sv) (a_b : List Rule) (v1_0 : Sv) (R : Bool) (hF : l_eqRuleS a_a a_b = some R) :
    Fw.Spec Tryz.prog 39 [v0_0.v, v1_0.v] [crd (RdS 116 rd116) v0_0.v a_a, crd (RdS 116 rd116) v1_0.v a_b] (fun _ : Unit => (.bool R)) (fun _ => []) := by
  refine Spec_enter (n := 27) Tryz.func39 rfl rfl (rs := [.tmp 4]) rfl rfl rfl ?_
  intro H0 F0
  unfold l_eqRuleS at hF
  iterate 11 refine au ?_
  refine Cc (fun hb28 => ?_) (fun hb28 => ?_)
  · rw [if_pos hb28] at hF
    iterate 4 refine au ?_
    cases hF
    exact Er ()
  rw [if_neg (nt hb28)] at hF
  iterate 5 refine au ?_
  refine CW_block (CW_loop (m := a_a.length) (fun m2 f' cs' => ∃ (g : Fr) (k4 : Nat) (rest5 : List Rule), m2 = rest5.length ∧ f' = updL g [(0, v0_0.v), (1, v1_0.v), (5, (.int .i64 (k4 : Int)))] ∧ List.drop k4 a_a = rest5 ∧ Ent cs' [crd (RdS 116 rd116) v0_0.v a_a, crd (RdS 116 rd116) v1_0.v a_b] ∧ l_eqRuleS_L1 a_b rest5 k4 = some R) ⟨_, 0, _, rfl, eqA, rfl, entA, hF⟩ ?_)
  clear hF
  rintro m2 _ _ ⟨g3, k4, rest5, rfl, rfl, hd7, hE, hF⟩
  refine K_ent hE ?_
  clear hE
  refine K_pure (c := crd (RdS 116 rd116) v0_0.v a_a) .h crd_bound (fun hbd12 => ?_)
  rcases rest5 with _ | ⟨x6, rest5⟩
  · have hk8 := List.drop_eq_nil_iff.1 hd7
    rw [l_eqRuleS_L1] at hF
    iterate 7 refine au ?_
    refine CdF ?_
    iterate 8 refine au ?_
    cases hF
    exact Er ()
  obtain ⟨hk8, hx9, hd10⟩ := drop_cons hd7
  rw [l_eqRuleS_L1] at hF
  iterate 7 refine au ?_
  refine CdT ?_
  iterate 2 refine au ?_
  refine K_draw [0, 1, 2, 3, 4, 5, 6, 7, 8, 9] [0, 0, 3, 7, 0, 0, 48, 112, 255, 511] [8] mixed (by decide +kernel) ?_
  iterate 2 refine du ?_
  refine Di hx9 (fun k13 j14 => ?_)
  refine DlA1 (ul116_0_116 x6) la116_0_116 (fun p15 => ?_)
  iterate 2 refine du ?_
  obtain ⟨x16, hx17, hF⟩ := bind_some hF
  obtain ⟨hp18, hx19⟩ := ix_some hx17
  refine Di hx19 (fun k20 j21 => ?_)
  refine DlA1 (ul116_0_116 x16) la116_0_116 (fun p22 => ?_)
  obtain ⟨r23, hx24, hF⟩ := bind_some hF
  refine Dx0 (l_eqRule_ok _ _ _ _ _ hx24) (fun _ => ?_)
  iterate 2 refine du ?_
  refine Cc (fun hb27 => ?_) (fun hb27 => ?_)
  · rw [if_pos hb27] at hF
    iterate 4 refine au ?_
    cases hF
    exact Er ()
  rw [if_neg (nt hb27)] at hF
  iterate 6 refine au ?_
  rw [wk k4]
  exact ⟨_, Nat.lt_succ_self _, _, k4 + 1, rest5, rfl, eqA, hd10, entA, hF⟩

/-! laws.eqFact -/
def l_eqFact (a_a : Fact) (a_b : Fact) : Option (Bool) :=
  if ((a_a.Rel : Int) != a_b.Rel) then (
    some false)
  else (
    (l_eqIntS a_a.Values a_b.Values).bind fun r3 =>
    if (!r3) then (
      some false)
    else (
      some true))
theorem l_eqFact_ok (a_a : Fact) (v0_1 : Sv) (a_b : Fact) (v1_1 : Sv) (R : Bool) (hF : l_eqFact a_a a_b = some R) :
    Fw.Spec Tryz.prog 44 [(.agg [(.int .i64 a_a.Rel), v0_1.v].toArray), (.agg [(.int .i64 a_b.Rel), v1_1.v].toArray)] [crd (RdS 3 rdInt) v0_1.v a_a.Values, crd (RdS 3 rdInt) v1_1.v a_b.Values] (fun _ : Unit => (.bool R)) (fun _ => []) := by
  refine Spec_enter (n := 16) Tryz.func44 rfl rfl (rs := [.tmp 4]) rfl rfl rfl ?_
  intro H0 F0
  unfold l_eqFact at hF
  refine au ?_
  refine AbR (fun k1 => ?_)
  refine AbR (fun k2 => ?_)
  iterate 10 refine au ?_
  refine Cc (fun hb7 => ?_) (fun hb7 => ?_)
  · rw [if_pos hb7] at hF
    iterate 4 refine au ?_
    cases hF
    exact Er ()
  rw [if_neg (nt hb7)] at hF
  iterate 7 refine au ?_
  obtain ⟨r3, hx4, hF⟩ := bind_some hF
  refine Cx0 (l_eqIntS_ok _ _ _ _ _ hx4) (fun _ => ?_)
  iterate 2 refine au ?_
  refine Cc (fun hb6 => ?_) (fun hb6 => ?_)
  · rw [if_pos hb6] at hF
    iterate 4 refine au ?_
    cases hF
    exact Er ()
  rw [if_neg (nt hb6)] at hF
  iterate 5 refine au ?_
  cases hF
  exact Er ()

/-! laws.eqFactS -/
def l_eqFactS_L1 (a_b : List Fact) : List Fact → Nat → Option (Bool)
  | [], k4 => some true
  | x6 :: rest5, k4 => (ix a_b (k4 : Int)).bind fun x16 =>
    (l_eqFact x6 x16).bind fun r23 =>
    if (!r23) then (
      some false)
    else (
      l_eqFactS_L1 a_b rest5 (k4 + 1))
def l_eqFactS (a_a : List Fact) (a_b : List Fact) : Option (Bool) :=
  if (((a_a.length : Int) : Int) != (a_b.length : Int)) then (
    some false)
  else (
    l_eqFactS_L1 a_b a_a 0)
theorem l_eqFactS_ok (a_a : List Fact) (v0_0 : Sv) (a_b : List Fact) (v1_0 : Sv) (R : Bool) (hF : l_eqFactS a_a a_b = some R) :
    Fw.Spec Tryz.prog 115 [v0_0.v, v1_0.v] [crd (RdS 55 rd55) v0_0.v a_a, crd (RdS 55 rd55) v1_0.v a_b] (fun _ : Unit => (.bool R)) (fun _ => []) := by
  refine Spec_enter (n := 27) Tryz.func115 rfl rfl (rs := [.tmp 4]) rfl rfl rfl ?_
  intro H0 F0
  unfold l_eqFactS at hF
  iterate 11 refine au ?_
  refine Cc (fun hb28 => ?_) (fun hb28 => ?_)
  · rw [if_pos hb28] at hF
    iterate 4 refine au ?_
    cases hF
    exact Er ()
  rw [if_neg (nt hb28)] at hF
  iterate 5 refine au ?_
  refine CW_block (CW_loop (m := a_a.length) (fun m2 f' cs' => ∃ (g : Fr) (k4 : Nat) (rest5 : List Fact), m2 = rest5.length ∧ f' = updL g [(0, v0_0.v), (1, v1_0.v), (5, (.int .i64 (k4 : Int)))] ∧ List.drop k4 a_a = rest5 ∧ Ent cs' [crd (RdS 55 rd55) v0_0.v a_a, crd (RdS 55 rd55) v1_0.v a_b] ∧ l_eqFactS_L1 a_b rest5 k4 = some R) ⟨_, 0, _, rfl, eqA, rfl, entA, hF⟩ ?_)
  clear hF
  rintro m2 _ _ ⟨g3, k4, rest5, rfl, rfl, hd7, hE, hF⟩
  refine K_ent hE ?_
  clear hE
  refine K_pure (c := crd (RdS 55 rd55) v0_0.v a_a) .h crd_bound (fun hbd12 => ?_)
  rcases rest5 with _ | ⟨x6, rest5⟩
  · have hk8 := List.drop_eq_nil_iff.1 hd7
    rw [l_eqFactS_L1] at hF
    iterate 7 refine au ?_
    refine CdF ?_
    iterate 8 refine au ?_
    cases hF
    exact Er ()
  obtain ⟨hk8, hx9, hd10⟩ := drop_cons hd7
  rw [l_eqFactS_L1] at hF
  iterate 7 refine au ?_
  refine CdT ?_
  iterate 2 refine au ?_
  refine K_draw [0, 1, 2, 3, 4, 5, 6, 7, 8, 9] [0, 0, 3, 7, 0, 0, 48, 112, 255, 511] [8] mixed (by decide +kernel) ?_
  iterate 2 refine du ?_
  refine Di hx9 (fun k13 j14 => ?_)
  refine DlA1 (ul55_0_55 x6) la55_0_55 (fun p15 => ?_)
  iterate 2 refine du ?_
  obtain ⟨x16, hx17, hF⟩ := bind_some hF
  obtain ⟨hp18, hx19⟩ := ix_some hx17
  refine Di hx19 (fun k20 j21 => ?_)
  refine DlA1 (ul55_0_55 x16) la55_0_55 (fun p22 => ?_)
  obtain ⟨r23, hx24, hF⟩ := bind_some hF
  refine Dx0 (l_eqFact_ok _ _ _ _ _ hx24) (fun _ => ?_)
  iterate 2 refine du ?_
  refine Cc (fun hb27 => ?_) (fun hb27 => ?_)
  · rw [if_pos hb27] at hF
    iterate 4 refine au ?_
    cases hF
    exact Er ()
  rw [if_neg (nt hb27)] at hF
  iterate 6 refine au ?_
  rw [wk k4]
  exact ⟨_, Nat.lt_succ_self _, _, k4 + 1, rest5, rfl, eqA, hd10, entA, hF⟩

/-! laws.eqSource -/
def l_eqSource (a_a : Source) (a_b : Source) : Option (Bool) :=
  (l_eqFactS a_a.Facts a_b.Facts).bind fun r3 =>
  if (!r3) then (
    some false)
  else (
    if ((a_a.Version : Int) != a_b.Version) then (
      some false)
    else (
      some true))
theorem l_eqSource_ok (a_a : Source) (v0_0 : Sv) (a_b : Source) (v1_0 : Sv) (R : Bool) (hF : l_eqSource a_a a_b = some R) :
    Fw.Spec Tryz.prog 40 [(.agg [v0_0.v, (.int .i64 a_a.Version)].toArray), (.agg [v1_0.v, (.int .i64 a_b.Version)].toArray)] [crd (RdS 55 rd55) v0_0.v a_a.Facts, crd (RdS 55 rd55) v1_0.v a_b.Facts] (fun _ : Unit => (.bool R)) (fun _ => []) := by
  refine Spec_enter (n := 16) Tryz.func40 rfl rfl (rs := [.tmp 4]) rfl rfl rfl ?_
  intro H0 F0
  unfold l_eqSource at hF
  refine au ?_
  refine AbR (fun k1 => ?_)
  refine AbR (fun k2 => ?_)
  iterate 8 refine au ?_
  obtain ⟨r3, hx4, hF⟩ := bind_some hF
  refine Cx0 (l_eqFactS_ok _ _ _ _ _ hx4) (fun _ => ?_)
  iterate 2 refine au ?_
  refine Cc (fun hb7 => ?_) (fun hb7 => ?_)
  · rw [if_pos hb7] at hF
    iterate 4 refine au ?_
    cases hF
    exact Er ()
  rw [if_neg (nt hb7)] at hF
  iterate 9 refine au ?_
  refine Cc (fun hb6 => ?_) (fun hb6 => ?_)
  · rw [if_pos hb6] at hF
    iterate 4 refine au ?_
    cases hF
    exact Er ()
  rw [if_neg (nt hb6)] at hF
  iterate 5 refine au ?_
  cases hF
  exact Er ()

/-! laws.eqAccess -/
def l_eqAccess (a_a : Access) (a_b : Access) : Option (Bool) :=
  if ((a_a.Method : Int) != a_b.Method) then (
    some false)
  else (
    (l_eqIntS a_a.Values a_b.Values).bind fun r3 =>
    if (!r3) then (
      some false)
    else (
      some true))
theorem l_eqAccess_ok (a_a : Access) (v0_1 : Sv) (a_b : Access) (v1_1 : Sv) (R : Bool) (hF : l_eqAccess a_a a_b = some R) :
    Fw.Spec Tryz.prog 117 [(.agg [(.int .i64 a_a.Method), v0_1.v].toArray), (.agg [(.int .i64 a_b.Method), v1_1.v].toArray)] [crd (RdS 3 rdInt) v0_1.v a_a.Values, crd (RdS 3 rdInt) v1_1.v a_b.Values] (fun _ : Unit => (.bool R)) (fun _ => []) := by
  refine Spec_enter (n := 16) Tryz.func117 rfl rfl (rs := [.tmp 4]) rfl rfl rfl ?_
  intro H0 F0
  unfold l_eqAccess at hF
  refine au ?_
  refine AbR (fun k1 => ?_)
  refine AbR (fun k2 => ?_)
  iterate 10 refine au ?_
  refine Cc (fun hb7 => ?_) (fun hb7 => ?_)
  · rw [if_pos hb7] at hF
    iterate 4 refine au ?_
    cases hF
    exact Er ()
  rw [if_neg (nt hb7)] at hF
  iterate 7 refine au ?_
  obtain ⟨r3, hx4, hF⟩ := bind_some hF
  refine Cx0 (l_eqIntS_ok _ _ _ _ _ hx4) (fun _ => ?_)
  iterate 2 refine au ?_
  refine Cc (fun hb6 => ?_) (fun hb6 => ?_)
  · rw [if_pos hb6] at hF
    iterate 4 refine au ?_
    cases hF
    exact Er ()
  rw [if_neg (nt hb6)] at hF
  iterate 5 refine au ?_
  cases hF
  exact Er ()

/-! laws.eqStored -/
def l_eqStored (a_a : Stored) (a_b : Stored) : Option (Bool) :=
  (l_eqAccess a_a.Access a_b.Access).bind fun r3 =>
  if (!r3) then (
    some false)
  else (
    (l_eqFactS a_a.Facts a_b.Facts).bind fun r6 =>
    if (!r6) then (
      some false)
    else (
      if ((a_a.At : Int) != a_b.At) then (
        some false)
      else (
        some true)))
theorem l_eqStored_ok (a_a : Stored) (v0_1 : Sv) (v0_2 : Sv) (a_b : Stored) (v1_1 : Sv) (v1_2 : Sv) (R : Bool) (hF : l_eqStored a_a a_b = some R) :
    Fw.Spec Tryz.prog 164 [(.agg [(.int .i64 a_a.Access.Method), v0_1.v, v0_2.v, (.int .i64 a_a.At)].toArray), (.agg [(.int .i64 a_b.Access.Method), v1_1.v, v1_2.v, (.int .i64 a_b.At)].toArray)] [crd (RdS 3 rdInt) v0_1.v a_a.Access.Values, crd (RdS 55 rd55) v0_2.v a_a.Facts, crd (RdS 3 rdInt) v1_1.v a_b.Access.Values, crd (RdS 55 rd55) v1_2.v a_b.Facts] (fun _ : Unit => (.bool R)) (fun _ => []) := by
  refine Spec_enter (n := 22) Tryz.func164 rfl rfl (rs := [.tmp 4]) rfl rfl rfl ?_
  intro H0 F0
  unfold l_eqStored at hF
  refine au ?_
  refine AbR (fun k1 => ?_)
  refine AbR (fun k2 => ?_)
  iterate 5 refine au ?_
  refine C_at (.t .h) (fun hp => V_loadA (s := 2) (l := [(.int .i64 a_a.Access.Method), v0_1.v]) ag124.h ty124.h.sz (.tmp rfl rfl) hp.2 rfl (by decide) (Nat.le_of_ble_eq_true rfl) rfl) ?_
  refine au ?_
  refine C_at .h (fun hp => V_loadA (s := 2) (l := [(.int .i64 a_b.Access.Method), v1_1.v]) ag124.h ty124.h.sz (.tmp rfl rfl) hp.2 rfl (by decide) (Nat.le_of_ble_eq_true rfl) rfl) ?_
  obtain ⟨r3, hx4, hF⟩ := bind_some hF
  refine Cx0 (l_eqAccess_ok _ _ _ _ _ hx4) (fun _ => ?_)
  iterate 2 refine au ?_
  refine Cc (fun hb11 => ?_) (fun hb11 => ?_)
  · rw [if_pos hb11] at hF
    iterate 4 refine au ?_
    cases hF
    exact Er ()
  rw [if_neg (nt hb11)] at hF
  iterate 7 refine au ?_
  obtain ⟨r6, hx7, hF⟩ := bind_some hF
  refine Cx0 (l_eqFactS_ok _ _ _ _ _ hx7) (fun _ => ?_)
  iterate 2 refine au ?_
  refine Cc (fun hb10 => ?_) (fun hb10 => ?_)
  · rw [if_pos hb10] at hF
    iterate 4 refine au ?_
    cases hF
    exact Er ()
  rw [if_neg (nt hb10)] at hF
  iterate 9 refine au ?_
  refine Cc (fun hb9 => ?_) (fun hb9 => ?_)
  · rw [if_pos hb9] at hF
    iterate 4 refine au ?_
    cases hF
    exact Er ()
  rw [if_neg (nt hb9)] at hF
  iterate 5 refine au ?_
  cases hF
  exact Er ()

/-! laws.eqStoredS -/
def l_eqStoredS_L1 (a_b : List Stored) : List Stored → Nat → Option (Bool)
  | [], k4 => some true
  | x6 :: rest5, k4 => (ix a_b (k4 : Int)).bind fun x16 =>
    (l_eqStored x6 x16).bind fun r23 =>
    if (!r23) then (
      some false)
    else (
      l_eqStoredS_L1 a_b rest5 (k4 + 1))
def l_eqStoredS (a_a : List Stored) (a_b : List Stored) : Option (Bool) :=
  if (((a_a.length : Int) : Int) != (a_b.length : Int)) then (
    some false)
  else (
    l_eqStoredS_L1 a_b a_a 0)
theorem l_eqStoredS_ok (a_a : List Stored) (v0_0 : Sv) (a_b : List Stored) (v1_0 : Sv) (R : Bool) (hF : l_eqStoredS a_a a_b = some R) :
    Fw.Spec Tryz.prog 116 [v0_0.v, v1_0.v] [crd (RdS 156 rd156) v0_0.v a_a, crd (RdS 156 rd156) v1_0.v a_b] (fun _ : Unit => (.bool R)) (fun _ => []) := by
  refine Spec_enter (n := 27) Tryz.func116 rfl rfl (rs := [.tmp 4]) rfl rfl rfl ?_
  intro H0 F0
  unfold l_eqStoredS at hF
  iterate 11 refine au ?_
  refine Cc (fun hb28 => ?_) (fun hb28 => ?_)
  · rw [if_pos hb28] at hF
    iterate 4 refine au ?_
    cases hF
    exact Er ()
  rw [if_neg (nt hb28)] at hF
  iterate 5 refine au ?_
  refine CW_block (CW_loop (m := a_a.length) (fun m2 f' cs' => ∃ (g : Fr) (k4 : Nat) (rest5 : List Stored), m2 = rest5.length ∧ f' = updL g [(0, v0_0.v), (1, v1_0.v), (5, (.int .i64 (k4 : Int)))] ∧ List.drop k4 a_a = rest5 ∧ Ent cs' [crd (RdS 156 rd156) v0_0.v a_a, crd (RdS 156 rd156) v1_0.v a_b] ∧ l_eqStoredS_L1 a_b rest5 k4 = some R) ⟨_, 0, _, rfl, eqA, rfl, entA, hF⟩ ?_)
  clear hF
  rintro m2 _ _ ⟨g3, k4, rest5, rfl, rfl, hd7, hE, hF⟩
  refine K_ent hE ?_
  clear hE
  refine K_pure (c := crd (RdS 156 rd156) v0_0.v a_a) .h crd_bound (fun hbd12 => ?_)
  rcases rest5 with _ | ⟨x6, rest5⟩
  · have hk8 := List.drop_eq_nil_iff.1 hd7
    rw [l_eqStoredS_L1] at hF
    iterate 7 refine au ?_
    refine CdF ?_
    iterate 8 refine au ?_
    cases hF
    exact Er ()
  obtain ⟨hk8, hx9, hd10⟩ := drop_cons hd7
  rw [l_eqStoredS_L1] at hF
  iterate 7 refine au ?_
  refine CdT ?_
  iterate 2 refine au ?_
  refine K_draw [0, 1, 2, 3, 4, 5, 6, 7, 8, 9] [0, 0, 3, 7, 0, 0, 48, 112, 255, 511] [8] mixed (by decide +kernel) ?_
  iterate 2 refine du ?_
  refine Di hx9 (fun k13 j14 => ?_)
  refine DlA2 (ul156_0_156 x6) la156_0_156 (fun p15 => ?_)
  iterate 2 refine du ?_
  obtain ⟨x16, hx17, hF⟩ := bind_some hF
  obtain ⟨hp18, hx19⟩ := ix_some hx17
  refine Di hx19 (fun k20 j21 => ?_)
  refine DlA2 (ul156_0_156 x16) la156_0_156 (fun p22 => ?_)
  obtain ⟨r23, hx24, hF⟩ := bind_some hF
  refine Dx0 (l_eqStored_ok _ _ _ _ _ _ _ hx24) (fun _ => ?_)
  iterate 2 refine du ?_
  refine Cc (fun hb27 => ?_) (fun hb27 => ?_)
  · rw [if_pos hb27] at hF
    iterate 4 refine au ?_
    cases hF
    exact Er ()
  rw [if_neg (nt hb27)] at hF
  iterate 6 refine au ?_
  rw [wk k4]
  exact ⟨_, Nat.lt_succ_self _, _, k4 + 1, rest5, rfl, eqA, hd10, entA, hF⟩

/-! laws.eqCache -/
def l_eqCache (a_a : Cache) (a_b : Cache) : Option (Bool) :=
  (l_eqStoredS a_a.Entries a_b.Entries).bind fun r3 =>
  if (!r3) then (
    some false)
  else (
    if ((a_a.Age : Int) != a_b.Age) then (
      some false)
    else (
      some true))
theorem l_eqCache_ok (a_a : Cache) (v0_0 : Sv) (a_b : Cache) (v1_0 : Sv) (R : Bool) (hF : l_eqCache a_a a_b = some R) :
    Fw.Spec Tryz.prog 41 [(.agg [v0_0.v, (.int .i64 a_a.Age)].toArray), (.agg [v1_0.v, (.int .i64 a_b.Age)].toArray)] [crd (RdS 156 rd156) v0_0.v a_a.Entries, crd (RdS 156 rd156) v1_0.v a_b.Entries] (fun _ : Unit => (.bool R)) (fun _ => []) := by
  refine Spec_enter (n := 16) Tryz.func41 rfl rfl (rs := [.tmp 4]) rfl rfl rfl ?_
  intro H0 F0
  unfold l_eqCache at hF
  refine au ?_
  refine AbR (fun k1 => ?_)
  refine AbR (fun k2 => ?_)
  iterate 8 refine au ?_
  obtain ⟨r3, hx4, hF⟩ := bind_some hF
  refine Cx0 (l_eqStoredS_ok _ _ _ _ _ hx4) (fun _ => ?_)
  iterate 2 refine au ?_
  refine Cc (fun hb7 => ?_) (fun hb7 => ?_)
  · rw [if_pos hb7] at hF
    iterate 4 refine au ?_
    cases hF
    exact Er ()
  rw [if_neg (nt hb7)] at hF
  iterate 9 refine au ?_
  refine Cc (fun hb6 => ?_) (fun hb6 => ?_)
  · rw [if_pos hb6] at hF
    iterate 4 refine au ?_
    cases hF
    exact Er ()
  rw [if_neg (nt hb6)] at hF
  iterate 5 refine au ?_
  cases hF
  exact Er ()

/-! laws.eqAccessS -/
def l_eqAccessS_L1 (a_b : List Access) : List Access → Nat → Option (Bool)
  | [], k4 => some true
  | x6 :: rest5, k4 => (ix a_b (k4 : Int)).bind fun x16 =>
    (l_eqAccess x6 x16).bind fun r23 =>
    if (!r23) then (
      some false)
    else (
      l_eqAccessS_L1 a_b rest5 (k4 + 1))
def l_eqAccessS (a_a : List Access) (a_b : List Access) : Option (Bool) :=
  if (((a_a.length : Int) : Int) != (a_b.length : Int)) then (
    some false)
  else (
    l_eqAccessS_L1 a_b a_a 0)
theorem l_eqAccessS_ok (a_a : List Access) (v0_0 : Sv) (a_b : List Access) (v1_0 : Sv) (R : Bool) (hF : l_eqAccessS a_a a_b = some R) :
    Fw.Spec Tryz.prog 42 [v0_0.v, v1_0.v] [crd (RdS 124 rd124) v0_0.v a_a, crd (RdS 124 rd124) v1_0.v a_b] (fun _ : Unit => (.bool R)) (fun _ => []) := by
  refine Spec_enter (n := 27) Tryz.func42 rfl rfl (rs := [.tmp 4]) rfl rfl rfl ?_
  intro H0 F0
  unfold l_eqAccessS at hF
  iterate 11 refine au ?_
  refine Cc (fun hb28 => ?_) (fun hb28 => ?_)
  · rw [if_pos hb28] at hF
    iterate 4 refine au ?_
    cases hF
    exact Er ()
  rw [if_neg (nt hb28)] at hF
  iterate 5 refine au ?_
  refine CW_block (CW_loop (m := a_a.length) (fun m2 f' cs' => ∃ (g : Fr) (k4 : Nat) (rest5 : List Access), m2 = rest5.length ∧ f' = updL g [(0, v0_0.v), (1, v1_0.v), (5, (.int .i64 (k4 : Int)))] ∧ List.drop k4 a_a = rest5 ∧ Ent cs' [crd (RdS 124 rd124) v0_0.v a_a, crd (RdS 124 rd124) v1_0.v a_b] ∧ l_eqAccessS_L1 a_b rest5 k4 = some R) ⟨_, 0, _, rfl, eqA, rfl, entA, hF⟩ ?_)
  clear hF
  rintro m2 _ _ ⟨g3, k4, rest5, rfl, rfl, hd7, hE, hF⟩
  refine K_ent hE ?_
  clear hE
  refine K_pure (c := crd (RdS 124 rd124) v0_0.v a_a) .h crd_bound (fun hbd12 => ?_)
  rcases rest5 with _ | ⟨x6, rest5⟩
  · have hk8 := List.drop_eq_nil_iff.1 hd7
    rw [l_eqAccessS_L1] at hF
    iterate 7 refine au ?_
    refine CdF ?_
    iterate 8 refine au ?_
    cases hF
    exact Er ()
  obtain ⟨hk8, hx9, hd10⟩ := drop_cons hd7
  rw [l_eqAccessS_L1] at hF
  iterate 7 refine au ?_
  refine CdT ?_
  iterate 2 refine au ?_
  refine K_draw [0, 1, 2, 3, 4, 5, 6, 7, 8, 9] [0, 0, 3, 7, 0, 0, 48, 112, 255, 511] [8] mixed (by decide +kernel) ?_
  iterate 2 refine du ?_
  refine Di hx9 (fun k13 j14 => ?_)
  refine DlA1 (ul124_0_124 x6) la124_0_124 (fun p15 => ?_)
  iterate 2 refine du ?_
  obtain ⟨x16, hx17, hF⟩ := bind_some hF
  obtain ⟨hp18, hx19⟩ := ix_some hx17
  refine Di hx19 (fun k20 j21 => ?_)
  refine DlA1 (ul124_0_124 x16) la124_0_124 (fun p22 => ?_)
  obtain ⟨r23, hx24, hF⟩ := bind_some hF
  refine Dx0 (l_eqAccess_ok _ _ _ _ _ hx24) (fun _ => ?_)
  iterate 2 refine du ?_
  refine Cc (fun hb27 => ?_) (fun hb27 => ?_)
  · rw [if_pos hb27] at hF
    iterate 4 refine au ?_
    cases hF
    exact Er ()
  rw [if_neg (nt hb27)] at hF
  iterate 6 refine au ?_
  rw [wk k4]
  exact ⟨_, Nat.lt_succ_self _, _, k4 + 1, rest5, rfl, eqA, hd10, entA, hF⟩

/-! laws.eqIntSS -/
def l_eqIntSS_L1 (a_b : List (List Int)) : List (List Int) → Nat → Option (Bool)
  | [], k4 => some true
  | x6 :: rest5, k4 => (ix a_b (k4 : Int)).bind fun x16 =>
    (l_eqIntS x6 x16).bind fun r23 =>
    if (!r23) then (
      some false)
    else (
      l_eqIntSS_L1 a_b rest5 (k4 + 1))
def l_eqIntSS (a_a : List (List Int)) (a_b : List (List Int)) : Option (Bool) :=
  if (((a_a.length : Int) : Int) != (a_b.length : Int)) then (
    some false)
  else (
    l_eqIntSS_L1 a_b a_a 0)
theorem l_eqIntSS_ok (a_a : List (List Int)) (v0_0 : Sv) (a_b : List (List Int)) (v1_0 : Sv) (R : Bool) (hF : l_eqIntSS a_a a_b = some R) :
    Fw.Spec Tryz.prog 118 [v0_0.v, v1_0.v] [crd (RdS 22 (RdS 3 rdInt)) v0_0.v a_a, crd (RdS 22 (RdS 3 rdInt)) v1_0.v a_b] (fun _ : Unit => (.bool R)) (fun _ => []) := by
  refine Spec_enter (n := 27) Tryz.func118 rfl rfl (rs := [.tmp 4]) rfl rfl rfl ?_
  intro H0 F0
  unfold l_eqIntSS at hF
  iterate 11 refine au ?_
  refine Cc (fun hb28 => ?_) (fun hb28 => ?_)
  · rw [if_pos hb28] at hF
    iterate 4 refine au ?_
    cases hF
    exact Er ()
  rw [if_neg (nt hb28)] at hF
  iterate 5 refine au ?_
  refine CW_block (CW_loop (m := a_a.length) (fun m2 f' cs' => ∃ (g : Fr) (k4 : Nat) (rest5 : List (List Int)), m2 = rest5.length ∧ f' = updL g [(0, v0_0.v), (1, v1_0.v), (5, (.int .i64 (k4 : Int)))] ∧ List.drop k4 a_a = rest5 ∧ Ent cs' [crd (RdS 22 (RdS 3 rdInt)) v0_0.v a_a, crd (RdS 22 (RdS 3 rdInt)) v1_0.v a_b] ∧ l_eqIntSS_L1 a_b rest5 k4 = some R) ⟨_, 0, _, rfl, eqA, rfl, entA, hF⟩ ?_)
  clear hF
  rintro m2 _ _ ⟨g3, k4, rest5, rfl, rfl, hd7, hE, hF⟩
  refine K_ent hE ?_
  clear hE
  refine K_pure (c := crd (RdS 22 (RdS 3 rdInt)) v0_0.v a_a) .h crd_bound (fun hbd12 => ?_)
  rcases rest5 with _ | ⟨x6, rest5⟩
  · have hk8 := List.drop_eq_nil_iff.1 hd7
    rw [l_eqIntSS_L1] at hF
    iterate 7 refine au ?_
    refine CdF ?_
    iterate 8 refine au ?_
    cases hF
    exact Er ()
  obtain ⟨hk8, hx9, hd10⟩ := drop_cons hd7
  rw [l_eqIntSS_L1] at hF
  iterate 7 refine au ?_
  refine CdT ?_
  iterate 2 refine au ?_
  refine K_draw [0, 1, 2, 3, 4, 5, 6, 7, 8, 9] [0, 0, 3, 7, 0, 0, 48, 112, 255, 511] [8] mixed (by decide +kernel) ?_
  iterate 2 refine du ?_
  refine Di hx9 (fun k13 j14 => ?_)
  refine D_ldV (R' := (RdS 3 rdInt)) ag22.h rfl .no (.tmp rfl rfl) rfl .h lv22_0 (fun w15 => ?_)
  iterate 2 refine du ?_
  obtain ⟨x16, hx17, hF⟩ := bind_some hF
  obtain ⟨hp18, hx19⟩ := ix_some hx17
  refine Di hx19 (fun k20 j21 => ?_)
  refine D_ldV (R' := (RdS 3 rdInt)) ag22.h rfl .no (.tmp rfl rfl) rfl .h lv22_0 (fun w22 => ?_)
  obtain ⟨r23, hx24, hF⟩ := bind_some hF
  refine Dx0 (l_eqIntS_ok _ _ _ _ _ hx24) (fun _ => ?_)
  iterate 2 refine du ?_
  refine Cc (fun hb27 => ?_) (fun hb27 => ?_)
  · rw [if_pos hb27] at hF
    iterate 4 refine au ?_
    cases hF
    exact Er ()
  rw [if_neg (nt hb27)] at hF
  iterate 6 refine au ?_
  rw [wk k4]
  exact ⟨_, Nat.lt_succ_self _, _, k4 + 1, rest5, rfl, eqA, hd10, entA, hF⟩

/-! laws.eqIntSSS -/
def l_eqIntSSS_L1 (a_b : List (List (List Int))) : List (List (List Int)) → Nat → Option (Bool)
  | [], k4 => some true
  | x6 :: rest5, k4 => (ix a_b (k4 : Int)).bind fun x16 =>
    (l_eqIntSS x6 x16).bind fun r23 =>
    if (!r23) then (
      some false)
    else (
      l_eqIntSSS_L1 a_b rest5 (k4 + 1))
def l_eqIntSSS (a_a : List (List (List Int))) (a_b : List (List (List Int))) : Option (Bool) :=
  if (((a_a.length : Int) : Int) != (a_b.length : Int)) then (
    some false)
  else (
    l_eqIntSSS_L1 a_b a_a 0)
theorem l_eqIntSSS_ok (a_a : List (List (List Int))) (v0_0 : Sv) (a_b : List (List (List Int))) (v1_0 : Sv) (R : Bool) (hF : l_eqIntSSS a_a a_b = some R) :
    Fw.Spec Tryz.prog 43 [v0_0.v, v1_0.v] [crd (RdS 110 (RdS 22 (RdS 3 rdInt))) v0_0.v a_a, crd (RdS 110 (RdS 22 (RdS 3 rdInt))) v1_0.v a_b] (fun _ : Unit => (.bool R)) (fun _ => []) := by
  refine Spec_enter (n := 27) Tryz.func43 rfl rfl (rs := [.tmp 4]) rfl rfl rfl ?_
  intro H0 F0
  unfold l_eqIntSSS at hF
  iterate 11 refine au ?_
  refine Cc (fun hb28 => ?_) (fun hb28 => ?_)
  · rw [if_pos hb28] at hF
    iterate 4 refine au ?_
    cases hF
    exact Er ()
  rw [if_neg (nt hb28)] at hF
  iterate 5 refine au ?_
  refine CW_block (CW_loop (m := a_a.length) (fun m2 f' cs' => ∃ (g : Fr) (k4 : Nat) (rest5 : List (List (List Int))), m2 = rest5.length ∧ f' = updL g [(0, v0_0.v), (1, v1_0.v), (5, (.int .i64 (k4 : Int)))] ∧ List.drop k4 a_a = rest5 ∧ Ent cs' [crd (RdS 110 (RdS 22 (RdS 3 rdInt))) v0_0.v a_a, crd (RdS 110 (RdS 22 (RdS 3 rdInt))) v1_0.v a_b] ∧ l_eqIntSSS_L1 a_b rest5 k4 = some R) ⟨_, 0, _, rfl, eqA, rfl, entA, hF⟩ ?_)
  clear hF
  rintro m2 _ _ ⟨g3, k4, rest5, rfl, rfl, hd7, hE, hF⟩
  refine K_ent hE ?_
  clear hE
  refine K_pure (c := crd (RdS 110 (RdS 22 (RdS 3 rdInt))) v0_0.v a_a) .h crd_bound (fun hbd12 => ?_)
  rcases rest5 with _ | ⟨x6, rest5⟩
  · have hk8 := List.drop_eq_nil_iff.1 hd7
    rw [l_eqIntSSS_L1] at hF
    iterate 7 refine au ?_
    refine CdF ?_
    iterate 8 refine au ?_
    cases hF
    exact Er ()
  obtain ⟨hk8, hx9, hd10⟩ := drop_cons hd7
  rw [l_eqIntSSS_L1] at hF
  iterate 7 refine au ?_
  refine CdT ?_
  iterate 2 refine au ?_
  refine K_draw [0, 1, 2, 3, 4, 5, 6, 7, 8, 9] [0, 0, 3, 7, 0, 0, 48, 112, 255, 511] [8] mixed (by decide +kernel) ?_
  iterate 2 refine du ?_
  refine Di hx9 (fun k13 j14 => ?_)
  refine D_ldV (R' := (RdS 22 (RdS 3 rdInt))) ag110.h rfl .no (.tmp rfl rfl) rfl .h lv110_0 (fun w15 => ?_)
  iterate 2 refine du ?_
  obtain ⟨x16, hx17, hF⟩ := bind_some hF
  obtain ⟨hp18, hx19⟩ := ix_some hx17
  refine Di hx19 (fun k20 j21 => ?_)
  refine D_ldV (R' := (RdS 22 (RdS 3 rdInt))) ag110.h rfl .no (.tmp rfl rfl) rfl .h lv110_0 (fun w22 => ?_)
  obtain ⟨r23, hx24, hF⟩ := bind_some hF
  refine Dx0 (l_eqIntSS_ok _ _ _ _ _ hx24) (fun _ => ?_)
  iterate 2 refine du ?_
  refine Cc (fun hb27 => ?_) (fun hb27 => ?_)
  · rw [if_pos hb27] at hF
    iterate 4 refine au ?_
    cases hF
    exact Er ()
  rw [if_neg (nt hb27)] at hF
  iterate 6 refine au ?_
  rw [wk k4]
  exact ⟨_, Nat.lt_succ_self _, _, k4 + 1, rest5, rfl, eqA, hd10, entA, hF⟩

/-! laws.eqMediator -/
def l_eqMediator (a_a : Mediator) (a_b : Mediator) : Option (Bool) :=
  (l_eqIntS a_a.Schema a_b.Schema).bind fun r3 =>
  if (!r3) then (
    some false)
  else (
    (l_eqMethodS a_a.Methods a_b.Methods).bind fun r6 =>
    if (!r6) then (
      some false)
    else (
      (l_eqRuleS a_a.Rules a_b.Rules).bind fun r9 =>
      if (!r9) then (
        some false)
      else (
        (l_eqSource a_a.Source a_b.Source).bind fun r12 =>
        if (!r12) then (
          some false)
        else (
          (l_eqCache a_a.Cache a_b.Cache).bind fun r15 =>
          if (!r15) then (
            some false)
          else (
            if ((a_a.Now : Int) != a_b.Now) then (
              some false)
            else (
              (l_eqAccessS a_a.Log a_b.Log).bind fun r18 =>
              if (!r18) then (
                some false)
              else (
                (l_eqIntS a_a.Times a_b.Times).bind fun r21 =>
                if (!r21) then (
                  some false)
                else (
                  if ((a_a.Spent : Int) != a_b.Spent) then (
                    some false)
                  else (
                    (l_eqIntSSS a_a.Results a_b.Results).bind fun r24 =>
                    if (!r24) then (
                      some false)
                    else (
                      some true))))))))))
theorem l_eqMediator_ok (a_a : Mediator) (v0_0 : Sv) (v0_1 : Sv) (v0_2 : Sv) (v0_3 : Sv) (v0_5 : Sv) (v0_8 : Sv) (v0_9 : Sv) (v0_11 : Sv) (a_b : Mediator) (v1_0 : Sv) (v1_1 : Sv) (v1_2 : Sv) (v1_3 : Sv) (v1_5 : Sv) (v1_8 : Sv) (v1_9 : Sv) (v1_11 : Sv) (R : Bool) (hF : l_eqMediator a_a a_b = some R) :
    Fw.Spec Tryz.prog 10 [(.agg [v0_0.v, v0_1.v, v0_2.v, v0_3.v, (.int .i64 a_a.Source.Version), v0_5.v, (.int .i64 a_a.Cache.Age), (.int .i64 a_a.Now), v0_8.v, v0_9.v, (.int .i64 a_a.Spent), v0_11.v].toArray), (.agg [v1_0.v, v1_1.v, v1_2.v, v1_3.v, (.int .i64 a_b.Source.Version), v1_5.v, (.int .i64 a_b.Cache.Age), (.int .i64 a_b.Now), v1_8.v, v1_9.v, (.int .i64 a_b.Spent), v1_11.v].toArray)] [crd (RdS 3 rdInt) v0_0.v a_a.Schema, crd (RdS 114 rd114) v0_1.v a_a.Methods, crd (RdS 116 rd116) v0_2.v a_a.Rules, crd (RdS 55 rd55) v0_3.v a_a.Source.Facts, crd (RdS 156 rd156) v0_5.v a_a.Cache.Entries, crd (RdS 124 rd124) v0_8.v a_a.Log, crd (RdS 3 rdInt) v0_9.v a_a.Times, crd (RdS 110 (RdS 22 (RdS 3 rdInt))) v0_11.v a_a.Results, crd (RdS 3 rdInt) v1_0.v a_b.Schema, crd (RdS 114 rd114) v1_1.v a_b.Methods, crd (RdS 116 rd116) v1_2.v a_b.Rules, crd (RdS 55 rd55) v1_3.v a_b.Source.Facts, crd (RdS 156 rd156) v1_5.v a_b.Cache.Entries, crd (RdS 124 rd124) v1_8.v a_b.Log, crd (RdS 3 rdInt) v1_9.v a_b.Times, crd (RdS 110 (RdS 22 (RdS 3 rdInt))) v1_11.v a_b.Results] (fun _ : Unit => (.bool R)) (fun _ => []) := by
  refine Spec_enter (n := 63) Tryz.func10 rfl rfl (rs := [.tmp 4]) rfl rfl rfl ?_
  intro H0 F0
  unfold l_eqMediator at hF
  refine au ?_
  refine AbR (fun k1 => ?_)
  refine AbR (fun k2 => ?_)
  iterate 8 refine au ?_
  obtain ⟨r3, hx4, hF⟩ := bind_some hF
  refine Cx0 (l_eqIntS_ok _ _ _ _ _ hx4) (fun _ => ?_)
  iterate 2 refine au ?_
  refine Cc (fun hb36 => ?_) (fun hb36 => ?_)
  · rw [if_pos hb36] at hF
    iterate 4 refine au ?_
    cases hF
    exact Er ()
  rw [if_neg (nt hb36)] at hF
  iterate 7 refine au ?_
  obtain ⟨r6, hx7, hF⟩ := bind_some hF
  refine Cx0 (l_eqMethodS_ok _ _ _ _ _ hx7) (fun _ => ?_)
  iterate 2 refine au ?_
  refine Cc (fun hb35 => ?_) (fun hb35 => ?_)
  · rw [if_pos hb35] at hF
    iterate 4 refine au ?_
    cases hF
    exact Er ()
  rw [if_neg (nt hb35)] at hF
  iterate 7 refine au ?_
  obtain ⟨r9, hx10, hF⟩ := bind_some hF
  refine Cx0 (l_eqRuleS_ok _ _ _ _ _ hx10) (fun _ => ?_)
  iterate 2 refine au ?_
  refine Cc (fun hb34 => ?_) (fun hb34 => ?_)
  · rw [if_pos hb34] at hF
    iterate 4 refine au ?_
    cases hF
    exact Er ()
  rw [if_neg (nt hb34)] at hF
  iterate 4 refine au ?_
  refine C_at (.t .h) (fun hp => V_loadA (s := 2) (l := [v0_3.v, (.int .i64 a_a.Source.Version)]) ag45.h ty45.h.sz (.tmp rfl rfl) hp.2 rfl (by decide) (Nat.le_of_ble_eq_true rfl) rfl) ?_
  refine au ?_
  refine C_at .h (fun hp => V_loadA (s := 2) (l := [v1_3.v, (.int .i64 a_b.Source.Version)]) ag45.h ty45.h.sz (.tmp rfl rfl) hp.2 rfl (by decide) (Nat.le_of_ble_eq_true rfl) rfl) ?_
  obtain ⟨r12, hx13, hF⟩ := bind_some hF
  refine Cx0 (l_eqSource_ok _ _ _ _ _ hx13) (fun _ => ?_)
  iterate 2 refine au ?_
  refine Cc (fun hb33 => ?_) (fun hb33 => ?_)
  · rw [if_pos hb33] at hF
    iterate 4 refine au ?_
    cases hF
    exact Er ()
  rw [if_neg (nt hb33)] at hF
  iterate 4 refine au ?_
  refine C_at (.t .h) (fun hp => V_loadA (s := 2) (l := [v0_5.v, (.int .i64 a_a.Cache.Age)]) ag48.h ty48.h.sz (.tmp rfl rfl) hp.2 rfl (by decide) (Nat.le_of_ble_eq_true rfl) rfl) ?_
  refine au ?_
  refine C_at .h (fun hp => V_loadA (s := 2) (l := [v1_5.v, (.int .i64 a_b.Cache.Age)]) ag48.h ty48.h.sz (.tmp rfl rfl) hp.2 rfl (by decide) (Nat.le_of_ble_eq_true rfl) rfl) ?_
  obtain ⟨r15, hx16, hF⟩ := bind_some hF
  refine Cx0 (l_eqCache_ok _ _ _ _ _ hx16) (fun _ => ?_)
  iterate 2 refine au ?_
  refine Cc (fun hb32 => ?_) (fun hb32 => ?_)
  · rw [if_pos hb32] at hF
    iterate 4 refine au ?_
    cases hF
    exact Er ()
  rw [if_neg (nt hb32)] at hF
  iterate 9 refine au ?_
  refine Cc (fun hb31 => ?_) (fun hb31 => ?_)
  · rw [if_pos hb31] at hF
    iterate 4 refine au ?_
    cases hF
    exact Er ()
  rw [if_neg (nt hb31)] at hF
  iterate 7 refine au ?_
  obtain ⟨r18, hx19, hF⟩ := bind_some hF
  refine Cx0 (l_eqAccessS_ok _ _ _ _ _ hx19) (fun _ => ?_)
  iterate 2 refine au ?_
  refine Cc (fun hb30 => ?_) (fun hb30 => ?_)
  · rw [if_pos hb30] at hF
    iterate 4 refine au ?_
    cases hF
    exact Er ()
  rw [if_neg (nt hb30)] at hF
  iterate 7 refine au ?_
  obtain ⟨r21, hx22, hF⟩ := bind_some hF
  refine Cx0 (l_eqIntS_ok _ _ _ _ _ hx22) (fun _ => ?_)
  iterate 2 refine au ?_
  refine Cc (fun hb29 => ?_) (fun hb29 => ?_)
  · rw [if_pos hb29] at hF
    iterate 4 refine au ?_
    cases hF
    exact Er ()
  rw [if_neg (nt hb29)] at hF
  iterate 9 refine au ?_
  refine Cc (fun hb28 => ?_) (fun hb28 => ?_)
  · rw [if_pos hb28] at hF
    iterate 4 refine au ?_
    cases hF
    exact Er ()
  rw [if_neg (nt hb28)] at hF
  iterate 7 refine au ?_
  obtain ⟨r24, hx25, hF⟩ := bind_some hF
  refine Cx0 (l_eqIntSSS_ok _ _ _ _ _ hx25) (fun _ => ?_)
  iterate 2 refine au ?_
  refine Cc (fun hb27 => ?_) (fun hb27 => ?_)
  · rw [if_pos hb27] at hF
    iterate 4 refine au ?_
    cases hF
    exact Er ()
  rw [if_neg (nt hb27)] at hF
  iterate 5 refine au ?_
  cases hF
  exact Er ()

/-! laws.eqChange -/
def l_eqChange (a_a : Change) (a_b : Change) : Option (Bool) :=
  if (!(a_a.Add == a_b.Add)) then (
    some false)
  else (
    (l_eqFact a_a.Fact a_b.Fact).bind fun r3 =>
    if (!r3) then (
      some false)
    else (
      some true))
theorem l_eqChange_ok (a_a : Change) (v0_2 : Sv) (a_b : Change) (v1_2 : Sv) (R : Bool) (hF : l_eqChange a_a a_b = some R) :
    Fw.Spec Tryz.prog 11 [(.agg [(.bool a_a.Add), (.int .i64 a_a.Fact.Rel), v0_2.v].toArray), (.agg [(.bool a_b.Add), (.int .i64 a_b.Fact.Rel), v1_2.v].toArray)] [crd (RdS 3 rdInt) v0_2.v a_a.Fact.Values, crd (RdS 3 rdInt) v1_2.v a_b.Fact.Values] (fun _ : Unit => (.bool R)) (fun _ => []) := by
  refine Spec_enter (n := 16) Tryz.func11 rfl rfl (rs := [.tmp 4]) rfl rfl rfl ?_
  intro H0 F0
  unfold l_eqChange at hF
  refine au ?_
  refine AbR (fun k1 => ?_)
  refine AbR (fun k2 => ?_)
  iterate 8 refine au ?_
  refine C_val (V_neB (a := a_a.Add) (b := a_b.Add) Tryz.underlying4 (.tmp rfl rfl) (.tmp rfl rfl)) ?_
  refine au ?_
  refine Cc (fun hb7 => ?_) (fun hb7 => ?_)
  · rw [if_pos hb7] at hF
    iterate 4 refine au ?_
    cases hF
    exact Er ()
  rw [if_neg (nt hb7)] at hF
  iterate 4 refine au ?_
  refine C_at (.t .h) (fun hp => V_loadA (s := 2) (l := [(.int .i64 a_a.Fact.Rel), v0_2.v]) ag55.h ty55.h.sz (.tmp rfl rfl) hp.2 rfl (by decide) (Nat.le_of_ble_eq_true rfl) rfl) ?_
  refine au ?_
  refine C_at .h (fun hp => V_loadA (s := 2) (l := [(.int .i64 a_b.Fact.Rel), v1_2.v]) ag55.h ty55.h.sz (.tmp rfl rfl) hp.2 rfl (by decide) (Nat.le_of_ble_eq_true rfl) rfl) ?_
  obtain ⟨r3, hx4, hF⟩ := bind_some hF
  refine Cx0 (l_eqFact_ok _ _ _ _ _ hx4) (fun _ => ?_)
  iterate 2 refine au ?_
  refine Cc (fun hb6 => ?_) (fun hb6 => ?_)
  · rw [if_pos hb6] at hF
    iterate 4 refine au ?_
    cases hF
    exact Er ()
  rw [if_neg (nt hb6)] at hF
  iterate 5 refine au ?_
  cases hF
  exact Er ()

/-! laws.markIntS -/
def l_markIntS_L1 : Nat → (List Int) → Int → Int → Option (Int × (List Int))
  | 0, _, _, _ => none
  | m23 + 1, c19, c21, c22 => if (decide ((c22 : Int) < (c19.length : Int))) then (
      (chk (decide (0 ≤ c22) && decide (c22 < (c19.length : Int)))).bind fun u34 =>
      (some (c19.set (c22).toNat c21)).bind fun z36 =>
      l_markIntS_L1 m23 z36 (IntKind.i64.wrap (c21 + 1)) (IntKind.i64.wrap (c22 + 1)))
    else (
      some (c21, c19))
def l_markIntS (a_a : List Int) (a_k : Int) : Option (Int × (List Int)) :=
  l_markIntS_L1 (((a_a.length : Int) - 0).toNat + 2) a_a a_k 0
theorem l_markIntS_ok (a_a : List Int) (v0_0 : Sv) (F0_0 : List Nat) (a_k : Int) (R : Int × (List Int)) (hF : l_markIntS a_a a_k = some R) :
    Fw.Spec Tryz.prog 45 [v0_0.v, (.int .i64 a_k)] [cown (OwnS 3 (roE rdInt)) F0_0 v0_0.v a_a] (fun _ : List Nat => (.int .i64 R.1)) (fun p => [cown (OwnS 3 (roE rdInt)) p v0_0.v R.2]) := by
  refine Spec_enter (n := 19) Tryz.func45 rfl rfl (rs := [.tmp 4]) rfl rfl rfl ?_
  intro H0 F0
  unfold l_markIntS at hF
  iterate 7 refine au ?_
  refine CW_block (CW_loop (m := (((a_a.length : Int) - 0).toNat + 2)) (fun m23 f' cs' => ∃ (g : Fr) (c19 : List Int) (c21 : Int) (c22 : Int) (F20 : List Nat), f' = updL g [(0, v0_0.v), (1, (.int .i64 c21)), (5, (.int .i64 c22))] ∧ Ent cs' [cown (OwnS 3 (roE rdInt)) F20 v0_0.v c19] ∧ l_markIntS_L1 m23 c19 c21 c22 = some R) ⟨_, _, _, _, F0_0, eqA, entA, hF⟩ ?_)
  clear hF
  rintro m23 _ _ ⟨g24, c19, c21, c22, F20, rfl, hE, hF⟩
  refine K_ent hE ?_
  clear hE
  rcases m23 with _ | m23
  · rw [l_markIntS_L1] at hF
    exact absurd hF (by simp)
  rw [l_markIntS_L1] at hF
  iterate 7 refine au ?_
  refine Cc (fun hb39 => ?_) (fun hb39 => ?_)
  · rw [if_pos hb39] at hF
    iterate 6 refine au ?_
    obtain ⟨u34, hx35, hF⟩ := bind_some hF
    have hi33 := chk_some hx35
    refine C_idxO sl22.h ty3.h.sz (.tmp rfl rfl) (.tmp rfl rfl) .h hi33 (fun k31 hk32 => ?_)
    obtain ⟨z36, hx37, hF⟩ := bind_some hF
    replace hx37 := Option.some.inj hx37
    refine C_x1 (.cons .h .nil) (X_storeO (Ro := (roE rdInt)) (a := c21) (i := c22) ty3.h.sz rfl (.tmp rfl rfl) (.tmp rfl rfl) hk32 hi33 (Mk_pure (fun _ => rfl)) (fun _ _ _ _ h => by obtain ⟨-, h⟩ := h; cases h; rfl)) (fun F38 => ?_)
    rw [hx37]
    iterate 11 refine au ?_
    exact ⟨m23, Nat.lt_succ_self _, _, _, _, _, F38, eqA, entA, hF⟩
  rw [if_neg (nt hb39)] at hF
  iterate 9 refine au ?_
  cases hF
  exact Er F20

/-! laws.markMethodS -/
def l_markMethodS_L1 : Nat → (List Method) → Int → Int → Option (Int × (List Method))
  | 0, _, _, _ => none
  | m64 + 1, c60, c62, c63 => if (decide ((c63 : Int) < (c60.length : Int))) then (
      (ix c60 c63).bind fun x75 =>
      (some (c60.set (c63).toNat { x75 with Rel := c62 })).bind fun z79 =>
      (ix z79 c63).bind fun x84 =>
      (l_markIntS x84.Inputs (IntKind.i64.wrap (c62 + 1))).bind fun r89 =>
      (some (z79.set (c63).toNat { x84 with Inputs := r89.2 })).bind fun z92 =>
      (ix z92 c63).bind fun x97 =>
      (some (z92.set (c63).toNat { x97 with Limit := r89.1 })).bind fun z101 =>
      (ix z101 c63).bind fun x106 =>
      (some (z101.set (c63).toNat { x106 with Cost := (IntKind.i64.wrap (r89.1 + 1)) })).bind fun z110 =>
      (ix z110 c63).bind fun x115 =>
      (some (z110.set (c63).toNat { x115 with Quota := (IntKind.i64.wrap ((IntKind.i64.wrap (r89.1 + 1)) + 1)) })).bind fun z119 =>
      l_markMethodS_L1 m64 z119 (IntKind.i64.wrap ((IntKind.i64.wrap ((IntKind.i64.wrap (r89.1 + 1)) + 1)) + 1)) (IntKind.i64.wrap (c63 + 1)))
    else (
      some (c62, c60))
def l_markMethodS (a_a : List Method) (a_k : Int) : Option (Int × (List Method)) :=
  l_markMethodS_L1 (((a_a.length : Int) - 0).toNat + 2) a_a a_k 0
theorem l_markMethodS_ok (a_a : List Method) (v0_0 : Sv) (F0_0 : List Nat) (a_k : Int) (R : Int × (List Method)) (hF : l_markMethodS a_a a_k = some R) :
    Fw.Spec Tryz.prog 46 [v0_0.v, (.int .i64 a_k)] [cown (OwnS 114 ow114) F0_0 v0_0.v a_a] (fun _ : List Nat => (.int .i64 R.1)) (fun p => [cown (OwnS 114 ow114) p v0_0.v R.2]) := by
  refine Spec_enter (n := 48) Tryz.func46 rfl rfl (rs := [.tmp 4]) rfl rfl rfl ?_
  intro H0 F0
  unfold l_markMethodS at hF
  iterate 7 refine au ?_
  refine CW_block (CW_loop (m := (((a_a.length : Int) - 0).toNat + 2)) (fun m64 f' cs' => ∃ (g : Fr) (c60 : List Method) (c62 : Int) (c63 : Int) (F61 : List Nat), f' = updL g [(0, v0_0.v), (1, (.int .i64 c62)), (5, (.int .i64 c63))] ∧ Ent cs' [cown (OwnS 114 ow114) F61 v0_0.v c60] ∧ l_markMethodS_L1 m64 c60 c62 c63 = some R) ⟨_, _, _, _, F0_0, eqA, entA, hF⟩ ?_)
  clear hF
  rintro m64 _ _ ⟨g65, c60, c62, c63, F61, rfl, hE, hF⟩
  refine K_ent hE ?_
  clear hE
  rcases m64 with _ | m64
  · rw [l_markMethodS_L1] at hF
    exact absurd hF (by simp)
  rw [l_markMethodS_L1] at hF
  iterate 7 refine au ?_
  refine Cc (fun hb121 => ?_) (fun hb121 => ?_)
  · rw [if_pos hb121] at hF
    iterate 6 refine au ?_
    obtain ⟨x75, hx76, hF⟩ := bind_some hF
    have hi74 := ix_chk hx76
    obtain ⟨hp77, hx78⟩ := ix_some hx76
    refine C_idxO sl41.h ty114.h.sz (.tmp rfl rfl) (.tmp rfl rfl) .h hi74 (fun k72 hk73 => ?_)
    refine au ?_
    obtain ⟨z79, hx80, hF⟩ := bind_some hF
    replace hx80 := Option.some.inj hx80
    refine C_x1 (.cons .h .nil) (X_storeF (Ro := ow114) (i := c63) ty3.h.sz rfl (.tmp rfl rfl) (.tmp rfl rfl) hk73 hx78 rfl rfl fsf114_0 (sf114_0 (d := c62))) (fun _ => ?_)
    rw [hx80]
    iterate 9 refine au ?_
    obtain ⟨x84, hx85, hF⟩ := bind_some hF
    have hi83 := ix_chk hx85
    obtain ⟨hp86, hx87⟩ := ix_some hx85
    refine C_idxO sl41.h ty114.h.sz (.tmp rfl rfl) (.tmp rfl rfl) .h hi83 (fun k81 hk82 => ?_)
    refine au ?_
    refine C_ldOV ag22.h (.tmp rfl rfl) .h hk82 hx87 pt114_1 (fun w88 => ?_)
    refine au ?_
    obtain ⟨r89, hx90, hF⟩ := bind_some hF
    obtain ⟨z92, hx93, hF⟩ := bind_some hF
    replace hx93 := Option.some.inj hx93
    refine C_x1 (.cons .h .nil) (X_part hx87 pt114_1 (fun Fw => X_callS cf45.h (.cons (.tmp rfl rfl) (.cons (.tmp rfl rfl) .nil)) (l_markIntS_ok x84.Inputs w88 Fw (IntKind.i64.wrap (c62 + 1)) _ hx90)) rfl) (fun p91 => ?_)
    rw [hx93]
    iterate 6 refine au ?_
    obtain ⟨x97, hx98, hF⟩ := bind_some hF
    have hi96 := ix_chk hx98
    obtain ⟨hp99, hx100⟩ := ix_some hx98
    refine C_idxO sl41.h ty114.h.sz (.tmp rfl rfl) (.tmp rfl rfl) .h hi96 (fun k94 hk95 => ?_)
    refine au ?_
    obtain ⟨z101, hx102, hF⟩ := bind_some hF
    replace hx102 := Option.some.inj hx102
    refine C_x1 (.cons .h .nil) (X_storeF (Ro := ow114) (i := c63) ty3.h.sz rfl (.tmp rfl rfl) (.tmp rfl rfl) hk95 hx100 rfl rfl fsf114_2 (sf114_2 (d := r89.1))) (fun _ => ?_)
    rw [hx102]
    iterate 10 refine au ?_
    obtain ⟨x106, hx107, hF⟩ := bind_some hF
    have hi105 := ix_chk hx107
    obtain ⟨hp108, hx109⟩ := ix_some hx107
    refine C_idxO sl41.h ty114.h.sz (.tmp rfl rfl) (.tmp rfl rfl) .h hi105 (fun k103 hk104 => ?_)
    refine au ?_
    obtain ⟨z110, hx111, hF⟩ := bind_some hF
    replace hx111 := Option.some.inj hx111
    refine C_x1 (.cons .h .nil) (X_storeF (Ro := ow114) (i := c63) ty3.h.sz rfl (.tmp rfl rfl) (.tmp rfl rfl) hk104 hx109 rfl rfl fsf114_3 (sf114_3 (d := (IntKind.i64.wrap (r89.1 + 1))))) (fun _ => ?_)
    rw [hx111]
    iterate 10 refine au ?_
    obtain ⟨x115, hx116, hF⟩ := bind_some hF
    have hi114 := ix_chk hx116
    obtain ⟨hp117, hx118⟩ := ix_some hx116
    refine C_idxO sl41.h ty114.h.sz (.tmp rfl rfl) (.tmp rfl rfl) .h hi114 (fun k112 hk113 => ?_)
    refine au ?_
    obtain ⟨z119, hx120, hF⟩ := bind_some hF
    replace hx120 := Option.some.inj hx120
    refine C_x1 (.cons .h .nil) (X_storeF (Ro := ow114) (i := c63) ty3.h.sz rfl (.tmp rfl rfl) (.tmp rfl rfl) hk113 hx118 rfl rfl fsf114_4 (sf114_4 (d := (IntKind.i64.wrap ((IntKind.i64.wrap (r89.1 + 1)) + 1))))) (fun _ => ?_)
    rw [hx120]
    iterate 11 refine au ?_
    exact ⟨m64, Nat.lt_succ_self _, _, _, _, _, p91.2, eqA, entA, hF⟩
  rw [if_neg (nt hb121)] at hF
  iterate 9 refine au ?_
  cases hF
  exact Er F61

/-! laws.markRuleS -/
def l_markRuleS_L1 : Nat → (List Rule) → Int → Int → Option (Int × (List Rule))
  | 0, _, _, _ => none
  | m46 + 1, c42, c44, c45 => if (decide ((c45 : Int) < (c42.length : Int))) then (
      (ix c42 c45).bind fun x57 =>
      (some (c42.set (c45).toNat { x57 with From := c44 })).bind fun z61 =>
      (ix z61 c45).bind fun x66 =>
      (some (z61.set (c45).toNat { x66 with To := (IntKind.i64.wrap (c44 + 1)) })).bind fun z70 =>
      (ix z70 c45).bind fun x75 =>
      (l_markIntS x75.Map (IntKind.i64.wrap ((IntKind.i64.wrap (c44 + 1)) + 1))).bind fun r80 =>
      (some (z70.set (c45).toNat { x75 with Map := r80.2 })).bind fun z83 =>
      l_markRuleS_L1 m46 z83 r80.1 (IntKind.i64.wrap (c45 + 1)))
    else (
      some (c44, c42))
def l_markRuleS (a_a : List Rule) (a_k : Int) : Option (Int × (List Rule)) :=
  l_markRuleS_L1 (((a_a.length : Int) - 0).toNat + 2) a_a a_k 0
theorem l_markRuleS_ok (a_a : List Rule) (v0_0 : Sv) (F0_0 : List Nat) (a_k : Int) (R : Int × (List Rule)) (hF : l_markRuleS a_a a_k = some R) :
    Fw.Spec Tryz.prog 47 [v0_0.v, (.int .i64 a_k)] [cown (OwnS 116 ow116) F0_0 v0_0.v a_a] (fun _ : List Nat => (.int .i64 R.1)) (fun p => [cown (OwnS 116 ow116) p v0_0.v R.2]) := by
  refine Spec_enter (n := 34) Tryz.func47 rfl rfl (rs := [.tmp 4]) rfl rfl rfl ?_
  intro H0 F0
  unfold l_markRuleS at hF
  iterate 7 refine au ?_
  refine CW_block (CW_loop (m := (((a_a.length : Int) - 0).toNat + 2)) (fun m46 f' cs' => ∃ (g : Fr) (c42 : List Rule) (c44 : Int) (c45 : Int) (F43 : List Nat), f' = updL g [(0, v0_0.v), (1, (.int .i64 c44)), (5, (.int .i64 c45))] ∧ Ent cs' [cown (OwnS 116 ow116) F43 v0_0.v c42] ∧ l_markRuleS_L1 m46 c42 c44 c45 = some R) ⟨_, _, _, _, F0_0, eqA, entA, hF⟩ ?_)
  clear hF
  rintro m46 _ _ ⟨g47, c42, c44, c45, F43, rfl, hE, hF⟩
  refine K_ent hE ?_
  clear hE
  rcases m46 with _ | m46
  · rw [l_markRuleS_L1] at hF
    exact absurd hF (by simp)
  rw [l_markRuleS_L1] at hF
  iterate 7 refine au ?_
  refine Cc (fun hb85 => ?_) (fun hb85 => ?_)
  · rw [if_pos hb85] at hF
    iterate 6 refine au ?_
    obtain ⟨x57, hx58, hF⟩ := bind_some hF
    have hi56 := ix_chk hx58
    obtain ⟨hp59, hx60⟩ := ix_some hx58
    refine C_idxO sl42.h ty116.h.sz (.tmp rfl rfl) (.tmp rfl rfl) .h hi56 (fun k54 hk55 => ?_)
    refine au ?_
    obtain ⟨z61, hx62, hF⟩ := bind_some hF
    replace hx62 := Option.some.inj hx62
    refine C_x1 (.cons .h .nil) (X_storeF (Ro := ow116) (i := c45) ty3.h.sz rfl (.tmp rfl rfl) (.tmp rfl rfl) hk55 hx60 rfl rfl fsf116_0 (sf116_0 (d := c44))) (fun _ => ?_)
    rw [hx62]
    iterate 10 refine au ?_
    obtain ⟨x66, hx67, hF⟩ := bind_some hF
    have hi65 := ix_chk hx67
    obtain ⟨hp68, hx69⟩ := ix_some hx67
    refine C_idxO sl42.h ty116.h.sz (.tmp rfl rfl) (.tmp rfl rfl) .h hi65 (fun k63 hk64 => ?_)
    refine au ?_
    obtain ⟨z70, hx71, hF⟩ := bind_some hF
    replace hx71 := Option.some.inj hx71
    refine C_x1 (.cons .h .nil) (X_storeF (Ro := ow116) (i := c45) ty3.h.sz rfl (.tmp rfl rfl) (.tmp rfl rfl) hk64 hx69 rfl rfl fsf116_1 (sf116_1 (d := (IntKind.i64.wrap (c44 + 1))))) (fun _ => ?_)
    rw [hx71]
    iterate 9 refine au ?_
    obtain ⟨x75, hx76, hF⟩ := bind_some hF
    have hi74 := ix_chk hx76
    obtain ⟨hp77, hx78⟩ := ix_some hx76
    refine C_idxO sl42.h ty116.h.sz (.tmp rfl rfl) (.tmp rfl rfl) .h hi74 (fun k72 hk73 => ?_)
    refine au ?_
    refine C_ldOV ag22.h (.tmp rfl rfl) .h hk73 hx78 pt116_2 (fun w79 => ?_)
    refine au ?_
    obtain ⟨r80, hx81, hF⟩ := bind_some hF
    obtain ⟨z83, hx84, hF⟩ := bind_some hF
    replace hx84 := Option.some.inj hx84
    refine C_x1 (.cons .h .nil) (X_part hx78 pt116_2 (fun Fw => X_callS cf45.h (.cons (.tmp rfl rfl) (.cons (.tmp rfl rfl) .nil)) (l_markIntS_ok x75.Map w79 Fw (IntKind.i64.wrap ((IntKind.i64.wrap (c44 + 1)) + 1)) _ hx81)) rfl) (fun p82 => ?_)
    rw [hx84]
    iterate 7 refine au ?_
    exact ⟨m46, Nat.lt_succ_self _, _, _, _, _, p82.2, eqA, entA, hF⟩
  rw [if_neg (nt hb85)] at hF
  iterate 9 refine au ?_
  cases hF
  exact Er F43

/-! laws.markFactS -/
def l_markFactS_L1 : Nat → (List Fact) → Int → Int → Option (Int × (List Fact))
  | 0, _, _, _ => none
  | m37 + 1, c33, c35, c36 => if (decide ((c36 : Int) < (c33.length : Int))) then (
      (ix c33 c36).bind fun x48 =>
      (some (c33.set (c36).toNat { x48 with Rel := c35 })).bind fun z52 =>
      (ix z52 c36).bind fun x57 =>
      (l_markIntS x57.Values (IntKind.i64.wrap (c35 + 1))).bind fun r62 =>
      (some (z52.set (c36).toNat { x57 with Values := r62.2 })).bind fun z65 =>
      l_markFactS_L1 m37 z65 r62.1 (IntKind.i64.wrap (c36 + 1)))
    else (
      some (c35, c33))
def l_markFactS (a_a : List Fact) (a_k : Int) : Option (Int × (List Fact)) :=
  l_markFactS_L1 (((a_a.length : Int) - 0).toNat + 2) a_a a_k 0
theorem l_markFactS_ok (a_a : List Fact) (v0_0 : Sv) (F0_0 : List Nat) (a_k : Int) (R : Int × (List Fact)) (hF : l_markFactS a_a a_k = some R) :
    Fw.Spec Tryz.prog 119 [v0_0.v, (.int .i64 a_k)] [cown (OwnS 55 ow55) F0_0 v0_0.v a_a] (fun _ : List Nat => (.int .i64 R.1)) (fun p => [cown (OwnS 55 ow55) p v0_0.v R.2]) := by
  refine Spec_enter (n := 27) Tryz.func119 rfl rfl (rs := [.tmp 4]) rfl rfl rfl ?_
  intro H0 F0
  unfold l_markFactS at hF
  iterate 7 refine au ?_
  refine CW_block (CW_loop (m := (((a_a.length : Int) - 0).toNat + 2)) (fun m37 f' cs' => ∃ (g : Fr) (c33 : List Fact) (c35 : Int) (c36 : Int) (F34 : List Nat), f' = updL g [(0, v0_0.v), (1, (.int .i64 c35)), (5, (.int .i64 c36))] ∧ Ent cs' [cown (OwnS 55 ow55) F34 v0_0.v c33] ∧ l_markFactS_L1 m37 c33 c35 c36 = some R) ⟨_, _, _, _, F0_0, eqA, entA, hF⟩ ?_)
  clear hF
  rintro m37 _ _ ⟨g38, c33, c35, c36, F34, rfl, hE, hF⟩
  refine K_ent hE ?_
  clear hE
  rcases m37 with _ | m37
  · rw [l_markFactS_L1] at hF
    exact absurd hF (by simp)
  rw [l_markFactS_L1] at hF
  iterate 7 refine au ?_
  refine Cc (fun hb67 => ?_) (fun hb67 => ?_)
  · rw [if_pos hb67] at hF
    iterate 6 refine au ?_
    obtain ⟨x48, hx49, hF⟩ := bind_some hF
    have hi47 := ix_chk hx49
    obtain ⟨hp50, hx51⟩ := ix_some hx49
    refine C_idxO sl43.h ty55.h.sz (.tmp rfl rfl) (.tmp rfl rfl) .h hi47 (fun k45 hk46 => ?_)
    refine au ?_
    obtain ⟨z52, hx53, hF⟩ := bind_some hF
    replace hx53 := Option.some.inj hx53
    refine C_x1 (.cons .h .nil) (X_storeF (Ro := ow55) (i := c36) ty3.h.sz rfl (.tmp rfl rfl) (.tmp rfl rfl) hk46 hx51 rfl rfl fsf55_0 (sf55_0 (d := c35))) (fun _ => ?_)
    rw [hx53]
    iterate 9 refine au ?_
    obtain ⟨x57, hx58, hF⟩ := bind_some hF
    have hi56 := ix_chk hx58
    obtain ⟨hp59, hx60⟩ := ix_some hx58
    refine C_idxO sl43.h ty55.h.sz (.tmp rfl rfl) (.tmp rfl rfl) .h hi56 (fun k54 hk55 => ?_)
    refine au ?_
    refine C_ldOV ag22.h (.tmp rfl rfl) .h hk55 hx60 pt55_1 (fun w61 => ?_)
    refine au ?_
    obtain ⟨r62, hx63, hF⟩ := bind_some hF
    obtain ⟨z65, hx66, hF⟩ := bind_some hF
    replace hx66 := Option.some.inj hx66
    refine C_x1 (.cons .h .nil) (X_part hx60 pt55_1 (fun Fw => X_callS cf45.h (.cons (.tmp rfl rfl) (.cons (.tmp rfl rfl) .nil)) (l_markIntS_ok x57.Values w61 Fw (IntKind.i64.wrap (c35 + 1)) _ hx63)) rfl) (fun p64 => ?_)
    rw [hx66]
    iterate 7 refine au ?_
    exact ⟨m37, Nat.lt_succ_self _, _, _, _, _, p64.2, eqA, entA, hF⟩
  rw [if_neg (nt hb67)] at hF
  iterate 9 refine au ?_
  cases hF
  exact Er F34

/-! laws.markSource -/
def l_markSource (a_a : Source) (a_k : Int) : Option (Int × Source) :=
  (l_markFactS a_a.Facts a_k).bind fun r2 =>
  some (r2.1, ({ Facts := r2.2, Version := a_a.Version } : Source))
theorem l_markSource_ok (a_a : Source) (v0_0 : Sv) (F0_0 : List Nat) (a_k : Int) (R : Int × Source) (hF : l_markSource a_a a_k = some R) :
    Fw.Spec Tryz.prog 48 [(.agg [v0_0.v, (.int .i64 a_a.Version)].toArray), (.int .i64 a_k)] [cown (OwnS 55 ow55) F0_0 v0_0.v a_a.Facts] (fun _ : List Nat => (.int .i64 R.1)) (fun p => [cown (OwnS 55 ow55) p v0_0.v R.2.Facts]) := by
  refine Spec_enter (n := 10) Tryz.func48 rfl rfl (rs := [.tmp 4]) rfl rfl rfl ?_
  intro H0 F0
  unfold l_markSource at hF
  refine au ?_
  refine C_newR rfl (N_box (g := false) (v := (.agg [v0_0.v, (.int .i64 a_a.Version)].toArray)) ty45.h.sz (.tmp rfl rfl) rfl) (fun k1 => ?_)
  iterate 6 refine au ?_
  obtain ⟨r2, hx3, hF⟩ := bind_some hF
  refine C_x1 (.cons (.t .h) .nil) (X_callS cf119.h (.cons (.tmp rfl rfl) (.cons (.tmp rfl rfl) .nil)) (l_markFactS_ok a_a.Facts v0_0 F0_0 a_k _ hx3)) (fun p4 => ?_)
  iterate 7 refine au ?_
  obtain rfl := Option.some.inj hF
  exact End_ret p4 (.tmp rfl rfl .nil) rfl (.sel (.cons .h .nil))

/-! laws.markStoredS -/
def l_markStoredS_L1 : Nat → (List Stored) → Int → Int → Option (Int × (List Stored))
  | 0, _, _, _ => none
  | m59 + 1, c55, c57, c58 => if (decide ((c58 : Int) < (c55.length : Int))) then (
      (ix c55 c58).bind fun x70 =>
      (some (c55.set (c58).toNat { x70 with Access := { x70.Access with Method := c57 } })).bind fun z74 =>
      (ix z74 c58).bind fun x79 =>
      (l_markIntS x79.Access.Values (IntKind.i64.wrap (c57 + 1))).bind fun r84 =>
      (some (z74.set (c58).toNat { x79 with Access := { x79.Access with Values := r84.2 } })).bind fun z87 =>
      (ix z87 c58).bind fun x92 =>
      (l_markFactS x92.Facts r84.1).bind fun r97 =>
      (some (z87.set (c58).toNat { x92 with Facts := r97.2 })).bind fun z100 =>
      (ix z100 c58).bind fun x105 =>
      (some (z100.set (c58).toNat { x105 with At := r97.1 })).bind fun z109 =>
      l_markStoredS_L1 m59 z109 (IntKind.i64.wrap (r97.1 + 1)) (IntKind.i64.wrap (c58 + 1)))
    else (
      some (c57, c55))
def l_markStoredS (a_a : List Stored) (a_k : Int) : Option (Int × (List Stored)) :=
  l_markStoredS_L1 (((a_a.length : Int) - 0).toNat + 2) a_a a_k 0
theorem l_markStoredS_ok (a_a : List Stored) (v0_0 : Sv) (F0_0 : List Nat) (a_k : Int) (R : Int × (List Stored)) (hF : l_markStoredS a_a a_k = some R) :
    Fw.Spec Tryz.prog 120 [v0_0.v, (.int .i64 a_k)] [cown (OwnS 156 ow156) F0_0 v0_0.v a_a] (fun _ : List Nat => (.int .i64 R.1)) (fun p => [cown (OwnS 156 ow156) p v0_0.v R.2]) := by
  refine Spec_enter (n := 43) Tryz.func120 rfl rfl (rs := [.tmp 4]) rfl rfl rfl ?_
  intro H0 F0
  unfold l_markStoredS at hF
  iterate 7 refine au ?_
  refine CW_block (CW_loop (m := (((a_a.length : Int) - 0).toNat + 2)) (fun m59 f' cs' => ∃ (g : Fr) (c55 : List Stored) (c57 : Int) (c58 : Int) (F56 : List Nat), f' = updL g [(0, v0_0.v), (1, (.int .i64 c57)), (5, (.int .i64 c58))] ∧ Ent cs' [cown (OwnS 156 ow156) F56 v0_0.v c55] ∧ l_markStoredS_L1 m59 c55 c57 c58 = some R) ⟨_, _, _, _, F0_0, eqA, entA, hF⟩ ?_)
  clear hF
  rintro m59 _ _ ⟨g60, c55, c57, c58, F56, rfl, hE, hF⟩
  refine K_ent hE ?_
  clear hE
  rcases m59 with _ | m59
  · rw [l_markStoredS_L1] at hF
    exact absurd hF (by simp)
  rw [l_markStoredS_L1] at hF
  iterate 7 refine au ?_
  refine Cc (fun hb111 => ?_) (fun hb111 => ?_)
  · rw [if_pos hb111] at hF
    iterate 6 refine au ?_
    obtain ⟨x70, hx71, hF⟩ := bind_some hF
    have hi69 := ix_chk hx71
    obtain ⟨hp72, hx73⟩ := ix_some hx71
    refine C_idxO sl46.h ty156.h.sz (.tmp rfl rfl) (.tmp rfl rfl) .h hi69 (fun k67 hk68 => ?_)
    iterate 2 refine au ?_
    obtain ⟨z74, hx75, hF⟩ := bind_some hF
    replace hx75 := Option.some.inj hx75
    refine C_x1 (.cons .h .nil) (X_storeF (Ro := ow156) (i := c58) ty3.h.sz rfl (.tmp rfl rfl) (.tmp rfl rfl) hk68 hx73 rfl rfl fsf156_0 (sf156_0 (d := c57))) (fun _ => ?_)
    rw [hx75]
    iterate 9 refine au ?_
    obtain ⟨x79, hx80, hF⟩ := bind_some hF
    have hi78 := ix_chk hx80
    obtain ⟨hp81, hx82⟩ := ix_some hx80
    refine C_idxO sl46.h ty156.h.sz (.tmp rfl rfl) (.tmp rfl rfl) .h hi78 (fun k76 hk77 => ?_)
    iterate 2 refine au ?_
    refine C_ldOV ag22.h (.tmp rfl rfl) .h hk77 hx82 pt156_1 (fun w83 => ?_)
    refine au ?_
    obtain ⟨r84, hx85, hF⟩ := bind_some hF
    obtain ⟨z87, hx88, hF⟩ := bind_some hF
    replace hx88 := Option.some.inj hx88
    refine C_x1 (.cons .h .nil) (X_part hx82 pt156_1 (fun Fw => X_callS cf45.h (.cons (.tmp rfl rfl) (.cons (.tmp rfl rfl) .nil)) (l_markIntS_ok x79.Access.Values w83 Fw (IntKind.i64.wrap (c57 + 1)) _ hx85)) rfl) (fun p86 => ?_)
    rw [hx88]
    iterate 5 refine au ?_
    obtain ⟨x92, hx93, hF⟩ := bind_some hF
    have hi91 := ix_chk hx93
    obtain ⟨hp94, hx95⟩ := ix_some hx93
    refine C_idxO sl46.h ty156.h.sz (.tmp rfl rfl) (.tmp rfl rfl) .h hi91 (fun k89 hk90 => ?_)
    refine au ?_
    refine C_ldOV ag43.h (.tmp rfl rfl) .h hk90 hx95 pt156_2 (fun w96 => ?_)
    refine au ?_
    obtain ⟨r97, hx98, hF⟩ := bind_some hF
    obtain ⟨z100, hx101, hF⟩ := bind_some hF
    replace hx101 := Option.some.inj hx101
    refine C_x1 (.cons .h .nil) (X_part hx95 pt156_2 (fun Fw => X_callS cf119.h (.cons (.tmp rfl rfl) (.cons (.tmp rfl rfl) .nil)) (l_markFactS_ok x92.Facts w96 Fw r84.1 _ hx98)) rfl) (fun p99 => ?_)
    rw [hx101]
    iterate 6 refine au ?_
    obtain ⟨x105, hx106, hF⟩ := bind_some hF
    have hi104 := ix_chk hx106
    obtain ⟨hp107, hx108⟩ := ix_some hx106
    refine C_idxO sl46.h ty156.h.sz (.tmp rfl rfl) (.tmp rfl rfl) .h hi104 (fun k102 hk103 => ?_)
    refine au ?_
    obtain ⟨z109, hx110, hF⟩ := bind_some hF
    replace hx110 := Option.some.inj hx110
    refine C_x1 (.cons .h .nil) (X_storeF (Ro := ow156) (i := c58) ty3.h.sz rfl (.tmp rfl rfl) (.tmp rfl rfl) hk103 hx108 rfl rfl fsf156_3 (sf156_3 (d := r97.1))) (fun _ => ?_)
    rw [hx110]
    iterate 11 refine au ?_
    exact ⟨m59, Nat.lt_succ_self _, _, _, _, _, p99.2, eqA, entA, hF⟩
  rw [if_neg (nt hb111)] at hF
  iterate 9 refine au ?_
  cases hF
  exact Er F56

/-! laws.markCache -/
def l_markCache (a_a : Cache) (a_k : Int) : Option (Int × Cache) :=
  (l_markStoredS a_a.Entries a_k).bind fun r2 =>
  some (r2.1, ({ Entries := r2.2, Age := a_a.Age } : Cache))
theorem l_markCache_ok (a_a : Cache) (v0_0 : Sv) (F0_0 : List Nat) (a_k : Int) (R : Int × Cache) (hF : l_markCache a_a a_k = some R) :
    Fw.Spec Tryz.prog 49 [(.agg [v0_0.v, (.int .i64 a_a.Age)].toArray), (.int .i64 a_k)] [cown (OwnS 156 ow156) F0_0 v0_0.v a_a.Entries] (fun _ : List Nat => (.int .i64 R.1)) (fun p => [cown (OwnS 156 ow156) p v0_0.v R.2.Entries]) := by
  refine Spec_enter (n := 10) Tryz.func49 rfl rfl (rs := [.tmp 4]) rfl rfl rfl ?_
  intro H0 F0
  unfold l_markCache at hF
  refine au ?_
  refine C_newR rfl (N_box (g := false) (v := (.agg [v0_0.v, (.int .i64 a_a.Age)].toArray)) ty48.h.sz (.tmp rfl rfl) rfl) (fun k1 => ?_)
  iterate 6 refine au ?_
  obtain ⟨r2, hx3, hF⟩ := bind_some hF
  refine C_x1 (.cons (.t .h) .nil) (X_callS cf120.h (.cons (.tmp rfl rfl) (.cons (.tmp rfl rfl) .nil)) (l_markStoredS_ok a_a.Entries v0_0 F0_0 a_k _ hx3)) (fun p4 => ?_)
  iterate 7 refine au ?_
  obtain rfl := Option.some.inj hF
  exact End_ret p4 (.tmp rfl rfl .nil) rfl (.sel (.cons .h .nil))

/-! laws.markAccessS -/
def l_markAccessS_L1 : Nat → (List Access) → Int → Int → Option (Int × (List Access))
  | 0, _, _, _ => none
  | m37 + 1, c33, c35, c36 => if (decide ((c36 : Int) < (c33.length : Int))) then (
      (ix c33 c36).bind fun x48 =>
      (some (c33.set (c36).toNat { x48 with Method := c35 })).bind fun z52 =>
      (ix z52 c36).bind fun x57 =>
      (l_markIntS x57.Values (IntKind.i64.wrap (c35 + 1))).bind fun r62 =>
      (some (z52.set (c36).toNat { x57 with Values := r62.2 })).bind fun z65 =>
      l_markAccessS_L1 m37 z65 r62.1 (IntKind.i64.wrap (c36 + 1)))
    else (
      some (c35, c33))
def l_markAccessS (a_a : List Access) (a_k : Int) : Option (Int × (List Access)) :=
  l_markAccessS_L1 (((a_a.length : Int) - 0).toNat + 2) a_a a_k 0
theorem l_markAccessS_ok (a_a : List Access) (v0_0 : Sv) (F0_0 : List Nat) (a_k : Int) (R : Int × (List Access)) (hF : l_markAccessS a_a a_k = some R) :
    Fw.Spec Tryz.prog 50 [v0_0.v, (.int .i64 a_k)] [cown (OwnS 124 ow124) F0_0 v0_0.v a_a] (fun _ : List Nat => (.int .i64 R.1)) (fun p => [cown (OwnS 124 ow124) p v0_0.v R.2]) := by
  refine Spec_enter (n := 27) Tryz.func50 rfl rfl (rs := [.tmp 4]) rfl rfl rfl ?_
  intro H0 F0
  unfold l_markAccessS at hF
  iterate 7 refine au ?_
  refine CW_block (CW_loop (m := (((a_a.length : Int) - 0).toNat + 2)) (fun m37 f' cs' => ∃ (g : Fr) (c33 : List Access) (c35 : Int) (c36 : Int) (F34 : List Nat), f' = updL g [(0, v0_0.v), (1, (.int .i64 c35)), (5, (.int .i64 c36))] ∧ Ent cs' [cown (OwnS 124 ow124) F34 v0_0.v c33] ∧ l_markAccessS_L1 m37 c33 c35 c36 = some R) ⟨_, _, _, _, F0_0, eqA, entA, hF⟩ ?_)
  clear hF
  rintro m37 _ _ ⟨g38, c33, c35, c36, F34, rfl, hE, hF⟩
  refine K_ent hE ?_
  clear hE
  rcases m37 with _ | m37
  · rw [l_markAccessS_L1] at hF
    exact absurd hF (by simp)
  rw [l_markAccessS_L1] at hF
  iterate 7 refine au ?_
  refine Cc (fun hb67 => ?_) (fun hb67 => ?_)
  · rw [if_pos hb67] at hF
    iterate 6 refine au ?_
    obtain ⟨x48, hx49, hF⟩ := bind_some hF
    have hi47 := ix_chk hx49
    obtain ⟨hp50, hx51⟩ := ix_some hx49
    refine C_idxO sl49.h ty124.h.sz (.tmp rfl rfl) (.tmp rfl rfl) .h hi47 (fun k45 hk46 => ?_)
    refine au ?_
    obtain ⟨z52, hx53, hF⟩ := bind_some hF
    replace hx53 := Option.some.inj hx53
    refine C_x1 (.cons .h .nil) (X_storeF (Ro := ow124) (i := c36) ty3.h.sz rfl (.tmp rfl rfl) (.tmp rfl rfl) hk46 hx51 rfl rfl fsf124_0 (sf124_0 (d := c35))) (fun _ => ?_)
    rw [hx53]
    iterate 9 refine au ?_
    obtain ⟨x57, hx58, hF⟩ := bind_some hF
    have hi56 := ix_chk hx58
    obtain ⟨hp59, hx60⟩ := ix_some hx58
    refine C_idxO sl49.h ty124.h.sz (.tmp rfl rfl) (.tmp rfl rfl) .h hi56 (fun k54 hk55 => ?_)
    refine au ?_
    refine C_ldOV ag22.h (.tmp rfl rfl) .h hk55 hx60 pt124_1 (fun w61 => ?_)
    refine au ?_
    obtain ⟨r62, hx63, hF⟩ := bind_some hF
    obtain ⟨z65, hx66, hF⟩ := bind_some hF
    replace hx66 := Option.some.inj hx66
    refine C_x1 (.cons .h .nil) (X_part hx60 pt124_1 (fun Fw => X_callS cf45.h (.cons (.tmp rfl rfl) (.cons (.tmp rfl rfl) .nil)) (l_markIntS_ok x57.Values w61 Fw (IntKind.i64.wrap (c35 + 1)) _ hx63)) rfl) (fun p64 => ?_)
    rw [hx66]
    iterate 7 refine au ?_
    exact ⟨m37, Nat.lt_succ_self _, _, _, _, _, p64.2, eqA, entA, hF⟩
  rw [if_neg (nt hb67)] at hF
  iterate 9 refine au ?_
  cases hF
  exact Er F34

/-! laws.markIntSS -/
def l_markIntSS_L1 : Nat → (List (List Int)) → Int → Int → Option (Int × (List (List Int)))
  | 0, _, _, _ => none
  | m28 + 1, c24, c26, c27 => if (decide ((c27 : Int) < (c24.length : Int))) then (
      (ix c24 c27).bind fun x39 =>
      (l_markIntS x39 c26).bind fun r44 =>
      (some (c24.set (c27).toNat r44.2)).bind fun z47 =>
      l_markIntSS_L1 m28 z47 r44.1 (IntKind.i64.wrap (c27 + 1)))
    else (
      some (c26, c24))
def l_markIntSS (a_a : List (List Int)) (a_k : Int) : Option (Int × (List (List Int))) :=
  l_markIntSS_L1 (((a_a.length : Int) - 0).toNat + 2) a_a a_k 0
theorem l_markIntSS_ok (a_a : List (List Int)) (v0_0 : Sv) (F0_0 : List Nat) (a_k : Int) (R : Int × (List (List Int))) (hF : l_markIntSS a_a a_k = some R) :
    Fw.Spec Tryz.prog 121 [v0_0.v, (.int .i64 a_k)] [cown (OwnS 22 (OwnS 3 (roE rdInt))) F0_0 v0_0.v a_a] (fun _ : List Nat => (.int .i64 R.1)) (fun p => [cown (OwnS 22 (OwnS 3 (roE rdInt))) p v0_0.v R.2]) := by
  refine Spec_enter (n := 19) Tryz.func121 rfl rfl (rs := [.tmp 4]) rfl rfl rfl ?_
  intro H0 F0
  unfold l_markIntSS at hF
  iterate 7 refine au ?_
  refine CW_block (CW_loop (m := (((a_a.length : Int) - 0).toNat + 2)) (fun m28 f' cs' => ∃ (g : Fr) (c24 : List (List Int)) (c26 : Int) (c27 : Int) (F25 : List Nat), f' = updL g [(0, v0_0.v), (1, (.int .i64 c26)), (5, (.int .i64 c27))] ∧ Ent cs' [cown (OwnS 22 (OwnS 3 (roE rdInt))) F25 v0_0.v c24] ∧ l_markIntSS_L1 m28 c24 c26 c27 = some R) ⟨_, _, _, _, F0_0, eqA, entA, hF⟩ ?_)
  clear hF
  rintro m28 _ _ ⟨g29, c24, c26, c27, F25, rfl, hE, hF⟩
  refine K_ent hE ?_
  clear hE
  rcases m28 with _ | m28
  · rw [l_markIntSS_L1] at hF
    exact absurd hF (by simp)
  rw [l_markIntSS_L1] at hF
  iterate 7 refine au ?_
  refine Cc (fun hb49 => ?_) (fun hb49 => ?_)
  · rw [if_pos hb49] at hF
    iterate 5 refine au ?_
    obtain ⟨x39, hx40, hF⟩ := bind_some hF
    have hi38 := ix_chk hx40
    obtain ⟨hp41, hx42⟩ := ix_some hx40
    refine C_idxO sl110.h ty22.h.sz (.tmp rfl rfl) (.tmp rfl rfl) .h hi38 (fun k36 hk37 => ?_)
    refine C_ldOV ag22.h (.tmp rfl rfl) .h hk37 hx42 pt22_0 (fun w43 => ?_)
    refine au ?_
    obtain ⟨r44, hx45, hF⟩ := bind_some hF
    obtain ⟨z47, hx48, hF⟩ := bind_some hF
    replace hx48 := Option.some.inj hx48
    refine C_x1 (.cons .h .nil) (X_part hx42 pt22_0 (fun Fw => X_callS cf45.h (.cons (.tmp rfl rfl) (.cons (.tmp rfl rfl) .nil)) (l_markIntS_ok x39 w43 Fw c26 _ hx45)) rfl) (fun p46 => ?_)
    rw [hx48]
    iterate 7 refine au ?_
    exact ⟨m28, Nat.lt_succ_self _, _, _, _, _, p46.2, eqA, entA, hF⟩
  rw [if_neg (nt hb49)] at hF
  iterate 9 refine au ?_
  cases hF
  exact Er F25

/-! laws.markIntSSS -/
def l_markIntSSS_L1 : Nat → (List (List (List Int))) → Int → Int → Option (Int × (List (List (List Int))))
  | 0, _, _, _ => none
  | m28 + 1, c24, c26, c27 => if (decide ((c27 : Int) < (c24.length : Int))) then (
      (ix c24 c27).bind fun x39 =>
      (l_markIntSS x39 c26).bind fun r44 =>
      (some (c24.set (c27).toNat r44.2)).bind fun z47 =>
      l_markIntSSS_L1 m28 z47 r44.1 (IntKind.i64.wrap (c27 + 1)))
    else (
      some (c26, c24))
def l_markIntSSS (a_a : List (List (List Int))) (a_k : Int) : Option (Int × (List (List (List Int)))) :=
  l_markIntSSS_L1 (((a_a.length : Int) - 0).toNat + 2) a_a a_k 0
theorem l_markIntSSS_ok (a_a : List (List (List Int))) (v0_0 : Sv) (F0_0 : List Nat) (a_k : Int) (R : Int × (List (List (List Int)))) (hF : l_markIntSSS a_a a_k = some R) :
    Fw.Spec Tryz.prog 51 [v0_0.v, (.int .i64 a_k)] [cown (OwnS 110 (OwnS 22 (OwnS 3 (roE rdInt)))) F0_0 v0_0.v a_a] (fun _ : List Nat => (.int .i64 R.1)) (fun p => [cown (OwnS 110 (OwnS 22 (OwnS 3 (roE rdInt)))) p v0_0.v R.2]) := by
  refine Spec_enter (n := 19) Tryz.func51 rfl rfl (rs := [.tmp 4]) rfl rfl rfl ?_
  intro H0 F0
  unfold l_markIntSSS at hF
  iterate 7 refine au ?_
  refine CW_block (CW_loop (m := (((a_a.length : Int) - 0).toNat + 2)) (fun m28 f' cs' => ∃ (g : Fr) (c24 : List (List (List Int))) (c26 : Int) (c27 : Int) (F25 : List Nat), f' = updL g [(0, v0_0.v), (1, (.int .i64 c26)), (5, (.int .i64 c27))] ∧ Ent cs' [cown (OwnS 110 (OwnS 22 (OwnS 3 (roE rdInt)))) F25 v0_0.v c24] ∧ l_markIntSSS_L1 m28 c24 c26 c27 = some R) ⟨_, _, _, _, F0_0, eqA, entA, hF⟩ ?_)
  clear hF
  rintro m28 _ _ ⟨g29, c24, c26, c27, F25, rfl, hE, hF⟩
  refine K_ent hE ?_
  clear hE
  rcases m28 with _ | m28
  · rw [l_markIntSSS_L1] at hF
    exact absurd hF (by simp)
  rw [l_markIntSSS_L1] at hF
  iterate 7 refine au ?_
  refine Cc (fun hb49 => ?_) (fun hb49 => ?_)
  · rw [if_pos hb49] at hF
    iterate 5 refine au ?_
    obtain ⟨x39, hx40, hF⟩ := bind_some hF
    have hi38 := ix_chk hx40
    obtain ⟨hp41, hx42⟩ := ix_some hx40
    refine C_idxO sl32.h ty110.h.sz (.tmp rfl rfl) (.tmp rfl rfl) .h hi38 (fun k36 hk37 => ?_)
    refine C_ldOV ag110.h (.tmp rfl rfl) .h hk37 hx42 pt110_0 (fun w43 => ?_)
    refine au ?_
    obtain ⟨r44, hx45, hF⟩ := bind_some hF
    obtain ⟨z47, hx48, hF⟩ := bind_some hF
    replace hx48 := Option.some.inj hx48
    refine C_x1 (.cons .h .nil) (X_part hx42 pt110_0 (fun Fw => X_callS cf121.h (.cons (.tmp rfl rfl) (.cons (.tmp rfl rfl) .nil)) (l_markIntSS_ok x39 w43 Fw c26 _ hx45)) rfl) (fun p46 => ?_)
    rw [hx48]
    iterate 7 refine au ?_
    exact ⟨m28, Nat.lt_succ_self _, _, _, _, _, p46.2, eqA, entA, hF⟩
  rw [if_neg (nt hb49)] at hF
  iterate 9 refine au ?_
  cases hF
  exact Er F25

/-! laws.markMediator -/
def l_markMediator (a_a : Mediator) (a_k : Int) : Option (Int × Mediator) :=
  (l_markIntS a_a.Schema a_k).bind fun r2 =>
  (l_markMethodS a_a.Methods r2.1).bind fun r5 =>
  (l_markRuleS a_a.Rules r5.1).bind fun r8 =>
  (l_markSource a_a.Source r8.1).bind fun r11 =>
  (l_markCache a_a.Cache r11.1).bind fun r14 =>
  (l_markAccessS a_a.Log r14.1).bind fun r17 =>
  (l_markIntS a_a.Times r17.1).bind fun r20 =>
  (l_markIntSSS a_a.Results r20.1).bind fun r23 =>
  some (r23.1, ({ Schema := r2.2, Methods := r5.2, Rules := r8.2, Source := ({ Facts := r11.2.Facts, Version := a_a.Source.Version } : Source), Cache := ({ Entries := r14.2.Entries, Age := a_a.Cache.Age } : Cache), Now := a_a.Now, Log := r17.2, Times := r20.2, Spent := a_a.Spent, Results := r23.2 } : Mediator))
theorem l_markMediator_ok (a_a : Mediator) (v0_0 : Sv) (F0_0 : List Nat) (v0_1 : Sv) (F0_1 : List Nat) (v0_2 : Sv) (F0_2 : List Nat) (v0_3 : Sv) (F0_3 : List Nat) (v0_5 : Sv) (F0_5 : List Nat) (v0_8 : Sv) (F0_8 : List Nat) (v0_9 : Sv) (F0_9 : List Nat) (v0_11 : Sv) (F0_11 : List Nat) (a_k : Int) (R : Int × Mediator) (hF : l_markMediator a_a a_k = some R) :
    Fw.Spec Tryz.prog 12 [(.agg [v0_0.v, v0_1.v, v0_2.v, v0_3.v, (.int .i64 a_a.Source.Version), v0_5.v, (.int .i64 a_a.Cache.Age), (.int .i64 a_a.Now), v0_8.v, v0_9.v, (.int .i64 a_a.Spent), v0_11.v].toArray), (.int .i64 a_k)] [cown (OwnS 3 (roE rdInt)) F0_0 v0_0.v a_a.Schema, cown (OwnS 114 ow114) F0_1 v0_1.v a_a.Methods, cown (OwnS 116 ow116) F0_2 v0_2.v a_a.Rules, cown (OwnS 55 ow55) F0_3 v0_3.v a_a.Source.Facts, cown (OwnS 156 ow156) F0_5 v0_5.v a_a.Cache.Entries, cown (OwnS 124 ow124) F0_8 v0_8.v a_a.Log, cown (OwnS 3 (roE rdInt)) F0_9 v0_9.v a_a.Times, cown (OwnS 110 (OwnS 22 (OwnS 3 (roE rdInt)))) F0_11 v0_11.v a_a.Results] (fun _ : List Nat × List Nat × List Nat × List Nat × List Nat × List Nat × List Nat × List Nat => (.int .i64 R.1)) (fun p => [cown (OwnS 3 (roE rdInt)) p.1 v0_0.v R.2.Schema, cown (OwnS 114 ow114) p.2.1 v0_1.v R.2.Methods, cown (OwnS 116 ow116) p.2.2.1 v0_2.v R.2.Rules, cown (OwnS 55 ow55) p.2.2.2.1 v0_3.v R.2.Source.Facts, cown (OwnS 156 ow156) p.2.2.2.2.1 v0_5.v R.2.Cache.Entries, cown (OwnS 124 ow124) p.2.2.2.2.2.1 v0_8.v R.2.Log, cown (OwnS 3 (roE rdInt)) p.2.2.2.2.2.2.1 v0_9.v R.2.Times, cown (OwnS 110 (OwnS 22 (OwnS 3 (roE rdInt)))) p.2.2.2.2.2.2.2 v0_11.v R.2.Results]) := by
  refine Spec_enter (n := 38) Tryz.func12 rfl rfl (rs := [.tmp 4]) rfl rfl rfl ?_
  intro H0 F0
  unfold l_markMediator at hF
  refine au ?_
  refine C_newR rfl (N_box (g := false) (v := (.agg [v0_0.v, v0_1.v, v0_2.v, v0_3.v, (.int .i64 a_a.Source.Version), v0_5.v, (.int .i64 a_a.Cache.Age), (.int .i64 a_a.Now), v0_8.v, v0_9.v, (.int .i64 a_a.Spent), v0_11.v].toArray)) ty51.h.sz (.tmp rfl rfl) rfl) (fun k1 => ?_)
  iterate 6 refine au ?_
  obtain ⟨r2, hx3, hF⟩ := bind_some hF
  refine C_x1 (.cons (.t .h) .nil) (X_callS cf45.h (.cons (.tmp rfl rfl) (.cons (.tmp rfl rfl) .nil)) (l_markIntS_ok a_a.Schema v0_0 F0_0 a_k _ hx3)) (fun p4 => ?_)
  iterate 6 refine au ?_
  obtain ⟨r5, hx6, hF⟩ := bind_some hF
  refine C_x1 (.cons (.t (.t .h)) .nil) (X_callS cf46.h (.cons (.tmp rfl rfl) (.cons (.tmp rfl rfl) .nil)) (l_markMethodS_ok a_a.Methods v0_1 F0_1 r2.1 _ hx6)) (fun p7 => ?_)
  iterate 6 refine au ?_
  obtain ⟨r8, hx9, hF⟩ := bind_some hF
  refine C_x1 (.cons (.t (.t (.t .h))) .nil) (X_callS cf47.h (.cons (.tmp rfl rfl) (.cons (.tmp rfl rfl) .nil)) (l_markRuleS_ok a_a.Rules v0_2 F0_2 r5.1 _ hx9)) (fun p10 => ?_)
  iterate 4 refine au ?_
  refine C_at (.t (.t (.t .h))) (fun hp => V_loadA (s := 2) (l := [v0_3.v, (.int .i64 a_a.Source.Version)]) ag45.h ty45.h.sz (.tmp rfl rfl) hp.2 rfl (by decide) (Nat.le_of_ble_eq_true rfl) rfl) ?_
  refine au ?_
  obtain ⟨r11, hx12, hF⟩ := bind_some hF
  refine C_x1 (.cons (.t (.t (.t (.t .h)))) .nil) (X_callS cf48.h (.cons (.tmp rfl rfl) (.cons (.tmp rfl rfl) .nil)) (l_markSource_ok a_a.Source v0_3 F0_3 r8.1 _ hx12)) (fun p13 => ?_)
  iterate 4 refine au ?_
  refine C_at (.t (.t (.t (.t .h)))) (fun hp => V_loadA (s := 2) (l := [v0_5.v, (.int .i64 a_a.Cache.Age)]) ag48.h ty48.h.sz (.tmp rfl rfl) hp.2 rfl (by decide) (Nat.le_of_ble_eq_true rfl) rfl) ?_
  refine au ?_
  obtain ⟨r14, hx15, hF⟩ := bind_some hF
  refine C_x1 (.cons (.t (.t (.t (.t (.t .h))))) .nil) (X_callS cf49.h (.cons (.tmp rfl rfl) (.cons (.tmp rfl rfl) .nil)) (l_markCache_ok a_a.Cache v0_5 F0_5 r11.1 _ hx15)) (fun p16 => ?_)
  iterate 6 refine au ?_
  obtain ⟨r17, hx18, hF⟩ := bind_some hF
  refine C_x1 (.cons (.t (.t (.t (.t (.t (.t .h)))))) .nil) (X_callS cf50.h (.cons (.tmp rfl rfl) (.cons (.tmp rfl rfl) .nil)) (l_markAccessS_ok a_a.Log v0_8 F0_8 r14.1 _ hx18)) (fun p19 => ?_)
  iterate 6 refine au ?_
  obtain ⟨r20, hx21, hF⟩ := bind_some hF
  refine C_x1 (.cons (.t (.t (.t (.t (.t (.t (.t .h))))))) .nil) (X_callS cf45.h (.cons (.tmp rfl rfl) (.cons (.tmp rfl rfl) .nil)) (l_markIntS_ok a_a.Times v0_9 F0_9 r17.1 _ hx21)) (fun p22 => ?_)
  iterate 6 refine au ?_
  obtain ⟨r23, hx24, hF⟩ := bind_some hF
  refine C_x1 (.cons (.t (.t (.t (.t (.t (.t (.t (.t .h)))))))) .nil) (X_callS cf51.h (.cons (.tmp rfl rfl) (.cons (.tmp rfl rfl) .nil)) (l_markIntSSS_ok a_a.Results v0_11 F0_11 r20.1 _ hx24)) (fun p25 => ?_)
  iterate 7 refine au ?_
  obtain rfl := Option.some.inj hF
  exact End_ret (p4, p7, p10, p13, p16, p19, p22, p25) (.tmp rfl rfl .nil) rfl (.sel (.cons (.t (.t (.t (.t (.t (.t (.t .h))))))) (.cons (.t (.t (.t (.t (.t (.t .h)))))) (.cons (.t (.t (.t (.t (.t .h))))) (.cons (.t (.t (.t (.t .h)))) (.cons (.t (.t (.t .h))) (.cons (.t (.t .h)) (.cons (.t .h) (.cons .h .nil)))))))))

/-! laws.markFact -/
def l_markFact (a_a : Fact) (a_k : Int) : Option (Int × Fact) :=
  (l_markIntS a_a.Values a_k).bind fun r2 =>
  some (r2.1, ({ Rel := a_a.Rel, Values := r2.2 } : Fact))
theorem l_markFact_ok (a_a : Fact) (v0_1 : Sv) (F0_1 : List Nat) (a_k : Int) (R : Int × Fact) (hF : l_markFact a_a a_k = some R) :
    Fw.Spec Tryz.prog 52 [(.agg [(.int .i64 a_a.Rel), v0_1.v].toArray), (.int .i64 a_k)] [cown (OwnS 3 (roE rdInt)) F0_1 v0_1.v a_a.Values] (fun _ : List Nat => (.int .i64 R.1)) (fun p => [cown (OwnS 3 (roE rdInt)) p v0_1.v R.2.Values]) := by
  refine Spec_enter (n := 10) Tryz.func52 rfl rfl (rs := [.tmp 4]) rfl rfl rfl ?_
  intro H0 F0
  unfold l_markFact at hF
  refine au ?_
  refine C_newR rfl (N_box (g := false) (v := (.agg [(.int .i64 a_a.Rel), v0_1.v].toArray)) ty55.h.sz (.tmp rfl rfl) rfl) (fun k1 => ?_)
  iterate 6 refine au ?_
  obtain ⟨r2, hx3, hF⟩ := bind_some hF
  refine C_x1 (.cons (.t .h) .nil) (X_callS cf45.h (.cons (.tmp rfl rfl) (.cons (.tmp rfl rfl) .nil)) (l_markIntS_ok a_a.Values v0_1 F0_1 a_k _ hx3)) (fun p4 => ?_)
  iterate 7 refine au ?_
  obtain rfl := Option.some.inj hF
  exact End_ret p4 (.tmp rfl rfl .nil) rfl (.sel (.cons .h .nil))

/-! laws.markChange -/
def l_markChange (a_a : Change) (a_k : Int) : Option (Int × Change) :=
  (l_markFact a_a.Fact a_k).bind fun r2 =>
  some (r2.1, ({ Add := a_a.Add, Fact := ({ Rel := a_a.Fact.Rel, Values := r2.2.Values } : Fact) } : Change))
theorem l_markChange_ok (a_a : Change) (v0_2 : Sv) (F0_2 : List Nat) (a_k : Int) (R : Int × Change) (hF : l_markChange a_a a_k = some R) :
    Fw.Spec Tryz.prog 13 [(.agg [(.bool a_a.Add), (.int .i64 a_a.Fact.Rel), v0_2.v].toArray), (.int .i64 a_k)] [cown (OwnS 3 (roE rdInt)) F0_2 v0_2.v a_a.Fact.Values] (fun _ : List Nat => (.int .i64 R.1)) (fun p => [cown (OwnS 3 (roE rdInt)) p v0_2.v R.2.Fact.Values]) := by
  refine Spec_enter (n := 10) Tryz.func13 rfl rfl (rs := [.tmp 4]) rfl rfl rfl ?_
  intro H0 F0
  unfold l_markChange at hF
  refine au ?_
  refine C_newR rfl (N_box (g := false) (v := (.agg [(.bool a_a.Add), (.int .i64 a_a.Fact.Rel), v0_2.v].toArray)) ty57.h.sz (.tmp rfl rfl) rfl) (fun k1 => ?_)
  iterate 4 refine au ?_
  refine C_at .h (fun hp => V_loadA (s := 2) (l := [(.int .i64 a_a.Fact.Rel), v0_2.v]) ag55.h ty55.h.sz (.tmp rfl rfl) hp.2 rfl (by decide) (Nat.le_of_ble_eq_true rfl) rfl) ?_
  refine au ?_
  obtain ⟨r2, hx3, hF⟩ := bind_some hF
  refine C_x1 (.cons (.t .h) .nil) (X_callS cf52.h (.cons (.tmp rfl rfl) (.cons (.tmp rfl rfl) .nil)) (l_markFact_ok a_a.Fact v0_2 F0_2 a_k _ hx3)) (fun p4 => ?_)
  iterate 7 refine au ?_
  obtain rfl := Option.some.inj hF
  exact End_ret p4 (.tmp rfl rfl .nil) rfl (.sel (.cons .h .nil))

/-! laws.heldIntS -/
def l_heldIntS_L1 : List Int → Nat → Int → Option (Int)
  | [], k5, c1 => some c1
  | x7 :: rest6, k5, c1 => if ((x7 : Int) != c1) then (
      some (-1))
    else (
      l_heldIntS_L1 rest6 (k5 + 1) (IntKind.i64.wrap (c1 + 1)))
def l_heldIntS (a_a : List Int) (a_k : Int) : Option (Int) :=
  l_heldIntS_L1 a_a 0 a_k
theorem l_heldIntS_ok (a_a : List Int) (v0_0 : Sv) (a_k : Int) (R : Int) (hF : l_heldIntS a_a a_k = some R) :
    Fw.Spec Tryz.prog 53 [v0_0.v, (.int .i64 a_k)] [crd (RdS 3 rdInt) v0_0.v a_a] (fun _ : Unit => (.int .i64 R)) (fun _ => []) := by
  refine Spec_enter (n := 21) Tryz.func53 rfl rfl (rs := [.tmp 4]) rfl rfl rfl ?_
  intro H0 F0
  unfold l_heldIntS at hF
  iterate 7 refine au ?_
  refine CW_block (CW_loop (m := a_a.length) (fun m3 f' cs' => ∃ (g : Fr) (k5 : Nat) (rest6 : List Int) (c1 : Int), m3 = rest6.length ∧ f' = updL g [(0, v0_0.v), (1, (.int .i64 c1)), (5, (.int .i64 (k5 : Int)))] ∧ List.drop k5 a_a = rest6 ∧ Ent cs' [crd (RdS 3 rdInt) v0_0.v a_a] ∧ l_heldIntS_L1 rest6 k5 c1 = some R) ⟨_, 0, _, _, rfl, eqA, rfl, entA, hF⟩ ?_)
  clear hF
  rintro m3 _ _ ⟨g4, k5, rest6, c1, rfl, rfl, hd8, hE, hF⟩
  refine K_ent hE ?_
  clear hE
  refine K_pure (c := crd (RdS 3 rdInt) v0_0.v a_a) .h crd_bound (fun hbd13 => ?_)
  rcases rest6 with _ | ⟨x7, rest6⟩
  · have hk9 := List.drop_eq_nil_iff.1 hd8
    rw [l_heldIntS_L1] at hF
    iterate 7 refine au ?_
    refine CdF ?_
    iterate 9 refine au ?_
    cases hF
    exact Er ()
  obtain ⟨hk9, hx10, hd11⟩ := drop_cons hd8
  rw [l_heldIntS_L1] at hF
  iterate 7 refine au ?_
  refine CdT ?_
  iterate 6 refine au ?_
  refine Ai hx10 (fun k14 j15 => ?_)
  refine Al ls3_0 ?_
  iterate 3 refine au ?_
  refine Cc (fun hb17 => ?_) (fun hb17 => ?_)
  · rw [if_pos hb17] at hF
    iterate 4 refine au ?_
    cases hF
    exact Er ()
  rw [if_neg (nt hb17)] at hF
  iterate 11 refine au ?_
  rw [wk k5]
  exact ⟨_, Nat.lt_succ_self _, _, k5 + 1, rest6, _, rfl, eqA, hd11, entA, hF⟩

/-! laws.heldMethodS -/
def l_heldMethodS_L1 : List Method → Nat → Int → Option (Int)
  | [], k5, c1 => some c1
  | x7 :: rest6, k5, c1 => if ((x7.Rel : Int) != c1) then (
      some (-1))
    else (
      (l_heldIntS x7.Inputs (IntKind.i64.wrap (c1 + 1))).bind fun r19 =>
      if (decide ((r19 : Int) < 0)) then (
        some (-1))
      else (
        if ((x7.Limit : Int) != r19) then (
          some (-1))
        else (
          if ((x7.Cost : Int) != (IntKind.i64.wrap (r19 + 1))) then (
            some (-1))
          else (
            if ((x7.Quota : Int) != (IntKind.i64.wrap ((IntKind.i64.wrap (r19 + 1)) + 1))) then (
              some (-1))
            else (
              l_heldMethodS_L1 rest6 (k5 + 1) (IntKind.i64.wrap ((IntKind.i64.wrap ((IntKind.i64.wrap (r19 + 1)) + 1)) + 1)))))))
def l_heldMethodS (a_a : List Method) (a_k : Int) : Option (Int) :=
  l_heldMethodS_L1 a_a 0 a_k
theorem l_heldMethodS_ok (a_a : List Method) (v0_0 : Sv) (a_k : Int) (R : Int) (hF : l_heldMethodS a_a a_k = some R) :
    Fw.Spec Tryz.prog 54 [v0_0.v, (.int .i64 a_k)] [crd (RdS 114 rd114) v0_0.v a_a] (fun _ : Unit => (.int .i64 R)) (fun _ => []) := by
  refine Spec_enter (n := 58) Tryz.func54 rfl rfl (rs := [.tmp 4]) rfl rfl rfl ?_
  intro H0 F0
  unfold l_heldMethodS at hF
  iterate 7 refine au ?_
  refine CW_block (CW_loop (m := a_a.length) (fun m3 f' cs' => ∃ (g : Fr) (k5 : Nat) (rest6 : List Method) (c1 : Int), m3 = rest6.length ∧ f' = updL g [(0, v0_0.v), (1, (.int .i64 c1)), (5, (.int .i64 (k5 : Int)))] ∧ List.drop k5 a_a = rest6 ∧ Ent cs' [crd (RdS 114 rd114) v0_0.v a_a] ∧ l_heldMethodS_L1 rest6 k5 c1 = some R) ⟨_, 0, _, _, rfl, eqA, rfl, entA, hF⟩ ?_)
  clear hF
  rintro m3 _ _ ⟨g4, k5, rest6, c1, rfl, rfl, hd8, hE, hF⟩
  refine K_ent hE ?_
  clear hE
  refine K_pure (c := crd (RdS 114 rd114) v0_0.v a_a) .h crd_bound (fun hbd13 => ?_)
  rcases rest6 with _ | ⟨x7, rest6⟩
  · have hk9 := List.drop_eq_nil_iff.1 hd8
    rw [l_heldMethodS_L1] at hF
    iterate 7 refine au ?_
    refine CdF ?_
    iterate 9 refine au ?_
    cases hF
    exact Er ()
  obtain ⟨hk9, hx10, hd11⟩ := drop_cons hd8
  rw [l_heldMethodS_L1] at hF
  iterate 7 refine au ?_
  refine CdT ?_
  iterate 6 refine au ?_
  refine Ai hx10 (fun k14 j15 => ?_)
  refine au ?_
  refine Al ls114_0 ?_
  iterate 3 refine au ?_
  refine Cc (fun hb33 => ?_) (fun hb33 => ?_)
  · rw [if_pos hb33] at hF
    iterate 4 refine au ?_
    cases hF
    exact Er ()
  rw [if_neg (nt hb33)] at hF
  iterate 9 refine au ?_
  refine Ai hx10 (fun k16 j17 => ?_)
  refine au ?_
  refine C_ldV (R' := (RdS 3 rdInt)) ag22.h (.tmp rfl rfl) .h lv114_1 (fun w18 => ?_)
  refine au ?_
  obtain ⟨r19, hx20, hF⟩ := bind_some hF
  refine Cx0 (l_heldIntS_ok _ _ _ _ hx20) (fun _ => ?_)
  iterate 7 refine au ?_
  refine Cc (fun hb32 => ?_) (fun hb32 => ?_)
  · rw [if_pos hb32] at hF
    iterate 4 refine au ?_
    cases hF
    exact Er ()
  rw [if_neg (nt hb32)] at hF
  iterate 5 refine au ?_
  refine Ai hx10 (fun k22 j23 => ?_)
  refine au ?_
  refine Al ls114_2 ?_
  iterate 3 refine au ?_
  refine Cc (fun hb31 => ?_) (fun hb31 => ?_)
  · rw [if_pos hb31] at hF
    iterate 4 refine au ?_
    cases hF
    exact Er ()
  rw [if_neg (nt hb31)] at hF
  iterate 10 refine au ?_
  refine Ai hx10 (fun k24 j25 => ?_)
  refine au ?_
  refine Al ls114_3 ?_
  iterate 3 refine au ?_
  refine Cc (fun hb30 => ?_) (fun hb30 => ?_)
  · rw [if_pos hb30] at hF
    iterate 4 refine au ?_
    cases hF
    exact Er ()
  rw [if_neg (nt hb30)] at hF
  iterate 10 refine au ?_
  refine Ai hx10 (fun k26 j27 => ?_)
  refine au ?_
  refine Al ls114_4 ?_
  iterate 3 refine au ?_
  refine Cc (fun hb29 => ?_) (fun hb29 => ?_)
  · rw [if_pos hb29] at hF
    iterate 4 refine au ?_
    cases hF
    exact Er ()
  rw [if_neg (nt hb29)] at hF
  iterate 11 refine au ?_
  rw [wk k5]
  exact ⟨_, Nat.lt_succ_self _, _, k5 + 1, rest6, _, rfl, eqA, hd11, entA, hF⟩

/-! laws.heldRuleS -/
def l_heldRuleS_L1 : List Rule → Nat → Int → Option (Int)
  | [], k5, c1 => some c1
  | x7 :: rest6, k5, c1 => if ((x7.From : Int) != c1) then (
      some (-1))
    else (
      if ((x7.To : Int) != (IntKind.i64.wrap (c1 + 1))) then (
        some (-1))
      else (
        (l_heldIntS x7.Map (IntKind.i64.wrap ((IntKind.i64.wrap (c1 + 1)) + 1))).bind fun r21 =>
        if (decide ((r21 : Int) < 0)) then (
          some (-1))
        else (
          l_heldRuleS_L1 rest6 (k5 + 1) r21)))
def l_heldRuleS (a_a : List Rule) (a_k : Int) : Option (Int) :=
  l_heldRuleS_L1 a_a 0 a_k
theorem l_heldRuleS_ok (a_a : List Rule) (v0_0 : Sv) (a_k : Int) (R : Int) (hF : l_heldRuleS a_a a_k = some R) :
    Fw.Spec Tryz.prog 55 [v0_0.v, (.int .i64 a_k)] [crd (RdS 116 rd116) v0_0.v a_a] (fun _ : Unit => (.int .i64 R)) (fun _ => []) := by
  refine Spec_enter (n := 40) Tryz.func55 rfl rfl (rs := [.tmp 4]) rfl rfl rfl ?_
  intro H0 F0
  unfold l_heldRuleS at hF
  iterate 7 refine au ?_
  refine CW_block (CW_loop (m := a_a.length) (fun m3 f' cs' => ∃ (g : Fr) (k5 : Nat) (rest6 : List Rule) (c1 : Int), m3 = rest6.length ∧ f' = updL g [(0, v0_0.v), (1, (.int .i64 c1)), (5, (.int .i64 (k5 : Int)))] ∧ List.drop k5 a_a = rest6 ∧ Ent cs' [crd (RdS 116 rd116) v0_0.v a_a] ∧ l_heldRuleS_L1 rest6 k5 c1 = some R) ⟨_, 0, _, _, rfl, eqA, rfl, entA, hF⟩ ?_)
  clear hF
  rintro m3 _ _ ⟨g4, k5, rest6, c1, rfl, rfl, hd8, hE, hF⟩
  refine K_ent hE ?_
  clear hE
  refine K_pure (c := crd (RdS 116 rd116) v0_0.v a_a) .h crd_bound (fun hbd13 => ?_)
  rcases rest6 with _ | ⟨x7, rest6⟩
  · have hk9 := List.drop_eq_nil_iff.1 hd8
    rw [l_heldRuleS_L1] at hF
    iterate 7 refine au ?_
    refine CdF ?_
    iterate 9 refine au ?_
    cases hF
    exact Er ()
  obtain ⟨hk9, hx10, hd11⟩ := drop_cons hd8
  rw [l_heldRuleS_L1] at hF
  iterate 7 refine au ?_
  refine CdT ?_
  iterate 6 refine au ?_
  refine Ai hx10 (fun k14 j15 => ?_)
  refine au ?_
  refine Al ls116_0 ?_
  iterate 3 refine au ?_
  refine Cc (fun hb27 => ?_) (fun hb27 => ?_)
  · rw [if_pos hb27] at hF
    iterate 4 refine au ?_
    cases hF
    exact Er ()
  rw [if_neg (nt hb27)] at hF
  iterate 10 refine au ?_
  refine Ai hx10 (fun k16 j17 => ?_)
  refine au ?_
  refine Al ls116_1 ?_
  iterate 3 refine au ?_
  refine Cc (fun hb26 => ?_) (fun hb26 => ?_)
  · rw [if_pos hb26] at hF
    iterate 4 refine au ?_
    cases hF
    exact Er ()
  rw [if_neg (nt hb26)] at hF
  iterate 9 refine au ?_
  refine Ai hx10 (fun k18 j19 => ?_)
  refine au ?_
  refine C_ldV (R' := (RdS 3 rdInt)) ag22.h (.tmp rfl rfl) .h lv116_2 (fun w20 => ?_)
  refine au ?_
  obtain ⟨r21, hx22, hF⟩ := bind_some hF
  refine Cx0 (l_heldIntS_ok _ _ _ _ hx22) (fun _ => ?_)
  iterate 6 refine au ?_
  refine Cc (fun hb25 => ?_) (fun hb25 => ?_)
  · rw [if_pos hb25] at hF
    iterate 4 refine au ?_
    cases hF
    exact Er ()
  rw [if_neg (nt hb25)] at hF
  iterate 6 refine au ?_
  rw [wk k5]
  exact ⟨_, Nat.lt_succ_self _, _, k5 + 1, rest6, _, rfl, eqA, hd11, entA, hF⟩

end Go.Proofs.YtelpifelhmfdmaaGreat
