/-
  Functions of the program as Lean functions, and that the calls return what these say: part 3. No conditions.
-/
import Derived.Shelf.Sort.Plain
import Derived.Shelf.Slices.In.SortNone
import Derived.Shelf.Slices.CompactI
import Derived.Test.YtndckmfbndmkhabGreatFnMaximalsG1
import Derived.KernelRfl
set_option maxRecDepth 100000
set_option maxHeartbeats 1000000
set_option linter.unusedVariables false
namespace Go.Proofs.YtndckmfbndmkhabGreat
open Go Go.Fw

def g_slices_IndexFunc_int_int_ihasTuple1_L1 (a_e1 : List Int) : List (List Int) → Nat → Option (Int)
 | [], k4 => some (-1)
 | x6 :: rest5, k4 => (i_hasTuple_1 x6 a_e1).bind fun r16 =>
   if r16 then (
     some (k4 : Int))
   else (
     g_slices_IndexFunc_int_int_ihasTuple1_L1 a_e1 rest5 (k4 + 1))
def g_slices_IndexFunc_int_int_ihasTuple1 (a_s : List (List Int)) (a_e1 : List Int) : Option (Int) :=
 g_slices_IndexFunc_int_int_ihasTuple1_L1 a_e1 a_s 0
theorem g_slices_IndexFunc_int_int_ihasTuple1_ok (a_s : List (List Int)) (v0_0 : Sv) (kc1 : Nat) (a_e1 : List Int) (vc1_0 : Sv) (R : Int) (hF : g_slices_IndexFunc_int_int_ihasTuple1 a_s a_e1 = some R) :
   Fw.Spec Tryz.prog 203 [v0_0.v, (.func (.func 205) [].toArray [(pz kc1)].toArray)] [crd (RdS 24 (RdS 3 rdInt)) v0_0.v a_s, cboR kc1 24 vc1_0.v, crd (RdS 3 rdInt) vc1_0.v a_e1] (fun _ : Unit => (.int .i64 R)) (fun _ => []) := by
 refine Se 19 Tryz.func203 [.tmp 4] ?_
 intro H0 F0
 unfold g_slices_IndexFunc_int_int_ihasTuple1 at hF
 iterate 9 refine au ?_
 refine CW_block (CW_loop (m := a_s.length) (fun m2 f' cs' => ∃ (g : Fr) (k4 : Nat) (rest5 : List (List Int)), m2 = rest5.length ∧ f' = updL g [(0, v0_0.v), (1, (.func (.func 205) [].toArray [(pz kc1)].toArray)), (7, (.int .i64 (a_s.length : Int))), (8, (.int .i64 (k4 : Int)))] ∧ List.drop k4 a_s = rest5 ∧ Ent cs' [crd (RdS 24 (RdS 3 rdInt)) v0_0.v a_s, cboR kc1 24 vc1_0.v, crd (RdS 3 rdInt) vc1_0.v a_e1] ∧ g_slices_IndexFunc_int_int_ihasTuple1_L1 a_e1 rest5 k4 = some R) ⟨_, 0, _, rfl, eqA, rfl, entA, hF⟩ ?_)
 rintro m2 _ _ ⟨g3, k4, rest5, rfl, rfl, hd7, hE, hF⟩
 refine Kb hE a_s (fun hbd12 => ?_)
 rcases rest5 with _ | ⟨x6, rest5⟩
 · have hk8 := dn hd7
   rw [g_slices_IndexFunc_int_int_ihasTuple1_L1] at hF
   iterate 4 refine au ?_
   refine CdF ?_
   iterate 8 refine au ?_
   cases hF
   exact Er ()
 obtain ⟨hk8, hx9, hd10⟩ := drop_cons hd7
 rw [g_slices_IndexFunc_int_int_ihasTuple1_L1] at hF
 iterate 4 refine au ?_
 refine CdT ?_
 iterate 10 refine au ?_
 refine Ai hx9 (fun k13 j14 => ?_)
 refine C_ldV (R' := (RdS 3 rdInt)) ag24.h (.tmp rfl rfl) .h lv24_0 (fun w15 => ?_)
 refine bnd hF fun r16 hx17 hF => C_x0 (.rd .h rfl (.rd (.t (.t (.t .h))) rfl (.rd (.t (.t (.t (.t .h)))) rfl .nil))) (X_callCS cf205.h (.tmp rfl rfl) (.cons (.tmp rfl rfl) .nil) (i_hasTuple_1_ok x6 w15 kc1 a_e1 vc1_0 _ hx17)) (fun _ => ?_)
 refine au ?_
 refine Ci hF (fun hb20 hF => ?_) (fun hb20 hF => ?_)
 · iterate 5 refine au ?_
   cases hF
   exact Er ()
 iterate 5 refine au ?_
 rw [wk k4]
 exact ⟨_, Nat.lt_succ_self _, _, k4 + 1, rest5, rfl, eqA, hd10, entA, hF⟩
def g_slices_ContainsFunc_int_int_ihasTuple1 (a_s : List (List Int)) (a_e1 : List Int) : Option (Bool) :=
 (g_slices_IndexFunc_int_int_ihasTuple1 a_s a_e1).bind fun r1 =>
 some (decide ((0 : Int) ≤ r1))
theorem g_slices_ContainsFunc_int_int_ihasTuple1_ok (a_s : List (List Int)) (v0_0 : Sv) (kc1 : Nat) (a_e1 : List Int) (vc1_0 : Sv) (R : Bool) (hF : g_slices_ContainsFunc_int_int_ihasTuple1 a_s a_e1 = some R) :
   Fw.Spec Tryz.prog 204 [v0_0.v, (.func (.func 205) [].toArray [(pz kc1)].toArray)] [crd (RdS 24 (RdS 3 rdInt)) v0_0.v a_s, cboR kc1 24 vc1_0.v, crd (RdS 3 rdInt) vc1_0.v a_e1] (fun _ : Unit => (.bool R)) (fun _ => []) := by
 refine Se 9 Tryz.func204 [.tmp 4] ?_
 intro H0 F0
 unfold g_slices_ContainsFunc_int_int_ihasTuple1 at hF
 iterate 6 refine au ?_
 refine bnd hF fun r1 hx2 hF => Cx0 (g_slices_IndexFunc_int_int_ihasTuple1_ok _ _ _ _ _ _ hx2) (fun _ => ?_)
 iterate 4 refine au ?_
 cases hF
 exact Er ()
def i_hasTuple (a_l : List (List Int)) (a_t : List Int) : Option (Bool) :=
 (g_slices_ContainsFunc_int_int_ihasTuple1 a_l a_t).bind fun r2 =>
 some r2
theorem i_hasTuple_ok (a_l : List (List Int)) (v0_0 : Sv) (a_t : List Int) (v1_0 : Sv) (R : Bool) (hF : i_hasTuple a_l a_t = some R) :
   Fw.Spec Tryz.prog 140 [v0_0.v, v1_0.v] [crd (RdS 24 (RdS 3 rdInt)) v0_0.v a_l, crd (RdS 3 rdInt) v1_0.v a_t] (fun _ : Unit => (.bool R)) (fun _ => []) := by
 refine Se 8 Tryz.func140 [.tmp 4] ?_
 intro H0 F0
 unfold i_hasTuple at hF
 refine au ?_
 refine AbR (fun k1 => ?_)
 iterate 4 refine au ?_
 refine C_val (V_makeFunc (fn := .func 205) (vs := []) (us := [(pz k1)]) .nil (.cons (.tmp rfl rfl) .nil)) ?_
 refine bnd hF fun r2 hx3 hF => Cx0 (g_slices_ContainsFunc_int_int_ihasTuple1_ok _ _ _ _ _ _ hx3) (fun _ => ?_)
 iterate 3 refine au ?_
 cases hF
 exact Er ()
def i_addedTuple_1 (a_x : List Int) (a_e1 : List Int) : Option (Bool) :=
 (g_slices_Compare_int_int a_x a_e1).bind fun r1 =>
 some (decide ((0 : Int) < r1))
theorem i_addedTuple_1_ok (a_x : List Int) (v0_0 : Sv) (kc1 : Nat) (a_e1 : List Int) (vc1_0 : Sv) (R : Bool) (hF : i_addedTuple_1 a_x a_e1 = some R) :
   Fw.Spec Tryz.prog 236 [v0_0.v, (pz kc1)] [crd (RdS 3 rdInt) v0_0.v a_x, cboR kc1 24 vc1_0.v, crd (RdS 3 rdInt) vc1_0.v a_e1] (fun _ : Unit => (.bool R)) (fun _ => []) := by
 refine Se 8 Tryz.func236 [.tmp 3] ?_
 intro H0 F0
 unfold i_addedTuple_1 at hF
 iterate 6 refine au ?_
 refine bnd hF fun r1 hx2 hF => Cx0 (g_slices_Compare_int_int_ok _ _ _ _ _ hx2) (fun _ => ?_)
 iterate 4 refine au ?_
 cases hF
 exact Er ()
def g_slices_IndexFunc_int_int_iaddedTuple1_L1 (a_e1 : List Int) : List (List Int) → Nat → Option (Int)
 | [], k4 => some (-1)
 | x6 :: rest5, k4 => (i_addedTuple_1 x6 a_e1).bind fun r16 =>
   if r16 then (
     some (k4 : Int))
   else (
     g_slices_IndexFunc_int_int_iaddedTuple1_L1 a_e1 rest5 (k4 + 1))
def g_slices_IndexFunc_int_int_iaddedTuple1 (a_s : List (List Int)) (a_e1 : List Int) : Option (Int) :=
 g_slices_IndexFunc_int_int_iaddedTuple1_L1 a_e1 a_s 0
theorem g_slices_IndexFunc_int_int_iaddedTuple1_ok (a_s : List (List Int)) (v0_0 : Sv) (kc1 : Nat) (a_e1 : List Int) (vc1_0 : Sv) (R : Int) (hF : g_slices_IndexFunc_int_int_iaddedTuple1 a_s a_e1 = some R) :
   Fw.Spec Tryz.prog 203 [v0_0.v, (.func (.func 236) [].toArray [(pz kc1)].toArray)] [crd (RdS 24 (RdS 3 rdInt)) v0_0.v a_s, cboR kc1 24 vc1_0.v, crd (RdS 3 rdInt) vc1_0.v a_e1] (fun _ : Unit => (.int .i64 R)) (fun _ => []) := by
 refine Se 19 Tryz.func203 [.tmp 4] ?_
 intro H0 F0
 unfold g_slices_IndexFunc_int_int_iaddedTuple1 at hF
 iterate 9 refine au ?_
 refine CW_block (CW_loop (m := a_s.length) (fun m2 f' cs' => ∃ (g : Fr) (k4 : Nat) (rest5 : List (List Int)), m2 = rest5.length ∧ f' = updL g [(0, v0_0.v), (1, (.func (.func 236) [].toArray [(pz kc1)].toArray)), (7, (.int .i64 (a_s.length : Int))), (8, (.int .i64 (k4 : Int)))] ∧ List.drop k4 a_s = rest5 ∧ Ent cs' [crd (RdS 24 (RdS 3 rdInt)) v0_0.v a_s, cboR kc1 24 vc1_0.v, crd (RdS 3 rdInt) vc1_0.v a_e1] ∧ g_slices_IndexFunc_int_int_iaddedTuple1_L1 a_e1 rest5 k4 = some R) ⟨_, 0, _, rfl, eqA, rfl, entA, hF⟩ ?_)
 rintro m2 _ _ ⟨g3, k4, rest5, rfl, rfl, hd7, hE, hF⟩
 refine Kb hE a_s (fun hbd12 => ?_)
 rcases rest5 with _ | ⟨x6, rest5⟩
 · have hk8 := dn hd7
   rw [g_slices_IndexFunc_int_int_iaddedTuple1_L1] at hF
   iterate 4 refine au ?_
   refine CdF ?_
   iterate 8 refine au ?_
   cases hF
   exact Er ()
 obtain ⟨hk8, hx9, hd10⟩ := drop_cons hd7
 rw [g_slices_IndexFunc_int_int_iaddedTuple1_L1] at hF
 iterate 4 refine au ?_
 refine CdT ?_
 iterate 10 refine au ?_
 refine Ai hx9 (fun k13 j14 => ?_)
 refine C_ldV (R' := (RdS 3 rdInt)) ag24.h (.tmp rfl rfl) .h lv24_0 (fun w15 => ?_)
 refine bnd hF fun r16 hx17 hF => C_x0 (.rd .h rfl (.rd (.t (.t (.t .h))) rfl (.rd (.t (.t (.t (.t .h)))) rfl .nil))) (X_callCS cf236.h (.tmp rfl rfl) (.cons (.tmp rfl rfl) .nil) (i_addedTuple_1_ok x6 w15 kc1 a_e1 vc1_0 _ hx17)) (fun _ => ?_)
 refine au ?_
 refine Ci hF (fun hb20 hF => ?_) (fun hb20 hF => ?_)
 · iterate 5 refine au ?_
   cases hF
   exact Er ()
 iterate 5 refine au ?_
 rw [wk k4]
 exact ⟨_, Nat.lt_succ_self _, _, k4 + 1, rest5, rfl, eqA, hd10, entA, hF⟩
def g_slices_Insert_int_int (a_s : List (List Int)) (a_i : Int) (a_v : List (List Int)) : Option (List (List Int)) :=
 match a_v with
 | [a] => if 0 ≤ a_i ∧ a_i.toNat ≤ a_s.length ∧ a_s.length + 1 < 4294967296 then some (a_s.take a_i.toNat ++ a :: a_s.drop a_i.toNat) else none
 | _ => none
set_option maxHeartbeats 4000000 in
theorem g_slices_Insert_int_int_raw (es : List Value) (e : Value) (v u : Sv) (F F2 : List Nat) (i : Nat) (hi : i ≤ es.length) (hb : es.length + 1 < 4294967296) : Fw.Spec Tryz.prog 237 [v.v, .int .i64 (i : Int), u.v] [cown (OwnS 24 (roE (rvs 1))) F v.v es, cown (OwnS 24 (roE (rvs 1))) F2 u.v [e]] (fun q : Sv × List Nat => q.1.v) (fun q => [cown (OwnS 24 (roE (rvs 1))) q.2 q.1.v (es.take i ++ e :: es.drop i)]) := by
 refine Spec_enter (n := 95) Tryz.func237 rfl rfl (rs := [.tmp 6]) rfl rfl rfl ?_
 intro H0 F0
 refine K_region ?_
 refine C_val (V_assign (v := (.slice none 0 0)) EV.nilSlice) ?_
 refine C_nil ?_
 refine K_region ?_
 refine C_val (V_move (v := v.v) (.tmp rfl rfl)) ?_
 refine C_val (V_move (v := (.int .i64 (i : Int))) (.tmp rfl rfl)) ?_
 refine C_x1 (.cons .h .nil) (X_sliceLoE sl54.h ty24.h.sz (.tmp rfl rfl) (.tmp rfl rfl) hi) (fun w0 => ?_)
 refine C_nil ?_
 refine K_region ?_
 refine C_val (V_move (v := u.v) (.tmp rfl rfl)) ?_
 refine C_at (.t .h) (fun hp => V_lenR (l := 1) sl54.h (.tmp rfl rfl) (cown_len hp)) ?_
 refine C_val (V_assign (v := (.int .i64 ((1 : Nat) : Int))) (.tmp rfl rfl)) ?_
 refine C_nil ?_
 refine K_in ?_
 refine K_region ?_
 refine C_val (V_move (v := (.int .i64 ((1 : Nat) : Int))) (.tmp rfl rfl)) ?_
 refine C_val (V_eql (i := ((1 : Nat) : Int)) (j := 0) (.tmp rfl rfl) (.int _ _)) ?_
 refine C_nil ?_
 refine CW_cond (b := (((1 : Nat) : Int) == 0)) (.tmp rfl rfl) (fun hb0 => absurd hb0 (by decide)) (fun _ => ?_)
 refine CW_skip ?_
 refine K_region ?_
 refine C_val (V_move (v := v.v) (.tmp rfl rfl)) ?_
 refine C_at .h (fun hp => V_lenR (l := es.length) sl54.h (.tmp rfl rfl) (cown_len hp)) ?_
 refine C_val (V_assign (v := (.int .i64 (es.length : Int))) (.tmp rfl rfl)) ?_
 refine C_nil ?_
 refine K_in ?_
 refine K_region ?_
 refine C_val (V_move (v := (.int .i64 (i : Int))) (.tmp rfl rfl)) ?_
 refine C_val (V_move (v := (.int .i64 (es.length : Int))) (.tmp rfl rfl)) ?_
 refine C_val (V_eql (i := (i : Int)) (j := (es.length : Int)) (.tmp rfl rfl) (.tmp rfl rfl)) ?_
 refine C_nil ?_
 refine CW_cond (b := ((i : Int) == (es.length : Int))) (.tmp rfl rfl) (fun hb1 => ?_) (fun hb1 => ?_)
 · have hie : i = es.length := by simp only [beq_iff_eq] at hb1; omega
   refine K_region ?_
   refine C_val (V_move (v := v.v) (.tmp rfl rfl)) ?_
   refine C_val (V_move (v := u.v) (.tmp rfl rfl)) ?_
   refine C_x1 (.cons .h (.cons .h .nil)) (X_appendO (Ro := (roE (rvs 1))) sl54.h ni54 ty24.h rfl rfl rfl (.tmp rfl rfl) (.tmp rfl rfl) (app_ok (xs := es) (ys := [e]) (by simpa using hb)) src_own) (fun p => ?_)
   refine C_val (V_assign (v := p.1.v) (.tmp rfl rfl)) ?_
   refine C_nil ?_
   refine CW_ret ?_
   rw [hie, List.take_length, List.drop_length]
   exact End_ret p (.tmp rfl rfl .nil) rfl (.sel (.cons .h .nil))
 refine CW_skip ?_
 have hlt : i < es.length := by simp at hb1; omega
 refine K_pure .h (own_form (by intro h; rw [h] at hlt; simp at hlt)) (fun hv => ?_)
 obtain ⟨k0, m0, rfl, hm0⟩ := hv
 refine K_pure (.t .h) (own_form (by simp)) (fun hu => ?_)
 obtain ⟨k1, m1, rfl, hm1⟩ := hu
 refine K_cap (t := 0) (k := k0) (l := es.length) (m := m0) rfl rfl hm0 (by omega) .h rfl (fun c hc => ?_)
 have w1 : IntKind.i64.wrap ((es.length : Int) + ((1 : Nat) : Int)) = ((es.length + 1 : Nat) : Int) := by rw [wrap_in (by omega) (by omega)]; rfl
 have w2 : IntKind.i64.wrap ((i : Int) + ((1 : Nat) : Int)) = ((i + 1 : Nat) : Int) := by rw [wrap_in (by omega) (by omega)]; rfl
 have w3 : IntKind.i64.wrap (((es.length + 1 : Nat) : Int) - (i : Int)) = ((es.length + 1 - i : Nat) : Int) := by rw [wrap_in (by omega) (by omega)]; omega
 have hel : (es.take i ++ e :: es.drop i).length = es.length + 1 := ins_len hi
 refine K_in ?_
 refine K_region ?_
 refine C_val (V_move (v := (.int .i64 (es.length : Int))) (.tmp rfl rfl)) ?_
 refine C_val (V_move (v := (.int .i64 ((1 : Nat) : Int))) (.tmp rfl rfl)) ?_
 refine C_val (V_add (i := (es.length : Int)) (j := ((1 : Nat) : Int)) (.tmp rfl rfl) (.tmp rfl rfl)) ?_
 rw [w1]
 refine C_val (V_move (v := (.slice (some ⟨k0, 0, none⟩) es.length (c + 3))) (.tmp rfl rfl)) ?_
 refine C_at .h (fun hp => V_capO sl54.h hp rfl (.tmp rfl rfl)) ?_
 refine C_val (V_gtr (i := ((es.length + 1 : Nat) : Int)) (j := (c : Int)) (.tmp rfl rfl) (.tmp rfl rfl)) ?_
 refine C_nil ?_
 refine CW_cond (b := (decide ((c : Int) < ((es.length + 1 : Nat) : Int)))) (.tmp rfl rfl) (fun hb2 => ?_) (fun hb2 => ?_)
 · have hcl : c < es.length + 1 := by simp only [decide_eq_true_eq] at hb2; omega
   refine K_region ?_
   refine C_val (V_move (v := (.slice (some ⟨k0, 0, none⟩) es.length (c + 3))) (.tmp rfl rfl)) ?_
   refine C_val (V_move (v := (.int .i64 (i : Int))) (.tmp rfl rfl)) ?_
   refine C_at .h (fun hp => V_sliceCapO (j := i) sl54.h ty24.h.sz hp rfl (.tmp rfl rfl) (.tmp rfl rfl) (by omega)) ?_
   refine C_val (V_move (v := (.int .i64 (es.length : Int))) (.tmp rfl rfl)) ?_
   refine C_val (V_move (v := (.int .i64 ((1 : Nat) : Int))) (.tmp rfl rfl)) ?_
   refine C_val (V_add (i := (es.length : Int)) (j := ((1 : Nat) : Int)) (.tmp rfl rfl) (.tmp rfl rfl)) ?_
   rw [w1]
   refine C_val (V_move (v := (.int .i64 (i : Int))) (.tmp rfl rfl)) ?_
   refine C_val (V_sub (i := ((es.length + 1 : Nat) : Int)) (j := (i : Int)) (.tmp rfl rfl) (.tmp rfl rfl)) ?_
   rw [w3]
   refine C_x2 (.cons .h .nil) (X_appendMake (c := c) (q := es.length + 1 - i) sl54.h ik3 ty24.h rfl rfl rfl rfl rfl rfl (.tmp rfl rfl) (.tmp rfl rfl) (by omega) (by omega) (by omega) (by omega)) (fun k2 => ?_)
   rw [show i + (es.length + 1 - i) = es.length + 1 from by omega]
   refine C_val (V_assign (v := (.slice (some ⟨k2, 0, none⟩) (es.length + 1) 2)) (.tmp rfl rfl)) ?_
   refine C_nil ?_
   refine K_region ?_
   refine C_val (V_move (v := (.slice (some ⟨k2, 0, none⟩) (es.length + 1) 2)) (.tmp rfl rfl)) ?_
   refine C_val (V_move (v := (.int .i64 (i : Int))) (.tmp rfl rfl)) ?_
   refine C_at .h (fun hp => V_sliceLoO (j := i) sl54.h ty24.h.sz hp rfl (.tmp rfl rfl) (.tmp rfl rfl) (by omega)) ?_
   refine C_val (V_move (v := (.slice (some ⟨k1, 0, none⟩) 1 m1)) (.tmp rfl rfl)) ?_
   refine C_x2 (.cons .h (.cons (.t .h) .nil)) (X_copy2 (m1 := 0) (m2 := m1) (ia := i) (ja := 0) (ld := es.length + 1 - i) (ls := 1) (es2 := [e]) (es' := es.take i ++ e :: List.replicate (es.length - i) (.slice none 0 0)) sl54.h ty24.h.sz rfl rfl rfl (by exact .tmp rfl rfl) (by exact .tmp rfl rfl) (by omega) (by omega) (by rw [List.length_singleton]; omega) (by simp; omega) (ins_l1 (e := e) (z := (.slice none 0 0)) hlt) (by simp; omega)) (fun _ => ?_)
   refine C_nil ?_
   refine K_draw [0, 1, 2, 3, 4, 5, 6, 7, 8] [0, 0, 0, 6, 15, 0, 0, 96, 255] [8] mixed (by decide +kernel) ?_
   refine D_val rfl .no (fun ha => V_move (v := (.slice (some ⟨k2, 0, none⟩) (es.length + 1) 2)) (EN ha (.tmp rfl rfl) rfl)) ?_
   refine D_val rfl .no (fun ha => V_move (v := (.int .i64 (i : Int))) (EN ha (.tmp rfl rfl) rfl)) ?_
   refine D_val rfl .no (fun ha => V_move (v := (.int .i64 ((1 : Nat) : Int))) (EN ha (.tmp rfl rfl) rfl)) ?_
   refine D_val rfl .no (fun ha => V_add (i := (i : Int)) (j := ((1 : Nat) : Int)) (EN ha (.tmp rfl rfl) rfl) (EN ha (.tmp rfl rfl) rfl)) ?_
   rw [w2]
   refine D_atO rfl .no .h (fun ha hp => V_sliceLoO (j := i + 1) sl54.h ty24.h.sz hp rfl (EN ha (.tmp rfl rfl) rfl) (EN ha (.tmp rfl rfl) rfl) (by omega)) ?_
   refine D_val rfl .no (fun ha => V_move (v := (.slice (some ⟨k0, 0, none⟩) es.length (c + 3))) (EN ha (.tmp rfl rfl) rfl)) ?_
   refine D_val rfl .no (fun ha => V_move (v := (.int .i64 (i : Int))) (EN ha (.tmp rfl rfl) rfl)) ?_
   refine D_atO rfl .no (.t (.t .h)) (fun ha hp => V_sliceLoO (j := i) sl54.h ty24.h.sz hp rfl (EN ha (.tmp rfl rfl) rfl) (EN ha (.tmp rfl rfl) rfl) (by omega)) ?_
   refine D_act2 rfl rfl .no (.cons .h (.cons (.t .h) .nil)) (.dep rfl (.dep rfl .nil)) (fun ha => X_copy2 sl54.h ty24.h.sz rfl rfl rfl (EN ha (.tmp rfl rfl) rfl) (EN ha (.tmp rfl rfl) rfl) (by omega) (by omega) (by omega) (by simp; omega) (ins_l2 (e := e) (z := (.slice none 0 0)) hlt) (by omega)) (fun _ => ?_)
   refine D_nil ?_
   refine K_region ?_
   refine C_val (V_move (v := (.slice (some ⟨k2, 0, none⟩) (es.length + 1) 2)) (.tmp rfl rfl)) ?_
   refine C_val (V_assign (v := (.slice (some ⟨k2, 0, none⟩) (es.length + 1) 2)) (.tmp rfl rfl)) ?_
   refine C_nil ?_
   refine CW_ret ?_
   rw [hel]
   exact End_ret (⟨some ⟨k2, 0, none⟩, es.length + 1, 2⟩, [k2]) (.tmp rfl rfl .nil) rfl (.sel (.cons .h .nil))
 refine CW_skip ?_
 have hcl : es.length + 1 ≤ c := by simp only [decide_eq_false_iff_not] at hb2; omega
 refine K_region ?_
 refine C_val (V_move (v := (.slice (some ⟨k0, 0, none⟩) es.length (c + 3))) (.tmp rfl rfl)) ?_
 refine C_val (V_move (v := (.int .i64 (es.length : Int))) (.tmp rfl rfl)) ?_
 refine C_val (V_move (v := (.int .i64 ((1 : Nat) : Int))) (.tmp rfl rfl)) ?_
 refine C_val (V_add (i := (es.length : Int)) (j := ((1 : Nat) : Int)) (.tmp rfl rfl) (.tmp rfl rfl)) ?_
 rw [w1]
 refine C_at .h (fun hp => V_sliceCapO (j := es.length + 1) sl54.h ty24.h.sz hp rfl (.tmp rfl rfl) (.tmp rfl rfl) hcl) ?_
 refine C_val (V_assign (v := (.slice (some ⟨k0, 0, none⟩) (es.length + 1) (c + 3))) (.tmp rfl rfl)) ?_
 refine C_nil ?_
 refine K_in ?_
 refine K_region ?_
 refine C_val (V_move (v := (.slice (some ⟨k1, 0, none⟩) 1 m1)) (.tmp rfl rfl)) ?_
 refine C_val (V_move (v := (.slice (some ⟨k0, 0, none⟩) (es.length + 1) (c + 3))) (.tmp rfl rfl)) ?_
 refine C_val (V_move (v := (.int .i64 (i : Int))) (.tmp rfl rfl)) ?_
 refine C_val (V_move (v := (.int .i64 ((1 : Nat) : Int))) (.tmp rfl rfl)) ?_
 refine C_val (V_add (i := (i : Int)) (j := ((1 : Nat) : Int)) (.tmp rfl rfl) (.tmp rfl rfl)) ?_
 rw [w2]
 refine C_at .h (fun hp => V_sliceLoO (j := i + 1) sl54.h ty24.h.sz hp rfl (.tmp rfl rfl) (.tmp rfl rfl) (by omega)) ?_
 refine C_x2 (.cons (.t .h) (.cons .h .nil)) (X_overlaps sl54.h ty24.h.sz rfl hov270 rfl rfl (.tmp rfl rfl) (.tmp rfl rfl) (by omega) (by omega)) (fun _ => ?_)
 refine C_val (V_not (b := false) (.tmp rfl rfl)) ?_
 refine C_nil ?_
 refine CW_cond (b := (!false)) (.tmp rfl rfl) (fun _ => ?_) (fun h => absurd h (by decide))
 refine K_draw [0, 1, 2, 3, 4, 5, 6, 7, 8] [0, 0, 0, 6, 15, 0, 0, 96, 255] [8] mixed (by decide +kernel) ?_
 refine D_val rfl .no (fun ha => V_move (v := (.slice (some ⟨k0, 0, none⟩) (es.length + 1) (c + 3))) (EN ha (.tmp rfl rfl) rfl)) ?_
 refine D_val rfl .no (fun ha => V_move (v := (.int .i64 (i : Int))) (EN ha (.tmp rfl rfl) rfl)) ?_
 refine D_val rfl .no (fun ha => V_move (v := (.int .i64 ((1 : Nat) : Int))) (EN ha (.tmp rfl rfl) rfl)) ?_
 refine D_val rfl .no (fun ha => V_add (i := (i : Int)) (j := ((1 : Nat) : Int)) (EN ha (.tmp rfl rfl) rfl) (EN ha (.tmp rfl rfl) rfl)) ?_
 rw [w2]
 refine D_atO rfl .no (.t .h) (fun ha hp => V_sliceLoO (j := i + 1) sl54.h ty24.h.sz hp rfl (EN ha (.tmp rfl rfl) rfl) (EN ha (.tmp rfl rfl) rfl) (by omega)) ?_
 refine D_val rfl .no (fun ha => V_move (v := (.slice (some ⟨k0, 0, none⟩) (es.length + 1) (c + 3))) (EN ha (.tmp rfl rfl) rfl)) ?_
 refine D_val rfl .no (fun ha => V_move (v := (.int .i64 (i : Int))) (EN ha (.tmp rfl rfl) rfl)) ?_
 refine D_atO rfl .no (.t .h) (fun ha hp => V_sliceLoO (j := i) sl54.h ty24.h.sz hp rfl (EN ha (.tmp rfl rfl) rfl) (EN ha (.tmp rfl rfl) rfl) (by omega)) ?_
 refine D_act1 rfl rfl .no (.cons (.t .h) .nil) (.dep rfl (.dep rfl .nil)) (fun ha => X_copyS sl54.h ty24.h.sz rfl rfl (EN ha (.tmp rfl rfl) rfl) (EN ha (.tmp rfl rfl) rfl) (by omega) (by omega) (by omega) (by omega) (ins_l3 hlt) (by simp; omega)) (fun _ => ?_)
 refine D_nil ?_
 refine K_region ?_
 refine C_val (V_move (v := (.slice (some ⟨k0, 0, none⟩) (es.length + 1) (c + 3))) (.tmp rfl rfl)) ?_
 refine C_val (V_move (v := (.int .i64 (i : Int))) (.tmp rfl rfl)) ?_
 refine C_at .h (fun hp => V_sliceLoO (j := i) sl54.h ty24.h.sz hp rfl (.tmp rfl rfl) (.tmp rfl rfl) (by omega)) ?_
 refine C_val (V_move (v := (.slice (some ⟨k1, 0, none⟩) 1 m1)) (.tmp rfl rfl)) ?_
 refine C_x2 (.cons .h (.cons .h .nil)) (X_copy2 (m1 := 0) (m2 := m1) (ia := i) (ja := 0) (ld := es.length + 1 - i) (ls := 1) (es2 := [e]) (es' := es.take i ++ e :: es.drop i) sl54.h ty24.h.sz rfl rfl rfl (by exact .tmp rfl rfl) (by exact .tmp rfl rfl) (by omega) (by omega) (by rw [List.length_singleton]; omega) (by simp; omega) (ins_l4 (e := e) hlt) (by omega)) (fun _ => ?_)
 refine C_nil ?_
 refine K_region ?_
 refine C_val (V_move (v := (.slice (some ⟨k0, 0, none⟩) (es.length + 1) (c + 3))) (.tmp rfl rfl)) ?_
 refine C_val (V_assign (v := (.slice (some ⟨k0, 0, none⟩) (es.length + 1) (c + 3))) (.tmp rfl rfl)) ?_
 refine C_nil ?_
 refine K_uncap (t := 6) (k := k0) (l := es.length + 1) (c := c) rfl rfl ?_
 refine CW_ret ?_
 rw [hel]
 exact End_ret (⟨some ⟨k0, 0, none⟩, es.length + 1, 2⟩, F) (.tmp rfl rfl .nil) rfl (.sel (.cons .h .nil))
theorem g_slices_Insert_int_int_ok (a_s : List (List Int)) (v0_0 : Sv) (F0_0 : List Nat) (a_i : Int) (a_v : List (List Int)) (v2_0 : Sv) (F2_0 : List Nat) (R : List (List Int)) (hF : g_slices_Insert_int_int a_s a_i a_v = some R) :
   Fw.Spec Tryz.prog 237 [v0_0.v, .int .i64 a_i, v2_0.v] [cown (OwnS 24 (OwnS 3 (roE rdInt))) F0_0 v0_0.v a_s, cown (OwnS 24 (OwnS 3 (roE rdInt))) F2_0 v2_0.v a_v] (fun p : Sv × List Nat => p.1.v) (fun p => [cown (OwnS 24 (OwnS 3 (roE rdInt))) p.2 p.1.v R]) := by
 unfold g_slices_Insert_int_int at hF
 rcases a_v with _ | ⟨a, _ | ⟨_, _⟩⟩
 · simp at hF
 · dsimp only at hF
   split at hF
   · rename_i h
     obtain ⟨h0, h1, h2⟩ := h
     obtain ⟨i, rfl⟩ : ∃ i : Nat, a_i = (i : Int) := ⟨a_i.toNat, by omega⟩
     cases hF
     rw [Int.toNat_natCast] at h1 ⊢
     exact Spec_insD (s := 1) fun es e Fa Fb hl => g_slices_Insert_int_int_raw es e v0_0 v2_0 Fa Fb i (by omega) (by omega)
   · simp at hF
 · simp at hF
def i_addedTuple (a_l : List (List Int)) (a_t : List Int) : Option ((List (List Int))) :=
 (i_hasTuple a_l a_t).bind fun r2 =>
 if r2 then (
   some a_l)
 else (
   (g_slices_IndexFunc_int_int_iaddedTuple1 a_l a_t).bind fun r5 =>
   if (decide ((r5 : Int) < 0)) then (
     (g_slices_Clone_int_int a_t).bind fun r8 =>
     (g_slices_Insert_int_int a_l (a_l.length : Int) ([r8] : List (List Int))).bind fun r12 =>
     some r12)
   else (
     (g_slices_Clone_int_int a_t).bind fun r15 =>
     (g_slices_Insert_int_int a_l r5 ([r15] : List (List Int))).bind fun r19 =>
     some r19))
theorem i_addedTuple_ok (a_l : List (List Int)) (v0_0 : Sv) (F0_0 : List Nat) (a_t : List Int) (v1_0 : Sv) (R : (List (List Int))) (hF : i_addedTuple a_l a_t = some R) :
   Fw.Spec Tryz.prog 193 [v0_0.v, v1_0.v] [cown (OwnS 24 (OwnS 3 (roE rdInt))) F0_0 v0_0.v a_l, crd (RdS 3 rdInt) v1_0.v a_t] (fun p : Sv × List Nat => p.1.v) (fun p => [cown (OwnS 24 (OwnS 3 (roE rdInt))) p.2 p.1.v R]) := by
 refine Se 23 Tryz.func193 [.tmp 4] ?_
 intro H0 F0
 unfold i_addedTuple at hF
 refine au ?_
 refine AbR (fun k1 => ?_)
 iterate 6 refine au ?_
 refine bnd hF fun r2 hx3 hF => C_x1 (.cons (.t .h) (.rd (.t .h) rfl .nil)) (XC_bor frz_own (fun _ => .nil) (X_callS cf140.h (.cons (.tmp rfl rfl) (.cons (.tmp rfl rfl) .nil)) (i_hasTuple_ok a_l v0_0 a_t v1_0 _ hx3))) (fun _ => ?_)
 refine au ?_
 refine Ci hF (fun hb23 hF => ?_) (fun hb23 hF => ?_)
 · iterate 5 refine au ?_
   cases hF
   exact Er (v0_0, F0_0)
 iterate 3 refine au ?_
 refine C_val (V_makeFunc (fn := .func 236) (vs := []) (us := [(pz k1)]) .nil (.cons (.tmp rfl rfl) .nil)) ?_
 refine bnd hF fun r5 hx6 hF => C_x1 (.cons .h (.rd .h rfl (.rd (.t .h) rfl .nil))) (XC_bor frz_own (fun _ => .nil) (X_callS cf203.h (.cons (.tmp rfl rfl) (.cons (.tmp rfl rfl) .nil)) (g_slices_IndexFunc_int_int_iaddedTuple1_ok a_l v0_0 k1 a_t v1_0 _ hx6))) (fun _ => ?_)
 iterate 7 refine au ?_
 refine Ci hF (fun hb22 hF => ?_) (fun hb22 hF => ?_)
 · iterate 9 refine au ?_
   refine bnd hF fun r8 hx9 hF => Cx1 (g_slices_Clone_int_int_ok _ _ _ hx9) (fun p10 => ?_)
   refine C_new rfl (N_buildSliceT (g := true) sl54.h ty24.h (.cons (.tmp rfl rfl) .nil) (vs := [p10.1.v]) rfl rfl rfl (by intro v hv; simp at hv; rcases hv with rfl <;> rfl)) (fun k11 => ?_)
   refine Cv1 (.cons .h (.cons .h .nil)) (own_lit (Ro := (OwnS 3 (roE rdInt))) (E := 24) (F := (p10.2 ++ [])) (xs := ([r8] : List (List Int))) (MkL_cons Mk_own MkL_nil apps) rfl rfl) ?_
   refine bnd hF fun r12 hx13 hF => Cx1 (g_slices_Insert_int_int_ok _ _ _ _ _ (⟨(some ⟨k11, 0, none⟩), 1, 1⟩) _ _ hx13) (fun p14 => ?_)
   iterate 3 refine au ?_
   cases hF
   exact Er (p14.1, p14.2)
 iterate 5 refine au ?_
 refine bnd hF fun r15 hx16 hF => Cx1 (g_slices_Clone_int_int_ok _ _ _ hx16) (fun p17 => ?_)
 refine C_new rfl (N_buildSliceT (g := true) sl54.h ty24.h (.cons (.tmp rfl rfl) .nil) (vs := [p17.1.v]) rfl rfl rfl (by intro v hv; simp at hv; rcases hv with rfl <;> rfl)) (fun k18 => ?_)
 refine Cv1 (.cons .h (.cons .h .nil)) (own_lit (Ro := (OwnS 3 (roE rdInt))) (E := 24) (F := (p17.2 ++ [])) (xs := ([r15] : List (List Int))) (MkL_cons Mk_own MkL_nil apps) rfl rfl) ?_
 refine bnd hF fun r19 hx20 hF => Cx1 (g_slices_Insert_int_int_ok _ _ _ _ _ (⟨(some ⟨k18, 0, none⟩), 1, 1⟩) _ _ hx20) (fun p21 => ?_)
 iterate 3 refine au ?_
 cases hF
 exact Er (p21.1, p21.2)
def i_tuplesOf_L1 (a_q : Query) : List Binding → Nat → (List (List Int)) → Option ((List (List Int)))
 | [], k9, c3 => some c3
 | x11 :: rest10, k9, c3 => (i_TupleOf a_q x11).bind fun r22 =>
   (i_addedTuple c3 r22).bind fun r25 =>
   i_tuplesOf_L1 a_q rest10 (k9 + 1) r25
def i_tuplesOf (a_q : Query) (a_bindings : List Binding) : Option ((List (List Int))) :=
 i_tuplesOf_L1 a_q a_bindings 0 ([] : List (List Int))
theorem i_tuplesOf_ok (a_q : Query) (v0_0 : Sv) (v0_1 : Sv) (a_bindings : List Binding) (v1_0 : Sv) (R : (List (List Int))) (hF : i_tuplesOf a_q a_bindings = some R) :
   Fw.Spec Tryz.prog 128 [(.agg [v0_0.v, v0_1.v].toArray), v1_0.v] [crd (RdS 3 rdInt) v0_0.v a_q.Head, crd (RdS 98 rd98) v0_1.v a_q.Atoms, crd (RdS 147 rd147) v1_0.v a_bindings] (fun p : Sv × List Nat => p.1.v) (fun p => [cown (OwnS 24 (OwnS 3 (roE rdInt))) p.2 p.1.v R]) := by
 refine Se 22 Tryz.func128 [.tmp 4] ?_
 intro H0 F0
 unfold i_tuplesOf at hF
 refine au ?_
 refine AbR (fun k1 => ?_)
 iterate 3 refine au ?_
 refine C_new rfl (N_buildSliceT (g := true) sl54.h ty24.h .nil (vs := []) rfl rfl rfl (by simp)) (fun k2 => ?_)
 refine Cv1 (.cons .h .nil) (own_lit (Ro := (OwnS 3 (roE rdInt))) (E := 24) (F := []) (xs := ([] : List (List Int))) MkL_nil rfl rfl) ?_
 iterate 8 refine au ?_
 refine CW_block (CW_loop (m := a_bindings.length) (fun m7 f' cs' => ∃ (g : Fr) (k9 : Nat) (rest10 : List Binding) (c3 : List (List Int)) (v4 : Sv) (F5 : List Nat), m7 = rest10.length ∧ f' = updL g [(2, (pz k1)), (5, v4.v), (9, v1_0.v), (10, (.int .i64 (a_bindings.length : Int))), (11, (.int .i64 (k9 : Int)))] ∧ List.drop k9 a_bindings = rest10 ∧ Ent cs' [cboR k1 51 (.agg [v0_0.v, v0_1.v].toArray), crd (RdS 3 rdInt) v0_0.v a_q.Head, crd (RdS 98 rd98) v0_1.v a_q.Atoms, cown (OwnS 24 (OwnS 3 (roE rdInt))) F5 v4.v c3, crd (RdS 147 rd147) v1_0.v a_bindings] ∧ i_tuplesOf_L1 a_q rest10 k9 c3 = some R) ⟨_, 0, _, _, ⟨(some ⟨k2, 0, none⟩), 0, 1⟩, (k2 :: []), rfl, eqA, rfl, entA, hF⟩ ?_)
 rintro m7 _ _ ⟨g8, k9, rest10, c3, v4, F5, rfl, rfl, hd12, hE, hF⟩
 refine Kb hE a_bindings (fun hbd17 => ?_)
 rcases rest10 with _ | ⟨x11, rest10⟩
 · have hk13 := dn hd12
   rw [i_tuplesOf_L1] at hF
   iterate 4 refine au ?_
   refine CdF ?_
   iterate 9 refine au ?_
   cases hF
   exact Er (v4, F5)
 obtain ⟨hk13, hx14, hd15⟩ := drop_cons hd12
 rw [i_tuplesOf_L1] at hF
 iterate 4 refine au ?_
 refine CdT ?_
 iterate 3 refine au ?_
 refine Ai hx14 (fun k18 j19 => ?_)
 refine AlA2 (ul147_0_147 x11) la147_0_147 (fun p20 => ?_)
 refine AnW (fun k21 => ?_)
 refine As (.agg [p20.1.v, p20.2.v].toArray) ?_
 iterate 5 refine au ?_
 refine bnd hF fun r22 hx23 hF => Cx1 (i_TupleOf_ok _ _ _ _ _ _ _ hx23) (fun p24 => ?_)
 refine C_frz .h frz_own ?_
 refine bnd hF fun r25 hx26 hF => Cx1 (i_addedTuple_ok _ _ _ _ _ _ hx26) (fun p27 => ?_)
 iterate 6 refine au ?_
 rw [wk k9]
 exact ⟨_, Nat.lt_succ_self _, _, k9 + 1, rest10, _, p27.1, p27.2, rfl, eqA, hd15, entA, hF⟩
def i_answers (a_q : Query) (a_facts : List Fact) : Option ((List (List Int))) :=
 (i_BindingsOf a_q a_facts).bind fun r2 =>
 (i_tuplesOf a_q r2).bind fun r5 =>
 some r5
theorem i_answers_ok (a_q : Query) (v0_0 : Sv) (v0_1 : Sv) (a_facts : List Fact) (v1_0 : Sv) (R : (List (List Int))) (hF : i_answers a_q a_facts = some R) :
   Fw.Spec Tryz.prog 67 [(.agg [v0_0.v, v0_1.v].toArray), v1_0.v] [crd (RdS 3 rdInt) v0_0.v a_q.Head, crd (RdS 98 rd98) v0_1.v a_q.Atoms, crd (RdS 86 rd86) v1_0.v a_facts] (fun p : Sv × List Nat => p.1.v) (fun p => [cown (OwnS 24 (OwnS 3 (roE rdInt))) p.2 p.1.v R]) := by
 refine Se 10 Tryz.func67 [.tmp 4] ?_
 intro H0 F0
 unfold i_answers at hF
 refine au ?_
 refine AbR (fun k1 => ?_)
 iterate 2 refine au ?_
 refine K_draw [0, 1, 2, 3, 4, 5] [0, 0, 0, 6, 15, 31] [3, 4] mixed (by decide +kernel) ?_
 iterate 3 refine du ?_
 refine bnd hF fun r2 hx3 hF => Dx1 (i_BindingsOf_ok _ _ _ _ _ _ hx3) (fun p4 => ?_)
 refine bnd hF fun r5 hx6 hF => D_act2 rfl rfl .no (.cons .h (.rd (.t .h) rfl (.rd (.t (.t .h)) rfl .nil))) .nil (fun ha => XC_bor frz_own (fun _ => (.cons .nil)) (XC_pre (.rd (.t .h) rfl (.rd (.t (.t .h)) rfl (.rd .h rfl .nil))) (X_callS cf128.h (.cons (EN ha (.tmp rfl rfl) rfl) (.cons (EN ha (.tmp rfl rfl) rfl) .nil)) (i_tuplesOf_ok a_q v0_0 v0_1 r2 p4.1 _ hx6)))) (fun p7 => ?_)
 iterate 2 refine du ?_
 refine au ?_
 cases hF
 exact Er (p7.1, p7.2)
def i_MaximalAnswers (a_s : List Int) (a_l : List Method) (a_q : Query) (a_facts : List Fact) : Option ((List (List Int))) :=
 ((i_areAsked a_s a_l a_q).bind fun r4 =>
   bif (!r4) then (some true)
   else ((i_AreFacts a_s a_facts).bind fun r8 =>
     some (!r8))).bind fun o2 =>
 match o2 with
 | c11 => if c11 then (
     some [])
   else (
     (i_ConstantsOf a_q).bind fun r12 =>
     (i_reach a_l a_facts r12).bind fun r15 =>
     (i_answers a_q r15.Facts).bind fun r18 =>
     some r18)
theorem i_MaximalAnswers_ok (a_s : List Int) (v0_0 : Sv) (a_l : List Method) (v1_0 : Sv) (a_q : Query) (v2_0 : Sv) (v2_1 : Sv) (a_facts : List Fact) (v3_0 : Sv) (R : (List (List Int))) (hF : i_MaximalAnswers a_s a_l a_q a_facts = some R) :
   Fw.Spec Tryz.prog 26 [v0_0.v, v1_0.v, (.agg [v2_0.v, v2_1.v].toArray), v3_0.v] [crd (RdS 3 rdInt) v0_0.v a_s, crd (RdS 73 rd73) v1_0.v a_l, crd (RdS 3 rdInt) v2_0.v a_q.Head, crd (RdS 98 rd98) v2_1.v a_q.Atoms, crd (RdS 86 rd86) v3_0.v a_facts] (fun p : Sv × List Nat => p.1.v) (fun p => [cown (OwnS 24 (OwnS 3 (roE rdInt))) p.2 p.1.v R]) := by
 refine Se 28 Tryz.func26 [.tmp 8] ?_
 intro H0 F0
 unfold i_MaximalAnswers at hF
 refine au ?_
 refine AbR (fun k1 => ?_)
 iterate 3 refine au ?_
 obtain ⟨o2, hio2, hO3⟩ := bind_some hF
 refine au ?_
 refine C_cut (fun f' cs' => ∃ (c11 : Bool) (g : Fr), c11 = o2 ∧ f' = updL g [(1, v1_0.v), (3, v3_0.v), (6, (pz k1)), (19, (.bool c11))] ∧ Ent cs' [crd (RdS 73 rd73) v1_0.v a_l, crd (RdS 86 rd86) v3_0.v a_facts, cboR k1 51 (.agg [v2_0.v, v2_1.v].toArray), crd (RdS 3 rdInt) v2_0.v a_q.Head, crd (RdS 98 rd98) v2_1.v a_q.Atoms]) ?_ ?_
 · replace hF := hio2
   iterate 3 refine au ?_
   refine bnd hF fun r4 hx5 hF => Cx0 (i_areAsked_ok _ _ _ _ _ _ _ _ hx5) (fun _ => ?_)
   iterate 2 refine au ?_
   rcases Bool.eq_false_or_eq_true (!r4) with hg7 | hg7
   · rw [hg7]
     try rw [hg7] at hF; dsimp only [cond_true, cond_false] at hF
     iterate 6 refine au ?_
     cases hF
     exact ⟨_, _, rfl, eqA, entA⟩
   rw [hg7]
   try rw [hg7] at hF; dsimp only [cond_true, cond_false] at hF
   iterate 5 refine au ?_
   refine bnd hF fun r8 hx9 hF => Cx0 (i_AreFacts_ok _ _ _ _ _ hx9) (fun _ => ?_)
   iterate 4 refine au ?_
   cases hF
   exact ⟨_, _, rfl, eqA, entA⟩
 rintro _ _ ⟨c11, g22, rfl, rfl, hE⟩
 replace hF := hO3
 try dsimp only at hF
 refine K_ent hE ?_
 refine Ci hF (fun hb21 hF => ?_) (fun hb21 hF => ?_)
 · iterate 4 refine au ?_
   cases hF
   exact End_ret (⟨none, 0, 0⟩, []) (.tmp rfl rfl .nil) rfl (.conv .nil (own_nil (Ro := (OwnS 3 (roE rdInt))) (E := 24)) (.cons .nil) (.sel (.cons .h .nil)))
 refine au ?_
 refine K_draw [0, 1, 2, 3, 4, 5, 6, 7, 8] [0, 0, 0, 0, 8, 30, 62, 127, 255] [4, 5, 7] mixed (by decide +kernel) ?_
 iterate 4 refine du ?_
 refine bnd hF fun r12 hx13 hF => Dx1 (i_ConstantsOf_ok _ _ _ _ hx13) (fun p14 => ?_)
 refine bnd hF fun r15 hx16 hF => D_act4 rfl rfl .no (.cons .h (.rd .h rfl (.rd (.t .h) rfl .nil))) .nil (fun ha => XC_bor frz_own (fun _ => (.cons (.cons (.cons .nil)))) (XC_pre (.rd (.t .h) rfl (.rd (.t (.t .h)) rfl (.rd .h rfl .nil))) (X_callS cf68.h (.cons (EN ha (.tmp rfl rfl) rfl) (.cons (EN ha (.tmp rfl rfl) rfl) (.cons (EN ha (.tmp rfl rfl) rfl) .nil))) (i_reach_ok a_l v1_0 a_facts v3_0 r12 p14.1 _ hx16)))) (fun p17 => ?_)
 refine D_val rfl .no (fun ha => V_field (v := p17.1.v) fdt62_0 ag27.h (EN ha (.tmp rfl rfl) rfl) rfl) ?_
 refine bnd hF fun r18 hx19 hF => D_act2 rfl rfl .no (.cons (.t .h) (.rd (.t (.t (.t (.t (.t (.t .h)))))) rfl (.rd (.t (.t (.t (.t (.t (.t (.t .h))))))) rfl .nil))) .nil (fun ha => XC_bor frz_own (fun _ => (.cons .nil)) (XC_pre (.rd (.t .h) rfl (.rd (.t (.t .h)) rfl (.rd .h rfl .nil))) (X_callS cf67.h (.cons (EN ha (.tmp rfl rfl) rfl) (.cons (EN ha (.tmp rfl rfl) rfl) .nil)) (i_answers_ok a_q v2_0 v2_1 r15.Facts p17.1 _ hx19)))) (fun p20 => ?_)
 iterate 2 refine du ?_
 refine au ?_
 cases hF
 exact Er (p20.1, p20.2)
def i_AnswersOf (a_s : List Int) (a_q : Query) (a_facts : List Fact) : Option ((List (List Int))) :=
 ((i_IsQuery a_s a_q).bind fun r4 =>
   bif (!r4) then (some true)
   else ((i_AreFacts a_s a_facts).bind fun r8 =>
     some (!r8))).bind fun o2 =>
 match o2 with
 | c11 => if c11 then (
     some [])
   else (
     (i_answers a_q a_facts).bind fun r12 =>
     some r12)
theorem i_AnswersOf_ok (a_s : List Int) (v0_0 : Sv) (a_q : Query) (v1_0 : Sv) (v1_1 : Sv) (a_facts : List Fact) (v2_0 : Sv) (R : (List (List Int))) (hF : i_AnswersOf a_s a_q a_facts = some R) :
   Fw.Spec Tryz.prog 38 [v0_0.v, (.agg [v1_0.v, v1_1.v].toArray), v2_0.v] [crd (RdS 3 rdInt) v0_0.v a_s, crd (RdS 3 rdInt) v1_0.v a_q.Head, crd (RdS 98 rd98) v1_1.v a_q.Atoms, crd (RdS 86 rd86) v2_0.v a_facts] (fun p : Sv × List Nat => p.1.v) (fun p => [cown (OwnS 24 (OwnS 3 (roE rdInt))) p.2 p.1.v R]) := by
 refine Se 20 Tryz.func38 [.tmp 6] ?_
 intro H0 F0
 unfold i_AnswersOf at hF
 refine au ?_
 refine AbR (fun k1 => ?_)
 iterate 3 refine au ?_
 obtain ⟨o2, hio2, hO3⟩ := bind_some hF
 refine au ?_
 refine C_cut (fun f' cs' => ∃ (c11 : Bool) (g : Fr), c11 = o2 ∧ f' = updL g [(2, v2_0.v), (4, (pz k1)), (16, (.bool c11))] ∧ Ent cs' [crd (RdS 86 rd86) v2_0.v a_facts, cboR k1 51 (.agg [v1_0.v, v1_1.v].toArray), crd (RdS 3 rdInt) v1_0.v a_q.Head, crd (RdS 98 rd98) v1_1.v a_q.Atoms]) ?_ ?_
 · replace hF := hio2
   iterate 2 refine au ?_
   refine bnd hF fun r4 hx5 hF => Cx0 (i_IsQuery_ok _ _ _ _ _ _ hx5) (fun _ => ?_)
   iterate 2 refine au ?_
   rcases Bool.eq_false_or_eq_true (!r4) with hg7 | hg7
   · rw [hg7]
     try rw [hg7] at hF; dsimp only [cond_true, cond_false] at hF
     iterate 6 refine au ?_
     cases hF
     exact ⟨_, _, rfl, eqA, entA⟩
   rw [hg7]
   try rw [hg7] at hF; dsimp only [cond_true, cond_false] at hF
   iterate 5 refine au ?_
   refine bnd hF fun r8 hx9 hF => Cx0 (i_AreFacts_ok _ _ _ _ _ hx9) (fun _ => ?_)
   iterate 4 refine au ?_
   cases hF
   exact ⟨_, _, rfl, eqA, entA⟩
 rintro _ _ ⟨c11, g16, rfl, rfl, hE⟩
 replace hF := hO3
 try dsimp only at hF
 refine K_ent hE ?_
 refine Ci hF (fun hb15 hF => ?_) (fun hb15 hF => ?_)
 · iterate 4 refine au ?_
   cases hF
   exact End_ret (⟨none, 0, 0⟩, []) (.tmp rfl rfl .nil) rfl (.conv .nil (own_nil (Ro := (OwnS 3 (roE rdInt))) (E := 24)) (.cons .nil) (.sel (.cons .h .nil)))
 iterate 4 refine au ?_
 refine bnd hF fun r12 hx13 hF => Cx1 (i_answers_ok _ _ _ _ _ _ hx13) (fun p14 => ?_)
 iterate 3 refine au ?_
 cases hF
 exact Er (p14.1, p14.2)
def i_copyTuples_L1 : List (List Int) → Nat → (List (List Int)) → Option ((List (List Int)))
 | [], k8, c2 => some c2
 | x10 :: rest9, k8, c2 => (g_slices_Clone_int_int x10).bind fun r20 =>
   (app c2 ([r20] : List (List Int))).bind fun z24 =>
   i_copyTuples_L1 rest9 (k8 + 1) z24
def i_copyTuples (a_l : List (List Int)) : Option ((List (List Int))) :=
 i_copyTuples_L1 a_l 0 ([] : List (List Int))
theorem i_copyTuples_ok (a_l : List (List Int)) (v0_0 : Sv) (R : (List (List Int))) (hF : i_copyTuples a_l = some R) :
   Fw.Spec Tryz.prog 138 [v0_0.v] [crd (RdS 24 (RdS 3 rdInt)) v0_0.v a_l] (fun p : Sv × List Nat => p.1.v) (fun p => [cown (OwnS 24 (OwnS 3 (roE rdInt))) p.2 p.1.v R]) := by
 refine Se 20 Tryz.func138 [.tmp 2] ?_
 intro H0 F0
 unfold i_copyTuples at hF
 iterate 4 refine au ?_
 refine C_new rfl (N_buildSliceT (g := true) sl54.h ty24.h .nil (vs := []) rfl rfl rfl (by simp)) (fun k1 => ?_)
 refine Cv1 (.cons .h .nil) (own_lit (Ro := (OwnS 3 (roE rdInt))) (E := 24) (F := []) (xs := ([] : List (List Int))) MkL_nil rfl rfl) ?_
 iterate 8 refine au ?_
 refine CW_block (CW_loop (m := a_l.length) (fun m6 f' cs' => ∃ (g : Fr) (k8 : Nat) (rest9 : List (List Int)) (c2 : List (List Int)) (v3 : Sv) (F4 : List Nat), m6 = rest9.length ∧ f' = updL g [(3, v3.v), (7, v0_0.v), (8, (.int .i64 (a_l.length : Int))), (9, (.int .i64 (k8 : Int)))] ∧ List.drop k8 a_l = rest9 ∧ Ent cs' [cown (OwnS 24 (OwnS 3 (roE rdInt))) F4 v3.v c2, crd (RdS 24 (RdS 3 rdInt)) v0_0.v a_l] ∧ i_copyTuples_L1 rest9 k8 c2 = some R) ⟨_, 0, _, _, ⟨(some ⟨k1, 0, none⟩), 0, 1⟩, (k1 :: []), rfl, eqA, rfl, entA, hF⟩ ?_)
 rintro m6 _ _ ⟨g7, k8, rest9, c2, v3, F4, rfl, rfl, hd11, hE, hF⟩
 refine Kb hE a_l (fun hbd16 => ?_)
 rcases rest9 with _ | ⟨x10, rest9⟩
 · have hk12 := dn hd11
   rw [i_copyTuples_L1] at hF
   iterate 4 refine au ?_
   refine CdF ?_
   iterate 9 refine au ?_
   cases hF
   exact Er (v3, F4)
 obtain ⟨hk12, hx13, hd14⟩ := drop_cons hd11
 rw [i_copyTuples_L1] at hF
 iterate 4 refine au ?_
 refine CdT ?_
 iterate 3 refine au ?_
 refine Ai hx13 (fun k17 j18 => ?_)
 refine C_ldV (R' := (RdS 3 rdInt)) ag24.h (.tmp rfl rfl) .h lv24_0 (fun w19 => ?_)
 iterate 5 refine au ?_
 refine bnd hF fun r20 hx21 hF => Cx1 (g_slices_Clone_int_int_ok _ _ _ hx21) (fun p22 => ?_)
 refine C_new rfl (N_buildSliceT (g := true) sl54.h ty24.h (.cons (.tmp rfl rfl) .nil) (vs := [p22.1.v]) rfl rfl rfl (by intro v hv; simp at hv; rcases hv with rfl <;> rfl)) (fun k23 => ?_)
 refine Cv1 (.cons .h (.cons .h .nil)) (own_lit (Ro := (OwnS 3 (roE rdInt))) (E := 24) (F := (p22.2 ++ [])) (xs := ([r20] : List (List Int))) (MkL_cons Mk_own MkL_nil apps) rfl rfl) ?_
 refine bnd hF fun z24 hx25 hF => C_x1 (.cons (.t (.t (.t .h))) (.cons .h .nil)) (X_appendO (Ro := (OwnS 3 (roE rdInt))) sl54.h ni54 ty24.h rfl rfl rfl (.tmp rfl rfl) (.tmp rfl rfl) hx25 src_own) (fun p26 => ?_)
 iterate 6 refine au ?_
 rw [wk k8]
 exact ⟨_, Nat.lt_succ_self _, _, k8 + 1, rest9, _, p26.1, p26.2, rfl, eqA, hd14, entA, hF⟩
def i_without_1 (a_t : List Int) (a_e1 : List (List Int)) : Option (Bool) :=
 (i_hasTuple a_e1 a_t).bind fun r1 =>
 some r1
theorem i_without_1_ok (a_t : List Int) (v0_0 : Sv) (kc1 : Nat) (a_e1 : List (List Int)) (vc1_0 : Sv) (R : Bool) (hF : i_without_1 a_t a_e1 = some R) :
   Fw.Spec Tryz.prog 139 [v0_0.v, (pz kc1)] [crd (RdS 3 rdInt) v0_0.v a_t, cboR kc1 54 vc1_0.v, crd (RdS 24 (RdS 3 rdInt)) vc1_0.v a_e1] (fun _ : Unit => (.bool R)) (fun _ => []) := by
 refine Se 7 Tryz.func139 [.tmp 3] ?_
 intro H0 F0
 unfold i_without_1 at hF
 iterate 6 refine au ?_
 refine bnd hF fun r1 hx2 hF => Cx0 (i_hasTuple_ok _ _ _ _ _ hx2) (fun _ => ?_)
 iterate 3 refine au ?_
 cases hF
 exact Er ()
def g_slices_IndexFunc_int_int_iwithout1_L1 (a_e1 : List (List Int)) : List (List Int) → Nat → Option (Int)
 | [], k4 => some (-1)
 | x6 :: rest5, k4 => (i_without_1 x6 a_e1).bind fun r16 =>
   if r16 then (
     some (k4 : Int))
   else (
     g_slices_IndexFunc_int_int_iwithout1_L1 a_e1 rest5 (k4 + 1))
def g_slices_IndexFunc_int_int_iwithout1 (a_s : List (List Int)) (a_e1 : List (List Int)) : Option (Int) :=
 g_slices_IndexFunc_int_int_iwithout1_L1 a_e1 a_s 0
theorem g_slices_IndexFunc_int_int_iwithout1_ok (a_s : List (List Int)) (v0_0 : Sv) (kc1 : Nat) (a_e1 : List (List Int)) (vc1_0 : Sv) (R : Int) (hF : g_slices_IndexFunc_int_int_iwithout1 a_s a_e1 = some R) :
   Fw.Spec Tryz.prog 203 [v0_0.v, (.func (.func 139) [].toArray [(pz kc1)].toArray)] [crd (RdS 24 (RdS 3 rdInt)) v0_0.v a_s, cboR kc1 54 vc1_0.v, crd (RdS 24 (RdS 3 rdInt)) vc1_0.v a_e1] (fun _ : Unit => (.int .i64 R)) (fun _ => []) := by
 refine Se 19 Tryz.func203 [.tmp 4] ?_
 intro H0 F0
 unfold g_slices_IndexFunc_int_int_iwithout1 at hF
 iterate 9 refine au ?_
 refine CW_block (CW_loop (m := a_s.length) (fun m2 f' cs' => ∃ (g : Fr) (k4 : Nat) (rest5 : List (List Int)), m2 = rest5.length ∧ f' = updL g [(0, v0_0.v), (1, (.func (.func 139) [].toArray [(pz kc1)].toArray)), (7, (.int .i64 (a_s.length : Int))), (8, (.int .i64 (k4 : Int)))] ∧ List.drop k4 a_s = rest5 ∧ Ent cs' [crd (RdS 24 (RdS 3 rdInt)) v0_0.v a_s, cboR kc1 54 vc1_0.v, crd (RdS 24 (RdS 3 rdInt)) vc1_0.v a_e1] ∧ g_slices_IndexFunc_int_int_iwithout1_L1 a_e1 rest5 k4 = some R) ⟨_, 0, _, rfl, eqA, rfl, entA, hF⟩ ?_)
 rintro m2 _ _ ⟨g3, k4, rest5, rfl, rfl, hd7, hE, hF⟩
 refine Kb hE a_s (fun hbd12 => ?_)
 rcases rest5 with _ | ⟨x6, rest5⟩
 · have hk8 := dn hd7
   rw [g_slices_IndexFunc_int_int_iwithout1_L1] at hF
   iterate 4 refine au ?_
   refine CdF ?_
   iterate 8 refine au ?_
   cases hF
   exact Er ()
 obtain ⟨hk8, hx9, hd10⟩ := drop_cons hd7
 rw [g_slices_IndexFunc_int_int_iwithout1_L1] at hF
 iterate 4 refine au ?_
 refine CdT ?_
 iterate 10 refine au ?_
 refine Ai hx9 (fun k13 j14 => ?_)
 refine C_ldV (R' := (RdS 3 rdInt)) ag24.h (.tmp rfl rfl) .h lv24_0 (fun w15 => ?_)
 refine bnd hF fun r16 hx17 hF => C_x0 (.rd .h rfl (.rd (.t (.t (.t .h))) rfl (.rd (.t (.t (.t (.t .h)))) rfl .nil))) (X_callCS cf139.h (.tmp rfl rfl) (.cons (.tmp rfl rfl) .nil) (i_without_1_ok x6 w15 kc1 a_e1 vc1_0 _ hx17)) (fun _ => ?_)
 refine au ?_
 refine Ci hF (fun hb20 hF => ?_) (fun hb20 hF => ?_)
 · iterate 5 refine au ?_
   cases hF
   exact Er ()
 iterate 5 refine au ?_
 rw [wk k4]
 exact ⟨_, Nat.lt_succ_self _, _, k4 + 1, rest5, rfl, eqA, hd10, entA, hF⟩
def g_slices_DeleteFunc_int_int_iwithout1 (a_s : List (List Int)) (a_e1 : List (List Int)) : Option (List (List Int)) :=
 delL (fun a_q => i_without_1 a_q a_e1) a_s
theorem g_slices_DeleteFunc_int_int_iwithout1_sh (qs : List (Value × List Int)) (v : Sv) (F : List Nat) (kc1 : Nat) (a_e1 : List (List Int)) (vc1_0 : Sv) (p : Value × List Int → Bool) (hcl : ∀ q ∈ qs, i_without_1 q.2 a_e1 = some (p q)) (hidx : g_slices_IndexFunc_int_int_iwithout1 (qs.map Prod.snd) a_e1 = some (ixF p qs 0)) (hbd : qs.length < 4611686018427387904) :
   Fw.Spec Tryz.prog 137 [v.v, (.func (.func 139) [].toArray [(.pointer (some ⟨kc1, 0, some 0⟩))].toArray)] [cown (OwnS 24 (roE (rq (RdS 3 rdInt)))) F v.v qs, cboR kc1 54 vc1_0.v, crd (RdS 24 (RdS 3 rdInt)) vc1_0.v a_e1] (fun q : Sv × List Nat => q.1.v) (fun q => [cown (OwnS 24 (roE (rq (RdS 3 rdInt)))) q.2 q.1.v (qs.filter fun a => !p a)]) := by
 refine Spec_enter (n := 42) Tryz.func137 rfl rfl (rs := [.tmp 4]) rfl rfl rfl ?_
 intro H0 F0
 refine K_region ?_
 refine C_val (V_assign (v := (.slice none 0 0)) EV.nilSlice) ?_
 refine C_nil ?_
 refine K_region ?_
 refine C_val (V_move (v := v.v) (.tmp rfl rfl)) ?_
 refine C_val (V_move (v := (.func (.func 139) [].toArray [(.pointer (some ⟨kc1, 0, some 0⟩))].toArray)) (.tmp rfl rfl)) ?_
 refine C_x1 (.cons .h (.rd .h rfl (.rd (.t .h) rfl .nil))) (XC_borR frz_rq (fun _ => .nil) (XC_pre (.rd (.t (.t .h)) rfl (.rd .h rfl (.rd (.t .h) rfl .nil))) (X_callS cf203.h (.cons (.tmp rfl rfl) (.cons (.tmp rfl rfl) .nil)) (g_slices_IndexFunc_int_int_iwithout1_ok (qs.map Prod.snd) v kc1 a_e1 vc1_0 _ hidx)))) (fun _ => ?_)
 generalize hR : ixF p qs 0 = R0
 refine C_val (V_assign (v := (.int .i64 R0)) (.tmp rfl rfl)) ?_
 refine C_nil ?_
 refine K_in ?_
 refine K_region ?_
 refine C_val (V_move (v := (.int .i64 R0)) (.tmp rfl rfl)) ?_
 refine C_val (V_eql (i := R0) (j := (-1)) (.tmp rfl rfl) (.int _ _)) ?_
 refine C_nil ?_
 refine CW_cond (b := (R0 == (-1 : Int))) (.tmp rfl rfl) (fun hb => ?_) (fun hb => ?_)
 · refine K_region ?_
   refine C_val (V_move (v := v.v) (.tmp rfl rfl)) ?_
   refine C_val (V_assign (v := v.v) (.tmp rfl rfl)) ?_
   refine C_nil ?_
   refine CW_ret ?_
   have e : qs.filter (fun q => !p q) = qs := ixF_none (k := 0) (by rw [hR]; simpa using hb)
   rw [e]
   exact End_ret (v, F) (.tmp rfl rfl .nil) rfl (.sel (.cons .h .nil))
 refine CW_skip ?_
 obtain ⟨i0, hi0, hi1⟩ : ∃ i : Nat, R0 = (i : Int) ∧ i < qs.length := by
   rcases ixF_range p qs 0 with h | ⟨i, h, hi⟩
   · rw [hR] at h; subst h; simp at hb
   · exact ⟨i, by rw [← hR, h], by omega⟩
 subst hi0
 refine K_in ?_
 refine K_region ?_
 refine C_val (V_move (v := (.int .i64 (i0 : Int))) (.tmp rfl rfl)) ?_
 refine C_val (V_add (i := (i0 : Int)) (j := 1) (.tmp rfl rfl) (.int _ _)) ?_
 rw [show IntKind.i64.wrap ((i0 : Int) + 1) = ((i0 + 1 : Nat) : Int) from by rw [wrap_in (by omega) (by omega)]; rfl]
 refine C_val (V_assign (v := (.int .i64 ((i0 + 1 : Nat) : Int))) (.tmp rfl rfl)) ?_
 refine C_nil ?_
 refine CW_block ?_
 refine CW_loop (m := qs.length - (i0 + 1)) (fun m f' cs' => ∃ (g : Fr) (cur : List (Value × List Int)) (i j : Nat) (F' : List Nat), m = qs.length - j ∧ f' = updL g [(0, v.v), (1, (.func (.func 139) [].toArray [(.pointer (some ⟨kc1, 0, some 0⟩))].toArray)), (5, (.int .i64 (i : Int))), (6, (.int .i64 (j : Int)))] ∧ DelI p qs cur i j ∧ Ent cs' [cown (OwnS 24 (roE (rq (RdS 3 rdInt)))) F' v.v cur, cboR kc1 54 vc1_0.v, crd (RdS 24 (RdS 3 rdInt)) vc1_0.v a_e1]) ⟨_, qs, i0, i0 + 1, F, rfl, (EqL.cons rfl (EqL.cons rfl (EqL.cons rfl (EqL.cons rfl (EqL.nil))))).eq, DelI.init (by rw [hR]), .sel (.cons .h (.rd .h rfl (.rd (.t .h) rfl .nil)))⟩ ?_
 rintro m _ _ ⟨g, cur, i, j, F', rfl, rfl, hI, hE⟩
 refine K_ent hE ?_
 clear hE
 refine K_in ?_
 refine K_region ?_
 refine C_val (V_move (v := (.int .i64 (j : Int))) (.tmp rfl rfl)) ?_
 refine C_val (V_move (v := v.v) (.tmp rfl rfl)) ?_
 refine C_at .h (fun hp => V_lenR (l := cur.length) sl54.h (.tmp rfl rfl) (cown_len hp)) ?_
 refine C_val (V_lss (i := (j : Int)) (j := (cur.length : Int)) (.tmp rfl rfl) (.tmp rfl rfl)) ?_
 refine C_nil ?_
 have hlen := hI.len
 have hij := hI.lt
 have hjl := hI.le
 refine CW_cond (b := (decide ((j : Int) < (cur.length : Int)))) (.tmp rfl rfl) (fun hb2 => ?_) (fun hb2 => ?_)
 · refine CW_skip ?_
   have hj : j < qs.length := by simp at hb2; omega
   obtain ⟨x, hx1, hx2⟩ := hI.at hj
   refine K_block ?_
   refine K_region ?_
   refine C_val (V_move (v := v.v) (.tmp rfl rfl)) ?_
   refine C_val (V_move (v := (.int .i64 (j : Int))) (.tmp rfl rfl)) ?_
   refine C_idxO sl54.h ty24.h.sz (.tmp rfl rfl) (.tmp rfl rfl) .h (by simp; omega) (fun k hk => ?_)
   refine C_ldOW1 (a := x) (u := fun i : Sv => i.v) (cc := fun i => [crd (RdS 3 rdInt) i.v x.2]) ag24.h (.tmp rfl rfl) .h hk (by simpa using hx1) (fun H e h => by obtain ⟨-, h1⟩ := h; obtain ⟨a0, m, rfl⟩ := RdS.len h1; exact ⟨⟨a0, _, m⟩, rfl, rfl, by simpa [crd] using h1⟩) (fun w => ?_)
   refine C_val (V_assign (v := w.v) (.tmp rfl rfl)) ?_
   refine C_nil ?_
   refine K_region ?_
   refine C_val (V_move (v := (.func (.func 139) [].toArray [(.pointer (some ⟨kc1, 0, some 0⟩))].toArray)) (.tmp rfl rfl)) ?_
   refine C_val (V_move (v := w.v) (.tmp rfl rfl)) ?_
   refine C_x0 (.rd (.t .h) rfl (.rd (.t (.t (.t .h))) rfl (.rd (.t (.t (.t (.t .h)))) rfl .nil))) (X_callCS cf139.h (.tmp rfl rfl) (.cons (.tmp rfl rfl) .nil) (i_without_1_ok x.2 w kc1 a_e1 vc1_0 _ (hcl x (List.mem_of_getElem? hx2)))) (fun _ => ?_)
   refine C_val (V_not (b := p x) (.tmp rfl rfl)) ?_
   refine C_nil ?_
   refine CW_cond (b := (!p x)) (.tmp rfl rfl) (fun hb3 => ?_) (fun hb3 => ?_)
   · refine K_region ?_
     refine C_val (V_move (v := v.v) (.tmp rfl rfl)) ?_
     refine C_val (V_move (v := (.int .i64 (i : Int))) (.tmp rfl rfl)) ?_
     refine C_val (V_move (v := w.v) (.tmp rfl rfl)) ?_
     have hii : (decide ((0 : Int) ≤ (i : Int)) && decide ((i : Int) < (cur.length : Int))) = true := by simp; omega
     refine C_idxO sl54.h ty24.h.sz (.tmp rfl rfl) (.tmp rfl rfl) (.t (.t .h)) hii (fun k2 hk2 => ?_)
     refine C_x1 (.cons (.t (.t .h)) (.rd .h rfl .nil)) (X_storeO (Ro := roE (rq (RdS 3 rdInt))) (a := x) (i := (i : Int)) ty24.h.sz rfl (.tmp rfl rfl) (.tmp rfl rfl) hk2 hii Mk_rd (fun _ _ _ _ h => by obtain ⟨-, -, h1⟩ := h; obtain ⟨_, _, rfl⟩ := RdS.len h1; rfl)) (fun F2 => ?_)
     refine C_nil ?_
     refine CW_region ?_
     refine C_val (V_move (v := (.int .i64 (i : Int))) (.tmp rfl rfl)) ?_
     refine C_val (V_add (i := (i : Int)) (j := 1) (.tmp rfl rfl) (.int _ _)) ?_
     rw [show IntKind.i64.wrap ((i : Int) + 1) = ((i + 1 : Nat) : Int) from by rw [wrap_in (by omega) (by omega)]; rfl]
     refine C_val (V_assign (v := (.int .i64 ((i + 1 : Nat) : Int))) (.tmp rfl rfl)) ?_
     refine C_nil ?_
     refine CW_region ?_
     refine C_val (V_move (v := (.int .i64 (j : Int))) (.tmp rfl rfl)) ?_
     refine C_val (V_add (i := (j : Int)) (j := 1) (.tmp rfl rfl) (.int _ _)) ?_
     rw [show IntKind.i64.wrap ((j : Int) + 1) = ((j + 1 : Nat) : Int) from by rw [wrap_in (by omega) (by omega)]; rfl]
     refine C_val (V_assign (v := (.int .i64 ((j + 1 : Nat) : Int))) (.tmp rfl rfl)) ?_
     refine C_nil ?_
     exact ⟨_, by omega, _, cur.set i x, i + 1, j + 1, F2, rfl, (EqL.cons rfl (EqL.cons rfl (EqL.cons rfl (EqL.cons rfl (EqL.nil))))).eq, hI.no hx2 (by simpa using hb3), .sel (.cons .h (.rd (.t (.t .h)) rfl (.rd (.t (.t (.t .h))) rfl .nil)))⟩
   · refine CW_skip ?_
     refine CW_region ?_
     refine C_val (V_move (v := (.int .i64 (j : Int))) (.tmp rfl rfl)) ?_
     refine C_val (V_add (i := (j : Int)) (j := 1) (.tmp rfl rfl) (.int _ _)) ?_
     rw [show IntKind.i64.wrap ((j : Int) + 1) = ((j + 1 : Nat) : Int) from by rw [wrap_in (by omega) (by omega)]; rfl]
     refine C_val (V_assign (v := (.int .i64 ((j + 1 : Nat) : Int))) (.tmp rfl rfl)) ?_
     refine C_nil ?_
     exact ⟨_, by omega, _, cur, i, j + 1, F', rfl, (EqL.cons rfl (EqL.cons rfl (EqL.cons rfl (EqL.cons rfl (EqL.nil))))).eq, hI.yes hx2 (by simpa using hb3), .sel (.cons (.t (.t .h)) (.rd (.t (.t .h)) rfl (.rd (.t (.t (.t .h))) rfl .nil)))⟩
 · refine CW_exit ?_
   refine CThen_exit ?_
   refine CThen_exit ?_
   refine CIn_self ?_
   have hj : qs.length ≤ j := by simp at hb2; omega
   refine K_pure .h (own_form (by intro e; rw [e] at hlen; simp at hlen; omega)) (fun hv => ?_)
   obtain ⟨k0, m0, rfl, hm0⟩ := hv
   refine K_region ?_
   refine C_val (V_move (v := (.slice (some ⟨k0, 0, none⟩) cur.length m0)) (.tmp rfl rfl)) ?_
   refine C_val (V_move (v := (.int .i64 (i : Int))) (.tmp rfl rfl)) ?_
   refine C_sliceLo sl54.h ty24.h.sz (.tmp rfl rfl) (.tmp rfl rfl) .h (by omega) (by omega) ?_
   refine C_x1 (.cons .h .nil) (X_clear (l := cur.length) (m := m0) (k := k0) (i := i) (j := cur.length - i) sl54.h ty24.h rfl rfl rfl rfl rfl (by omega) (.tmp rfl rfl)) (fun _ => ?_)
   refine C_nil ?_
   refine K_region ?_
   refine C_val (V_move (v := (.slice (some ⟨k0, 0, none⟩) cur.length m0)) (.tmp rfl rfl)) ?_
   refine C_val (V_move (v := (.int .i64 (i : Int))) (.tmp rfl rfl)) ?_
   refine C_sliceHi sl54.h ty24.h.sz (.tmp rfl rfl) hm0 (.tmp rfl rfl) .h rfl (by omega) (by omega) (by omega) ?_
   refine C_val (V_assign (v := (.slice (some ⟨k0, 0, none⟩) i 2)) (.tmp rfl rfl)) ?_
   refine C_nil ?_
   refine CW_ret ?_
   rw [← hI.fin hj]
   exact End_ret (⟨some ⟨k0, 0, none⟩, i, 2⟩, F') (.tmp rfl rfl .nil) rfl (.sel (.cons .h .nil))
theorem g_slices_DeleteFunc_int_int_iwithout1_ok (a_s : List (List Int)) (v0_0 : Sv) (F0_0 : List Nat) (kc1 : Nat) (a_e1 : List (List Int)) (vc1_0 : Sv) (R : List (List Int)) (hF : g_slices_DeleteFunc_int_int_iwithout1 a_s a_e1 = some R) :
   Fw.Spec Tryz.prog 137 [v0_0.v, (.func (.func 139) [].toArray [(.pointer (some ⟨kc1, 0, some 0⟩))].toArray)] [cown (OwnS 24 (OwnS 3 (roE rdInt))) F0_0 v0_0.v a_s, cboR kc1 54 vc1_0.v, crd (RdS 24 (RdS 3 rdInt)) vc1_0.v a_e1] (fun p : Sv × List Nat => p.1.v) (fun p => [cown (OwnS 24 (OwnS 3 (roE rdInt))) p.2 p.1.v R]) := by
 unfold g_slices_DeleteFunc_int_int_iwithout1 at hF
 obtain ⟨h1, h2⟩ := delL_some hF
 refine Spec_pure cown_bound (fun hb => ?_)
 refine Spec_deep (R := (RdS 3 rdInt)) rfl (fun es F1 hel => ⟨(es.zip a_s).filter (fun a => !(i_without_1 a.2 a_e1).getD false), List.filter_sublist, by rw [h2]; exact zip_filter (fun a => (i_without_1 a a_e1).getD false) es a_s hel, ?_⟩)
 refine g_slices_DeleteFunc_int_int_iwithout1_sh (es.zip a_s) v0_0 F1 kc1 a_e1 vc1_0 (fun a => (i_without_1 a.2 a_e1).getD false) (fun q hq => h1 q.2 (List.of_mem_zip hq).2) ?_ (by simp; omega)
 rw [List.map_snd_zip (Nat.le_of_eq hel.symm), ← ixF_map Prod.snd (fun a => (i_without_1 a a_e1).getD false), List.map_snd_zip (Nat.le_of_eq hel.symm)]
 exact index_loop (L := g_slices_IndexFunc_int_int_iwithout1_L1 a_e1) (fun _ => rfl) (fun _ _ _ => rfl) a_s 0 h1
def i_without (a_l : List (List Int)) (a_other : List (List Int)) : Option ((List (List Int))) :=
 (i_copyTuples a_l).bind fun r2 =>
 (g_slices_DeleteFunc_int_int_iwithout1 r2 a_other).bind fun r5 =>
 some r5
theorem i_without_ok (a_l : List (List Int)) (v0_0 : Sv) (a_other : List (List Int)) (v1_0 : Sv) (R : (List (List Int))) (hF : i_without a_l a_other = some R) :
   Fw.Spec Tryz.prog 71 [v0_0.v, v1_0.v] [crd (RdS 24 (RdS 3 rdInt)) v0_0.v a_l, crd (RdS 24 (RdS 3 rdInt)) v1_0.v a_other] (fun p : Sv × List Nat => p.1.v) (fun p => [cown (OwnS 24 (OwnS 3 (roE rdInt))) p.2 p.1.v R]) := by
 refine Se 9 Tryz.func71 [.tmp 4] ?_
 intro H0 F0
 unfold i_without at hF
 refine au ?_
 refine AbR (fun k1 => ?_)
 iterate 4 refine au ?_
 refine bnd hF fun r2 hx3 hF => Cx1 (i_copyTuples_ok _ _ _ hx3) (fun p4 => ?_)
 refine C_val (V_makeFunc (fn := .func 139) (vs := []) (us := [(pz k1)]) .nil (.cons (.tmp rfl rfl) .nil)) ?_
 refine bnd hF fun r5 hx6 hF => Cx1 (g_slices_DeleteFunc_int_int_iwithout1_ok _ _ _ _ _ _ _ hx6) (fun p7 => ?_)
 iterate 3 refine au ?_
 cases hF
 exact Er (p7.1, p7.2)
def i_LostAnswers (a_s : List Int) (a_l : List Method) (a_q : Query) (a_facts : List Fact) : Option ((List (List Int))) :=
 (i_AreMethods a_s a_l).bind fun r2 =>
 if (!r2) then (
   some [])
 else (
   (i_AnswersOf a_s a_q a_facts).bind fun r5 =>
   (i_MaximalAnswers a_s a_l a_q a_facts).bind fun r8 =>
   (i_without r5 r8).bind fun r11 =>
   some r11)
theorem i_LostAnswers_ok (a_s : List Int) (v0_0 : Sv) (a_l : List Method) (v1_0 : Sv) (a_q : Query) (v2_0 : Sv) (v2_1 : Sv) (a_facts : List Fact) (v3_0 : Sv) (R : (List (List Int))) (hF : i_LostAnswers a_s a_l a_q a_facts = some R) :
   Fw.Spec Tryz.prog 27 [v0_0.v, v1_0.v, (.agg [v2_0.v, v2_1.v].toArray), v3_0.v] [crd (RdS 3 rdInt) v0_0.v a_s, crd (RdS 73 rd73) v1_0.v a_l, crd (RdS 3 rdInt) v2_0.v a_q.Head, crd (RdS 98 rd98) v2_1.v a_q.Atoms, crd (RdS 86 rd86) v3_0.v a_facts] (fun p : Sv × List Nat => p.1.v) (fun p => [cown (OwnS 24 (OwnS 3 (roE rdInt))) p.2 p.1.v R]) := by
 refine Se 23 Tryz.func27 [.tmp 8] ?_
 intro H0 F0
 unfold i_LostAnswers at hF
 refine au ?_
 refine AbR (fun k1 => ?_)
 iterate 6 refine au ?_
 refine bnd hF fun r2 hx3 hF => Cx0 (i_AreMethods_ok _ _ _ _ _ hx3) (fun _ => ?_)
 iterate 2 refine au ?_
 refine Ci hF (fun hb14 hF => ?_) (fun hb14 hF => ?_)
 · iterate 4 refine au ?_
   cases hF
   exact End_ret (⟨none, 0, 0⟩, []) (.tmp rfl rfl .nil) rfl (.conv .nil (own_nil (Ro := (OwnS 3 (roE rdInt))) (E := 24)) (.cons .nil) (.sel (.cons .h .nil)))
 refine au ?_
 refine K_draw [0, 1, 2, 4, 5, 6, 7, 3, 8, 9, 10] [0, 0, 0, 7, 0, 0, 0, 0, 255, 511, 1023] [3, 8, 9] mixed (by decide +kernel) ?_
 iterate 7 refine du ?_
 refine bnd hF fun r5 hx6 hF => Dx1 (i_AnswersOf_ok _ _ _ _ _ _ _ _ hx6) (fun p7 => ?_)
 refine bnd hF fun r8 hx9 hF => Dx1 (i_MaximalAnswers_ok _ _ _ _ _ _ _ _ _ _ hx9) (fun p10 => ?_)
 refine bnd hF fun r11 hx12 hF => D_act3 rfl rfl .no (.cons .h (.cons .h .nil)) .nil (fun ha => XC_borL (pre := []) (.cons frz_own (.cons frz_own .nil)) (fun _ => (.cons .nil)) (X_callS cf71.h (.cons (EN ha (.tmp rfl rfl) rfl) (.cons (EN ha (.tmp rfl rfl) rfl) .nil)) (i_without_ok r5 p7.1 r8 p10.1 _ hx12))) (fun p13 => ?_)
 iterate 2 refine du ?_
 refine au ?_
 cases hF
 exact Er (p13.1, p13.2)
def s_IsMethod_L1 (a_s : List Int) (a_m : Method) : List Int → Nat → Option (Bool)
 | [], k27 => some true
 | x29 :: rest28, k27 => ((ix a_s a_m.Rel).bind fun x40 =>
     (s_l1In x29 0 (IntKind.i64.wrap (x40 - 1))).bind fun r46 =>
     bif (!r46) then (some true)
     else (bif (decide ((0 : Int) < (k27 : Int))) then ((ix a_m.Inputs (IntKind.i64.wrap ((k27 : Int) - 1))).bind fun x53 =>
         some (decide ((x29 : Int) ≤ x53)))
       else (some false))).bind fun o36 =>
   match o36 with
   | c59 => if c59 then (
       some false)
     else (
       s_IsMethod_L1 a_s a_m rest28 (k27 + 1))
def s_IsMethod (a_s : List Int) (a_m : Method) : Option (Bool) :=
 ((s_IsSchema a_s).bind fun r4 =>
   bif (!r4) then (some true)
   else ((s_l1In a_m.Rel 0 (IntKind.i64.wrap ((a_s.length : Int) - 1))).bind fun r8 =>
     bif (!r8) then (some true)
     else ((s_l1In a_m.Limit 0 9).bind fun r12 =>
       bif (!r12) then (some true)
       else ((s_l1In a_m.Cost 0 99).bind fun r16 =>
         bif (!r16) then (some true)
         else ((s_l1In a_m.Quota 1 99).bind fun r20 =>
           some (!r20)))))).bind fun o2 =>
 match o2 with
 | c23 => if c23 then (
     some false)
   else (
     s_IsMethod_L1 a_s a_m a_m.Inputs 0)
theorem s_IsMethod_ok (a_s : List Int) (v0_0 : Sv) (a_m : Method) (v1_1 : Sv) (R : Bool) (hF : s_IsMethod a_s a_m = some R) :
   Fw.Spec Tryz.prog 74 [v0_0.v, (.agg [(.int .i64 a_m.Rel), v1_1.v, (.int .i64 a_m.Limit), (.int .i64 a_m.Cost), (.int .i64 a_m.Quota)].toArray)] [crd (RdS 3 rdInt) v0_0.v a_s, crd (RdS 3 rdInt) v1_1.v a_m.Inputs] (fun _ : Unit => (.bool R)) (fun _ => []) := by
 refine Se 74 Tryz.func74 [.tmp 4] ?_
 intro H0 F0
 unfold s_IsMethod at hF
 refine au ?_
 refine AbR (fun k1 => ?_)
 iterate 3 refine au ?_
 obtain ⟨o2, hio2, hO3⟩ := bind_some hF
 refine au ?_
 refine C_cut (fun f' cs' => ∃ (c23 : Bool) (g : Fr), c23 = o2 ∧ f' = updL g [(0, v0_0.v), (3, (pz k1)), (35, (.bool c23))] ∧ Ent cs' [crd (RdS 3 rdInt) v0_0.v a_s, cboR k1 73 (.agg [(.int .i64 a_m.Rel), v1_1.v, (.int .i64 a_m.Limit), (.int .i64 a_m.Cost), (.int .i64 a_m.Quota)].toArray), crd (RdS 3 rdInt) v1_1.v a_m.Inputs]) ?_ ?_
 · replace hF := hio2
   refine au ?_
   refine bnd hF fun r4 hx5 hF => Cx0 (s_IsSchema_ok _ _ _ hx5) (fun _ => ?_)
   iterate 2 refine au ?_
   rcases Bool.eq_false_or_eq_true (!r4) with hg7 | hg7
   · rw [hg7]
     try rw [hg7] at hF; dsimp only [cond_true, cond_false] at hF
     iterate 27 refine au ?_
     cases hF
     exact ⟨_, _, rfl, eqA, entA⟩
   rw [hg7]
   try rw [hg7] at hF; dsimp only [cond_true, cond_false] at hF
   iterate 11 refine au ?_
   refine bnd hF fun r8 hx9 hF => Cx0 (s_l1In_ok _ _ _ _ hx9) (fun _ => ?_)
   iterate 4 refine au ?_
   rcases Bool.eq_false_or_eq_true (!r8) with hg11 | hg11
   · rw [hg11]
     try rw [hg11] at hF; dsimp only [cond_true, cond_false] at hF
     iterate 18 refine au ?_
     cases hF
     exact ⟨_, _, rfl, eqA, entA⟩
   rw [hg11]
   try rw [hg11] at hF; dsimp only [cond_true, cond_false] at hF
   iterate 5 refine au ?_
   refine bnd hF fun r12 hx13 hF => Cx0 (s_l1In_ok _ _ _ _ hx13) (fun _ => ?_)
   iterate 4 refine au ?_
   rcases Bool.eq_false_or_eq_true (!r12) with hg15 | hg15
   · rw [hg15]
     try rw [hg15] at hF; dsimp only [cond_true, cond_false] at hF
     iterate 12 refine au ?_
     cases hF
     exact ⟨_, _, rfl, eqA, entA⟩
   rw [hg15]
   try rw [hg15] at hF; dsimp only [cond_true, cond_false] at hF
   iterate 5 refine au ?_
   refine bnd hF fun r16 hx17 hF => Cx0 (s_l1In_ok _ _ _ _ hx17) (fun _ => ?_)
   iterate 4 refine au ?_
   rcases Bool.eq_false_or_eq_true (!r16) with hg19 | hg19
   · rw [hg19]
     try rw [hg19] at hF; dsimp only [cond_true, cond_false] at hF
     iterate 6 refine au ?_
     cases hF
     exact ⟨_, _, rfl, eqA, entA⟩
   rw [hg19]
   try rw [hg19] at hF; dsimp only [cond_true, cond_false] at hF
   iterate 5 refine au ?_
   refine bnd hF fun r20 hx21 hF => Cx0 (s_l1In_ok _ _ _ _ hx21) (fun _ => ?_)
   iterate 4 refine au ?_
   cases hF
   exact ⟨_, _, rfl, eqA, entA⟩
 rintro _ _ ⟨c23, g64, rfl, rfl, hE⟩
 replace hF := hO3
 try dsimp only at hF
 refine K_ent hE ?_
 refine Ci hF (fun hb63 hF => ?_) (fun hb63 hF => ?_)
 · iterate 4 refine au ?_
   cases hF
   exact Er ()
 iterate 5 refine au ?_
 refine CW_block (CW_loop (m := a_m.Inputs.length) (fun m25 f' cs' => ∃ (g : Fr) (k27 : Nat) (rest28 : List Int), m25 = rest28.length ∧ f' = updL g [(0, v0_0.v), (3, (pz k1)), (5, (.int .i64 (k27 : Int)))] ∧ List.drop k27 a_m.Inputs = rest28 ∧ Ent cs' [crd (RdS 3 rdInt) v0_0.v a_s, cboR k1 73 (.agg [(.int .i64 a_m.Rel), v1_1.v, (.int .i64 a_m.Limit), (.int .i64 a_m.Cost), (.int .i64 a_m.Quota)].toArray), crd (RdS 3 rdInt) v1_1.v a_m.Inputs] ∧ s_IsMethod_L1 a_s a_m rest28 k27 = some R) ⟨_, 0, _, rfl, eqA, rfl, entA, hF⟩ ?_)
 rintro m25 _ _ ⟨g26, k27, rest28, rfl, rfl, hd30, hE, hF⟩
 refine Kb hE a_m.Inputs (fun hbd35 => ?_)
 rcases rest28 with _ | ⟨x29, rest28⟩
 · have hk31 := dn hd30
   rw [s_IsMethod_L1] at hF
   iterate 8 refine au ?_
   refine CdF ?_
   iterate 8 refine au ?_
   cases hF
   exact Er ()
 obtain ⟨hk31, hx32, hd33⟩ := drop_cons hd30
 rw [s_IsMethod_L1] at hF
 iterate 8 refine au ?_
 refine CdT ?_
 iterate 2 refine au ?_
 obtain ⟨o36, hio36, hO37⟩ := bind_some hF
 refine K_draw [0, 1, 2, 3, 4, 5, 6, 7, 8, 9, 10, 11, 12, 13, 14, 15, 16, 17, 18, 19, 20, 21, 22, 23, 24, 25, 26, 27, 28, 29, 30] [0, 1, 0, 7, 15, 0, 0, 64, 224, 480, 992, 2047, 4095, 8191, 16383, 32767, 65535, 131071, 262143, 131071, 1048575, 2097151, 131071, 4325375, 131071, 16908287, 63045631, 130154495, 268435455, 536870911, 1073741823] [11] mixed (by decide +kernel) ?_
 refine D_cut (fun f' cs' => ∃ (c59 : Bool) (g : Fr), c59 = o36 ∧ f' = updL g [(0, v0_0.v), (3, (pz k1)), (5, (.int .i64 (k27 : Int))), (73, (.bool c59))] ∧ Ent cs' [crd (RdS 3 rdInt) v0_0.v a_s, cboR k1 73 (.agg [(.int .i64 a_m.Rel), v1_1.v, (.int .i64 a_m.Limit), (.int .i64 a_m.Cost), (.int .i64 a_m.Quota)].toArray), crd (RdS 3 rdInt) v1_1.v a_m.Inputs]) ?_ ?_
 · replace hF := hio36
   iterate 3 refine du ?_
   refine Di hx32 (fun k38 j39 => ?_)
   refine Dl ls3_0 ?_
   iterate 3 refine du ?_
   refine bnd hF fun x40 hx41 hF => ?_
   obtain ⟨hp42, hx43⟩ := ix_some hx41
   refine Di hx43 (fun k44 j45 => ?_)
   refine Dl ls3_0 ?_
   refine du ?_
   refine bnd hF fun r46 hx47 hF => Dx0 (s_l1In_ok _ _ _ _ hx47) (fun _ => ?_)
   iterate 2 refine du ?_
   rcases Bool.eq_false_or_eq_true (!r46) with hg49 | hg49
   · rw [hg49]
     try rw [hg49] at hF; dsimp only [cond_true, cond_false] at hF
     iterate 18 refine du ?_
     cases hF
     exact ⟨_, _, rfl, eqA, entA⟩
   rw [hg49]
   try rw [hg49] at hF; dsimp only [cond_true, cond_false] at hF
   iterate 3 refine du ?_
   rcases Bool.eq_false_or_eq_true (decide ((0 : Int) < (k27 : Int))) with hg50 | hg50
   · rw [hg50]
     try rw [hg50] at hF; dsimp only [cond_true, cond_false] at hF
     iterate 3 refine du ?_
     refine Di hx32 (fun k51 j52 => ?_)
     refine Dl ls3_0 ?_
     iterate 4 refine du ?_
     refine bnd hF fun x53 hx54 hF => ?_
     obtain ⟨hp55, hx56⟩ := ix_some hx54
     refine Di hx56 (fun k57 j58 => ?_)
     refine Dl ls3_0 ?_
     iterate 4 refine du ?_
     cases hF
     exact ⟨_, _, rfl, eqA, entA⟩
   rw [hg50]
   try rw [hg50] at hF; dsimp only [cond_true, cond_false] at hF
   iterate 15 refine du ?_
   cases hF
   exact ⟨_, _, rfl, eqA, entA⟩
 rintro _ _ ⟨c59, g62, rfl, rfl, hE⟩
 replace hF := hO37
 try dsimp only at hF
 refine K_ent hE ?_
 refine Ci hF (fun hb61 hF => ?_) (fun hb61 hF => ?_)
 · iterate 4 refine au ?_
   cases hF
   exact Er ()
 iterate 6 refine au ?_
 rw [wk k27]
 exact ⟨_, Nat.lt_succ_self _, _, k27 + 1, rest28, rfl, eqA, hd33, entA, hF⟩
def s_AreMethods_L1 (a_s : List Int) (a_l : List Method) : List Method → Nat → Option (Bool)
 | [], k4 => ((s_IsSchema a_s).bind fun r15 =>
     bif r15 then (some (decide (((a_l.length : Int) : Int) ≤ 5)))
     else (some false)).bind fun o13 =>
   match o13 with
   | c19 => some c19
 | x6 :: rest5, k4 => (s_IsMethod a_s x6).bind fun r24 =>
   if (!r24) then (
     some false)
   else (
     s_AreMethods_L1 a_s a_l rest5 (k4 + 1))
def s_AreMethods (a_s : List Int) (a_l : List Method) : Option (Bool) :=
 s_AreMethods_L1 a_s a_l a_l 0
theorem s_AreMethods_ok (a_s : List Int) (v0_0 : Sv) (a_l : List Method) (v1_0 : Sv) (R : Bool) (hF : s_AreMethods a_s a_l = some R) :
   Fw.Spec Tryz.prog 31 [v0_0.v, v1_0.v] [crd (RdS 3 rdInt) v0_0.v a_s, crd (RdS 73 rd73) v1_0.v a_l] (fun _ : Unit => (.bool R)) (fun _ => []) := by
 refine Se 26 Tryz.func31 [.tmp 4] ?_
 intro H0 F0
 unfold s_AreMethods at hF
 iterate 7 refine au ?_
 refine CW_block (CW_loop (m := a_l.length) (fun m2 f' cs' => ∃ (g : Fr) (k4 : Nat) (rest5 : List Method), m2 = rest5.length ∧ f' = updL g [(0, v0_0.v), (1, v1_0.v), (5, (.int .i64 (k4 : Int)))] ∧ List.drop k4 a_l = rest5 ∧ Ent cs' [crd (RdS 3 rdInt) v0_0.v a_s, crd (RdS 73 rd73) v1_0.v a_l] ∧ s_AreMethods_L1 a_s a_l rest5 k4 = some R) ⟨_, 0, _, rfl, eqA, rfl, entA, hF⟩ ?_)
 rintro m2 _ _ ⟨g3, k4, rest5, rfl, rfl, hd7, hE, hF⟩
 refine Kb hE a_l (fun hbd12 => ?_)
 rcases rest5 with _ | ⟨x6, rest5⟩
 · have hk8 := dn hd7
   rw [s_AreMethods_L1] at hF
   iterate 7 refine au ?_
   refine CdF ?_
   iterate 4 refine au ?_
   obtain ⟨o13, hio13, hO14⟩ := bind_some hF
   refine au ?_
   refine C_cut (fun f' cs' => ∃ (c19 : Bool) (g : Fr), c19 = o13 ∧ f' = updL g [(4, (.bool c19))] ∧ Ent cs' []) ?_ ?_
   · replace hF := hio13
     refine au ?_
     refine bnd hF fun r15 hx16 hF => Cx0 (s_IsSchema_ok _ _ _ hx16) (fun _ => ?_)
     refine au ?_
     rcases Bool.eq_false_or_eq_true r15 with hg18 | hg18
     · rw [hg18]
       try rw [hg18] at hF; dsimp only [cond_true, cond_false] at hF
       iterate 9 refine au ?_
       cases hF
       exact ⟨_, _, rfl, eqA, entA⟩
     rw [hg18]
     try rw [hg18] at hF; dsimp only [cond_true, cond_false] at hF
     iterate 6 refine au ?_
     cases hF
     exact ⟨_, _, rfl, eqA, entA⟩
   rintro _ _ ⟨c19, g20, rfl, rfl, hE⟩
   replace hF := hO14
   try dsimp only at hF
   refine K_ent hE ?_
   refine au ?_
   cases hF
   exact Er ()
 obtain ⟨hk8, hx9, hd10⟩ := drop_cons hd7
 rw [s_AreMethods_L1] at hF
 iterate 7 refine au ?_
 refine CdT ?_
 iterate 6 refine au ?_
 refine Ai hx9 (fun k21 j22 => ?_)
 refine AlA1 (ul73_0_73 x6) la73_0_73 (fun p23 => ?_)
 refine bnd hF fun r24 hx25 hF => Cx0 (s_IsMethod_ok _ _ _ _ _ hx25) (fun _ => ?_)
 iterate 2 refine au ?_
 refine Ci hF (fun hb28 hF => ?_) (fun hb28 hF => ?_)
 · iterate 4 refine au ?_
   cases hF
   exact Er ()
 iterate 6 refine au ?_
 rw [wk k4]
 exact ⟨_, Nat.lt_succ_self _, _, k4 + 1, rest5, rfl, eqA, hd10, entA, hF⟩
def s_IsTerm (a_t : Int) : Option (Bool) :=
 ((s_l1In a_t 0 9).bind fun r3 =>
   bif r3 then (some true)
   else ((s_IsVar a_t).bind fun r7 =>
     some r7)).bind fun o1 =>
 match o1 with
 | c10 => some c10
theorem s_IsTerm_ok (a_t : Int) (R : Bool) (hF : s_IsTerm a_t = some R) :
   Fw.Spec Tryz.prog 141 [(.int .i64 a_t)] [] (fun _ : Unit => (.bool R)) (fun _ => []) := by
 refine Se 9 Tryz.func141 [.tmp 2] ?_
 intro H0 F0
 unfold s_IsTerm at hF
 iterate 3 refine au ?_
 obtain ⟨o1, hio1, hO2⟩ := bind_some hF
 refine au ?_
 refine C_cut (fun f' cs' => ∃ (c10 : Bool) (g : Fr), c10 = o1 ∧ f' = updL g [(2, (.bool c10))] ∧ Ent cs' []) ?_ ?_
 · replace hF := hio1
   refine au ?_
   refine bnd hF fun r3 hx4 hF => Cx0 (s_l1In_ok _ _ _ _ hx4) (fun _ => ?_)
   refine au ?_
   rcases Bool.eq_false_or_eq_true r3 with hg6 | hg6
   · rw [hg6]
     try rw [hg6] at hF; dsimp only [cond_true, cond_false] at hF
     iterate 5 refine au ?_
     cases hF
     exact ⟨_, _, rfl, eqA, entA⟩
   rw [hg6]
   try rw [hg6] at hF; dsimp only [cond_true, cond_false] at hF
   iterate 3 refine au ?_
   refine bnd hF fun r7 hx8 hF => Cx0 (s_IsVar_ok _ _ hx8) (fun _ => ?_)
   iterate 3 refine au ?_
   cases hF
   exact ⟨_, _, rfl, eqA, entA⟩
 rintro _ _ ⟨c10, g11, rfl, rfl, hE⟩
 replace hF := hO2
 try dsimp only at hF
 refine K_ent hE ?_
 refine au ?_
 cases hF
 exact Er ()
def s_IsAtom_L1 : List Int → Nat → Option (Bool)
 | [], k22 => some true
 | x24 :: rest23, k22 => (s_IsTerm x24).bind fun r33 =>
   if (!r33) then (
     some false)
   else (
     s_IsAtom_L1 rest23 (k22 + 1))
def s_IsAtom (a_s : List Int) (a_a : Atom) : Option (Bool) :=
 ((s_IsSchema a_s).bind fun r4 =>
   bif (!r4) then (some true)
   else ((s_l1In a_a.Rel 0 (IntKind.i64.wrap ((a_s.length : Int) - 1))).bind fun r8 =>
     bif (!r8) then (some true)
     else ((ix a_s a_a.Rel).bind fun x12 =>
       some (((a_a.Terms.length : Int) : Int) != x12)))).bind fun o2 =>
 match o2 with
 | c18 => if c18 then (
     some false)
   else (
     s_IsAtom_L1 a_a.Terms 0)
theorem s_IsAtom_ok (a_s : List Int) (v0_0 : Sv) (a_a : Atom) (v1_1 : Sv) (R : Bool) (hF : s_IsAtom a_s a_a = some R) :
   Fw.Spec Tryz.prog 76 [v0_0.v, (.agg [(.int .i64 a_a.Rel), v1_1.v].toArray)] [crd (RdS 3 rdInt) v0_0.v a_s, crd (RdS 3 rdInt) v1_1.v a_a.Terms] (fun _ : Unit => (.bool R)) (fun _ => []) := by
 refine Se 43 Tryz.func76 [.tmp 4] ?_
 intro H0 F0
 unfold s_IsAtom at hF
 refine au ?_
 refine AbR (fun k1 => ?_)
 iterate 3 refine au ?_
 obtain ⟨o2, hio2, hO3⟩ := bind_some hF
 refine K_draw [0, 1, 2, 3, 4, 5, 6, 7, 8, 9, 10, 11, 12, 13, 14, 15, 16, 17, 18, 19, 20, 21, 22] [0, 1, 3, 7, 15, 31, 15, 79, 207, 511, 1023, 2047, 4095, 8191, 16383, 32767, 8191, 8191, 139263, 466943, 991231, 2097151, 4194303] [1, 9] mixed (by decide +kernel) ?_
 refine D_cut (fun f' cs' => ∃ (c18 : Bool) (g : Fr), c18 = o2 ∧ f' = updL g [(3, (pz k1)), (28, (.bool c18))] ∧ Ent cs' [cboR k1 98 (.agg [(.int .i64 a_a.Rel), v1_1.v].toArray), crd (RdS 3 rdInt) v1_1.v a_a.Terms]) ?_ ?_
 · replace hF := hio2
   refine du ?_
   refine bnd hF fun r4 hx5 hF => Dx0 (s_IsSchema_ok _ _ _ hx5) (fun _ => ?_)
   iterate 2 refine du ?_
   rcases Bool.eq_false_or_eq_true (!r4) with hg7 | hg7
   · rw [hg7]
     try rw [hg7] at hF; dsimp only [cond_true, cond_false] at hF
     iterate 20 refine du ?_
     cases hF
     exact ⟨_, _, rfl, eqA, entA⟩
   rw [hg7]
   try rw [hg7] at hF; dsimp only [cond_true, cond_false] at hF
   iterate 5 refine du ?_
   refine bnd hF fun r8 hx9 hF => Dx0 (s_l1In_ok _ _ _ _ hx9) (fun _ => ?_)
   iterate 3 refine du ?_
   rcases Bool.eq_false_or_eq_true (!r8) with hg11 | hg11
   · rw [hg11]
     try rw [hg11] at hF; dsimp only [cond_true, cond_false] at hF
     iterate 11 refine du ?_
     cases hF
     exact ⟨_, _, rfl, eqA, entA⟩
   rw [hg11]
   try rw [hg11] at hF; dsimp only [cond_true, cond_false] at hF
   iterate 6 refine du ?_
   refine bnd hF fun x12 hx13 hF => ?_
   obtain ⟨hp14, hx15⟩ := ix_some hx13
   refine Di hx15 (fun k16 j17 => ?_)
   refine Dl ls3_0 ?_
   iterate 3 refine du ?_
   cases hF
   exact ⟨_, _, rfl, eqA, entA⟩
 rintro _ _ ⟨c18, g39, rfl, rfl, hE⟩
 replace hF := hO3
 try dsimp only at hF
 refine K_ent hE ?_
 refine Ci hF (fun hb38 hF => ?_) (fun hb38 hF => ?_)
 · iterate 4 refine au ?_
   cases hF
   exact Er ()
 iterate 5 refine au ?_
 refine CW_block (CW_loop (m := a_a.Terms.length) (fun m20 f' cs' => ∃ (g : Fr) (k22 : Nat) (rest23 : List Int), m20 = rest23.length ∧ f' = updL g [(3, (pz k1)), (5, (.int .i64 (k22 : Int)))] ∧ List.drop k22 a_a.Terms = rest23 ∧ Ent cs' [cboR k1 98 (.agg [(.int .i64 a_a.Rel), v1_1.v].toArray), crd (RdS 3 rdInt) v1_1.v a_a.Terms] ∧ s_IsAtom_L1 rest23 k22 = some R) ⟨_, 0, _, rfl, eqA, rfl, entA, hF⟩ ?_)
 rintro m20 _ _ ⟨g21, k22, rest23, rfl, rfl, hd25, hE, hF⟩
 refine Kb hE a_a.Terms (fun hbd30 => ?_)
 rcases rest23 with _ | ⟨x24, rest23⟩
 · have hk26 := dn hd25
   rw [s_IsAtom_L1] at hF
   iterate 8 refine au ?_
   refine CdF ?_
   iterate 8 refine au ?_
   cases hF
   exact Er ()
 obtain ⟨hk26, hx27, hd28⟩ := drop_cons hd25
 rw [s_IsAtom_L1] at hF
 iterate 8 refine au ?_
 refine CdT ?_
 iterate 6 refine au ?_
 refine Ai hx27 (fun k31 j32 => ?_)
 refine Al ls3_0 ?_
 refine bnd hF fun r33 hx34 hF => Cx0 (s_IsTerm_ok _ _ hx34) (fun _ => ?_)
 iterate 2 refine au ?_
 refine Ci hF (fun hb37 hF => ?_) (fun hb37 hF => ?_)
 · iterate 4 refine au ?_
   cases hF
   exact Er ()
 iterate 6 refine au ?_
 rw [wk k22]
 exact ⟨_, Nat.lt_succ_self _, _, k22 + 1, rest23, rfl, eqA, hd28, entA, hF⟩
def s_IsQuery_L2 (a_s : List Int) (a_q : Query) (r14 : (List Int)) : List Int → Nat → Option (Bool)
 | [], k20 => ((s_IsSchema a_s).bind fun r31 =>
     bif r31 then ((s_l1In (a_q.Atoms.length : Int) 1 4).bind fun r35 =>
       bif r35 then (some (decide (((a_q.Head.length : Int) : Int) ≤ 3)))
       else (some false))
     else (some false)).bind fun o29 =>
   match o29 with
   | c39 => some c39
 | x22 :: rest21, k20 => (s_l2Has r14 x22).bind fun r43 =>
   if (!r43) then (
     some false)
   else (
     s_IsQuery_L2 a_s a_q r14 rest21 (k20 + 1))
def s_IsQuery_L1 (a_s : List Int) (a_q : Query) : List Atom → Nat → Option (Bool)
 | [], k5 => (s_VarsOf a_q).bind fun r14 =>
   s_IsQuery_L2 a_s a_q r14 a_q.Head 0
 | x7 :: rest6, k5 => (s_IsAtom a_s x7).bind fun r51 =>
   if (!r51) then (
     some false)
   else (
     s_IsQuery_L1 a_s a_q rest6 (k5 + 1))
def s_IsQuery (a_s : List Int) (a_q : Query) : Option (Bool) :=
 s_IsQuery_L1 a_s a_q a_q.Atoms 0
theorem s_IsQuery_ok (a_s : List Int) (v0_0 : Sv) (a_q : Query) (v1_0 : Sv) (v1_1 : Sv) (R : Bool) (hF : s_IsQuery a_s a_q = some R) :
   Fw.Spec Tryz.prog 32 [v0_0.v, (.agg [v1_0.v, v1_1.v].toArray)] [crd (RdS 3 rdInt) v0_0.v a_s, crd (RdS 3 rdInt) v1_0.v a_q.Head, crd (RdS 98 rd98) v1_1.v a_q.Atoms] (fun _ : Unit => (.bool R)) (fun _ => []) := by
 refine Se 54 Tryz.func32 [.tmp 4] ?_
 intro H0 F0
 unfold s_IsQuery at hF
 refine au ?_
 refine AbR (fun k1 => ?_)
 iterate 6 refine au ?_
 refine CW_block (CW_loop (m := a_q.Atoms.length) (fun m3 f' cs' => ∃ (g : Fr) (k5 : Nat) (rest6 : List Atom), m3 = rest6.length ∧ f' = updL g [(0, v0_0.v), (3, (pz k1)), (5, (.int .i64 (k5 : Int)))] ∧ List.drop k5 a_q.Atoms = rest6 ∧ Ent cs' [crd (RdS 3 rdInt) v0_0.v a_s, cboR k1 51 (.agg [v1_0.v, v1_1.v].toArray), crd (RdS 3 rdInt) v1_0.v a_q.Head, crd (RdS 98 rd98) v1_1.v a_q.Atoms] ∧ s_IsQuery_L1 a_s a_q rest6 k5 = some R) ⟨_, 0, _, rfl, eqA, rfl, entA, hF⟩ ?_)
 rintro m3 _ _ ⟨g4, k5, rest6, rfl, rfl, hd8, hE, hF⟩
 refine Kb hE a_q.Atoms (fun hbd13 => ?_)
 rcases rest6 with _ | ⟨x7, rest6⟩
 · have hk9 := dn hd8
   rw [s_IsQuery_L1] at hF
   iterate 8 refine au ?_
   refine CdF ?_
   iterate 6 refine au ?_
   refine bnd hF fun r14 hx15 hF => Cx1 (s_VarsOf_ok _ _ _ _ hx15) (fun p16 => ?_)
   iterate 6 refine au ?_
   refine CW_block (CW_loop (m := a_q.Head.length) (fun m18 f' cs' => ∃ (g : Fr) (k20 : Nat) (rest21 : List Int), m18 = rest21.length ∧ f' = updL g [(0, v0_0.v), (3, (pz k1)), (6, p16.1.v), (7, (.int .i64 (k20 : Int)))] ∧ List.drop k20 a_q.Head = rest21 ∧ Ent cs' [crd (RdS 3 rdInt) v0_0.v a_s, cboR k1 51 (.agg [v1_0.v, v1_1.v].toArray), crd (RdS 3 rdInt) v1_0.v a_q.Head, crd (RdS 98 rd98) v1_1.v a_q.Atoms, cown (OwnS 3 (roE rdInt)) p16.2 p16.1.v r14] ∧ s_IsQuery_L2 a_s a_q r14 rest21 k20 = some R) ⟨_, 0, _, rfl, eqA, rfl, entA, hF⟩ ?_)
   rintro m18 _ _ ⟨g19, k20, rest21, rfl, rfl, hd23, hE, hF⟩
   refine Kb hE a_q.Head (fun hbd28 => ?_)
   rcases rest21 with _ | ⟨x22, rest21⟩
   · have hk24 := dn hd23
     rw [s_IsQuery_L2] at hF
     iterate 8 refine au ?_
     refine CdF ?_
     iterate 4 refine au ?_
     obtain ⟨o29, hio29, hO30⟩ := bind_some hF
     refine au ?_
     refine C_cut (fun f' cs' => ∃ (c39 : Bool) (g : Fr), c39 = o29 ∧ f' = updL g [(4, (.bool c39))] ∧ Ent cs' []) ?_ ?_
     · replace hF := hio29
       refine au ?_
       refine bnd hF fun r31 hx32 hF => Cx0 (s_IsSchema_ok _ _ _ hx32) (fun _ => ?_)
       refine au ?_
       rcases Bool.eq_false_or_eq_true r31 with hg34 | hg34
       · rw [hg34]
         try rw [hg34] at hF; dsimp only [cond_true, cond_false] at hF
         iterate 7 refine au ?_
         refine bnd hF fun r35 hx36 hF => Cx0 (s_l1In_ok _ _ _ _ hx36) (fun _ => ?_)
         iterate 2 refine au ?_
         rcases Bool.eq_false_or_eq_true r35 with hg38 | hg38
         · rw [hg38]
           try rw [hg38] at hF; dsimp only [cond_true, cond_false] at hF
           iterate 11 refine au ?_
           cases hF
           exact ⟨_, _, rfl, eqA, entA⟩
         rw [hg38]
         try rw [hg38] at hF; dsimp only [cond_true, cond_false] at hF
         iterate 7 refine au ?_
         cases hF
         exact ⟨_, _, rfl, eqA, entA⟩
       rw [hg34]
       try rw [hg34] at hF; dsimp only [cond_true, cond_false] at hF
       iterate 13 refine au ?_
       cases hF
       exact ⟨_, _, rfl, eqA, entA⟩
     rintro _ _ ⟨c39, g40, rfl, rfl, hE⟩
     replace hF := hO30
     try dsimp only at hF
     refine K_ent hE ?_
     refine au ?_
     cases hF
     exact Er ()
   obtain ⟨hk24, hx25, hd26⟩ := drop_cons hd23
   rw [s_IsQuery_L2] at hF
   iterate 8 refine au ?_
   refine CdT ?_
   iterate 7 refine au ?_
   refine Ai hx25 (fun k41 j42 => ?_)
   refine Al ls3_0 ?_
   refine bnd hF fun r43 hx44 hF => C_x1 (.cons (.t (.t (.t (.t (.t .h))))) .nil) (XC_bor frz_own (fun _ => .nil) (X_callS cf78.h (.cons (.tmp rfl rfl) (.cons (.tmp rfl rfl) .nil)) (s_l2Has_ok r14 p16.1 x22 _ hx44))) (fun _ => ?_)
   iterate 2 refine au ?_
   refine Ci hF (fun hb47 hF => ?_) (fun hb47 hF => ?_)
   · iterate 4 refine au ?_
     cases hF
     exact Er ()
   iterate 6 refine au ?_
   rw [wk k20]
   exact ⟨_, Nat.lt_succ_self _, _, k20 + 1, rest21, rfl, eqA, hd26, entA, hF⟩
 obtain ⟨hk9, hx10, hd11⟩ := drop_cons hd8
 rw [s_IsQuery_L1] at hF
 iterate 8 refine au ?_
 refine CdT ?_
 iterate 7 refine au ?_
 refine Ai hx10 (fun k48 j49 => ?_)
 refine AlA1 (ul98_0_98 x7) la98_0_98 (fun p50 => ?_)
 refine bnd hF fun r51 hx52 hF => Cx0 (s_IsAtom_ok _ _ _ _ _ hx52) (fun _ => ?_)
 iterate 2 refine au ?_
 refine Ci hF (fun hb55 hF => ?_) (fun hb55 hF => ?_)
 · iterate 4 refine au ?_
   cases hF
   exact Er ()
 iterate 6 refine au ?_
 rw [wk k5]
 exact ⟨_, Nat.lt_succ_self _, _, k5 + 1, rest6, rfl, eqA, hd11, entA, hF⟩
def s_l6Fine (a_s : List Int) (a_l : List Method) (a_q : Query) : Option (Bool) :=
 ((s_AreMethods a_s a_l).bind fun r4 =>
   bif r4 then ((s_IsQuery a_s a_q).bind fun r8 =>
     some r8)
   else (some false)).bind fun o2 =>
 match o2 with
 | c11 => some c11
theorem s_l6Fine_ok (a_s : List Int) (v0_0 : Sv) (a_l : List Method) (v1_0 : Sv) (a_q : Query) (v2_0 : Sv) (v2_1 : Sv) (R : Bool) (hF : s_l6Fine a_s a_l a_q = some R) :
   Fw.Spec Tryz.prog 73 [v0_0.v, v1_0.v, (.agg [v2_0.v, v2_1.v].toArray)] [crd (RdS 3 rdInt) v0_0.v a_s, crd (RdS 73 rd73) v1_0.v a_l, crd (RdS 3 rdInt) v2_0.v a_q.Head, crd (RdS 98 rd98) v2_1.v a_q.Atoms] (fun _ : Unit => (.bool R)) (fun _ => []) := by
 refine Se 15 Tryz.func73 [.tmp 6] ?_
 intro H0 F0
 unfold s_l6Fine at hF
 refine au ?_
 refine AbR (fun k1 => ?_)
 iterate 2 refine au ?_
 obtain ⟨o2, hio2, hO3⟩ := bind_some hF
 refine au ?_
 refine C_cut (fun f' cs' => ∃ (c11 : Bool) (g : Fr), c11 = o2 ∧ f' = updL g [(6, (.bool c11))] ∧ Ent cs' []) ?_ ?_
 · replace hF := hio2
   iterate 2 refine au ?_
   refine bnd hF fun r4 hx5 hF => Cx0 (s_AreMethods_ok _ _ _ _ _ hx5) (fun _ => ?_)
   refine au ?_
   rcases Bool.eq_false_or_eq_true r4 with hg7 | hg7
   · rw [hg7]
     try rw [hg7] at hF; dsimp only [cond_true, cond_false] at hF
     iterate 5 refine au ?_
     refine bnd hF fun r8 hx9 hF => Cx0 (s_IsQuery_ok _ _ _ _ _ _ hx9) (fun _ => ?_)
     iterate 3 refine au ?_
     cases hF
     exact ⟨_, _, rfl, eqA, entA⟩
   rw [hg7]
   try rw [hg7] at hF; dsimp only [cond_true, cond_false] at hF
   iterate 6 refine au ?_
   cases hF
   exact ⟨_, _, rfl, eqA, entA⟩
 rintro _ _ ⟨c11, g12, rfl, rfl, hE⟩
 replace hF := hO3
 try dsimp only at hF
 refine K_ent hE ?_
 refine au ?_
 cases hF
 exact Er ()
def s_IsFact_L1 : List Int → Nat → Option (Bool)
 | [], k22 => some true
 | x24 :: rest23, k22 => (s_l1In x24 0 9).bind fun r33 =>
   if (!r33) then (
     some false)
   else (
     s_IsFact_L1 rest23 (k22 + 1))
def s_IsFact (a_s : List Int) (a_f : Fact) : Option (Bool) :=
 ((s_IsSchema a_s).bind fun r4 =>
   bif (!r4) then (some true)
   else ((s_l1In a_f.Rel 0 (IntKind.i64.wrap ((a_s.length : Int) - 1))).bind fun r8 =>
     bif (!r8) then (some true)
     else ((ix a_s a_f.Rel).bind fun x12 =>
       some (((a_f.Values.length : Int) : Int) != x12)))).bind fun o2 =>
 match o2 with
 | c18 => if c18 then (
     some false)
   else (
     s_IsFact_L1 a_f.Values 0)
theorem s_IsFact_ok (a_s : List Int) (v0_0 : Sv) (a_f : Fact) (v1_1 : Sv) (R : Bool) (hF : s_IsFact a_s a_f = some R) :
   Fw.Spec Tryz.prog 80 [v0_0.v, (.agg [(.int .i64 a_f.Rel), v1_1.v].toArray)] [crd (RdS 3 rdInt) v0_0.v a_s, crd (RdS 3 rdInt) v1_1.v a_f.Values] (fun _ : Unit => (.bool R)) (fun _ => []) := by
 refine Se 43 Tryz.func80 [.tmp 4] ?_
 intro H0 F0
 unfold s_IsFact at hF
 refine au ?_
 refine AbR (fun k1 => ?_)
 iterate 3 refine au ?_
 obtain ⟨o2, hio2, hO3⟩ := bind_some hF
 refine K_draw [0, 1, 2, 3, 4, 5, 6, 7, 8, 9, 10, 11, 12, 13, 14, 15, 16, 17, 18, 19, 20, 21, 22] [0, 1, 3, 7, 15, 31, 15, 79, 207, 511, 1023, 2047, 4095, 8191, 16383, 32767, 8191, 8191, 139263, 466943, 991231, 2097151, 4194303] [1, 9] mixed (by decide +kernel) ?_
 refine D_cut (fun f' cs' => ∃ (c18 : Bool) (g : Fr), c18 = o2 ∧ f' = updL g [(3, (pz k1)), (28, (.bool c18))] ∧ Ent cs' [cboR k1 86 (.agg [(.int .i64 a_f.Rel), v1_1.v].toArray), crd (RdS 3 rdInt) v1_1.v a_f.Values]) ?_ ?_
 · replace hF := hio2
   refine du ?_
   refine bnd hF fun r4 hx5 hF => Dx0 (s_IsSchema_ok _ _ _ hx5) (fun _ => ?_)
   iterate 2 refine du ?_
   rcases Bool.eq_false_or_eq_true (!r4) with hg7 | hg7
   · rw [hg7]
     try rw [hg7] at hF; dsimp only [cond_true, cond_false] at hF
     iterate 20 refine du ?_
     cases hF
     exact ⟨_, _, rfl, eqA, entA⟩
   rw [hg7]
   try rw [hg7] at hF; dsimp only [cond_true, cond_false] at hF
   iterate 5 refine du ?_
   refine bnd hF fun r8 hx9 hF => Dx0 (s_l1In_ok _ _ _ _ hx9) (fun _ => ?_)
   iterate 3 refine du ?_
   rcases Bool.eq_false_or_eq_true (!r8) with hg11 | hg11
   · rw [hg11]
     try rw [hg11] at hF; dsimp only [cond_true, cond_false] at hF
     iterate 11 refine du ?_
     cases hF
     exact ⟨_, _, rfl, eqA, entA⟩
   rw [hg11]
   try rw [hg11] at hF; dsimp only [cond_true, cond_false] at hF
   iterate 6 refine du ?_
   refine bnd hF fun x12 hx13 hF => ?_
   obtain ⟨hp14, hx15⟩ := ix_some hx13
   refine Di hx15 (fun k16 j17 => ?_)
   refine Dl ls3_0 ?_
   iterate 3 refine du ?_
   cases hF
   exact ⟨_, _, rfl, eqA, entA⟩
 rintro _ _ ⟨c18, g39, rfl, rfl, hE⟩
 replace hF := hO3
 try dsimp only at hF
 refine K_ent hE ?_
 refine Ci hF (fun hb38 hF => ?_) (fun hb38 hF => ?_)
 · iterate 4 refine au ?_
   cases hF
   exact Er ()
 iterate 5 refine au ?_
 refine CW_block (CW_loop (m := a_f.Values.length) (fun m20 f' cs' => ∃ (g : Fr) (k22 : Nat) (rest23 : List Int), m20 = rest23.length ∧ f' = updL g [(3, (pz k1)), (5, (.int .i64 (k22 : Int)))] ∧ List.drop k22 a_f.Values = rest23 ∧ Ent cs' [cboR k1 86 (.agg [(.int .i64 a_f.Rel), v1_1.v].toArray), crd (RdS 3 rdInt) v1_1.v a_f.Values] ∧ s_IsFact_L1 rest23 k22 = some R) ⟨_, 0, _, rfl, eqA, rfl, entA, hF⟩ ?_)
 rintro m20 _ _ ⟨g21, k22, rest23, rfl, rfl, hd25, hE, hF⟩
 refine Kb hE a_f.Values (fun hbd30 => ?_)
 rcases rest23 with _ | ⟨x24, rest23⟩
 · have hk26 := dn hd25
   rw [s_IsFact_L1] at hF
   iterate 8 refine au ?_
   refine CdF ?_
   iterate 8 refine au ?_
   cases hF
   exact Er ()
 obtain ⟨hk26, hx27, hd28⟩ := drop_cons hd25
 rw [s_IsFact_L1] at hF
 iterate 8 refine au ?_
 refine CdT ?_
 iterate 6 refine au ?_
 refine Ai hx27 (fun k31 j32 => ?_)
 refine Al ls3_0 ?_
 refine bnd hF fun r33 hx34 hF => Cx0 (s_l1In_ok _ _ _ _ hx34) (fun _ => ?_)
 iterate 2 refine au ?_
 refine Ci hF (fun hb37 hF => ?_) (fun hb37 hF => ?_)
 · iterate 4 refine au ?_
   cases hF
   exact Er ()
 iterate 6 refine au ?_
 rw [wk k22]
 exact ⟨_, Nat.lt_succ_self _, _, k22 + 1, rest23, rfl, eqA, hd28, entA, hF⟩
def s_AreFacts_L1 (a_s : List Int) (a_l : List Fact) : List Fact → Nat → Option (Bool)
 | [], k4 => ((s_IsSchema a_s).bind fun r15 =>
     bif r15 then (some (decide (((a_l.length : Int) : Int) ≤ 24)))
     else (some false)).bind fun o13 =>
   match o13 with
   | c19 => some c19
 | x6 :: rest5, k4 => ((s_IsFact a_s x6).bind fun r26 =>
     bif (!r26) then (some true)
     else (bif (decide ((0 : Int) < (k4 : Int))) then ((ix a_l (IntKind.i64.wrap ((k4 : Int) - 1))).bind fun x31 =>
         (s_CompareFacts x31 x6).bind fun r41 =>
         some (decide ((0 : Int) ≤ r41)))
       else (some false))).bind fun o21 =>
   match o21 with
   | c44 => if c44 then (
       some false)
     else (
       s_AreFacts_L1 a_s a_l rest5 (k4 + 1))
def s_AreFacts (a_s : List Int) (a_l : List Fact) : Option (Bool) :=
 s_AreFacts_L1 a_s a_l a_l 0
theorem s_AreFacts_ok (a_s : List Int) (v0_0 : Sv) (a_l : List Fact) (v1_0 : Sv) (R : Bool) (hF : s_AreFacts a_s a_l = some R) :
   Fw.Spec Tryz.prog 33 [v0_0.v, v1_0.v] [crd (RdS 3 rdInt) v0_0.v a_s, crd (RdS 86 rd86) v1_0.v a_l] (fun _ : Unit => (.bool R)) (fun _ => []) := by
 refine Se 43 Tryz.func33 [.tmp 4] ?_
 intro H0 F0
 unfold s_AreFacts at hF
 iterate 7 refine au ?_
 refine CW_block (CW_loop (m := a_l.length) (fun m2 f' cs' => ∃ (g : Fr) (k4 : Nat) (rest5 : List Fact), m2 = rest5.length ∧ f' = updL g [(0, v0_0.v), (1, v1_0.v), (5, (.int .i64 (k4 : Int)))] ∧ List.drop k4 a_l = rest5 ∧ Ent cs' [crd (RdS 3 rdInt) v0_0.v a_s, crd (RdS 86 rd86) v1_0.v a_l] ∧ s_AreFacts_L1 a_s a_l rest5 k4 = some R) ⟨_, 0, _, rfl, eqA, rfl, entA, hF⟩ ?_)
 rintro m2 _ _ ⟨g3, k4, rest5, rfl, rfl, hd7, hE, hF⟩
 refine Kb hE a_l (fun hbd12 => ?_)
 rcases rest5 with _ | ⟨x6, rest5⟩
 · have hk8 := dn hd7
   rw [s_AreFacts_L1] at hF
   iterate 7 refine au ?_
   refine CdF ?_
   iterate 4 refine au ?_
   obtain ⟨o13, hio13, hO14⟩ := bind_some hF
   refine au ?_
   refine C_cut (fun f' cs' => ∃ (c19 : Bool) (g : Fr), c19 = o13 ∧ f' = updL g [(4, (.bool c19))] ∧ Ent cs' []) ?_ ?_
   · replace hF := hio13
     refine au ?_
     refine bnd hF fun r15 hx16 hF => Cx0 (s_IsSchema_ok _ _ _ hx16) (fun _ => ?_)
     refine au ?_
     rcases Bool.eq_false_or_eq_true r15 with hg18 | hg18
     · rw [hg18]
       try rw [hg18] at hF; dsimp only [cond_true, cond_false] at hF
       iterate 9 refine au ?_
       cases hF
       exact ⟨_, _, rfl, eqA, entA⟩
     rw [hg18]
     try rw [hg18] at hF; dsimp only [cond_true, cond_false] at hF
     iterate 6 refine au ?_
     cases hF
     exact ⟨_, _, rfl, eqA, entA⟩
   rintro _ _ ⟨c19, g20, rfl, rfl, hE⟩
   replace hF := hO14
   try dsimp only at hF
   refine K_ent hE ?_
   refine au ?_
   cases hF
   exact Er ()
 obtain ⟨hk8, hx9, hd10⟩ := drop_cons hd7
 rw [s_AreFacts_L1] at hF
 iterate 7 refine au ?_
 refine CdT ?_
 iterate 2 refine au ?_
 obtain ⟨o21, hio21, hO22⟩ := bind_some hF
 refine K_draw [0, 1, 2, 3, 4, 5, 6, 7, 8, 9, 10, 11, 12, 13, 14, 15, 16, 17, 18, 19, 20, 21, 22, 23] [0, 0, 0, 6, 14, 31, 63, 127, 255, 511, 1023, 2047, 2047, 6143, 16383, 32767, 2047, 2047, 198655, 460799, 1048575, 2097151, 4194303, 8388607] [5, 20] mixed (by decide +kernel) ?_
 refine D_cut (fun f' cs' => ∃ (c44 : Bool) (g : Fr), c44 = o21 ∧ f' = updL g [(0, v0_0.v), (1, v1_0.v), (5, (.int .i64 (k4 : Int))), (35, (.bool c44))] ∧ Ent cs' [crd (RdS 3 rdInt) v0_0.v a_s, crd (RdS 86 rd86) v1_0.v a_l]) ?_ ?_
 · replace hF := hio21
   iterate 3 refine du ?_
   refine Di hx9 (fun k23 j24 => ?_)
   refine DlA1 (ul86_0_86 x6) la86_0_86 (fun p25 => ?_)
   refine bnd hF fun r26 hx27 hF => Dx0 (s_IsFact_ok _ _ _ _ _ hx27) (fun _ => ?_)
   iterate 2 refine du ?_
   rcases Bool.eq_false_or_eq_true (!r26) with hg29 | hg29
   · rw [hg29]
     try rw [hg29] at hF; dsimp only [cond_true, cond_false] at hF
     iterate 17 refine du ?_
     cases hF
     exact ⟨_, _, rfl, eqA, entA⟩
   rw [hg29]
   try rw [hg29] at hF; dsimp only [cond_true, cond_false] at hF
   iterate 3 refine du ?_
   rcases Bool.eq_false_or_eq_true (decide ((0 : Int) < (k4 : Int))) with hg30 | hg30
   · rw [hg30]
     try rw [hg30] at hF; dsimp only [cond_true, cond_false] at hF
     iterate 3 refine du ?_
     refine bnd hF fun x31 hx32 hF => ?_
     obtain ⟨hp33, hx34⟩ := ix_some hx32
     refine Di hx34 (fun k35 j36 => ?_)
     refine DlA1 (ul86_0_86 x31) la86_0_86 (fun p37 => ?_)
     iterate 2 refine du ?_
     refine Di hx9 (fun k38 j39 => ?_)
     refine DlA1 (ul86_0_86 x6) la86_0_86 (fun p40 => ?_)
     refine bnd hF fun r41 hx42 hF => Dx0 (s_CompareFacts_ok _ _ _ _ _ hx42) (fun _ => ?_)
     iterate 4 refine du ?_
     cases hF
     exact ⟨_, _, rfl, eqA, entA⟩
   rw [hg30]
   try rw [hg30] at hF; dsimp only [cond_true, cond_false] at hF
   iterate 14 refine du ?_
   cases hF
   exact ⟨_, _, rfl, eqA, entA⟩
 rintro _ _ ⟨c44, g47, rfl, rfl, hE⟩
 replace hF := hO22
 try dsimp only at hF
 refine K_ent hE ?_
 refine Ci hF (fun hb46 hF => ?_) (fun hb46 hF => ?_)
 · iterate 4 refine au ?_
   cases hF
   exact Er ()
 iterate 6 refine au ?_
 rw [wk k4]
 exact ⟨_, Nat.lt_succ_self _, _, k4 + 1, rest5, rfl, eqA, hd10, entA, hF⟩
def s_ConstantsOf_L3 (x11 : Atom) : Nat → (List Int) → Int → Option ((List Int))
 | 0, _, _ => none
 | m24 + 1, c20, c23 => if (decide ((c23 : Int) < (x11.Terms.length : Int))) then (
     ((ix x11.Terms c23).bind fun x40 =>
       (s_l1In x40 0 9).bind fun r46 =>
       if r46 then (
         (ix x11.Terms c23).bind fun x52 =>
         (s_l3Put c20 x52).bind fun r58 =>
         some r58)
       else (
         some c20)).bind fun o35 =>
     match o35 with
     | c62 => s_ConstantsOf_L3 x11 m24 c62 (IntKind.i64.wrap (c23 + 1)))
   else (
     some c20)
def s_ConstantsOf_L1 : List Atom → Nat → (List Int) → Option ((List Int))
 | [], k9, c3 => some c3
 | x11 :: rest10, k9, c3 => (s_ConstantsOf_L3 x11 (((x11.Terms.length : Int) - 0).toNat + 2) c3 0).bind fun o18 =>
   match o18 with
   | c67 => s_ConstantsOf_L1 rest10 (k9 + 1) c67
def s_ConstantsOf (a_q : Query) : Option ((List Int)) :=
 s_ConstantsOf_L1 a_q.Atoms 0 ([] : List Int)
theorem s_ConstantsOf_ok (a_q : Query) (v0_0 : Sv) (v0_1 : Sv) (R : (List Int)) (hF : s_ConstantsOf a_q = some R) :
   Fw.Spec Tryz.prog 36 [(.agg [v0_0.v, v0_1.v].toArray)] [crd (RdS 3 rdInt) v0_0.v a_q.Head, crd (RdS 98 rd98) v0_1.v a_q.Atoms] (fun p : Sv × List Nat => p.1.v) (fun p => [cown (OwnS 3 (roE rdInt)) p.2 p.1.v R]) := by
 refine Se 47 Tryz.func36 [.tmp 2] ?_
 intro H0 F0
 unfold s_ConstantsOf at hF
 refine au ?_
 refine AbR (fun k1 => ?_)
 iterate 3 refine au ?_
 refine C_new rfl (N_buildSliceT (g := true) sl24.h ty3.h .nil (vs := []) rfl rfl rfl (by simp)) (fun k2 => ?_)
 refine Cv1 (.cons .h .nil) (own_lit (Ro := (roE rdInt)) (E := 3) (F := []) (xs := ([] : List Int)) MkL_nil rfl rfl) ?_
 iterate 6 refine au ?_
 refine CW_block (CW_loop (m := a_q.Atoms.length) (fun m7 f' cs' => ∃ (g : Fr) (k9 : Nat) (rest10 : List Atom) (c3 : List Int) (v4 : Sv) (F5 : List Nat), m7 = rest10.length ∧ f' = updL g [(1, (pz k1)), (3, v4.v), (4, (.int .i64 (k9 : Int)))] ∧ List.drop k9 a_q.Atoms = rest10 ∧ Ent cs' [cboR k1 51 (.agg [v0_0.v, v0_1.v].toArray), crd (RdS 3 rdInt) v0_0.v a_q.Head, crd (RdS 98 rd98) v0_1.v a_q.Atoms, cown (OwnS 3 (roE rdInt)) F5 v4.v c3] ∧ s_ConstantsOf_L1 rest10 k9 c3 = some R) ⟨_, 0, _, _, ⟨(some ⟨k2, 0, none⟩), 0, 1⟩, (k2 :: []), rfl, eqA, rfl, entA, hF⟩ ?_)
 rintro m7 _ _ ⟨g8, k9, rest10, c3, v4, F5, rfl, rfl, hd12, hE, hF⟩
 refine Kb hE a_q.Atoms (fun hbd17 => ?_)
 rcases rest10 with _ | ⟨x11, rest10⟩
 · have hk13 := dn hd12
   rw [s_ConstantsOf_L1] at hF
   iterate 8 refine au ?_
   refine CdF ?_
   iterate 9 refine au ?_
   cases hF
   exact Er (v4, F5)
 obtain ⟨hk13, hx14, hd15⟩ := drop_cons hd12
 rw [s_ConstantsOf_L1] at hF
 iterate 8 refine au ?_
 refine CdT ?_
 refine au ?_
 obtain ⟨o18, hio18, hO19⟩ := bind_some hF
 refine K_cut (fun f' cs' => ∃ (c67 : List Int) (v68 : Sv) (F69 : List Nat) (g : Fr), c67 = o18 ∧ f' = updL g [(1, (pz k1)), (3, v68.v), (4, (.int .i64 (k9 : Int)))] ∧ Ent cs' [cboR k1 51 (.agg [v0_0.v, v0_1.v].toArray), crd (RdS 3 rdInt) v0_0.v a_q.Head, crd (RdS 98 rd98) v0_1.v a_q.Atoms, cown (OwnS 3 (roE rdInt)) F69 v68.v c67]) ?_ ?_
 · replace hF := hio18
   refine CW_block (K_region (C_val (V_assign (v := (.int .i64 0)) (.int _ _)) ?_))
   refine au ?_
   refine CW_block (CW_loop (m := (((x11.Terms.length : Int) - 0).toNat + 2)) (fun m24 f' cs' => ∃ (g : Fr) (c20 : List Int) (c23 : Int) (v21 : Sv) (F22 : List Nat), f' = updL g [(1, (pz k1)), (3, v21.v), (4, (.int .i64 (k9 : Int))), (5, (.int .i64 c23))] ∧ Ent cs' [cboR k1 51 (.agg [v0_0.v, v0_1.v].toArray), crd (RdS 3 rdInt) v0_0.v a_q.Head, crd (RdS 98 rd98) v0_1.v a_q.Atoms, cown (OwnS 3 (roE rdInt)) F22 v21.v c20] ∧ s_ConstantsOf_L3 x11 m24 c20 c23 = some o18) ⟨_, _, _, v4, F5, eqA, entA, hF⟩ ?_)
   rintro m24 _ _ ⟨g25, c20, c23, v21, F22, rfl, hE, hF⟩
   refine K_ent hE ?_
   rcases m24 with _ | m24
   · rw [s_ConstantsOf_L3] at hF
     exact absurd hF (by simp)
   rw [s_ConstantsOf_L3] at hF
   iterate 6 refine au ?_
   refine Ai hx14 (fun k32 j33 => ?_)
   refine au ?_
   refine C_ldV (R' := (RdS 3 rdInt)) ag24.h (.tmp rfl rfl) .h lv98_1 (fun w34 => ?_)
   iterate 3 refine au ?_
   refine Ci hF (fun hb66 hF => ?_) (fun hb66 hF => ?_)
   · refine au ?_
     obtain ⟨o35, hio35, hO36⟩ := bind_some hF
     refine K_cut (fun f' cs' => ∃ (c62 : List Int) (v63 : Sv) (F64 : List Nat) (g : Fr), c62 = o35 ∧ f' = updL g [(1, (pz k1)), (3, v63.v), (4, (.int .i64 (k9 : Int))), (5, (.int .i64 c23))] ∧ Ent cs' [cboR k1 51 (.agg [v0_0.v, v0_1.v].toArray), crd (RdS 3 rdInt) v0_0.v a_q.Head, crd (RdS 98 rd98) v0_1.v a_q.Atoms, cown (OwnS 3 (roE rdInt)) F64 v63.v c62]) ?_ ?_
     · replace hF := hio35
       refine CW_block (K_region (C_val (V_fieldAddr (off := 1) fd51_1.h (.tmp rfl rfl)) ?_))
       iterate 2 refine au ?_
       refine Ai hx14 (fun k37 j38 => ?_)
       refine au ?_
       refine C_ldV (R' := (RdS 3 rdInt)) ag24.h (.tmp rfl rfl) .h lv98_1 (fun w39 => ?_)
       refine au ?_
       refine bnd hF fun x40 hx41 hF => ?_
       obtain ⟨hp42, hx43⟩ := ix_some hx41
       refine Ai hx43 (fun k44 j45 => ?_)
       refine Al ls3_0 ?_
       refine bnd hF fun r46 hx47 hF => Cx0 (s_l1In_ok _ _ _ _ hx47) (fun _ => ?_)
       refine au ?_
       refine Ci hF (fun hb61 hF => ?_) (fun hb61 hF => ?_)
       · iterate 5 refine au ?_
         refine Ai hx14 (fun k49 j50 => ?_)
         refine au ?_
         refine C_ldV (R' := (RdS 3 rdInt)) ag24.h (.tmp rfl rfl) .h lv98_1 (fun w51 => ?_)
         refine au ?_
         refine bnd hF fun x52 hx53 hF => ?_
         obtain ⟨hp54, hx55⟩ := ix_some hx53
         refine Ai hx55 (fun k56 j57 => ?_)
         refine Al ls3_0 ?_
         refine bnd hF fun r58 hx59 hF => Cx1 (s_l3Put_ok _ _ _ _ _ hx59) (fun p60 => ?_)
         iterate 2 refine au ?_
         cases hF
         exact ⟨_, p60.1, p60.2, _, rfl, eqA, entA⟩
       refine au ?_
       cases hF
       exact ⟨_, v21, F22, _, rfl, eqA, entA⟩
     rintro _ _ ⟨c62, v63, F64, g65, rfl, rfl, hE⟩
     replace hF := hO36
     try dsimp only at hF
     refine K_ent hE ?_
     iterate 5 refine au ?_
     exact ⟨m24, Nat.lt_succ_self _, _, _, _, v63, F64, eqA, entA, hF⟩
   iterate 4 refine au ?_
   cases hF
   exact ⟨_, v21, F22, _, rfl, eqA, entA⟩
 rintro _ _ ⟨c67, v68, F69, g71, rfl, rfl, hE⟩
 replace hF := hO19
 try dsimp only at hF
 refine K_ent hE ?_
 iterate 5 refine au ?_
 rw [wk k9]
 exact ⟨_, Nat.lt_succ_self _, _, k9 + 1, rest10, _, v68, F69, rfl, eqA, hd15, entA, hF⟩
def s_StartReach_L1 : List Int → Nat → (List Int) → Option (Reached)
 | [], k37, c31 => some ({ Facts := [], Values := c31, Log := [], Rounds := 0 } : Reached)
 | x39 :: rest38, k37, c31 => ((s_l1In x39 0 9).bind fun r50 =>
     if r50 then (
       (s_l3Put c31 x39).bind fun r55 =>
       some r55)
     else (
       some c31)).bind fun o46 =>
   match o46 with
   | c59 => s_StartReach_L1 rest38 (k37 + 1) c59
def s_StartReach (a_seeds : List Int) : Option (Reached) :=
 s_StartReach_L1 a_seeds 0 ([] : List Int)
theorem s_StartReach_ok (a_seeds : List Int) (v0_0 : Sv) (R : Reached) (hF : s_StartReach a_seeds = some R) :
   Fw.Spec Tryz.prog 83 [v0_0.v] [crd (RdS 3 rdInt) v0_0.v a_seeds] (fun p : Sv × List Nat × Sv × List Nat × Sv × List Nat => (.agg [p.1.v, p.2.2.1.v, p.2.2.2.2.1.v, (.int .i64 R.Rounds)].toArray)) (fun p => [cown (OwnS 86 ow86) p.2.1 p.1.v R.Facts, cown (OwnS 3 (roE rdInt)) p.2.2.2.1 p.2.2.1.v R.Values, cown (OwnS 45 ow45) p.2.2.2.2.2 p.2.2.2.2.1.v R.Log]) := by
 refine Se 26 Tryz.func83 [.cell 2 62] ?_
 intro H0 F0
 unfold s_StartReach at hF
 refine au ?_
 refine AnW (fun k1 => ?_)
 iterate 2 refine au ?_
 refine C_val (V_build ty62.h rfl (vs := []) .nil (cells := [(.slice none 0 0), (.slice none 0 0), (.slice none 0 0), (.int .i64 0)]) rfl) ?_
 refine AnW (fun k2 => ?_)
 refine As (.agg [(.slice none 0 0), (.slice none 0 0), (.slice none 0 0), (.int .i64 0)].toArray) ?_
 iterate 5 refine au ?_
 refine CW_block (CW_loop (m := a_seeds.length) (fun m35 f' cs' => ∃ (g : Fr) (k37 : Nat) (rest38 : List Int) (c31 : List Int) (v32 : Sv) (F33 : List Nat), m35 = rest38.length ∧ f' = updL g [(0, v0_0.v), (2, (pz k1)), (3, (pz k2)), (4, (.int .i64 (k37 : Int)))] ∧ List.drop k37 a_seeds = rest38 ∧ Ent cs' [crd (RdS 3 rdInt) v0_0.v a_seeds, cbox k1 62 (.agg [(.slice none 0 0), (.slice none 0 0), (.slice none 0 0), (.int .i64 0)].toArray), cbox k2 62 (.agg [(.slice none 0 0), v32.v, (.slice none 0 0), (.int .i64 0)].toArray), cown (OwnS 3 (roE rdInt)) F33 v32.v c31] ∧ s_StartReach_L1 rest38 k37 c31 = some R) ⟨_, 0, _, _, ⟨none, 0, 0⟩, [], rfl, eqA, rfl, (.conv .nil (own_nil (Ro := (roE rdInt)) (E := 3)) (.cons .nil) entA), hF⟩ ?_)
 rintro m35 _ _ ⟨g36, k37, rest38, c31, v32, F33, rfl, rfl, hd40, hE, hF⟩
 refine Kb hE a_seeds (fun hbd45 => ?_)
 rcases rest38 with _ | ⟨x39, rest38⟩
 · have hk41 := dn hd40
   rw [s_StartReach_L1] at hF
   iterate 7 refine au ?_
   refine CdF ?_
   iterate 6 refine au ?_
   refine As (.agg [(.slice none 0 0), v32.v, (.slice none 0 0), (.int .i64 0)].toArray) ?_
   iterate 2 refine au ?_
   cases hF
   exact End_ret (⟨none, 0, 0⟩, [], v32, F33, ⟨none, 0, 0⟩, []) (.cellA rfl rfl .h rfl ag62.h ty62.h.sz rfl rfl .nil) rfl (.conv .nil (own_nil (Ro := ow86) (E := 86)) (.cons .nil) (.conv .nil (own_nil (Ro := ow45) (E := 45)) (.cons .nil) (.sel (.cons (.t .h) (.cons (.t (.t (.t (.t .h)))) (.cons .h .nil))))))
 obtain ⟨hk41, hx42, hd43⟩ := drop_cons hd40
 rw [s_StartReach_L1] at hF
 iterate 7 refine au ?_
 refine CdT ?_
 refine au ?_
 obtain ⟨o46, hio46, hO47⟩ := bind_some hF
 refine K_cut (fun f' cs' => ∃ (c59 : List Int) (v60 : Sv) (F61 : List Nat) (g : Fr), c59 = o46 ∧ f' = updL g [(0, v0_0.v), (2, (pz k1)), (3, (pz k2)), (4, (.int .i64 (k37 : Int)))] ∧ Ent cs' [crd (RdS 3 rdInt) v0_0.v a_seeds, cbox k1 62 (.agg [(.slice none 0 0), (.slice none 0 0), (.slice none 0 0), (.int .i64 0)].toArray), cbox k2 62 (.agg [(.slice none 0 0), v60.v, (.slice none 0 0), (.int .i64 0)].toArray), cown (OwnS 3 (roE rdInt)) F61 v60.v c59]) ?_ ?_
 · replace hF := hio46
   refine CW_block (K_region (Cm v0_0.v rfl rfl ?_))
   refine au ?_
   refine Ai hx42 (fun k48 j49 => ?_)
   refine Al ls3_0 ?_
   refine bnd hF fun r50 hx51 hF => Cx0 (s_l1In_ok _ _ _ _ hx51) (fun _ => ?_)
   refine au ?_
   refine Ci hF (fun hb58 hF => ?_) (fun hb58 hF => ?_)
   · refine CW_draw [0, 1, 2, 3, 4, 5, 6, 7, 8] [0, 1, 0, 0, 12, 28, 63, 127, 255] [6, 8] mixed (by decide +kernel) ?_
     refine du ?_
     refine D_atO rfl .no (.t (.t (.t .h))) (fun ha hp => V_load (v := v32.v) ag24.h (EN ha (.tmp rfl rfl) rfl) hp.2 rfl rfl) ?_
     iterate 2 refine du ?_
     refine Di hx42 (fun k53 j54 => ?_)
     refine Dl ls3_0 ?_
     refine bnd hF fun r55 hx56 hF => Dx1 (s_l3Put_ok _ _ _ _ _ hx56) (fun p57 => ?_)
     refine du ?_
     refine D_act1 rfl rfl .no (.cons (.t (.t (.t (.t (.t .h))))) .nil) (.dep rfl .nil) (fun ha => X_storeB (e' := (.agg [(.slice none 0 0), p57.1.v, (.slice none 0 0), (.int .i64 0)].toArray)) ty24.h.sz (EN ha (.tmp rfl rfl) rfl) (EN ha (.tmp rfl rfl) rfl) rfl rfl rfl rfl rfl) (fun _ => ?_)
     refine du ?_
     cases hF
     exact ⟨_, p57.1, p57.2, _, rfl, eqA, entA⟩
   refine au ?_
   cases hF
   exact ⟨_, v32, F33, _, rfl, eqA, entA⟩
 rintro _ _ ⟨c59, v60, F61, g63, rfl, rfl, hE⟩
 replace hF := hO47
 try dsimp only at hF
 refine K_ent hE ?_
 iterate 5 refine au ?_
 rw [wk k37]
 exact ⟨_, Nat.lt_succ_self _, _, k37 + 1, rest38, _, v60, F61, rfl, eqA, hd43, entA, hF⟩
def s_l8Values_L1 (a_l : List Int) : List Int → Nat → Option (Bool)
 | [], k4 => some true
 | x6 :: rest5, k4 => ((s_l1In x6 0 9).bind fun r17 =>
     bif (!r17) then (some true)
     else (bif (decide ((0 : Int) < (k4 : Int))) then ((ix a_l (IntKind.i64.wrap ((k4 : Int) - 1))).bind fun x24 =>
         some (decide ((x6 : Int) ≤ x24)))
       else (some false))).bind fun o13 =>
   match o13 with
   | c30 => if c30 then (
       some false)
     else (
       s_l8Values_L1 a_l rest5 (k4 + 1))
def s_l8Values (a_l : List Int) : Option (Bool) :=
 s_l8Values_L1 a_l a_l 0
theorem s_l8Values_ok (a_l : List Int) (v0_0 : Sv) (R : Bool) (hF : s_l8Values a_l = some R) :
   Fw.Spec Tryz.prog 146 [v0_0.v] [crd (RdS 3 rdInt) v0_0.v a_l] (fun _ : Unit => (.bool R)) (fun _ => []) := by
 refine Se 32 Tryz.func146 [.tmp 2] ?_
 intro H0 F0
 unfold s_l8Values at hF
 iterate 7 refine au ?_
 refine CW_block (CW_loop (m := a_l.length) (fun m2 f' cs' => ∃ (g : Fr) (k4 : Nat) (rest5 : List Int), m2 = rest5.length ∧ f' = updL g [(0, v0_0.v), (3, (.int .i64 (k4 : Int)))] ∧ List.drop k4 a_l = rest5 ∧ Ent cs' [crd (RdS 3 rdInt) v0_0.v a_l] ∧ s_l8Values_L1 a_l rest5 k4 = some R) ⟨_, 0, _, rfl, eqA, rfl, entA, hF⟩ ?_)
 rintro m2 _ _ ⟨g3, k4, rest5, rfl, rfl, hd7, hE, hF⟩
 refine Kb hE a_l (fun hbd12 => ?_)
 rcases rest5 with _ | ⟨x6, rest5⟩
 · have hk8 := dn hd7
   rw [s_l8Values_L1] at hF
   iterate 7 refine au ?_
   refine CdF ?_
   iterate 8 refine au ?_
   cases hF
   exact Er ()
 obtain ⟨hk8, hx9, hd10⟩ := drop_cons hd7
 rw [s_l8Values_L1] at hF
 iterate 7 refine au ?_
 refine CdT ?_
 iterate 2 refine au ?_
 obtain ⟨o13, hio13, hO14⟩ := bind_some hF
 refine K_draw [0, 1, 2, 3, 4, 5, 6, 7, 8, 9, 10, 11, 12, 13, 14, 15, 16, 17, 18, 19, 20, 21] [0, 0, 3, 7, 15, 31, 63, 127, 255, 511, 1023, 1023, 4095, 8191, 1023, 1023, 33791, 115711, 246783, 524287, 1048575, 2097151] [4] mixed (by decide +kernel) ?_
 refine D_cut (fun f' cs' => ∃ (c30 : Bool) (g : Fr), c30 = o13 ∧ f' = updL g [(0, v0_0.v), (3, (.int .i64 (k4 : Int))), (31, (.bool c30))] ∧ Ent cs' [crd (RdS 3 rdInt) v0_0.v a_l]) ?_ ?_
 · replace hF := hio13
   iterate 2 refine du ?_
   refine Di hx9 (fun k15 j16 => ?_)
   refine Dl ls3_0 ?_
   refine bnd hF fun r17 hx18 hF => Dx0 (s_l1In_ok _ _ _ _ hx18) (fun _ => ?_)
   iterate 2 refine du ?_
   rcases Bool.eq_false_or_eq_true (!r17) with hg20 | hg20
   · rw [hg20]
     try rw [hg20] at hF; dsimp only [cond_true, cond_false] at hF
     iterate 16 refine du ?_
     cases hF
     exact ⟨_, _, rfl, eqA, entA⟩
   rw [hg20]
   try rw [hg20] at hF; dsimp only [cond_true, cond_false] at hF
   iterate 3 refine du ?_
   rcases Bool.eq_false_or_eq_true (decide ((0 : Int) < (k4 : Int))) with hg21 | hg21
   · rw [hg21]
     try rw [hg21] at hF; dsimp only [cond_true, cond_false] at hF
     iterate 2 refine du ?_
     refine Di hx9 (fun k22 j23 => ?_)
     refine Dl ls3_0 ?_
     iterate 3 refine du ?_
     refine bnd hF fun x24 hx25 hF => ?_
     obtain ⟨hp26, hx27⟩ := ix_some hx25
     refine Di hx27 (fun k28 j29 => ?_)
     refine Dl ls3_0 ?_
     iterate 4 refine du ?_
     cases hF
     exact ⟨_, _, rfl, eqA, entA⟩
   rw [hg21]
   try rw [hg21] at hF; dsimp only [cond_true, cond_false] at hF
   iterate 13 refine du ?_
   cases hF
   exact ⟨_, _, rfl, eqA, entA⟩
 rintro _ _ ⟨c30, g33, rfl, rfl, hE⟩
 replace hF := hO14
 try dsimp only at hF
 refine K_ent hE ?_
 refine Ci hF (fun hb32 hF => ?_) (fun hb32 hF => ?_)
 · iterate 4 refine au ?_
   cases hF
   exact Er ()
 iterate 6 refine au ?_
 rw [wk k4]
 exact ⟨_, Nat.lt_succ_self _, _, k4 + 1, rest5, rfl, eqA, hd10, entA, hF⟩
def s_l2Copy_L1 : List Fact → Nat → (List Fact) → Option ((List Fact))
 | [], k8, c2 => some c2
 | x10 :: rest9, k8, c2 => (s_l2One x10.Rel x10.Values).bind fun r22 =>
   (app c2 ([r22] : List Fact)).bind fun z26 =>
   s_l2Copy_L1 rest9 (k8 + 1) z26
def s_l2Copy (a_l : List Fact) : Option ((List Fact)) :=
 s_l2Copy_L1 a_l 0 ([] : List Fact)
theorem s_l2Copy_ok (a_l : List Fact) (v0_0 : Sv) (R : (List Fact)) (hF : s_l2Copy a_l = some R) :
   Fw.Spec Tryz.prog 208 [v0_0.v] [crd (RdS 86 rd86) v0_0.v a_l] (fun p : Sv × List Nat => p.1.v) (fun p => [cown (OwnS 86 ow86) p.2 p.1.v R]) := by
 refine Se 27 Tryz.func208 [.tmp 2] ?_
 intro H0 F0
 unfold s_l2Copy at hF
 iterate 4 refine au ?_
 refine C_new rfl (N_buildSliceT (g := true) sl27.h ty86.h .nil (vs := []) rfl rfl rfl (by simp)) (fun k1 => ?_)
 refine Cv1 (.cons .h .nil) (own_lit (Ro := ow86) (E := 86) (F := []) (xs := ([] : List Fact)) MkL_nil rfl rfl) ?_
 iterate 6 refine au ?_
 refine CW_block (CW_loop (m := a_l.length) (fun m6 f' cs' => ∃ (g : Fr) (k8 : Nat) (rest9 : List Fact) (c2 : List Fact) (v3 : Sv) (F4 : List Nat), m6 = rest9.length ∧ f' = updL g [(0, v0_0.v), (3, v3.v), (4, (.int .i64 (k8 : Int)))] ∧ List.drop k8 a_l = rest9 ∧ Ent cs' [crd (RdS 86 rd86) v0_0.v a_l, cown (OwnS 86 ow86) F4 v3.v c2] ∧ s_l2Copy_L1 rest9 k8 c2 = some R) ⟨_, 0, _, _, ⟨(some ⟨k1, 0, none⟩), 0, 1⟩, (k1 :: []), rfl, eqA, rfl, entA, hF⟩ ?_)
 rintro m6 _ _ ⟨g7, k8, rest9, c2, v3, F4, rfl, rfl, hd11, hE, hF⟩
 refine Kb hE a_l (fun hbd16 => ?_)
 rcases rest9 with _ | ⟨x10, rest9⟩
 · have hk12 := dn hd11
   rw [s_l2Copy_L1] at hF
   iterate 7 refine au ?_
   refine CdF ?_
   iterate 9 refine au ?_
   cases hF
   exact Er (v3, F4)
 obtain ⟨hk12, hx13, hd14⟩ := drop_cons hd11
 rw [s_l2Copy_L1] at hF
 iterate 7 refine au ?_
 refine CdT ?_
 iterate 2 refine au ?_
 refine CW_draw [0, 1, 2, 3, 4, 5, 6, 7, 8, 9, 10, 11, 12, 13, 14] [0, 0, 0, 6, 14, 30, 0, 0, 192, 448, 960, 2046, 4094, 8191, 16383] [11, 13] mixed (by decide +kernel) ?_
 iterate 3 refine du ?_
 refine Di hx13 (fun k17 j18 => ?_)
 refine du ?_
 refine Dl ls86_0 ?_
 iterate 2 refine du ?_
 refine Di hx13 (fun k19 j20 => ?_)
 refine du ?_
 refine D_ldV (R' := (RdS 3 rdInt)) ag24.h rfl .no (.tmp rfl rfl) rfl .h lv86_1 (fun w21 => ?_)
 refine bnd hF fun r22 hx23 hF => Dx1 (s_l2One_ok _ _ _ _ hx23) (fun p24 => ?_)
 refine D_new rfl .no rfl (fun ha => N_buildSliceT (g := true) (len := 1) (parts := [(0, .tmp 23)]) sl27.h ty86.h (.cons (EN ha (.tmp rfl rfl) rfl) .nil) (vs := [(.agg [(.int .i64 r22.Rel), p24.1.v].toArray)]) rfl rfl rfl (by intro v hv; simp at hv; rcases hv with rfl <;> rfl)) (fun k25 => ?_)
 refine Dv1 (.cons .h (.cons .h .nil)) (own_lit (Ro := ow86) (E := 86) (F := (p24.2 ++ [])) (xs := ([r22] : List Fact)) (MkL_cons mk86 MkL_nil apps) rfl rfl) ?_
 refine bnd hF fun z26 hx27 hF => D_act1 rfl rfl .no (.cons (.t (.t (.t (.t (.t .h))))) (.cons .h .nil)) (.dep rfl .nil) (fun ha => X_appendO (Ro := ow86) sl27.h ni27 ty86.h rfl rfl rfl (EN ha (.tmp rfl rfl) rfl) (EN ha (.tmp rfl rfl) rfl) hx27 src_own) (fun p28 => ?_)
 iterate 2 refine du ?_
 iterate 5 refine au ?_
 rw [wk k8]
 exact ⟨_, Nat.lt_succ_self _, _, k8 + 1, rest9, _, p28.1, p28.2, rfl, eqA, hd14, entA, hF⟩
def s_l8Access (a_m : Int) (a_values : List Int) : Option (Access) :=
 (app ([] : List Int) a_values).bind fun z3 =>
 some ({ Method := a_m, Values := z3 } : Access)
theorem s_l8Access_ok (a_m : Int) (a_values : List Int) (v1_0 : Sv) (R : Access) (hF : s_l8Access a_m a_values = some R) :
   Fw.Spec Tryz.prog 48 [(.int .i64 a_m), v1_0.v] [crd (RdS 3 rdInt) v1_0.v a_values] (fun p : Sv × List Nat => (.agg [(.int .i64 R.Method), p.1.v].toArray)) (fun p => [cown (OwnS 3 (roE rdInt)) p.2 p.1.v R.Values]) := by
 refine Se 10 Tryz.func48 [.cell 4 45] ?_
 intro H0 F0
 unfold s_l8Access at hF
 refine au ?_
 refine AnW (fun k1 => ?_)
 iterate 3 refine au ?_
 refine C_new rfl (N_buildSliceT (g := true) sl24.h ty3.h .nil (vs := []) rfl rfl rfl (by simp)) (fun k2 => ?_)
 refine Cv1 (.cons .h .nil) (own_lit (Ro := (roE rdInt)) (E := 3) (F := []) (xs := ([] : List Int)) MkL_nil rfl rfl) ?_
 refine au ?_
 refine bnd hF fun z3 hx4 hF => C_x1 (.cons .h (.rd (.t .h) rfl .nil)) (X_appendO (Ro := (roE rdInt)) sl24.h ni24 ty3.h rfl rfl rfl (.tmp rfl rfl) (.tmp rfl rfl) hx4 src_rd) (fun p5 => ?_)
 refine C_val (V_build ty45.h rfl (vs := [(.int .i64 a_m), p5.1.v]) (.cons (.tmp rfl rfl) (.cons (.tmp rfl rfl) .nil)) (cells := [(.int .i64 a_m), p5.1.v]) rfl) ?_
 refine As (.agg [(.int .i64 a_m), p5.1.v].toArray) ?_
 iterate 2 refine au ?_
 cases hF
 exact Er (p5.1, p5.2)
def s_l8Log_L1 : List Access → Nat → (List Access) → Option ((List Access))
 | [], k8, c2 => some c2
 | x10 :: rest9, k8, c2 => (s_l8Access x10.Method x10.Values).bind fun r22 =>
   (app c2 ([r22] : List Access)).bind fun z26 =>
   s_l8Log_L1 rest9 (k8 + 1) z26
def s_l8Log (a_l : List Access) : Option ((List Access)) :=
 s_l8Log_L1 a_l 0 ([] : List Access)
theorem s_l8Log_ok (a_l : List Access) (v0_0 : Sv) (R : (List Access)) (hF : s_l8Log a_l = some R) :
   Fw.Spec Tryz.prog 209 [v0_0.v] [crd (RdS 45 rd45) v0_0.v a_l] (fun p : Sv × List Nat => p.1.v) (fun p => [cown (OwnS 45 ow45) p.2 p.1.v R]) := by
 refine Se 27 Tryz.func209 [.tmp 2] ?_
 intro H0 F0
 unfold s_l8Log at hF
 iterate 4 refine au ?_
 refine C_new rfl (N_buildSliceT (g := true) sl33.h ty45.h .nil (vs := []) rfl rfl rfl (by simp)) (fun k1 => ?_)
 refine Cv1 (.cons .h .nil) (own_lit (Ro := ow45) (E := 45) (F := []) (xs := ([] : List Access)) MkL_nil rfl rfl) ?_
 iterate 6 refine au ?_
 refine CW_block (CW_loop (m := a_l.length) (fun m6 f' cs' => ∃ (g : Fr) (k8 : Nat) (rest9 : List Access) (c2 : List Access) (v3 : Sv) (F4 : List Nat), m6 = rest9.length ∧ f' = updL g [(0, v0_0.v), (3, v3.v), (4, (.int .i64 (k8 : Int)))] ∧ List.drop k8 a_l = rest9 ∧ Ent cs' [crd (RdS 45 rd45) v0_0.v a_l, cown (OwnS 45 ow45) F4 v3.v c2] ∧ s_l8Log_L1 rest9 k8 c2 = some R) ⟨_, 0, _, _, ⟨(some ⟨k1, 0, none⟩), 0, 1⟩, (k1 :: []), rfl, eqA, rfl, entA, hF⟩ ?_)
 rintro m6 _ _ ⟨g7, k8, rest9, c2, v3, F4, rfl, rfl, hd11, hE, hF⟩
 refine Kb hE a_l (fun hbd16 => ?_)
 rcases rest9 with _ | ⟨x10, rest9⟩
 · have hk12 := dn hd11
   rw [s_l8Log_L1] at hF
   iterate 7 refine au ?_
   refine CdF ?_
   iterate 9 refine au ?_
   cases hF
   exact Er (v3, F4)
 obtain ⟨hk12, hx13, hd14⟩ := drop_cons hd11
 rw [s_l8Log_L1] at hF
 iterate 7 refine au ?_
 refine CdT ?_
 iterate 2 refine au ?_
 refine CW_draw [0, 1, 2, 3, 4, 5, 6, 7, 8, 9, 10, 11, 12, 13, 14] [0, 0, 0, 6, 14, 30, 0, 0, 192, 448, 960, 2046, 4094, 8191, 16383] [11, 13] mixed (by decide +kernel) ?_
 iterate 3 refine du ?_
 refine Di hx13 (fun k17 j18 => ?_)
 refine du ?_
 refine Dl ls45_0 ?_
 iterate 2 refine du ?_
 refine Di hx13 (fun k19 j20 => ?_)
 refine du ?_
 refine D_ldV (R' := (RdS 3 rdInt)) ag24.h rfl .no (.tmp rfl rfl) rfl .h lv45_1 (fun w21 => ?_)
 refine bnd hF fun r22 hx23 hF => Dx1 (s_l8Access_ok _ _ _ _ hx23) (fun p24 => ?_)
 refine D_new rfl .no rfl (fun ha => N_buildSliceT (g := true) (len := 1) (parts := [(0, .tmp 23)]) sl33.h ty45.h (.cons (EN ha (.tmp rfl rfl) rfl) .nil) (vs := [(.agg [(.int .i64 r22.Method), p24.1.v].toArray)]) rfl rfl rfl (by intro v hv; simp at hv; rcases hv with rfl <;> rfl)) (fun k25 => ?_)
 refine Dv1 (.cons .h (.cons .h .nil)) (own_lit (Ro := ow45) (E := 45) (F := (p24.2 ++ [])) (xs := ([r22] : List Access)) (MkL_cons mk45 MkL_nil apps) rfl rfl) ?_
 refine bnd hF fun z26 hx27 hF => D_act1 rfl rfl .no (.cons (.t (.t (.t (.t (.t .h))))) (.cons .h .nil)) (.dep rfl .nil) (fun ha => X_appendO (Ro := ow45) sl33.h ni33 ty45.h rfl rfl rfl (EN ha (.tmp rfl rfl) rfl) (EN ha (.tmp rfl rfl) rfl) hx27 src_own) (fun p28 => ?_)
 iterate 2 refine du ?_
 iterate 5 refine au ?_
 rw [wk k8]
 exact ⟨_, Nat.lt_succ_self _, _, k8 + 1, rest9, _, p28.1, p28.2, rfl, eqA, hd14, entA, hF⟩
def s_l8Copy (a_r : Reached) : Option (Reached) :=
 (s_l2Copy a_r.Facts).bind fun r5 =>
 (app ([] : List Int) a_r.Values).bind fun z8 =>
 (s_l8Log a_r.Log).bind fun r11 =>
 some ({ Facts := r5, Values := z8, Log := r11, Rounds := a_r.Rounds } : Reached)
theorem s_l8Copy_ok (a_r : Reached) (v0_0 : Sv) (v0_1 : Sv) (v0_2 : Sv) (R : Reached) (hF : s_l8Copy a_r = some R) :
   Fw.Spec Tryz.prog 147 [(.agg [v0_0.v, v0_1.v, v0_2.v, (.int .i64 a_r.Rounds)].toArray)] [crd (RdS 86 rd86) v0_0.v a_r.Facts, crd (RdS 3 rdInt) v0_1.v a_r.Values, crd (RdS 45 rd45) v0_2.v a_r.Log] (fun p : Sv × List Nat × Sv × List Nat × Sv × List Nat => (.agg [p.1.v, p.2.2.1.v, p.2.2.2.2.1.v, (.int .i64 R.Rounds)].toArray)) (fun p => [cown (OwnS 86 ow86) p.2.1 p.1.v R.Facts, cown (OwnS 3 (roE rdInt)) p.2.2.2.1 p.2.2.1.v R.Values, cown (OwnS 45 ow45) p.2.2.2.2.2 p.2.2.2.2.1.v R.Log]) := by
 refine Se 19 Tryz.func147 [.cell 2 62] ?_
 intro H0 F0
 unfold s_l8Copy at hF
 refine au ?_
 refine AbR (fun k1 => ?_)
 refine AnW (fun k2 => ?_)
 refine au ?_
 refine K_draw [0, 1, 3, 4, 5, 7, 8, 10, 2, 6, 9, 11] [0, 1, 3, 0, 0, 16, 63, 0, 128, 511, 0, 2047] [2, 6, 11] mixed (by decide +kernel) ?_
 iterate 2 refine du ?_
 refine D_new rfl .no rfl (fun ha => N_buildSliceT (g := true) (len := 0) (parts := []) sl24.h ty3.h .nil (vs := []) rfl rfl rfl (by simp)) (fun k3 => ?_)
 refine Dv1 (.cons .h .nil) (own_lit (Ro := (roE rdInt)) (E := 3) (F := []) (xs := ([] : List Int)) MkL_nil rfl rfl) ?_
 iterate 4 refine du ?_
 refine D_new rfl .no rfl (fun ha => N_allocT (g := true) ty62.h rfl rfl) (fun k4 => ?_)
 refine bnd hF fun r5 hx6 hF => D_act1 rfl rfl .no (.rd (.t (.t (.t (.t .h)))) rfl .nil) (.own .h (fun _ h => h) (.own (.t .h) (by simp [cown]) .nil)) (fun ha => X_callS cf208.h (.cons (EN ha (.tmp rfl rfl) rfl) .nil) (s_l2Copy_ok a_r.Facts v0_0 _ hx6)) (fun p7 => ?_)
 refine bnd hF fun z8 hx9 hF => D_act1 rfl rfl .no (.cons (.t (.t .h)) (.rd (.t (.t (.t (.t (.t .h))))) rfl .nil)) (.own (.t .h) (fun _ h => h) (.dep rfl .nil)) (fun ha => X_appendO (Ro := (roE rdInt)) sl24.h ni24 ty3.h rfl rfl rfl (EN ha (.tmp rfl rfl) rfl) (EN ha (.tmp rfl rfl) rfl) hx9 src_rd) (fun p10 => ?_)
 refine D_val rfl .no (fun ha => V_build ty62.h rfl (vs := [p7.1.v, p10.1.v, (.int .i64 a_r.Rounds)]) (.cons (EN ha (.tmp rfl rfl) rfl) (.cons (EN ha (.tmp rfl rfl) rfl) (.cons (EN ha (.tmp rfl rfl) rfl) .nil))) (cells := [p7.1.v, p10.1.v, (.slice none 0 0), (.int .i64 a_r.Rounds)]) rfl) ?_
 refine D_act1 rfl rfl .no (.cons (.t (.t .h)) .nil) (.dep rfl (.dep rfl .nil)) (fun ha => X_storeB (e' := (.agg [p7.1.v, p10.1.v, (.slice none 0 0), (.int .i64 a_r.Rounds)].toArray)) (v := (.agg [p7.1.v, p10.1.v, (.slice none 0 0), (.int .i64 a_r.Rounds)].toArray)) ty62.h.sz (EN ha (.tmp rfl rfl) rfl) (EN ha (.tmp rfl rfl) rfl) rfl rfl rfl rfl rfl) (fun _ => ?_)
 refine du ?_
 iterate 3 refine au ?_
 refine bnd hF fun r11 hx12 hF => Cx1 (s_l8Log_ok _ _ _ hx12) (fun p13 => ?_)
 refine au ?_
 refine As (.agg [p7.1.v, p10.1.v, p13.1.v, (.int .i64 a_r.Rounds)].toArray) ?_
 iterate 3 refine au ?_
 refine As (.agg [p7.1.v, p10.1.v, p13.1.v, (.int .i64 a_r.Rounds)].toArray) ?_
 iterate 2 refine au ?_
 cases hF
 exact Er (p7.1, p7.2, p10.1, p10.2, p13.1, p13.2)
def s_l8Lists_L5 (c207 : List (List Int)) (c212 : Int) : List Int → Nat → (List (List Int)) → Option ((List (List Int)))
 | [], k229, c223 => some c223
 | x231 :: rest230, k229, c223 => (ix c207 c212).bind fun x239 =>
   (app ([] : List Int) x239).bind fun z249 =>
   (app z249 ([x231] : List Int)).bind fun z252 =>
   (app c223 ([z252] : List (List Int))).bind fun z256 =>
   s_l8Lists_L5 c207 c212 rest230 (k229 + 1) z256
def s_l8Lists_L2 (a_values : List Int) : Nat → (List (List Int)) → (List (List Int)) → Int → Option ((List (List Int)))
 | 0, _, _, _ => none
 | m213 + 1, c207, c209, c212 => if (decide ((c212 : Int) < (c207.length : Int))) then (
     (s_l8Lists_L5 c207 c212 a_values 0 c209).bind fun o221 =>
     match o221 with
     | c260 => s_l8Lists_L2 a_values m213 c207 c260 (IntKind.i64.wrap (c212 + 1)))
   else (
     some c209)
def s_l8Lists_L1 (a_values : List Int) (a_n : Int) : Nat → (List (List Int)) → Int → Option ((List (List Int)))
 | 0, _, _ => none
 | m7 + 1, c3, c6 => if (decide ((c6 : Int) < a_n)) then (
     (s_l8Lists_L2 a_values (((c3.length : Int) - 0).toNat + 2) c3 ([] : List (List Int)) 0).bind fun o15 =>
     match o15 with
     | c265 => s_l8Lists_L1 a_values a_n m7 c265 (IntKind.i64.wrap (c6 + 1)))
   else (
     some c3)
def s_l8Lists (a_values : List Int) (a_n : Int) : Option ((List (List Int))) :=
 s_l8Lists_L1 a_values a_n ((a_n - 0).toNat + 2) ([([] : List Int)] : List (List Int)) 0
theorem s_l8Lists_ok (a_values : List Int) (v0_0 : Sv) (a_n : Int) (R : (List (List Int))) (hF : s_l8Lists a_values a_n = some R) :
   Fw.Spec Tryz.prog 249 [v0_0.v, (.int .i64 a_n)] [crd (RdS 3 rdInt) v0_0.v a_values] (fun p : Sv × List Nat => p.1.v) (fun p => [cown (OwnS 24 (OwnS 3 (roE rdInt))) p.2 p.1.v R]) := by
 refine Se 47 Tryz.func249 [.tmp 4] ?_
 intro H0 F0
 unfold s_l8Lists at hF
 iterate 4 refine au ?_
 refine C_new rfl (N_buildSliceT (g := true) sl24.h ty3.h .nil (vs := []) rfl rfl rfl (by simp)) (fun k1 => ?_)
 refine Cv1 (.cons .h .nil) (own_lit (Ro := (roE rdInt)) (E := 3) (F := []) (xs := ([] : List Int)) MkL_nil rfl rfl) ?_
 refine C_new rfl (N_buildSliceT (g := true) sl54.h ty24.h (.cons (.tmp rfl rfl) .nil) (vs := [(.slice (some ⟨k1, 0, none⟩) 0 1)]) rfl rfl rfl (by intro v hv; simp at hv; rcases hv with rfl <;> rfl)) (fun k2 => ?_)
 refine Cv1 (.cons .h (.cons .h .nil)) (own_lit (Ro := (OwnS 3 (roE rdInt))) (E := 24) (F := ((k1 :: []) ++ [])) (xs := ([([] : List Int)] : List (List Int))) (MkL_cons Mk_own MkL_nil apps) rfl rfl) ?_
 iterate 6 refine au ?_
 refine CW_block (CW_loop (m := ((a_n - 0).toNat + 2)) (fun m7 f' cs' => ∃ (g : Fr) (c3 : List (List Int)) (c6 : Int) (v4 : Sv) (F5 : List Nat), f' = updL g [(0, v0_0.v), (1, (.int .i64 a_n)), (5, v4.v), (6, (.int .i64 c6))] ∧ Ent cs' [crd (RdS 3 rdInt) v0_0.v a_values, cown (OwnS 24 (OwnS 3 (roE rdInt))) F5 v4.v c3] ∧ s_l8Lists_L1 a_values a_n m7 c3 c6 = some R) ⟨_, _, _, ⟨(some ⟨k2, 0, none⟩), 1, 1⟩, (k2 :: ((k1 :: []) ++ [])), eqA, entA, hF⟩ ?_)
 rintro m7 _ _ ⟨g8, c3, c6, v4, F5, rfl, hE, hF⟩
 refine K_ent hE ?_
 rcases m7 with _ | m7
 · rw [s_l8Lists_L1] at hF
   exact absurd hF (by simp)
 rw [s_l8Lists_L1] at hF
 iterate 6 refine au ?_
 refine Ci hF (fun hb269 hF => ?_) (fun hb269 hF => ?_)
 · refine au ?_
   obtain ⟨o15, hio15, hO16⟩ := bind_some hF
   refine K_cut (fun f' cs' => ∃ (c265 : List (List Int)) (v266 : Sv) (F267 : List Nat) (g : Fr), c265 = o15 ∧ f' = updL g [(0, v0_0.v), (1, (.int .i64 a_n)), (5, v266.v), (6, (.int .i64 c6))] ∧ Ent cs' [crd (RdS 3 rdInt) v0_0.v a_values, cown (OwnS 24 (OwnS 3 (roE rdInt))) F267 v266.v c265]) ?_ ?_
   · replace hF := hio15
     refine CW_block (K_region (C_new rfl (N_buildSliceT (g := true) sl54.h ty24.h .nil (vs := []) rfl rfl rfl (by simp)) (fun k17 => ?_)))
     refine Cv1 (.cons .h .nil) (own_lit (Ro := (OwnS 3 (roE rdInt))) (E := 24) (F := []) (xs := ([] : List (List Int))) MkL_nil rfl rfl) ?_
     iterate 6 refine au ?_
     refine CW_block (CW_loop (m := (((c3.length : Int) - 0).toNat + 2)) (fun m213 f' cs' => ∃ (g : Fr) (c207 : List (List Int)) (c209 : List (List Int)) (c212 : Int) (v208 : Sv) (v210 : Sv) (F211 : List Nat), f' = updL g [(0, v0_0.v), (1, (.int .i64 a_n)), (5, v208.v), (6, (.int .i64 c6)), (7, v210.v), (8, (.int .i64 c212))] ∧ Ent cs' [crd (RdS 3 rdInt) v0_0.v a_values, crd (RdS 24 (RdS 3 rdInt)) v208.v c207, cown (OwnS 24 (OwnS 3 (roE rdInt))) F211 v210.v c209] ∧ s_l8Lists_L2 a_values m213 c207 c209 c212 = some o15) ⟨_, _, _, _, v4, ⟨(some ⟨k17, 0, none⟩), 0, 1⟩, (k17 :: []), eqA, (.frz (.t (.t .h)) frz_own entA), hF⟩ ?_)
     rintro m213 _ _ ⟨g214, c207, c209, c212, v208, v210, F211, rfl, hE, hF⟩
     refine K_ent hE ?_
     rcases m213 with _ | m213
     · rw [s_l8Lists_L2] at hF
       exact absurd hF (by simp)
     rw [s_l8Lists_L2] at hF
     iterate 7 refine au ?_
     refine Ci hF (fun hb264 hF => ?_) (fun hb264 hF => ?_)
     · refine au ?_
       obtain ⟨o221, hio221, hO222⟩ := bind_some hF
       refine K_cut (fun f' cs' => ∃ (c260 : List (List Int)) (v261 : Sv) (F262 : List Nat) (g : Fr), c260 = o221 ∧ f' = updL g [(0, v0_0.v), (1, (.int .i64 a_n)), (5, v208.v), (6, (.int .i64 c6)), (7, v261.v), (8, (.int .i64 c212))] ∧ Ent cs' [crd (RdS 3 rdInt) v0_0.v a_values, crd (RdS 24 (RdS 3 rdInt)) v208.v c207, cown (OwnS 24 (OwnS 3 (roE rdInt))) F262 v261.v c260]) ?_ ?_
       · replace hF := hio221
         refine CW_block (K_region (C_val (V_assign (v := (.int .i64 0)) (.int _ _)) ?_))
         refine au ?_
         refine CW_block (CW_loop (m := a_values.length) (fun m227 f' cs' => ∃ (g : Fr) (k229 : Nat) (rest230 : List Int) (c223 : List (List Int)) (v224 : Sv) (F225 : List Nat), m227 = rest230.length ∧ f' = updL g [(0, v0_0.v), (1, (.int .i64 a_n)), (5, v208.v), (6, (.int .i64 c6)), (7, v224.v), (8, (.int .i64 c212)), (9, (.int .i64 (k229 : Int)))] ∧ List.drop k229 a_values = rest230 ∧ Ent cs' [crd (RdS 3 rdInt) v0_0.v a_values, crd (RdS 24 (RdS 3 rdInt)) v208.v c207, cown (OwnS 24 (OwnS 3 (roE rdInt))) F225 v224.v c223] ∧ s_l8Lists_L5 c207 c212 rest230 k229 c223 = some o221) ⟨_, 0, _, _, v210, F211, rfl, eqA, rfl, entA, hF⟩ ?_)
         rintro m227 _ _ ⟨g228, k229, rest230, c223, v224, F225, rfl, rfl, hd232, hE, hF⟩
         refine Kb hE a_values (fun hbd237 => ?_)
         rcases rest230 with _ | ⟨x231, rest230⟩
         · have hk233 := dn hd232
           rw [s_l8Lists_L5] at hF
           iterate 7 refine au ?_
           refine CdF ?_
           iterate 4 refine au ?_
           cases hF
           exact ⟨_, v224, F225, _, rfl, eqA, entA⟩
         obtain ⟨hk233, hx234, hd235⟩ := drop_cons hd232
         rw [s_l8Lists_L5] at hF
         iterate 7 refine au ?_
         refine CdT ?_
         iterate 2 refine au ?_
         refine CW_draw [0, 1, 2, 3, 4, 5, 7, 8, 9, 10, 11, 6, 12, 13, 14, 15] [0, 0, 0, 0, 12, 28, 62, 0, 0, 384, 896, 1920, 4094, 8190, 16383, 32767] [6, 12, 14] mixed (by decide +kernel) ?_
         refine du ?_
         refine D_new rfl .no rfl (fun ha => N_buildSliceT (g := true) (len := 0) (parts := []) sl24.h ty3.h .nil (vs := []) rfl rfl rfl (by simp)) (fun k238 => ?_)
         refine Dv1 (.cons .h .nil) (own_lit (Ro := (roE rdInt)) (E := 3) (F := []) (xs := ([] : List Int)) MkL_nil rfl rfl) ?_
         iterate 2 refine du ?_
         refine bnd hF fun x239 hx240 hF => ?_
         obtain ⟨hp241, hx242⟩ := ix_some hx240
         refine Di hx242 (fun k243 j244 => ?_)
         refine D_ldV (R' := (RdS 3 rdInt)) ag24.h rfl .no (.tmp rfl rfl) rfl .h lv24_0 (fun w245 => ?_)
         iterate 2 refine du ?_
         refine Di hx234 (fun k246 j247 => ?_)
         refine Dl ls3_0 ?_
         refine D_new rfl .no rfl (fun ha => N_buildSliceT (g := true) (len := 1) (parts := [(0, .tmp 40)]) sl24.h ty3.h (.cons (EN ha (.tmp rfl rfl) rfl) .nil) (vs := [(.int .i64 x231)]) rfl rfl rfl (by intro v hv; simp at hv; rcases hv with rfl <;> rfl)) (fun k248 => ?_)
         refine Dv1 (.cons .h .nil) (own_lit (Ro := (roE rdInt)) (E := 3) (F := ([] ++ [])) (xs := ([x231] : List Int)) (MkL_cons (Mk_pure (fun _ => rfl)) MkL_nil apps) rfl rfl) ?_
         refine bnd hF fun z249 hx250 hF => D_act1 rfl rfl .no (.cons (.t (.t (.t (.t .h)))) (.rd (.t (.t .h)) rfl .nil)) (.own .h (by simp [cown]) (.dep rfl .nil)) (fun ha => X_appendO (Ro := (roE rdInt)) sl24.h ni24 ty3.h rfl rfl rfl (EN ha (.tmp rfl rfl) rfl) (EN ha (.tmp rfl rfl) rfl) hx250 src_rd) (fun p251 => ?_)
         refine bnd hF fun z252 hx253 hF => D_act1 rfl rfl .no (.cons .h (.cons .h .nil)) (.dep rfl (.dep rfl .nil)) (fun ha => X_appendO (Ro := (roE rdInt)) sl24.h ni24 ty3.h rfl rfl rfl (EN ha (.tmp rfl rfl) rfl) (EN ha (.tmp rfl rfl) rfl) hx253 src_own) (fun p254 => ?_)
         refine D_new rfl .no rfl (fun ha => N_buildSliceT (g := true) (len := 1) (parts := [(0, .tmp 42)]) sl54.h ty24.h (.cons (EN ha (.tmp rfl rfl) rfl) .nil) (vs := [p254.1.v]) rfl rfl rfl (by intro v hv; simp at hv; rcases hv with rfl <;> rfl)) (fun k255 => ?_)
         refine Dv1 (.cons .h (.cons .h .nil)) (own_lit (Ro := (OwnS 3 (roE rdInt))) (E := 24) (F := (p254.2 ++ [])) (xs := ([z252] : List (List Int))) (MkL_cons Mk_own MkL_nil apps) rfl rfl) ?_
         refine bnd hF fun z256 hx257 hF => D_act1 rfl rfl .no (.cons (.t (.t (.t (.t (.t (.t .h)))))) (.cons .h .nil)) (.dep rfl (.dep rfl (.dep rfl .nil))) (fun ha => X_appendO (Ro := (OwnS 3 (roE rdInt))) sl54.h ni54 ty24.h rfl rfl rfl (EN ha (.tmp rfl rfl) rfl) (EN ha (.tmp rfl rfl) rfl) hx257 src_own) (fun p258 => ?_)
         iterate 2 refine du ?_
         iterate 5 refine au ?_
         rw [wk k229]
         exact ⟨_, Nat.lt_succ_self _, _, k229 + 1, rest230, _, p258.1, p258.2, rfl, eqA, hd235, entA, hF⟩
       rintro _ _ ⟨c260, v261, F262, g263, rfl, rfl, hE⟩
       replace hF := hO222
       try dsimp only at hF
       refine K_ent hE ?_
       iterate 5 refine au ?_
       exact ⟨m213, Nat.lt_succ_self _, _, _, _, _, v208, v261, F262, eqA, entA, hF⟩
     iterate 8 refine au ?_
     cases hF
     exact ⟨_, v210, F211, _, rfl, eqA, entA⟩
   rintro _ _ ⟨c265, v266, F267, g268, rfl, rfl, hE⟩
   replace hF := hO16
   try dsimp only at hF
   refine K_ent hE ?_
   iterate 5 refine au ?_
   exact ⟨m7, Nat.lt_succ_self _, _, _, _, v266, F267, eqA, entA, hF⟩
 iterate 9 refine au ?_
 cases hF
 exact Er (v4, F5)
def s_l2Ints_L1 (a_b : List Int) : List Int → Nat → Option (Bool)
 | [], k4 => some true
 | x6 :: rest5, k4 => (ix a_b (k4 : Int)).bind fun x15 =>
   if ((x6 : Int) != x15) then (
     some false)
   else (
     s_l2Ints_L1 a_b rest5 (k4 + 1))
def s_l2Ints (a_a : List Int) (a_b : List Int) : Option (Bool) :=
 if (((a_a.length : Int) : Int) != (a_b.length : Int)) then (
   some false)
 else (
   s_l2Ints_L1 a_b a_a 0)
theorem s_l2Ints_ok (a_a : List Int) (v0_0 : Sv) (a_b : List Int) (v1_0 : Sv) (R : Bool) (hF : s_l2Ints a_a a_b = some R) :
   Fw.Spec Tryz.prog 72 [v0_0.v, v1_0.v] [crd (RdS 3 rdInt) v0_0.v a_a, crd (RdS 3 rdInt) v1_0.v a_b] (fun _ : Unit => (.bool R)) (fun _ => []) := by
 refine Se 26 Tryz.func72 [.tmp 4] ?_
 intro H0 F0
 unfold s_l2Ints at hF
 iterate 11 refine au ?_
 refine Ci hF (fun hb23 hF => ?_) (fun hb23 hF => ?_)
 · iterate 4 refine au ?_
   cases hF
   exact Er ()
 iterate 5 refine au ?_
 refine CW_block (CW_loop (m := a_a.length) (fun m2 f' cs' => ∃ (g : Fr) (k4 : Nat) (rest5 : List Int), m2 = rest5.length ∧ f' = updL g [(0, v0_0.v), (1, v1_0.v), (5, (.int .i64 (k4 : Int)))] ∧ List.drop k4 a_a = rest5 ∧ Ent cs' [crd (RdS 3 rdInt) v0_0.v a_a, crd (RdS 3 rdInt) v1_0.v a_b] ∧ s_l2Ints_L1 a_b rest5 k4 = some R) ⟨_, 0, _, rfl, eqA, rfl, entA, hF⟩ ?_)
 rintro m2 _ _ ⟨g3, k4, rest5, rfl, rfl, hd7, hE, hF⟩
 refine Kb hE a_a (fun hbd12 => ?_)
 rcases rest5 with _ | ⟨x6, rest5⟩
 · have hk8 := dn hd7
   rw [s_l2Ints_L1] at hF
   iterate 7 refine au ?_
   refine CdF ?_
   iterate 8 refine au ?_
   cases hF
   exact Er ()
 obtain ⟨hk8, hx9, hd10⟩ := drop_cons hd7
 rw [s_l2Ints_L1] at hF
 iterate 7 refine au ?_
 refine CdT ?_
 iterate 2 refine au ?_
 refine K_draw [0, 1, 2, 3, 4, 5, 6, 7, 8] [0, 0, 3, 7, 0, 0, 48, 112, 255] [] mixed (by decide +kernel) ?_
 iterate 2 refine du ?_
 refine Di hx9 (fun k13 j14 => ?_)
 refine Dl ls3_0 ?_
 iterate 2 refine du ?_
 refine bnd hF fun x15 hx16 hF => ?_
 obtain ⟨hp17, hx18⟩ := ix_some hx16
 refine Di hx18 (fun k19 j20 => ?_)
 refine Dl ls3_0 ?_
 iterate 2 refine du ?_
 refine Ci hF (fun hb22 hF => ?_) (fun hb22 hF => ?_)
 · iterate 4 refine au ?_
   cases hF
   exact Er ()
 iterate 6 refine au ?_
 rw [wk k4]
 exact ⟨_, Nat.lt_succ_self _, _, k4 + 1, rest5, rfl, eqA, hd10, entA, hF⟩
def s_l5Same (a_a : Access) (a_b : Access) : Option (Bool) :=
 (bif ((a_a.Method : Int) == a_b.Method) then ((s_l2Ints a_a.Values a_b.Values).bind fun r6 =>
     some r6)
   else (some false)).bind fun o3 =>
 match o3 with
 | c9 => some c9
theorem s_l5Same_ok (a_a : Access) (v0_1 : Sv) (a_b : Access) (v1_1 : Sv) (R : Bool) (hF : s_l5Same a_a a_b = some R) :
   Fw.Spec Tryz.prog 45 [(.agg [(.int .i64 a_a.Method), v0_1.v].toArray), (.agg [(.int .i64 a_b.Method), v1_1.v].toArray)] [crd (RdS 3 rdInt) v0_1.v a_a.Values, crd (RdS 3 rdInt) v1_1.v a_b.Values] (fun _ : Unit => (.bool R)) (fun _ => []) := by
 refine Se 17 Tryz.func45 [.tmp 4] ?_
 intro H0 F0
 unfold s_l5Same at hF
 refine au ?_
 refine AbR (fun k1 => ?_)
 refine AbR (fun k2 => ?_)
 iterate 2 refine au ?_
 obtain ⟨o3, hio3, hO4⟩ := bind_some hF
 refine au ?_
 refine C_cut (fun f' cs' => ∃ (c9 : Bool) (g : Fr), c9 = o3 ∧ f' = updL g [(4, (.bool c9))] ∧ Ent cs' []) ?_ ?_
 · replace hF := hio3
   iterate 6 refine au ?_
   rcases Bool.eq_false_or_eq_true ((a_a.Method : Int) == a_b.Method) with hg5 | hg5
   · rw [hg5]
     try rw [hg5] at hF; dsimp only [cond_true, cond_false] at hF
     iterate 9 refine au ?_
     refine bnd hF fun r6 hx7 hF => Cx0 (s_l2Ints_ok _ _ _ _ _ hx7) (fun _ => ?_)
     iterate 3 refine au ?_
     cases hF
     exact ⟨_, _, rfl, eqA, entA⟩
   rw [hg5]
   try rw [hg5] at hF; dsimp only [cond_true, cond_false] at hF
   iterate 8 refine au ?_
   cases hF
   exact ⟨_, _, rfl, eqA, entA⟩
 rintro _ _ ⟨c9, g10, rfl, rfl, hE⟩
 replace hF := hO4
 try dsimp only at hF
 refine K_ent hE ?_
 refine au ?_
 cases hF
 exact Er ()
def s_l7Logged_L1 (a_a : Access) : List Access → Nat → Option (Bool)
 | [], k5 => some false
 | x7 :: rest6, k5 => (s_l5Same x7 a_a).bind fun r17 =>
   if r17 then (
     some true)
   else (
     s_l7Logged_L1 a_a rest6 (k5 + 1))
def s_l7Logged (a_log : List Access) (a_a : Access) : Option (Bool) :=
 s_l7Logged_L1 a_a a_log 0
theorem s_l7Logged_ok (a_log : List Access) (v0_0 : Sv) (a_a : Access) (v1_1 : Sv) (R : Bool) (hF : s_l7Logged a_log a_a = some R) :
   Fw.Spec Tryz.prog 59 [v0_0.v, (.agg [(.int .i64 a_a.Method), v1_1.v].toArray)] [crd (RdS 45 rd45) v0_0.v a_log, crd (RdS 3 rdInt) v1_1.v a_a.Values] (fun _ : Unit => (.bool R)) (fun _ => []) := by
 refine Se 18 Tryz.func59 [.tmp 4] ?_
 intro H0 F0
 unfold s_l7Logged at hF
 refine au ?_
 refine AbR (fun k1 => ?_)
 iterate 6 refine au ?_
 refine CW_block (CW_loop (m := a_log.length) (fun m3 f' cs' => ∃ (g : Fr) (k5 : Nat) (rest6 : List Access), m3 = rest6.length ∧ f' = updL g [(0, v0_0.v), (3, (pz k1)), (5, (.int .i64 (k5 : Int)))] ∧ List.drop k5 a_log = rest6 ∧ Ent cs' [crd (RdS 45 rd45) v0_0.v a_log, cboR k1 45 (.agg [(.int .i64 a_a.Method), v1_1.v].toArray), crd (RdS 3 rdInt) v1_1.v a_a.Values] ∧ s_l7Logged_L1 a_a rest6 k5 = some R) ⟨_, 0, _, rfl, eqA, rfl, entA, hF⟩ ?_)
 rintro m3 _ _ ⟨g4, k5, rest6, rfl, rfl, hd8, hE, hF⟩
 refine Kb hE a_log (fun hbd13 => ?_)
 rcases rest6 with _ | ⟨x7, rest6⟩
 · have hk9 := dn hd8
   rw [s_l7Logged_L1] at hF
   iterate 7 refine au ?_
   refine CdF ?_
   iterate 8 refine au ?_
   cases hF
   exact Er ()
 obtain ⟨hk9, hx10, hd11⟩ := drop_cons hd8
 rw [s_l7Logged_L1] at hF
 iterate 7 refine au ?_
 refine CdT ?_
 iterate 2 refine au ?_
 refine K_draw [0, 1, 2, 3, 4, 5] [0, 0, 3, 7, 0, 31] [5] mixed (by decide +kernel) ?_
 iterate 2 refine du ?_
 refine Di hx10 (fun k14 j15 => ?_)
 refine DlA1 (ul45_0_45 x7) la45_0_45 (fun p16 => ?_)
 refine du ?_
 refine bnd hF fun r17 hx18 hF => Dx0 (s_l5Same_ok _ _ _ _ _ hx18) (fun _ => ?_)
 refine du ?_
 refine Ci hF (fun hb21 hF => ?_) (fun hb21 hF => ?_)
 · iterate 4 refine au ?_
   cases hF
   exact Er ()
 iterate 6 refine au ?_
 rw [wk k5]
 exact ⟨_, Nat.lt_succ_self _, _, k5 + 1, rest6, rfl, eqA, hd11, entA, hF⟩
def s_l8Open_L2 (a_r : Reached) (k9 : Nat) : List (List Int) → Nat → (List Access) → Option ((List Access))
 | [], k70, c64 => some c64
 | x72 :: rest71, k70, c64 => ((s_l8Access (k9 : Int) x72).bind fun r84 =>
     (s_l7Logged a_r.Log r84).bind fun r88 =>
     if (!r88) then (
       (app c64 ([r84] : List Access)).bind fun z92 =>
       some z92)
     else (
       some c64)).bind fun o79 =>
   match o79 with
   | c96 => s_l8Open_L2 a_r k9 rest71 (k70 + 1) c96
def s_l8Open_L1 (a_r : Reached) : List Method → Nat → (List Access) → Option ((List Access))
 | [], k9, c3 => some c3
 | x11 :: rest10, k9, c3 => (if ((x11.Limit : Int) != 0) then (
       some c3)
     else (
       (s_l8Lists a_r.Values (x11.Inputs.length : Int)).bind fun r25 =>
       s_l8Open_L2 a_r k9 r25 0 c3)).bind fun o18 =>
   match o18 with
   | c102 => s_l8Open_L1 a_r rest10 (k9 + 1) c102
def s_l8Open (a_l : List Method) (a_r : Reached) : Option ((List Access)) :=
 s_l8Open_L1 a_r a_l 0 ([] : List Access)
theorem s_l8Open_ok (a_l : List Method) (v0_0 : Sv) (a_r : Reached) (v1_0 : Sv) (v1_1 : Sv) (v1_2 : Sv) (R : (List Access)) (hF : s_l8Open a_l a_r = some R) :
   Fw.Spec Tryz.prog 210 [v0_0.v, (.agg [v1_0.v, v1_1.v, v1_2.v, (.int .i64 a_r.Rounds)].toArray)] [crd (RdS 73 rd73) v0_0.v a_l, crd (RdS 86 rd86) v1_0.v a_r.Facts, crd (RdS 3 rdInt) v1_1.v a_r.Values, crd (RdS 45 rd45) v1_2.v a_r.Log] (fun p : Sv × List Nat => p.1.v) (fun p => [cown (OwnS 45 ow45) p.2 p.1.v R]) := by
 refine Se 54 Tryz.func210 [.tmp 4] ?_
 intro H0 F0
 unfold s_l8Open at hF
 refine au ?_
 refine AbR (fun k1 => ?_)
 iterate 3 refine au ?_
 refine C_new rfl (N_buildSliceT (g := true) sl33.h ty45.h .nil (vs := []) rfl rfl rfl (by simp)) (fun k2 => ?_)
 refine Cv1 (.cons .h .nil) (own_lit (Ro := ow45) (E := 45) (F := []) (xs := ([] : List Access)) MkL_nil rfl rfl) ?_
 iterate 6 refine au ?_
 refine CW_block (CW_loop (m := a_l.length) (fun m7 f' cs' => ∃ (g : Fr) (k9 : Nat) (rest10 : List Method) (c3 : List Access) (v4 : Sv) (F5 : List Nat), m7 = rest10.length ∧ f' = updL g [(0, v0_0.v), (3, (pz k1)), (5, v4.v), (6, (.int .i64 (k9 : Int)))] ∧ List.drop k9 a_l = rest10 ∧ Ent cs' [crd (RdS 73 rd73) v0_0.v a_l, cboR k1 62 (.agg [v1_0.v, v1_1.v, v1_2.v, (.int .i64 a_r.Rounds)].toArray), crd (RdS 86 rd86) v1_0.v a_r.Facts, crd (RdS 3 rdInt) v1_1.v a_r.Values, crd (RdS 45 rd45) v1_2.v a_r.Log, cown (OwnS 45 ow45) F5 v4.v c3] ∧ s_l8Open_L1 a_r rest10 k9 c3 = some R) ⟨_, 0, _, _, ⟨(some ⟨k2, 0, none⟩), 0, 1⟩, (k2 :: []), rfl, eqA, rfl, entA, hF⟩ ?_)
 rintro m7 _ _ ⟨g8, k9, rest10, c3, v4, F5, rfl, rfl, hd12, hE, hF⟩
 refine Kb hE a_l (fun hbd17 => ?_)
 rcases rest10 with _ | ⟨x11, rest10⟩
 · have hk13 := dn hd12
   rw [s_l8Open_L1] at hF
   iterate 7 refine au ?_
   refine CdF ?_
   iterate 9 refine au ?_
   cases hF
   exact Er (v4, F5)
 obtain ⟨hk13, hx14, hd15⟩ := drop_cons hd12
 rw [s_l8Open_L1] at hF
 iterate 7 refine au ?_
 refine CdT ?_
 refine au ?_
 obtain ⟨o18, hio18, hO19⟩ := bind_some hF
 refine K_cut (fun f' cs' => ∃ (c102 : List Access) (v103 : Sv) (F104 : List Nat) (g : Fr), c102 = o18 ∧ f' = updL g [(0, v0_0.v), (3, (pz k1)), (5, v103.v), (6, (.int .i64 (k9 : Int)))] ∧ Ent cs' [crd (RdS 73 rd73) v0_0.v a_l, cboR k1 62 (.agg [v1_0.v, v1_1.v, v1_2.v, (.int .i64 a_r.Rounds)].toArray), crd (RdS 86 rd86) v1_0.v a_r.Facts, crd (RdS 3 rdInt) v1_1.v a_r.Values, crd (RdS 45 rd45) v1_2.v a_r.Log, cown (OwnS 45 ow45) F104 v103.v c102]) ?_ ?_
 · replace hF := hio18
   refine CW_block (K_in (K_region (Cm v0_0.v rfl rfl ?_)))
   refine au ?_
   refine Ai hx14 (fun k20 j21 => ?_)
   refine au ?_
   refine Al ls73_2 ?_
   iterate 2 refine au ?_
   refine Ci hF (fun hb101 hF => ?_) (fun hb101 hF => ?_)
   · iterate 3 refine au ?_
     cases hF
     exact ⟨_, v4, F5, _, rfl, eqA, entA⟩
   refine au ?_
   refine K_draw [0, 1, 2, 3, 4, 5, 6, 7, 8, 9] [0, 1, 0, 0, 12, 28, 60, 124, 255, 511] [8] mixed (by decide +kernel) ?_
   iterate 4 refine du ?_
   refine Di hx14 (fun k22 j23 => ?_)
   refine du ?_
   refine D_ldV (R' := (RdS 3 rdInt)) ag24.h rfl .no (.tmp rfl rfl) rfl .h lv73_1 (fun w24 => ?_)
   refine du ?_
   refine bnd hF fun r25 hx26 hF => Dx1 (s_l8Lists_ok _ _ _ _ hx26) (fun p27 => ?_)
   iterate 2 refine du ?_
   iterate 3 refine au ?_
   refine CW_block (K_frz .h frz_own ?_)
   refine CW_loop (m := r25.length) (fun m68 f' cs' => ∃ (g : Fr) (k70 : Nat) (rest71 : List (List Int)) (c64 : List Access) (v65 : Sv) (F66 : List Nat), m68 = rest71.length ∧ f' = updL g [(0, v0_0.v), (3, (pz k1)), (5, v65.v), (6, (.int .i64 (k9 : Int))), (7, p27.1.v), (8, (.int .i64 (k70 : Int)))] ∧ List.drop k70 r25 = rest71 ∧ Ent cs' [crd (RdS 73 rd73) v0_0.v a_l, cboR k1 62 (.agg [v1_0.v, v1_1.v, v1_2.v, (.int .i64 a_r.Rounds)].toArray), crd (RdS 86 rd86) v1_0.v a_r.Facts, crd (RdS 3 rdInt) v1_1.v a_r.Values, crd (RdS 45 rd45) v1_2.v a_r.Log, cown (OwnS 45 ow45) F66 v65.v c64, crd (RdS 24 (RdS 3 rdInt)) p27.1.v r25] ∧ s_l8Open_L2 a_r k9 rest71 k70 c64 = some o18) ⟨_, 0, _, _, v4, F5, rfl, eqA, rfl, entA, hF⟩ ?_
   rintro m68 _ _ ⟨g69, k70, rest71, c64, v65, F66, rfl, rfl, hd73, hE, hF⟩
   refine Kb hE r25 (fun hbd78 => ?_)
   rcases rest71 with _ | ⟨x72, rest71⟩
   · have hk74 := dn hd73
     rw [s_l8Open_L2] at hF
     iterate 7 refine au ?_
     refine CdF ?_
     iterate 4 refine au ?_
     cases hF
     exact ⟨_, v65, F66, _, rfl, eqA, entA⟩
   obtain ⟨hk74, hx75, hd76⟩ := drop_cons hd73
   rw [s_l8Open_L2] at hF
   iterate 7 refine au ?_
   refine CdT ?_
   refine au ?_
   obtain ⟨o79, hio79, hO80⟩ := bind_some hF
   refine K_cut (fun f' cs' => ∃ (c96 : List Access) (v97 : Sv) (F98 : List Nat) (g : Fr), c96 = o79 ∧ f' = updL g [(0, v0_0.v), (3, (pz k1)), (5, v97.v), (6, (.int .i64 (k9 : Int))), (7, p27.1.v), (8, (.int .i64 (k70 : Int)))] ∧ Ent cs' [crd (RdS 73 rd73) v0_0.v a_l, cboR k1 62 (.agg [v1_0.v, v1_1.v, v1_2.v, (.int .i64 a_r.Rounds)].toArray), crd (RdS 86 rd86) v1_0.v a_r.Facts, crd (RdS 3 rdInt) v1_1.v a_r.Values, crd (RdS 45 rd45) v1_2.v a_r.Log, cown (OwnS 45 ow45) F98 v97.v c96, crd (RdS 24 (RdS 3 rdInt)) p27.1.v r25]) ?_ ?_
   · replace hF := hio79
     refine CW_block (K_region (Cm (.int .i64 (k9 : Int)) rfl rfl ?_))
     iterate 2 refine au ?_
     refine Ai hx75 (fun k81 j82 => ?_)
     refine C_ldV (R' := (RdS 3 rdInt)) ag24.h (.tmp rfl rfl) .h lv24_0 (fun w83 => ?_)
     refine bnd hF fun r84 hx85 hF => Cx1 (s_l8Access_ok _ _ _ _ hx85) (fun p86 => ?_)
     refine AnW (fun k87 => ?_)
     refine As (.agg [(.int .i64 r84.Method), p86.1.v].toArray) ?_
     iterate 5 refine au ?_
     refine bnd hF fun r88 hx89 hF => C_x1 (.cons (.t .h) (.rd (.t (.t (.t (.t (.t (.t (.t .h))))))) rfl .nil)) (XC_bor frz_own (fun _ => .nil) (XC_pre (.rd (.t .h) rfl (.rd .h rfl .nil)) (X_callS cf59.h (.cons (.tmp rfl rfl) (.cons (.tmp rfl rfl) .nil)) (s_l7Logged_ok a_r.Log v1_2 r84 p86.1 _ hx89)))) (fun _ => ?_)
     iterate 2 refine au ?_
     refine Ci hF (fun hb95 hF => ?_) (fun hb95 hF => ?_)
     · iterate 3 refine au ?_
       refine C_new rfl (N_buildSliceT (g := true) sl33.h ty45.h (.cons (.tmp rfl rfl) .nil) (vs := [(.agg [(.int .i64 r84.Method), p86.1.v].toArray)]) rfl rfl rfl (by intro v hv; simp at hv; rcases hv with rfl <;> rfl)) (fun k91 => ?_)
       refine Cv1 (.cons .h (.cons .h .nil)) (own_lit (Ro := ow45) (E := 45) (F := (p86.2 ++ [])) (xs := ([r84] : List Access)) (MkL_cons mk45 MkL_nil apps) rfl rfl) ?_
       refine bnd hF fun z92 hx93 hF => C_x1 (.cons (.t (.t (.t (.t (.t (.t (.t (.t (.t .h))))))))) (.cons .h .nil)) (X_appendO (Ro := ow45) sl33.h ni33 ty45.h rfl rfl rfl (.tmp rfl rfl) (.tmp rfl rfl) hx93 src_own) (fun p94 => ?_)
       iterate 2 refine au ?_
       cases hF
       exact ⟨_, p94.1, p94.2, _, rfl, eqA, entA⟩
     refine au ?_
     cases hF
     exact ⟨_, v65, F66, _, rfl, eqA, entA⟩
   rintro _ _ ⟨c96, v97, F98, g100, rfl, rfl, hE⟩
   replace hF := hO80
   try dsimp only at hF
   refine K_ent hE ?_
   iterate 5 refine au ?_
   rw [wk k70]
   exact ⟨_, Nat.lt_succ_self _, _, k70 + 1, rest71, _, v97, F98, rfl, eqA, hd76, entA, hF⟩
 rintro _ _ ⟨c102, v103, F104, g106, rfl, rfl, hE⟩
 replace hF := hO19
 try dsimp only at hF
 refine K_ent hE ?_
 iterate 5 refine au ?_
 rw [wk k9]
 exact ⟨_, Nat.lt_succ_self _, _, k9 + 1, rest10, _, v103, F104, rfl, eqA, hd15, entA, hF⟩
def s_l5Fits_L1 (a_values : List Int) (a_f : Fact) : List Int → Nat → Option (Bool)
 | [], k6 => some true
 | x8 :: rest7, k6 => (ix a_f.Values x8).bind fun x17 =>
   (ix a_values (k6 : Int)).bind fun x23 =>
   if ((x17 : Int) != x23) then (
     some false)
   else (
     s_l5Fits_L1 a_values a_f rest7 (k6 + 1))
def s_l5Fits (a_m : Method) (a_values : List Int) (a_f : Fact) : Option (Bool) :=
 if ((a_f.Rel : Int) != a_m.Rel) then (
   some false)
 else (
   s_l5Fits_L1 a_values a_f a_m.Inputs 0)
theorem s_l5Fits_ok (a_m : Method) (v0_1 : Sv) (a_values : List Int) (v1_0 : Sv) (a_f : Fact) (v2_1 : Sv) (R : Bool) (hF : s_l5Fits a_m a_values a_f = some R) :
   Fw.Spec Tryz.prog 110 [(.agg [(.int .i64 a_m.Rel), v0_1.v, (.int .i64 a_m.Limit), (.int .i64 a_m.Cost), (.int .i64 a_m.Quota)].toArray), v1_0.v, (.agg [(.int .i64 a_f.Rel), v2_1.v].toArray)] [crd (RdS 3 rdInt) v0_1.v a_m.Inputs, crd (RdS 3 rdInt) v1_0.v a_values, crd (RdS 3 rdInt) v2_1.v a_f.Values] (fun _ : Unit => (.bool R)) (fun _ => []) := by
 refine Se 34 Tryz.func110 [.tmp 6] ?_
 intro H0 F0
 unfold s_l5Fits at hF
 refine au ?_
 refine AbR (fun k1 => ?_)
 refine AbR (fun k2 => ?_)
 iterate 10 refine au ?_
 refine Ci hF (fun hb31 hF => ?_) (fun hb31 hF => ?_)
 · iterate 4 refine au ?_
   cases hF
   exact Er ()
 iterate 5 refine au ?_
 refine CW_block (CW_loop (m := a_m.Inputs.length) (fun m4 f' cs' => ∃ (g : Fr) (k6 : Nat) (rest7 : List Int), m4 = rest7.length ∧ f' = updL g [(1, v1_0.v), (3, (pz k1)), (5, (pz k2)), (7, (.int .i64 (k6 : Int)))] ∧ List.drop k6 a_m.Inputs = rest7 ∧ Ent cs' [crd (RdS 3 rdInt) v1_0.v a_values, cboR k1 73 (.agg [(.int .i64 a_m.Rel), v0_1.v, (.int .i64 a_m.Limit), (.int .i64 a_m.Cost), (.int .i64 a_m.Quota)].toArray), crd (RdS 3 rdInt) v0_1.v a_m.Inputs, cboR k2 86 (.agg [(.int .i64 a_f.Rel), v2_1.v].toArray), crd (RdS 3 rdInt) v2_1.v a_f.Values] ∧ s_l5Fits_L1 a_values a_f rest7 k6 = some R) ⟨_, 0, _, rfl, eqA, rfl, entA, hF⟩ ?_)
 rintro m4 _ _ ⟨g5, k6, rest7, rfl, rfl, hd9, hE, hF⟩
 refine Kb hE a_m.Inputs (fun hbd14 => ?_)
 rcases rest7 with _ | ⟨x8, rest7⟩
 · have hk10 := dn hd9
   rw [s_l5Fits_L1] at hF
   iterate 8 refine au ?_
   refine CdF ?_
   iterate 8 refine au ?_
   cases hF
   exact Er ()
 obtain ⟨hk10, hx11, hd12⟩ := drop_cons hd9
 rw [s_l5Fits_L1] at hF
 iterate 8 refine au ?_
 refine CdT ?_
 iterate 2 refine au ?_
 refine K_draw [0, 1, 2, 3, 4, 5, 6, 7, 8, 9, 10, 11, 12, 13] [0, 1, 0, 4, 0, 28, 60, 127, 255, 0, 0, 1536, 3584, 8191] [] mixed (by decide +kernel) ?_
 iterate 5 refine du ?_
 refine Di hx11 (fun k15 j16 => ?_)
 refine Dl ls3_0 ?_
 refine bnd hF fun x17 hx18 hF => ?_
 obtain ⟨hp19, hx20⟩ := ix_some hx18
 refine Di hx20 (fun k21 j22 => ?_)
 refine Dl ls3_0 ?_
 iterate 2 refine du ?_
 refine bnd hF fun x23 hx24 hF => ?_
 obtain ⟨hp25, hx26⟩ := ix_some hx24
 refine Di hx26 (fun k27 j28 => ?_)
 refine Dl ls3_0 ?_
 iterate 2 refine du ?_
 refine Ci hF (fun hb30 hF => ?_) (fun hb30 hF => ?_)
 · iterate 4 refine au ?_
   cases hF
   exact Er ()
 iterate 6 refine au ?_
 rw [wk k6]
 exact ⟨_, Nat.lt_succ_self _, _, k6 + 1, rest7, rfl, eqA, hd12, entA, hF⟩
def s_l5Matches_L1 (a_m : Method) (a_values : List Int) : List Fact → Nat → (List Fact) → Option ((List Fact))
 | [], k9, c3 => some c3
 | x11 :: rest10, k9, c3 => ((s_l5Fits a_m a_values x11).bind fun r23 =>
     if r23 then (
       (s_l2One x11.Rel x11.Values).bind fun r31 =>
       (app c3 ([r31] : List Fact)).bind fun z35 =>
       some z35)
     else (
       some c3)).bind fun o18 =>
   match o18 with
   | c39 => s_l5Matches_L1 a_m a_values rest10 (k9 + 1) c39
def s_l5Matches (a_m : Method) (a_values : List Int) (a_facts : List Fact) : Option ((List Fact)) :=
 s_l5Matches_L1 a_m a_values a_facts 0 ([] : List Fact)
theorem s_l5Matches_ok (a_m : Method) (v0_1 : Sv) (a_values : List Int) (v1_0 : Sv) (a_facts : List Fact) (v2_0 : Sv) (R : (List Fact)) (hF : s_l5Matches a_m a_values a_facts = some R) :
   Fw.Spec Tryz.prog 47 [(.agg [(.int .i64 a_m.Rel), v0_1.v, (.int .i64 a_m.Limit), (.int .i64 a_m.Cost), (.int .i64 a_m.Quota)].toArray), v1_0.v, v2_0.v] [crd (RdS 3 rdInt) v0_1.v a_m.Inputs, crd (RdS 3 rdInt) v1_0.v a_values, crd (RdS 86 rd86) v2_0.v a_facts] (fun p : Sv × List Nat => p.1.v) (fun p => [cown (OwnS 86 ow86) p.2 p.1.v R]) := by
 refine Se 38 Tryz.func47 [.tmp 6] ?_
 intro H0 F0
 unfold s_l5Matches at hF
 refine au ?_
 refine AbR (fun k1 => ?_)
 iterate 3 refine au ?_
 refine C_new rfl (N_buildSliceT (g := true) sl27.h ty86.h .nil (vs := []) rfl rfl rfl (by simp)) (fun k2 => ?_)
 refine Cv1 (.cons .h .nil) (own_lit (Ro := ow86) (E := 86) (F := []) (xs := ([] : List Fact)) MkL_nil rfl rfl) ?_
 iterate 6 refine au ?_
 refine CW_block (CW_loop (m := a_facts.length) (fun m7 f' cs' => ∃ (g : Fr) (k9 : Nat) (rest10 : List Fact) (c3 : List Fact) (v4 : Sv) (F5 : List Nat), m7 = rest10.length ∧ f' = updL g [(1, v1_0.v), (2, v2_0.v), (3, (pz k1)), (7, v4.v), (8, (.int .i64 (k9 : Int)))] ∧ List.drop k9 a_facts = rest10 ∧ Ent cs' [crd (RdS 3 rdInt) v1_0.v a_values, crd (RdS 86 rd86) v2_0.v a_facts, cboR k1 73 (.agg [(.int .i64 a_m.Rel), v0_1.v, (.int .i64 a_m.Limit), (.int .i64 a_m.Cost), (.int .i64 a_m.Quota)].toArray), crd (RdS 3 rdInt) v0_1.v a_m.Inputs, cown (OwnS 86 ow86) F5 v4.v c3] ∧ s_l5Matches_L1 a_m a_values rest10 k9 c3 = some R) ⟨_, 0, _, _, ⟨(some ⟨k2, 0, none⟩), 0, 1⟩, (k2 :: []), rfl, eqA, rfl, entA, hF⟩ ?_)
 rintro m7 _ _ ⟨g8, k9, rest10, c3, v4, F5, rfl, rfl, hd12, hE, hF⟩
 refine Kb hE a_facts (fun hbd17 => ?_)
 rcases rest10 with _ | ⟨x11, rest10⟩
 · have hk13 := dn hd12
   rw [s_l5Matches_L1] at hF
   iterate 7 refine au ?_
   refine CdF ?_
   iterate 9 refine au ?_
   cases hF
   exact Er (v4, F5)
 obtain ⟨hk13, hx14, hd15⟩ := drop_cons hd12
 rw [s_l5Matches_L1] at hF
 iterate 7 refine au ?_
 refine CdT ?_
 refine au ?_
 obtain ⟨o18, hio18, hO19⟩ := bind_some hF
 refine K_cut (fun f' cs' => ∃ (c39 : List Fact) (v40 : Sv) (F41 : List Nat) (g : Fr), c39 = o18 ∧ f' = updL g [(1, v1_0.v), (2, v2_0.v), (3, (pz k1)), (7, v40.v), (8, (.int .i64 (k9 : Int)))] ∧ Ent cs' [crd (RdS 3 rdInt) v1_0.v a_values, crd (RdS 86 rd86) v2_0.v a_facts, cboR k1 73 (.agg [(.int .i64 a_m.Rel), v0_1.v, (.int .i64 a_m.Limit), (.int .i64 a_m.Cost), (.int .i64 a_m.Quota)].toArray), crd (RdS 3 rdInt) v0_1.v a_m.Inputs, cown (OwnS 86 ow86) F41 v40.v c39]) ?_ ?_
 · replace hF := hio18
   refine CW_block (K_draw [0, 1, 2, 3, 4, 5, 6] [0, 0, 0, 0, 12, 28, 63] [6] mixed (by decide +kernel) ?_)
   iterate 4 refine du ?_
   refine Di hx14 (fun k20 j21 => ?_)
   refine DlA1 (ul86_0_86 x11) la86_0_86 (fun p22 => ?_)
   refine bnd hF fun r23 hx24 hF => Dx0 (s_l5Fits_ok _ _ _ _ _ _ _ hx24) (fun _ => ?_)
   refine du ?_
   refine Ci hF (fun hb38 hF => ?_) (fun hb38 hF => ?_)
   · refine CW_draw [0, 1, 2, 3, 4, 5, 6, 7, 8, 9, 10, 11, 12, 13, 14] [0, 0, 0, 6, 14, 30, 0, 0, 192, 448, 960, 2046, 4094, 8191, 16383] [11, 13] mixed (by decide +kernel) ?_
     iterate 3 refine du ?_
     refine Di hx14 (fun k26 j27 => ?_)
     refine du ?_
     refine Dl ls86_0 ?_
     iterate 2 refine du ?_
     refine Di hx14 (fun k28 j29 => ?_)
     refine du ?_
     refine D_ldV (R' := (RdS 3 rdInt)) ag24.h rfl .no (.tmp rfl rfl) rfl .h lv86_1 (fun w30 => ?_)
     refine bnd hF fun r31 hx32 hF => Dx1 (s_l2One_ok _ _ _ _ hx32) (fun p33 => ?_)
     refine D_new rfl .no rfl (fun ha => N_buildSliceT (g := true) (len := 1) (parts := [(0, .tmp 34)]) sl27.h ty86.h (.cons (EN ha (.tmp rfl rfl) rfl) .nil) (vs := [(.agg [(.int .i64 r31.Rel), p33.1.v].toArray)]) rfl rfl rfl (by intro v hv; simp at hv; rcases hv with rfl <;> rfl)) (fun k34 => ?_)
     refine Dv1 (.cons .h (.cons .h .nil)) (own_lit (Ro := ow86) (E := 86) (F := (p33.2 ++ [])) (xs := ([r31] : List Fact)) (MkL_cons mk86 MkL_nil apps) rfl rfl) ?_
     refine bnd hF fun z35 hx36 hF => D_act1 rfl rfl .no (.cons (.t (.t (.t (.t (.t (.t (.t (.t (.t (.t .h)))))))))) (.cons .h .nil)) (.dep rfl .nil) (fun ha => X_appendO (Ro := ow86) sl27.h ni27 ty86.h rfl rfl rfl (EN ha (.tmp rfl rfl) rfl) (EN ha (.tmp rfl rfl) rfl) hx36 src_own) (fun p37 => ?_)
     iterate 2 refine du ?_
     cases hF
     exact ⟨_, p37.1, p37.2, _, rfl, eqA, entA⟩
   refine au ?_
   cases hF
   exact ⟨_, v4, F5, _, rfl, eqA, entA⟩
 rintro _ _ ⟨c39, v40, F41, g43, rfl, rfl, hE⟩
 replace hF := hO19
 try dsimp only at hF
 refine K_ent hE ?_
 iterate 5 refine au ?_
 rw [wk k9]
 exact ⟨_, Nat.lt_succ_self _, _, k9 + 1, rest10, _, v40, F41, rfl, eqA, hd15, entA, hF⟩
def s_l8Step_L24 (x1188 : Fact) (r1200 : (List Fact)) : Nat → (List Int) → Int → Option ((List Fact) × (List Int))
 | 0, _, _ => none
 | m1231 + 1, c1227, c1230 => if (decide ((c1230 : Int) < (x1188.Values.length : Int))) then (
     (ix x1188.Values c1230).bind fun x1245 =>
     (s_l3Put c1227 x1245).bind fun r1251 =>
     s_l8Step_L24 x1188 r1200 m1231 r1251 (IntKind.i64.wrap (c1230 + 1)))
   else (
     some (r1200, c1227))
def s_l8Step_L21 (z986 : List Access) : List Fact → Nat → (List Fact) → (List Int) → Option ((List Fact) × (List Int) × (List Access))
 | [], k1186, c1177, c1180 => some (c1177, c1180, z986)
 | x1188 :: rest1187, k1186, c1177, c1180 => ((s_AddFact c1177 x1188).bind fun r1200 =>
     s_l8Step_L24 x1188 r1200 (((x1188.Values.length : Int) - 0).toNat + 2) c1180 0).bind fun o1195 =>
   match o1195 with
   | (c1255, c1258) => s_l8Step_L21 z986 rest1187 (k1186 + 1) c1255 c1258
def s_l8Step_L1 (a_l : List Method) (a_facts : List Fact) (a_r : Reached) (r3 : Reached) (r7 : (List Access)) : List Access → Nat → (List Fact) → (List Int) → (List Access) → Option (Reached × Bool)
 | [], k970, c958, c961, c964 => if (((r7.length : Int) : Int) == 0) then (
     some (({ Facts := c958, Values := c961, Log := c964, Rounds := r3.Rounds } : Reached), false))
   else (
     some (({ Facts := c958, Values := c961, Log := c964, Rounds := (IntKind.i64.wrap (a_r.Rounds + 1)) } : Reached), true))
 | x972 :: rest971, k970, c958, c961, c964 => ((app c964 ([x972] : List Access)).bind fun z986 =>
     (ix a_l x972.Method).bind fun x991 =>
     (s_l5Matches x991 x972.Values a_facts).bind fun r1001 =>
     s_l8Step_L21 z986 r1001 0 c958 c961).bind fun o980 =>
   match o980 with
   | (c1263, c1266, c1269) => s_l8Step_L1 a_l a_facts a_r r3 r7 rest971 (k970 + 1) c1263 c1266 c1269
def s_l8Step (a_l : List Method) (a_facts : List Fact) (a_r : Reached) : Option (Reached × Bool) :=
 (s_l8Copy a_r).bind fun r3 =>
 (s_l8Open a_l a_r).bind fun r7 =>
 s_l8Step_L1 a_l a_facts a_r r3 r7 r7 0 r3.Facts r3.Values r3.Log
theorem s_l8Step_ok (a_l : List Method) (v0_0 : Sv) (a_facts : List Fact) (v1_0 : Sv) (a_r : Reached) (v2_0 : Sv) (v2_1 : Sv) (v2_2 : Sv) (R : Reached × Bool) (hF : s_l8Step a_l a_facts a_r = some R) :
   Fw.Spec Tryz.prog 148 [v0_0.v, v1_0.v, (.agg [v2_0.v, v2_1.v, v2_2.v, (.int .i64 a_r.Rounds)].toArray)] [crd (RdS 73 rd73) v0_0.v a_l, crd (RdS 86 rd86) v1_0.v a_facts, crd (RdS 86 rd86) v2_0.v a_r.Facts, crd (RdS 3 rdInt) v2_1.v a_r.Values, crd (RdS 45 rd45) v2_2.v a_r.Log] (fun p : Sv × List Nat × Sv × List Nat × Sv => (.tuple [(.agg [p.1.v, p.2.2.1.v, p.2.2.2.2.v, (.int .i64 R.1.Rounds)].toArray), (.bool R.2)].toArray)) (fun p => [cown (OwnS 86 ow86) p.2.1 p.1.v R.1.Facts, cown (OwnS 3 (roE rdInt)) p.2.2.2.1 p.2.2.1.v R.1.Values, crd (RdS 45 rd45) p.2.2.2.2.v R.1.Log]) := by
 refine Se 94 Tryz.func148 [.cell 6 62, .tmp 7] ?_
 intro H0 F0
 unfold s_l8Step at hF
 refine au ?_
 refine AbR (fun k1 => ?_)
 refine AnW (fun k2 => ?_)
 iterate 4 refine au ?_
 refine bnd hF fun r3 hx4 hF => Cx3 (s_l8Copy_ok _ _ _ _ _ hx4) (fun p5 => ?_)
 refine AnW (fun k6 => ?_)
 refine As (.agg [p5.1.v, p5.2.2.1.v, p5.2.2.2.2.1.v, (.int .i64 r3.Rounds)].toArray) ?_
 iterate 4 refine au ?_
 refine bnd hF fun r7 hx8 hF => Cx1 (s_l8Open_ok _ _ _ _ _ _ _ hx8) (fun p9 => ?_)
 iterate 6 refine au ?_
 refine CW_block (K_frz .h frz_own ?_)
 refine CW_loop (m := r7.length) (fun m968 f' cs' => ∃ (g : Fr) (k970 : Nat) (rest971 : List Access) (c958 : List Fact) (c961 : List Int) (c964 : List Access) (v959 : Sv) (F960 : List Nat) (v962 : Sv) (F963 : List Nat) (v965 : Sv) (F966 : List Nat), m968 = rest971.length ∧ f' = updL g [(0, v0_0.v), (1, v1_0.v), (5, (pz k1)), (6, (pz k2)), (8, (pz k6)), (9, p9.1.v), (10, (.int .i64 (k970 : Int)))] ∧ List.drop k970 r7 = rest971 ∧ Ent cs' [crd (RdS 73 rd73) v0_0.v a_l, crd (RdS 86 rd86) v1_0.v a_facts, cboR k1 62 (.agg [v2_0.v, v2_1.v, v2_2.v, (.int .i64 a_r.Rounds)].toArray), crd (RdS 86 rd86) v2_0.v a_r.Facts, crd (RdS 3 rdInt) v2_1.v a_r.Values, crd (RdS 45 rd45) v2_2.v a_r.Log, cbox k2 62 (.agg [(.slice none 0 0), (.slice none 0 0), (.slice none 0 0), (.int .i64 0)].toArray), cbox k6 62 (.agg [v959.v, v962.v, v965.v, (.int .i64 r3.Rounds)].toArray), cown (OwnS 86 ow86) F960 v959.v c958, cown (OwnS 3 (roE rdInt)) F963 v962.v c961, cown (OwnS 45 (roE rd45)) F966 v965.v c964, crd (RdS 45 rd45) p9.1.v r7] ∧ s_l8Step_L1 a_l a_facts a_r r3 r7 rest971 k970 c958 c961 c964 = some R) ⟨_, 0, _, _, _, _, p5.1, p5.2.1, p5.2.2.1, p5.2.2.2.1, p5.2.2.2.2.1, (p5.2.2.2.2.2.take 1), rfl, eqA, rfl, (.half (.t (.t (.t (.t .h)))) entA), hF⟩ ?_
 rintro m968 _ _ ⟨g969, k970, rest971, c958, c961, c964, v959, F960, v962, F963, v965, F966, rfl, rfl, hd973, hE, hF⟩
 refine Kb hE r7 (fun hbd978 => ?_)
 rcases rest971 with _ | ⟨x972, rest971⟩
 · have hk974 := dn hd973
   rw [s_l8Step_L1] at hF
   iterate 7 refine au ?_
   refine CdF ?_
   iterate 10 refine au ?_
   refine Ci hF (fun hb979 hF => ?_) (fun hb979 hF => ?_)
   · iterate 2 refine au ?_
     refine As (.agg [v959.v, v962.v, v965.v, (.int .i64 r3.Rounds)].toArray) ?_
     iterate 3 refine au ?_
     cases hF
     exact End_ret (v959, F960, v962, F963, v965) (.cellA rfl rfl .h rfl ag62.h ty62.h.sz rfl rfl (.tmp rfl rfl .nil)) rfl (.frz (.t (.t (.t (.t (.t (.t (.t (.t (.t (.t .h)))))))))) frz_own (.sel (.cons (.t (.t (.t (.t (.t (.t (.t (.t (.t .h))))))))) (.cons (.t (.t (.t (.t (.t (.t (.t (.t (.t .h))))))))) (.rd .h rfl .nil)))))
   iterate 6 refine au ?_
   refine As (.agg [v959.v, v962.v, v965.v, (.int .i64 (IntKind.i64.wrap (a_r.Rounds + 1)))].toArray) ?_
   iterate 3 refine au ?_
   refine As (.agg [v959.v, v962.v, v965.v, (.int .i64 (IntKind.i64.wrap (a_r.Rounds + 1)))].toArray) ?_
   iterate 3 refine au ?_
   cases hF
   exact End_ret (v959, F960, v962, F963, v965) (.cellA rfl rfl .h rfl ag62.h ty62.h.sz rfl rfl (.tmp rfl rfl .nil)) rfl (.frz (.t (.t (.t (.t (.t (.t (.t (.t (.t (.t .h)))))))))) frz_own (.sel (.cons (.t (.t (.t (.t (.t (.t (.t (.t (.t .h))))))))) (.cons (.t (.t (.t (.t (.t (.t (.t (.t (.t .h))))))))) (.rd .h rfl .nil)))))
 obtain ⟨hk974, hx975, hd976⟩ := drop_cons hd973
 rw [s_l8Step_L1] at hF
 iterate 7 refine au ?_
 refine CdT ?_
 refine au ?_
 obtain ⟨o980, hio980, hO981⟩ := bind_some hF
 refine K_cut (fun f' cs' => ∃ (c1263 : List Fact) (c1266 : List Int) (c1269 : List Access) (v1264 : Sv) (F1265 : List Nat) (v1267 : Sv) (F1268 : List Nat) (v1270 : Sv) (F1271 : List Nat) (g : Fr), o980 = (c1263, c1266, c1269) ∧ f' = updL g [(0, v0_0.v), (1, v1_0.v), (5, (pz k1)), (6, (pz k2)), (8, (pz k6)), (9, p9.1.v), (10, (.int .i64 (k970 : Int)))] ∧ Ent cs' [crd (RdS 73 rd73) v0_0.v a_l, crd (RdS 86 rd86) v1_0.v a_facts, cboR k1 62 (.agg [v2_0.v, v2_1.v, v2_2.v, (.int .i64 a_r.Rounds)].toArray), crd (RdS 86 rd86) v2_0.v a_r.Facts, crd (RdS 3 rdInt) v2_1.v a_r.Values, crd (RdS 45 rd45) v2_2.v a_r.Log, cbox k2 62 (.agg [(.slice none 0 0), (.slice none 0 0), (.slice none 0 0), (.int .i64 0)].toArray), cbox k6 62 (.agg [v1264.v, v1267.v, v1270.v, (.int .i64 r3.Rounds)].toArray), cown (OwnS 86 ow86) F1265 v1264.v c1263, cown (OwnS 3 (roE rdInt)) F1268 v1267.v c1266, cown (OwnS 45 (roE rd45)) F1271 v1270.v c1269, crd (RdS 45 rd45) p9.1.v r7]) ?_ ?_
 · replace hF := hio980
   refine CW_block (K_draw [0, 1, 2, 3, 4, 5, 6, 7, 8, 9] [0, 1, 0, 0, 12, 28, 60, 127, 255, 511] [7, 9] mixed (by decide +kernel) ?_)
   refine du ?_
   refine D_atO rfl .no (.t (.t (.t (.t (.t (.t (.t .h))))))) (fun ha hp => V_load (v := v965.v) ag33.h (EN ha (.tmp rfl rfl) rfl) hp.2 rfl rfl) ?_
   iterate 2 refine du ?_
   refine Di hx975 (fun k982 j983 => ?_)
   refine DlA1 (ul45_0_45 x972) la45_0_45 (fun p984 => ?_)
   refine D_new rfl .no rfl (fun ha => N_buildSliceT (g := true) (len := 1) (parts := [(0, .tmp 30)]) sl33.h ty45.h (.cons (EN ha (.tmp rfl rfl) rfl) .nil) (vs := [(.agg [(.int .i64 x972.Method), p984.v].toArray)]) rfl rfl rfl (by intro v hv; simp at hv; rcases hv with rfl <;> rfl)) (fun k985 => ?_)
   refine Dv1 (.cons .h (.rd .h rfl .nil)) (own_lit (Ro := (roE rd45)) (E := 45) (F := ([] ++ [])) (xs := ([x972] : List Access)) (MkL_cons mr45 MkL_nil apps) rfl rfl) ?_
   refine bnd hF fun z986 hx987 hF => D_act1 rfl rfl .no (.cons (.t (.t (.t (.t (.t (.t (.t (.t (.t (.t (.t (.t (.t .h))))))))))))) (.cons .h .nil)) (.dep rfl (.dep rfl .nil)) (fun ha => X_appendO (Ro := (roE rd45)) sl33.h ni33 ty45.h rfl rfl rfl (EN ha (.tmp rfl rfl) rfl) (EN ha (.tmp rfl rfl) rfl) hx987 src_own) (fun p988 => ?_)
   refine du ?_
   refine D_act1 rfl rfl .no (.cons (.t (.t (.t (.t (.t (.t (.t (.t (.t (.t .h)))))))))) .nil) (.dep rfl (.dep rfl .nil)) (fun ha => X_storeB (e' := (.agg [v959.v, v962.v, p988.1.v, (.int .i64 r3.Rounds)].toArray)) ty33.h.sz (EN ha (.tmp rfl rfl) rfl) (EN ha (.tmp rfl rfl) rfl) rfl rfl rfl rfl rfl) (fun _ => ?_)
   refine du ?_
   refine K_draw [0, 1, 2, 3, 4, 5, 6, 7, 8, 9, 10, 11, 12, 13, 14, 15] [0, 0, 0, 6, 14, 30, 63, 127, 0, 0, 768, 1792, 3840, 0, 16383, 32767] [14] mixed (by decide +kernel) ?_
   iterate 3 refine du ?_
   refine Di hx975 (fun k989 j990 => ?_)
   refine du ?_
   refine Dl ls45_0 ?_
   refine bnd hF fun x991 hx992 hF => ?_
   obtain ⟨hp993, hx994⟩ := ix_some hx992
   refine Di hx994 (fun k995 j996 => ?_)
   refine DlA1 (ul73_0_73 x991) la73_0_73 (fun p997 => ?_)
   iterate 2 refine du ?_
   refine Di hx975 (fun k998 j999 => ?_)
   refine du ?_
   refine D_ldV (R' := (RdS 3 rdInt)) ag24.h rfl .no (.tmp rfl rfl) rfl .h lv45_1 (fun w1000 => ?_)
   refine du ?_
   refine bnd hF fun r1001 hx1002 hF => Dx1 (s_l5Matches_ok _ _ _ _ _ _ _ hx1002) (fun p1003 => ?_)
   iterate 2 refine du ?_
   iterate 3 refine au ?_
   refine CW_block (K_frz .h frz_own ?_)
   refine CW_loop (m := r1001.length) (fun m1184 f' cs' => ∃ (g : Fr) (k1186 : Nat) (rest1187 : List Fact) (c1177 : List Fact) (c1180 : List Int) (v1178 : Sv) (F1179 : List Nat) (v1181 : Sv) (F1182 : List Nat), m1184 = rest1187.length ∧ f' = updL g [(0, v0_0.v), (1, v1_0.v), (5, (pz k1)), (6, (pz k2)), (8, (pz k6)), (9, p9.1.v), (10, (.int .i64 (k970 : Int))), (11, p1003.1.v), (12, (.int .i64 (k1186 : Int)))] ∧ List.drop k1186 r1001 = rest1187 ∧ Ent cs' [crd (RdS 73 rd73) v0_0.v a_l, crd (RdS 86 rd86) v1_0.v a_facts, cboR k1 62 (.agg [v2_0.v, v2_1.v, v2_2.v, (.int .i64 a_r.Rounds)].toArray), crd (RdS 86 rd86) v2_0.v a_r.Facts, crd (RdS 3 rdInt) v2_1.v a_r.Values, crd (RdS 45 rd45) v2_2.v a_r.Log, cbox k2 62 (.agg [(.slice none 0 0), (.slice none 0 0), (.slice none 0 0), (.int .i64 0)].toArray), cbox k6 62 (.agg [v1178.v, v1181.v, p988.1.v, (.int .i64 r3.Rounds)].toArray), cown (OwnS 86 ow86) F1179 v1178.v c1177, cown (OwnS 3 (roE rdInt)) F1182 v1181.v c1180, cown (OwnS 45 (roE rd45)) p988.2 p988.1.v z986, crd (RdS 45 rd45) p9.1.v r7, crd (RdS 86 rd86) p1003.1.v r1001] ∧ s_l8Step_L21 z986 rest1187 k1186 c1177 c1180 = some o980) ⟨_, 0, _, _, _, v959, F960, v962, F963, rfl, eqA, rfl, entA, hF⟩ ?_
   rintro m1184 _ _ ⟨g1185, k1186, rest1187, c1177, c1180, v1178, F1179, v1181, F1182, rfl, rfl, hd1189, hE, hF⟩
   refine Kb hE r1001 (fun hbd1194 => ?_)
   rcases rest1187 with _ | ⟨x1188, rest1187⟩
   · have hk1190 := dn hd1189
     rw [s_l8Step_L21] at hF
     iterate 7 refine au ?_
     refine CdF ?_
     iterate 4 refine au ?_
     cases hF
     exact ⟨_, _, _, v1178, F1179, v1181, F1182, p988.1, p988.2, _, rfl, eqA, entA⟩
   obtain ⟨hk1190, hx1191, hd1192⟩ := drop_cons hd1189
   rw [s_l8Step_L21] at hF
   iterate 7 refine au ?_
   refine CdT ?_
   refine au ?_
   obtain ⟨o1195, hio1195, hO1196⟩ := bind_some hF
   refine K_cut (fun f' cs' => ∃ (c1255 : List Fact) (c1258 : List Int) (v1256 : Sv) (F1257 : List Nat) (v1259 : Sv) (F1260 : List Nat) (g : Fr), o1195 = (c1255, c1258) ∧ f' = updL g [(0, v0_0.v), (1, v1_0.v), (5, (pz k1)), (6, (pz k2)), (8, (pz k6)), (9, p9.1.v), (10, (.int .i64 (k970 : Int))), (11, p1003.1.v), (12, (.int .i64 (k1186 : Int)))] ∧ Ent cs' [crd (RdS 73 rd73) v0_0.v a_l, crd (RdS 86 rd86) v1_0.v a_facts, cboR k1 62 (.agg [v2_0.v, v2_1.v, v2_2.v, (.int .i64 a_r.Rounds)].toArray), crd (RdS 86 rd86) v2_0.v a_r.Facts, crd (RdS 3 rdInt) v2_1.v a_r.Values, crd (RdS 45 rd45) v2_2.v a_r.Log, cbox k2 62 (.agg [(.slice none 0 0), (.slice none 0 0), (.slice none 0 0), (.int .i64 0)].toArray), cbox k6 62 (.agg [v1256.v, v1259.v, p988.1.v, (.int .i64 r3.Rounds)].toArray), cown (OwnS 86 ow86) F1257 v1256.v c1255, cown (OwnS 3 (roE rdInt)) F1260 v1259.v c1258, cown (OwnS 45 (roE rd45)) p988.2 p988.1.v z986, crd (RdS 45 rd45) p9.1.v r7, crd (RdS 86 rd86) p1003.1.v r1001]) ?_ ?_
   · replace hF := hio1195
     refine CW_block (K_draw [0, 1, 2, 3, 4, 5, 6, 7, 8] [0, 1, 0, 0, 12, 28, 63, 127, 255] [6, 8] mixed (by decide +kernel) ?_)
     refine du ?_
     refine D_atO rfl .no (.t (.t (.t (.t (.t (.t (.t .h))))))) (fun ha hp => V_load (v := v1178.v) ag27.h (EN ha (.tmp rfl rfl) rfl) hp.2 rfl rfl) ?_
     iterate 2 refine du ?_
     refine Di hx1191 (fun k1197 j1198 => ?_)
     refine DlA1 (ul86_0_86 x1188) la86_0_86 (fun p1199 => ?_)
     refine bnd hF fun r1200 hx1201 hF => D_act2 rfl rfl .no (.cons (.t (.t (.t (.t (.t (.t (.t (.t (.t (.t .h)))))))))) (.rd .h rfl .nil)) (.dep rfl .nil) (fun ha => XC_bor frz_own (fun _ => (.cons .nil)) (X_callS cf123.h (.cons (EN ha (.tmp rfl rfl) rfl) (.cons (EN ha (.tmp rfl rfl) rfl) .nil)) (s_AddFact_ok c1177 v1178 x1188 p1199 _ hx1201))) (fun p1202 => ?_)
     refine du ?_
     refine D_act1 rfl rfl .no (.cons (.t (.t (.t (.t (.t (.t (.t (.t (.t (.t (.t .h))))))))))) .nil) (.dep rfl .nil) (fun ha => X_storeB (e' := (.agg [p1202.1.v, v1181.v, p988.1.v, (.int .i64 r3.Rounds)].toArray)) ty27.h.sz (EN ha (.tmp rfl rfl) rfl) (EN ha (.tmp rfl rfl) rfl) rfl rfl rfl rfl rfl) (fun _ => ?_)
     refine du ?_
     iterate 3 refine au ?_
     refine CW_block (CW_loop (m := (((x1188.Values.length : Int) - 0).toNat + 2)) (fun m1231 f' cs' => ∃ (g : Fr) (c1227 : List Int) (c1230 : Int) (v1228 : Sv) (F1229 : List Nat), f' = updL g [(0, v0_0.v), (1, v1_0.v), (5, (pz k1)), (6, (pz k2)), (8, (pz k6)), (9, p9.1.v), (10, (.int .i64 (k970 : Int))), (11, p1003.1.v), (12, (.int .i64 (k1186 : Int))), (13, (.int .i64 c1230))] ∧ Ent cs' [crd (RdS 73 rd73) v0_0.v a_l, crd (RdS 86 rd86) v1_0.v a_facts, cboR k1 62 (.agg [v2_0.v, v2_1.v, v2_2.v, (.int .i64 a_r.Rounds)].toArray), crd (RdS 86 rd86) v2_0.v a_r.Facts, crd (RdS 3 rdInt) v2_1.v a_r.Values, crd (RdS 45 rd45) v2_2.v a_r.Log, cbox k2 62 (.agg [(.slice none 0 0), (.slice none 0 0), (.slice none 0 0), (.int .i64 0)].toArray), cbox k6 62 (.agg [p1202.1.v, v1228.v, p988.1.v, (.int .i64 r3.Rounds)].toArray), cown (OwnS 86 ow86) p1202.2 p1202.1.v r1200, cown (OwnS 3 (roE rdInt)) F1229 v1228.v c1227, cown (OwnS 45 (roE rd45)) p988.2 p988.1.v z986, crd (RdS 45 rd45) p9.1.v r7, crd (RdS 86 rd86) p1003.1.v r1001] ∧ s_l8Step_L24 x1188 r1200 m1231 c1227 c1230 = some o1195) ⟨_, _, _, v1181, F1182, eqA, entA, hF⟩ ?_)
     rintro m1231 _ _ ⟨g1232, c1227, c1230, v1228, F1229, rfl, hE, hF⟩
     refine K_ent hE ?_
     rcases m1231 with _ | m1231
     · rw [s_l8Step_L24] at hF
       exact absurd hF (by simp)
     rw [s_l8Step_L24] at hF
     iterate 5 refine au ?_
     refine Ai hx1191 (fun k1239 j1240 => ?_)
     refine au ?_
     refine C_ldV (R' := (RdS 3 rdInt)) ag24.h (.tmp rfl rfl) .h lv86_1 (fun w1241 => ?_)
     iterate 3 refine au ?_
     refine Ci hF (fun hb1254 hF => ?_) (fun hb1254 hF => ?_)
     · iterate 2 refine au ?_
       refine CW_draw [0, 1, 2, 3, 4, 5, 6, 7, 8, 9, 10, 11, 12] [0, 1, 0, 0, 12, 28, 60, 0, 252, 508, 1023, 2047, 4095] [10, 12] mixed (by decide +kernel) ?_
       refine du ?_
       refine D_atO rfl .no (.t (.t (.t (.t (.t (.t (.t (.t (.t .h))))))))) (fun ha hp => V_load (v := v1228.v) ag24.h (EN ha (.tmp rfl rfl) rfl) hp.2 rfl rfl) ?_
       iterate 2 refine du ?_
       refine Di hx1191 (fun k1242 j1243 => ?_)
       refine du ?_
       refine D_ldV (R' := (RdS 3 rdInt)) ag24.h rfl .no (.tmp rfl rfl) rfl .h lv86_1 (fun w1244 => ?_)
       refine du ?_
       refine bnd hF fun x1245 hx1246 hF => ?_
       obtain ⟨hp1247, hx1248⟩ := ix_some hx1246
       refine Di hx1248 (fun k1249 j1250 => ?_)
       refine Dl ls3_0 ?_
       refine bnd hF fun r1251 hx1252 hF => Dx1 (s_l3Put_ok _ _ _ _ _ hx1252) (fun p1253 => ?_)
       refine du ?_
       refine D_act1 rfl rfl .no (.cons (.t (.t (.t (.t (.t (.t (.t (.t (.t (.t (.t (.t (.t .h))))))))))))) .nil) (.dep rfl .nil) (fun ha => X_storeB (e' := (.agg [p1202.1.v, p1253.1.v, p988.1.v, (.int .i64 r3.Rounds)].toArray)) ty24.h.sz (EN ha (.tmp rfl rfl) rfl) (EN ha (.tmp rfl rfl) rfl) rfl rfl rfl rfl rfl) (fun _ => ?_)
       refine du ?_
       iterate 5 refine au ?_
       exact ⟨m1231, Nat.lt_succ_self _, _, _, _, p1253.1, p1253.2, eqA, entA, hF⟩
     iterate 4 refine au ?_
     cases hF
     exact ⟨_, _, p1202.1, p1202.2, v1228, F1229, _, rfl, eqA, entA⟩
   rintro _ _ ⟨c1255, c1258, v1256, F1257, v1259, F1260, g1262, rfl, rfl, hE⟩
   replace hF := hO1196
   try dsimp only at hF
   refine K_ent hE ?_
   iterate 5 refine au ?_
   rw [wk k1186]
   exact ⟨_, Nat.lt_succ_self _, _, k1186 + 1, rest1187, _, _, v1256, F1257, v1259, F1260, rfl, eqA, hd1192, entA, hF⟩
 rintro _ _ ⟨c1263, c1266, c1269, v1264, F1265, v1267, F1268, v1270, F1271, g1273, rfl, rfl, hE⟩
 replace hF := hO981
 try dsimp only at hF
 refine K_ent hE ?_
 iterate 5 refine au ?_
 rw [wk k970]
 exact ⟨_, Nat.lt_succ_self _, _, k970 + 1, rest971, _, _, _, v1264, F1265, v1267, F1268, v1270, F1271, rfl, eqA, hd976, entA, hF⟩
def s_StepReach (a_s : List Int) (a_l : List Method) (a_facts : List Fact) (a_r : Reached) : Option (Reached × Bool) :=
 ((s_AreMethods a_s a_l).bind fun r5 =>
   bif (!r5) then (some true)
   else ((s_AreFacts a_s a_facts).bind fun r9 =>
     bif (!r9) then (some true)
     else ((s_l8Values a_r.Values).bind fun r13 =>
       bif (!r13) then (some true)
       else ((s_AreFacts a_s a_r.Facts).bind fun r17 =>
         bif (!r17) then (some true)
         else ((s_l1In a_r.Rounds 0 100).bind fun r21 =>
           some (!r21)))))).bind fun o3 =>
 match o3 with
 | c24 => if c24 then (
     (s_l8Copy a_r).bind fun r25 =>
     some (r25, false))
   else (
     (s_l8Step a_l a_facts a_r).bind fun r28 =>
     some (r28.1, r28.2))
theorem s_StepReach_ok (a_s : List Int) (v0_0 : Sv) (a_l : List Method) (v1_0 : Sv) (a_facts : List Fact) (v2_0 : Sv) (a_r : Reached) (v3_0 : Sv) (v3_1 : Sv) (v3_2 : Sv) (R : Reached × Bool) (hF : s_StepReach a_s a_l a_facts a_r = some R) :
   Fw.Spec Tryz.prog 84 [v0_0.v, v1_0.v, v2_0.v, (.agg [v3_0.v, v3_1.v, v3_2.v, (.int .i64 a_r.Rounds)].toArray)] [crd (RdS 3 rdInt) v0_0.v a_s, crd (RdS 73 rd73) v1_0.v a_l, crd (RdS 86 rd86) v2_0.v a_facts, crd (RdS 86 rd86) v3_0.v a_r.Facts, crd (RdS 3 rdInt) v3_1.v a_r.Values, crd (RdS 45 rd45) v3_2.v a_r.Log] (fun p : Sv × List Nat × Sv × List Nat × Sv => (.tuple [(.agg [p.1.v, p.2.2.1.v, p.2.2.2.2.v, (.int .i64 R.1.Rounds)].toArray), (.bool R.2)].toArray)) (fun p => [cown (OwnS 86 ow86) p.2.1 p.1.v R.1.Facts, cown (OwnS 3 (roE rdInt)) p.2.2.2.1 p.2.2.1.v R.1.Values, crd (RdS 45 rd45) p.2.2.2.2.v R.1.Log]) := by
 refine Se 52 Tryz.func84 [.cell 8 62, .tmp 9] ?_
 intro H0 F0
 unfold s_StepReach at hF
 refine au ?_
 refine AbR (fun k1 => ?_)
 refine AnW (fun k2 => ?_)
 iterate 3 refine au ?_
 obtain ⟨o3, hio3, hO4⟩ := bind_some hF
 refine au ?_
 refine C_cut (fun f' cs' => ∃ (c24 : Bool) (g : Fr), c24 = o3 ∧ f' = updL g [(1, v1_0.v), (2, v2_0.v), (7, (pz k1)), (8, (pz k2)), (40, (.bool c24))] ∧ Ent cs' [crd (RdS 73 rd73) v1_0.v a_l, crd (RdS 86 rd86) v2_0.v a_facts, cboR k1 62 (.agg [v3_0.v, v3_1.v, v3_2.v, (.int .i64 a_r.Rounds)].toArray), crd (RdS 86 rd86) v3_0.v a_r.Facts, crd (RdS 3 rdInt) v3_1.v a_r.Values, crd (RdS 45 rd45) v3_2.v a_r.Log, cbox k2 62 (.agg [(.slice none 0 0), (.slice none 0 0), (.slice none 0 0), (.int .i64 0)].toArray)]) ?_ ?_
 · replace hF := hio3
   iterate 2 refine au ?_
   refine bnd hF fun r5 hx6 hF => Cx0 (s_AreMethods_ok _ _ _ _ _ hx6) (fun _ => ?_)
   iterate 2 refine au ?_
   rcases Bool.eq_false_or_eq_true (!r5) with hg8 | hg8
   · rw [hg8]
     try rw [hg8] at hF; dsimp only [cond_true, cond_false] at hF
     iterate 25 refine au ?_
     cases hF
     exact ⟨_, _, rfl, eqA, entA⟩
   rw [hg8]
   try rw [hg8] at hF; dsimp only [cond_true, cond_false] at hF
   iterate 5 refine au ?_
   refine bnd hF fun r9 hx10 hF => Cx0 (s_AreFacts_ok _ _ _ _ _ hx10) (fun _ => ?_)
   iterate 4 refine au ?_
   rcases Bool.eq_false_or_eq_true (!r9) with hg12 | hg12
   · rw [hg12]
     try rw [hg12] at hF; dsimp only [cond_true, cond_false] at hF
     iterate 19 refine au ?_
     cases hF
     exact ⟨_, _, rfl, eqA, entA⟩
   rw [hg12]
   try rw [hg12] at hF; dsimp only [cond_true, cond_false] at hF
   iterate 5 refine au ?_
   refine bnd hF fun r13 hx14 hF => Cx0 (s_l8Values_ok _ _ _ hx14) (fun _ => ?_)
   iterate 4 refine au ?_
   rcases Bool.eq_false_or_eq_true (!r13) with hg16 | hg16
   · rw [hg16]
     try rw [hg16] at hF; dsimp only [cond_true, cond_false] at hF
     iterate 13 refine au ?_
     cases hF
     exact ⟨_, _, rfl, eqA, entA⟩
   rw [hg16]
   try rw [hg16] at hF; dsimp only [cond_true, cond_false] at hF
   iterate 7 refine au ?_
   refine bnd hF fun r17 hx18 hF => Cx0 (s_AreFacts_ok _ _ _ _ _ hx18) (fun _ => ?_)
   iterate 4 refine au ?_
   rcases Bool.eq_false_or_eq_true (!r17) with hg20 | hg20
   · rw [hg20]
     try rw [hg20] at hF; dsimp only [cond_true, cond_false] at hF
     iterate 6 refine au ?_
     cases hF
     exact ⟨_, _, rfl, eqA, entA⟩
   rw [hg20]
   try rw [hg20] at hF; dsimp only [cond_true, cond_false] at hF
   iterate 5 refine au ?_
   refine bnd hF fun r21 hx22 hF => Cx0 (s_l1In_ok _ _ _ _ hx22) (fun _ => ?_)
   iterate 4 refine au ?_
   cases hF
   exact ⟨_, _, rfl, eqA, entA⟩
 rintro _ _ ⟨c24, g33, rfl, rfl, hE⟩
 replace hF := hO4
 try dsimp only at hF
 refine K_ent hE ?_
 refine Ci hF (fun hb32 hF => ?_) (fun hb32 hF => ?_)
 · iterate 2 refine au ?_
   refine bnd hF fun r25 hx26 hF => Cx3 (s_l8Copy_ok _ _ _ _ _ hx26) (fun p27 => ?_)
   refine As (.agg [p27.1.v, p27.2.2.1.v, p27.2.2.2.2.1.v, (.int .i64 r25.Rounds)].toArray) ?_
   iterate 3 refine au ?_
   cases hF
   exact End_ret (p27.1, p27.2.1, p27.2.2.1, p27.2.2.2.1, p27.2.2.2.2.1) (.cellA rfl rfl .h rfl ag62.h ty62.h.sz rfl rfl (.tmp rfl rfl .nil)) rfl (.frz (.t (.t (.t .h))) frz_own (.sel (.cons (.t (.t .h)) (.cons (.t (.t .h)) (.rd .h rfl .nil)))))
 iterate 5 refine au ?_
 refine bnd hF fun r28 hx29 hF => Cx3 (s_l8Step_ok _ _ _ _ _ _ _ _ _ hx29) (fun p30 => ?_)
 refine au ?_
 refine C_val (V_extract (l := [(.agg [p30.1.v, p30.2.2.1.v, p30.2.2.2.2.v, (.int .i64 r28.1.Rounds)].toArray), (.bool r28.2)]) (v := (.agg [p30.1.v, p30.2.2.1.v, p30.2.2.2.2.v, (.int .i64 r28.1.Rounds)].toArray)) (.tmp rfl rfl) rfl) ?_
 refine C_val (V_extract (l := [(.agg [p30.1.v, p30.2.2.1.v, p30.2.2.2.2.v, (.int .i64 r28.1.Rounds)].toArray), (.bool r28.2)]) (v := (.bool r28.2)) (.tmp rfl rfl) rfl) ?_
 refine AnW (fun k31 => ?_)
 refine As (.agg [p30.1.v, p30.2.2.1.v, p30.2.2.2.2.v, (.int .i64 r28.1.Rounds)].toArray) ?_
 iterate 5 refine au ?_
 refine As (.agg [p30.1.v, p30.2.2.1.v, p30.2.2.2.2.v, (.int .i64 r28.1.Rounds)].toArray) ?_
 iterate 3 refine au ?_
 cases hF
 exact End_ret (p30.1, p30.2.1, p30.2.2.1, p30.2.2.2.1, p30.2.2.2.2) (.cellA rfl rfl .h rfl ag62.h ty62.h.sz rfl rfl (.tmp rfl rfl .nil)) rfl (.sel (.cons (.t (.t .h)) (.cons (.t (.t .h)) (.rd (.t (.t .h)) rfl .nil))))
def s_ReachAll_L1 (a_s : List Int) (a_l : List Method) (a_facts : List Fact) : Nat → (List Fact) → (List Int) → (List Access) → Int → Int → Option (Reached)
 | 0, _, _, _, _, _ => none
 | m52 + 1, c42, c45, c48, c50, c51 => if (decide ((c51 : Int) < 40)) then (
     (s_StepReach a_s a_l a_facts ({ Facts := c42, Values := c45, Log := c48, Rounds := c50 } : Reached)).bind fun r60 =>
     if (!r60.2) then (
       some ({ Facts := c42, Values := c45, Log := c48, Rounds := c50 } : Reached))
     else (
       s_ReachAll_L1 a_s a_l a_facts m52 r60.1.Facts r60.1.Values r60.1.Log r60.1.Rounds (IntKind.i64.wrap (c51 + 1))))
   else (
     some ({ Facts := c42, Values := c45, Log := c48, Rounds := c50 } : Reached))
def s_ReachAll (a_s : List Int) (a_l : List Method) (a_facts : List Fact) (a_seeds : List Int) : Option (Reached) :=
 (s_StartReach a_seeds).bind fun r2 =>
 s_ReachAll_L1 a_s a_l a_facts (((40 : Int) - 0).toNat + 2) r2.Facts r2.Values r2.Log r2.Rounds 0
theorem s_ReachAll_ok (a_s : List Int) (v0_0 : Sv) (a_l : List Method) (v1_0 : Sv) (a_facts : List Fact) (v2_0 : Sv) (a_seeds : List Int) (v3_0 : Sv) (R : Reached) (hF : s_ReachAll a_s a_l a_facts a_seeds = some R) :
   Fw.Spec Tryz.prog 35 [v0_0.v, v1_0.v, v2_0.v, v3_0.v] [crd (RdS 3 rdInt) v0_0.v a_s, crd (RdS 73 rd73) v1_0.v a_l, crd (RdS 86 rd86) v2_0.v a_facts, crd (RdS 3 rdInt) v3_0.v a_seeds] (fun p : Sv × Sv × Sv => (.agg [p.1.v, p.2.1.v, p.2.2.v, (.int .i64 R.Rounds)].toArray)) (fun p => [crd (RdS 86 rd86) p.1.v R.Facts, crd (RdS 3 rdInt) p.2.1.v R.Values, crd (RdS 45 rd45) p.2.2.v R.Log]) := by
 refine Se 32 Tryz.func35 [.cell 8 62] ?_
 intro H0 F0
 unfold s_ReachAll at hF
 refine au ?_
 refine AnW (fun k1 => ?_)
 iterate 3 refine au ?_
 refine bnd hF fun r2 hx3 hF => Cx3 (s_StartReach_ok _ _ _ hx3) (fun p4 => ?_)
 refine AnW (fun k5 => ?_)
 refine As (.agg [p4.1.v, p4.2.2.1.v, p4.2.2.2.2.1.v, (.int .i64 r2.Rounds)].toArray) ?_
 iterate 5 refine au ?_
 refine CW_block (CW_loop (m := (((40 : Int) - 0).toNat + 2)) (fun m52 f' cs' => ∃ (g : Fr) (c42 : List Fact) (c45 : List Int) (c48 : List Access) (c50 : Int) (c51 : Int) (v43 : Sv) (F44 : List Nat) (v46 : Sv) (F47 : List Nat) (v49 : Sv), f' = updL g [(0, v0_0.v), (1, v1_0.v), (2, v2_0.v), (8, (pz k1)), (9, (pz k5)), (10, (.int .i64 c51))] ∧ Ent cs' [crd (RdS 3 rdInt) v0_0.v a_s, crd (RdS 73 rd73) v1_0.v a_l, crd (RdS 86 rd86) v2_0.v a_facts, cbox k1 62 (.agg [(.slice none 0 0), (.slice none 0 0), (.slice none 0 0), (.int .i64 0)].toArray), cbox k5 62 (.agg [v43.v, v46.v, v49.v, (.int .i64 c50)].toArray), cown (OwnS 86 ow86) F44 v43.v c42, cown (OwnS 3 (roE rdInt)) F47 v46.v c45, crd (RdS 45 rd45) v49.v c48] ∧ s_ReachAll_L1 a_s a_l a_facts m52 c42 c45 c48 c50 c51 = some R) ⟨_, _, _, _, _, _, p4.1, p4.2.1, p4.2.2.1, p4.2.2.2.1, p4.2.2.2.2.1, eqA, (.frz (.t (.t (.t .h))) frz_own entA), hF⟩ ?_)
 rintro m52 _ _ ⟨g53, c42, c45, c48, c50, c51, v43, F44, v46, F47, v49, rfl, hE, hF⟩
 refine K_ent hE ?_
 rcases m52 with _ | m52
 · rw [s_ReachAll_L1] at hF
   exact absurd hF (by simp)
 rw [s_ReachAll_L1] at hF
 iterate 5 refine au ?_
 refine Ci hF (fun hb65 hF => ?_) (fun hb65 hF => ?_)
 · iterate 2 refine au ?_
   refine K_frz (.t (.t (.t (.t (.t .h))))) frz_own ?_
   refine K_frz (.t (.t (.t (.t (.t (.t .h)))))) frz_own ?_
   iterate 5 refine au ?_
   refine bnd hF fun r60 hx61 hF => Cx3 (s_StepReach_ok _ _ _ _ _ _ _ _ _ _ _ hx61) (fun p62 => ?_)
   refine au ?_
   refine C_val (V_extract (l := [(.agg [p62.1.v, p62.2.2.1.v, p62.2.2.2.2.v, (.int .i64 r60.1.Rounds)].toArray), (.bool r60.2)]) (v := (.agg [p62.1.v, p62.2.2.1.v, p62.2.2.2.2.v, (.int .i64 r60.1.Rounds)].toArray)) (.tmp rfl rfl) rfl) ?_
   refine C_val (V_extract (l := [(.agg [p62.1.v, p62.2.2.1.v, p62.2.2.2.2.v, (.int .i64 r60.1.Rounds)].toArray), (.bool r60.2)]) (v := (.bool r60.2)) (.tmp rfl rfl) rfl) ?_
   refine AnW (fun k63 => ?_)
   refine As (.agg [p62.1.v, p62.2.2.1.v, p62.2.2.2.2.v, (.int .i64 r60.1.Rounds)].toArray) ?_
   iterate 7 refine au ?_
   refine Ci hF (fun hb64 hF => ?_) (fun hb64 hF => ?_)
   · iterate 2 refine au ?_
     refine As (.agg [v43.v, v46.v, v49.v, (.int .i64 c50)].toArray) ?_
     iterate 2 refine au ?_
     cases hF
     exact Er (v43, v46, v49)
   iterate 3 refine au ?_
   refine As (.agg [p62.1.v, p62.2.2.1.v, p62.2.2.2.2.v, (.int .i64 r60.1.Rounds)].toArray) ?_
   iterate 6 refine au ?_
   exact ⟨m52, Nat.lt_succ_self _, _, _, _, _, _, _, p62.1, p62.2.1, p62.2.2.1, p62.2.2.2.1, p62.2.2.2.2, eqA, entA, hF⟩
 iterate 6 refine au ?_
 refine As (.agg [v43.v, v46.v, v49.v, (.int .i64 c50)].toArray) ?_
 iterate 2 refine au ?_
 cases hF
 exact End_ret (v43, v46, v49) (.cellA rfl rfl .h rfl ag62.h ty62.h.sz rfl rfl .nil) rfl (.frz (.t (.t (.t (.t (.t .h))))) frz_own (.frz (.t (.t (.t (.t (.t (.t .h)))))) frz_own (.sel (.rd (.t .h) rfl (.rd .h rfl (.rd (.t (.t (.t (.t (.t (.t (.t .h))))))) rfl .nil))))))
def s_l4Copy (a_b : Binding) : Option (Binding) :=
 (app ([] : List Int) a_b.Vars).bind fun z5 =>
 (app ([] : List Int) a_b.Values).bind fun z8 =>
 some ({ Vars := z5, Values := z8 } : Binding)
theorem s_l4Copy_ok (a_b : Binding) (v0_0 : Sv) (v0_1 : Sv) (R : Binding) (hF : s_l4Copy a_b = some R) :
   Fw.Spec Tryz.prog 246 [(.agg [v0_0.v, v0_1.v].toArray)] [crd (RdS 3 rdInt) v0_0.v a_b.Vars, crd (RdS 3 rdInt) v0_1.v a_b.Values] (fun p : Sv × List Nat × Sv × List Nat => (.agg [p.1.v, p.2.2.1.v].toArray)) (fun p => [cown (OwnS 3 (roE rdInt)) p.2.1 p.1.v R.Vars, cown (OwnS 3 (roE rdInt)) p.2.2.2 p.2.2.1.v R.Values]) := by
 refine Se 12 Tryz.func246 [.cell 2 147] ?_
 intro H0 F0
 unfold s_l4Copy at hF
 refine au ?_
 refine AbR (fun k1 => ?_)
 refine AnW (fun k2 => ?_)
 refine au ?_
 refine K_draw [0, 1, 2, 4, 5, 6, 3, 7, 8, 9] [0, 0, 2, 7, 0, 0, 32, 127, 255, 511] [3, 7, 9] mixed (by decide +kernel) ?_
 refine D_new rfl .no rfl (fun ha => N_buildSliceT (g := true) (len := 0) (parts := []) sl24.h ty3.h .nil (vs := []) rfl rfl rfl (by simp)) (fun k3 => ?_)
 refine Dv1 (.cons .h .nil) (own_lit (Ro := (roE rdInt)) (E := 3) (F := []) (xs := ([] : List Int)) MkL_nil rfl rfl) ?_
 iterate 2 refine du ?_
 refine D_new rfl .no rfl (fun ha => N_buildSliceT (g := true) (len := 0) (parts := []) sl24.h ty3.h .nil (vs := []) rfl rfl rfl (by simp)) (fun k4 => ?_)
 refine Dv1 (.cons .h .nil) (own_lit (Ro := (roE rdInt)) (E := 3) (F := []) (xs := ([] : List Int)) MkL_nil rfl rfl) ?_
 iterate 2 refine du ?_
 refine bnd hF fun z5 hx6 hF => D_act1 rfl rfl .no (.cons (.t .h) (.rd (.t (.t (.t .h))) rfl .nil)) (.own .h (by simp [cown]) (.dep rfl .nil)) (fun ha => X_appendO (Ro := (roE rdInt)) sl24.h ni24 ty3.h rfl rfl rfl (EN ha (.tmp rfl rfl) rfl) (EN ha (.tmp rfl rfl) rfl) hx6 src_rd) (fun p7 => ?_)
 refine bnd hF fun z8 hx9 hF => D_act1 rfl rfl .no (.cons (.t .h) (.rd (.t (.t (.t (.t .h)))) rfl .nil)) (.dep rfl (.dep rfl .nil)) (fun ha => X_appendO (Ro := (roE rdInt)) sl24.h ni24 ty3.h rfl rfl rfl (EN ha (.tmp rfl rfl) rfl) (EN ha (.tmp rfl rfl) rfl) hx9 src_rd) (fun p10 => ?_)
 refine D_val rfl .no (fun ha => V_build ty147.h rfl (vs := [p7.1.v, p10.1.v]) (.cons (EN ha (.tmp rfl rfl) rfl) (.cons (EN ha (.tmp rfl rfl) rfl) .nil)) (cells := [p7.1.v, p10.1.v]) rfl) ?_
 refine D_act1 rfl rfl .no (.cons (.t (.t .h)) .nil) (.dep rfl (.dep rfl .nil)) (fun ha => X_storeB (e' := (.agg [p7.1.v, p10.1.v].toArray)) (v := (.agg [p7.1.v, p10.1.v].toArray)) ty147.h.sz (EN ha (.tmp rfl rfl) rfl) (EN ha (.tmp rfl rfl) rfl) rfl rfl rfl rfl rfl) (fun _ => ?_)
 refine du ?_
 refine au ?_
 cases hF
 exact Er (p7.1, p7.2, p10.1, p10.2)
def s_ValueOf_L1 (a_b : Binding) (a_term : Int) : Nat → Int → Option (Int)
 | 0, _ => none
 | m6 + 1, c5 => if ((decide ((c5 : Int) < (a_b.Vars.length : Int))) && (decide ((c5 : Int) < (a_b.Values.length : Int)))) then (
     (ix a_b.Vars c5).bind fun x16 =>
     if ((x16 : Int) == a_term) then (
       (ix a_b.Values c5).bind fun x22 =>
       some x22)
     else (
       s_ValueOf_L1 a_b a_term m6 (IntKind.i64.wrap (c5 + 1))))
   else (
     some (-1))
def s_ValueOf (a_b : Binding) (a_term : Int) : Option (Int) :=
 (s_IsVar a_term).bind fun r2 =>
 if (!r2) then (
   some a_term)
 else (
   s_ValueOf_L1 a_b a_term (((a_b.Vars.length : Int) - 0).toNat + 2) 0)
theorem s_ValueOf_ok (a_b : Binding) (v0_0 : Sv) (v0_1 : Sv) (a_term : Int) (R : Int) (hF : s_ValueOf a_b a_term = some R) :
   Fw.Spec Tryz.prog 143 [(.agg [v0_0.v, v0_1.v].toArray), (.int .i64 a_term)] [crd (RdS 3 rdInt) v0_0.v a_b.Vars, crd (RdS 3 rdInt) v0_1.v a_b.Values] (fun _ : Unit => (.int .i64 R)) (fun _ => []) := by
 refine Se 36 Tryz.func143 [.tmp 4] ?_
 intro H0 F0
 unfold s_ValueOf at hF
 refine au ?_
 refine AbR (fun k1 => ?_)
 iterate 5 refine au ?_
 refine bnd hF fun r2 hx3 hF => Cx0 (s_IsVar_ok _ _ hx3) (fun _ => ?_)
 iterate 2 refine au ?_
 refine Ci hF (fun hb30 hF => ?_) (fun hb30 hF => ?_)
 · iterate 5 refine au ?_
   cases hF
   exact Er ()
 iterate 5 refine au ?_
 refine CW_block (CW_loop (m := (((a_b.Vars.length : Int) - 0).toNat + 2)) (fun m6 f' cs' => ∃ (g : Fr) (c5 : Int), f' = updL g [(1, (.int .i64 a_term)), (2, (pz k1)), (5, (.int .i64 c5))] ∧ Ent cs' [cboR k1 147 (.agg [v0_0.v, v0_1.v].toArray), crd (RdS 3 rdInt) v0_0.v a_b.Vars, crd (RdS 3 rdInt) v0_1.v a_b.Values] ∧ s_ValueOf_L1 a_b a_term m6 c5 = some R) ⟨_, _, eqA, entA, hF⟩ ?_)
 rintro m6 _ _ ⟨g7, c5, rfl, hE, hF⟩
 refine K_ent hE ?_
 rcases m6 with _ | m6
 · rw [s_ValueOf_L1] at hF
   exact absurd hF (by simp)
 rw [s_ValueOf_L1] at hF
 iterate 2 refine au ?_
 refine C_cut (fun f' cs' => ∃ (g : Fr), f' = updL g [(1, (.int .i64 a_term)), (2, (pz k1)), (5, (.int .i64 c5)), (21, (.bool ((decide ((c5 : Int) < (a_b.Vars.length : Int))) && (decide ((c5 : Int) < (a_b.Values.length : Int))))))] ∧ Ent cs' [cboR k1 147 (.agg [v0_0.v, v0_1.v].toArray), crd (RdS 3 rdInt) v0_0.v a_b.Vars, crd (RdS 3 rdInt) v0_1.v a_b.Values]) ?_ ?_
 · iterate 6 refine au ?_
   rcases Bool.eq_false_or_eq_true (decide ((c5 : Int) < (a_b.Vars.length : Int))) with hg14 | hg14
   · rw [hg14]
     try rw [hg14] at hF; dsimp only [cond_true, cond_false] at hF
     iterate 12 refine au ?_
     exact ⟨_, eqA, entA⟩
   rw [hg14]
   try rw [hg14] at hF; dsimp only [cond_true, cond_false] at hF
   iterate 7 refine au ?_
   exact ⟨_, eqA, entA⟩
 rintro _ _ ⟨g15, rfl, hE⟩
 refine K_ent hE ?_
 refine Ci hF (fun hb29 hF => ?_) (fun hb29 hF => ?_)
 · iterate 6 refine au ?_
   refine bnd hF fun x16 hx17 hF => ?_
   obtain ⟨hp18, hx19⟩ := ix_some hx17
   refine Ai hx19 (fun k20 j21 => ?_)
   refine Al ls3_0 ?_
   iterate 3 refine au ?_
   refine Ci hF (fun hb28 hF => ?_) (fun hb28 hF => ?_)
   · iterate 4 refine au ?_
     refine bnd hF fun x22 hx23 hF => ?_
     obtain ⟨hp24, hx25⟩ := ix_some hx23
     refine Ai hx25 (fun k26 j27 => ?_)
     refine Al ls3_0 ?_
     iterate 3 refine au ?_
     cases hF
     exact Er ()
   iterate 6 refine au ?_
   exact ⟨m6, Nat.lt_succ_self _, _, _, eqA, entA, hF⟩
 iterate 8 refine au ?_
 cases hF
 exact Er ()
def s_l4Bound_L1 (a_b : Binding) (a_v : Int) : Nat → Int → Option (Bool)
 | 0, _ => none
 | m3 + 1, c2 => if ((decide ((c2 : Int) < (a_b.Vars.length : Int))) && (decide ((c2 : Int) < (a_b.Values.length : Int)))) then (
     (ix a_b.Vars c2).bind fun x13 =>
     if ((x13 : Int) == a_v) then (
       some true)
     else (
       s_l4Bound_L1 a_b a_v m3 (IntKind.i64.wrap (c2 + 1))))
   else (
     some false)
def s_l4Bound (a_b : Binding) (a_v : Int) : Option (Bool) :=
 s_l4Bound_L1 a_b a_v (((a_b.Vars.length : Int) - 0).toNat + 2) 0
theorem s_l4Bound_ok (a_b : Binding) (v0_0 : Sv) (v0_1 : Sv) (a_v : Int) (R : Bool) (hF : s_l4Bound a_b a_v = some R) :
   Fw.Spec Tryz.prog 247 [(.agg [v0_0.v, v0_1.v].toArray), (.int .i64 a_v)] [crd (RdS 3 rdInt) v0_0.v a_b.Vars, crd (RdS 3 rdInt) v0_1.v a_b.Values] (fun _ : Unit => (.bool R)) (fun _ => []) := by
 refine Se 27 Tryz.func247 [.tmp 4] ?_
 intro H0 F0
 unfold s_l4Bound at hF
 refine au ?_
 refine AbR (fun k1 => ?_)
 iterate 6 refine au ?_
 refine CW_block (CW_loop (m := (((a_b.Vars.length : Int) - 0).toNat + 2)) (fun m3 f' cs' => ∃ (g : Fr) (c2 : Int), f' = updL g [(1, (.int .i64 a_v)), (2, (pz k1)), (5, (.int .i64 c2))] ∧ Ent cs' [cboR k1 147 (.agg [v0_0.v, v0_1.v].toArray), crd (RdS 3 rdInt) v0_0.v a_b.Vars, crd (RdS 3 rdInt) v0_1.v a_b.Values] ∧ s_l4Bound_L1 a_b a_v m3 c2 = some R) ⟨_, _, eqA, entA, hF⟩ ?_)
 rintro m3 _ _ ⟨g4, c2, rfl, hE, hF⟩
 refine K_ent hE ?_
 rcases m3 with _ | m3
 · rw [s_l4Bound_L1] at hF
   exact absurd hF (by simp)
 rw [s_l4Bound_L1] at hF
 iterate 2 refine au ?_
 refine C_cut (fun f' cs' => ∃ (g : Fr), f' = updL g [(1, (.int .i64 a_v)), (2, (pz k1)), (5, (.int .i64 c2)), (17, (.bool ((decide ((c2 : Int) < (a_b.Vars.length : Int))) && (decide ((c2 : Int) < (a_b.Values.length : Int))))))] ∧ Ent cs' [cboR k1 147 (.agg [v0_0.v, v0_1.v].toArray), crd (RdS 3 rdInt) v0_0.v a_b.Vars, crd (RdS 3 rdInt) v0_1.v a_b.Values]) ?_ ?_
 · iterate 6 refine au ?_
   rcases Bool.eq_false_or_eq_true (decide ((c2 : Int) < (a_b.Vars.length : Int))) with hg11 | hg11
   · rw [hg11]
     try rw [hg11] at hF; dsimp only [cond_true, cond_false] at hF
     iterate 12 refine au ?_
     exact ⟨_, eqA, entA⟩
   rw [hg11]
   try rw [hg11] at hF; dsimp only [cond_true, cond_false] at hF
   iterate 7 refine au ?_
   exact ⟨_, eqA, entA⟩
 rintro _ _ ⟨g12, rfl, hE⟩
 refine K_ent hE ?_
 refine Ci hF (fun hb20 hF => ?_) (fun hb20 hF => ?_)
 · iterate 6 refine au ?_
   refine bnd hF fun x13 hx14 hF => ?_
   obtain ⟨hp15, hx16⟩ := ix_some hx14
   refine Ai hx16 (fun k17 j18 => ?_)
   refine Al ls3_0 ?_
   iterate 3 refine au ?_
   refine Ci hF (fun hb19 hF => ?_) (fun hb19 hF => ?_)
   · iterate 4 refine au ?_
     cases hF
     exact Er ()
   iterate 6 refine au ?_
   exact ⟨m3, Nat.lt_succ_self _, _, _, eqA, entA, hF⟩
 iterate 8 refine au ?_
 cases hF
 exact Er ()
def s_l4Bind (a_b : Binding) (a_v : Int) (a_x : Int) : Option (Binding) :=
 (app ([] : List Int) a_b.Vars).bind fun z7 =>
 (app z7 ([a_v] : List Int)).bind fun z10 =>
 (app ([] : List Int) a_b.Values).bind fun z13 =>
 (app z13 ([a_x] : List Int)).bind fun z16 =>
 some ({ Vars := z10, Values := z16 } : Binding)
theorem s_l4Bind_ok (a_b : Binding) (v0_0 : Sv) (v0_1 : Sv) (a_v : Int) (a_x : Int) (R : Binding) (hF : s_l4Bind a_b a_v a_x = some R) :
   Fw.Spec Tryz.prog 248 [(.agg [v0_0.v, v0_1.v].toArray), (.int .i64 a_v), (.int .i64 a_x)] [crd (RdS 3 rdInt) v0_0.v a_b.Vars, crd (RdS 3 rdInt) v0_1.v a_b.Values] (fun p : Sv × List Nat × Sv × List Nat => (.agg [p.1.v, p.2.2.1.v].toArray)) (fun p => [cown (OwnS 3 (roE rdInt)) p.2.1 p.1.v R.Vars, cown (OwnS 3 (roE rdInt)) p.2.2.2 p.2.2.1.v R.Values]) := by
 refine Se 22 Tryz.func248 [.cell 6 147] ?_
 intro H0 F0
 unfold s_l4Bind at hF
 refine au ?_
 refine AbR (fun k1 => ?_)
 refine AnW (fun k2 => ?_)
 refine au ?_
 refine K_draw [0, 1, 2, 4, 5, 7, 8, 9, 11, 12, 3, 6, 10, 13, 14, 15] [0, 0, 2, 7, 0, 16, 63, 0, 0, 256, 1023, 0, 2048, 8191, 16383, 32767] [3, 6, 10, 13, 15] mixed (by decide +kernel) ?_
 refine D_new rfl .no rfl (fun ha => N_buildSliceT (g := true) (len := 0) (parts := []) sl24.h ty3.h .nil (vs := []) rfl rfl rfl (by simp)) (fun k3 => ?_)
 refine Dv1 (.cons .h .nil) (own_lit (Ro := (roE rdInt)) (E := 3) (F := []) (xs := ([] : List Int)) MkL_nil rfl rfl) ?_
 iterate 3 refine du ?_
 refine D_new rfl .no rfl (fun ha => N_buildSliceT (g := true) (len := 1) (parts := [(0, .tmp 11)]) sl24.h ty3.h (.cons (EN ha (.tmp rfl rfl) rfl) .nil) (vs := [(.int .i64 a_v)]) rfl rfl rfl (by intro v hv; simp at hv; rcases hv with rfl <;> rfl)) (fun k4 => ?_)
 refine Dv1 (.cons .h .nil) (own_lit (Ro := (roE rdInt)) (E := 3) (F := ([] ++ [])) (xs := ([a_v] : List Int)) (MkL_cons (Mk_pure (fun _ => rfl)) MkL_nil apps) rfl rfl) ?_
 refine D_new rfl .no rfl (fun ha => N_buildSliceT (g := true) (len := 0) (parts := []) sl24.h ty3.h .nil (vs := []) rfl rfl rfl (by simp)) (fun k5 => ?_)
 refine Dv1 (.cons .h .nil) (own_lit (Ro := (roE rdInt)) (E := 3) (F := []) (xs := ([] : List Int)) MkL_nil rfl rfl) ?_
 iterate 3 refine du ?_
 refine D_new rfl .no rfl (fun ha => N_buildSliceT (g := true) (len := 1) (parts := [(0, .tmp 18)]) sl24.h ty3.h (.cons (EN ha (.tmp rfl rfl) rfl) .nil) (vs := [(.int .i64 a_x)]) rfl rfl rfl (by intro v hv; simp at hv; rcases hv with rfl <;> rfl)) (fun k6 => ?_)
 refine Dv1 (.cons .h .nil) (own_lit (Ro := (roE rdInt)) (E := 3) (F := ([] ++ [])) (xs := ([a_x] : List Int)) (MkL_cons (Mk_pure (fun _ => rfl)) MkL_nil apps) rfl rfl) ?_
 refine bnd hF fun z7 hx8 hF => D_act1 rfl rfl .no (.cons (.t (.t (.t .h))) (.rd (.t (.t (.t (.t (.t .h))))) rfl .nil)) (.own .h (by simp [cown]) (.own (.t .h) (by simp [cown]) (.own (.t (.t .h)) (by simp [cown]) (.dep rfl .nil)))) (fun ha => X_appendO (Ro := (roE rdInt)) sl24.h ni24 ty3.h rfl rfl rfl (EN ha (.tmp rfl rfl) rfl) (EN ha (.tmp rfl rfl) rfl) hx8 src_rd) (fun p9 => ?_)
 refine bnd hF fun z10 hx11 hF => D_act1 rfl rfl .no (.cons .h (.cons (.t (.t .h)) .nil)) (.own .h (by simp [cown]) (.own (.t .h) (by simp [cown]) (.dep rfl (.dep rfl .nil)))) (fun ha => X_appendO (Ro := (roE rdInt)) sl24.h ni24 ty3.h rfl rfl rfl (EN ha (.tmp rfl rfl) rfl) (EN ha (.tmp rfl rfl) rfl) hx11 src_own) (fun p12 => ?_)
 refine bnd hF fun z13 hx14 hF => D_act1 rfl rfl .no (.cons (.t (.t .h)) (.rd (.t (.t (.t (.t (.t .h))))) rfl .nil)) (.own (.t .h) (by simp [cown]) (.dep rfl (.dep rfl (.dep rfl .nil)))) (fun ha => X_appendO (Ro := (roE rdInt)) sl24.h ni24 ty3.h rfl rfl rfl (EN ha (.tmp rfl rfl) rfl) (EN ha (.tmp rfl rfl) rfl) hx14 src_rd) (fun p15 => ?_)
 refine bnd hF fun z16 hx17 hF => D_act1 rfl rfl .no (.cons .h (.cons (.t .h) .nil)) (.dep rfl (.dep rfl (.dep rfl (.dep rfl .nil)))) (fun ha => X_appendO (Ro := (roE rdInt)) sl24.h ni24 ty3.h rfl rfl rfl (EN ha (.tmp rfl rfl) rfl) (EN ha (.tmp rfl rfl) rfl) hx17 src_own) (fun p18 => ?_)
 refine D_val rfl .no (fun ha => V_build ty147.h rfl (vs := [p12.1.v, p18.1.v]) (.cons (EN ha (.tmp rfl rfl) rfl) (.cons (EN ha (.tmp rfl rfl) rfl) .nil)) (cells := [p12.1.v, p18.1.v]) rfl) ?_
 refine D_act1 rfl rfl .no (.cons (.t (.t .h)) .nil) (.dep rfl (.dep rfl (.dep rfl (.dep rfl .nil)))) (fun ha => X_storeB (e' := (.agg [p12.1.v, p18.1.v].toArray)) (v := (.agg [p12.1.v, p18.1.v].toArray)) ty147.h.sz (EN ha (.tmp rfl rfl) rfl) (EN ha (.tmp rfl rfl) rfl) rfl rfl rfl rfl rfl) (fun _ => ?_)
 refine du ?_
 refine au ?_
 cases hF
 exact Er (p12.1, p12.2, p18.1, p18.2)
def s_MatchAtom_L1 (a_f : Fact) : List Int → Nat → (List Int) → (List Int) → Option (Binding × Bool)
 | [], k80, c71, c74 => some (({ Vars := c71, Values := c74 } : Binding), true)
 | x82 :: rest81, k80, c71, c74 => (((s_ValueOf ({ Vars := c71, Values := c74 } : Binding) x82).bind fun r93 =>
     ((s_IsVar x82).bind fun r100 =>
       bif r100 then ((s_l4Bound ({ Vars := c71, Values := c74 } : Binding) x82).bind fun r106 =>
         some (!r106))
       else (some false)).bind fun o96 =>
     match o96 with
     | c109 => if c109 then (
         (ix a_f.Values (k80 : Int)).bind fun x112 =>
         (s_l4Bind ({ Vars := c71, Values := c74 } : Binding) x82 x112).bind fun r118 =>
         some (.inr (r118.Vars, r118.Values)))
       else (
         (ix a_f.Values (k80 : Int)).bind fun x121 =>
         if ((r93 : Int) != x121) then (
           some (.inl (({ Vars := [], Values := [] } : Binding), false)))
         else (
           some (.inr (c71, c74))))) : Option (Sum (Binding × Bool) ((List Int) × (List Int)))).bind fun o89 =>
   match o89 with
   | .inl r => some r
   | .inr (c130, c133) => s_MatchAtom_L1 a_f rest81 (k80 + 1) c130 c133
def s_MatchAtom (a_b : Binding) (a_a : Atom) (a_f : Fact) : Option (Binding × Bool) :=
 (s_l4Copy a_b).bind fun r5 =>
 if (((a_a.Rel : Int) != a_f.Rel) || ((((a_a.Terms.length : Int) : Int) != (a_f.Values.length : Int)) || (((a_b.Vars.length : Int) : Int) != (a_b.Values.length : Int)))) then (
   some (({ Vars := [], Values := [] } : Binding), false))
 else (
   s_MatchAtom_L1 a_f a_a.Terms 0 r5.Vars r5.Values)
theorem s_MatchAtom_ok (a_b : Binding) (v0_0 : Sv) (v0_1 : Sv) (a_a : Atom) (v1_1 : Sv) (a_f : Fact) (v2_1 : Sv) (R : Binding × Bool) (hF : s_MatchAtom a_b a_a a_f = some R) :
   Fw.Spec Tryz.prog 207 [(.agg [v0_0.v, v0_1.v].toArray), (.agg [(.int .i64 a_a.Rel), v1_1.v].toArray), (.agg [(.int .i64 a_f.Rel), v2_1.v].toArray)] [crd (RdS 3 rdInt) v0_0.v a_b.Vars, crd (RdS 3 rdInt) v0_1.v a_b.Values, crd (RdS 3 rdInt) v1_1.v a_a.Terms, crd (RdS 3 rdInt) v2_1.v a_f.Values] (fun p : Sv × List Nat × Sv × List Nat => (.tuple [(.agg [p.1.v, p.2.2.1.v].toArray), (.bool R.2)].toArray)) (fun p => [cown (OwnS 3 (roE rdInt)) p.2.1 p.1.v R.1.Vars, cown (OwnS 3 (roE rdInt)) p.2.2.2 p.2.2.1.v R.1.Values]) := by
 refine Se 88 Tryz.func207 [.cell 6 147, .tmp 7] ?_
 intro H0 F0
 unfold s_MatchAtom at hF
 refine au ?_
 refine AbR (fun k1 => ?_)
 refine AbR (fun k2 => ?_)
 refine AbR (fun k3 => ?_)
 refine AnW (fun k4 => ?_)
 iterate 4 refine au ?_
 refine bnd hF fun r5 hx6 hF => Cx2 (s_l4Copy_ok _ _ _ _ hx6) (fun p7 => ?_)
 refine AnW (fun k8 => ?_)
 refine As (.agg [p7.1.v, p7.2.2.1.v].toArray) ?_
 iterate 3 refine au ?_
 refine C_cut (fun f' cs' => ∃ (g : Fr), f' = updL g [(4, (pz k2)), (5, (pz k3)), (6, (pz k4)), (8, (pz k8)), (35, (.bool (((a_a.Rel : Int) != a_f.Rel) || ((((a_a.Terms.length : Int) : Int) != (a_f.Values.length : Int)) || (((a_b.Vars.length : Int) : Int) != (a_b.Values.length : Int))))))] ∧ Ent cs' [cboR k2 98 (.agg [(.int .i64 a_a.Rel), v1_1.v].toArray), crd (RdS 3 rdInt) v1_1.v a_a.Terms, cboR k3 86 (.agg [(.int .i64 a_f.Rel), v2_1.v].toArray), crd (RdS 3 rdInt) v2_1.v a_f.Values, cbox k4 147 (.agg [(.slice none 0 0), (.slice none 0 0)].toArray), cbox k8 147 (.agg [p7.1.v, p7.2.2.1.v].toArray), cown (OwnS 3 (roE rdInt)) p7.2.1 p7.1.v r5.Vars, cown (OwnS 3 (roE rdInt)) p7.2.2.2 p7.2.2.1.v r5.Values]) ?_ ?_
 · iterate 6 refine au ?_
   rcases Bool.eq_false_or_eq_true ((a_a.Rel : Int) != a_f.Rel) with hg9 | hg9
   · rw [hg9]
     try rw [hg9] at hF; dsimp only [cond_true, cond_false] at hF
     iterate 18 refine au ?_
     exact ⟨_, eqA, entA⟩
   rw [hg9]
   try rw [hg9] at hF; dsimp only [cond_true, cond_false] at hF
   iterate 16 refine au ?_
   rcases Bool.eq_false_or_eq_true (((a_a.Terms.length : Int) : Int) != (a_f.Values.length : Int)) with hg10 | hg10
   · rw [hg10]
     try rw [hg10] at hF; dsimp only [cond_true, cond_false] at hF
     iterate 9 refine au ?_
     exact ⟨_, eqA, entA⟩
   rw [hg10]
   try rw [hg10] at hF; dsimp only [cond_true, cond_false] at hF
   iterate 16 refine au ?_
   exact ⟨_, eqA, entA⟩
 rintro _ _ ⟨g11, rfl, hE⟩
 refine K_ent hE ?_
 refine Ci hF (fun hb138 hF => ?_) (fun hb138 hF => ?_)
 · refine au ?_
   refine C_val (V_build ty147.h rfl (vs := []) .nil (cells := [(.slice none 0 0), (.slice none 0 0)]) rfl) ?_
   refine As (.agg [(.slice none 0 0), (.slice none 0 0)].toArray) ?_
   iterate 3 refine au ?_
   cases hF
   exact End_ret (⟨none, 0, 0⟩, [], ⟨none, 0, 0⟩, []) (.cellA rfl rfl .h rfl ag147.h ty147.h.sz rfl rfl (.tmp rfl rfl .nil)) rfl (.conv .nil (own_nil (Ro := (roE rdInt)) (E := 3)) (.cons .nil) (.conv .nil (own_nil (Ro := (roE rdInt)) (E := 3)) (.cons .nil) (.sel (.cons (.t .h) (.cons .h .nil)))))
 iterate 5 refine au ?_
 refine CW_block (CW_loop (m := a_a.Terms.length) (fun m78 f' cs' => ∃ (g : Fr) (k80 : Nat) (rest81 : List Int) (c71 : List Int) (c74 : List Int) (v72 : Sv) (F73 : List Nat) (v75 : Sv) (F76 : List Nat), m78 = rest81.length ∧ f' = updL g [(4, (pz k2)), (5, (pz k3)), (6, (pz k4)), (8, (pz k8)), (9, (.int .i64 (k80 : Int)))] ∧ List.drop k80 a_a.Terms = rest81 ∧ Ent cs' [cboR k2 98 (.agg [(.int .i64 a_a.Rel), v1_1.v].toArray), crd (RdS 3 rdInt) v1_1.v a_a.Terms, cboR k3 86 (.agg [(.int .i64 a_f.Rel), v2_1.v].toArray), crd (RdS 3 rdInt) v2_1.v a_f.Values, cbox k4 147 (.agg [(.slice none 0 0), (.slice none 0 0)].toArray), cbox k8 147 (.agg [v72.v, v75.v].toArray), cown (OwnS 3 (roE rdInt)) F73 v72.v c71, cown (OwnS 3 (roE rdInt)) F76 v75.v c74] ∧ s_MatchAtom_L1 a_f rest81 k80 c71 c74 = some R) ⟨_, 0, _, _, _, p7.1, p7.2.1, p7.2.2.1, p7.2.2.2, rfl, eqA, rfl, entA, hF⟩ ?_)
 rintro m78 _ _ ⟨g79, k80, rest81, c71, c74, v72, F73, v75, F76, rfl, rfl, hd83, hE, hF⟩
 refine Kb hE a_a.Terms (fun hbd88 => ?_)
 rcases rest81 with _ | ⟨x82, rest81⟩
 · have hk84 := dn hd83
   rw [s_MatchAtom_L1] at hF
   iterate 8 refine au ?_
   refine CdF ?_
   iterate 6 refine au ?_
   refine As (.agg [v72.v, v75.v].toArray) ?_
   iterate 3 refine au ?_
   cases hF
   exact End_ret (v72, F73, v75, F76) (.cellA rfl rfl .h rfl ag147.h ty147.h.sz rfl rfl (.tmp rfl rfl .nil)) rfl (.sel (.cons (.t (.t (.t (.t (.t (.t .h)))))) (.cons (.t (.t (.t (.t (.t (.t .h)))))) .nil)))
 obtain ⟨hk84, hx85, hd86⟩ := drop_cons hd83
 rw [s_MatchAtom_L1] at hF
 iterate 8 refine au ?_
 refine CdT ?_
 refine au ?_
 obtain ⟨o89, hio89, hO90⟩ := bind_some hF
 refine K_cut (fun f' cs' => ∃ (c130 : List Int) (c133 : List Int) (v131 : Sv) (F132 : List Nat) (v134 : Sv) (F135 : List Nat) (g : Fr), o89 = .inr (c130, c133) ∧ f' = updL g [(4, (pz k2)), (5, (pz k3)), (6, (pz k4)), (8, (pz k8)), (9, (.int .i64 (k80 : Int)))] ∧ Ent cs' [cboR k2 98 (.agg [(.int .i64 a_a.Rel), v1_1.v].toArray), crd (RdS 3 rdInt) v1_1.v a_a.Terms, cboR k3 86 (.agg [(.int .i64 a_f.Rel), v2_1.v].toArray), crd (RdS 3 rdInt) v2_1.v a_f.Values, cbox k4 147 (.agg [(.slice none 0 0), (.slice none 0 0)].toArray), cbox k8 147 (.agg [v131.v, v134.v].toArray), cown (OwnS 3 (roE rdInt)) F132 v131.v c130, cown (OwnS 3 (roE rdInt)) F135 v134.v c133]) ?_ ?_
 · replace hF := hio89
   refine CW_block (K_draw [0, 1, 2, 3, 4, 5, 6, 7] [0, 0, 2, 0, 14, 30, 63, 127] [6] mixed (by decide +kernel) ?_)
   refine D_atO rfl .no (.t (.t (.t (.t (.t .h))))) (fun ha hp => V_loadBox ag147.h ty147.h.sz rfl (EN ha (.tmp rfl rfl) rfl) hp.2 rfl) ?_
   iterate 3 refine du ?_
   refine Di hx85 (fun k91 j92 => ?_)
   refine Dl ls3_0 ?_
   refine bnd hF fun r93 hx94 hF => D_act2 rfl rfl .no (.cons (.t (.t (.t (.t (.t (.t (.t (.t .h)))))))) (.cons (.t (.t (.t (.t (.t (.t (.t .h))))))) .nil)) (.dep rfl .nil) (fun ha => XC_borL (pre := []) (.cons frz_own (.cons frz_own .nil)) (fun _ => .nil) (X_callS cf143.h (.cons (EN ha (.tmp rfl rfl) rfl) (.cons (EN ha (.tmp rfl rfl) rfl) .nil)) (s_ValueOf_ok ({ Vars := c71, Values := c74 } : Binding) v72 v75 x82 _ hx94))) (fun _ => ?_)
   iterate 2 refine du ?_
   obtain ⟨o96, hio96, hO97⟩ := bind_some hF
   refine K_draw [0, 1, 2, 3, 4, 5, 6, 7, 8, 9, 10, 11, 12, 13, 14, 15] [0, 1, 0, 7, 15, 31, 63, 127, 127, 383, 127, 1919, 3967, 8191, 16383, 32767] [5, 13] mixed (by decide +kernel) ?_
   refine D_cut (fun f' cs' => ∃ (c109 : Bool) (g : Fr), c109 = o96 ∧ f' = updL g [(4, (pz k2)), (5, (pz k3)), (6, (pz k4)), (8, (pz k8)), (9, (.int .i64 (k80 : Int))), (10, (.int .i64 r93)), (66, (.bool c109))] ∧ Ent cs' [cboR k2 98 (.agg [(.int .i64 a_a.Rel), v1_1.v].toArray), crd (RdS 3 rdInt) v1_1.v a_a.Terms, cboR k3 86 (.agg [(.int .i64 a_f.Rel), v2_1.v].toArray), crd (RdS 3 rdInt) v2_1.v a_f.Values, cbox k4 147 (.agg [(.slice none 0 0), (.slice none 0 0)].toArray), cbox k8 147 (.agg [v72.v, v75.v].toArray), cown (OwnS 3 (roE rdInt)) F73 v72.v c71, cown (OwnS 3 (roE rdInt)) F76 v75.v c74]) ?_ ?_
   · replace hF := hio96
     iterate 3 refine du ?_
     refine Di hx85 (fun k98 j99 => ?_)
     refine Dl ls3_0 ?_
     refine bnd hF fun r100 hx101 hF => Dx0 (s_IsVar_ok _ _ hx101) (fun _ => ?_)
     refine du ?_
     rcases Bool.eq_false_or_eq_true r100 with hg103 | hg103
     · rw [hg103]
       try rw [hg103] at hF; dsimp only [cond_true, cond_false] at hF
       refine D_atO rfl (.on 57 rfl rfl rfl) (.t (.t (.t (.t (.t (.t (.t (.t (.t .h))))))))) (fun ha hp => V_loadBox ag147.h ty147.h.sz rfl (EN ha (.tmp rfl rfl) rfl) hp.2 rfl) ?_
       iterate 3 refine du ?_
       refine Di hx85 (fun k104 j105 => ?_)
       refine Dl ls3_0 ?_
       refine bnd hF fun r106 hx107 hF => D_act2 rfl rfl (.on 57 rfl rfl rfl) (.cons (.t (.t .h)) (.cons (.t (.t .h)) .nil)) (.dep rfl .nil) (fun ha => XC_borL (pre := []) (.cons frz_own (.cons frz_own .nil)) (fun _ => .nil) (X_callS cf247.h (.cons (EN ha (.tmp rfl rfl) rfl) (.cons (EN ha (.tmp rfl rfl) rfl) .nil)) (s_l4Bound_ok ({ Vars := c71, Values := c74 } : Binding) v72 v75 x82 _ hx107))) (fun _ => ?_)
       iterate 3 refine du ?_
       cases hF
       exact ⟨_, _, rfl, eqA, entA⟩
     rw [hg103]
     try rw [hg103] at hF; dsimp only [cond_true, cond_false] at hF
     iterate 10 refine du ?_
     cases hF
     exact ⟨_, _, rfl, eqA, entA⟩
   rintro _ _ ⟨c109, g129, rfl, rfl, hE⟩
   replace hF := hO97
   try dsimp only at hF
   refine K_ent hE ?_
   refine Ci hF (fun hb128 hF => ?_) (fun hb128 hF => ?_)
   · refine CW_draw [0, 1, 2, 3, 4, 5, 6, 7, 8, 9, 10, 11, 12] [0, 0, 2, 0, 14, 30, 0, 64, 0, 448, 960, 2047, 4095] [11, 12] mixed (by decide +kernel) ?_
     refine D_atO rfl .no (.t (.t (.t (.t (.t .h))))) (fun ha hp => V_loadBox ag147.h ty147.h.sz rfl (EN ha (.tmp rfl rfl) rfl) hp.2 rfl) ?_
     iterate 3 refine du ?_
     refine Di hx85 (fun k110 j111 => ?_)
     refine Dl ls3_0 ?_
     iterate 3 refine du ?_
     refine bnd hF fun x112 hx113 hF => ?_
     obtain ⟨hp114, hx115⟩ := ix_some hx113
     refine Di hx115 (fun k116 j117 => ?_)
     refine Dl ls3_0 ?_
     refine bnd hF fun r118 hx119 hF => D_act4 rfl rfl .no (.cons (.t (.t (.t (.t (.t (.t (.t (.t (.t .h))))))))) (.cons (.t (.t (.t (.t (.t (.t (.t (.t .h)))))))) .nil)) (.dep rfl .nil) (fun ha => XC_borL (pre := []) (.cons frz_own (.cons frz_own .nil)) (fun _ => (.cons (.cons .nil))) (X_callS cf248.h (.cons (EN ha (.tmp rfl rfl) rfl) (.cons (EN ha (.tmp rfl rfl) rfl) (.cons (EN ha (.tmp rfl rfl) rfl) .nil))) (s_l4Bind_ok ({ Vars := c71, Values := c74 } : Binding) v72 v75 x82 x112 _ hx119))) (fun p120 => ?_)
     refine D_act1 rfl rfl .no (.cons (.t (.t (.t (.t (.t (.t (.t (.t (.t (.t (.t .h))))))))))) .nil) (.dep rfl .nil) (fun ha => X_storeB (e' := (.agg [p120.1.v, p120.2.2.1.v].toArray)) (v := (.agg [p120.1.v, p120.2.2.1.v].toArray)) ty147.h.sz (EN ha (.tmp rfl rfl) rfl) (EN ha (.tmp rfl rfl) rfl) rfl rfl rfl rfl rfl) (fun _ => ?_)
     refine du ?_
     cases hF
     exact ⟨_, _, p120.1, p120.2.1, p120.2.2.1, p120.2.2.2, _, rfl, eqA, entA⟩
   iterate 5 refine au ?_
   refine bnd hF fun x121 hx122 hF => ?_
   obtain ⟨hp123, hx124⟩ := ix_some hx122
   refine Ai hx124 (fun k125 j126 => ?_)
   refine Al ls3_0 ?_
   iterate 2 refine au ?_
   refine Ci hF (fun hb127 hF => ?_) (fun hb127 hF => ?_)
   · refine au ?_
     refine C_val (V_build ty147.h rfl (vs := []) .nil (cells := [(.slice none 0 0), (.slice none 0 0)]) rfl) ?_
     refine As (.agg [(.slice none 0 0), (.slice none 0 0)].toArray) ?_
     iterate 3 refine au ?_
     cases hF
     replace hF := hO90
     try dsimp only at hF
     cases hF
     exact End_ret (⟨none, 0, 0⟩, [], ⟨none, 0, 0⟩, []) (.cellA rfl rfl .h rfl ag147.h ty147.h.sz rfl rfl (.tmp rfl rfl .nil)) rfl (.conv .nil (own_nil (Ro := (roE rdInt)) (E := 3)) (.cons .nil) (.conv .nil (own_nil (Ro := (roE rdInt)) (E := 3)) (.cons .nil) (.sel (.cons (.t .h) (.cons .h .nil)))))
   refine au ?_
   cases hF
   exact ⟨_, _, v72, F73, v75, F76, _, rfl, eqA, entA⟩
 rintro _ _ ⟨c130, c133, v131, F132, v134, F135, g137, rfl, rfl, hE⟩
 replace hF := hO90
 try dsimp only at hF
 refine K_ent hE ?_
 iterate 5 refine au ?_
 rw [wk k80]
 exact ⟨_, Nat.lt_succ_self _, _, k80 + 1, rest81, _, _, v131, F132, v134, F135, rfl, eqA, hd86, entA, hF⟩
def s_l4Extend_L2 (a_a : Atom) (x11 : Binding) : List Fact → Nat → (List Binding) → Option ((List Binding))
 | [], k26, c20 => some c20
 | x28 :: rest27, k26, c20 => ((s_MatchAtom x11 a_a x28).bind fun r44 =>
     if r44.2 then (
       (app c20 ([r44.1] : List Binding)).bind fun z48 =>
       some z48)
     else (
       some c20)).bind fun o35 =>
   match o35 with
   | c52 => s_l4Extend_L2 a_a x11 rest27 (k26 + 1) c52
def s_l4Extend_L1 (a_a : Atom) (a_facts : List Fact) : List Binding → Nat → (List Binding) → Option ((List Binding))
 | [], k9, c3 => some c3
 | x11 :: rest10, k9, c3 => (s_l4Extend_L2 a_a x11 a_facts 0 c3).bind fun o18 =>
   match o18 with
   | c57 => s_l4Extend_L1 a_a a_facts rest10 (k9 + 1) c57
def s_l4Extend (a_l : List Binding) (a_a : Atom) (a_facts : List Fact) : Option ((List Binding)) :=
 s_l4Extend_L1 a_a a_facts a_l 0 ([] : List Binding)
theorem s_l4Extend_ok (a_l : List Binding) (v0_0 : Sv) (a_a : Atom) (v1_1 : Sv) (a_facts : List Fact) (v2_0 : Sv) (R : (List Binding)) (hF : s_l4Extend a_l a_a a_facts = some R) :
   Fw.Spec Tryz.prog 145 [v0_0.v, (.agg [(.int .i64 a_a.Rel), v1_1.v].toArray), v2_0.v] [crd (RdS 147 rd147) v0_0.v a_l, crd (RdS 3 rdInt) v1_1.v a_a.Terms, crd (RdS 86 rd86) v2_0.v a_facts] (fun p : Sv × List Nat => p.1.v) (fun p => [cown (OwnS 147 ow147) p.2 p.1.v R]) := by
 refine Se 44 Tryz.func145 [.tmp 6] ?_
 intro H0 F0
 unfold s_l4Extend at hF
 refine au ?_
 refine AbR (fun k1 => ?_)
 iterate 3 refine au ?_
 refine C_new rfl (N_buildSliceT (g := true) sl103.h ty147.h .nil (vs := []) rfl rfl rfl (by simp)) (fun k2 => ?_)
 refine Cv1 (.cons .h .nil) (own_lit (Ro := ow147) (E := 147) (F := []) (xs := ([] : List Binding)) MkL_nil rfl rfl) ?_
 iterate 6 refine au ?_
 refine CW_block (CW_loop (m := a_l.length) (fun m7 f' cs' => ∃ (g : Fr) (k9 : Nat) (rest10 : List Binding) (c3 : List Binding) (v4 : Sv) (F5 : List Nat), m7 = rest10.length ∧ f' = updL g [(0, v0_0.v), (2, v2_0.v), (4, (pz k1)), (7, v4.v), (8, (.int .i64 (k9 : Int)))] ∧ List.drop k9 a_l = rest10 ∧ Ent cs' [crd (RdS 147 rd147) v0_0.v a_l, crd (RdS 86 rd86) v2_0.v a_facts, cboR k1 98 (.agg [(.int .i64 a_a.Rel), v1_1.v].toArray), crd (RdS 3 rdInt) v1_1.v a_a.Terms, cown (OwnS 147 ow147) F5 v4.v c3] ∧ s_l4Extend_L1 a_a a_facts rest10 k9 c3 = some R) ⟨_, 0, _, _, ⟨(some ⟨k2, 0, none⟩), 0, 1⟩, (k2 :: []), rfl, eqA, rfl, entA, hF⟩ ?_)
 rintro m7 _ _ ⟨g8, k9, rest10, c3, v4, F5, rfl, rfl, hd12, hE, hF⟩
 refine Kb hE a_l (fun hbd17 => ?_)
 rcases rest10 with _ | ⟨x11, rest10⟩
 · have hk13 := dn hd12
   rw [s_l4Extend_L1] at hF
   iterate 7 refine au ?_
   refine CdF ?_
   iterate 9 refine au ?_
   cases hF
   exact Er (v4, F5)
 obtain ⟨hk13, hx14, hd15⟩ := drop_cons hd12
 rw [s_l4Extend_L1] at hF
 iterate 7 refine au ?_
 refine CdT ?_
 refine au ?_
 obtain ⟨o18, hio18, hO19⟩ := bind_some hF
 refine K_cut (fun f' cs' => ∃ (c57 : List Binding) (v58 : Sv) (F59 : List Nat) (g : Fr), c57 = o18 ∧ f' = updL g [(0, v0_0.v), (2, v2_0.v), (4, (pz k1)), (7, v58.v), (8, (.int .i64 (k9 : Int)))] ∧ Ent cs' [crd (RdS 147 rd147) v0_0.v a_l, crd (RdS 86 rd86) v2_0.v a_facts, cboR k1 98 (.agg [(.int .i64 a_a.Rel), v1_1.v].toArray), crd (RdS 3 rdInt) v1_1.v a_a.Terms, cown (OwnS 147 ow147) F59 v58.v c57]) ?_ ?_
 · replace hF := hio18
   refine CW_block (K_region (C_val (V_assign (v := (.int .i64 0)) (.int _ _)) ?_))
   refine au ?_
   refine CW_block (CW_loop (m := a_facts.length) (fun m24 f' cs' => ∃ (g : Fr) (k26 : Nat) (rest27 : List Fact) (c20 : List Binding) (v21 : Sv) (F22 : List Nat), m24 = rest27.length ∧ f' = updL g [(0, v0_0.v), (2, v2_0.v), (4, (pz k1)), (7, v21.v), (8, (.int .i64 (k9 : Int))), (9, (.int .i64 (k26 : Int)))] ∧ List.drop k26 a_facts = rest27 ∧ Ent cs' [crd (RdS 147 rd147) v0_0.v a_l, crd (RdS 86 rd86) v2_0.v a_facts, cboR k1 98 (.agg [(.int .i64 a_a.Rel), v1_1.v].toArray), crd (RdS 3 rdInt) v1_1.v a_a.Terms, cown (OwnS 147 ow147) F22 v21.v c20] ∧ s_l4Extend_L2 a_a x11 rest27 k26 c20 = some o18) ⟨_, 0, _, _, v4, F5, rfl, eqA, rfl, entA, hF⟩ ?_)
   rintro m24 _ _ ⟨g25, k26, rest27, c20, v21, F22, rfl, rfl, hd29, hE, hF⟩
   refine Kb hE a_facts (fun hbd34 => ?_)
   rcases rest27 with _ | ⟨x28, rest27⟩
   · have hk30 := dn hd29
     rw [s_l4Extend_L2] at hF
     iterate 7 refine au ?_
     refine CdF ?_
     iterate 4 refine au ?_
     cases hF
     exact ⟨_, v21, F22, _, rfl, eqA, entA⟩
   obtain ⟨hk30, hx31, hd32⟩ := drop_cons hd29
   rw [s_l4Extend_L2] at hF
   iterate 7 refine au ?_
   refine CdT ?_
   refine au ?_
   obtain ⟨o35, hio35, hO36⟩ := bind_some hF
   refine K_cut (fun f' cs' => ∃ (c52 : List Binding) (v53 : Sv) (F54 : List Nat) (g : Fr), c52 = o35 ∧ f' = updL g [(0, v0_0.v), (2, v2_0.v), (4, (pz k1)), (7, v53.v), (8, (.int .i64 (k9 : Int))), (9, (.int .i64 (k26 : Int)))] ∧ Ent cs' [crd (RdS 147 rd147) v0_0.v a_l, crd (RdS 86 rd86) v2_0.v a_facts, cboR k1 98 (.agg [(.int .i64 a_a.Rel), v1_1.v].toArray), crd (RdS 3 rdInt) v1_1.v a_a.Terms, cown (OwnS 147 ow147) F54 v53.v c52]) ?_ ?_
   · replace hF := hio35
     refine CW_block (K_draw [0, 1, 2, 3, 4, 5, 6, 7, 8, 13, 9, 10, 11, 12, 14, 15] [0, 0, 3, 7, 0, 0, 0, 96, 224, 511, 1023, 2047, 2047, 0, 12287, 32767] [9, 14] mixed (by decide +kernel) ?_)
     iterate 2 refine du ?_
     refine Di hx14 (fun k37 j38 => ?_)
     refine DlA2 (ul147_0_147 x11) la147_0_147 (fun p39 => ?_)
     iterate 3 refine du ?_
     refine Di hx31 (fun k40 j41 => ?_)
     refine DlA1 (ul86_0_86 x28) la86_0_86 (fun p42 => ?_)
     refine D_new rfl .no rfl (fun ha => N_allocT (g := true) ty147.h rfl rfl) (fun k43 => ?_)
     refine bnd hF fun r44 hx45 hF => D_act2 rfl rfl .no (.rd (.t (.t (.t .h))) rfl (.rd (.t (.t (.t (.t .h)))) rfl (.rd (.t (.t (.t (.t (.t (.t (.t (.t (.t .h))))))))) rfl (.rd (.t .h) rfl .nil)))) (.own .h (fun _ h => h) .nil) (fun ha => X_callS cf207.h (.cons (EN ha (.tmp rfl rfl) rfl) (.cons (EN ha (.tmp rfl rfl) rfl) (.cons (EN ha (.tmp rfl rfl) rfl) .nil))) (s_MatchAtom_ok x11 p39.1 p39.2 a_a v1_1 x28 p42 _ hx45)) (fun p46 => ?_)
     refine du ?_
     refine D_val rfl .no (fun ha => V_extract (l := [(.agg [p46.1.v, p46.2.2.1.v].toArray), (.bool r44.2)]) (v := (.agg [p46.1.v, p46.2.2.1.v].toArray)) (EN ha (.tmp rfl rfl) rfl) rfl) ?_
     refine D_val rfl .no (fun ha => V_extract (l := [(.agg [p46.1.v, p46.2.2.1.v].toArray), (.bool r44.2)]) (v := (.bool r44.2)) (EN ha (.tmp rfl rfl) rfl) rfl) ?_
     refine D_act1 rfl rfl .no (.cons (.t (.t .h)) .nil) (.dep rfl .nil) (fun ha => X_storeB (e' := (.agg [p46.1.v, p46.2.2.1.v].toArray)) (v := (.agg [p46.1.v, p46.2.2.1.v].toArray)) ty147.h.sz (EN ha (.tmp rfl rfl) rfl) (EN ha (.tmp rfl rfl) rfl) rfl rfl rfl rfl rfl) (fun _ => ?_)
     iterate 2 refine du ?_
     iterate 3 refine au ?_
     refine Ci hF (fun hb51 hF => ?_) (fun hb51 hF => ?_)
     · iterate 3 refine au ?_
       refine C_new rfl (N_buildSliceT (g := true) sl103.h ty147.h (.cons (.tmp rfl rfl) .nil) (vs := [(.agg [p46.1.v, p46.2.2.1.v].toArray)]) rfl rfl rfl (by intro v hv; simp at hv; rcases hv with rfl <;> rfl)) (fun k47 => ?_)
       refine Cv1 (.cons .h (.cons (.t .h) (.cons (.t .h) .nil))) (own_lit (Ro := ow147) (E := 147) (F := ((p46.2.1 ++ p46.2.2.2) ++ [])) (xs := ([r44.1] : List Binding)) (MkL_cons mk147 MkL_nil apps) rfl rfl) ?_
       refine bnd hF fun z48 hx49 hF => C_x1 (.cons (.t (.t (.t (.t (.t (.t (.t (.t (.t (.t (.t .h))))))))))) (.cons .h .nil)) (X_appendO (Ro := ow147) sl103.h ni103 ty147.h rfl rfl rfl (.tmp rfl rfl) (.tmp rfl rfl) hx49 src_own) (fun p50 => ?_)
       iterate 2 refine au ?_
       cases hF
       exact ⟨_, p50.1, p50.2, _, rfl, eqA, entA⟩
     refine au ?_
     cases hF
     exact ⟨_, v21, F22, _, rfl, eqA, entA⟩
   rintro _ _ ⟨c52, v53, F54, g56, rfl, rfl, hE⟩
   replace hF := hO36
   try dsimp only at hF
   refine K_ent hE ?_
   iterate 5 refine au ?_
   rw [wk k26]
   exact ⟨_, Nat.lt_succ_self _, _, k26 + 1, rest27, _, v53, F54, rfl, eqA, hd32, entA, hF⟩
 rintro _ _ ⟨c57, v58, F59, g61, rfl, rfl, hE⟩
 replace hF := hO19
 try dsimp only at hF
 refine K_ent hE ?_
 iterate 5 refine au ?_
 rw [wk k9]
 exact ⟨_, Nat.lt_succ_self _, _, k9 + 1, rest10, _, v58, F59, rfl, eqA, hd15, entA, hF⟩
def s_BindingsOf_L1 (a_facts : List Fact) : List Atom → Nat → (List Binding) → Option ((List Binding))
 | [], k9, c3 => some c3
 | x11 :: rest10, k9, c3 => (s_l4Extend c3 x11 a_facts).bind fun r21 =>
   s_BindingsOf_L1 a_facts rest10 (k9 + 1) r21
def s_BindingsOf (a_q : Query) (a_facts : List Fact) : Option ((List Binding)) :=
 s_BindingsOf_L1 a_facts a_q.Atoms 0 ([({ Vars := [], Values := [] } : Binding)] : List Binding)
theorem s_BindingsOf_ok (a_q : Query) (v0_0 : Sv) (v0_1 : Sv) (a_facts : List Fact) (v1_0 : Sv) (R : (List Binding)) (hF : s_BindingsOf a_q a_facts = some R) :
   Fw.Spec Tryz.prog 82 [(.agg [v0_0.v, v0_1.v].toArray), v1_0.v] [crd (RdS 3 rdInt) v0_0.v a_q.Head, crd (RdS 98 rd98) v0_1.v a_q.Atoms, crd (RdS 86 rd86) v1_0.v a_facts] (fun p : Sv × List Nat => p.1.v) (fun p => [cown (OwnS 147 ow147) p.2 p.1.v R]) := by
 refine Se 25 Tryz.func82 [.tmp 4] ?_
 intro H0 F0
 unfold s_BindingsOf at hF
 refine au ?_
 refine AbR (fun k1 => ?_)
 iterate 3 refine au ?_
 refine C_val (V_build ty147.h rfl (vs := []) .nil (cells := [(.slice none 0 0), (.slice none 0 0)]) rfl) ?_
 refine C_new rfl (N_buildSliceT (g := true) sl103.h ty147.h (.cons (.tmp rfl rfl) .nil) (vs := [(.agg [(.slice none 0 0), (.slice none 0 0)].toArray)]) rfl rfl rfl (by intro v hv; simp at hv; rcases hv with rfl <;> rfl)) (fun k2 => ?_)
 iterate 2 refine C_conv .nil (own_nil (Ro := (roE rdInt)) (E := 3)) apps ?_
 refine Cv1 (.cons (.t (.t .h)) (.cons (.t .h) (.cons .h .nil))) (own_lit (Ro := ow147) (E := 147) (F := (([] ++ []) ++ [])) (xs := ([({ Vars := [], Values := [] } : Binding)] : List Binding)) (MkL_cons (mk147 (v0 := ⟨none, 0, 0⟩) (v1 := ⟨none, 0, 0⟩) (a := ({ Vars := [], Values := [] } : Binding))) MkL_nil apps) rfl rfl) ?_
 iterate 6 refine au ?_
 refine CW_block (CW_loop (m := a_q.Atoms.length) (fun m7 f' cs' => ∃ (g : Fr) (k9 : Nat) (rest10 : List Atom) (c3 : List Binding) (v4 : Sv) (F5 : List Nat), m7 = rest10.length ∧ f' = updL g [(1, v1_0.v), (2, (pz k1)), (5, v4.v), (6, (.int .i64 (k9 : Int)))] ∧ List.drop k9 a_q.Atoms = rest10 ∧ Ent cs' [crd (RdS 86 rd86) v1_0.v a_facts, cboR k1 51 (.agg [v0_0.v, v0_1.v].toArray), crd (RdS 3 rdInt) v0_0.v a_q.Head, crd (RdS 98 rd98) v0_1.v a_q.Atoms, cown (OwnS 147 ow147) F5 v4.v c3] ∧ s_BindingsOf_L1 a_facts rest10 k9 c3 = some R) ⟨_, 0, _, _, ⟨(some ⟨k2, 0, none⟩), 1, 1⟩, (k2 :: (([] ++ []) ++ [])), rfl, eqA, rfl, entA, hF⟩ ?_)
 rintro m7 _ _ ⟨g8, k9, rest10, c3, v4, F5, rfl, rfl, hd12, hE, hF⟩
 refine Kb hE a_q.Atoms (fun hbd17 => ?_)
 rcases rest10 with _ | ⟨x11, rest10⟩
 · have hk13 := dn hd12
   rw [s_BindingsOf_L1] at hF
   iterate 8 refine au ?_
   refine CdF ?_
   iterate 9 refine au ?_
   cases hF
   exact Er (v4, F5)
 obtain ⟨hk13, hx14, hd15⟩ := drop_cons hd12
 rw [s_BindingsOf_L1] at hF
 iterate 8 refine au ?_
 refine CdT ?_
 iterate 7 refine au ?_
 refine Ai hx14 (fun k18 j19 => ?_)
 refine AlA1 (ul98_0_98 x11) la98_0_98 (fun p20 => ?_)
 refine au ?_
 refine bnd hF fun r21 hx22 hF => C_x2 (.cons (.t (.t (.t (.t (.t (.t .h)))))) (.rd .h rfl (.rd (.t (.t .h)) rfl .nil))) (XC_bor frz_own (fun _ => (.cons .nil)) (X_callS cf145.h (.cons (.tmp rfl rfl) (.cons (.tmp rfl rfl) (.cons (.tmp rfl rfl) .nil))) (s_l4Extend_ok c3 v4 x11 p20 a_facts v1_0 _ hx22))) (fun p23 => ?_)
 iterate 7 refine au ?_
 rw [wk k9]
 exact ⟨_, Nat.lt_succ_self _, _, k9 + 1, rest10, _, p23.1, p23.2, rfl, eqA, hd15, entA, hF⟩
def s_l4Less_L1 (a_a : List Int) (a_b : List Int) : Nat → Int → Option (Bool)
 | 0, _ => none
 | m2 + 1, c1 => if ((decide ((c1 : Int) < (a_a.length : Int))) && (decide ((c1 : Int) < (a_b.length : Int)))) then (
     (ix a_a c1).bind fun x12 =>
     (ix a_b c1).bind fun x18 =>
     if ((x12 : Int) != x18) then (
       (ix a_a c1).bind fun x24 =>
       (ix a_b c1).bind fun x30 =>
       some (decide ((x24 : Int) < x30)))
     else (
       s_l4Less_L1 a_a a_b m2 (IntKind.i64.wrap (c1 + 1))))
   else (
     some (decide (((a_a.length : Int) : Int) < (a_b.length : Int))))
def s_l4Less (a_a : List Int) (a_b : List Int) : Option (Bool) :=
 s_l4Less_L1 a_a a_b (((a_a.length : Int) - 0).toNat + 2) 0
theorem s_l4Less_ok (a_a : List Int) (v0_0 : Sv) (a_b : List Int) (v1_0 : Sv) (R : Bool) (hF : s_l4Less a_a a_b = some R) :
   Fw.Spec Tryz.prog 206 [v0_0.v, v1_0.v] [crd (RdS 3 rdInt) v0_0.v a_a, crd (RdS 3 rdInt) v1_0.v a_b] (fun _ : Unit => (.bool R)) (fun _ => []) := by
 refine Se 41 Tryz.func206 [.tmp 4] ?_
 intro H0 F0
 unfold s_l4Less at hF
 iterate 7 refine au ?_
 refine CW_block (CW_loop (m := (((a_a.length : Int) - 0).toNat + 2)) (fun m2 f' cs' => ∃ (g : Fr) (c1 : Int), f' = updL g [(0, v0_0.v), (1, v1_0.v), (5, (.int .i64 c1))] ∧ Ent cs' [crd (RdS 3 rdInt) v0_0.v a_a, crd (RdS 3 rdInt) v1_0.v a_b] ∧ s_l4Less_L1 a_a a_b m2 c1 = some R) ⟨_, _, eqA, entA, hF⟩ ?_)
 rintro m2 _ _ ⟨g3, c1, rfl, hE, hF⟩
 refine K_ent hE ?_
 rcases m2 with _ | m2
 · rw [s_l4Less_L1] at hF
   exact absurd hF (by simp)
 rw [s_l4Less_L1] at hF
 iterate 2 refine au ?_
 refine C_cut (fun f' cs' => ∃ (g : Fr), f' = updL g [(0, v0_0.v), (1, v1_0.v), (5, (.int .i64 c1)), (15, (.bool ((decide ((c1 : Int) < (a_a.length : Int))) && (decide ((c1 : Int) < (a_b.length : Int))))))] ∧ Ent cs' [crd (RdS 3 rdInt) v0_0.v a_a, crd (RdS 3 rdInt) v1_0.v a_b]) ?_ ?_
 · iterate 5 refine au ?_
   rcases Bool.eq_false_or_eq_true (decide ((c1 : Int) < (a_a.length : Int))) with hg10 | hg10
   · rw [hg10]
     try rw [hg10] at hF; dsimp only [cond_true, cond_false] at hF
     iterate 10 refine au ?_
     exact ⟨_, eqA, entA⟩
   rw [hg10]
   try rw [hg10] at hF; dsimp only [cond_true, cond_false] at hF
   iterate 6 refine au ?_
   exact ⟨_, eqA, entA⟩
 rintro _ _ ⟨g11, rfl, hE⟩
 refine K_ent hE ?_
 refine Ci hF (fun hb37 hF => ?_) (fun hb37 hF => ?_)
 · iterate 2 refine au ?_
   refine K_draw [0, 1, 2, 3, 4, 5, 6, 7, 8] [0, 0, 3, 7, 0, 0, 48, 112, 255] [] mixed (by decide +kernel) ?_
   iterate 2 refine du ?_
   refine bnd hF fun x12 hx13 hF => ?_
   obtain ⟨hp14, hx15⟩ := ix_some hx13
   refine Di hx15 (fun k16 j17 => ?_)
   refine Dl ls3_0 ?_
   iterate 2 refine du ?_
   refine bnd hF fun x18 hx19 hF => ?_
   obtain ⟨hp20, hx21⟩ := ix_some hx19
   refine Di hx21 (fun k22 j23 => ?_)
   refine Dl ls3_0 ?_
   iterate 2 refine du ?_
   refine Ci hF (fun hb36 hF => ?_) (fun hb36 hF => ?_)
   · refine K_draw [0, 1, 2, 3, 4, 5, 6, 7, 8, 9] [0, 0, 3, 7, 0, 0, 48, 112, 255, 511] [] mixed (by decide +kernel) ?_
     iterate 2 refine du ?_
     refine bnd hF fun x24 hx25 hF => ?_
     obtain ⟨hp26, hx27⟩ := ix_some hx25
     refine Di hx27 (fun k28 j29 => ?_)
     refine Dl ls3_0 ?_
     iterate 2 refine du ?_
     refine bnd hF fun x30 hx31 hF => ?_
     obtain ⟨hp32, hx33⟩ := ix_some hx31
     refine Di hx33 (fun k34 j35 => ?_)
     refine Dl ls3_0 ?_
     iterate 3 refine du ?_
     refine au ?_
     cases hF
     exact Er ()
   iterate 6 refine au ?_
   exact ⟨m2, Nat.lt_succ_self _, _, _, eqA, entA, hF⟩
 iterate 13 refine au ?_
 cases hF
 exact Er ()
def s_AddTuple_L2 (a_t : List Int) : List (List Int) → Nat → (List (List Int)) → Bool → Option ((List (List Int)))
 | [], k22, c15, c18 => if (!c18) then (
     (app ([] : List Int) a_t).bind fun z32 =>
     (app c15 ([z32] : List (List Int))).bind fun z36 =>
     some z36)
   else (
     some c15)
 | x24 :: rest23, k22, c15, c18 => ((bif (!c18) then ((s_l4Less a_t x24).bind fun r48 =>
         some r48)
       else (some false)).bind fun o42 =>
     match o42 with
     | c51 => if c51 then (
         (app ([] : List Int) a_t).bind fun z53 =>
         (app c15 ([z53] : List (List Int))).bind fun z57 =>
         (app ([] : List Int) x24).bind fun z64 =>
         (app z57 ([z64] : List (List Int))).bind fun z68 =>
         some (z68, true))
       else (
         (app ([] : List Int) x24).bind fun z75 =>
         (app c15 ([z75] : List (List Int))).bind fun z79 =>
         some (z79, c18))).bind fun o40 =>
   match o40 with
   | (c84, c87) => s_AddTuple_L2 a_t rest23 (k22 + 1) c84 c87
def s_AddTuple_L1 (a_l : List (List Int)) (a_t : List Int) : List (List Int) → Nat → Bool → Option ((List (List Int)))
 | [], k6, c2 => s_AddTuple_L2 a_t a_l 0 ([] : List (List Int)) c2
 | x8 :: rest7, k6, c2 => (bif c2 then (some true)
     else ((s_l2Ints x8 a_t).bind fun r96 =>
       some r96)).bind fun o90 =>
   match o90 with
   | c99 => s_AddTuple_L1 a_l a_t rest7 (k6 + 1) c99
def s_AddTuple (a_l : List (List Int)) (a_t : List Int) : Option ((List (List Int))) :=
 s_AddTuple_L1 a_l a_t a_l 0 false
theorem s_AddTuple_ok (a_l : List (List Int)) (v0_0 : Sv) (a_t : List Int) (v1_0 : Sv) (R : (List (List Int))) (hF : s_AddTuple a_l a_t = some R) :
   Fw.Spec Tryz.prog 144 [v0_0.v, v1_0.v] [crd (RdS 24 (RdS 3 rdInt)) v0_0.v a_l, crd (RdS 3 rdInt) v1_0.v a_t] (fun p : Sv × List Nat => p.1.v) (fun p => [cown (OwnS 24 (OwnS 3 (roE rdInt))) p.2 p.1.v R]) := by
 refine Se 65 Tryz.func144 [.tmp 4] ?_
 intro H0 F0
 unfold s_AddTuple at hF
 iterate 4 refine au ?_
 refine C_new rfl (N_buildSliceT (g := true) sl54.h ty24.h .nil (vs := []) rfl rfl rfl (by simp)) (fun k1 => ?_)
 refine Cv1 (.cons .h .nil) (own_lit (Ro := (OwnS 3 (roE rdInt))) (E := 24) (F := []) (xs := ([] : List (List Int))) MkL_nil rfl rfl) ?_
 iterate 9 refine au ?_
 refine CW_block (CW_loop (m := a_l.length) (fun m4 f' cs' => ∃ (g : Fr) (k6 : Nat) (rest7 : List (List Int)) (c2 : Bool), m4 = rest7.length ∧ f' = updL g [(0, v0_0.v), (1, v1_0.v), (5, (.slice (some ⟨k1, 0, none⟩) 0 1)), (6, (.bool c2)), (7, (.int .i64 (k6 : Int)))] ∧ List.drop k6 a_l = rest7 ∧ Ent cs' [crd (RdS 24 (RdS 3 rdInt)) v0_0.v a_l, crd (RdS 3 rdInt) v1_0.v a_t, cown (OwnS 24 (OwnS 3 (roE rdInt))) (k1 :: []) (.slice (some ⟨k1, 0, none⟩) 0 1) ([] : List (List Int))] ∧ s_AddTuple_L1 a_l a_t rest7 k6 c2 = some R) ⟨_, 0, _, _, rfl, eqA, rfl, entA, hF⟩ ?_)
 rintro m4 _ _ ⟨g5, k6, rest7, c2, rfl, rfl, hd9, hE, hF⟩
 refine Kb hE a_l (fun hbd14 => ?_)
 rcases rest7 with _ | ⟨x8, rest7⟩
 · have hk10 := dn hd9
   rw [s_AddTuple_L1] at hF
   iterate 7 refine au ?_
   refine CdF ?_
   iterate 8 refine au ?_
   refine CW_block (CW_loop (m := a_l.length) (fun m20 f' cs' => ∃ (g : Fr) (k22 : Nat) (rest23 : List (List Int)) (c15 : List (List Int)) (c18 : Bool) (v16 : Sv) (F17 : List Nat), m20 = rest23.length ∧ f' = updL g [(0, v0_0.v), (1, v1_0.v), (5, v16.v), (6, (.bool c18)), (8, (.int .i64 (k22 : Int)))] ∧ List.drop k22 a_l = rest23 ∧ Ent cs' [crd (RdS 24 (RdS 3 rdInt)) v0_0.v a_l, crd (RdS 3 rdInt) v1_0.v a_t, cown (OwnS 24 (OwnS 3 (roE rdInt))) F17 v16.v c15] ∧ s_AddTuple_L2 a_t rest23 k22 c15 c18 = some R) ⟨_, 0, _, _, _, ⟨(some ⟨k1, 0, none⟩), 0, 1⟩, (k1 :: []), rfl, eqA, rfl, entA, hF⟩ ?_)
   rintro m20 _ _ ⟨g21, k22, rest23, c15, c18, v16, F17, rfl, rfl, hd25, hE, hF⟩
   refine Kb hE a_l (fun hbd30 => ?_)
   rcases rest23 with _ | ⟨x24, rest23⟩
   · have hk26 := dn hd25
     rw [s_AddTuple_L2] at hF
     iterate 7 refine au ?_
     refine CdF ?_
     iterate 9 refine au ?_
     refine Ci hF (fun hb39 hF => ?_) (fun hb39 hF => ?_)
     · iterate 2 refine au ?_
       refine C_new rfl (N_buildSliceT (g := true) sl24.h ty3.h .nil (vs := []) rfl rfl rfl (by simp)) (fun k31 => ?_)
       refine Cv1 (.cons .h .nil) (own_lit (Ro := (roE rdInt)) (E := 3) (F := []) (xs := ([] : List Int)) MkL_nil rfl rfl) ?_
       refine au ?_
       refine bnd hF fun z32 hx33 hF => C_x1 (.cons .h (.rd (.t .h) rfl .nil)) (X_appendO (Ro := (roE rdInt)) sl24.h ni24 ty3.h rfl rfl rfl (.tmp rfl rfl) (.tmp rfl rfl) hx33 src_rd) (fun p34 => ?_)
       refine C_new rfl (N_buildSliceT (g := true) sl54.h ty24.h (.cons (.tmp rfl rfl) .nil) (vs := [p34.1.v]) rfl rfl rfl (by intro v hv; simp at hv; rcases hv with rfl <;> rfl)) (fun k35 => ?_)
       refine Cv1 (.cons .h (.cons .h .nil)) (own_lit (Ro := (OwnS 3 (roE rdInt))) (E := 24) (F := (p34.2 ++ [])) (xs := ([z32] : List (List Int))) (MkL_cons Mk_own MkL_nil apps) rfl rfl) ?_
       refine bnd hF fun z36 hx37 hF => C_x1 (.cons (.t (.t (.t .h))) (.cons .h .nil)) (X_appendO (Ro := (OwnS 3 (roE rdInt))) sl54.h ni54 ty24.h rfl rfl rfl (.tmp rfl rfl) (.tmp rfl rfl) hx37 src_own) (fun p38 => ?_)
       iterate 7 refine au ?_
       cases hF
       exact Er (p38.1, p38.2)
     iterate 6 refine au ?_
     cases hF
     exact Er (v16, F17)
   obtain ⟨hk26, hx27, hd28⟩ := drop_cons hd25
   rw [s_AddTuple_L2] at hF
   iterate 7 refine au ?_
   refine CdT ?_
   refine au ?_
   obtain ⟨o40, hio40, hO41⟩ := bind_some hF
   refine K_cut (fun f' cs' => ∃ (c84 : List (List Int)) (c87 : Bool) (v85 : Sv) (F86 : List Nat) (g : Fr), o40 = (c84, c87) ∧ f' = updL g [(0, v0_0.v), (1, v1_0.v), (5, v85.v), (6, (.bool c87)), (8, (.int .i64 (k22 : Int)))] ∧ Ent cs' [crd (RdS 24 (RdS 3 rdInt)) v0_0.v a_l, crd (RdS 3 rdInt) v1_0.v a_t, cown (OwnS 24 (OwnS 3 (roE rdInt))) F86 v85.v c84]) ?_ ?_
   · replace hF := hio40
     refine CW_block (K_in ?_)
     obtain ⟨o42, hio42, hO43⟩ := bind_some hF
     refine au ?_
     refine C_cut (fun f' cs' => ∃ (c51 : Bool) (g : Fr), c51 = o42 ∧ f' = updL g [(0, v0_0.v), (1, v1_0.v), (5, v16.v), (6, (.bool c18)), (8, (.int .i64 (k22 : Int))), (40, (.bool c51))] ∧ Ent cs' [crd (RdS 24 (RdS 3 rdInt)) v0_0.v a_l, crd (RdS 3 rdInt) v1_0.v a_t, cown (OwnS 24 (OwnS 3 (roE rdInt))) F17 v16.v c15]) ?_ ?_
     · replace hF := hio42
       iterate 3 refine au ?_
       rcases Bool.eq_false_or_eq_true (!c18) with hg44 | hg44
       · rw [hg44]
         try rw [hg44] at hF; dsimp only [cond_true, cond_false] at hF
         iterate 7 refine au ?_
         refine Ai hx27 (fun k45 j46 => ?_)
         refine au ?_
         refine C_ldV (R' := (RdS 3 rdInt)) ag24.h (.tmp rfl rfl) .h lv24_0 (fun w47 => ?_)
         refine au ?_
         refine bnd hF fun r48 hx49 hF => Cx0 (s_l4Less_ok _ _ _ _ _ hx49) (fun _ => ?_)
         iterate 2 refine au ?_
         cases hF
         exact ⟨_, _, rfl, eqA, entA⟩
       rw [hg44]
       try rw [hg44] at hF; dsimp only [cond_true, cond_false] at hF
       iterate 8 refine au ?_
       cases hF
       exact ⟨_, _, rfl, eqA, entA⟩
     rintro _ _ ⟨c51, g83, rfl, rfl, hE⟩
     replace hF := hO43
     try dsimp only at hF
     refine K_ent hE ?_
     refine Ci hF (fun hb82 hF => ?_) (fun hb82 hF => ?_)
     · iterate 2 refine au ?_
       refine C_new rfl (N_buildSliceT (g := true) sl24.h ty3.h .nil (vs := []) rfl rfl rfl (by simp)) (fun k52 => ?_)
       refine Cv1 (.cons .h .nil) (own_lit (Ro := (roE rdInt)) (E := 3) (F := []) (xs := ([] : List Int)) MkL_nil rfl rfl) ?_
       refine au ?_
       refine bnd hF fun z53 hx54 hF => C_x1 (.cons .h (.rd (.t .h) rfl .nil)) (X_appendO (Ro := (roE rdInt)) sl24.h ni24 ty3.h rfl rfl rfl (.tmp rfl rfl) (.tmp rfl rfl) hx54 src_rd) (fun p55 => ?_)
       refine C_new rfl (N_buildSliceT (g := true) sl54.h ty24.h (.cons (.tmp rfl rfl) .nil) (vs := [p55.1.v]) rfl rfl rfl (by intro v hv; simp at hv; rcases hv with rfl <;> rfl)) (fun k56 => ?_)
       refine Cv1 (.cons .h (.cons .h .nil)) (own_lit (Ro := (OwnS 3 (roE rdInt))) (E := 24) (F := (p55.2 ++ [])) (xs := ([z53] : List (List Int))) (MkL_cons Mk_own MkL_nil apps) rfl rfl) ?_
       refine bnd hF fun z57 hx58 hF => C_x1 (.cons (.t (.t (.t .h))) (.cons .h .nil)) (X_appendO (Ro := (OwnS 3 (roE rdInt))) sl54.h ni54 ty24.h rfl rfl rfl (.tmp rfl rfl) (.tmp rfl rfl) hx58 src_own) (fun p59 => ?_)
       iterate 7 refine au ?_
       refine C_new rfl (N_buildSliceT (g := true) sl24.h ty3.h .nil (vs := []) rfl rfl rfl (by simp)) (fun k60 => ?_)
       refine Cv1 (.cons .h .nil) (own_lit (Ro := (roE rdInt)) (E := 3) (F := []) (xs := ([] : List Int)) MkL_nil rfl rfl) ?_
       iterate 2 refine au ?_
       refine Ai hx27 (fun k61 j62 => ?_)
       refine C_ldV (R' := (RdS 3 rdInt)) ag24.h (.tmp rfl rfl) .h lv24_0 (fun w63 => ?_)
       refine bnd hF fun z64 hx65 hF => C_x1 (.cons (.t (.t .h)) (.rd .h rfl .nil)) (X_appendO (Ro := (roE rdInt)) sl24.h ni24 ty3.h rfl rfl rfl (.tmp rfl rfl) (.tmp rfl rfl) hx65 src_rd) (fun p66 => ?_)
       refine C_new rfl (N_buildSliceT (g := true) sl54.h ty24.h (.cons (.tmp rfl rfl) .nil) (vs := [p66.1.v]) rfl rfl rfl (by intro v hv; simp at hv; rcases hv with rfl <;> rfl)) (fun k67 => ?_)
       refine Cv1 (.cons .h (.cons .h .nil)) (own_lit (Ro := (OwnS 3 (roE rdInt))) (E := 24) (F := (p66.2 ++ [])) (xs := ([z64] : List (List Int))) (MkL_cons Mk_own MkL_nil apps) rfl rfl) ?_
       refine bnd hF fun z68 hx69 hF => C_x1 (.cons (.t (.t (.t .h))) (.cons .h .nil)) (X_appendO (Ro := (OwnS 3 (roE rdInt))) sl54.h ni54 ty24.h rfl rfl rfl (.tmp rfl rfl) (.tmp rfl rfl) hx69 src_own) (fun p70 => ?_)
       iterate 2 refine au ?_
       cases hF
       exact ⟨_, _, p70.1, p70.2, _, rfl, eqA, entA⟩
     iterate 3 refine au ?_
     refine C_new rfl (N_buildSliceT (g := true) sl24.h ty3.h .nil (vs := []) rfl rfl rfl (by simp)) (fun k71 => ?_)
     refine Cv1 (.cons .h .nil) (own_lit (Ro := (roE rdInt)) (E := 3) (F := []) (xs := ([] : List Int)) MkL_nil rfl rfl) ?_
     iterate 2 refine au ?_
     refine Ai hx27 (fun k72 j73 => ?_)
     refine C_ldV (R' := (RdS 3 rdInt)) ag24.h (.tmp rfl rfl) .h lv24_0 (fun w74 => ?_)
     refine bnd hF fun z75 hx76 hF => C_x1 (.cons (.t (.t .h)) (.rd .h rfl .nil)) (X_appendO (Ro := (roE rdInt)) sl24.h ni24 ty3.h rfl rfl rfl (.tmp rfl rfl) (.tmp rfl rfl) hx76 src_rd) (fun p77 => ?_)
     refine C_new rfl (N_buildSliceT (g := true) sl54.h ty24.h (.cons (.tmp rfl rfl) .nil) (vs := [p77.1.v]) rfl rfl rfl (by intro v hv; simp at hv; rcases hv with rfl <;> rfl)) (fun k78 => ?_)
     refine Cv1 (.cons .h (.cons .h .nil)) (own_lit (Ro := (OwnS 3 (roE rdInt))) (E := 24) (F := (p77.2 ++ [])) (xs := ([z75] : List (List Int))) (MkL_cons Mk_own MkL_nil apps) rfl rfl) ?_
     refine bnd hF fun z79 hx80 hF => C_x1 (.cons (.t (.t (.t (.t (.t .h))))) (.cons .h .nil)) (X_appendO (Ro := (OwnS 3 (roE rdInt))) sl54.h ni54 ty24.h rfl rfl rfl (.tmp rfl rfl) (.tmp rfl rfl) hx80 src_own) (fun p81 => ?_)
     iterate 2 refine au ?_
     cases hF
     exact ⟨_, _, p81.1, p81.2, _, rfl, eqA, entA⟩
   rintro _ _ ⟨c84, c87, v85, F86, g89, rfl, rfl, hE⟩
   replace hF := hO41
   try dsimp only at hF
   refine K_ent hE ?_
   iterate 5 refine au ?_
   rw [wk k22]
   exact ⟨_, Nat.lt_succ_self _, _, k22 + 1, rest23, _, _, v85, F86, rfl, eqA, hd28, entA, hF⟩
 obtain ⟨hk10, hx11, hd12⟩ := drop_cons hd9
 rw [s_AddTuple_L1] at hF
 iterate 7 refine au ?_
 refine CdT ?_
 iterate 2 refine au ?_
 obtain ⟨o90, hio90, hO91⟩ := bind_some hF
 refine au ?_
 refine C_cut (fun f' cs' => ∃ (c99 : Bool) (g : Fr), c99 = o90 ∧ f' = updL g [(0, v0_0.v), (1, v1_0.v), (5, (.slice (some ⟨k1, 0, none⟩) 0 1)), (6, (.bool c99)), (7, (.int .i64 (k6 : Int)))] ∧ Ent cs' [crd (RdS 24 (RdS 3 rdInt)) v0_0.v a_l, crd (RdS 3 rdInt) v1_0.v a_t, cown (OwnS 24 (OwnS 3 (roE rdInt))) (k1 :: []) (.slice (some ⟨k1, 0, none⟩) 0 1) ([] : List (List Int))]) ?_ ?_
 · replace hF := hio90
   iterate 2 refine au ?_
   rcases Bool.eq_false_or_eq_true c2 with hg92 | hg92
   · rw [hg92]
     try rw [hg92] at hF; dsimp only [cond_true, cond_false] at hF
     iterate 9 refine au ?_
     cases hF
     exact ⟨_, _, rfl, eqA, entA⟩
   rw [hg92]
   try rw [hg92] at hF; dsimp only [cond_true, cond_false] at hF
   iterate 5 refine au ?_
   refine Ai hx11 (fun k93 j94 => ?_)
   refine au ?_
   refine C_ldV (R' := (RdS 3 rdInt)) ag24.h (.tmp rfl rfl) .h lv24_0 (fun w95 => ?_)
   iterate 3 refine au ?_
   refine bnd hF fun r96 hx97 hF => Cx0 (s_l2Ints_ok _ _ _ _ _ hx97) (fun _ => ?_)
   iterate 3 refine au ?_
   cases hF
   exact ⟨_, _, rfl, eqA, entA⟩
 rintro _ _ ⟨c99, g101, rfl, rfl, hE⟩
 replace hF := hO91
 try dsimp only at hF
 refine K_ent hE ?_
 iterate 5 refine au ?_
 rw [wk k6]
 exact ⟨_, Nat.lt_succ_self _, _, k6 + 1, rest7, _, rfl, eqA, hd12, entA, hF⟩
end Go.Proofs.YtndckmfbndmkhabGreat
