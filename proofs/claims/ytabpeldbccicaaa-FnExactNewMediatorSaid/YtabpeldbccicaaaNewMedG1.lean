/-
  Functions of the program as Lean functions, and that the calls return what these say: part 2. No conditions.
-/
import Derived.Test.YtabpeldbccicaaaNewMedG0
import Derived.KernelRfl
set_option maxRecDepth 100000
set_option linter.unusedVariables false
namespace Go.Proofs.Ytabpeldbccicaaa
open Go Go.Fw

/-! laws.heldFactS -/
def l_heldFactS_L1 : List Fact → Nat → Int → Option (Int)
  | [], k5, c1 => some c1
  | x7 :: rest6, k5, c1 => if ((x7.Rel : Int) != c1) then (
      some (-1))
    else (
      (l_heldIntS x7.Values (IntKind.i64.wrap (c1 + 1))).bind fun r19 =>
      if (decide ((r19 : Int) < 0)) then (
        some (-1))
      else (
        l_heldFactS_L1 rest6 (k5 + 1) r19))
def l_heldFactS (a_a : List Fact) (a_k : Int) : Option (Int) :=
  l_heldFactS_L1 a_a 0 a_k
theorem l_heldFactS_ok (a_a : List Fact) (v0_0 : Sv) (a_k : Int) (R : Int) (hF : l_heldFactS a_a a_k = some R) :
    Fw.Spec Try.prog 122 [v0_0.v, (.int .i64 a_k)] [crd (RdS 157 rd157) v0_0.v a_a] (fun _ : Unit => (.int .i64 R)) (fun _ => []) := by
  refine Spec_enter (n := 31) Try.func122 rfl rfl (rs := [.tmp 4]) rfl rfl rfl ?_
  intro H0 F0
  unfold l_heldFactS at hF
  refine K_region ?_
  refine C_val (V_assign (v := (.int .i64 0)) (.int _ _)) ?_
  refine C_nil ?_
  refine K_in ?_
  refine K_region ?_
  refine C_val (V_assign (v := (.int .i64 0)) (.int _ _)) ?_
  refine C_nil ?_
  refine CW_block ?_
  refine CW_loop (m := a_a.length) (fun m3 f' cs' => ∃ (g : Fr) (k5 : Nat) (rest6 : List Fact) (c1 : Int), m3 = rest6.length ∧ f' = updL g [(0, v0_0.v), (1, (.int .i64 c1)), (5, (.int .i64 (k5 : Int)))] ∧ List.drop k5 a_a = rest6 ∧ Ent cs' [crd (RdS 157 rd157) v0_0.v a_a] ∧ l_heldFactS_L1 rest6 k5 c1 = some R) ⟨_, 0, _, _, rfl, (EqL.cons rfl (EqL.cons rfl (EqL.cons rfl (EqL.nil)))).eq, rfl, (.sel (.rd .h rfl .nil)), hF⟩ ?_
  clear hF
  rintro m3 _ _ ⟨g4, k5, rest6, c1, rfl, rfl, hd8, hE, hF⟩
  refine K_ent hE ?_
  clear hE
  refine K_pure (c := crd (RdS 157 rd157) v0_0.v a_a) .h crd_bound (fun hbd13 => ?_)
  rcases rest6 with _ | ⟨x7, rest6⟩
  · have hk9 := List.drop_eq_nil_iff.1 hd8
    have hfe12 : (decide (((k5 : Int) : Int) < (a_a.length : Int))) = false := decide_eq_false (by omega)
    rw [l_heldFactS_L1] at hF
    refine K_in ?_
    refine K_region ?_
    refine C_val (V_move (v := (.int .i64 (k5 : Int))) (.tmp rfl rfl)) ?_
    refine C_val (V_move (v := v0_0.v) (.tmp rfl rfl)) ?_
    refine C_at .h (fun hp => V_lenR (l := a_a.length) sl47 (.tmp rfl rfl) (crd_len hp)) ?_
    refine C_val (V_lss (i := (k5 : Int)) (j := (a_a.length : Int)) (.tmp rfl rfl) (.tmp rfl rfl)) ?_
    refine C_nil ?_
    refine CW_cond (b := (decide (((k5 : Int) : Int) < (a_a.length : Int)))) (.tmp rfl rfl) (fun hb => absurd (hfe12.symm.trans hb) (by decide)) (fun _ => ?_)
    refine CW_exit ?_
    refine CThen_exit ?_
    refine CThen_exit ?_
    refine CIn_self ?_
    refine K_region ?_
    refine C_val (V_move (v := (.int .i64 c1)) (.tmp rfl rfl)) ?_
    refine C_val (V_assign (v := (.int .i64 c1)) (.tmp rfl rfl)) ?_
    refine C_nil ?_
    refine CW_ret ?_
    obtain rfl := Option.some.inj hF
    exact End_ret () (.tmp rfl rfl .nil) rfl (.sel .nil)
  obtain ⟨hk9, hx10, hd11⟩ := drop_cons hd8
  have hfe12 : (decide (((k5 : Int) : Int) < (a_a.length : Int))) = true := decide_eq_true (by omega)
  rw [l_heldFactS_L1] at hF
  refine K_in ?_
  refine K_region ?_
  refine C_val (V_move (v := (.int .i64 (k5 : Int))) (.tmp rfl rfl)) ?_
  refine C_val (V_move (v := v0_0.v) (.tmp rfl rfl)) ?_
  refine C_at .h (fun hp => V_lenR (l := a_a.length) sl47 (.tmp rfl rfl) (crd_len hp)) ?_
  refine C_val (V_lss (i := (k5 : Int)) (j := (a_a.length : Int)) (.tmp rfl rfl) (.tmp rfl rfl)) ?_
  refine C_nil ?_
  refine CW_cond (b := (decide (((k5 : Int) : Int) < (a_a.length : Int)))) (.tmp rfl rfl) (fun _ => ?_) (fun hb => absurd (hfe12.symm.trans hb) (by decide))
  refine CW_skip ?_
  refine K_block ?_
  refine K_in ?_
  refine K_region ?_
  refine C_val (V_move (v := v0_0.v) (.tmp rfl rfl)) ?_
  refine C_val (V_move (v := (.int .i64 (k5 : Int))) (.tmp rfl rfl)) ?_
  refine C_idx (a := x7) sl47 ty157.sz (.tmp rfl rfl) (.tmp rfl rfl) .h (Int.natCast_nonneg k5) hx10 (fun k14 j15 => ?_)
  refine C_val (V_fieldAddr (off := 0) fd157_0 (.tmp rfl rfl)) ?_
  refine C_ldS (w := (.int .i64 x7.Rel)) ag3 (.tmp rfl rfl) .h ls157_0 ?_
  refine C_val (V_move (v := (.int .i64 c1)) (.tmp rfl rfl)) ?_
  refine C_val (V_neq (i := x7.Rel) (j := c1) (.tmp rfl rfl) (.tmp rfl rfl)) ?_
  refine C_nil ?_
  refine CW_cond (b := ((x7.Rel : Int) != c1)) (.tmp rfl rfl) (fun hb24 => ?_) (fun hb24 => ?_)
  · rw [if_pos hb24] at hF
    refine K_region ?_
    refine C_val (V_assign (v := (.int .i64 (-1))) (.int _ _)) ?_
    refine C_nil ?_
    refine CW_ret ?_
    obtain rfl := Option.some.inj hF
    exact End_ret () (.tmp rfl rfl .nil) rfl (.sel .nil)
  rw [if_neg (by rw [hb24]; exact Bool.false_ne_true)] at hF
  refine CW_skip ?_
  refine K_region ?_
  refine C_val (V_move (v := (.int .i64 c1)) (.tmp rfl rfl)) ?_
  refine C_val (V_add (i := c1) (j := 1) (.tmp rfl rfl) (.int _ _)) ?_
  refine C_val (V_assign (v := (.int .i64 (IntKind.i64.wrap (c1 + 1)))) (.tmp rfl rfl)) ?_
  refine C_nil ?_
  refine K_region ?_
  refine C_val (V_move (v := v0_0.v) (.tmp rfl rfl)) ?_
  refine C_val (V_move (v := (.int .i64 (k5 : Int))) (.tmp rfl rfl)) ?_
  refine C_idx (a := x7) sl47 ty157.sz (.tmp rfl rfl) (.tmp rfl rfl) (.t .h) (Int.natCast_nonneg k5) hx10 (fun k16 j17 => ?_)
  refine C_val (V_fieldAddr (off := 1) fd157_1 (.tmp rfl rfl)) ?_
  refine C_ldV (R' := (RdS 3 rdInt)) ag45 (.tmp rfl rfl) .h lv157_1 (fun w18 => ?_)
  refine C_val (V_move (v := (.int .i64 (IntKind.i64.wrap (c1 + 1)))) (.tmp rfl rfl)) ?_
  obtain ⟨r19, hx20, hF⟩ := bind_some hF
  refine C_x0 (.rd .h rfl .nil) (X_callS cf37 (.cons (.tmp rfl rfl) (.cons (.tmp rfl rfl) .nil)) (l_heldIntS_ok x7.Values w18 (IntKind.i64.wrap (c1 + 1)) _ hx20)) (fun _ => ?_)
  refine C_val (V_assign (v := (.int .i64 r19)) (.tmp rfl rfl)) ?_
  refine C_nil ?_
  refine K_region ?_
  refine C_val (V_move (v := (.int .i64 r19)) (.tmp rfl rfl)) ?_
  refine C_val (V_lss (i := r19) (j := 0) (.tmp rfl rfl) (.int _ _)) ?_
  refine C_nil ?_
  refine CW_cond (b := (decide ((r19 : Int) < 0))) (.tmp rfl rfl) (fun hb23 => ?_) (fun hb23 => ?_)
  · rw [if_pos hb23] at hF
    refine K_region ?_
    refine C_val (V_assign (v := (.int .i64 (-1))) (.int _ _)) ?_
    refine C_nil ?_
    refine CW_ret ?_
    obtain rfl := Option.some.inj hF
    exact End_ret () (.tmp rfl rfl .nil) rfl (.sel .nil)
  rw [if_neg (by rw [hb23]; exact Bool.false_ne_true)] at hF
  refine CW_skip ?_
  refine CW_region ?_
  refine C_val (V_move (v := (.int .i64 (k5 : Int))) (.tmp rfl rfl)) ?_
  refine C_val (V_add (i := (k5 : Int)) (j := 1) (.tmp rfl rfl) (.int _ _)) ?_
  refine C_val (V_assign (v := (.int .i64 (IntKind.i64.wrap ((k5 : Int) + 1)))) (.tmp rfl rfl)) ?_
  refine C_nil ?_
  have hw22 : IntKind.i64.wrap ((k5 : Int) + 1) = ((k5 + 1 : Nat) : Int) := by rw [wrap_in (by omega) (by omega)]; rfl
  rw [hw22]
  exact ⟨_, Nat.lt_succ_self _, _, k5 + 1, rest6, _, rfl, (EqL.cons rfl (EqL.cons rfl (EqL.cons rfl (EqL.nil)))).eq, hd11, (.sel (.rd (.t (.t (.t .h))) rfl .nil)), hF⟩

/-! laws.heldSource -/
def l_heldSource (a_a : Source) (a_k : Int) : Option (Int) :=
  (l_heldFactS a_a.Facts a_k).bind fun r2 =>
  if (decide ((r2 : Int) < 0)) then (
    some (-1))
  else (
    some r2)
theorem l_heldSource_ok (a_a : Source) (v0_0 : Sv) (a_k : Int) (R : Int) (hF : l_heldSource a_a a_k = some R) :
    Fw.Spec Try.prog 76 [(.agg [v0_0.v, (.int .i64 a_a.Version)].toArray), (.int .i64 a_k)] [crd (RdS 157 rd157) v0_0.v a_a.Facts] (fun _ : Unit => (.int .i64 R)) (fun _ => []) := by
  refine Spec_enter (n := 12) Try.func76 rfl rfl (rs := [.tmp 4]) rfl rfl rfl ?_
  intro H0 F0
  unfold l_heldSource at hF
  refine K_region ?_
  refine C_newR rfl (N_box (g := false) (v := (.agg [v0_0.v, (.int .i64 a_a.Version)].toArray)) ty49.sz (.tmp rfl rfl) rfl) (fun k1 => ?_)
  refine C_val (V_assign (v := (.int .i64 0)) (.int _ _)) ?_
  refine C_nil ?_
  refine K_region ?_
  refine C_val (V_fieldAddr (off := 0) fd49_0 (.tmp rfl rfl)) ?_
  refine C_at .h (fun hp => V_load (v := v0_0.v) ag47 (.tmp rfl rfl) hp.2 rfl rfl) ?_
  refine C_val (V_move (v := (.int .i64 a_k)) (.tmp rfl rfl)) ?_
  obtain ⟨r2, hx3, hF⟩ := bind_some hF
  refine C_x0 (.rd (.t .h) rfl .nil) (X_callS cf122 (.cons (.tmp rfl rfl) (.cons (.tmp rfl rfl) .nil)) (l_heldFactS_ok a_a.Facts v0_0 a_k _ hx3)) (fun _ => ?_)
  refine C_val (V_assign (v := (.int .i64 r2)) (.tmp rfl rfl)) ?_
  refine C_nil ?_
  refine K_in ?_
  refine K_region ?_
  refine C_val (V_move (v := (.int .i64 r2)) (.tmp rfl rfl)) ?_
  refine C_val (V_lss (i := r2) (j := 0) (.tmp rfl rfl) (.int _ _)) ?_
  refine C_nil ?_
  refine CW_cond (b := (decide ((r2 : Int) < 0))) (.tmp rfl rfl) (fun hb5 => ?_) (fun hb5 => ?_)
  · rw [if_pos hb5] at hF
    refine K_region ?_
    refine C_val (V_assign (v := (.int .i64 (-1))) (.int _ _)) ?_
    refine C_nil ?_
    refine CW_ret ?_
    obtain rfl := Option.some.inj hF
    exact End_ret () (.tmp rfl rfl .nil) rfl (.sel .nil)
  rw [if_neg (by rw [hb5]; exact Bool.false_ne_true)] at hF
  refine CW_skip ?_
  refine K_region ?_
  refine C_val (V_move (v := (.int .i64 r2)) (.tmp rfl rfl)) ?_
  refine C_val (V_assign (v := (.int .i64 r2)) (.tmp rfl rfl)) ?_
  refine C_nil ?_
  refine CW_ret ?_
  obtain rfl := Option.some.inj hF
  exact End_ret () (.tmp rfl rfl .nil) rfl (.sel .nil)

/-! laws.heldStoredS -/
def l_heldStoredS_L1 : List Stored → Nat → Int → Option (Int)
  | [], k5, c1 => some c1
  | x7 :: rest6, k5, c1 => if ((x7.Access.Method : Int) != c1) then (
      some (-1))
    else (
      (l_heldIntS x7.Access.Values (IntKind.i64.wrap (c1 + 1))).bind fun r19 =>
      if (decide ((r19 : Int) < 0)) then (
        some (-1))
      else (
        (l_heldFactS x7.Facts r19).bind fun r25 =>
        if (decide ((r25 : Int) < 0)) then (
          some (-1))
        else (
          if ((x7.At : Int) != r25) then (
            some (-1))
          else (
            l_heldStoredS_L1 rest6 (k5 + 1) (IntKind.i64.wrap (r25 + 1))))))
def l_heldStoredS (a_a : List Stored) (a_k : Int) : Option (Int) :=
  l_heldStoredS_L1 a_a 0 a_k
theorem l_heldStoredS_ok (a_a : List Stored) (v0_0 : Sv) (a_k : Int) (R : Int) (hF : l_heldStoredS a_a a_k = some R) :
    Fw.Spec Try.prog 123 [v0_0.v, (.int .i64 a_k)] [crd (RdS 159 rd159) v0_0.v a_a] (fun _ : Unit => (.int .i64 R)) (fun _ => []) := by
  refine Spec_enter (n := 51) Try.func123 rfl rfl (rs := [.tmp 4]) rfl rfl rfl ?_
  intro H0 F0
  unfold l_heldStoredS at hF
  refine K_region ?_
  refine C_val (V_assign (v := (.int .i64 0)) (.int _ _)) ?_
  refine C_nil ?_
  refine K_in ?_
  refine K_region ?_
  refine C_val (V_assign (v := (.int .i64 0)) (.int _ _)) ?_
  refine C_nil ?_
  refine CW_block ?_
  refine CW_loop (m := a_a.length) (fun m3 f' cs' => ∃ (g : Fr) (k5 : Nat) (rest6 : List Stored) (c1 : Int), m3 = rest6.length ∧ f' = updL g [(0, v0_0.v), (1, (.int .i64 c1)), (5, (.int .i64 (k5 : Int)))] ∧ List.drop k5 a_a = rest6 ∧ Ent cs' [crd (RdS 159 rd159) v0_0.v a_a] ∧ l_heldStoredS_L1 rest6 k5 c1 = some R) ⟨_, 0, _, _, rfl, (EqL.cons rfl (EqL.cons rfl (EqL.cons rfl (EqL.nil)))).eq, rfl, (.sel (.rd .h rfl .nil)), hF⟩ ?_
  clear hF
  rintro m3 _ _ ⟨g4, k5, rest6, c1, rfl, rfl, hd8, hE, hF⟩
  refine K_ent hE ?_
  clear hE
  refine K_pure (c := crd (RdS 159 rd159) v0_0.v a_a) .h crd_bound (fun hbd13 => ?_)
  rcases rest6 with _ | ⟨x7, rest6⟩
  · have hk9 := List.drop_eq_nil_iff.1 hd8
    have hfe12 : (decide (((k5 : Int) : Int) < (a_a.length : Int))) = false := decide_eq_false (by omega)
    rw [l_heldStoredS_L1] at hF
    refine K_in ?_
    refine K_region ?_
    refine C_val (V_move (v := (.int .i64 (k5 : Int))) (.tmp rfl rfl)) ?_
    refine C_val (V_move (v := v0_0.v) (.tmp rfl rfl)) ?_
    refine C_at .h (fun hp => V_lenR (l := a_a.length) sl50 (.tmp rfl rfl) (crd_len hp)) ?_
    refine C_val (V_lss (i := (k5 : Int)) (j := (a_a.length : Int)) (.tmp rfl rfl) (.tmp rfl rfl)) ?_
    refine C_nil ?_
    refine CW_cond (b := (decide (((k5 : Int) : Int) < (a_a.length : Int)))) (.tmp rfl rfl) (fun hb => absurd (hfe12.symm.trans hb) (by decide)) (fun _ => ?_)
    refine CW_exit ?_
    refine CThen_exit ?_
    refine CThen_exit ?_
    refine CIn_self ?_
    refine K_region ?_
    refine C_val (V_move (v := (.int .i64 c1)) (.tmp rfl rfl)) ?_
    refine C_val (V_assign (v := (.int .i64 c1)) (.tmp rfl rfl)) ?_
    refine C_nil ?_
    refine CW_ret ?_
    obtain rfl := Option.some.inj hF
    exact End_ret () (.tmp rfl rfl .nil) rfl (.sel .nil)
  obtain ⟨hk9, hx10, hd11⟩ := drop_cons hd8
  have hfe12 : (decide (((k5 : Int) : Int) < (a_a.length : Int))) = true := decide_eq_true (by omega)
  rw [l_heldStoredS_L1] at hF
  refine K_in ?_
  refine K_region ?_
  refine C_val (V_move (v := (.int .i64 (k5 : Int))) (.tmp rfl rfl)) ?_
  refine C_val (V_move (v := v0_0.v) (.tmp rfl rfl)) ?_
  refine C_at .h (fun hp => V_lenR (l := a_a.length) sl50 (.tmp rfl rfl) (crd_len hp)) ?_
  refine C_val (V_lss (i := (k5 : Int)) (j := (a_a.length : Int)) (.tmp rfl rfl) (.tmp rfl rfl)) ?_
  refine C_nil ?_
  refine CW_cond (b := (decide (((k5 : Int) : Int) < (a_a.length : Int)))) (.tmp rfl rfl) (fun _ => ?_) (fun hb => absurd (hfe12.symm.trans hb) (by decide))
  refine CW_skip ?_
  refine K_block ?_
  refine K_in ?_
  refine K_region ?_
  refine C_val (V_move (v := v0_0.v) (.tmp rfl rfl)) ?_
  refine C_val (V_move (v := (.int .i64 (k5 : Int))) (.tmp rfl rfl)) ?_
  refine C_idx (a := x7) sl50 ty159.sz (.tmp rfl rfl) (.tmp rfl rfl) .h (Int.natCast_nonneg k5) hx10 (fun k14 j15 => ?_)
  refine C_val (V_fieldAddr (off := 0) fd159_0 (.tmp rfl rfl)) ?_
  refine C_val (V_fieldAddr (off := 0) fd100_0 (.tmp rfl rfl)) ?_
  refine C_ldS (w := (.int .i64 x7.Access.Method)) ag3 (.tmp rfl rfl) .h ls159_0 ?_
  refine C_val (V_move (v := (.int .i64 c1)) (.tmp rfl rfl)) ?_
  refine C_val (V_neq (i := x7.Access.Method) (j := c1) (.tmp rfl rfl) (.tmp rfl rfl)) ?_
  refine C_nil ?_
  refine CW_cond (b := ((x7.Access.Method : Int) != c1)) (.tmp rfl rfl) (fun hb34 => ?_) (fun hb34 => ?_)
  · rw [if_pos hb34] at hF
    refine K_region ?_
    refine C_val (V_assign (v := (.int .i64 (-1))) (.int _ _)) ?_
    refine C_nil ?_
    refine CW_ret ?_
    obtain rfl := Option.some.inj hF
    exact End_ret () (.tmp rfl rfl .nil) rfl (.sel .nil)
  rw [if_neg (by rw [hb34]; exact Bool.false_ne_true)] at hF
  refine CW_skip ?_
  refine K_region ?_
  refine C_val (V_move (v := (.int .i64 c1)) (.tmp rfl rfl)) ?_
  refine C_val (V_add (i := c1) (j := 1) (.tmp rfl rfl) (.int _ _)) ?_
  refine C_val (V_assign (v := (.int .i64 (IntKind.i64.wrap (c1 + 1)))) (.tmp rfl rfl)) ?_
  refine C_nil ?_
  refine K_region ?_
  refine C_val (V_move (v := v0_0.v) (.tmp rfl rfl)) ?_
  refine C_val (V_move (v := (.int .i64 (k5 : Int))) (.tmp rfl rfl)) ?_
  refine C_idx (a := x7) sl50 ty159.sz (.tmp rfl rfl) (.tmp rfl rfl) (.t .h) (Int.natCast_nonneg k5) hx10 (fun k16 j17 => ?_)
  refine C_val (V_fieldAddr (off := 0) fd159_0 (.tmp rfl rfl)) ?_
  refine C_val (V_fieldAddr (off := 1) fd100_1 (.tmp rfl rfl)) ?_
  refine C_ldV (R' := (RdS 3 rdInt)) ag45 (.tmp rfl rfl) .h lv159_1 (fun w18 => ?_)
  refine C_val (V_move (v := (.int .i64 (IntKind.i64.wrap (c1 + 1)))) (.tmp rfl rfl)) ?_
  obtain ⟨r19, hx20, hF⟩ := bind_some hF
  refine C_x0 (.rd .h rfl .nil) (X_callS cf37 (.cons (.tmp rfl rfl) (.cons (.tmp rfl rfl) .nil)) (l_heldIntS_ok x7.Access.Values w18 (IntKind.i64.wrap (c1 + 1)) _ hx20)) (fun _ => ?_)
  refine C_val (V_assign (v := (.int .i64 r19)) (.tmp rfl rfl)) ?_
  refine C_nil ?_
  refine K_in ?_
  refine K_region ?_
  refine C_val (V_move (v := (.int .i64 r19)) (.tmp rfl rfl)) ?_
  refine C_val (V_lss (i := r19) (j := 0) (.tmp rfl rfl) (.int _ _)) ?_
  refine C_nil ?_
  refine CW_cond (b := (decide ((r19 : Int) < 0))) (.tmp rfl rfl) (fun hb33 => ?_) (fun hb33 => ?_)
  · rw [if_pos hb33] at hF
    refine K_region ?_
    refine C_val (V_assign (v := (.int .i64 (-1))) (.int _ _)) ?_
    refine C_nil ?_
    refine CW_ret ?_
    obtain rfl := Option.some.inj hF
    exact End_ret () (.tmp rfl rfl .nil) rfl (.sel .nil)
  rw [if_neg (by rw [hb33]; exact Bool.false_ne_true)] at hF
  refine CW_skip ?_
  refine K_region ?_
  refine C_val (V_move (v := v0_0.v) (.tmp rfl rfl)) ?_
  refine C_val (V_move (v := (.int .i64 (k5 : Int))) (.tmp rfl rfl)) ?_
  refine C_idx (a := x7) sl50 ty159.sz (.tmp rfl rfl) (.tmp rfl rfl) (.t (.t (.t .h))) (Int.natCast_nonneg k5) hx10 (fun k22 j23 => ?_)
  refine C_val (V_fieldAddr (off := 2) fd159_1 (.tmp rfl rfl)) ?_
  refine C_ldV (R' := (RdS 157 rd157)) ag47 (.tmp rfl rfl) .h lv159_2 (fun w24 => ?_)
  refine C_val (V_move (v := (.int .i64 r19)) (.tmp rfl rfl)) ?_
  obtain ⟨r25, hx26, hF⟩ := bind_some hF
  refine C_x0 (.rd .h rfl .nil) (X_callS cf122 (.cons (.tmp rfl rfl) (.cons (.tmp rfl rfl) .nil)) (l_heldFactS_ok x7.Facts w24 r19 _ hx26)) (fun _ => ?_)
  refine C_val (V_assign (v := (.int .i64 r25)) (.tmp rfl rfl)) ?_
  refine C_nil ?_
  refine K_in ?_
  refine K_region ?_
  refine C_val (V_move (v := (.int .i64 r25)) (.tmp rfl rfl)) ?_
  refine C_val (V_lss (i := r25) (j := 0) (.tmp rfl rfl) (.int _ _)) ?_
  refine C_nil ?_
  refine CW_cond (b := (decide ((r25 : Int) < 0))) (.tmp rfl rfl) (fun hb32 => ?_) (fun hb32 => ?_)
  · rw [if_pos hb32] at hF
    refine K_region ?_
    refine C_val (V_assign (v := (.int .i64 (-1))) (.int _ _)) ?_
    refine C_nil ?_
    refine CW_ret ?_
    obtain rfl := Option.some.inj hF
    exact End_ret () (.tmp rfl rfl .nil) rfl (.sel .nil)
  rw [if_neg (by rw [hb32]; exact Bool.false_ne_true)] at hF
  refine CW_skip ?_
  refine K_in ?_
  refine K_region ?_
  refine C_val (V_move (v := v0_0.v) (.tmp rfl rfl)) ?_
  refine C_val (V_move (v := (.int .i64 (k5 : Int))) (.tmp rfl rfl)) ?_
  refine C_idx (a := x7) sl50 ty159.sz (.tmp rfl rfl) (.tmp rfl rfl) (.t (.t (.t (.t (.t .h))))) (Int.natCast_nonneg k5) hx10 (fun k28 j29 => ?_)
  refine C_val (V_fieldAddr (off := 3) fd159_2 (.tmp rfl rfl)) ?_
  refine C_ldS (w := (.int .i64 x7.At)) ag3 (.tmp rfl rfl) .h ls159_3 ?_
  refine C_val (V_move (v := (.int .i64 r25)) (.tmp rfl rfl)) ?_
  refine C_val (V_neq (i := x7.At) (j := r25) (.tmp rfl rfl) (.tmp rfl rfl)) ?_
  refine C_nil ?_
  refine CW_cond (b := ((x7.At : Int) != r25)) (.tmp rfl rfl) (fun hb31 => ?_) (fun hb31 => ?_)
  · rw [if_pos hb31] at hF
    refine K_region ?_
    refine C_val (V_assign (v := (.int .i64 (-1))) (.int _ _)) ?_
    refine C_nil ?_
    refine CW_ret ?_
    obtain rfl := Option.some.inj hF
    exact End_ret () (.tmp rfl rfl .nil) rfl (.sel .nil)
  rw [if_neg (by rw [hb31]; exact Bool.false_ne_true)] at hF
  refine CW_skip ?_
  refine CW_region ?_
  refine C_val (V_move (v := (.int .i64 r25)) (.tmp rfl rfl)) ?_
  refine C_val (V_add (i := r25) (j := 1) (.tmp rfl rfl) (.int _ _)) ?_
  refine C_val (V_assign (v := (.int .i64 (IntKind.i64.wrap (r25 + 1)))) (.tmp rfl rfl)) ?_
  refine C_nil ?_
  refine CW_region ?_
  refine C_val (V_move (v := (.int .i64 (k5 : Int))) (.tmp rfl rfl)) ?_
  refine C_val (V_add (i := (k5 : Int)) (j := 1) (.tmp rfl rfl) (.int _ _)) ?_
  refine C_val (V_assign (v := (.int .i64 (IntKind.i64.wrap ((k5 : Int) + 1)))) (.tmp rfl rfl)) ?_
  refine C_nil ?_
  have hw30 : IntKind.i64.wrap ((k5 : Int) + 1) = ((k5 + 1 : Nat) : Int) := by rw [wrap_in (by omega) (by omega)]; rfl
  rw [hw30]
  exact ⟨_, Nat.lt_succ_self _, _, k5 + 1, rest6, _, rfl, (EqL.cons rfl (EqL.cons rfl (EqL.cons rfl (EqL.nil)))).eq, hd11, (.sel (.rd (.t (.t (.t (.t (.t (.t .h)))))) rfl .nil)), hF⟩

/-! laws.heldCache -/
def l_heldCache (a_a : Cache) (a_k : Int) : Option (Int) :=
  (l_heldStoredS a_a.Entries a_k).bind fun r2 =>
  if (decide ((r2 : Int) < 0)) then (
    some (-1))
  else (
    some r2)
theorem l_heldCache_ok (a_a : Cache) (v0_0 : Sv) (a_k : Int) (R : Int) (hF : l_heldCache a_a a_k = some R) :
    Fw.Spec Try.prog 77 [(.agg [v0_0.v, (.int .i64 a_a.Age)].toArray), (.int .i64 a_k)] [crd (RdS 159 rd159) v0_0.v a_a.Entries] (fun _ : Unit => (.int .i64 R)) (fun _ => []) := by
  refine Spec_enter (n := 12) Try.func77 rfl rfl (rs := [.tmp 4]) rfl rfl rfl ?_
  intro H0 F0
  unfold l_heldCache at hF
  refine K_region ?_
  refine C_newR rfl (N_box (g := false) (v := (.agg [v0_0.v, (.int .i64 a_a.Age)].toArray)) ty52.sz (.tmp rfl rfl) rfl) (fun k1 => ?_)
  refine C_val (V_assign (v := (.int .i64 0)) (.int _ _)) ?_
  refine C_nil ?_
  refine K_region ?_
  refine C_val (V_fieldAddr (off := 0) fd52_0 (.tmp rfl rfl)) ?_
  refine C_at .h (fun hp => V_load (v := v0_0.v) ag50 (.tmp rfl rfl) hp.2 rfl rfl) ?_
  refine C_val (V_move (v := (.int .i64 a_k)) (.tmp rfl rfl)) ?_
  obtain ⟨r2, hx3, hF⟩ := bind_some hF
  refine C_x0 (.rd (.t .h) rfl .nil) (X_callS cf123 (.cons (.tmp rfl rfl) (.cons (.tmp rfl rfl) .nil)) (l_heldStoredS_ok a_a.Entries v0_0 a_k _ hx3)) (fun _ => ?_)
  refine C_val (V_assign (v := (.int .i64 r2)) (.tmp rfl rfl)) ?_
  refine C_nil ?_
  refine K_in ?_
  refine K_region ?_
  refine C_val (V_move (v := (.int .i64 r2)) (.tmp rfl rfl)) ?_
  refine C_val (V_lss (i := r2) (j := 0) (.tmp rfl rfl) (.int _ _)) ?_
  refine C_nil ?_
  refine CW_cond (b := (decide ((r2 : Int) < 0))) (.tmp rfl rfl) (fun hb5 => ?_) (fun hb5 => ?_)
  · rw [if_pos hb5] at hF
    refine K_region ?_
    refine C_val (V_assign (v := (.int .i64 (-1))) (.int _ _)) ?_
    refine C_nil ?_
    refine CW_ret ?_
    obtain rfl := Option.some.inj hF
    exact End_ret () (.tmp rfl rfl .nil) rfl (.sel .nil)
  rw [if_neg (by rw [hb5]; exact Bool.false_ne_true)] at hF
  refine CW_skip ?_
  refine K_region ?_
  refine C_val (V_move (v := (.int .i64 r2)) (.tmp rfl rfl)) ?_
  refine C_val (V_assign (v := (.int .i64 r2)) (.tmp rfl rfl)) ?_
  refine C_nil ?_
  refine CW_ret ?_
  obtain rfl := Option.some.inj hF
  exact End_ret () (.tmp rfl rfl .nil) rfl (.sel .nil)

/-! laws.heldAccessS -/
def l_heldAccessS_L1 : List Access → Nat → Int → Option (Int)
  | [], k5, c1 => some c1
  | x7 :: rest6, k5, c1 => if ((x7.Method : Int) != c1) then (
      some (-1))
    else (
      (l_heldIntS x7.Values (IntKind.i64.wrap (c1 + 1))).bind fun r19 =>
      if (decide ((r19 : Int) < 0)) then (
        some (-1))
      else (
        l_heldAccessS_L1 rest6 (k5 + 1) r19))
def l_heldAccessS (a_a : List Access) (a_k : Int) : Option (Int) :=
  l_heldAccessS_L1 a_a 0 a_k
theorem l_heldAccessS_ok (a_a : List Access) (v0_0 : Sv) (a_k : Int) (R : Int) (hF : l_heldAccessS a_a a_k = some R) :
    Fw.Spec Try.prog 24 [v0_0.v, (.int .i64 a_k)] [crd (RdS 100 rd100) v0_0.v a_a] (fun _ : Unit => (.int .i64 R)) (fun _ => []) := by
  refine Spec_enter (n := 31) Try.func24 rfl rfl (rs := [.tmp 4]) rfl rfl rfl ?_
  intro H0 F0
  unfold l_heldAccessS at hF
  refine K_region ?_
  refine C_val (V_assign (v := (.int .i64 0)) (.int _ _)) ?_
  refine C_nil ?_
  refine K_in ?_
  refine K_region ?_
  refine C_val (V_assign (v := (.int .i64 0)) (.int _ _)) ?_
  refine C_nil ?_
  refine CW_block ?_
  refine CW_loop (m := a_a.length) (fun m3 f' cs' => ∃ (g : Fr) (k5 : Nat) (rest6 : List Access) (c1 : Int), m3 = rest6.length ∧ f' = updL g [(0, v0_0.v), (1, (.int .i64 c1)), (5, (.int .i64 (k5 : Int)))] ∧ List.drop k5 a_a = rest6 ∧ Ent cs' [crd (RdS 100 rd100) v0_0.v a_a] ∧ l_heldAccessS_L1 rest6 k5 c1 = some R) ⟨_, 0, _, _, rfl, (EqL.cons rfl (EqL.cons rfl (EqL.cons rfl (EqL.nil)))).eq, rfl, (.sel (.rd .h rfl .nil)), hF⟩ ?_
  clear hF
  rintro m3 _ _ ⟨g4, k5, rest6, c1, rfl, rfl, hd8, hE, hF⟩
  refine K_ent hE ?_
  clear hE
  refine K_pure (c := crd (RdS 100 rd100) v0_0.v a_a) .h crd_bound (fun hbd13 => ?_)
  rcases rest6 with _ | ⟨x7, rest6⟩
  · have hk9 := List.drop_eq_nil_iff.1 hd8
    have hfe12 : (decide (((k5 : Int) : Int) < (a_a.length : Int))) = false := decide_eq_false (by omega)
    rw [l_heldAccessS_L1] at hF
    refine K_in ?_
    refine K_region ?_
    refine C_val (V_move (v := (.int .i64 (k5 : Int))) (.tmp rfl rfl)) ?_
    refine C_val (V_move (v := v0_0.v) (.tmp rfl rfl)) ?_
    refine C_at .h (fun hp => V_lenR (l := a_a.length) sl33 (.tmp rfl rfl) (crd_len hp)) ?_
    refine C_val (V_lss (i := (k5 : Int)) (j := (a_a.length : Int)) (.tmp rfl rfl) (.tmp rfl rfl)) ?_
    refine C_nil ?_
    refine CW_cond (b := (decide (((k5 : Int) : Int) < (a_a.length : Int)))) (.tmp rfl rfl) (fun hb => absurd (hfe12.symm.trans hb) (by decide)) (fun _ => ?_)
    refine CW_exit ?_
    refine CThen_exit ?_
    refine CThen_exit ?_
    refine CIn_self ?_
    refine K_region ?_
    refine C_val (V_move (v := (.int .i64 c1)) (.tmp rfl rfl)) ?_
    refine C_val (V_assign (v := (.int .i64 c1)) (.tmp rfl rfl)) ?_
    refine C_nil ?_
    refine CW_ret ?_
    obtain rfl := Option.some.inj hF
    exact End_ret () (.tmp rfl rfl .nil) rfl (.sel .nil)
  obtain ⟨hk9, hx10, hd11⟩ := drop_cons hd8
  have hfe12 : (decide (((k5 : Int) : Int) < (a_a.length : Int))) = true := decide_eq_true (by omega)
  rw [l_heldAccessS_L1] at hF
  refine K_in ?_
  refine K_region ?_
  refine C_val (V_move (v := (.int .i64 (k5 : Int))) (.tmp rfl rfl)) ?_
  refine C_val (V_move (v := v0_0.v) (.tmp rfl rfl)) ?_
  refine C_at .h (fun hp => V_lenR (l := a_a.length) sl33 (.tmp rfl rfl) (crd_len hp)) ?_
  refine C_val (V_lss (i := (k5 : Int)) (j := (a_a.length : Int)) (.tmp rfl rfl) (.tmp rfl rfl)) ?_
  refine C_nil ?_
  refine CW_cond (b := (decide (((k5 : Int) : Int) < (a_a.length : Int)))) (.tmp rfl rfl) (fun _ => ?_) (fun hb => absurd (hfe12.symm.trans hb) (by decide))
  refine CW_skip ?_
  refine K_block ?_
  refine K_in ?_
  refine K_region ?_
  refine C_val (V_move (v := v0_0.v) (.tmp rfl rfl)) ?_
  refine C_val (V_move (v := (.int .i64 (k5 : Int))) (.tmp rfl rfl)) ?_
  refine C_idx (a := x7) sl33 ty100.sz (.tmp rfl rfl) (.tmp rfl rfl) .h (Int.natCast_nonneg k5) hx10 (fun k14 j15 => ?_)
  refine C_val (V_fieldAddr (off := 0) fd100_0 (.tmp rfl rfl)) ?_
  refine C_ldS (w := (.int .i64 x7.Method)) ag3 (.tmp rfl rfl) .h ls100_0 ?_
  refine C_val (V_move (v := (.int .i64 c1)) (.tmp rfl rfl)) ?_
  refine C_val (V_neq (i := x7.Method) (j := c1) (.tmp rfl rfl) (.tmp rfl rfl)) ?_
  refine C_nil ?_
  refine CW_cond (b := ((x7.Method : Int) != c1)) (.tmp rfl rfl) (fun hb24 => ?_) (fun hb24 => ?_)
  · rw [if_pos hb24] at hF
    refine K_region ?_
    refine C_val (V_assign (v := (.int .i64 (-1))) (.int _ _)) ?_
    refine C_nil ?_
    refine CW_ret ?_
    obtain rfl := Option.some.inj hF
    exact End_ret () (.tmp rfl rfl .nil) rfl (.sel .nil)
  rw [if_neg (by rw [hb24]; exact Bool.false_ne_true)] at hF
  refine CW_skip ?_
  refine K_region ?_
  refine C_val (V_move (v := (.int .i64 c1)) (.tmp rfl rfl)) ?_
  refine C_val (V_add (i := c1) (j := 1) (.tmp rfl rfl) (.int _ _)) ?_
  refine C_val (V_assign (v := (.int .i64 (IntKind.i64.wrap (c1 + 1)))) (.tmp rfl rfl)) ?_
  refine C_nil ?_
  refine K_region ?_
  refine C_val (V_move (v := v0_0.v) (.tmp rfl rfl)) ?_
  refine C_val (V_move (v := (.int .i64 (k5 : Int))) (.tmp rfl rfl)) ?_
  refine C_idx (a := x7) sl33 ty100.sz (.tmp rfl rfl) (.tmp rfl rfl) (.t .h) (Int.natCast_nonneg k5) hx10 (fun k16 j17 => ?_)
  refine C_val (V_fieldAddr (off := 1) fd100_1 (.tmp rfl rfl)) ?_
  refine C_ldV (R' := (RdS 3 rdInt)) ag45 (.tmp rfl rfl) .h lv100_1 (fun w18 => ?_)
  refine C_val (V_move (v := (.int .i64 (IntKind.i64.wrap (c1 + 1)))) (.tmp rfl rfl)) ?_
  obtain ⟨r19, hx20, hF⟩ := bind_some hF
  refine C_x0 (.rd .h rfl .nil) (X_callS cf37 (.cons (.tmp rfl rfl) (.cons (.tmp rfl rfl) .nil)) (l_heldIntS_ok x7.Values w18 (IntKind.i64.wrap (c1 + 1)) _ hx20)) (fun _ => ?_)
  refine C_val (V_assign (v := (.int .i64 r19)) (.tmp rfl rfl)) ?_
  refine C_nil ?_
  refine K_region ?_
  refine C_val (V_move (v := (.int .i64 r19)) (.tmp rfl rfl)) ?_
  refine C_val (V_lss (i := r19) (j := 0) (.tmp rfl rfl) (.int _ _)) ?_
  refine C_nil ?_
  refine CW_cond (b := (decide ((r19 : Int) < 0))) (.tmp rfl rfl) (fun hb23 => ?_) (fun hb23 => ?_)
  · rw [if_pos hb23] at hF
    refine K_region ?_
    refine C_val (V_assign (v := (.int .i64 (-1))) (.int _ _)) ?_
    refine C_nil ?_
    refine CW_ret ?_
    obtain rfl := Option.some.inj hF
    exact End_ret () (.tmp rfl rfl .nil) rfl (.sel .nil)
  rw [if_neg (by rw [hb23]; exact Bool.false_ne_true)] at hF
  refine CW_skip ?_
  refine CW_region ?_
  refine C_val (V_move (v := (.int .i64 (k5 : Int))) (.tmp rfl rfl)) ?_
  refine C_val (V_add (i := (k5 : Int)) (j := 1) (.tmp rfl rfl) (.int _ _)) ?_
  refine C_val (V_assign (v := (.int .i64 (IntKind.i64.wrap ((k5 : Int) + 1)))) (.tmp rfl rfl)) ?_
  refine C_nil ?_
  have hw22 : IntKind.i64.wrap ((k5 : Int) + 1) = ((k5 + 1 : Nat) : Int) := by rw [wrap_in (by omega) (by omega)]; rfl
  rw [hw22]
  exact ⟨_, Nat.lt_succ_self _, _, k5 + 1, rest6, _, rfl, (EqL.cons rfl (EqL.cons rfl (EqL.cons rfl (EqL.nil)))).eq, hd11, (.sel (.rd (.t (.t (.t .h))) rfl .nil)), hF⟩

/-! laws.heldIntSS -/
def l_heldIntSS_L1 : List (List Int) → Nat → Int → Option (Int)
  | [], k5, c1 => some c1
  | x7 :: rest6, k5, c1 => (l_heldIntS x7 c1).bind fun r17 =>
    if (decide ((r17 : Int) < 0)) then (
      some (-1))
    else (
      l_heldIntSS_L1 rest6 (k5 + 1) r17)
def l_heldIntSS (a_a : List (List Int)) (a_k : Int) : Option (Int) :=
  l_heldIntSS_L1 a_a 0 a_k
theorem l_heldIntSS_ok (a_a : List (List Int)) (v0_0 : Sv) (a_k : Int) (R : Int) (hF : l_heldIntSS a_a a_k = some R) :
    Fw.Spec Try.prog 124 [v0_0.v, (.int .i64 a_k)] [crd (RdS 45 (RdS 3 rdInt)) v0_0.v a_a] (fun _ : Unit => (.int .i64 R)) (fun _ => []) := by
  refine Spec_enter (n := 21) Try.func124 rfl rfl (rs := [.tmp 4]) rfl rfl rfl ?_
  intro H0 F0
  unfold l_heldIntSS at hF
  refine K_region ?_
  refine C_val (V_assign (v := (.int .i64 0)) (.int _ _)) ?_
  refine C_nil ?_
  refine K_in ?_
  refine K_region ?_
  refine C_val (V_assign (v := (.int .i64 0)) (.int _ _)) ?_
  refine C_nil ?_
  refine CW_block ?_
  refine CW_loop (m := a_a.length) (fun m3 f' cs' => ∃ (g : Fr) (k5 : Nat) (rest6 : List (List Int)) (c1 : Int), m3 = rest6.length ∧ f' = updL g [(0, v0_0.v), (1, (.int .i64 c1)), (5, (.int .i64 (k5 : Int)))] ∧ List.drop k5 a_a = rest6 ∧ Ent cs' [crd (RdS 45 (RdS 3 rdInt)) v0_0.v a_a] ∧ l_heldIntSS_L1 rest6 k5 c1 = some R) ⟨_, 0, _, _, rfl, (EqL.cons rfl (EqL.cons rfl (EqL.cons rfl (EqL.nil)))).eq, rfl, (.sel (.rd .h rfl .nil)), hF⟩ ?_
  clear hF
  rintro m3 _ _ ⟨g4, k5, rest6, c1, rfl, rfl, hd8, hE, hF⟩
  refine K_ent hE ?_
  clear hE
  refine K_pure (c := crd (RdS 45 (RdS 3 rdInt)) v0_0.v a_a) .h crd_bound (fun hbd13 => ?_)
  rcases rest6 with _ | ⟨x7, rest6⟩
  · have hk9 := List.drop_eq_nil_iff.1 hd8
    have hfe12 : (decide (((k5 : Int) : Int) < (a_a.length : Int))) = false := decide_eq_false (by omega)
    rw [l_heldIntSS_L1] at hF
    refine K_in ?_
    refine K_region ?_
    refine C_val (V_move (v := (.int .i64 (k5 : Int))) (.tmp rfl rfl)) ?_
    refine C_val (V_move (v := v0_0.v) (.tmp rfl rfl)) ?_
    refine C_at .h (fun hp => V_lenR (l := a_a.length) sl128 (.tmp rfl rfl) (crd_len hp)) ?_
    refine C_val (V_lss (i := (k5 : Int)) (j := (a_a.length : Int)) (.tmp rfl rfl) (.tmp rfl rfl)) ?_
    refine C_nil ?_
    refine CW_cond (b := (decide (((k5 : Int) : Int) < (a_a.length : Int)))) (.tmp rfl rfl) (fun hb => absurd (hfe12.symm.trans hb) (by decide)) (fun _ => ?_)
    refine CW_exit ?_
    refine CThen_exit ?_
    refine CThen_exit ?_
    refine CIn_self ?_
    refine K_region ?_
    refine C_val (V_move (v := (.int .i64 c1)) (.tmp rfl rfl)) ?_
    refine C_val (V_assign (v := (.int .i64 c1)) (.tmp rfl rfl)) ?_
    refine C_nil ?_
    refine CW_ret ?_
    obtain rfl := Option.some.inj hF
    exact End_ret () (.tmp rfl rfl .nil) rfl (.sel .nil)
  obtain ⟨hk9, hx10, hd11⟩ := drop_cons hd8
  have hfe12 : (decide (((k5 : Int) : Int) < (a_a.length : Int))) = true := decide_eq_true (by omega)
  rw [l_heldIntSS_L1] at hF
  refine K_in ?_
  refine K_region ?_
  refine C_val (V_move (v := (.int .i64 (k5 : Int))) (.tmp rfl rfl)) ?_
  refine C_val (V_move (v := v0_0.v) (.tmp rfl rfl)) ?_
  refine C_at .h (fun hp => V_lenR (l := a_a.length) sl128 (.tmp rfl rfl) (crd_len hp)) ?_
  refine C_val (V_lss (i := (k5 : Int)) (j := (a_a.length : Int)) (.tmp rfl rfl) (.tmp rfl rfl)) ?_
  refine C_nil ?_
  refine CW_cond (b := (decide (((k5 : Int) : Int) < (a_a.length : Int)))) (.tmp rfl rfl) (fun _ => ?_) (fun hb => absurd (hfe12.symm.trans hb) (by decide))
  refine CW_skip ?_
  refine K_block ?_
  refine K_region ?_
  refine C_val (V_move (v := v0_0.v) (.tmp rfl rfl)) ?_
  refine C_val (V_move (v := (.int .i64 (k5 : Int))) (.tmp rfl rfl)) ?_
  refine C_idx (a := x7) sl128 ty45.sz (.tmp rfl rfl) (.tmp rfl rfl) .h (Int.natCast_nonneg k5) hx10 (fun k14 j15 => ?_)
  refine C_ldV (R' := (RdS 3 rdInt)) ag45 (.tmp rfl rfl) .h lv45_0 (fun w16 => ?_)
  refine C_val (V_move (v := (.int .i64 c1)) (.tmp rfl rfl)) ?_
  obtain ⟨r17, hx18, hF⟩ := bind_some hF
  refine C_x0 (.rd .h rfl .nil) (X_callS cf37 (.cons (.tmp rfl rfl) (.cons (.tmp rfl rfl) .nil)) (l_heldIntS_ok x7 w16 c1 _ hx18)) (fun _ => ?_)
  refine C_val (V_assign (v := (.int .i64 r17)) (.tmp rfl rfl)) ?_
  refine C_nil ?_
  refine K_region ?_
  refine C_val (V_move (v := (.int .i64 r17)) (.tmp rfl rfl)) ?_
  refine C_val (V_lss (i := r17) (j := 0) (.tmp rfl rfl) (.int _ _)) ?_
  refine C_nil ?_
  refine CW_cond (b := (decide ((r17 : Int) < 0))) (.tmp rfl rfl) (fun hb21 => ?_) (fun hb21 => ?_)
  · rw [if_pos hb21] at hF
    refine K_region ?_
    refine C_val (V_assign (v := (.int .i64 (-1))) (.int _ _)) ?_
    refine C_nil ?_
    refine CW_ret ?_
    obtain rfl := Option.some.inj hF
    exact End_ret () (.tmp rfl rfl .nil) rfl (.sel .nil)
  rw [if_neg (by rw [hb21]; exact Bool.false_ne_true)] at hF
  refine CW_skip ?_
  refine CW_region ?_
  refine C_val (V_move (v := (.int .i64 (k5 : Int))) (.tmp rfl rfl)) ?_
  refine C_val (V_add (i := (k5 : Int)) (j := 1) (.tmp rfl rfl) (.int _ _)) ?_
  refine C_val (V_assign (v := (.int .i64 (IntKind.i64.wrap ((k5 : Int) + 1)))) (.tmp rfl rfl)) ?_
  refine C_nil ?_
  have hw20 : IntKind.i64.wrap ((k5 : Int) + 1) = ((k5 + 1 : Nat) : Int) := by rw [wrap_in (by omega) (by omega)]; rfl
  rw [hw20]
  exact ⟨_, Nat.lt_succ_self _, _, k5 + 1, rest6, _, rfl, (EqL.cons rfl (EqL.cons rfl (EqL.cons rfl (EqL.nil)))).eq, hd11, (.sel (.rd (.t (.t .h)) rfl .nil)), hF⟩

/-! laws.heldIntSSS -/
def l_heldIntSSS_L1 : List (List (List Int)) → Nat → Int → Option (Int)
  | [], k5, c1 => some c1
  | x7 :: rest6, k5, c1 => (l_heldIntSS x7 c1).bind fun r17 =>
    if (decide ((r17 : Int) < 0)) then (
      some (-1))
    else (
      l_heldIntSSS_L1 rest6 (k5 + 1) r17)
def l_heldIntSSS (a_a : List (List (List Int))) (a_k : Int) : Option (Int) :=
  l_heldIntSSS_L1 a_a 0 a_k
theorem l_heldIntSSS_ok (a_a : List (List (List Int))) (v0_0 : Sv) (a_k : Int) (R : Int) (hF : l_heldIntSSS a_a a_k = some R) :
    Fw.Spec Try.prog 78 [v0_0.v, (.int .i64 a_k)] [crd (RdS 128 (RdS 45 (RdS 3 rdInt))) v0_0.v a_a] (fun _ : Unit => (.int .i64 R)) (fun _ => []) := by
  refine Spec_enter (n := 21) Try.func78 rfl rfl (rs := [.tmp 4]) rfl rfl rfl ?_
  intro H0 F0
  unfold l_heldIntSSS at hF
  refine K_region ?_
  refine C_val (V_assign (v := (.int .i64 0)) (.int _ _)) ?_
  refine C_nil ?_
  refine K_in ?_
  refine K_region ?_
  refine C_val (V_assign (v := (.int .i64 0)) (.int _ _)) ?_
  refine C_nil ?_
  refine CW_block ?_
  refine CW_loop (m := a_a.length) (fun m3 f' cs' => ∃ (g : Fr) (k5 : Nat) (rest6 : List (List (List Int))) (c1 : Int), m3 = rest6.length ∧ f' = updL g [(0, v0_0.v), (1, (.int .i64 c1)), (5, (.int .i64 (k5 : Int)))] ∧ List.drop k5 a_a = rest6 ∧ Ent cs' [crd (RdS 128 (RdS 45 (RdS 3 rdInt))) v0_0.v a_a] ∧ l_heldIntSSS_L1 rest6 k5 c1 = some R) ⟨_, 0, _, _, rfl, (EqL.cons rfl (EqL.cons rfl (EqL.cons rfl (EqL.nil)))).eq, rfl, (.sel (.rd .h rfl .nil)), hF⟩ ?_
  clear hF
  rintro m3 _ _ ⟨g4, k5, rest6, c1, rfl, rfl, hd8, hE, hF⟩
  refine K_ent hE ?_
  clear hE
  refine K_pure (c := crd (RdS 128 (RdS 45 (RdS 3 rdInt))) v0_0.v a_a) .h crd_bound (fun hbd13 => ?_)
  rcases rest6 with _ | ⟨x7, rest6⟩
  · have hk9 := List.drop_eq_nil_iff.1 hd8
    have hfe12 : (decide (((k5 : Int) : Int) < (a_a.length : Int))) = false := decide_eq_false (by omega)
    rw [l_heldIntSSS_L1] at hF
    refine K_in ?_
    refine K_region ?_
    refine C_val (V_move (v := (.int .i64 (k5 : Int))) (.tmp rfl rfl)) ?_
    refine C_val (V_move (v := v0_0.v) (.tmp rfl rfl)) ?_
    refine C_at .h (fun hp => V_lenR (l := a_a.length) sl53 (.tmp rfl rfl) (crd_len hp)) ?_
    refine C_val (V_lss (i := (k5 : Int)) (j := (a_a.length : Int)) (.tmp rfl rfl) (.tmp rfl rfl)) ?_
    refine C_nil ?_
    refine CW_cond (b := (decide (((k5 : Int) : Int) < (a_a.length : Int)))) (.tmp rfl rfl) (fun hb => absurd (hfe12.symm.trans hb) (by decide)) (fun _ => ?_)
    refine CW_exit ?_
    refine CThen_exit ?_
    refine CThen_exit ?_
    refine CIn_self ?_
    refine K_region ?_
    refine C_val (V_move (v := (.int .i64 c1)) (.tmp rfl rfl)) ?_
    refine C_val (V_assign (v := (.int .i64 c1)) (.tmp rfl rfl)) ?_
    refine C_nil ?_
    refine CW_ret ?_
    obtain rfl := Option.some.inj hF
    exact End_ret () (.tmp rfl rfl .nil) rfl (.sel .nil)
  obtain ⟨hk9, hx10, hd11⟩ := drop_cons hd8
  have hfe12 : (decide (((k5 : Int) : Int) < (a_a.length : Int))) = true := decide_eq_true (by omega)
  rw [l_heldIntSSS_L1] at hF
  refine K_in ?_
  refine K_region ?_
  refine C_val (V_move (v := (.int .i64 (k5 : Int))) (.tmp rfl rfl)) ?_
  refine C_val (V_move (v := v0_0.v) (.tmp rfl rfl)) ?_
  refine C_at .h (fun hp => V_lenR (l := a_a.length) sl53 (.tmp rfl rfl) (crd_len hp)) ?_
  refine C_val (V_lss (i := (k5 : Int)) (j := (a_a.length : Int)) (.tmp rfl rfl) (.tmp rfl rfl)) ?_
  refine C_nil ?_
  refine CW_cond (b := (decide (((k5 : Int) : Int) < (a_a.length : Int)))) (.tmp rfl rfl) (fun _ => ?_) (fun hb => absurd (hfe12.symm.trans hb) (by decide))
  refine CW_skip ?_
  refine K_block ?_
  refine K_region ?_
  refine C_val (V_move (v := v0_0.v) (.tmp rfl rfl)) ?_
  refine C_val (V_move (v := (.int .i64 (k5 : Int))) (.tmp rfl rfl)) ?_
  refine C_idx (a := x7) sl53 ty128.sz (.tmp rfl rfl) (.tmp rfl rfl) .h (Int.natCast_nonneg k5) hx10 (fun k14 j15 => ?_)
  refine C_ldV (R' := (RdS 45 (RdS 3 rdInt))) ag128 (.tmp rfl rfl) .h lv128_0 (fun w16 => ?_)
  refine C_val (V_move (v := (.int .i64 c1)) (.tmp rfl rfl)) ?_
  obtain ⟨r17, hx18, hF⟩ := bind_some hF
  refine C_x0 (.rd .h rfl .nil) (X_callS cf124 (.cons (.tmp rfl rfl) (.cons (.tmp rfl rfl) .nil)) (l_heldIntSS_ok x7 w16 c1 _ hx18)) (fun _ => ?_)
  refine C_val (V_assign (v := (.int .i64 r17)) (.tmp rfl rfl)) ?_
  refine C_nil ?_
  refine K_region ?_
  refine C_val (V_move (v := (.int .i64 r17)) (.tmp rfl rfl)) ?_
  refine C_val (V_lss (i := r17) (j := 0) (.tmp rfl rfl) (.int _ _)) ?_
  refine C_nil ?_
  refine CW_cond (b := (decide ((r17 : Int) < 0))) (.tmp rfl rfl) (fun hb21 => ?_) (fun hb21 => ?_)
  · rw [if_pos hb21] at hF
    refine K_region ?_
    refine C_val (V_assign (v := (.int .i64 (-1))) (.int _ _)) ?_
    refine C_nil ?_
    refine CW_ret ?_
    obtain rfl := Option.some.inj hF
    exact End_ret () (.tmp rfl rfl .nil) rfl (.sel .nil)
  rw [if_neg (by rw [hb21]; exact Bool.false_ne_true)] at hF
  refine CW_skip ?_
  refine CW_region ?_
  refine C_val (V_move (v := (.int .i64 (k5 : Int))) (.tmp rfl rfl)) ?_
  refine C_val (V_add (i := (k5 : Int)) (j := 1) (.tmp rfl rfl) (.int _ _)) ?_
  refine C_val (V_assign (v := (.int .i64 (IntKind.i64.wrap ((k5 : Int) + 1)))) (.tmp rfl rfl)) ?_
  refine C_nil ?_
  have hw20 : IntKind.i64.wrap ((k5 : Int) + 1) = ((k5 + 1 : Nat) : Int) := by rw [wrap_in (by omega) (by omega)]; rfl
  rw [hw20]
  exact ⟨_, Nat.lt_succ_self _, _, k5 + 1, rest6, _, rfl, (EqL.cons rfl (EqL.cons rfl (EqL.cons rfl (EqL.nil)))).eq, hd11, (.sel (.rd (.t (.t .h)) rfl .nil)), hF⟩

/-! laws.heldMediator -/
def l_heldMediator (a_a : Mediator) (a_k : Int) : Option (Int) :=
  (l_heldIntS a_a.Schema a_k).bind fun r2 =>
  if (decide ((r2 : Int) < 0)) then (
    some (-1))
  else (
    (l_heldMethodS a_a.Methods r2).bind fun r5 =>
    if (decide ((r5 : Int) < 0)) then (
      some (-1))
    else (
      (l_heldRuleS a_a.Rules r5).bind fun r8 =>
      if (decide ((r8 : Int) < 0)) then (
        some (-1))
      else (
        (l_heldSource a_a.Source r8).bind fun r11 =>
        if (decide ((r11 : Int) < 0)) then (
          some (-1))
        else (
          (l_heldCache a_a.Cache r11).bind fun r14 =>
          if (decide ((r14 : Int) < 0)) then (
            some (-1))
          else (
            (l_heldAccessS a_a.Log r14).bind fun r17 =>
            if (decide ((r17 : Int) < 0)) then (
              some (-1))
            else (
              (l_heldIntS a_a.Times r17).bind fun r20 =>
              if (decide ((r20 : Int) < 0)) then (
                some (-1))
              else (
                (l_heldIntSSS a_a.Results r20).bind fun r23 =>
                if (decide ((r23 : Int) < 0)) then (
                  some (-1))
                else (
                  some r23))))))))
theorem l_heldMediator_ok (a_a : Mediator) (v0_0 : Sv) (v0_1 : Sv) (v0_2 : Sv) (v0_3 : Sv) (v0_5 : Sv) (v0_8 : Sv) (v0_9 : Sv) (v0_11 : Sv) (a_k : Int) (R : Int) (hF : l_heldMediator a_a a_k = some R) :
    Fw.Spec Try.prog 34 [(.agg [v0_0.v, v0_1.v, v0_2.v, v0_3.v, (.int .i64 a_a.Source.Version), v0_5.v, (.int .i64 a_a.Cache.Age), (.int .i64 a_a.Now), v0_8.v, v0_9.v, (.int .i64 a_a.Spent), v0_11.v].toArray), (.int .i64 a_k)] [crd (RdS 3 rdInt) v0_0.v a_a.Schema, crd (RdS 101 rd101) v0_1.v a_a.Methods, crd (RdS 126 rd126) v0_2.v a_a.Rules, crd (RdS 157 rd157) v0_3.v a_a.Source.Facts, crd (RdS 159 rd159) v0_5.v a_a.Cache.Entries, crd (RdS 100 rd100) v0_8.v a_a.Log, crd (RdS 3 rdInt) v0_9.v a_a.Times, crd (RdS 128 (RdS 45 (RdS 3 rdInt))) v0_11.v a_a.Results] (fun _ : Unit => (.int .i64 R)) (fun _ => []) := by
  refine Spec_enter (n := 54) Try.func34 rfl rfl (rs := [.tmp 4]) rfl rfl rfl ?_
  intro H0 F0
  unfold l_heldMediator at hF
  refine K_region ?_
  refine C_newR rfl (N_box (g := false) (v := (.agg [v0_0.v, v0_1.v, v0_2.v, v0_3.v, (.int .i64 a_a.Source.Version), v0_5.v, (.int .i64 a_a.Cache.Age), (.int .i64 a_a.Now), v0_8.v, v0_9.v, (.int .i64 a_a.Spent), v0_11.v].toArray)) ty55.sz (.tmp rfl rfl) rfl) (fun k1 => ?_)
  refine C_val (V_assign (v := (.int .i64 0)) (.int _ _)) ?_
  refine C_nil ?_
  refine K_region ?_
  refine C_val (V_fieldAddr (off := 0) fd55_0 (.tmp rfl rfl)) ?_
  refine C_at .h (fun hp => V_load (v := v0_0.v) ag45 (.tmp rfl rfl) hp.2 rfl rfl) ?_
  refine C_val (V_move (v := (.int .i64 a_k)) (.tmp rfl rfl)) ?_
  obtain ⟨r2, hx3, hF⟩ := bind_some hF
  refine C_x0 (.rd (.t .h) rfl .nil) (X_callS cf37 (.cons (.tmp rfl rfl) (.cons (.tmp rfl rfl) .nil)) (l_heldIntS_ok a_a.Schema v0_0 a_k _ hx3)) (fun _ => ?_)
  refine C_val (V_assign (v := (.int .i64 r2)) (.tmp rfl rfl)) ?_
  refine C_nil ?_
  refine K_in ?_
  refine K_region ?_
  refine C_val (V_move (v := (.int .i64 r2)) (.tmp rfl rfl)) ?_
  refine C_val (V_lss (i := r2) (j := 0) (.tmp rfl rfl) (.int _ _)) ?_
  refine C_nil ?_
  refine CW_cond (b := (decide ((r2 : Int) < 0))) (.tmp rfl rfl) (fun hb33 => ?_) (fun hb33 => ?_)
  · rw [if_pos hb33] at hF
    refine K_region ?_
    refine C_val (V_assign (v := (.int .i64 (-1))) (.int _ _)) ?_
    refine C_nil ?_
    refine CW_ret ?_
    obtain rfl := Option.some.inj hF
    exact End_ret () (.tmp rfl rfl .nil) rfl (.sel .nil)
  rw [if_neg (by rw [hb33]; exact Bool.false_ne_true)] at hF
  refine CW_skip ?_
  refine K_region ?_
  refine C_val (V_fieldAddr (off := 1) fd55_1 (.tmp rfl rfl)) ?_
  refine C_at .h (fun hp => V_load (v := v0_1.v) ag35 (.tmp rfl rfl) hp.2 rfl rfl) ?_
  refine C_val (V_move (v := (.int .i64 r2)) (.tmp rfl rfl)) ?_
  obtain ⟨r5, hx6, hF⟩ := bind_some hF
  refine C_x0 (.rd (.t (.t .h)) rfl .nil) (X_callS cf74 (.cons (.tmp rfl rfl) (.cons (.tmp rfl rfl) .nil)) (l_heldMethodS_ok a_a.Methods v0_1 r2 _ hx6)) (fun _ => ?_)
  refine C_val (V_assign (v := (.int .i64 r5)) (.tmp rfl rfl)) ?_
  refine C_nil ?_
  refine K_in ?_
  refine K_region ?_
  refine C_val (V_move (v := (.int .i64 r5)) (.tmp rfl rfl)) ?_
  refine C_val (V_lss (i := r5) (j := 0) (.tmp rfl rfl) (.int _ _)) ?_
  refine C_nil ?_
  refine CW_cond (b := (decide ((r5 : Int) < 0))) (.tmp rfl rfl) (fun hb32 => ?_) (fun hb32 => ?_)
  · rw [if_pos hb32] at hF
    refine K_region ?_
    refine C_val (V_assign (v := (.int .i64 (-1))) (.int _ _)) ?_
    refine C_nil ?_
    refine CW_ret ?_
    obtain rfl := Option.some.inj hF
    exact End_ret () (.tmp rfl rfl .nil) rfl (.sel .nil)
  rw [if_neg (by rw [hb32]; exact Bool.false_ne_true)] at hF
  refine CW_skip ?_
  refine K_region ?_
  refine C_val (V_fieldAddr (off := 2) fd55_2 (.tmp rfl rfl)) ?_
  refine C_at .h (fun hp => V_load (v := v0_2.v) ag46 (.tmp rfl rfl) hp.2 rfl rfl) ?_
  refine C_val (V_move (v := (.int .i64 r5)) (.tmp rfl rfl)) ?_
  obtain ⟨r8, hx9, hF⟩ := bind_some hF
  refine C_x0 (.rd (.t (.t (.t .h))) rfl .nil) (X_callS cf75 (.cons (.tmp rfl rfl) (.cons (.tmp rfl rfl) .nil)) (l_heldRuleS_ok a_a.Rules v0_2 r5 _ hx9)) (fun _ => ?_)
  refine C_val (V_assign (v := (.int .i64 r8)) (.tmp rfl rfl)) ?_
  refine C_nil ?_
  refine K_in ?_
  refine K_region ?_
  refine C_val (V_move (v := (.int .i64 r8)) (.tmp rfl rfl)) ?_
  refine C_val (V_lss (i := r8) (j := 0) (.tmp rfl rfl) (.int _ _)) ?_
  refine C_nil ?_
  refine CW_cond (b := (decide ((r8 : Int) < 0))) (.tmp rfl rfl) (fun hb31 => ?_) (fun hb31 => ?_)
  · rw [if_pos hb31] at hF
    refine K_region ?_
    refine C_val (V_assign (v := (.int .i64 (-1))) (.int _ _)) ?_
    refine C_nil ?_
    refine CW_ret ?_
    obtain rfl := Option.some.inj hF
    exact End_ret () (.tmp rfl rfl .nil) rfl (.sel .nil)
  rw [if_neg (by rw [hb31]; exact Bool.false_ne_true)] at hF
  refine CW_skip ?_
  refine K_region ?_
  refine C_val (V_fieldAddr (off := 3) fd55_3 (.tmp rfl rfl)) ?_
  refine C_at .h (fun hp => V_loadA (s := 2) (l := [v0_3.v, (.int .i64 a_a.Source.Version)]) ag49 ty49.sz (.tmp rfl rfl) hp.2 rfl (by decide) (Nat.le_of_ble_eq_true rfl) rfl) ?_
  refine C_val (V_move (v := (.int .i64 r8)) (.tmp rfl rfl)) ?_
  obtain ⟨r11, hx12, hF⟩ := bind_some hF
  refine C_x0 (.rd (.t (.t (.t (.t .h)))) rfl .nil) (X_callS cf76 (.cons (.tmp rfl rfl) (.cons (.tmp rfl rfl) .nil)) (l_heldSource_ok a_a.Source v0_3 r8 _ hx12)) (fun _ => ?_)
  refine C_val (V_assign (v := (.int .i64 r11)) (.tmp rfl rfl)) ?_
  refine C_nil ?_
  refine K_in ?_
  refine K_region ?_
  refine C_val (V_move (v := (.int .i64 r11)) (.tmp rfl rfl)) ?_
  refine C_val (V_lss (i := r11) (j := 0) (.tmp rfl rfl) (.int _ _)) ?_
  refine C_nil ?_
  refine CW_cond (b := (decide ((r11 : Int) < 0))) (.tmp rfl rfl) (fun hb30 => ?_) (fun hb30 => ?_)
  · rw [if_pos hb30] at hF
    refine K_region ?_
    refine C_val (V_assign (v := (.int .i64 (-1))) (.int _ _)) ?_
    refine C_nil ?_
    refine CW_ret ?_
    obtain rfl := Option.some.inj hF
    exact End_ret () (.tmp rfl rfl .nil) rfl (.sel .nil)
  rw [if_neg (by rw [hb30]; exact Bool.false_ne_true)] at hF
  refine CW_skip ?_
  refine K_region ?_
  refine C_val (V_fieldAddr (off := 5) fd55_4 (.tmp rfl rfl)) ?_
  refine C_at .h (fun hp => V_loadA (s := 2) (l := [v0_5.v, (.int .i64 a_a.Cache.Age)]) ag52 ty52.sz (.tmp rfl rfl) hp.2 rfl (by decide) (Nat.le_of_ble_eq_true rfl) rfl) ?_
  refine C_val (V_move (v := (.int .i64 r11)) (.tmp rfl rfl)) ?_
  obtain ⟨r14, hx15, hF⟩ := bind_some hF
  refine C_x0 (.rd (.t (.t (.t (.t (.t .h))))) rfl .nil) (X_callS cf77 (.cons (.tmp rfl rfl) (.cons (.tmp rfl rfl) .nil)) (l_heldCache_ok a_a.Cache v0_5 r11 _ hx15)) (fun _ => ?_)
  refine C_val (V_assign (v := (.int .i64 r14)) (.tmp rfl rfl)) ?_
  refine C_nil ?_
  refine K_in ?_
  refine K_region ?_
  refine C_val (V_move (v := (.int .i64 r14)) (.tmp rfl rfl)) ?_
  refine C_val (V_lss (i := r14) (j := 0) (.tmp rfl rfl) (.int _ _)) ?_
  refine C_nil ?_
  refine CW_cond (b := (decide ((r14 : Int) < 0))) (.tmp rfl rfl) (fun hb29 => ?_) (fun hb29 => ?_)
  · rw [if_pos hb29] at hF
    refine K_region ?_
    refine C_val (V_assign (v := (.int .i64 (-1))) (.int _ _)) ?_
    refine C_nil ?_
    refine CW_ret ?_
    obtain rfl := Option.some.inj hF
    exact End_ret () (.tmp rfl rfl .nil) rfl (.sel .nil)
  rw [if_neg (by rw [hb29]; exact Bool.false_ne_true)] at hF
  refine CW_skip ?_
  refine K_region ?_
  refine C_val (V_fieldAddr (off := 8) fd55_6 (.tmp rfl rfl)) ?_
  refine C_at .h (fun hp => V_load (v := v0_8.v) ag33 (.tmp rfl rfl) hp.2 rfl rfl) ?_
  refine C_val (V_move (v := (.int .i64 r14)) (.tmp rfl rfl)) ?_
  obtain ⟨r17, hx18, hF⟩ := bind_some hF
  refine C_x0 (.rd (.t (.t (.t (.t (.t (.t .h)))))) rfl .nil) (X_callS cf24 (.cons (.tmp rfl rfl) (.cons (.tmp rfl rfl) .nil)) (l_heldAccessS_ok a_a.Log v0_8 r14 _ hx18)) (fun _ => ?_)
  refine C_val (V_assign (v := (.int .i64 r17)) (.tmp rfl rfl)) ?_
  refine C_nil ?_
  refine K_in ?_
  refine K_region ?_
  refine C_val (V_move (v := (.int .i64 r17)) (.tmp rfl rfl)) ?_
  refine C_val (V_lss (i := r17) (j := 0) (.tmp rfl rfl) (.int _ _)) ?_
  refine C_nil ?_
  refine CW_cond (b := (decide ((r17 : Int) < 0))) (.tmp rfl rfl) (fun hb28 => ?_) (fun hb28 => ?_)
  · rw [if_pos hb28] at hF
    refine K_region ?_
    refine C_val (V_assign (v := (.int .i64 (-1))) (.int _ _)) ?_
    refine C_nil ?_
    refine CW_ret ?_
    obtain rfl := Option.some.inj hF
    exact End_ret () (.tmp rfl rfl .nil) rfl (.sel .nil)
  rw [if_neg (by rw [hb28]; exact Bool.false_ne_true)] at hF
  refine CW_skip ?_
  refine K_region ?_
  refine C_val (V_fieldAddr (off := 9) fd55_7 (.tmp rfl rfl)) ?_
  refine C_at .h (fun hp => V_load (v := v0_9.v) ag45 (.tmp rfl rfl) hp.2 rfl rfl) ?_
  refine C_val (V_move (v := (.int .i64 r17)) (.tmp rfl rfl)) ?_
  obtain ⟨r20, hx21, hF⟩ := bind_some hF
  refine C_x0 (.rd (.t (.t (.t (.t (.t (.t (.t .h))))))) rfl .nil) (X_callS cf37 (.cons (.tmp rfl rfl) (.cons (.tmp rfl rfl) .nil)) (l_heldIntS_ok a_a.Times v0_9 r17 _ hx21)) (fun _ => ?_)
  refine C_val (V_assign (v := (.int .i64 r20)) (.tmp rfl rfl)) ?_
  refine C_nil ?_
  refine K_in ?_
  refine K_region ?_
  refine C_val (V_move (v := (.int .i64 r20)) (.tmp rfl rfl)) ?_
  refine C_val (V_lss (i := r20) (j := 0) (.tmp rfl rfl) (.int _ _)) ?_
  refine C_nil ?_
  refine CW_cond (b := (decide ((r20 : Int) < 0))) (.tmp rfl rfl) (fun hb27 => ?_) (fun hb27 => ?_)
  · rw [if_pos hb27] at hF
    refine K_region ?_
    refine C_val (V_assign (v := (.int .i64 (-1))) (.int _ _)) ?_
    refine C_nil ?_
    refine CW_ret ?_
    obtain rfl := Option.some.inj hF
    exact End_ret () (.tmp rfl rfl .nil) rfl (.sel .nil)
  rw [if_neg (by rw [hb27]; exact Bool.false_ne_true)] at hF
  refine CW_skip ?_
  refine K_region ?_
  refine C_val (V_fieldAddr (off := 11) fd55_9 (.tmp rfl rfl)) ?_
  refine C_at .h (fun hp => V_load (v := v0_11.v) ag53 (.tmp rfl rfl) hp.2 rfl rfl) ?_
  refine C_val (V_move (v := (.int .i64 r20)) (.tmp rfl rfl)) ?_
  obtain ⟨r23, hx24, hF⟩ := bind_some hF
  refine C_x0 (.rd (.t (.t (.t (.t (.t (.t (.t (.t .h)))))))) rfl .nil) (X_callS cf78 (.cons (.tmp rfl rfl) (.cons (.tmp rfl rfl) .nil)) (l_heldIntSSS_ok a_a.Results v0_11 r20 _ hx24)) (fun _ => ?_)
  refine C_val (V_assign (v := (.int .i64 r23)) (.tmp rfl rfl)) ?_
  refine C_nil ?_
  refine K_in ?_
  refine K_region ?_
  refine C_val (V_move (v := (.int .i64 r23)) (.tmp rfl rfl)) ?_
  refine C_val (V_lss (i := r23) (j := 0) (.tmp rfl rfl) (.int _ _)) ?_
  refine C_nil ?_
  refine CW_cond (b := (decide ((r23 : Int) < 0))) (.tmp rfl rfl) (fun hb26 => ?_) (fun hb26 => ?_)
  · rw [if_pos hb26] at hF
    refine K_region ?_
    refine C_val (V_assign (v := (.int .i64 (-1))) (.int _ _)) ?_
    refine C_nil ?_
    refine CW_ret ?_
    obtain rfl := Option.some.inj hF
    exact End_ret () (.tmp rfl rfl .nil) rfl (.sel .nil)
  rw [if_neg (by rw [hb26]; exact Bool.false_ne_true)] at hF
  refine CW_skip ?_
  refine K_region ?_
  refine C_val (V_move (v := (.int .i64 r23)) (.tmp rfl rfl)) ?_
  refine C_val (V_assign (v := (.int .i64 r23)) (.tmp rfl rfl)) ?_
  refine C_nil ?_
  refine CW_ret ?_
  obtain rfl := Option.some.inj hF
  exact End_ret () (.tmp rfl rfl .nil) rfl (.sel .nil)

/-! laws.FnExactNewMediator -/
def l_FnExactNewMediator (a_aS : List Int) (a_aAge : Int) : Option (Bool) :=
  if (decide ((1048576 : Int) < (a_aS.length : Int))) then (
    some true)
  else (
    (l_toIntS a_aS).bind fun r1 =>
    (s_NewMediator r1 a_aAge).bind fun r4 =>
    (l_toIntS a_aS).bind fun r8 =>
    (i_NewMediator r8 a_aAge).bind fun r11 =>
    ((l_eqMediator r11.1 r4.1).bind fun r17 =>
      bif (!r17) then (some true)
      else (some (!(r11.2 == r4.2)))).bind fun o15 =>
    match o15 with
    | c21 => if c21 then (
        some false)
      else (
        (l_toIntS a_aS).bind fun r22 =>
        (l_eqIntS r8 r22).bind fun r25 =>
        if (!r25) then (
          some false)
        else (
          (l_markIntS r8 1).bind fun r28 =>
          (bif (decide ((r28.1 : Int) < 0)) then (some true)
            else ((l_eqMediator r11.1 r4.1).bind fun r34 =>
              bif (!r34) then (some true)
              else (some (!(r11.2 == r4.2))))).bind fun o31 =>
          match o31 with
          | c38 => if c38 then (
              some false)
            else (
              (l_markMediator r11.1 1).bind fun r39 =>
              (l_heldMediator ({ Schema := r39.2.Schema, Methods := r39.2.Methods, Rules := r39.2.Rules, Source := ({ Facts := r39.2.Source.Facts, Version := r11.1.Source.Version } : Source), Cache := ({ Entries := r39.2.Cache.Entries, Age := r11.1.Cache.Age } : Cache), Now := r11.1.Now, Log := r39.2.Log, Times := r39.2.Times, Spent := r11.1.Spent, Results := r39.2.Results } : Mediator) 1).bind fun r42 =>
              if (decide ((r42 : Int) < 0)) then (
                some false)
              else (
                if ((r42 : Int) != r39.1) then (
                  some false)
                else (
                  (l_toIntS a_aS).bind fun r45 =>
                  (i_NewMediator r45 a_aAge).bind fun r48 =>
                  ((l_eqMediator r48.1 r4.1).bind fun r54 =>
                    bif (!r54) then (some true)
                    else (some (!(r48.2 == r4.2)))).bind fun o52 =>
                  match o52 with
                  | c58 => if c58 then (
                      some false)
                    else (
                      (l_heldMediator ({ Schema := r39.2.Schema, Methods := r39.2.Methods, Rules := r39.2.Rules, Source := ({ Facts := r39.2.Source.Facts, Version := r11.1.Source.Version } : Source), Cache := ({ Entries := r39.2.Cache.Entries, Age := r11.1.Cache.Age } : Cache), Now := r11.1.Now, Log := r39.2.Log, Times := r39.2.Times, Spent := r11.1.Spent, Results := r39.2.Results } : Mediator) 1).bind fun r59 =>
                      if (decide ((r59 : Int) < 0)) then (
                        some false)
                      else (
                        if ((r59 : Int) != r39.1) then (
                          some false)
                        else (
                          some true)))))))))
theorem l_FnExactNewMediator_ok (a_aS : List Int) (v0_0 : Sv) (a_aAge : Int) (R : Bool) (hF : l_FnExactNewMediator a_aS a_aAge = some R) :
    Fw.Spec Try.prog 6 [v0_0.v, (.int .i64 a_aAge)] [crd (RdS 3 rdInt) v0_0.v a_aS] (fun _ : Unit => (.bool R)) (fun _ => []) := by
  refine Spec_enter (n := 98) Try.func6 rfl rfl (rs := [.tmp 4]) rfl rfl rfl ?_
  intro H0 F0
  unfold l_FnExactNewMediator at hF
  refine K_region ?_
  refine C_val (V_assign (v := (.bool false)) (.bool _)) ?_
  refine C_nil ?_
  refine K_in ?_
  refine K_region ?_
  refine C_val (V_move (v := v0_0.v) (.tmp rfl rfl)) ?_
  refine C_at .h (fun hp => V_lenR (l := a_aS.length) sl45 (.tmp rfl rfl) (crd_len hp)) ?_
  refine C_val (V_gtr (i := (a_aS.length : Int)) (j := 1048576) (.tmp rfl rfl) (.int _ _)) ?_
  refine C_nil ?_
  refine CW_cond (b := (decide ((1048576 : Int) < (a_aS.length : Int)))) (.tmp rfl rfl) (fun hb73 => ?_) (fun hb73 => ?_)
  · rw [if_pos hb73] at hF
    refine K_region ?_
    refine C_val (V_assign (v := (.bool true)) (.bool _)) ?_
    refine C_nil ?_
    refine CW_ret ?_
    obtain rfl := Option.some.inj hF
    exact End_ret () (.tmp rfl rfl .nil) rfl (.sel .nil)
  rw [if_neg (by rw [hb73]; exact Bool.false_ne_true)] at hF
  refine CW_skip ?_
  refine K_region ?_
  refine C_val (V_move (v := v0_0.v) (.tmp rfl rfl)) ?_
  obtain ⟨r1, hx2, hF⟩ := bind_some hF
  refine C_x1 (.rd .h rfl .nil) (X_callS cf28 (.cons (.tmp rfl rfl) .nil) (l_toIntS_ok a_aS v0_0 _ hx2)) (fun p3 => ?_)
  refine C_val (V_move (v := (.int .i64 a_aAge)) (.tmp rfl rfl)) ?_
  obtain ⟨r4, hx5, hF⟩ := bind_some hF
  refine C_x9 (.cons .h .nil) (XC_borL (pre := []) (.cons frz_own .nil) (fun _ => (.cons (.cons (.cons (.cons (.cons (.cons (.cons (.cons .nil))))))))) (X_callS cf27 (.cons (.tmp rfl rfl) (.cons (.tmp rfl rfl) .nil)) (s_NewMediator_ok r1 p3.1 a_aAge _ hx5))) (fun p6 => ?_)
  refine C_val (V_move (v := (.tuple [(.agg [p6.1.v, p6.2.2.1.v, p6.2.2.2.2.1.v, p6.2.2.2.2.2.2.1.v, (.int .i64 r4.1.Source.Version), p6.2.2.2.2.2.2.2.2.1.v, (.int .i64 r4.1.Cache.Age), (.int .i64 r4.1.Now), p6.2.2.2.2.2.2.2.2.2.2.1.v, p6.2.2.2.2.2.2.2.2.2.2.2.2.1.v, (.int .i64 r4.1.Spent), p6.2.2.2.2.2.2.2.2.2.2.2.2.2.2.1.v].toArray), (.bool r4.2)].toArray)) (.tmp rfl rfl)) ?_
  refine C_val (V_extract (l := [(.agg [p6.1.v, p6.2.2.1.v, p6.2.2.2.2.1.v, p6.2.2.2.2.2.2.1.v, (.int .i64 r4.1.Source.Version), p6.2.2.2.2.2.2.2.2.1.v, (.int .i64 r4.1.Cache.Age), (.int .i64 r4.1.Now), p6.2.2.2.2.2.2.2.2.2.2.1.v, p6.2.2.2.2.2.2.2.2.2.2.2.2.1.v, (.int .i64 r4.1.Spent), p6.2.2.2.2.2.2.2.2.2.2.2.2.2.2.1.v].toArray), (.bool r4.2)]) (v := (.agg [p6.1.v, p6.2.2.1.v, p6.2.2.2.2.1.v, p6.2.2.2.2.2.2.1.v, (.int .i64 r4.1.Source.Version), p6.2.2.2.2.2.2.2.2.1.v, (.int .i64 r4.1.Cache.Age), (.int .i64 r4.1.Now), p6.2.2.2.2.2.2.2.2.2.2.1.v, p6.2.2.2.2.2.2.2.2.2.2.2.2.1.v, (.int .i64 r4.1.Spent), p6.2.2.2.2.2.2.2.2.2.2.2.2.2.2.1.v].toArray)) (.tmp rfl rfl) rfl) ?_
  refine C_val (V_extract (l := [(.agg [p6.1.v, p6.2.2.1.v, p6.2.2.2.2.1.v, p6.2.2.2.2.2.2.1.v, (.int .i64 r4.1.Source.Version), p6.2.2.2.2.2.2.2.2.1.v, (.int .i64 r4.1.Cache.Age), (.int .i64 r4.1.Now), p6.2.2.2.2.2.2.2.2.2.2.1.v, p6.2.2.2.2.2.2.2.2.2.2.2.2.1.v, (.int .i64 r4.1.Spent), p6.2.2.2.2.2.2.2.2.2.2.2.2.2.2.1.v].toArray), (.bool r4.2)]) (v := (.bool r4.2)) (.tmp rfl rfl) rfl) ?_
  refine C_new rfl (N_allocT (g := true) ty55 rfl rfl) (fun k7 => ?_)
  refine C_x1 (.cons .h .nil) (X_storeB (e := (.agg [(.slice none 0 0), (.slice none 0 0), (.slice none 0 0), (.slice none 0 0), (.int .i64 0), (.slice none 0 0), (.int .i64 0), (.int .i64 0), (.slice none 0 0), (.slice none 0 0), (.int .i64 0), (.slice none 0 0)].toArray)) (e' := (.agg [p6.1.v, p6.2.2.1.v, p6.2.2.2.2.1.v, p6.2.2.2.2.2.2.1.v, (.int .i64 r4.1.Source.Version), p6.2.2.2.2.2.2.2.2.1.v, (.int .i64 r4.1.Cache.Age), (.int .i64 r4.1.Now), p6.2.2.2.2.2.2.2.2.2.2.1.v, p6.2.2.2.2.2.2.2.2.2.2.2.2.1.v, (.int .i64 r4.1.Spent), p6.2.2.2.2.2.2.2.2.2.2.2.2.2.2.1.v].toArray)) (v := (.agg [p6.1.v, p6.2.2.1.v, p6.2.2.2.2.1.v, p6.2.2.2.2.2.2.1.v, (.int .i64 r4.1.Source.Version), p6.2.2.2.2.2.2.2.2.1.v, (.int .i64 r4.1.Cache.Age), (.int .i64 r4.1.Now), p6.2.2.2.2.2.2.2.2.2.2.1.v, p6.2.2.2.2.2.2.2.2.2.2.2.2.1.v, (.int .i64 r4.1.Spent), p6.2.2.2.2.2.2.2.2.2.2.2.2.2.2.1.v].toArray)) ty55.sz (.tmp rfl rfl) (.tmp rfl rfl) rfl rfl rfl rfl rfl) (fun _ => ?_)
  refine C_val (V_assign (v := (.bool r4.2)) (.tmp rfl rfl)) ?_
  refine C_nil ?_
  refine K_region ?_
  refine C_val (V_move (v := v0_0.v) (.tmp rfl rfl)) ?_
  obtain ⟨r8, hx9, hF⟩ := bind_some hF
  refine C_x1 (.rd (.t (.t (.t (.t (.t (.t (.t (.t (.t (.t .h)))))))))) rfl .nil) (X_callS cf28 (.cons (.tmp rfl rfl) .nil) (l_toIntS_ok a_aS v0_0 _ hx9)) (fun p10 => ?_)
  refine C_val (V_assign (v := p10.1.v) (.tmp rfl rfl)) ?_
  refine C_nil ?_
  refine K_region ?_
  refine C_val (V_move (v := p10.1.v) (.tmp rfl rfl)) ?_
  refine C_val (V_move (v := (.int .i64 a_aAge)) (.tmp rfl rfl)) ?_
  obtain ⟨r11, hx12, hF⟩ := bind_some hF
  refine C_x9 (.cons .h .nil) (XC_borL (pre := []) (.cons frz_own .nil) (fun _ => (.cons (.cons (.cons (.cons (.cons (.cons (.cons (.cons .nil))))))))) (X_callS cf29 (.cons (.tmp rfl rfl) (.cons (.tmp rfl rfl) .nil)) (i_NewMediator_ok r8 p10.1 a_aAge _ hx12))) (fun p13 => ?_)
  refine C_val (V_move (v := (.tuple [(.agg [p13.1.v, p13.2.2.1.v, p13.2.2.2.2.1.v, p13.2.2.2.2.2.2.1.v, (.int .i64 r11.1.Source.Version), p13.2.2.2.2.2.2.2.2.1.v, (.int .i64 r11.1.Cache.Age), (.int .i64 r11.1.Now), p13.2.2.2.2.2.2.2.2.2.2.1.v, p13.2.2.2.2.2.2.2.2.2.2.2.2.1.v, (.int .i64 r11.1.Spent), p13.2.2.2.2.2.2.2.2.2.2.2.2.2.2.1.v].toArray), (.bool r11.2)].toArray)) (.tmp rfl rfl)) ?_
  refine C_val (V_extract (l := [(.agg [p13.1.v, p13.2.2.1.v, p13.2.2.2.2.1.v, p13.2.2.2.2.2.2.1.v, (.int .i64 r11.1.Source.Version), p13.2.2.2.2.2.2.2.2.1.v, (.int .i64 r11.1.Cache.Age), (.int .i64 r11.1.Now), p13.2.2.2.2.2.2.2.2.2.2.1.v, p13.2.2.2.2.2.2.2.2.2.2.2.2.1.v, (.int .i64 r11.1.Spent), p13.2.2.2.2.2.2.2.2.2.2.2.2.2.2.1.v].toArray), (.bool r11.2)]) (v := (.agg [p13.1.v, p13.2.2.1.v, p13.2.2.2.2.1.v, p13.2.2.2.2.2.2.1.v, (.int .i64 r11.1.Source.Version), p13.2.2.2.2.2.2.2.2.1.v, (.int .i64 r11.1.Cache.Age), (.int .i64 r11.1.Now), p13.2.2.2.2.2.2.2.2.2.2.1.v, p13.2.2.2.2.2.2.2.2.2.2.2.2.1.v, (.int .i64 r11.1.Spent), p13.2.2.2.2.2.2.2.2.2.2.2.2.2.2.1.v].toArray)) (.tmp rfl rfl) rfl) ?_
  refine C_val (V_extract (l := [(.agg [p13.1.v, p13.2.2.1.v, p13.2.2.2.2.1.v, p13.2.2.2.2.2.2.1.v, (.int .i64 r11.1.Source.Version), p13.2.2.2.2.2.2.2.2.1.v, (.int .i64 r11.1.Cache.Age), (.int .i64 r11.1.Now), p13.2.2.2.2.2.2.2.2.2.2.1.v, p13.2.2.2.2.2.2.2.2.2.2.2.2.1.v, (.int .i64 r11.1.Spent), p13.2.2.2.2.2.2.2.2.2.2.2.2.2.2.1.v].toArray), (.bool r11.2)]) (v := (.bool r11.2)) (.tmp rfl rfl) rfl) ?_
  refine C_new rfl (N_allocT (g := true) ty55 rfl rfl) (fun k14 => ?_)
  refine C_x1 (.cons .h .nil) (X_storeB (e := (.agg [(.slice none 0 0), (.slice none 0 0), (.slice none 0 0), (.slice none 0 0), (.int .i64 0), (.slice none 0 0), (.int .i64 0), (.int .i64 0), (.slice none 0 0), (.slice none 0 0), (.int .i64 0), (.slice none 0 0)].toArray)) (e' := (.agg [p13.1.v, p13.2.2.1.v, p13.2.2.2.2.1.v, p13.2.2.2.2.2.2.1.v, (.int .i64 r11.1.Source.Version), p13.2.2.2.2.2.2.2.2.1.v, (.int .i64 r11.1.Cache.Age), (.int .i64 r11.1.Now), p13.2.2.2.2.2.2.2.2.2.2.1.v, p13.2.2.2.2.2.2.2.2.2.2.2.2.1.v, (.int .i64 r11.1.Spent), p13.2.2.2.2.2.2.2.2.2.2.2.2.2.2.1.v].toArray)) (v := (.agg [p13.1.v, p13.2.2.1.v, p13.2.2.2.2.1.v, p13.2.2.2.2.2.2.1.v, (.int .i64 r11.1.Source.Version), p13.2.2.2.2.2.2.2.2.1.v, (.int .i64 r11.1.Cache.Age), (.int .i64 r11.1.Now), p13.2.2.2.2.2.2.2.2.2.2.1.v, p13.2.2.2.2.2.2.2.2.2.2.2.2.1.v, (.int .i64 r11.1.Spent), p13.2.2.2.2.2.2.2.2.2.2.2.2.2.2.1.v].toArray)) ty55.sz (.tmp rfl rfl) (.tmp rfl rfl) rfl rfl rfl rfl rfl) (fun _ => ?_)
  refine C_val (V_assign (v := (.bool r11.2)) (.tmp rfl rfl)) ?_
  refine C_nil ?_
  refine K_in ?_
  obtain ⟨o15, hio15, hO16⟩ := bind_some hF
  refine K_region ?_
  refine C_cut (fun f' cs' => ∃ (c21 : Bool) (g : Fr), c21 = o15 ∧ f' = updL g [(0, v0_0.v), (1, (.int .i64 a_aAge)), (5, (.pointer (some ⟨k7, 0, some 0⟩))), (6, (.bool r4.2)), (7, p10.1.v), (8, (.pointer (some ⟨k14, 0, some 0⟩))), (9, (.bool r11.2)), (41, (.bool c21))] ∧ Ent cs' [crd (RdS 3 rdInt) v0_0.v a_aS, cbox k7 55 (.agg [p6.1.v, p6.2.2.1.v, p6.2.2.2.2.1.v, p6.2.2.2.2.2.2.1.v, (.int .i64 r4.1.Source.Version), p6.2.2.2.2.2.2.2.2.1.v, (.int .i64 r4.1.Cache.Age), (.int .i64 r4.1.Now), p6.2.2.2.2.2.2.2.2.2.2.1.v, p6.2.2.2.2.2.2.2.2.2.2.2.2.1.v, (.int .i64 r4.1.Spent), p6.2.2.2.2.2.2.2.2.2.2.2.2.2.2.1.v].toArray), cown (OwnS 3 (roE rdInt)) p6.2.1 p6.1.v r4.1.Schema, cown (OwnS 101 ow101) p6.2.2.2.1 p6.2.2.1.v r4.1.Methods, cown (OwnS 126 ow126) p6.2.2.2.2.2.1 p6.2.2.2.2.1.v r4.1.Rules, cown (OwnS 157 ow157) p6.2.2.2.2.2.2.2.1 p6.2.2.2.2.2.2.1.v r4.1.Source.Facts, cown (OwnS 159 ow159) p6.2.2.2.2.2.2.2.2.2.1 p6.2.2.2.2.2.2.2.2.1.v r4.1.Cache.Entries, cown (OwnS 100 ow100) p6.2.2.2.2.2.2.2.2.2.2.2.1 p6.2.2.2.2.2.2.2.2.2.2.1.v r4.1.Log, cown (OwnS 3 (roE rdInt)) p6.2.2.2.2.2.2.2.2.2.2.2.2.2.1 p6.2.2.2.2.2.2.2.2.2.2.2.2.1.v r4.1.Times, cown (OwnS 128 (OwnS 45 (OwnS 3 (roE rdInt)))) p6.2.2.2.2.2.2.2.2.2.2.2.2.2.2.2 p6.2.2.2.2.2.2.2.2.2.2.2.2.2.2.1.v r4.1.Results, cown (OwnS 3 (roE rdInt)) p10.2 p10.1.v r8, cbox k14 55 (.agg [p13.1.v, p13.2.2.1.v, p13.2.2.2.2.1.v, p13.2.2.2.2.2.2.1.v, (.int .i64 r11.1.Source.Version), p13.2.2.2.2.2.2.2.2.1.v, (.int .i64 r11.1.Cache.Age), (.int .i64 r11.1.Now), p13.2.2.2.2.2.2.2.2.2.2.1.v, p13.2.2.2.2.2.2.2.2.2.2.2.2.1.v, (.int .i64 r11.1.Spent), p13.2.2.2.2.2.2.2.2.2.2.2.2.2.2.1.v].toArray), cown (OwnS 3 (roE rdInt)) p13.2.1 p13.1.v r11.1.Schema, cown (OwnS 101 ow101) p13.2.2.2.1 p13.2.2.1.v r11.1.Methods, cown (OwnS 126 ow126) p13.2.2.2.2.2.1 p13.2.2.2.2.1.v r11.1.Rules, cown (OwnS 157 ow157) p13.2.2.2.2.2.2.2.1 p13.2.2.2.2.2.2.1.v r11.1.Source.Facts, cown (OwnS 159 ow159) p13.2.2.2.2.2.2.2.2.2.1 p13.2.2.2.2.2.2.2.2.1.v r11.1.Cache.Entries, cown (OwnS 100 ow100) p13.2.2.2.2.2.2.2.2.2.2.2.1 p13.2.2.2.2.2.2.2.2.2.2.1.v r11.1.Log, cown (OwnS 3 (roE rdInt)) p13.2.2.2.2.2.2.2.2.2.2.2.2.2.1 p13.2.2.2.2.2.2.2.2.2.2.2.2.1.v r11.1.Times, cown (OwnS 128 (OwnS 45 (OwnS 3 (roE rdInt)))) p13.2.2.2.2.2.2.2.2.2.2.2.2.2.2.2 p13.2.2.2.2.2.2.2.2.2.2.2.2.2.2.1.v r11.1.Results]) ?_ ?_
  · replace hF := hio15
    refine C_at .h (fun hp => V_loadBox ag55 ty55.sz rfl (.tmp rfl rfl) hp.2 rfl) ?_
    refine C_at (.t (.t (.t (.t (.t (.t (.t (.t (.t (.t .h)))))))))) (fun hp => V_loadBox ag55 ty55.sz rfl (.tmp rfl rfl) hp.2 rfl) ?_
    obtain ⟨r17, hx18, hF⟩ := bind_some hF
    refine C_x16 (.cons (.t (.t (.t (.t (.t (.t (.t (.t (.t (.t (.t (.t (.t (.t (.t (.t (.t (.t (.t .h))))))))))))))))))) (.cons (.t (.t (.t (.t (.t (.t (.t (.t (.t (.t (.t (.t (.t (.t (.t (.t (.t (.t .h)))))))))))))))))) (.cons (.t (.t (.t (.t (.t (.t (.t (.t (.t (.t (.t (.t (.t (.t (.t (.t (.t .h))))))))))))))))) (.cons (.t (.t (.t (.t (.t (.t (.t (.t (.t (.t (.t (.t (.t (.t (.t (.t .h)))))))))))))))) (.cons (.t (.t (.t (.t (.t (.t (.t (.t (.t (.t (.t (.t (.t (.t (.t .h))))))))))))))) (.cons (.t (.t (.t (.t (.t (.t (.t (.t (.t (.t (.t (.t (.t (.t .h)))))))))))))) (.cons (.t (.t (.t (.t (.t (.t (.t (.t (.t (.t (.t (.t (.t .h))))))))))))) (.cons (.t (.t (.t (.t (.t (.t (.t (.t (.t (.t (.t (.t .h)))))))))))) (.cons (.t (.t (.t (.t (.t (.t (.t (.t (.t .h))))))))) (.cons (.t (.t (.t (.t (.t (.t (.t (.t .h)))))))) (.cons (.t (.t (.t (.t (.t (.t (.t .h))))))) (.cons (.t (.t (.t (.t (.t (.t .h)))))) (.cons (.t (.t (.t (.t (.t .h))))) (.cons (.t (.t (.t (.t .h)))) (.cons (.t (.t (.t .h))) (.cons (.t (.t .h)) .nil)))))))))))))))) (XC_borL (pre := []) (.cons frz_own (.cons frz_own (.cons frz_own (.cons frz_own (.cons frz_own (.cons frz_own (.cons frz_own (.cons frz_own (.cons frz_own (.cons frz_own (.cons frz_own (.cons frz_own (.cons frz_own (.cons frz_own (.cons frz_own (.cons frz_own .nil)))))))))))))))) (fun _ => .nil) (X_callS cf30 (.cons (.tmp rfl rfl) (.cons (.tmp rfl rfl) .nil)) (l_eqMediator_ok r11.1 p13.1 p13.2.2.1 p13.2.2.2.2.1 p13.2.2.2.2.2.2.1 p13.2.2.2.2.2.2.2.2.1 p13.2.2.2.2.2.2.2.2.2.2.1 p13.2.2.2.2.2.2.2.2.2.2.2.2.1 p13.2.2.2.2.2.2.2.2.2.2.2.2.2.2.1 r4.1 p6.1 p6.2.2.1 p6.2.2.2.2.1 p6.2.2.2.2.2.2.1 p6.2.2.2.2.2.2.2.2.1 p6.2.2.2.2.2.2.2.2.2.2.1 p6.2.2.2.2.2.2.2.2.2.2.2.2.1 p6.2.2.2.2.2.2.2.2.2.2.2.2.2.2.1 _ hx18))) (fun _ => ?_)
    refine C_val (V_not (b := r17) (.tmp rfl rfl)) ?_
    refine C_val (V_move (v := (.bool (!r17))) (.tmp rfl rfl)) ?_
    rcases Bool.eq_false_or_eq_true (!r17) with hg20 | hg20
    · rw [hg20]
      try rw [hg20] at hF; dsimp only [cond_true, cond_false] at hF
      refine C_off (t := 37) rfl rfl rfl ?_
      refine C_off (t := 37) rfl rfl rfl ?_
      refine C_off (t := 37) rfl rfl rfl ?_
      refine C_val (V_pick (b := true) (u := (.bool true)) (v := undef) (.tmp rfl rfl) (.bool _) (.tmp rfl rfl)) ?_
      refine C_nil ?_
      obtain rfl := Option.some.inj hF
      exact ⟨_, _, rfl, (EqL.cons rfl (EqL.cons rfl (EqL.cons rfl (EqL.cons rfl (EqL.cons rfl (EqL.cons rfl (EqL.cons rfl (EqL.cons rfl (EqL.nil))))))))).eq, (.sel (.rd (.t (.t (.t (.t (.t (.t (.t (.t (.t (.t (.t (.t (.t (.t (.t (.t (.t (.t (.t (.t .h)))))))))))))))))))) rfl (.cons (.t (.t (.t (.t (.t (.t (.t (.t (.t (.t (.t (.t (.t (.t (.t (.t (.t (.t .h)))))))))))))))))) (.cons (.t (.t (.t (.t (.t (.t (.t .h))))))) (.cons (.t (.t (.t (.t (.t (.t .h)))))) (.cons (.t (.t (.t (.t (.t .h))))) (.cons (.t (.t (.t (.t .h)))) (.cons (.t (.t (.t .h))) (.cons (.t (.t .h)) (.cons (.t .h) (.cons .h (.cons (.t (.t (.t (.t (.t (.t (.t (.t (.t .h))))))))) (.cons (.t (.t (.t (.t (.t (.t (.t (.t .h)))))))) (.cons (.t (.t (.t (.t (.t (.t (.t .h))))))) (.cons (.t (.t (.t (.t (.t (.t .h)))))) (.cons (.t (.t (.t (.t (.t .h))))) (.cons (.t (.t (.t (.t .h)))) (.cons (.t (.t (.t .h))) (.cons (.t (.t .h)) (.cons (.t .h) (.cons .h .nil)))))))))))))))))))))⟩
    rw [hg20]
    try rw [hg20] at hF; dsimp only [cond_true, cond_false] at hF
    refine C_on (t := 37) rfl rfl rfl ?_
    refine C_val (V_move (v := (.bool r11.2)) (.tmp rfl rfl)) ?_
    refine C_on (t := 37) rfl rfl rfl ?_
    refine C_val (V_move (v := (.bool r4.2)) (.tmp rfl rfl)) ?_
    refine C_on (t := 37) rfl rfl rfl ?_
    refine C_val (V_neB (a := r11.2) (b := r4.2) Try.underlying4 (.tmp rfl rfl) (.tmp rfl rfl)) ?_
    refine C_val (V_pick (b := false) (u := (.bool true)) (v := (.bool (!(r11.2 == r4.2)))) (.tmp rfl rfl) (.bool _) (.tmp rfl rfl)) ?_
    refine C_nil ?_
    obtain rfl := Option.some.inj hF
    exact ⟨_, _, rfl, (EqL.cons rfl (EqL.cons rfl (EqL.cons rfl (EqL.cons rfl (EqL.cons rfl (EqL.cons rfl (EqL.cons rfl (EqL.cons rfl (EqL.nil))))))))).eq, (.sel (.rd (.t (.t (.t (.t (.t (.t (.t (.t (.t (.t (.t (.t (.t (.t (.t (.t (.t (.t (.t (.t .h)))))))))))))))))))) rfl (.cons (.t (.t (.t (.t (.t (.t (.t (.t (.t (.t (.t (.t (.t (.t (.t (.t (.t (.t .h)))))))))))))))))) (.cons (.t (.t (.t (.t (.t (.t (.t .h))))))) (.cons (.t (.t (.t (.t (.t (.t .h)))))) (.cons (.t (.t (.t (.t (.t .h))))) (.cons (.t (.t (.t (.t .h)))) (.cons (.t (.t (.t .h))) (.cons (.t (.t .h)) (.cons (.t .h) (.cons .h (.cons (.t (.t (.t (.t (.t (.t (.t (.t (.t .h))))))))) (.cons (.t (.t (.t (.t (.t (.t (.t (.t .h)))))))) (.cons (.t (.t (.t (.t (.t (.t (.t .h))))))) (.cons (.t (.t (.t (.t (.t (.t .h)))))) (.cons (.t (.t (.t (.t (.t .h))))) (.cons (.t (.t (.t (.t .h)))) (.cons (.t (.t (.t .h))) (.cons (.t (.t .h)) (.cons (.t .h) (.cons .h .nil)))))))))))))))))))))⟩
  rintro _ _ ⟨c21, g72, rfl, rfl, hE⟩
  replace hF := hO16
  clear hO16
  try dsimp only at hF
  refine K_ent hE ?_
  refine CW_cond (b := c21) (.tmp rfl rfl) (fun hb71 => ?_) (fun hb71 => ?_)
  · rw [if_pos hb71] at hF
    refine K_region ?_
    refine C_val (V_assign (v := (.bool false)) (.bool _)) ?_
    refine C_nil ?_
    refine CW_ret ?_
    obtain rfl := Option.some.inj hF
    exact End_ret () (.tmp rfl rfl .nil) rfl (.sel .nil)
  rw [if_neg (by rw [hb71]; exact Bool.false_ne_true)] at hF
  refine CW_skip ?_
  refine K_in ?_
  refine K_region ?_
  refine C_val (V_move (v := p10.1.v) (.tmp rfl rfl)) ?_
  refine C_val (V_move (v := v0_0.v) (.tmp rfl rfl)) ?_
  obtain ⟨r22, hx23, hF⟩ := bind_some hF
  refine C_x1 (.rd .h rfl .nil) (X_callS cf28 (.cons (.tmp rfl rfl) .nil) (l_toIntS_ok a_aS v0_0 _ hx23)) (fun p24 => ?_)
  obtain ⟨r25, hx26, hF⟩ := bind_some hF
  refine C_x2 (.cons .h (.cons (.t (.t (.t (.t (.t (.t (.t (.t (.t (.t .h)))))))))) .nil)) (XC_borL (pre := []) (.cons frz_own (.cons frz_own .nil)) (fun _ => .nil) (X_callS cf31 (.cons (.tmp rfl rfl) (.cons (.tmp rfl rfl) .nil)) (l_eqIntS_ok r8 p10.1 r22 p24.1 _ hx26))) (fun _ => ?_)
  refine C_val (V_not (b := r25) (.tmp rfl rfl)) ?_
  refine C_nil ?_
  refine CW_cond (b := (!r25)) (.tmp rfl rfl) (fun hb70 => ?_) (fun hb70 => ?_)
  · rw [if_pos hb70] at hF
    refine K_region ?_
    refine C_val (V_assign (v := (.bool false)) (.bool _)) ?_
    refine C_nil ?_
    refine CW_ret ?_
    obtain rfl := Option.some.inj hF
    exact End_ret () (.tmp rfl rfl .nil) rfl (.sel .nil)
  rw [if_neg (by rw [hb70]; exact Bool.false_ne_true)] at hF
  refine CW_skip ?_
  refine K_region ?_
  refine C_val (V_assign (v := (.int .i64 1)) (.int _ _)) ?_
  refine C_nil ?_
  refine K_region ?_
  refine C_val (V_move (v := p10.1.v) (.tmp rfl rfl)) ?_
  refine C_val (V_move (v := (.int .i64 1)) (.tmp rfl rfl)) ?_
  obtain ⟨r28, hx29, hF⟩ := bind_some hF
  refine C_x1 (.cons (.t .h) .nil) (X_callS cf32 (.cons (.tmp rfl rfl) (.cons (.tmp rfl rfl) .nil)) (l_markIntS_ok r8 p10.1 p10.2 1 _ hx29)) (fun p30 => ?_)
  refine C_val (V_assign (v := (.int .i64 r28.1)) (.tmp rfl rfl)) ?_
  refine C_nil ?_
  refine K_in ?_
  obtain ⟨o31, hio31, hO32⟩ := bind_some hF
  refine K_region ?_
  refine C_cut (fun f' cs' => ∃ (c38 : Bool) (g : Fr), c38 = o31 ∧ f' = updL g [(0, v0_0.v), (1, (.int .i64 a_aAge)), (5, (.pointer (some ⟨k7, 0, some 0⟩))), (6, (.bool r4.2)), (8, (.pointer (some ⟨k14, 0, some 0⟩))), (62, (.bool c38))] ∧ Ent cs' [crd (RdS 3 rdInt) v0_0.v a_aS, cbox k7 55 (.agg [p6.1.v, p6.2.2.1.v, p6.2.2.2.2.1.v, p6.2.2.2.2.2.2.1.v, (.int .i64 r4.1.Source.Version), p6.2.2.2.2.2.2.2.2.1.v, (.int .i64 r4.1.Cache.Age), (.int .i64 r4.1.Now), p6.2.2.2.2.2.2.2.2.2.2.1.v, p6.2.2.2.2.2.2.2.2.2.2.2.2.1.v, (.int .i64 r4.1.Spent), p6.2.2.2.2.2.2.2.2.2.2.2.2.2.2.1.v].toArray), cown (OwnS 3 (roE rdInt)) p6.2.1 p6.1.v r4.1.Schema, cown (OwnS 101 ow101) p6.2.2.2.1 p6.2.2.1.v r4.1.Methods, cown (OwnS 126 ow126) p6.2.2.2.2.2.1 p6.2.2.2.2.1.v r4.1.Rules, cown (OwnS 157 ow157) p6.2.2.2.2.2.2.2.1 p6.2.2.2.2.2.2.1.v r4.1.Source.Facts, cown (OwnS 159 ow159) p6.2.2.2.2.2.2.2.2.2.1 p6.2.2.2.2.2.2.2.2.1.v r4.1.Cache.Entries, cown (OwnS 100 ow100) p6.2.2.2.2.2.2.2.2.2.2.2.1 p6.2.2.2.2.2.2.2.2.2.2.1.v r4.1.Log, cown (OwnS 3 (roE rdInt)) p6.2.2.2.2.2.2.2.2.2.2.2.2.2.1 p6.2.2.2.2.2.2.2.2.2.2.2.2.1.v r4.1.Times, cown (OwnS 128 (OwnS 45 (OwnS 3 (roE rdInt)))) p6.2.2.2.2.2.2.2.2.2.2.2.2.2.2.2 p6.2.2.2.2.2.2.2.2.2.2.2.2.2.2.1.v r4.1.Results, cbox k14 55 (.agg [p13.1.v, p13.2.2.1.v, p13.2.2.2.2.1.v, p13.2.2.2.2.2.2.1.v, (.int .i64 r11.1.Source.Version), p13.2.2.2.2.2.2.2.2.1.v, (.int .i64 r11.1.Cache.Age), (.int .i64 r11.1.Now), p13.2.2.2.2.2.2.2.2.2.2.1.v, p13.2.2.2.2.2.2.2.2.2.2.2.2.1.v, (.int .i64 r11.1.Spent), p13.2.2.2.2.2.2.2.2.2.2.2.2.2.2.1.v].toArray), cown (OwnS 3 (roE rdInt)) p13.2.1 p13.1.v r11.1.Schema, cown (OwnS 101 ow101) p13.2.2.2.1 p13.2.2.1.v r11.1.Methods, cown (OwnS 126 ow126) p13.2.2.2.2.2.1 p13.2.2.2.2.1.v r11.1.Rules, cown (OwnS 157 ow157) p13.2.2.2.2.2.2.2.1 p13.2.2.2.2.2.2.1.v r11.1.Source.Facts, cown (OwnS 159 ow159) p13.2.2.2.2.2.2.2.2.2.1 p13.2.2.2.2.2.2.2.2.1.v r11.1.Cache.Entries, cown (OwnS 100 ow100) p13.2.2.2.2.2.2.2.2.2.2.2.1 p13.2.2.2.2.2.2.2.2.2.2.1.v r11.1.Log, cown (OwnS 3 (roE rdInt)) p13.2.2.2.2.2.2.2.2.2.2.2.2.2.1 p13.2.2.2.2.2.2.2.2.2.2.2.2.1.v r11.1.Times, cown (OwnS 128 (OwnS 45 (OwnS 3 (roE rdInt)))) p13.2.2.2.2.2.2.2.2.2.2.2.2.2.2.2 p13.2.2.2.2.2.2.2.2.2.2.2.2.2.2.1.v r11.1.Results]) ?_ ?_
  · replace hF := hio31
    refine C_val (V_move (v := (.int .i64 r28.1)) (.tmp rfl rfl)) ?_
    refine C_val (V_lss (i := r28.1) (j := 0) (.tmp rfl rfl) (.int _ _)) ?_
    refine C_val (V_move (v := (.bool (decide ((r28.1 : Int) < 0)))) (.tmp rfl rfl)) ?_
    rcases Bool.eq_false_or_eq_true (decide ((r28.1 : Int) < 0)) with hg33 | hg33
    · rw [hg33]
      try rw [hg33] at hF; dsimp only [cond_true, cond_false] at hF
      refine C_off (t := 52) rfl rfl rfl ?_
      refine C_off (t := 52) rfl rfl rfl ?_
      refine C_off (t := 52) rfl rfl rfl ?_
      refine C_off (t := 52) rfl rfl rfl ?_
      refine C_val (V_pick (b := true) (u := (.bool true)) (v := undef) (.tmp rfl rfl) (.bool _) (.tmp rfl rfl)) ?_
      refine C_val (V_move (v := (.bool true)) (.tmp rfl rfl)) ?_
      refine C_off (t := 58) rfl rfl rfl ?_
      refine C_off (t := 58) rfl rfl rfl ?_
      refine C_off (t := 58) rfl rfl rfl ?_
      refine C_val (V_pick (b := true) (u := (.bool true)) (v := undef) (.tmp rfl rfl) (.bool _) (.tmp rfl rfl)) ?_
      refine C_nil ?_
      obtain rfl := Option.some.inj hF
      exact ⟨_, _, rfl, (EqL.cons rfl (EqL.cons rfl (EqL.cons rfl (EqL.cons rfl (EqL.cons rfl (EqL.cons rfl (EqL.nil))))))).eq, (.sel (.rd (.t (.t .h)) rfl (.cons (.t (.t (.t .h))) (.cons (.t (.t (.t .h))) (.cons (.t (.t (.t .h))) (.cons (.t (.t (.t .h))) (.cons (.t (.t (.t .h))) (.cons (.t (.t (.t .h))) (.cons (.t (.t (.t .h))) (.cons (.t (.t (.t .h))) (.cons (.t (.t (.t .h))) (.cons (.t (.t (.t .h))) (.cons (.t (.t (.t .h))) (.cons (.t (.t (.t .h))) (.cons (.t (.t (.t .h))) (.cons (.t (.t (.t .h))) (.cons (.t (.t (.t .h))) (.cons (.t (.t (.t .h))) (.cons (.t (.t (.t .h))) (.cons (.t (.t (.t .h))) .nil))))))))))))))))))))⟩
    rw [hg33]
    try rw [hg33] at hF; dsimp only [cond_true, cond_false] at hF
    refine C_on (t := 52) rfl rfl rfl ?_
    refine C_at (.t (.t (.t (.t (.t (.t (.t (.t (.t (.t (.t (.t .h)))))))))))) (fun hp => V_loadBox ag55 ty55.sz rfl (.tmp rfl rfl) hp.2 rfl) ?_
    refine C_on (t := 52) rfl rfl rfl ?_
    refine C_at (.t (.t (.t .h))) (fun hp => V_loadBox ag55 ty55.sz rfl (.tmp rfl rfl) hp.2 rfl) ?_
    refine C_on (t := 52) rfl rfl rfl ?_
    obtain ⟨r34, hx35, hF⟩ := bind_some hF
    refine C_x16 (.cons (.t (.t (.t (.t (.t (.t (.t (.t (.t (.t (.t .h))))))))))) (.cons (.t (.t (.t (.t (.t (.t (.t (.t (.t (.t .h)))))))))) (.cons (.t (.t (.t (.t (.t (.t (.t (.t (.t .h))))))))) (.cons (.t (.t (.t (.t (.t (.t (.t (.t .h)))))))) (.cons (.t (.t (.t (.t (.t (.t (.t .h))))))) (.cons (.t (.t (.t (.t (.t (.t .h)))))) (.cons (.t (.t (.t (.t (.t .h))))) (.cons (.t (.t (.t (.t .h)))) (.cons (.t (.t (.t (.t (.t (.t (.t (.t (.t (.t (.t (.t .h)))))))))))) (.cons (.t (.t (.t (.t (.t (.t (.t (.t (.t (.t (.t .h))))))))))) (.cons (.t (.t (.t (.t (.t (.t (.t (.t (.t (.t .h)))))))))) (.cons (.t (.t (.t (.t (.t (.t (.t (.t (.t .h))))))))) (.cons (.t (.t (.t (.t (.t (.t (.t (.t .h)))))))) (.cons (.t (.t (.t (.t (.t (.t (.t .h))))))) (.cons (.t (.t (.t (.t (.t (.t .h)))))) (.cons (.t (.t (.t (.t (.t .h))))) .nil)))))))))))))))) (XC_borL (pre := []) (.cons frz_own (.cons frz_own (.cons frz_own (.cons frz_own (.cons frz_own (.cons frz_own (.cons frz_own (.cons frz_own (.cons frz_own (.cons frz_own (.cons frz_own (.cons frz_own (.cons frz_own (.cons frz_own (.cons frz_own (.cons frz_own .nil)))))))))))))))) (fun _ => .nil) (X_callS cf30 (.cons (.tmp rfl rfl) (.cons (.tmp rfl rfl) .nil)) (l_eqMediator_ok r11.1 p13.1 p13.2.2.1 p13.2.2.2.2.1 p13.2.2.2.2.2.2.1 p13.2.2.2.2.2.2.2.2.1 p13.2.2.2.2.2.2.2.2.2.2.1 p13.2.2.2.2.2.2.2.2.2.2.2.2.1 p13.2.2.2.2.2.2.2.2.2.2.2.2.2.2.1 r4.1 p6.1 p6.2.2.1 p6.2.2.2.2.1 p6.2.2.2.2.2.2.1 p6.2.2.2.2.2.2.2.2.1 p6.2.2.2.2.2.2.2.2.2.2.1 p6.2.2.2.2.2.2.2.2.2.2.2.2.1 p6.2.2.2.2.2.2.2.2.2.2.2.2.2.2.1 _ hx35))) (fun _ => ?_)
    refine C_on (t := 52) rfl rfl rfl ?_
    refine C_val (V_not (b := r34) (.tmp rfl rfl)) ?_
    refine C_val (V_pick (b := false) (u := (.bool true)) (v := (.bool (!r34))) (.tmp rfl rfl) (.bool _) (.tmp rfl rfl)) ?_
    refine C_val (V_move (v := (.bool (!r34))) (.tmp rfl rfl)) ?_
    rcases Bool.eq_false_or_eq_true (!r34) with hg37 | hg37
    · rw [hg37]
      try rw [hg37] at hF; dsimp only [cond_true, cond_false] at hF
      refine C_off (t := 58) rfl rfl rfl ?_
      refine C_off (t := 58) rfl rfl rfl ?_
      refine C_off (t := 58) rfl rfl rfl ?_
      refine C_val (V_pick (b := true) (u := (.bool true)) (v := undef) (.tmp rfl rfl) (.bool _) (.tmp rfl rfl)) ?_
      refine C_nil ?_
      obtain rfl := Option.some.inj hF
      exact ⟨_, _, rfl, (EqL.cons rfl (EqL.cons rfl (EqL.cons rfl (EqL.cons rfl (EqL.cons rfl (EqL.cons rfl (EqL.nil))))))).eq, (.sel (.rd (.t (.t (.t (.t (.t (.t (.t (.t (.t (.t (.t (.t (.t (.t (.t (.t (.t (.t .h)))))))))))))))))) rfl (.cons (.t (.t (.t (.t (.t (.t (.t (.t (.t (.t (.t (.t (.t (.t (.t (.t (.t (.t (.t .h))))))))))))))))))) (.cons (.t (.t (.t (.t (.t (.t (.t .h))))))) (.cons (.t (.t (.t (.t (.t (.t .h)))))) (.cons (.t (.t (.t (.t (.t .h))))) (.cons (.t (.t (.t (.t .h)))) (.cons (.t (.t (.t .h))) (.cons (.t (.t .h)) (.cons (.t .h) (.cons .h (.cons (.t (.t (.t (.t (.t (.t (.t (.t (.t (.t (.t .h))))))))))) (.cons (.t (.t (.t (.t (.t (.t (.t .h))))))) (.cons (.t (.t (.t (.t (.t (.t .h)))))) (.cons (.t (.t (.t (.t (.t .h))))) (.cons (.t (.t (.t (.t .h)))) (.cons (.t (.t (.t .h))) (.cons (.t (.t .h)) (.cons (.t .h) (.cons .h .nil))))))))))))))))))))⟩
    rw [hg37]
    try rw [hg37] at hF; dsimp only [cond_true, cond_false] at hF
    refine C_on (t := 58) rfl rfl rfl ?_
    refine C_val (V_move (v := (.bool r11.2)) (.tmp rfl rfl)) ?_
    refine C_on (t := 58) rfl rfl rfl ?_
    refine C_val (V_move (v := (.bool r4.2)) (.tmp rfl rfl)) ?_
    refine C_on (t := 58) rfl rfl rfl ?_
    refine C_val (V_neB (a := r11.2) (b := r4.2) Try.underlying4 (.tmp rfl rfl) (.tmp rfl rfl)) ?_
    refine C_val (V_pick (b := false) (u := (.bool true)) (v := (.bool (!(r11.2 == r4.2)))) (.tmp rfl rfl) (.bool _) (.tmp rfl rfl)) ?_
    refine C_nil ?_
    obtain rfl := Option.some.inj hF
    exact ⟨_, _, rfl, (EqL.cons rfl (EqL.cons rfl (EqL.cons rfl (EqL.cons rfl (EqL.cons rfl (EqL.cons rfl (EqL.nil))))))).eq, (.sel (.rd (.t (.t (.t (.t (.t (.t (.t (.t (.t (.t (.t (.t (.t (.t (.t (.t (.t (.t .h)))))))))))))))))) rfl (.cons (.t (.t (.t (.t (.t (.t (.t (.t (.t (.t (.t (.t (.t (.t (.t (.t (.t (.t (.t .h))))))))))))))))))) (.cons (.t (.t (.t (.t (.t (.t (.t .h))))))) (.cons (.t (.t (.t (.t (.t (.t .h)))))) (.cons (.t (.t (.t (.t (.t .h))))) (.cons (.t (.t (.t (.t .h)))) (.cons (.t (.t (.t .h))) (.cons (.t (.t .h)) (.cons (.t .h) (.cons .h (.cons (.t (.t (.t (.t (.t (.t (.t (.t (.t (.t (.t .h))))))))))) (.cons (.t (.t (.t (.t (.t (.t (.t .h))))))) (.cons (.t (.t (.t (.t (.t (.t .h)))))) (.cons (.t (.t (.t (.t (.t .h))))) (.cons (.t (.t (.t (.t .h)))) (.cons (.t (.t (.t .h))) (.cons (.t (.t .h)) (.cons (.t .h) (.cons .h .nil))))))))))))))))))))⟩
  rintro _ _ ⟨c38, g69, rfl, rfl, hE⟩
  replace hF := hO32
  clear hO32
  try dsimp only at hF
  refine K_ent hE ?_
  refine CW_cond (b := c38) (.tmp rfl rfl) (fun hb68 => ?_) (fun hb68 => ?_)
  · rw [if_pos hb68] at hF
    refine K_region ?_
    refine C_val (V_assign (v := (.bool false)) (.bool _)) ?_
    refine C_nil ?_
    refine CW_ret ?_
    obtain rfl := Option.some.inj hF
    exact End_ret () (.tmp rfl rfl .nil) rfl (.sel .nil)
  rw [if_neg (by rw [hb68]; exact Bool.false_ne_true)] at hF
  refine CW_skip ?_
  refine K_region ?_
  refine C_val (V_assign (v := (.int .i64 1)) (.int _ _)) ?_
  refine C_nil ?_
  refine K_region ?_
  refine C_at (.t (.t (.t (.t (.t (.t (.t (.t (.t (.t .h)))))))))) (fun hp => V_loadBox ag55 ty55.sz rfl (.tmp rfl rfl) hp.2 rfl) ?_
  refine C_val (V_move (v := (.int .i64 1)) (.tmp rfl rfl)) ?_
  obtain ⟨r39, hx40, hF⟩ := bind_some hF
  refine C_x8 (.cons (.t (.t (.t (.t (.t (.t (.t (.t (.t (.t (.t .h))))))))))) (.cons (.t (.t (.t (.t (.t (.t (.t (.t (.t (.t (.t .h))))))))))) (.cons (.t (.t (.t (.t (.t (.t (.t (.t (.t (.t (.t .h))))))))))) (.cons (.t (.t (.t (.t (.t (.t (.t (.t (.t (.t (.t .h))))))))))) (.cons (.t (.t (.t (.t (.t (.t (.t (.t (.t (.t (.t .h))))))))))) (.cons (.t (.t (.t (.t (.t (.t (.t (.t (.t (.t (.t .h))))))))))) (.cons (.t (.t (.t (.t (.t (.t (.t (.t (.t (.t (.t .h))))))))))) (.cons (.t (.t (.t (.t (.t (.t (.t (.t (.t (.t (.t .h))))))))))) .nil)))))))) (X_callS cf33 (.cons (.tmp rfl rfl) (.cons (.tmp rfl rfl) .nil)) (l_markMediator_ok r11.1 p13.1 p13.2.1 p13.2.2.1 p13.2.2.2.1 p13.2.2.2.2.1 p13.2.2.2.2.2.1 p13.2.2.2.2.2.2.1 p13.2.2.2.2.2.2.2.1 p13.2.2.2.2.2.2.2.2.1 p13.2.2.2.2.2.2.2.2.2.1 p13.2.2.2.2.2.2.2.2.2.2.1 p13.2.2.2.2.2.2.2.2.2.2.2.1 p13.2.2.2.2.2.2.2.2.2.2.2.2.1 p13.2.2.2.2.2.2.2.2.2.2.2.2.2.1 p13.2.2.2.2.2.2.2.2.2.2.2.2.2.2.1 p13.2.2.2.2.2.2.2.2.2.2.2.2.2.2.2 1 _ hx40)) (fun p41 => ?_)
  refine C_val (V_assign (v := (.int .i64 r39.1)) (.tmp rfl rfl)) ?_
  refine C_nil ?_
  refine K_region ?_
  refine C_val (V_assign (v := (.int .i64 1)) (.int _ _)) ?_
  refine C_nil ?_
  refine K_region ?_
  refine C_at (.t (.t (.t (.t (.t (.t (.t (.t (.t (.t (.t (.t (.t (.t (.t (.t (.t (.t .h)))))))))))))))))) (fun hp => V_loadBox ag55 ty55.sz rfl (.tmp rfl rfl) hp.2 rfl) ?_
  refine C_val (V_move (v := (.int .i64 1)) (.tmp rfl rfl)) ?_
  obtain ⟨r42, hx43, hF⟩ := bind_some hF
  refine C_x8 (.cons (.t (.t (.t (.t (.t (.t (.t .h))))))) (.cons (.t (.t (.t (.t (.t (.t .h)))))) (.cons (.t (.t (.t (.t (.t .h))))) (.cons (.t (.t (.t (.t .h)))) (.cons (.t (.t (.t .h))) (.cons (.t (.t .h)) (.cons (.t .h) (.cons .h .nil)))))))) (XC_borL (pre := []) (.cons frz_own (.cons frz_own (.cons frz_own (.cons frz_own (.cons frz_own (.cons frz_own (.cons frz_own (.cons frz_own .nil)))))))) (fun _ => .nil) (X_callS cf34 (.cons (.tmp rfl rfl) (.cons (.tmp rfl rfl) .nil)) (l_heldMediator_ok ({ Schema := r39.2.Schema, Methods := r39.2.Methods, Rules := r39.2.Rules, Source := ({ Facts := r39.2.Source.Facts, Version := r11.1.Source.Version } : Source), Cache := ({ Entries := r39.2.Cache.Entries, Age := r11.1.Cache.Age } : Cache), Now := r11.1.Now, Log := r39.2.Log, Times := r39.2.Times, Spent := r11.1.Spent, Results := r39.2.Results } : Mediator) p13.1 p13.2.2.1 p13.2.2.2.2.1 p13.2.2.2.2.2.2.1 p13.2.2.2.2.2.2.2.2.1 p13.2.2.2.2.2.2.2.2.2.2.1 p13.2.2.2.2.2.2.2.2.2.2.2.2.1 p13.2.2.2.2.2.2.2.2.2.2.2.2.2.2.1 1 _ hx43))) (fun _ => ?_)
  refine C_val (V_assign (v := (.int .i64 r42)) (.tmp rfl rfl)) ?_
  refine C_nil ?_
  refine K_in ?_
  refine K_region ?_
  refine C_val (V_move (v := (.int .i64 r42)) (.tmp rfl rfl)) ?_
  refine C_val (V_lss (i := r42) (j := 0) (.tmp rfl rfl) (.int _ _)) ?_
  refine C_nil ?_
  refine CW_cond (b := (decide ((r42 : Int) < 0))) (.tmp rfl rfl) (fun hb67 => ?_) (fun hb67 => ?_)
  · rw [if_pos hb67] at hF
    refine K_region ?_
    refine C_val (V_assign (v := (.bool false)) (.bool _)) ?_
    refine C_nil ?_
    refine CW_ret ?_
    obtain rfl := Option.some.inj hF
    exact End_ret () (.tmp rfl rfl .nil) rfl (.sel .nil)
  rw [if_neg (by rw [hb67]; exact Bool.false_ne_true)] at hF
  refine CW_skip ?_
  refine K_in ?_
  refine K_region ?_
  refine C_val (V_move (v := (.int .i64 r42)) (.tmp rfl rfl)) ?_
  refine C_val (V_move (v := (.int .i64 r39.1)) (.tmp rfl rfl)) ?_
  refine C_val (V_neq (i := r42) (j := r39.1) (.tmp rfl rfl) (.tmp rfl rfl)) ?_
  refine C_nil ?_
  refine CW_cond (b := ((r42 : Int) != r39.1)) (.tmp rfl rfl) (fun hb66 => ?_) (fun hb66 => ?_)
  · rw [if_pos hb66] at hF
    refine K_region ?_
    refine C_val (V_assign (v := (.bool false)) (.bool _)) ?_
    refine C_nil ?_
    refine CW_ret ?_
    obtain rfl := Option.some.inj hF
    exact End_ret () (.tmp rfl rfl .nil) rfl (.sel .nil)
  rw [if_neg (by rw [hb66]; exact Bool.false_ne_true)] at hF
  refine CW_skip ?_
  refine K_region ?_
  refine C_val (V_move (v := v0_0.v) (.tmp rfl rfl)) ?_
  obtain ⟨r45, hx46, hF⟩ := bind_some hF
  refine C_x1 (.rd (.t (.t (.t (.t (.t (.t (.t (.t .h)))))))) rfl .nil) (X_callS cf28 (.cons (.tmp rfl rfl) .nil) (l_toIntS_ok a_aS v0_0 _ hx46)) (fun p47 => ?_)
  refine C_val (V_move (v := (.int .i64 a_aAge)) (.tmp rfl rfl)) ?_
  obtain ⟨r48, hx49, hF⟩ := bind_some hF
  refine C_x9 (.cons .h .nil) (XC_borL (pre := []) (.cons frz_own .nil) (fun _ => (.cons (.cons (.cons (.cons (.cons (.cons (.cons (.cons .nil))))))))) (X_callS cf29 (.cons (.tmp rfl rfl) (.cons (.tmp rfl rfl) .nil)) (i_NewMediator_ok r45 p47.1 a_aAge _ hx49))) (fun p50 => ?_)
  refine C_val (V_move (v := (.tuple [(.agg [p50.1.v, p50.2.2.1.v, p50.2.2.2.2.1.v, p50.2.2.2.2.2.2.1.v, (.int .i64 r48.1.Source.Version), p50.2.2.2.2.2.2.2.2.1.v, (.int .i64 r48.1.Cache.Age), (.int .i64 r48.1.Now), p50.2.2.2.2.2.2.2.2.2.2.1.v, p50.2.2.2.2.2.2.2.2.2.2.2.2.1.v, (.int .i64 r48.1.Spent), p50.2.2.2.2.2.2.2.2.2.2.2.2.2.2.1.v].toArray), (.bool r48.2)].toArray)) (.tmp rfl rfl)) ?_
  refine C_val (V_extract (l := [(.agg [p50.1.v, p50.2.2.1.v, p50.2.2.2.2.1.v, p50.2.2.2.2.2.2.1.v, (.int .i64 r48.1.Source.Version), p50.2.2.2.2.2.2.2.2.1.v, (.int .i64 r48.1.Cache.Age), (.int .i64 r48.1.Now), p50.2.2.2.2.2.2.2.2.2.2.1.v, p50.2.2.2.2.2.2.2.2.2.2.2.2.1.v, (.int .i64 r48.1.Spent), p50.2.2.2.2.2.2.2.2.2.2.2.2.2.2.1.v].toArray), (.bool r48.2)]) (v := (.agg [p50.1.v, p50.2.2.1.v, p50.2.2.2.2.1.v, p50.2.2.2.2.2.2.1.v, (.int .i64 r48.1.Source.Version), p50.2.2.2.2.2.2.2.2.1.v, (.int .i64 r48.1.Cache.Age), (.int .i64 r48.1.Now), p50.2.2.2.2.2.2.2.2.2.2.1.v, p50.2.2.2.2.2.2.2.2.2.2.2.2.1.v, (.int .i64 r48.1.Spent), p50.2.2.2.2.2.2.2.2.2.2.2.2.2.2.1.v].toArray)) (.tmp rfl rfl) rfl) ?_
  refine C_val (V_extract (l := [(.agg [p50.1.v, p50.2.2.1.v, p50.2.2.2.2.1.v, p50.2.2.2.2.2.2.1.v, (.int .i64 r48.1.Source.Version), p50.2.2.2.2.2.2.2.2.1.v, (.int .i64 r48.1.Cache.Age), (.int .i64 r48.1.Now), p50.2.2.2.2.2.2.2.2.2.2.1.v, p50.2.2.2.2.2.2.2.2.2.2.2.2.1.v, (.int .i64 r48.1.Spent), p50.2.2.2.2.2.2.2.2.2.2.2.2.2.2.1.v].toArray), (.bool r48.2)]) (v := (.bool r48.2)) (.tmp rfl rfl) rfl) ?_
  refine C_new rfl (N_allocT (g := true) ty55 rfl rfl) (fun k51 => ?_)
  refine C_x1 (.cons .h .nil) (X_storeB (e := (.agg [(.slice none 0 0), (.slice none 0 0), (.slice none 0 0), (.slice none 0 0), (.int .i64 0), (.slice none 0 0), (.int .i64 0), (.int .i64 0), (.slice none 0 0), (.slice none 0 0), (.int .i64 0), (.slice none 0 0)].toArray)) (e' := (.agg [p50.1.v, p50.2.2.1.v, p50.2.2.2.2.1.v, p50.2.2.2.2.2.2.1.v, (.int .i64 r48.1.Source.Version), p50.2.2.2.2.2.2.2.2.1.v, (.int .i64 r48.1.Cache.Age), (.int .i64 r48.1.Now), p50.2.2.2.2.2.2.2.2.2.2.1.v, p50.2.2.2.2.2.2.2.2.2.2.2.2.1.v, (.int .i64 r48.1.Spent), p50.2.2.2.2.2.2.2.2.2.2.2.2.2.2.1.v].toArray)) (v := (.agg [p50.1.v, p50.2.2.1.v, p50.2.2.2.2.1.v, p50.2.2.2.2.2.2.1.v, (.int .i64 r48.1.Source.Version), p50.2.2.2.2.2.2.2.2.1.v, (.int .i64 r48.1.Cache.Age), (.int .i64 r48.1.Now), p50.2.2.2.2.2.2.2.2.2.2.1.v, p50.2.2.2.2.2.2.2.2.2.2.2.2.1.v, (.int .i64 r48.1.Spent), p50.2.2.2.2.2.2.2.2.2.2.2.2.2.2.1.v].toArray)) ty55.sz (.tmp rfl rfl) (.tmp rfl rfl) rfl rfl rfl rfl rfl) (fun _ => ?_)
  refine C_val (V_assign (v := (.bool r48.2)) (.tmp rfl rfl)) ?_
  refine C_nil ?_
  refine K_in ?_
  obtain ⟨o52, hio52, hO53⟩ := bind_some hF
  refine K_region ?_
  refine C_cut (fun f' cs' => ∃ (c58 : Bool) (g : Fr), c58 = o52 ∧ f' = updL g [(8, (.pointer (some ⟨k14, 0, some 0⟩))), (11, (.int .i64 r39.1)), (89, (.bool c58))] ∧ Ent cs' [cbox k14 55 (.agg [p13.1.v, p13.2.2.1.v, p13.2.2.2.2.1.v, p13.2.2.2.2.2.2.1.v, (.int .i64 r11.1.Source.Version), p13.2.2.2.2.2.2.2.2.1.v, (.int .i64 r11.1.Cache.Age), (.int .i64 r11.1.Now), p13.2.2.2.2.2.2.2.2.2.2.1.v, p13.2.2.2.2.2.2.2.2.2.2.2.2.1.v, (.int .i64 r11.1.Spent), p13.2.2.2.2.2.2.2.2.2.2.2.2.2.2.1.v].toArray), cown (OwnS 3 (roE rdInt)) p41.1 p13.1.v r39.2.Schema, cown (OwnS 101 ow101) p41.2.1 p13.2.2.1.v r39.2.Methods, cown (OwnS 126 ow126) p41.2.2.1 p13.2.2.2.2.1.v r39.2.Rules, cown (OwnS 157 ow157) p41.2.2.2.1 p13.2.2.2.2.2.2.1.v r39.2.Source.Facts, cown (OwnS 159 ow159) p41.2.2.2.2.1 p13.2.2.2.2.2.2.2.2.1.v r39.2.Cache.Entries, cown (OwnS 100 ow100) p41.2.2.2.2.2.1 p13.2.2.2.2.2.2.2.2.2.2.1.v r39.2.Log, cown (OwnS 3 (roE rdInt)) p41.2.2.2.2.2.2.1 p13.2.2.2.2.2.2.2.2.2.2.2.2.1.v r39.2.Times, cown (OwnS 128 (OwnS 45 (OwnS 3 (roE rdInt)))) p41.2.2.2.2.2.2.2 p13.2.2.2.2.2.2.2.2.2.2.2.2.2.2.1.v r39.2.Results]) ?_ ?_
  · replace hF := hio52
    refine C_at .h (fun hp => V_loadBox ag55 ty55.sz rfl (.tmp rfl rfl) hp.2 rfl) ?_
    refine C_at (.t (.t (.t (.t (.t (.t (.t (.t (.t (.t (.t (.t (.t (.t (.t (.t (.t (.t (.t .h))))))))))))))))))) (fun hp => V_loadBox ag55 ty55.sz rfl (.tmp rfl rfl) hp.2 rfl) ?_
    obtain ⟨r54, hx55, hF⟩ := bind_some hF
    refine C_x16 (.cons (.t (.t (.t (.t (.t (.t (.t (.t (.t (.t (.t (.t (.t (.t (.t (.t (.t (.t (.t (.t (.t (.t (.t (.t (.t (.t (.t .h))))))))))))))))))))))))))) (.cons (.t (.t (.t (.t (.t (.t (.t (.t (.t (.t (.t (.t (.t (.t (.t (.t (.t (.t (.t (.t (.t (.t (.t (.t (.t (.t .h)))))))))))))))))))))))))) (.cons (.t (.t (.t (.t (.t (.t (.t (.t (.t (.t (.t (.t (.t (.t (.t (.t (.t (.t (.t (.t (.t (.t (.t (.t (.t .h))))))))))))))))))))))))) (.cons (.t (.t (.t (.t (.t (.t (.t (.t (.t (.t (.t (.t (.t (.t (.t (.t (.t (.t (.t (.t (.t (.t (.t (.t .h)))))))))))))))))))))))) (.cons (.t (.t (.t (.t (.t (.t (.t (.t (.t (.t (.t (.t (.t (.t (.t (.t (.t (.t (.t (.t (.t (.t (.t .h))))))))))))))))))))))) (.cons (.t (.t (.t (.t (.t (.t (.t (.t (.t (.t (.t (.t (.t (.t (.t (.t (.t (.t (.t (.t (.t (.t .h)))))))))))))))))))))) (.cons (.t (.t (.t (.t (.t (.t (.t (.t (.t (.t (.t (.t (.t (.t (.t (.t (.t (.t (.t (.t (.t .h))))))))))))))))))))) (.cons (.t (.t (.t (.t (.t (.t (.t (.t (.t (.t (.t (.t (.t (.t (.t (.t (.t (.t (.t (.t .h)))))))))))))))))))) (.cons (.t (.t (.t (.t (.t (.t (.t (.t (.t .h))))))))) (.cons (.t (.t (.t (.t (.t (.t (.t (.t .h)))))))) (.cons (.t (.t (.t (.t (.t (.t (.t .h))))))) (.cons (.t (.t (.t (.t (.t (.t .h)))))) (.cons (.t (.t (.t (.t (.t .h))))) (.cons (.t (.t (.t (.t .h)))) (.cons (.t (.t (.t .h))) (.cons (.t (.t .h)) .nil)))))))))))))))) (XC_borL (pre := []) (.cons frz_own (.cons frz_own (.cons frz_own (.cons frz_own (.cons frz_own (.cons frz_own (.cons frz_own (.cons frz_own (.cons frz_own (.cons frz_own (.cons frz_own (.cons frz_own (.cons frz_own (.cons frz_own (.cons frz_own (.cons frz_own .nil)))))))))))))))) (fun _ => .nil) (X_callS cf30 (.cons (.tmp rfl rfl) (.cons (.tmp rfl rfl) .nil)) (l_eqMediator_ok r48.1 p50.1 p50.2.2.1 p50.2.2.2.2.1 p50.2.2.2.2.2.2.1 p50.2.2.2.2.2.2.2.2.1 p50.2.2.2.2.2.2.2.2.2.2.1 p50.2.2.2.2.2.2.2.2.2.2.2.2.1 p50.2.2.2.2.2.2.2.2.2.2.2.2.2.2.1 r4.1 p6.1 p6.2.2.1 p6.2.2.2.2.1 p6.2.2.2.2.2.2.1 p6.2.2.2.2.2.2.2.2.1 p6.2.2.2.2.2.2.2.2.2.2.1 p6.2.2.2.2.2.2.2.2.2.2.2.2.1 p6.2.2.2.2.2.2.2.2.2.2.2.2.2.2.1 _ hx55))) (fun _ => ?_)
    refine C_val (V_not (b := r54) (.tmp rfl rfl)) ?_
    refine C_val (V_move (v := (.bool (!r54))) (.tmp rfl rfl)) ?_
    rcases Bool.eq_false_or_eq_true (!r54) with hg57 | hg57
    · rw [hg57]
      try rw [hg57] at hF; dsimp only [cond_true, cond_false] at hF
      refine C_off (t := 85) rfl rfl rfl ?_
      refine C_off (t := 85) rfl rfl rfl ?_
      refine C_off (t := 85) rfl rfl rfl ?_
      refine C_val (V_pick (b := true) (u := (.bool true)) (v := undef) (.tmp rfl rfl) (.bool _) (.tmp rfl rfl)) ?_
      refine C_nil ?_
      obtain rfl := Option.some.inj hF
      exact ⟨_, _, rfl, (EqL.cons rfl (EqL.cons rfl (EqL.cons rfl (EqL.nil)))).eq, (.sel (.cons (.t (.t (.t (.t (.t (.t (.t (.t (.t (.t (.t (.t (.t (.t (.t (.t (.t (.t (.t (.t (.t (.t (.t (.t (.t (.t (.t (.t .h)))))))))))))))))))))))))))) (.cons (.t (.t (.t (.t (.t (.t (.t (.t (.t (.t (.t (.t (.t (.t (.t (.t (.t (.t (.t (.t (.t (.t (.t (.t (.t .h))))))))))))))))))))))))) (.cons (.t (.t (.t (.t (.t (.t (.t (.t (.t (.t (.t (.t (.t (.t (.t (.t (.t (.t (.t (.t (.t (.t (.t (.t .h)))))))))))))))))))))))) (.cons (.t (.t (.t (.t (.t (.t (.t (.t (.t (.t (.t (.t (.t (.t (.t (.t (.t (.t (.t (.t (.t (.t (.t .h))))))))))))))))))))))) (.cons (.t (.t (.t (.t (.t (.t (.t (.t (.t (.t (.t (.t (.t (.t (.t (.t (.t (.t (.t (.t (.t (.t .h)))))))))))))))))))))) (.cons (.t (.t (.t (.t (.t (.t (.t (.t (.t (.t (.t (.t (.t (.t (.t (.t (.t (.t (.t (.t (.t .h))))))))))))))))))))) (.cons (.t (.t (.t (.t (.t (.t (.t (.t (.t (.t (.t (.t (.t (.t (.t (.t (.t (.t (.t (.t .h)))))))))))))))))))) (.cons (.t (.t (.t (.t (.t (.t (.t (.t (.t (.t (.t (.t (.t (.t (.t (.t (.t (.t (.t .h))))))))))))))))))) (.cons (.t (.t (.t (.t (.t (.t (.t (.t (.t (.t (.t (.t (.t (.t (.t (.t (.t (.t .h)))))))))))))))))) .nil))))))))))⟩
    rw [hg57]
    try rw [hg57] at hF; dsimp only [cond_true, cond_false] at hF
    refine C_on (t := 85) rfl rfl rfl ?_
    refine C_val (V_move (v := (.bool r48.2)) (.tmp rfl rfl)) ?_
    refine C_on (t := 85) rfl rfl rfl ?_
    refine C_val (V_move (v := (.bool r4.2)) (.tmp rfl rfl)) ?_
    refine C_on (t := 85) rfl rfl rfl ?_
    refine C_val (V_neB (a := r48.2) (b := r4.2) Try.underlying4 (.tmp rfl rfl) (.tmp rfl rfl)) ?_
    refine C_val (V_pick (b := false) (u := (.bool true)) (v := (.bool (!(r48.2 == r4.2)))) (.tmp rfl rfl) (.bool _) (.tmp rfl rfl)) ?_
    refine C_nil ?_
    obtain rfl := Option.some.inj hF
    exact ⟨_, _, rfl, (EqL.cons rfl (EqL.cons rfl (EqL.cons rfl (EqL.nil)))).eq, (.sel (.cons (.t (.t (.t (.t (.t (.t (.t (.t (.t (.t (.t (.t (.t (.t (.t (.t (.t (.t (.t (.t (.t (.t (.t (.t (.t (.t (.t (.t .h)))))))))))))))))))))))))))) (.cons (.t (.t (.t (.t (.t (.t (.t (.t (.t (.t (.t (.t (.t (.t (.t (.t (.t (.t (.t (.t (.t (.t (.t (.t (.t .h))))))))))))))))))))))))) (.cons (.t (.t (.t (.t (.t (.t (.t (.t (.t (.t (.t (.t (.t (.t (.t (.t (.t (.t (.t (.t (.t (.t (.t (.t .h)))))))))))))))))))))))) (.cons (.t (.t (.t (.t (.t (.t (.t (.t (.t (.t (.t (.t (.t (.t (.t (.t (.t (.t (.t (.t (.t (.t (.t .h))))))))))))))))))))))) (.cons (.t (.t (.t (.t (.t (.t (.t (.t (.t (.t (.t (.t (.t (.t (.t (.t (.t (.t (.t (.t (.t (.t .h)))))))))))))))))))))) (.cons (.t (.t (.t (.t (.t (.t (.t (.t (.t (.t (.t (.t (.t (.t (.t (.t (.t (.t (.t (.t (.t .h))))))))))))))))))))) (.cons (.t (.t (.t (.t (.t (.t (.t (.t (.t (.t (.t (.t (.t (.t (.t (.t (.t (.t (.t (.t .h)))))))))))))))))))) (.cons (.t (.t (.t (.t (.t (.t (.t (.t (.t (.t (.t (.t (.t (.t (.t (.t (.t (.t (.t .h))))))))))))))))))) (.cons (.t (.t (.t (.t (.t (.t (.t (.t (.t (.t (.t (.t (.t (.t (.t (.t (.t (.t .h)))))))))))))))))) .nil))))))))))⟩
  rintro _ _ ⟨c58, g65, rfl, rfl, hE⟩
  replace hF := hO53
  clear hO53
  try dsimp only at hF
  refine K_ent hE ?_
  refine CW_cond (b := c58) (.tmp rfl rfl) (fun hb64 => ?_) (fun hb64 => ?_)
  · rw [if_pos hb64] at hF
    refine K_region ?_
    refine C_val (V_assign (v := (.bool false)) (.bool _)) ?_
    refine C_nil ?_
    refine CW_ret ?_
    obtain rfl := Option.some.inj hF
    exact End_ret () (.tmp rfl rfl .nil) rfl (.sel .nil)
  rw [if_neg (by rw [hb64]; exact Bool.false_ne_true)] at hF
  refine CW_skip ?_
  refine K_region ?_
  refine C_val (V_assign (v := (.int .i64 1)) (.int _ _)) ?_
  refine C_nil ?_
  refine K_region ?_
  refine C_at .h (fun hp => V_loadBox ag55 ty55.sz rfl (.tmp rfl rfl) hp.2 rfl) ?_
  refine C_val (V_move (v := (.int .i64 1)) (.tmp rfl rfl)) ?_
  obtain ⟨r59, hx60, hF⟩ := bind_some hF
  refine C_x8 (.cons (.t (.t (.t (.t (.t (.t (.t (.t .h)))))))) (.cons (.t (.t (.t (.t (.t (.t (.t .h))))))) (.cons (.t (.t (.t (.t (.t (.t .h)))))) (.cons (.t (.t (.t (.t (.t .h))))) (.cons (.t (.t (.t (.t .h)))) (.cons (.t (.t (.t .h))) (.cons (.t (.t .h)) (.cons (.t .h) .nil)))))))) (XC_borL (pre := []) (.cons frz_own (.cons frz_own (.cons frz_own (.cons frz_own (.cons frz_own (.cons frz_own (.cons frz_own (.cons frz_own .nil)))))))) (fun _ => .nil) (X_callS cf34 (.cons (.tmp rfl rfl) (.cons (.tmp rfl rfl) .nil)) (l_heldMediator_ok ({ Schema := r39.2.Schema, Methods := r39.2.Methods, Rules := r39.2.Rules, Source := ({ Facts := r39.2.Source.Facts, Version := r11.1.Source.Version } : Source), Cache := ({ Entries := r39.2.Cache.Entries, Age := r11.1.Cache.Age } : Cache), Now := r11.1.Now, Log := r39.2.Log, Times := r39.2.Times, Spent := r11.1.Spent, Results := r39.2.Results } : Mediator) p13.1 p13.2.2.1 p13.2.2.2.2.1 p13.2.2.2.2.2.2.1 p13.2.2.2.2.2.2.2.2.1 p13.2.2.2.2.2.2.2.2.2.2.1 p13.2.2.2.2.2.2.2.2.2.2.2.2.1 p13.2.2.2.2.2.2.2.2.2.2.2.2.2.2.1 1 _ hx60))) (fun _ => ?_)
  refine C_val (V_assign (v := (.int .i64 r59)) (.tmp rfl rfl)) ?_
  refine C_nil ?_
  refine K_in ?_
  refine K_region ?_
  refine C_val (V_move (v := (.int .i64 r59)) (.tmp rfl rfl)) ?_
  refine C_val (V_lss (i := r59) (j := 0) (.tmp rfl rfl) (.int _ _)) ?_
  refine C_nil ?_
  refine CW_cond (b := (decide ((r59 : Int) < 0))) (.tmp rfl rfl) (fun hb63 => ?_) (fun hb63 => ?_)
  · rw [if_pos hb63] at hF
    refine K_region ?_
    refine C_val (V_assign (v := (.bool false)) (.bool _)) ?_
    refine C_nil ?_
    refine CW_ret ?_
    obtain rfl := Option.some.inj hF
    exact End_ret () (.tmp rfl rfl .nil) rfl (.sel .nil)
  rw [if_neg (by rw [hb63]; exact Bool.false_ne_true)] at hF
  refine CW_skip ?_
  refine K_in ?_
  refine K_region ?_
  refine C_val (V_move (v := (.int .i64 r59)) (.tmp rfl rfl)) ?_
  refine C_val (V_move (v := (.int .i64 r39.1)) (.tmp rfl rfl)) ?_
  refine C_val (V_neq (i := r59) (j := r39.1) (.tmp rfl rfl) (.tmp rfl rfl)) ?_
  refine C_nil ?_
  refine CW_cond (b := ((r59 : Int) != r39.1)) (.tmp rfl rfl) (fun hb62 => ?_) (fun hb62 => ?_)
  · rw [if_pos hb62] at hF
    refine K_region ?_
    refine C_val (V_assign (v := (.bool false)) (.bool _)) ?_
    refine C_nil ?_
    refine CW_ret ?_
    obtain rfl := Option.some.inj hF
    exact End_ret () (.tmp rfl rfl .nil) rfl (.sel .nil)
  rw [if_neg (by rw [hb62]; exact Bool.false_ne_true)] at hF
  refine CW_skip ?_
  refine K_region ?_
  refine C_val (V_assign (v := (.bool true)) (.bool _)) ?_
  refine C_nil ?_
  refine CW_ret ?_
  obtain rfl := Option.some.inj hF
  exact End_ret () (.tmp rfl rfl .nil) rfl (.sel .nil)

end Go.Proofs.Ytabpeldbccicaaa
