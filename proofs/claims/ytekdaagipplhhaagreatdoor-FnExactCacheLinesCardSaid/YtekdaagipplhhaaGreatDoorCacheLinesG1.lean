/-
  Functions of the program as Lean functions, and that the calls return what these say: part 2. No conditions.
-/
import Derived.Shelf.Strconv.Itoa3
import Derived.Shelf.Strings.OnBuilder
import Derived.Test.YtekdaagipplhhaaGreatDoorCacheLinesG0
import Derived.KernelRfl
set_option maxRecDepth 100000
set_option maxHeartbeats 1000000
set_option linter.unusedVariables false
namespace Go.Proofs.YtekdaagipplhhaaGreatDoor
open Go Go.Fw

/-! spec.FormatInt -/
def s_FormatInt_L1 : Nat → Int → (List UInt8) → Option ((List UInt8))
  | 0, _, _ => none
  | m5 + 1, c3, c4 => if ((c3 : Int) != 0) then (
      if (decide (((Int.tmod c3 10) : Int) < 0)) then (
        (cat [(u8of (IntKind.i64.wrap (48 + (IntKind.i64.wrap (-(Int.tmod c3 10))))))] c4).bind fun x14 =>
        s_FormatInt_L1 m5 (IntKind.i64.wrap (Int.tdiv c3 10)) x14)
      else (
        (cat [(u8of (IntKind.i64.wrap (48 + (Int.tmod c3 10))))] c4).bind fun x19 =>
        s_FormatInt_L1 m5 (IntKind.i64.wrap (Int.tdiv c3 10)) x19))
    else (
      some c4)
def s_FormatInt (fuel : Nat) (a_n : Int) : Option ((List UInt8)) :=
  if ((a_n : Int) == 0) then (
    some [48])
  else (
    (s_FormatInt_L1 fuel a_n []).bind fun o1 =>
    match o1 with
    | c25 => if (decide ((a_n : Int) < 0)) then (
        (cat [45] c25).bind fun x26 =>
        some x26)
      else (
        some c25))
theorem s_FormatInt_ok (fuel : Nat) (a_n : Int) (R : (List UInt8)) (hF : s_FormatInt fuel a_n = some R) :
    Fw.Spec Tryz.prog 38 [(.int .i64 a_n)] [] (fun _ : Unit => (sv R)) (fun _ => []) := by
  refine Spec_enter (n := 31) Tryz.func38 rfl rfl (rs := [.tmp 2]) rfl rfl rfl ?_
  intro H0 F0
  unfold s_FormatInt at hF
  refine K_region (C_val (V_assign (v := (sv [])) (.sv _)) ?_)
  refine C_nil (K_in (K_region (Cm (.int .i64 a_n) rfl rfl ?_)))
  refine C_val (V_eql (i := a_n) (j := 0) (.tmp rfl rfl) (.int _ _)) ?_
  refine C_nil (CW_cond (b := ((a_n : Int) == 0)) (.tmp rfl rfl) (fun hb32 => ?_) (fun hb32 => ?_))
  · rw [if_pos hb32] at hF
    refine K_region (C_val (V_assign (v := (sv [48])) (.sv _)) ?_)
    refine C_nil (CW_ret ?_)
    obtain rfl := Option.some.inj hF
    exact End_ret () (.tmp rfl rfl .nil) rfl (.sel .nil)
  rw [if_neg (by rw [hb32]; exact Bool.false_ne_true)] at hF
  refine CW_skip (K_region (C_val (V_assign (v := (sv [])) (.sv _)) ?_))
  refine C_nil (K_region (Cm (.int .i64 a_n) rfl rfl ?_))
  refine C_val (V_lss (i := a_n) (j := 0) (.tmp rfl rfl) (.int _ _)) ?_
  refine Ca (.bool (decide ((a_n : Int) < 0))) rfl rfl ?_
  refine C_nil ?_
  obtain ⟨o1, hio1, hO2⟩ := bind_some hF
  refine K_cut (fun f' cs' => ∃ (c25 : List UInt8) (g : Fr), c25 = o1 ∧ f' = updL g [(3, (sv c25)), (4, (.bool (decide ((a_n : Int) < 0))))] ∧ Ent cs' []) ?_ ?_
  · replace hF := hio1
    refine CW_block (CW_loop (m := fuel) (fun m5 f' cs' => ∃ (g : Fr) (c3 : Int) (c4 : List UInt8), f' = updL g [(0, (.int .i64 c3)), (3, (sv c4)), (4, (.bool (decide ((a_n : Int) < 0))))] ∧ Ent cs' [] ∧ s_FormatInt_L1 m5 c3 c4 = some o1) ⟨_, _, _, (EqL.cons rfl (EqL.cons rfl (EqL.cons rfl (EqL.nil)))).eq, (.sel .nil), hF⟩ ?_)
    clear hF
    rintro m5 _ _ ⟨g6, c3, c4, rfl, hE, hF⟩
    refine K_ent hE ?_
    clear hE
    rcases m5 with _ | m5
    · rw [s_FormatInt_L1] at hF
      exact absurd hF (by simp)
    rw [s_FormatInt_L1] at hF
    refine K_in (K_region (Cm (.int .i64 c3) rfl rfl ?_))
    refine C_val (V_neq (i := c3) (j := 0) (.tmp rfl rfl) (.int _ _)) ?_
    refine C_nil (CW_cond (b := ((c3 : Int) != 0)) (.tmp rfl rfl) (fun hb24 => ?_) (fun hb24 => ?_))
    · rw [if_pos hb24] at hF
      refine CW_skip (CW_block (K_region (Cm (.int .i64 c3) rfl rfl ?_)))
      refine C_val (V_rem (i := c3) (j := 10) (.tmp rfl rfl) (.int _ _) (by decide)) ?_
      refine Ca (.int .i64 (Int.tmod c3 10)) rfl rfl ?_
      refine C_nil (K_in (K_region (Cm (.int .i64 (Int.tmod c3 10)) rfl rfl ?_)))
      refine C_val (V_lss (i := (Int.tmod c3 10)) (j := 0) (.tmp rfl rfl) (.int _ _)) ?_
      refine C_nil (CW_cond (b := (decide (((Int.tmod c3 10) : Int) < 0))) (.tmp rfl rfl) (fun hb23 => ?_) (fun hb23 => ?_))
      · rw [if_pos hb23] at hF
        refine CW_region (Cm (.int .i64 (Int.tmod c3 10)) rfl rfl ?_)
        refine C_val (V_neg (i := (Int.tmod c3 10)) (.tmp rfl rfl)) ?_
        refine Ca (.int .i64 (IntKind.i64.wrap (-(Int.tmod c3 10)))) rfl rfl ?_
        refine C_nil (K_region (Cm (.int .i64 (IntKind.i64.wrap (-(Int.tmod c3 10)))) rfl rfl ?_))
        refine C_val (V_add (i := 48) (j := (IntKind.i64.wrap (-(Int.tmod c3 10)))) (.int _ _) (.tmp rfl rfl)) ?_
        refine C_val (V_convU8 (i := (IntKind.i64.wrap (48 + (IntKind.i64.wrap (-(Int.tmod c3 10)))))) ik3 ik5 (.tmp rfl rfl)) ?_
        refine C_new rfl (N_buildSliceT (g := true) sl146.h ty5.h (.cons (.tmp rfl rfl) .nil) (vs := [(.int .u8 ((u8of (IntKind.i64.wrap (48 + (IntKind.i64.wrap (-(Int.tmod c3 10)))))).toNat : Int))]) rfl rfl rfl (by intro v hv; simp at hv; rcases hv with rfl <;> rfl)) (fun k13 => ?_)
        refine C_conv (.cons .h .nil) (own_lit (Ro := (roE rdU8)) (E := 5) (F := ([] ++ [])) (xs := ([(u8of (IntKind.i64.wrap (48 + (IntKind.i64.wrap (-(Int.tmod c3 10))))))] : List UInt8)) (MkL_cons (Mk_pure (fun _ => rfl)) MkL_nil apps) rfl rfl) apps ?_
        refine C_at .h (fun hp => V_bytes1 (u := (u8of (IntKind.i64.wrap (48 + (IntKind.i64.wrap (-(Int.tmod c3 10))))))) sl146.h ik5 str9 ty5.h.sz (.tmp rfl rfl) hp) ?_
        refine Cm (sv c4) rfl rfl ?_
        obtain ⟨x14, hx15, hF⟩ := bind_some hF
        obtain ⟨hq17, hz16⟩ := cat_some hx15
        refine C_val (V_concatN (s := [(u8of (IntKind.i64.wrap (48 + (IntKind.i64.wrap (-(Int.tmod c3 10))))))]) (t := c4) (u := x14) (.tmp rfl rfl) (.tmp rfl rfl) hx15) ?_
        refine Ca (sv x14) rfl rfl ?_
        refine C_nil (CW_region (Cm (.int .i64 c3) rfl rfl ?_))
        refine C_val (V_quo (i := c3) (j := 10) (.tmp rfl rfl) (.int _ _) (by decide)) ?_
        refine Ca (.int .i64 (IntKind.i64.wrap (Int.tdiv c3 10))) rfl rfl ?_
        refine C_nil ?_
        exact ⟨m5, Nat.lt_succ_self _, _, _, _, (EqL.cons rfl (EqL.cons rfl (EqL.cons rfl (EqL.nil)))).eq, (.sel .nil), hF⟩
      rw [if_neg (by rw [hb23]; exact Bool.false_ne_true)] at hF
      refine CW_skip (K_region (Cm (.int .i64 (Int.tmod c3 10)) rfl rfl ?_))
      refine C_val (V_add (i := 48) (j := (Int.tmod c3 10)) (.int _ _) (.tmp rfl rfl)) ?_
      refine C_val (V_convU8 (i := (IntKind.i64.wrap (48 + (Int.tmod c3 10)))) ik3 ik5 (.tmp rfl rfl)) ?_
      refine C_new rfl (N_buildSliceT (g := true) sl146.h ty5.h (.cons (.tmp rfl rfl) .nil) (vs := [(.int .u8 ((u8of (IntKind.i64.wrap (48 + (Int.tmod c3 10)))).toNat : Int))]) rfl rfl rfl (by intro v hv; simp at hv; rcases hv with rfl <;> rfl)) (fun k18 => ?_)
      refine C_conv (.cons .h .nil) (own_lit (Ro := (roE rdU8)) (E := 5) (F := ([] ++ [])) (xs := ([(u8of (IntKind.i64.wrap (48 + (Int.tmod c3 10))))] : List UInt8)) (MkL_cons (Mk_pure (fun _ => rfl)) MkL_nil apps) rfl rfl) apps ?_
      refine C_at .h (fun hp => V_bytes1 (u := (u8of (IntKind.i64.wrap (48 + (Int.tmod c3 10))))) sl146.h ik5 str9 ty5.h.sz (.tmp rfl rfl) hp) ?_
      refine Cm (sv c4) rfl rfl ?_
      obtain ⟨x19, hx20, hF⟩ := bind_some hF
      obtain ⟨hq22, hz21⟩ := cat_some hx20
      refine C_val (V_concatN (s := [(u8of (IntKind.i64.wrap (48 + (Int.tmod c3 10))))]) (t := c4) (u := x19) (.tmp rfl rfl) (.tmp rfl rfl) hx20) ?_
      refine Ca (sv x19) rfl rfl ?_
      refine C_nil (CW_region (Cm (.int .i64 c3) rfl rfl ?_))
      refine C_val (V_quo (i := c3) (j := 10) (.tmp rfl rfl) (.int _ _) (by decide)) ?_
      refine Ca (.int .i64 (IntKind.i64.wrap (Int.tdiv c3 10))) rfl rfl ?_
      refine C_nil ?_
      exact ⟨m5, Nat.lt_succ_self _, _, _, _, (EqL.cons rfl (EqL.cons rfl (EqL.cons rfl (EqL.nil)))).eq, (.sel .nil), hF⟩
    rw [if_neg (by rw [hb24]; exact Bool.false_ne_true)] at hF
    refine CW_exit ?_
    iterate 2 refine CThen_exit ?_
    refine CIn_self ?_
    obtain rfl := Option.some.inj hF
    exact ⟨_, _, rfl, (EqL.cons rfl (EqL.cons rfl (EqL.nil))).eq, (.sel .nil)⟩
  rintro _ _ ⟨c25, g31, rfl, rfl, hE⟩
  replace hF := hO2
  clear hO2
  try dsimp only at hF
  refine K_ent hE ?_
  refine K_in (K_region (Cm (.bool (decide ((a_n : Int) < 0))) rfl rfl ?_))
  refine C_nil (CW_cond (b := (decide ((a_n : Int) < 0))) (.tmp rfl rfl) (fun hb30 => ?_) (fun hb30 => ?_))
  · rw [if_pos hb30] at hF
    refine K_region (Cm (sv c25) rfl rfl ?_)
    obtain ⟨x26, hx27, hF⟩ := bind_some hF
    obtain ⟨hq29, hz28⟩ := cat_some hx27
    refine C_val (V_concatN (s := [45]) (t := c25) (u := x26) (.sv _) (.tmp rfl rfl) hx27) ?_
    refine Ca (sv x26) rfl rfl ?_
    refine C_nil (CW_ret ?_)
    obtain rfl := Option.some.inj hF
    exact End_ret () (.tmp rfl rfl .nil) rfl (.sel .nil)
  rw [if_neg (by rw [hb30]; exact Bool.false_ne_true)] at hF
  refine CW_skip (K_region (Cm (sv c25) rfl rfl ?_))
  refine Ca (sv c25) rfl rfl ?_
  refine C_nil (CW_ret ?_)
  obtain rfl := Option.some.inj hF
  exact End_ret () (.tmp rfl rfl .nil) rfl (.sel .nil)

/-! spec.l2List -/
def s_l2List_L1 (fuel : Nat) : List Int → Nat → (List UInt8) → Option ((List UInt8))
  | [], k5, c1 => some c1
  | x7 :: rest6, k5, c1 => (if (decide ((0 : Int) < (k5 : Int))) then (
        (cat c1 [44]).bind fun x16 =>
        (s_FormatInt fuel x7).bind fun r22 =>
        (cat x16 r22).bind fun x25 =>
        some x25)
      else (
        (s_FormatInt fuel x7).bind fun r31 =>
        (cat c1 r31).bind fun x34 =>
        some x34)).bind fun o14 =>
    match o14 with
    | c39 => s_l2List_L1 fuel rest6 (k5 + 1) c39
def s_l2List (fuel : Nat) (a_l : List Int) : Option ((List UInt8)) :=
  s_l2List_L1 fuel a_l 0 []
theorem s_l2List_ok (fuel : Nat) (a_l : List Int) (v0_0 : Sv) (R : (List UInt8)) (hF : s_l2List fuel a_l = some R) :
    Fw.Spec Tryz.prog 77 [v0_0.v] [crd (RdS 3 rdInt) v0_0.v a_l] (fun _ : Unit => (sv R)) (fun _ => []) := by
  refine Spec_enter (n := 23) Tryz.func77 rfl rfl (rs := [.tmp 2]) rfl rfl rfl ?_
  intro H0 F0
  unfold s_l2List at hF
  iterate 10 refine au ?_
  refine CW_block (CW_loop (m := a_l.length) (fun m3 f' cs' => ∃ (g : Fr) (k5 : Nat) (rest6 : List Int) (c1 : List UInt8), m3 = rest6.length ∧ f' = updL g [(0, v0_0.v), (3, (sv c1)), (4, (.int .i64 (k5 : Int)))] ∧ List.drop k5 a_l = rest6 ∧ Ent cs' [crd (RdS 3 rdInt) v0_0.v a_l] ∧ s_l2List_L1 fuel rest6 k5 c1 = some R) ⟨_, 0, _, _, rfl, eqA, rfl, entA, hF⟩ ?_)
  clear hF
  rintro m3 _ _ ⟨g4, k5, rest6, c1, rfl, rfl, hd8, hE, hF⟩
  refine K_ent hE ?_
  clear hE
  refine K_pure (c := crd (RdS 3 rdInt) v0_0.v a_l) .h crd_bound (fun hbd13 => ?_)
  rcases rest6 with _ | ⟨x7, rest6⟩
  · have hk9 := List.drop_eq_nil_iff.1 hd8
    rw [s_l2List_L1] at hF
    iterate 7 refine au ?_
    refine CdF ?_
    iterate 9 refine au ?_
    cases hF
    exact Er ()
  obtain ⟨hk9, hx10, hd11⟩ := drop_cons hd8
  rw [s_l2List_L1] at hF
  iterate 7 refine au ?_
  refine CdT ?_
  refine au ?_
  obtain ⟨o14, hio14, hO15⟩ := bind_some hF
  refine K_cut (fun f' cs' => ∃ (c39 : List UInt8) (g : Fr), c39 = o14 ∧ f' = updL g [(0, v0_0.v), (3, (sv c39)), (4, (.int .i64 (k5 : Int)))] ∧ Ent cs' [crd (RdS 3 rdInt) v0_0.v a_l]) ?_ ?_
  · replace hF := hio14
    refine CW_block (K_in (K_region (Cm (.int .i64 (k5 : Int)) rfl rfl ?_)))
    iterate 2 refine au ?_
    refine Cc (fun hb38 => ?_) (fun hb38 => ?_)
    · rw [if_pos hb38] at hF
      iterate 2 refine au ?_
      obtain ⟨x16, hx17, hF⟩ := bind_some hF
      obtain ⟨hq19, hz18⟩ := cat_some hx17
      refine C_val (V_concatN (s := c1) (t := [44]) (u := x16) (.tmp rfl rfl) (.sv _) hx17) ?_
      iterate 6 refine au ?_
      refine Ai hx10 (fun k20 j21 => ?_)
      refine Al ls3_0 ?_
      obtain ⟨r22, hx23, hF⟩ := bind_some hF
      refine Cx0 (s_FormatInt_ok _ _ _ hx23) (fun _ => ?_)
      obtain ⟨x25, hx26, hF⟩ := bind_some hF
      obtain ⟨hq28, hz27⟩ := cat_some hx26
      refine C_val (V_concatN (s := x16) (t := r22) (u := x25) (.tmp rfl rfl) (.tmp rfl rfl) hx26) ?_
      iterate 2 refine au ?_
      cases hF
      exact ⟨_, _, rfl, eqA, entA⟩
    rw [if_neg (nt hb38)] at hF
    iterate 5 refine au ?_
    refine Ai hx10 (fun k29 j30 => ?_)
    refine Al ls3_0 ?_
    obtain ⟨r31, hx32, hF⟩ := bind_some hF
    refine Cx0 (s_FormatInt_ok _ _ _ hx32) (fun _ => ?_)
    obtain ⟨x34, hx35, hF⟩ := bind_some hF
    obtain ⟨hq37, hz36⟩ := cat_some hx35
    refine C_val (V_concatN (s := c1) (t := r31) (u := x34) (.tmp rfl rfl) (.tmp rfl rfl) hx35) ?_
    iterate 2 refine au ?_
    cases hF
    exact ⟨_, _, rfl, eqA, entA⟩
  rintro _ _ ⟨c39, g41, rfl, rfl, hE⟩
  replace hF := hO15
  clear hO15
  try dsimp only at hF
  refine K_ent hE ?_
  iterate 5 refine au ?_
  rw [wk k5]
  exact ⟨_, Nat.lt_succ_self _, _, k5 + 1, rest6, _, rfl, eqA, hd11, entA, hF⟩

/-! spec.FormatAccess -/
def s_FormatAccess_L1 (a_a : Access) (fuel : Nat) : List Int → Nat → Option ((List UInt8))
  | [], k12 => (s_FormatInt fuel a_a.Method).bind fun r21 =>
    (cat [109] r21).bind fun x24 =>
    (cat x24 [40]).bind fun x28 =>
    (s_l2List fuel a_a.Values).bind fun r32 =>
    (cat x28 r32).bind fun x35 =>
    (cat x35 [41]).bind fun x39 =>
    some x39
  | x14 :: rest13, k12 => (s_l1In x14 0 9).bind fun r45 =>
    if (!r45) then (
      some [])
    else (
      s_FormatAccess_L1 a_a fuel rest13 (k12 + 1))
def s_FormatAccess (fuel : Nat) (a_a : Access) : Option ((List UInt8)) :=
  ((s_l1In a_a.Method 0 4).bind fun r4 =>
    bif (!r4) then (some true)
    else (some (decide ((3 : Int) < (a_a.Values.length : Int))))).bind fun o2 =>
  match o2 with
  | c8 => if c8 then (
      some [])
    else (
      s_FormatAccess_L1 a_a fuel a_a.Values 0)
theorem s_FormatAccess_ok (fuel : Nat) (a_a : Access) (v0_1 : Sv) (R : (List UInt8)) (hF : s_FormatAccess fuel a_a = some R) :
    Fw.Spec Tryz.prog 37 [(.agg [(.int .i64 a_a.Method), v0_1.v].toArray)] [crd (RdS 3 rdInt) v0_1.v a_a.Values] (fun _ : Unit => (sv R)) (fun _ => []) := by
  refine Spec_enter (n := 38) Tryz.func37 rfl rfl (rs := [.tmp 2]) rfl rfl rfl ?_
  intro H0 F0
  unfold s_FormatAccess at hF
  refine au ?_
  refine AbR (fun k1 => ?_)
  iterate 3 refine au ?_
  obtain ⟨o2, hio2, hO3⟩ := bind_some hF
  refine au ?_
  refine C_cut (fun f' cs' => ∃ (c8 : Bool) (g : Fr), c8 = o2 ∧ f' = updL g [(1, (.pointer (some ⟨k1, 0, some 0⟩))), (13, (.bool c8))] ∧ Ent cs' [cboR k1 80 (.agg [(.int .i64 a_a.Method), v0_1.v].toArray), crd (RdS 3 rdInt) v0_1.v a_a.Values]) ?_ ?_
  · replace hF := hio2
    iterate 2 refine au ?_
    obtain ⟨r4, hx5, hF⟩ := bind_some hF
    refine Cx0 (s_l1In_ok _ _ _ _ hx5) (fun _ => ?_)
    iterate 2 refine au ?_
    rcases Bool.eq_false_or_eq_true (!r4) with hg7 | hg7
    · rw [hg7]
      try rw [hg7] at hF; dsimp only [cond_true, cond_false] at hF
      iterate 6 refine au ?_
      cases hF
      exact ⟨_, _, rfl, eqA, entA⟩
    rw [hg7]
    try rw [hg7] at hF; dsimp only [cond_true, cond_false] at hF
    iterate 10 refine au ?_
    cases hF
    exact ⟨_, _, rfl, eqA, entA⟩
  rintro _ _ ⟨c8, g51, rfl, rfl, hE⟩
  replace hF := hO3
  clear hO3
  try dsimp only at hF
  refine K_ent hE ?_
  refine Cc (fun hb50 => ?_) (fun hb50 => ?_)
  · rw [if_pos hb50] at hF
    iterate 4 refine au ?_
    cases hF
    exact Er ()
  rw [if_neg (nt hb50)] at hF
  iterate 5 refine au ?_
  refine CW_block (CW_loop (m := a_a.Values.length) (fun m10 f' cs' => ∃ (g : Fr) (k12 : Nat) (rest13 : List Int), m10 = rest13.length ∧ f' = updL g [(1, (.pointer (some ⟨k1, 0, some 0⟩))), (3, (.int .i64 (k12 : Int)))] ∧ List.drop k12 a_a.Values = rest13 ∧ Ent cs' [cboR k1 80 (.agg [(.int .i64 a_a.Method), v0_1.v].toArray), crd (RdS 3 rdInt) v0_1.v a_a.Values] ∧ s_FormatAccess_L1 a_a fuel rest13 k12 = some R) ⟨_, 0, _, rfl, eqA, rfl, entA, hF⟩ ?_)
  clear hF
  rintro m10 _ _ ⟨g11, k12, rest13, rfl, rfl, hd15, hE, hF⟩
  refine K_ent hE ?_
  clear hE
  refine K_pure (c := crd (RdS 3 rdInt) v0_1.v a_a.Values) (.t .h) crd_bound (fun hbd20 => ?_)
  rcases rest13 with _ | ⟨x14, rest13⟩
  · have hk16 := List.drop_eq_nil_iff.1 hd15
    rw [s_FormatAccess_L1] at hF
    iterate 8 refine au ?_
    refine CdF ?_
    iterate 4 refine au ?_
    refine K_draw [0, 1, 5, 6, 2, 3, 4, 7, 8, 9, 10] [0, 1, 3, 7, 15, 0, 32, 103, 255, 511, 1023] [2, 7] mixed (by decide +kernel) ?_
    iterate 4 refine du ?_
    obtain ⟨r21, hx22, hF⟩ := bind_some hF
    refine Dx0 (s_FormatInt_ok _ _ _ hx22) (fun _ => ?_)
    obtain ⟨x24, hx25, hF⟩ := bind_some hF
    obtain ⟨hq27, hz26⟩ := cat_some hx25
    refine D_val rfl .no (fun ha => V_concatN (s := [109]) (t := r21) (u := x24) (EN ha (.sv _) rfl) (EN ha (.tmp rfl rfl) rfl) hx25) ?_
    obtain ⟨x28, hx29, hF⟩ := bind_some hF
    obtain ⟨hq31, hz30⟩ := cat_some hx29
    refine D_val rfl .no (fun ha => V_concatN (s := x24) (t := [40]) (u := x28) (EN ha (.tmp rfl rfl) rfl) (EN ha (.sv _) rfl) hx29) ?_
    obtain ⟨r32, hx33, hF⟩ := bind_some hF
    refine Dx0 (s_l2List_ok _ _ _ _ hx33) (fun _ => ?_)
    obtain ⟨x35, hx36, hF⟩ := bind_some hF
    obtain ⟨hq38, hz37⟩ := cat_some hx36
    refine D_val rfl .no (fun ha => V_concatN (s := x28) (t := r32) (u := x35) (EN ha (.tmp rfl rfl) rfl) (EN ha (.tmp rfl rfl) rfl) hx36) ?_
    obtain ⟨x39, hx40, hF⟩ := bind_some hF
    obtain ⟨hq42, hz41⟩ := cat_some hx40
    refine D_val rfl .no (fun ha => V_concatN (s := x35) (t := [41]) (u := x39) (EN ha (.tmp rfl rfl) rfl) (EN ha (.sv _) rfl) hx40) ?_
    iterate 2 refine du ?_
    refine au ?_
    cases hF
    exact Er ()
  obtain ⟨hk16, hx17, hd18⟩ := drop_cons hd15
  rw [s_FormatAccess_L1] at hF
  iterate 8 refine au ?_
  refine CdT ?_
  iterate 6 refine au ?_
  refine Ai hx17 (fun k43 j44 => ?_)
  refine Al ls3_0 ?_
  obtain ⟨r45, hx46, hF⟩ := bind_some hF
  refine Cx0 (s_l1In_ok _ _ _ _ hx46) (fun _ => ?_)
  iterate 2 refine au ?_
  refine Cc (fun hb49 => ?_) (fun hb49 => ?_)
  · rw [if_pos hb49] at hF
    iterate 4 refine au ?_
    cases hF
    exact Er ()
  rw [if_neg (nt hb49)] at hF
  iterate 6 refine au ?_
  rw [wk k12]
  exact ⟨_, Nat.lt_succ_self _, _, k12 + 1, rest13, rfl, eqA, hd18, entA, hF⟩

/-! spec.FormatFact -/
def s_FormatFact_L1 (a_f : Fact) (fuel : Nat) : List Int → Nat → Option ((List UInt8))
  | [], k15 => (s_FormatInt fuel a_f.Rel).bind fun r24 =>
    (cat [114] r24).bind fun x27 =>
    (cat x27 [40]).bind fun x31 =>
    (s_l2List fuel a_f.Values).bind fun r35 =>
    (cat x31 r35).bind fun x38 =>
    (cat x38 [41]).bind fun x42 =>
    some x42
  | x17 :: rest16, k15 => (s_l1In x17 0 9).bind fun r48 =>
    if (!r48) then (
      some [])
    else (
      s_FormatFact_L1 a_f fuel rest16 (k15 + 1))
def s_FormatFact (fuel : Nat) (a_f : Fact) : Option ((List UInt8)) :=
  ((s_l1In a_f.Rel 0 2).bind fun r4 =>
    bif (!r4) then (some true)
    else ((s_l1In (a_f.Values.length : Int) 1 3).bind fun r8 =>
      some (!r8))).bind fun o2 =>
  match o2 with
  | c11 => if c11 then (
      some [])
    else (
      s_FormatFact_L1 a_f fuel a_f.Values 0)
theorem s_FormatFact_ok (fuel : Nat) (a_f : Fact) (v0_1 : Sv) (R : (List UInt8)) (hF : s_FormatFact fuel a_f = some R) :
    Fw.Spec Tryz.prog 98 [(.agg [(.int .i64 a_f.Rel), v0_1.v].toArray)] [crd (RdS 3 rdInt) v0_1.v a_f.Values] (fun _ : Unit => (sv R)) (fun _ => []) := by
  refine Spec_enter (n := 39) Tryz.func98 rfl rfl (rs := [.tmp 2]) rfl rfl rfl ?_
  intro H0 F0
  unfold s_FormatFact at hF
  refine au ?_
  refine AbR (fun k1 => ?_)
  iterate 3 refine au ?_
  obtain ⟨o2, hio2, hO3⟩ := bind_some hF
  refine au ?_
  refine C_cut (fun f' cs' => ∃ (c11 : Bool) (g : Fr), c11 = o2 ∧ f' = updL g [(1, (.pointer (some ⟨k1, 0, some 0⟩))), (14, (.bool c11))] ∧ Ent cs' [cboR k1 114 (.agg [(.int .i64 a_f.Rel), v0_1.v].toArray), crd (RdS 3 rdInt) v0_1.v a_f.Values]) ?_ ?_
  · replace hF := hio2
    iterate 2 refine au ?_
    obtain ⟨r4, hx5, hF⟩ := bind_some hF
    refine Cx0 (s_l1In_ok _ _ _ _ hx5) (fun _ => ?_)
    iterate 2 refine au ?_
    rcases Bool.eq_false_or_eq_true (!r4) with hg7 | hg7
    · rw [hg7]
      try rw [hg7] at hF; dsimp only [cond_true, cond_false] at hF
      iterate 7 refine au ?_
      cases hF
      exact ⟨_, _, rfl, eqA, entA⟩
    rw [hg7]
    try rw [hg7] at hF; dsimp only [cond_true, cond_false] at hF
    iterate 7 refine au ?_
    obtain ⟨r8, hx9, hF⟩ := bind_some hF
    refine Cx0 (s_l1In_ok _ _ _ _ hx9) (fun _ => ?_)
    iterate 4 refine au ?_
    cases hF
    exact ⟨_, _, rfl, eqA, entA⟩
  rintro _ _ ⟨c11, g54, rfl, rfl, hE⟩
  replace hF := hO3
  clear hO3
  try dsimp only at hF
  refine K_ent hE ?_
  refine Cc (fun hb53 => ?_) (fun hb53 => ?_)
  · rw [if_pos hb53] at hF
    iterate 4 refine au ?_
    cases hF
    exact Er ()
  rw [if_neg (nt hb53)] at hF
  iterate 5 refine au ?_
  refine CW_block (CW_loop (m := a_f.Values.length) (fun m13 f' cs' => ∃ (g : Fr) (k15 : Nat) (rest16 : List Int), m13 = rest16.length ∧ f' = updL g [(1, (.pointer (some ⟨k1, 0, some 0⟩))), (3, (.int .i64 (k15 : Int)))] ∧ List.drop k15 a_f.Values = rest16 ∧ Ent cs' [cboR k1 114 (.agg [(.int .i64 a_f.Rel), v0_1.v].toArray), crd (RdS 3 rdInt) v0_1.v a_f.Values] ∧ s_FormatFact_L1 a_f fuel rest16 k15 = some R) ⟨_, 0, _, rfl, eqA, rfl, entA, hF⟩ ?_)
  clear hF
  rintro m13 _ _ ⟨g14, k15, rest16, rfl, rfl, hd18, hE, hF⟩
  refine K_ent hE ?_
  clear hE
  refine K_pure (c := crd (RdS 3 rdInt) v0_1.v a_f.Values) (.t .h) crd_bound (fun hbd23 => ?_)
  rcases rest16 with _ | ⟨x17, rest16⟩
  · have hk19 := List.drop_eq_nil_iff.1 hd18
    rw [s_FormatFact_L1] at hF
    iterate 8 refine au ?_
    refine CdF ?_
    iterate 4 refine au ?_
    refine K_draw [0, 1, 5, 6, 2, 3, 4, 7, 8, 9, 10] [0, 1, 3, 7, 15, 0, 32, 103, 255, 511, 1023] [2, 7] mixed (by decide +kernel) ?_
    iterate 4 refine du ?_
    obtain ⟨r24, hx25, hF⟩ := bind_some hF
    refine Dx0 (s_FormatInt_ok _ _ _ hx25) (fun _ => ?_)
    obtain ⟨x27, hx28, hF⟩ := bind_some hF
    obtain ⟨hq30, hz29⟩ := cat_some hx28
    refine D_val rfl .no (fun ha => V_concatN (s := [114]) (t := r24) (u := x27) (EN ha (.sv _) rfl) (EN ha (.tmp rfl rfl) rfl) hx28) ?_
    obtain ⟨x31, hx32, hF⟩ := bind_some hF
    obtain ⟨hq34, hz33⟩ := cat_some hx32
    refine D_val rfl .no (fun ha => V_concatN (s := x27) (t := [40]) (u := x31) (EN ha (.tmp rfl rfl) rfl) (EN ha (.sv _) rfl) hx32) ?_
    obtain ⟨r35, hx36, hF⟩ := bind_some hF
    refine Dx0 (s_l2List_ok _ _ _ _ hx36) (fun _ => ?_)
    obtain ⟨x38, hx39, hF⟩ := bind_some hF
    obtain ⟨hq41, hz40⟩ := cat_some hx39
    refine D_val rfl .no (fun ha => V_concatN (s := x31) (t := r35) (u := x38) (EN ha (.tmp rfl rfl) rfl) (EN ha (.tmp rfl rfl) rfl) hx39) ?_
    obtain ⟨x42, hx43, hF⟩ := bind_some hF
    obtain ⟨hq45, hz44⟩ := cat_some hx43
    refine D_val rfl .no (fun ha => V_concatN (s := x38) (t := [41]) (u := x42) (EN ha (.tmp rfl rfl) rfl) (EN ha (.sv _) rfl) hx43) ?_
    iterate 2 refine du ?_
    refine au ?_
    cases hF
    exact Er ()
  obtain ⟨hk19, hx20, hd21⟩ := drop_cons hd18
  rw [s_FormatFact_L1] at hF
  iterate 8 refine au ?_
  refine CdT ?_
  iterate 6 refine au ?_
  refine Ai hx20 (fun k46 j47 => ?_)
  refine Al ls3_0 ?_
  obtain ⟨r48, hx49, hF⟩ := bind_some hF
  refine Cx0 (s_l1In_ok _ _ _ _ hx49) (fun _ => ?_)
  iterate 2 refine au ?_
  refine Cc (fun hb52 => ?_) (fun hb52 => ?_)
  · rw [if_pos hb52] at hF
    iterate 4 refine au ?_
    cases hF
    exact Er ()
  rw [if_neg (nt hb52)] at hF
  iterate 6 refine au ?_
  rw [wk k15]
  exact ⟨_, Nat.lt_succ_self _, _, k15 + 1, rest16, rfl, eqA, hd21, entA, hF⟩

/-! spec.l36Facts -/
def s_l36Facts_L1 (fuel : Nat) : List Fact → Nat → (List UInt8) → Option ((List UInt8))
  | [], k5, c1 => if (c1 == []) then (
      some [110, 111, 110, 101])
    else (
      some c1)
  | x7 :: rest6, k5, c1 => (if (decide ((0 : Int) < (k5 : Int))) then (
        (cat c1 [32]).bind fun x17 =>
        (s_FormatFact fuel x7).bind fun r24 =>
        (cat x17 r24).bind fun x27 =>
        some x27)
      else (
        (s_FormatFact fuel x7).bind fun r34 =>
        (cat c1 r34).bind fun x37 =>
        some x37)).bind fun o15 =>
    match o15 with
    | c42 => s_l36Facts_L1 fuel rest6 (k5 + 1) c42
def s_l36Facts (fuel : Nat) (a_l : List Fact) : Option ((List UInt8)) :=
  s_l36Facts_L1 fuel a_l 0 []
theorem s_l36Facts_ok (fuel : Nat) (a_l : List Fact) (v0_0 : Sv) (R : (List UInt8)) (hF : s_l36Facts fuel a_l = some R) :
    Fw.Spec Tryz.prog 39 [v0_0.v] [crd (RdS 114 rd114) v0_0.v a_l] (fun _ : Unit => (sv R)) (fun _ => []) := by
  refine Spec_enter (n := 25) Tryz.func39 rfl rfl (rs := [.tmp 2]) rfl rfl rfl ?_
  intro H0 F0
  unfold s_l36Facts at hF
  iterate 10 refine au ?_
  refine CW_block (CW_loop (m := a_l.length) (fun m3 f' cs' => ∃ (g : Fr) (k5 : Nat) (rest6 : List Fact) (c1 : List UInt8), m3 = rest6.length ∧ f' = updL g [(0, v0_0.v), (3, (sv c1)), (4, (.int .i64 (k5 : Int)))] ∧ List.drop k5 a_l = rest6 ∧ Ent cs' [crd (RdS 114 rd114) v0_0.v a_l] ∧ s_l36Facts_L1 fuel rest6 k5 c1 = some R) ⟨_, 0, _, _, rfl, eqA, rfl, entA, hF⟩ ?_)
  clear hF
  rintro m3 _ _ ⟨g4, k5, rest6, c1, rfl, rfl, hd8, hE, hF⟩
  refine K_ent hE ?_
  clear hE
  refine K_pure (c := crd (RdS 114 rd114) v0_0.v a_l) .h crd_bound (fun hbd13 => ?_)
  rcases rest6 with _ | ⟨x7, rest6⟩
  · have hk9 := List.drop_eq_nil_iff.1 hd8
    rw [s_l36Facts_L1] at hF
    iterate 7 refine au ?_
    refine CdF ?_
    iterate 7 refine au ?_
    refine C_val (V_eqT (s := c1) (t := []) (.tmp rfl rfl) (.sv _)) ?_
    refine au ?_
    refine Cc (fun hb14 => ?_) (fun hb14 => ?_)
    · rw [if_pos hb14] at hF
      iterate 4 refine au ?_
      cases hF
      exact Er ()
    rw [if_neg (nt hb14)] at hF
    iterate 6 refine au ?_
    cases hF
    exact Er ()
  obtain ⟨hk9, hx10, hd11⟩ := drop_cons hd8
  rw [s_l36Facts_L1] at hF
  iterate 7 refine au ?_
  refine CdT ?_
  refine au ?_
  obtain ⟨o15, hio15, hO16⟩ := bind_some hF
  refine K_cut (fun f' cs' => ∃ (c42 : List UInt8) (g : Fr), c42 = o15 ∧ f' = updL g [(0, v0_0.v), (3, (sv c42)), (4, (.int .i64 (k5 : Int)))] ∧ Ent cs' [crd (RdS 114 rd114) v0_0.v a_l]) ?_ ?_
  · replace hF := hio15
    refine CW_block (K_in (K_region (Cm (.int .i64 (k5 : Int)) rfl rfl ?_)))
    iterate 2 refine au ?_
    refine Cc (fun hb41 => ?_) (fun hb41 => ?_)
    · rw [if_pos hb41] at hF
      iterate 2 refine au ?_
      obtain ⟨x17, hx18, hF⟩ := bind_some hF
      obtain ⟨hq20, hz19⟩ := cat_some hx18
      refine C_val (V_concatN (s := c1) (t := [32]) (u := x17) (.tmp rfl rfl) (.sv _) hx18) ?_
      iterate 6 refine au ?_
      refine Ai hx10 (fun k21 j22 => ?_)
      refine AlA1 (ul114_0_114 x7) la114_0_114 (fun p23 => ?_)
      obtain ⟨r24, hx25, hF⟩ := bind_some hF
      refine Cx0 (s_FormatFact_ok _ _ _ _ hx25) (fun _ => ?_)
      obtain ⟨x27, hx28, hF⟩ := bind_some hF
      obtain ⟨hq30, hz29⟩ := cat_some hx28
      refine C_val (V_concatN (s := x17) (t := r24) (u := x27) (.tmp rfl rfl) (.tmp rfl rfl) hx28) ?_
      iterate 2 refine au ?_
      cases hF
      exact ⟨_, _, rfl, eqA, entA⟩
    rw [if_neg (nt hb41)] at hF
    iterate 5 refine au ?_
    refine Ai hx10 (fun k31 j32 => ?_)
    refine AlA1 (ul114_0_114 x7) la114_0_114 (fun p33 => ?_)
    obtain ⟨r34, hx35, hF⟩ := bind_some hF
    refine Cx0 (s_FormatFact_ok _ _ _ _ hx35) (fun _ => ?_)
    obtain ⟨x37, hx38, hF⟩ := bind_some hF
    obtain ⟨hq40, hz39⟩ := cat_some hx38
    refine C_val (V_concatN (s := c1) (t := r34) (u := x37) (.tmp rfl rfl) (.tmp rfl rfl) hx38) ?_
    iterate 2 refine au ?_
    cases hF
    exact ⟨_, _, rfl, eqA, entA⟩
  rintro _ _ ⟨c42, g44, rfl, rfl, hE⟩
  replace hF := hO16
  clear hO16
  try dsimp only at hF
  refine K_ent hE ?_
  iterate 5 refine au ?_
  rw [wk k5]
  exact ⟨_, Nat.lt_succ_self _, _, k5 + 1, rest6, _, rfl, eqA, hd11, entA, hF⟩

/-! spec.CacheLines -/
def s_CacheLines_L1 (a_m : Mediator) (fuel : Nat) : Nat → (List (List UInt8)) → Int → Option ((List (List UInt8)))
  | 0, _, _ => none
  | m7 + 1, c3, c6 => (bif (decide ((c6 : Int) < (a_m.Cache.Entries.length : Int))) then ((s_IsMediator a_m).bind fun r18 =>
        some r18)
      else (some false)).bind fun o15 =>
    match o15 with
    | c21 => if c21 then (
        (ix a_m.Cache.Entries c6).bind fun x22 =>
        (s_FormatAccess fuel x22.Access).bind fun r30 =>
        (cat r30 [32, 97, 116, 32]).bind fun x33 =>
        (s_FormatInt fuel x22.At).bind fun r37 =>
        (cat x33 r37).bind fun x40 =>
        (cat x40 [32]).bind fun x44 =>
        (s_l36Facts fuel x22.Facts).bind fun r48 =>
        (cat x44 r48).bind fun x51 =>
        (app c3 ([x51] : List (List UInt8))).bind fun z56 =>
        s_CacheLines_L1 a_m fuel m7 z56 (IntKind.i64.wrap (c6 + 1)))
      else (
        some c3)
def s_CacheLines (fuel : Nat) (a_m : Mediator) : Option ((List (List UInt8))) :=
  s_CacheLines_L1 a_m fuel (((a_m.Cache.Entries.length : Int) - 0).toNat + 2) ([] : List (List UInt8)) 0
theorem s_CacheLines_ok (fuel : Nat) (a_m : Mediator) (v0_0 : Sv) (v0_1 : Sv) (v0_2 : Sv) (v0_3 : Sv) (v0_5 : Sv) (v0_8 : Sv) (v0_9 : Sv) (v0_11 : Sv) (R : (List (List UInt8))) (hF : s_CacheLines fuel a_m = some R) :
    Fw.Spec Tryz.prog 7 [(.agg [v0_0.v, v0_1.v, v0_2.v, v0_3.v, (.int .i64 a_m.Source.Version), v0_5.v, (.int .i64 a_m.Cache.Age), (.int .i64 a_m.Now), v0_8.v, v0_9.v, (.int .i64 a_m.Spent), v0_11.v].toArray)] [crd (RdS 3 rdInt) v0_0.v a_m.Schema, crd (RdS 112 rd112) v0_1.v a_m.Methods, crd (RdS 148 rd148) v0_2.v a_m.Rules, crd (RdS 114 rd114) v0_3.v a_m.Source.Facts, crd (RdS 82 rd82) v0_5.v a_m.Cache.Entries, crd (RdS 80 rd80) v0_8.v a_m.Log, crd (RdS 3 rdInt) v0_9.v a_m.Times, crd (RdS 139 (RdS 22 (RdS 3 rdInt))) v0_11.v a_m.Results] (fun p : Sv × List Nat => p.1.v) (fun p => [cown (OwnS 9 (roE rdStr)) p.2 p.1.v R]) := by
  refine Spec_enter (n := 42) Tryz.func7 rfl rfl (rs := [.tmp 2]) rfl rfl rfl ?_
  intro H0 F0
  unfold s_CacheLines at hF
  refine au ?_
  refine AbR (fun k1 => ?_)
  iterate 3 refine au ?_
  refine C_new rfl (N_buildSliceT (g := true) sl36.h ty9.h .nil (vs := []) rfl rfl rfl (by simp)) (fun k2 => ?_)
  refine Cv1 (.cons .h .nil) (own_lit (Ro := (roE rdStr)) (E := 9) (F := []) (xs := ([] : List (List UInt8))) MkL_nil rfl rfl) ?_
  iterate 6 refine au ?_
  refine CW_block (CW_loop (m := (((a_m.Cache.Entries.length : Int) - 0).toNat + 2)) (fun m7 f' cs' => ∃ (g : Fr) (c3 : List (List UInt8)) (c6 : Int) (v4 : Sv) (F5 : List Nat), f' = updL g [(1, (.pointer (some ⟨k1, 0, some 0⟩))), (3, v4.v), (4, (.int .i64 c6))] ∧ Ent cs' [cboR k1 48 (.agg [v0_0.v, v0_1.v, v0_2.v, v0_3.v, (.int .i64 a_m.Source.Version), v0_5.v, (.int .i64 a_m.Cache.Age), (.int .i64 a_m.Now), v0_8.v, v0_9.v, (.int .i64 a_m.Spent), v0_11.v].toArray), crd (RdS 3 rdInt) v0_0.v a_m.Schema, crd (RdS 112 rd112) v0_1.v a_m.Methods, crd (RdS 148 rd148) v0_2.v a_m.Rules, crd (RdS 114 rd114) v0_3.v a_m.Source.Facts, crd (RdS 82 rd82) v0_5.v a_m.Cache.Entries, crd (RdS 80 rd80) v0_8.v a_m.Log, crd (RdS 3 rdInt) v0_9.v a_m.Times, crd (RdS 139 (RdS 22 (RdS 3 rdInt))) v0_11.v a_m.Results, cown (OwnS 9 (roE rdStr)) F5 v4.v c3] ∧ s_CacheLines_L1 a_m fuel m7 c3 c6 = some R) ⟨_, _, _, ⟨(some ⟨k2, 0, none⟩), 0, 1⟩, (k2 :: []), eqA, entA, hF⟩ ?_)
  clear hF
  rintro m7 _ _ ⟨g8, c3, c6, v4, F5, rfl, hE, hF⟩
  refine K_ent hE ?_
  clear hE
  rcases m7 with _ | m7
  · rw [s_CacheLines_L1] at hF
    exact absurd hF (by simp)
  rw [s_CacheLines_L1] at hF
  refine au ?_
  obtain ⟨o15, hio15, hO16⟩ := bind_some hF
  refine au ?_
  refine C_cut (fun f' cs' => ∃ (c21 : Bool) (g : Fr), c21 = o15 ∧ f' = updL g [(1, (.pointer (some ⟨k1, 0, some 0⟩))), (3, v4.v), (4, (.int .i64 c6)), (16, (.bool c21))] ∧ Ent cs' [cboR k1 48 (.agg [v0_0.v, v0_1.v, v0_2.v, v0_3.v, (.int .i64 a_m.Source.Version), v0_5.v, (.int .i64 a_m.Cache.Age), (.int .i64 a_m.Now), v0_8.v, v0_9.v, (.int .i64 a_m.Spent), v0_11.v].toArray), crd (RdS 3 rdInt) v0_0.v a_m.Schema, crd (RdS 112 rd112) v0_1.v a_m.Methods, crd (RdS 148 rd148) v0_2.v a_m.Rules, crd (RdS 114 rd114) v0_3.v a_m.Source.Facts, crd (RdS 82 rd82) v0_5.v a_m.Cache.Entries, crd (RdS 80 rd80) v0_8.v a_m.Log, crd (RdS 3 rdInt) v0_9.v a_m.Times, crd (RdS 139 (RdS 22 (RdS 3 rdInt))) v0_11.v a_m.Results, cown (OwnS 9 (roE rdStr)) F5 v4.v c3]) ?_ ?_
  · replace hF := hio15
    iterate 7 refine au ?_
    rcases Bool.eq_false_or_eq_true (decide ((c6 : Int) < (a_m.Cache.Entries.length : Int))) with hg17 | hg17
    · rw [hg17]
      try rw [hg17] at hF; dsimp only [cond_true, cond_false] at hF
      iterate 3 refine au ?_
      obtain ⟨r18, hx19, hF⟩ := bind_some hF
      refine Cx0 (s_IsMediator_ok _ _ _ _ _ _ _ _ _ _ hx19) (fun _ => ?_)
      iterate 2 refine au ?_
      cases hF
      exact ⟨_, _, rfl, eqA, entA⟩
    rw [hg17]
    try rw [hg17] at hF; dsimp only [cond_true, cond_false] at hF
    iterate 4 refine au ?_
    cases hF
    exact ⟨_, _, rfl, eqA, entA⟩
  rintro _ _ ⟨c21, g60, rfl, rfl, hE⟩
  replace hF := hO16
  clear hO16
  try dsimp only at hF
  refine K_ent hE ?_
  refine Cc (fun hb59 => ?_) (fun hb59 => ?_)
  · rw [if_pos hb59] at hF
    iterate 7 refine au ?_
    obtain ⟨x22, hx23, hF⟩ := bind_some hF
    obtain ⟨hp24, hx25⟩ := ix_some hx23
    refine Ai hx25 (fun k26 j27 => ?_)
    refine AlA2 (ul82_0_82 x22) la82_0_82 (fun p28 => ?_)
    refine AnW (fun k29 => ?_)
    refine As (.agg [(.int .i64 x22.Access.Method), p28.1.v, p28.2.v, (.int .i64 x22.At)].toArray) ?_
    refine au ?_
    refine CW_draw [0, 1, 2, 5, 6, 10, 11, 3, 4, 7, 8, 9, 12, 13, 14, 15, 16] [0, 0, 2, 6, 14, 0, 32, 110, 254, 510, 0, 1024, 3310, 8190, 16382, 32767, 65535] [3, 7, 12, 15] mixed (by decide +kernel) ?_
    iterate 2 refine du ?_
    refine D_atO rfl .no .h (fun ha hp => V_loadA (s := 2) (l := [(.int .i64 x22.Access.Method), p28.1.v]) ag80.h ty80.h.sz (EN ha (.tmp rfl rfl) rfl) hp.2 rfl (by decide) (Nat.le_of_ble_eq_true rfl) rfl) ?_
    refine du ?_
    refine D_atO rfl .no .h (fun ha hp => V_load (v := (.int .i64 x22.At)) ag3.h (EN ha (.tmp rfl rfl) rfl) hp.2 rfl rfl) ?_
    refine du ?_
    refine D_atO rfl .no .h (fun ha hp => V_load (v := p28.2.v) ag40.h (EN ha (.tmp rfl rfl) rfl) hp.2 rfl rfl) ?_
    obtain ⟨r30, hx31, hF⟩ := bind_some hF
    refine D_act0 rfl rfl .no (.rd (.t .h) rfl .nil) (.own .h (fun _ h => h) (.own .h (fun _ h => h) (.dep rfl .nil))) (fun ha => X_callS cf37.h (.cons (EN ha (.tmp rfl rfl) rfl) .nil) (s_FormatAccess_ok fuel x22.Access p28.1 _ hx31)) (fun _ => ?_)
    obtain ⟨x33, hx34, hF⟩ := bind_some hF
    obtain ⟨hq36, hz35⟩ := cat_some hx34
    refine D_val rfl .no (fun ha => V_concatN (s := r30) (t := [32, 97, 116, 32]) (u := x33) (EN ha (.tmp rfl rfl) rfl) (EN ha (.sv _) rfl) hx34) ?_
    obtain ⟨r37, hx38, hF⟩ := bind_some hF
    refine D_act0 rfl rfl .no .nil (.own .h (fun _ h => h) (.dep rfl (.dep rfl .nil))) (fun ha => X_callS cf38.h (.cons (EN ha (.tmp rfl rfl) rfl) .nil) (s_FormatInt_ok fuel x22.At _ hx38)) (fun _ => ?_)
    obtain ⟨x40, hx41, hF⟩ := bind_some hF
    obtain ⟨hq43, hz42⟩ := cat_some hx41
    refine D_val rfl .no (fun ha => V_concatN (s := x33) (t := r37) (u := x40) (EN ha (.tmp rfl rfl) rfl) (EN ha (.tmp rfl rfl) rfl) hx41) ?_
    obtain ⟨x44, hx45, hF⟩ := bind_some hF
    obtain ⟨hq47, hz46⟩ := cat_some hx45
    refine D_val rfl .no (fun ha => V_concatN (s := x40) (t := [32]) (u := x44) (EN ha (.tmp rfl rfl) rfl) (EN ha (.sv _) rfl) hx45) ?_
    obtain ⟨r48, hx49, hF⟩ := bind_some hF
    refine Dx0 (s_l36Facts_ok _ _ _ _ hx49) (fun _ => ?_)
    obtain ⟨x51, hx52, hF⟩ := bind_some hF
    obtain ⟨hq54, hz53⟩ := cat_some hx52
    refine D_val rfl .no (fun ha => V_concatN (s := x44) (t := r48) (u := x51) (EN ha (.tmp rfl rfl) rfl) (EN ha (.tmp rfl rfl) rfl) hx52) ?_
    refine D_new rfl .no rfl (fun ha => N_buildSliceT (g := true) (len := 1) (parts := [(0, .tmp 38)]) sl36.h ty9.h (.cons (EN ha (.tmp rfl rfl) rfl) .nil) (vs := [(sv x51)]) rfl rfl rfl (by intro v hv; simp at hv; rcases hv with rfl <;> rfl)) (fun k55 => ?_)
    refine Dv1 (.cons .h .nil) (own_lit (Ro := (roE rdStr)) (E := 9) (F := ([] ++ [])) (xs := ([x51] : List (List UInt8))) (MkL_cons (Mk_pure (fun _ => rfl)) MkL_nil apps) rfl rfl) ?_
    obtain ⟨z56, hx57, hF⟩ := bind_some hF
    refine D_act1 rfl rfl .no (.cons (.t (.t (.t (.t (.t (.t (.t (.t (.t (.t (.t (.t (.t (.t .h)))))))))))))) (.cons .h .nil)) (.dep rfl (.dep rfl (.dep rfl (.dep rfl .nil)))) (fun ha => X_appendO (Ro := (roE rdStr)) sl36.h ni36 ty9.h rfl rfl rfl (EN ha (.tmp rfl rfl) rfl) (EN ha (.tmp rfl rfl) rfl) hx57 src_own) (fun p58 => ?_)
    iterate 2 refine du ?_
    iterate 5 refine au ?_
    exact ⟨m7, Nat.lt_succ_self _, _, _, _, p58.1, p58.2, eqA, entA, hF⟩
  rw [if_neg (nt hb59)] at hF
  iterate 9 refine au ?_
  cases hF
  exact Er (v4, F5)

/-! impl.within -/
def i_within (a_n : Int) (a_low : Int) (a_high : Int) : Option (Bool) :=
  some ((decide ((a_low : Int) ≤ a_n)) && (decide ((a_n : Int) ≤ a_high)))
theorem i_within_ok (a_n : Int) (a_low : Int) (a_high : Int) (R : Bool) (hF : i_within a_n a_low a_high = some R) :
    Fw.Spec Tryz.prog 111 [(.int .i64 a_n), (.int .i64 a_low), (.int .i64 a_high)] [] (fun _ : Unit => (.bool R)) (fun _ => []) := by
  refine Spec_enter (n := 15) Tryz.func111 rfl rfl (rs := [.tmp 6]) rfl rfl rfl ?_
  intro H0 F0
  unfold i_within at hF
  iterate 4 refine au ?_
  refine C_cut (fun f' cs' => ∃ (g : Fr), f' = updL g [(6, (.bool ((decide ((a_low : Int) ≤ a_n)) && (decide ((a_n : Int) ≤ a_high)))))] ∧ Ent cs' []) ?_ ?_
  · iterate 4 refine au ?_
    rcases Bool.eq_false_or_eq_true (decide ((a_low : Int) ≤ a_n)) with hg1 | hg1
    · rw [hg1]
      try rw [hg1] at hF; dsimp only [cond_true, cond_false] at hF
      iterate 9 refine au ?_
      exact ⟨_, eqA, entA⟩
    rw [hg1]
    try rw [hg1] at hF; dsimp only [cond_true, cond_false] at hF
    iterate 6 refine au ?_
    exact ⟨_, eqA, entA⟩
  rintro _ _ ⟨g2, rfl, hE⟩
  refine K_ent hE ?_
  refine au ?_
  cases hF
  exact Er ()

/-! impl.IsSchema$1 -/
def i_IsSchema_1 (a_n : Int) : Option (Bool) :=
  (i_within a_n 1 3).bind fun r1 =>
  some (!r1)
theorem i_IsSchema_1_ok (a_n : Int) (R : Bool) (hF : i_IsSchema_1 a_n = some R) :
    Fw.Spec Tryz.prog 172 [(.int .i64 a_n)] [] (fun _ : Unit => (.bool R)) (fun _ => []) := by
  refine Spec_enter (n := 6) Tryz.func172 rfl rfl (rs := [.tmp 2]) rfl rfl rfl ?_
  intro H0 F0
  unfold i_IsSchema_1 at hF
  iterate 5 refine au ?_
  obtain ⟨r1, hx2, hF⟩ := bind_some hF
  refine Cx0 (i_within_ok _ _ _ _ hx2) (fun _ => ?_)
  iterate 4 refine au ?_
  cases hF
  exact Er ()

/-! slices.IndexFunc[[]int,int] -/
def g_slices_IndexFunc_int_int_iIsSchema1_L1 : List Int → Nat → Option (Int)
  | [], k4 => some (-1)
  | x6 :: rest5, k4 => (i_IsSchema_1 x6).bind fun r15 =>
    if r15 then (
      some (k4 : Int))
    else (
      g_slices_IndexFunc_int_int_iIsSchema1_L1 rest5 (k4 + 1))
def g_slices_IndexFunc_int_int_iIsSchema1 (a_s : List Int) : Option (Int) :=
  g_slices_IndexFunc_int_int_iIsSchema1_L1 a_s 0
theorem g_slices_IndexFunc_int_int_iIsSchema1_ok (a_s : List Int) (v0_0 : Sv) (R : Int) (hF : g_slices_IndexFunc_int_int_iIsSchema1 a_s = some R) :
    Fw.Spec Tryz.prog 204 [v0_0.v, (.func (.func 172) [].toArray [].toArray)] [crd (RdS 3 rdInt) v0_0.v a_s] (fun _ : Unit => (.int .i64 R)) (fun _ => []) := by
  refine Spec_enter (n := 19) Tryz.func204 rfl rfl (rs := [.tmp 4]) rfl rfl rfl ?_
  intro H0 F0
  unfold g_slices_IndexFunc_int_int_iIsSchema1 at hF
  iterate 9 refine au ?_
  refine CW_block (CW_loop (m := a_s.length) (fun m2 f' cs' => ∃ (g : Fr) (k4 : Nat) (rest5 : List Int), m2 = rest5.length ∧ f' = updL g [(0, v0_0.v), (1, (.func (.func 172) [].toArray [].toArray)), (7, (.int .i64 (a_s.length : Int))), (8, (.int .i64 (k4 : Int)))] ∧ List.drop k4 a_s = rest5 ∧ Ent cs' [crd (RdS 3 rdInt) v0_0.v a_s] ∧ g_slices_IndexFunc_int_int_iIsSchema1_L1 rest5 k4 = some R) ⟨_, 0, _, rfl, eqA, rfl, entA, hF⟩ ?_)
  clear hF
  rintro m2 _ _ ⟨g3, k4, rest5, rfl, rfl, hd7, hE, hF⟩
  refine K_ent hE ?_
  clear hE
  refine K_pure (c := crd (RdS 3 rdInt) v0_0.v a_s) .h crd_bound (fun hbd12 => ?_)
  rcases rest5 with _ | ⟨x6, rest5⟩
  · have hk8 := List.drop_eq_nil_iff.1 hd7
    rw [g_slices_IndexFunc_int_int_iIsSchema1_L1] at hF
    iterate 4 refine au ?_
    refine CdF ?_
    iterate 8 refine au ?_
    cases hF
    exact Er ()
  obtain ⟨hk8, hx9, hd10⟩ := drop_cons hd7
  rw [g_slices_IndexFunc_int_int_iIsSchema1_L1] at hF
  iterate 4 refine au ?_
  refine CdT ?_
  iterate 10 refine au ?_
  refine Ai hx9 (fun k13 j14 => ?_)
  refine Al ls3_0 ?_
  obtain ⟨r15, hx16, hF⟩ := bind_some hF
  refine C_x0 .nil (X_callCS cf172.h (.tmp rfl rfl) (.cons (.tmp rfl rfl) .nil) (i_IsSchema_1_ok x6 _ hx16)) (fun _ => ?_)
  refine au ?_
  refine Cc (fun hb19 => ?_) (fun hb19 => ?_)
  · rw [if_pos hb19] at hF
    iterate 5 refine au ?_
    cases hF
    exact Er ()
  rw [if_neg (nt hb19)] at hF
  iterate 5 refine au ?_
  rw [wk k4]
  exact ⟨_, Nat.lt_succ_self _, _, k4 + 1, rest5, rfl, eqA, hd10, entA, hF⟩

/-! slices.ContainsFunc[[]int,int] -/
def g_slices_ContainsFunc_int_int_iIsSchema1 (a_s : List Int) : Option (Bool) :=
  (g_slices_IndexFunc_int_int_iIsSchema1 a_s).bind fun r1 =>
  some (decide ((0 : Int) ≤ r1))
theorem g_slices_ContainsFunc_int_int_iIsSchema1_ok (a_s : List Int) (v0_0 : Sv) (R : Bool) (hF : g_slices_ContainsFunc_int_int_iIsSchema1 a_s = some R) :
    Fw.Spec Tryz.prog 158 [v0_0.v, (.func (.func 172) [].toArray [].toArray)] [crd (RdS 3 rdInt) v0_0.v a_s] (fun _ : Unit => (.bool R)) (fun _ => []) := by
  refine Spec_enter (n := 9) Tryz.func158 rfl rfl (rs := [.tmp 4]) rfl rfl rfl ?_
  intro H0 F0
  unfold g_slices_ContainsFunc_int_int_iIsSchema1 at hF
  iterate 6 refine au ?_
  obtain ⟨r1, hx2, hF⟩ := bind_some hF
  refine Cx0 (g_slices_IndexFunc_int_int_iIsSchema1_ok _ _ _ hx2) (fun _ => ?_)
  iterate 4 refine au ?_
  cases hF
  exact Er ()

/-! impl.IsSchema -/
def i_IsSchema (a_s : List Int) : Option (Bool) :=
  ((i_within (a_s.length : Int) 1 3).bind fun r3 =>
    bif r3 then ((g_slices_ContainsFunc_int_int_iIsSchema1 a_s).bind fun r7 =>
      some (!r7))
    else (some false)).bind fun o1 =>
  match o1 with
  | c10 => some c10
theorem i_IsSchema_ok (a_s : List Int) (v0_0 : Sv) (R : Bool) (hF : i_IsSchema a_s = some R) :
    Fw.Spec Tryz.prog 128 [v0_0.v] [crd (RdS 3 rdInt) v0_0.v a_s] (fun _ : Unit => (.bool R)) (fun _ => []) := by
  refine Spec_enter (n := 11) Tryz.func128 rfl rfl (rs := [.tmp 2]) rfl rfl rfl ?_
  intro H0 F0
  unfold i_IsSchema at hF
  iterate 3 refine au ?_
  obtain ⟨o1, hio1, hO2⟩ := bind_some hF
  refine au ?_
  refine C_cut (fun f' cs' => ∃ (c10 : Bool) (g : Fr), c10 = o1 ∧ f' = updL g [(2, (.bool c10))] ∧ Ent cs' []) ?_ ?_
  · replace hF := hio1
    iterate 2 refine au ?_
    obtain ⟨r3, hx4, hF⟩ := bind_some hF
    refine Cx0 (i_within_ok _ _ _ _ hx4) (fun _ => ?_)
    refine au ?_
    rcases Bool.eq_false_or_eq_true r3 with hg6 | hg6
    · rw [hg6]
      try rw [hg6] at hF; dsimp only [cond_true, cond_false] at hF
      iterate 3 refine au ?_
      obtain ⟨r7, hx8, hF⟩ := bind_some hF
      refine Cx0 (g_slices_ContainsFunc_int_int_iIsSchema1_ok _ _ _ hx8) (fun _ => ?_)
      iterate 5 refine au ?_
      cases hF
      exact ⟨_, _, rfl, eqA, entA⟩
    rw [hg6]
    try rw [hg6] at hF; dsimp only [cond_true, cond_false] at hF
    iterate 6 refine au ?_
    cases hF
    exact ⟨_, _, rfl, eqA, entA⟩
  rintro _ _ ⟨c10, g11, rfl, rfl, hE⟩
  replace hF := hO2
  clear hO2
  try dsimp only at hF
  refine K_ent hE ?_
  refine au ?_
  cases hF
  exact Er ()

/-! impl.hasRel -/
def i_hasRel (a_s : List Int) (a_rel : Int) : Option (Bool) :=
  ((i_IsSchema a_s).bind fun r3 =>
    bif r3 then ((i_within a_rel 0 (IntKind.i64.wrap ((a_s.length : Int) - 1))).bind fun r7 =>
      some r7)
    else (some false)).bind fun o1 =>
  match o1 with
  | c10 => some c10
theorem i_hasRel_ok (a_s : List Int) (v0_0 : Sv) (a_rel : Int) (R : Bool) (hF : i_hasRel a_s a_rel = some R) :
    Fw.Spec Tryz.prog 174 [v0_0.v, (.int .i64 a_rel)] [crd (RdS 3 rdInt) v0_0.v a_s] (fun _ : Unit => (.bool R)) (fun _ => []) := by
  refine Spec_enter (n := 14) Tryz.func174 rfl rfl (rs := [.tmp 4]) rfl rfl rfl ?_
  intro H0 F0
  unfold i_hasRel at hF
  iterate 3 refine au ?_
  obtain ⟨o1, hio1, hO2⟩ := bind_some hF
  refine au ?_
  refine C_cut (fun f' cs' => ∃ (c10 : Bool) (g : Fr), c10 = o1 ∧ f' = updL g [(4, (.bool c10))] ∧ Ent cs' []) ?_ ?_
  · replace hF := hio1
    refine au ?_
    obtain ⟨r3, hx4, hF⟩ := bind_some hF
    refine Cx0 (i_IsSchema_ok _ _ _ hx4) (fun _ => ?_)
    refine au ?_
    rcases Bool.eq_false_or_eq_true r3 with hg6 | hg6
    · rw [hg6]
      try rw [hg6] at hF; dsimp only [cond_true, cond_false] at hF
      iterate 9 refine au ?_
      obtain ⟨r7, hx8, hF⟩ := bind_some hF
      refine Cx0 (i_within_ok _ _ _ _ hx8) (fun _ => ?_)
      iterate 3 refine au ?_
      cases hF
      exact ⟨_, _, rfl, eqA, entA⟩
    rw [hg6]
    try rw [hg6] at hF; dsimp only [cond_true, cond_false] at hF
    iterate 8 refine au ?_
    cases hF
    exact ⟨_, _, rfl, eqA, entA⟩
  rintro _ _ ⟨c10, g11, rfl, rfl, hE⟩
  replace hF := hO2
  clear hO2
  try dsimp only at hF
  refine K_ent hE ?_
  refine au ?_
  cases hF
  exact Er ()

/-! impl.ascending -/
def i_ascending_L1 (a_l : List Int) : List Int → Nat → Option (Bool)
  | [], k4 => some true
  | x6 :: rest5, k4 => (bif (decide ((0 : Int) < (k4 : Int))) then ((ix a_l (IntKind.i64.wrap ((k4 : Int) - 1))).bind fun x18 =>
        some (decide ((x6 : Int) ≤ x18)))
      else (some false)).bind fun o13 =>
    match o13 with
    | c24 => if c24 then (
        some false)
      else (
        i_ascending_L1 a_l rest5 (k4 + 1))
def i_ascending (a_l : List Int) : Option (Bool) :=
  i_ascending_L1 a_l a_l 0
theorem i_ascending_ok (a_l : List Int) (v0_0 : Sv) (R : Bool) (hF : i_ascending a_l = some R) :
    Fw.Spec Tryz.prog 212 [v0_0.v] [crd (RdS 3 rdInt) v0_0.v a_l] (fun _ : Unit => (.bool R)) (fun _ => []) := by
  refine Spec_enter (n := 24) Tryz.func212 rfl rfl (rs := [.tmp 2]) rfl rfl rfl ?_
  intro H0 F0
  unfold i_ascending at hF
  iterate 9 refine au ?_
  refine CW_block (CW_loop (m := a_l.length) (fun m2 f' cs' => ∃ (g : Fr) (k4 : Nat) (rest5 : List Int), m2 = rest5.length ∧ f' = updL g [(0, v0_0.v), (5, (.int .i64 (a_l.length : Int))), (6, (.int .i64 (k4 : Int)))] ∧ List.drop k4 a_l = rest5 ∧ Ent cs' [crd (RdS 3 rdInt) v0_0.v a_l] ∧ i_ascending_L1 a_l rest5 k4 = some R) ⟨_, 0, _, rfl, eqA, rfl, entA, hF⟩ ?_)
  clear hF
  rintro m2 _ _ ⟨g3, k4, rest5, rfl, rfl, hd7, hE, hF⟩
  refine K_ent hE ?_
  clear hE
  refine K_pure (c := crd (RdS 3 rdInt) v0_0.v a_l) .h crd_bound (fun hbd12 => ?_)
  rcases rest5 with _ | ⟨x6, rest5⟩
  · have hk8 := List.drop_eq_nil_iff.1 hd7
    rw [i_ascending_L1] at hF
    iterate 4 refine au ?_
    refine CdF ?_
    iterate 8 refine au ?_
    cases hF
    exact Er ()
  obtain ⟨hk8, hx9, hd10⟩ := drop_cons hd7
  rw [i_ascending_L1] at hF
  iterate 4 refine au ?_
  refine CdT ?_
  iterate 6 refine au ?_
  obtain ⟨o13, hio13, hO14⟩ := bind_some hF
  refine K_draw [0, 1, 2, 3, 4, 5, 6, 7, 8, 9, 10, 11, 12, 13] [0, 1, 3, 7, 7, 31, 63, 7, 7, 263, 903, 1927, 4095, 8191] [] mixed (by decide +kernel) ?_
  refine D_cut (fun f' cs' => ∃ (c24 : Bool) (g : Fr), c24 = o13 ∧ f' = updL g [(0, v0_0.v), (5, (.int .i64 (a_l.length : Int))), (6, (.int .i64 (k4 : Int))), (22, (.bool c24))] ∧ Ent cs' [crd (RdS 3 rdInt) v0_0.v a_l]) ?_ ?_
  · replace hF := hio13
    iterate 3 refine du ?_
    rcases Bool.eq_false_or_eq_true (decide ((0 : Int) < (k4 : Int))) with hg15 | hg15
    · rw [hg15]
      try rw [hg15] at hF; dsimp only [cond_true, cond_false] at hF
      iterate 2 refine du ?_
      refine Di hx9 (fun k16 j17 => ?_)
      refine Dl ls3_0 ?_
      iterate 3 refine du ?_
      obtain ⟨x18, hx19, hF⟩ := bind_some hF
      obtain ⟨hp20, hx21⟩ := ix_some hx19
      refine Di hx21 (fun k22 j23 => ?_)
      refine Dl ls3_0 ?_
      iterate 3 refine du ?_
      cases hF
      exact ⟨_, _, rfl, eqA, entA⟩
    rw [hg15]
    try rw [hg15] at hF; dsimp only [cond_true, cond_false] at hF
    iterate 12 refine du ?_
    cases hF
    exact ⟨_, _, rfl, eqA, entA⟩
  rintro _ _ ⟨c24, g27, rfl, rfl, hE⟩
  replace hF := hO14
  clear hO14
  try dsimp only at hF
  refine K_ent hE ?_
  refine Cc (fun hb26 => ?_) (fun hb26 => ?_)
  · rw [if_pos hb26] at hF
    iterate 4 refine au ?_
    cases hF
    exact Er ()
  rw [if_neg (nt hb26)] at hF
  iterate 5 refine au ?_
  rw [wk k4]
  exact ⟨_, Nat.lt_succ_self _, _, k4 + 1, rest5, rfl, eqA, hd10, entA, hF⟩

/-! impl.Method).fits$1 -/
def i_Method_fits_1 (a_i : Int) (a_e1 : Int) : Option (Bool) :=
  (i_within a_i 0 (IntKind.i64.wrap (a_e1 - 1))).bind fun r1 =>
  some (!r1)
theorem i_Method_fits_1_ok (a_i : Int) (kc1 : Nat) (a_e1 : Int) (R : Bool) (hF : i_Method_fits_1 a_i a_e1 = some R) :
    Fw.Spec Tryz.prog 213 [(.int .i64 a_i), (.pointer (some ⟨kc1, 0, some 0⟩))] [cboR kc1 3 (.int .i64 a_e1)] (fun _ : Unit => (.bool R)) (fun _ => []) := by
  refine Spec_enter (n := 9) Tryz.func213 rfl rfl (rs := [.tmp 3]) rfl rfl rfl ?_
  intro H0 F0
  unfold i_Method_fits_1 at hF
  iterate 7 refine au ?_
  obtain ⟨r1, hx2, hF⟩ := bind_some hF
  refine Cx0 (i_within_ok _ _ _ _ hx2) (fun _ => ?_)
  iterate 4 refine au ?_
  cases hF
  exact Er ()

/-! slices.IndexFunc[[]int,int] -/
def g_slices_IndexFunc_int_int_iMethodfits1_L1 (a_e1 : Int) : List Int → Nat → Option (Int)
  | [], k4 => some (-1)
  | x6 :: rest5, k4 => (i_Method_fits_1 x6 a_e1).bind fun r15 =>
    if r15 then (
      some (k4 : Int))
    else (
      g_slices_IndexFunc_int_int_iMethodfits1_L1 a_e1 rest5 (k4 + 1))
def g_slices_IndexFunc_int_int_iMethodfits1 (a_s : List Int) (a_e1 : Int) : Option (Int) :=
  g_slices_IndexFunc_int_int_iMethodfits1_L1 a_e1 a_s 0
theorem g_slices_IndexFunc_int_int_iMethodfits1_ok (a_s : List Int) (v0_0 : Sv) (kc1 : Nat) (a_e1 : Int) (R : Int) (hF : g_slices_IndexFunc_int_int_iMethodfits1 a_s a_e1 = some R) :
    Fw.Spec Tryz.prog 204 [v0_0.v, (.func (.func 213) [].toArray [(.pointer (some ⟨kc1, 0, some 0⟩))].toArray)] [crd (RdS 3 rdInt) v0_0.v a_s, cboR kc1 3 (.int .i64 a_e1)] (fun _ : Unit => (.int .i64 R)) (fun _ => []) := by
  refine Spec_enter (n := 19) Tryz.func204 rfl rfl (rs := [.tmp 4]) rfl rfl rfl ?_
  intro H0 F0
  unfold g_slices_IndexFunc_int_int_iMethodfits1 at hF
  iterate 9 refine au ?_
  refine CW_block (CW_loop (m := a_s.length) (fun m2 f' cs' => ∃ (g : Fr) (k4 : Nat) (rest5 : List Int), m2 = rest5.length ∧ f' = updL g [(0, v0_0.v), (1, (.func (.func 213) [].toArray [(.pointer (some ⟨kc1, 0, some 0⟩))].toArray)), (7, (.int .i64 (a_s.length : Int))), (8, (.int .i64 (k4 : Int)))] ∧ List.drop k4 a_s = rest5 ∧ Ent cs' [crd (RdS 3 rdInt) v0_0.v a_s, cboR kc1 3 (.int .i64 a_e1)] ∧ g_slices_IndexFunc_int_int_iMethodfits1_L1 a_e1 rest5 k4 = some R) ⟨_, 0, _, rfl, eqA, rfl, entA, hF⟩ ?_)
  clear hF
  rintro m2 _ _ ⟨g3, k4, rest5, rfl, rfl, hd7, hE, hF⟩
  refine K_ent hE ?_
  clear hE
  refine K_pure (c := crd (RdS 3 rdInt) v0_0.v a_s) .h crd_bound (fun hbd12 => ?_)
  rcases rest5 with _ | ⟨x6, rest5⟩
  · have hk8 := List.drop_eq_nil_iff.1 hd7
    rw [g_slices_IndexFunc_int_int_iMethodfits1_L1] at hF
    iterate 4 refine au ?_
    refine CdF ?_
    iterate 8 refine au ?_
    cases hF
    exact Er ()
  obtain ⟨hk8, hx9, hd10⟩ := drop_cons hd7
  rw [g_slices_IndexFunc_int_int_iMethodfits1_L1] at hF
  iterate 4 refine au ?_
  refine CdT ?_
  iterate 10 refine au ?_
  refine Ai hx9 (fun k13 j14 => ?_)
  refine Al ls3_0 ?_
  obtain ⟨r15, hx16, hF⟩ := bind_some hF
  refine C_x0 (.rd (.t (.t .h)) rfl .nil) (X_callCS cf213.h (.tmp rfl rfl) (.cons (.tmp rfl rfl) .nil) (i_Method_fits_1_ok x6 kc1 a_e1 _ hx16)) (fun _ => ?_)
  refine au ?_
  refine Cc (fun hb19 => ?_) (fun hb19 => ?_)
  · rw [if_pos hb19] at hF
    iterate 5 refine au ?_
    cases hF
    exact Er ()
  rw [if_neg (nt hb19)] at hF
  iterate 5 refine au ?_
  rw [wk k4]
  exact ⟨_, Nat.lt_succ_self _, _, k4 + 1, rest5, rfl, eqA, hd10, entA, hF⟩

/-! slices.ContainsFunc[[]int,int] -/
def g_slices_ContainsFunc_int_int_iMethodfits1 (a_s : List Int) (a_e1 : Int) : Option (Bool) :=
  (g_slices_IndexFunc_int_int_iMethodfits1 a_s a_e1).bind fun r1 =>
  some (decide ((0 : Int) ≤ r1))
theorem g_slices_ContainsFunc_int_int_iMethodfits1_ok (a_s : List Int) (v0_0 : Sv) (kc1 : Nat) (a_e1 : Int) (R : Bool) (hF : g_slices_ContainsFunc_int_int_iMethodfits1 a_s a_e1 = some R) :
    Fw.Spec Tryz.prog 158 [v0_0.v, (.func (.func 213) [].toArray [(.pointer (some ⟨kc1, 0, some 0⟩))].toArray)] [crd (RdS 3 rdInt) v0_0.v a_s, cboR kc1 3 (.int .i64 a_e1)] (fun _ : Unit => (.bool R)) (fun _ => []) := by
  refine Spec_enter (n := 9) Tryz.func158 rfl rfl (rs := [.tmp 4]) rfl rfl rfl ?_
  intro H0 F0
  unfold g_slices_ContainsFunc_int_int_iMethodfits1 at hF
  iterate 6 refine au ?_
  obtain ⟨r1, hx2, hF⟩ := bind_some hF
  refine Cx0 (g_slices_IndexFunc_int_int_iMethodfits1_ok _ _ _ _ _ hx2) (fun _ => ?_)
  iterate 4 refine au ?_
  cases hF
  exact Er ()

/-! impl.isCost -/
def i_isCost (a_n : Int) : Option (Bool) :=
  (i_within a_n 0 99).bind fun r1 =>
  some r1
theorem i_isCost_ok (a_n : Int) (R : Bool) (hF : i_isCost a_n = some R) :
    Fw.Spec Tryz.prog 214 [(.int .i64 a_n)] [] (fun _ : Unit => (.bool R)) (fun _ => []) := by
  refine Spec_enter (n := 5) Tryz.func214 rfl rfl (rs := [.tmp 2]) rfl rfl rfl ?_
  intro H0 F0
  unfold i_isCost at hF
  iterate 5 refine au ?_
  obtain ⟨r1, hx2, hF⟩ := bind_some hF
  refine Cx0 (i_within_ok _ _ _ _ hx2) (fun _ => ?_)
  iterate 3 refine au ?_
  cases hF
  exact Er ()

/-! impl.Method).fits -/
def i_Method_fits (a_m : Method) (a_arity : Int) : Option (Bool) :=
  ((i_ascending a_m.Inputs).bind fun r5 =>
    bif r5 then ((g_slices_ContainsFunc_int_int_iMethodfits1 a_m.Inputs a_arity).bind fun r9 =>
      bif (!r9) then ((i_within a_m.Limit 0 9).bind fun r13 =>
        bif r13 then ((i_isCost a_m.Cost).bind fun r17 =>
          bif r17 then ((i_within a_m.Quota 1 99).bind fun r21 =>
            some r21)
          else (some false))
        else (some false))
      else (some false))
    else (some false)).bind fun o3 =>
  match o3 with
  | c24 => some c24
theorem i_Method_fits_ok (a_m : Method) (v0_1 : Sv) (a_arity : Int) (R : Bool) (hF : i_Method_fits a_m a_arity = some R) :
    Fw.Spec Tryz.prog 175 [(.agg [(.int .i64 a_m.Rel), v0_1.v, (.int .i64 a_m.Limit), (.int .i64 a_m.Cost), (.int .i64 a_m.Quota)].toArray), (.int .i64 a_arity)] [crd (RdS 3 rdInt) v0_1.v a_m.Inputs] (fun _ : Unit => (.bool R)) (fun _ => []) := by
  refine Spec_enter (n := 30) Tryz.func175 rfl rfl (rs := [.tmp 4]) rfl rfl rfl ?_
  intro H0 F0
  unfold i_Method_fits at hF
  refine au ?_
  refine AbR (fun k1 => ?_)
  refine AbR (fun k2 => ?_)
  iterate 2 refine au ?_
  obtain ⟨o3, hio3, hO4⟩ := bind_some hF
  refine au ?_
  refine C_cut (fun f' cs' => ∃ (c24 : Bool) (g : Fr), c24 = o3 ∧ f' = updL g [(4, (.bool c24))] ∧ Ent cs' []) ?_ ?_
  · replace hF := hio3
    iterate 2 refine au ?_
    obtain ⟨r5, hx6, hF⟩ := bind_some hF
    refine Cx0 (i_ascending_ok _ _ _ hx6) (fun _ => ?_)
    refine au ?_
    rcases Bool.eq_false_or_eq_true r5 with hg8 | hg8
    · rw [hg8]
      try rw [hg8] at hF; dsimp only [cond_true, cond_false] at hF
      iterate 5 refine au ?_
      refine C_val (V_makeFunc (fn := .func 213) (vs := []) (us := [(.pointer (some ⟨k2, 0, some 0⟩))]) .nil (.cons (.tmp rfl rfl) .nil)) ?_
      refine au ?_
      obtain ⟨r9, hx10, hF⟩ := bind_some hF
      refine Cx0 (g_slices_ContainsFunc_int_int_iMethodfits1_ok _ _ _ _ _ hx10) (fun _ => ?_)
      iterate 4 refine au ?_
      rcases Bool.eq_false_or_eq_true (!r9) with hg12 | hg12
      · rw [hg12]
        try rw [hg12] at hF; dsimp only [cond_true, cond_false] at hF
        iterate 5 refine au ?_
        obtain ⟨r13, hx14, hF⟩ := bind_some hF
        refine Cx0 (i_within_ok _ _ _ _ hx14) (fun _ => ?_)
        iterate 2 refine au ?_
        rcases Bool.eq_false_or_eq_true r13 with hg16 | hg16
        · rw [hg16]
          try rw [hg16] at hF; dsimp only [cond_true, cond_false] at hF
          iterate 5 refine au ?_
          obtain ⟨r17, hx18, hF⟩ := bind_some hF
          refine Cx0 (i_isCost_ok _ _ hx18) (fun _ => ?_)
          iterate 2 refine au ?_
          rcases Bool.eq_false_or_eq_true r17 with hg20 | hg20
          · rw [hg20]
            try rw [hg20] at hF; dsimp only [cond_true, cond_false] at hF
            iterate 5 refine au ?_
            obtain ⟨r21, hx22, hF⟩ := bind_some hF
            refine Cx0 (i_within_ok _ _ _ _ hx22) (fun _ => ?_)
            iterate 3 refine au ?_
            cases hF
            exact ⟨_, _, rfl, eqA, entA⟩
          rw [hg20]
          try rw [hg20] at hF; dsimp only [cond_true, cond_false] at hF
          iterate 6 refine au ?_
          cases hF
          exact ⟨_, _, rfl, eqA, entA⟩
        rw [hg16]
        try rw [hg16] at hF; dsimp only [cond_true, cond_false] at hF
        iterate 11 refine au ?_
        cases hF
        exact ⟨_, _, rfl, eqA, entA⟩
      rw [hg12]
      try rw [hg12] at hF; dsimp only [cond_true, cond_false] at hF
      iterate 16 refine au ?_
      cases hF
      exact ⟨_, _, rfl, eqA, entA⟩
    rw [hg8]
    try rw [hg8] at hF; dsimp only [cond_true, cond_false] at hF
    iterate 23 refine au ?_
    cases hF
    exact ⟨_, _, rfl, eqA, entA⟩
  rintro _ _ ⟨c24, g25, rfl, rfl, hE⟩
  replace hF := hO4
  clear hO4
  try dsimp only at hF
  refine K_ent hE ?_
  refine au ?_
  cases hF
  exact Er ()

/-! impl.IsMethod -/
def i_IsMethod (a_s : List Int) (a_m : Method) : Option (Bool) :=
  ((i_hasRel a_s a_m.Rel).bind fun r4 =>
    bif r4 then ((ix a_s a_m.Rel).bind fun x8 =>
      (i_Method_fits a_m x8).bind fun r14 =>
      some r14)
    else (some false)).bind fun o2 =>
  match o2 with
  | c17 => some c17
theorem i_IsMethod_ok (a_s : List Int) (v0_0 : Sv) (a_m : Method) (v1_1 : Sv) (R : Bool) (hF : i_IsMethod a_s a_m = some R) :
    Fw.Spec Tryz.prog 131 [v0_0.v, (.agg [(.int .i64 a_m.Rel), v1_1.v, (.int .i64 a_m.Limit), (.int .i64 a_m.Cost), (.int .i64 a_m.Quota)].toArray)] [crd (RdS 3 rdInt) v0_0.v a_s, crd (RdS 3 rdInt) v1_1.v a_m.Inputs] (fun _ : Unit => (.bool R)) (fun _ => []) := by
  refine Spec_enter (n := 18) Tryz.func131 rfl rfl (rs := [.tmp 4]) rfl rfl rfl ?_
  intro H0 F0
  unfold i_IsMethod at hF
  refine K_region (C_newR rfl (N_box (g := false) (v := (.agg [(.int .i64 a_m.Rel), v1_1.v, (.int .i64 a_m.Limit), (.int .i64 a_m.Cost), (.int .i64 a_m.Quota)].toArray)) ty112.h.sz (.tmp rfl rfl) rfl) (fun k1 => ?_))
  refine C_val (V_assign (v := (.bool false)) (.bool _)) ?_
  refine C_nil ?_
  obtain ⟨o2, hio2, hO3⟩ := bind_some hF
  refine K_draw [0, 1, 2, 3, 4, 5, 6, 7, 8, 9, 10, 11, 12, 13] [0, 0, 2, 7, 15, 31, 31, 31, 159, 479, 991, 2047, 4095, 8191] [3, 11] mixed (by decide +kernel) ?_
  refine D_cut (fun f' cs' => ∃ (c17 : Bool) (g : Fr), c17 = o2 ∧ f' = updL g [(4, (.bool c17))] ∧ Ent cs' []) ?_ ?_
  · replace hF := hio2
    refine Dm v0_0.v rfl rfl rfl rfl ?_
    refine D_val rfl .no (fun ha => V_fieldAddr (off := 0) fd112_0.h (EN ha (.tmp rfl rfl) rfl)) ?_
    refine D_at rfl .no .h rfl (fun ha hp => V_load (v := (.int .i64 a_m.Rel)) ag3.h (EN ha (.tmp rfl rfl) rfl) hp.2 rfl rfl) ?_
    obtain ⟨r4, hx5, hF⟩ := bind_some hF
    refine D_act0 rfl rfl .no (.rd (.t .h) rfl .nil) .nil (fun ha => X_callS cf174.h (.cons (EN ha (.tmp rfl rfl) rfl) (.cons (EN ha (.tmp rfl rfl) rfl) .nil)) (i_hasRel_ok a_s v0_0 a_m.Rel _ hx5)) (fun _ => ?_)
    refine Dm (.bool r4) rfl rfl rfl rfl ?_
    rcases Bool.eq_false_or_eq_true r4 with hg7 | hg7
    · rw [hg7]
      try rw [hg7] at hF; dsimp only [cond_true, cond_false] at hF
      refine D_at rfl (.on 9 rfl rfl rfl) .h rfl (fun ha hp => V_loadBox ag112.h ty112.h.sz rfl (EN ha (.tmp rfl rfl) rfl) hp.2 rfl) ?_
      refine D_val rfl (.on 9 rfl rfl rfl) (fun ha => V_move (v := v0_0.v) (EN ha (.tmp rfl rfl) rfl)) ?_
      refine D_val rfl (.on 9 rfl rfl rfl) (fun ha => V_fieldAddr (off := 0) fd112_0.h (EN ha (.tmp rfl rfl) rfl)) ?_
      refine D_at rfl (.on 9 rfl rfl rfl) .h rfl (fun ha hp => V_load (v := (.int .i64 a_m.Rel)) ag3.h (EN ha (.tmp rfl rfl) rfl) hp.2 rfl rfl) ?_
      obtain ⟨x8, hx9, hF⟩ := bind_some hF
      obtain ⟨hp10, hx11⟩ := ix_some hx9
      refine D_idx (a := x8) sl22.h ty3.h.sz rfl (.on 9 rfl rfl rfl) (.tmp rfl rfl) (.tmp rfl rfl) rfl rfl (.t .h) hp10 hx11 (fun k12 j13 => ?_)
      refine D_ldS (w := (.int .i64 x8)) ag3.h rfl (.on 9 rfl rfl rfl) (.tmp rfl rfl) rfl .h ls3_0 ?_
      obtain ⟨r14, hx15, hF⟩ := bind_some hF
      refine D_act0 rfl rfl (.on 9 rfl rfl rfl) (.rd (.t (.t (.t .h))) rfl .nil) .nil (fun ha => X_callS cf175.h (.cons (EN ha (.tmp rfl rfl) rfl) (.cons (EN ha (.tmp rfl rfl) rfl) .nil)) (i_Method_fits_ok a_m v1_1 x8 _ hx15)) (fun _ => ?_)
      refine D_val rfl .no (fun ha => V_pick (b := true) (u := (.bool r14)) (v := (.bool false)) (EN ha (.tmp rfl rfl) rfl) (EN ha (.tmp rfl rfl) rfl) (EN ha (.bool _) rfl)) ?_
      refine Da (.bool r14) rfl rfl rfl rfl ?_
      refine D_nil ?_
      obtain rfl := Option.some.inj hF
      exact ⟨_, _, rfl, (EqL.cons rfl (EqL.nil)).eq, (.sel .nil)⟩
    rw [hg7]
    try rw [hg7] at hF; dsimp only [cond_true, cond_false] at hF
    iterate 7 refine D_off 9 rfl rfl rfl rfl ?_
    refine D_val rfl .no (fun ha => V_pick (b := false) (u := undef) (v := (.bool false)) (EN ha (.tmp rfl rfl) rfl) (EN ha (.tmp rfl rfl) rfl) (EN ha (.bool _) rfl)) ?_
    refine Da (.bool false) rfl rfl rfl rfl ?_
    refine D_nil ?_
    obtain rfl := Option.some.inj hF
    exact ⟨_, _, rfl, (EqL.cons rfl (EqL.nil)).eq, (.sel .nil)⟩
  rintro _ _ ⟨c17, g18, rfl, rfl, hE⟩
  replace hF := hO3
  clear hO3
  try dsimp only at hF
  refine K_ent hE ?_
  refine CW_ret ?_
  obtain rfl := Option.some.inj hF
  exact End_ret () (.tmp rfl rfl .nil) rfl (.sel .nil)

/-! impl.AreMethods$1 -/
def i_AreMethods_1 (a_m : Method) (a_e1 : List Int) : Option (Bool) :=
  (i_IsMethod a_e1 a_m).bind fun r2 =>
  some (!r2)
theorem i_AreMethods_1_ok (a_m : Method) (v0_1 : Sv) (kc1 : Nat) (a_e1 : List Int) (vc1_0 : Sv) (R : Bool) (hF : i_AreMethods_1 a_m a_e1 = some R) :
    Fw.Spec Tryz.prog 130 [(.agg [(.int .i64 a_m.Rel), v0_1.v, (.int .i64 a_m.Limit), (.int .i64 a_m.Cost), (.int .i64 a_m.Quota)].toArray), (.pointer (some ⟨kc1, 0, some 0⟩))] [crd (RdS 3 rdInt) v0_1.v a_m.Inputs, cboR kc1 22 vc1_0.v, crd (RdS 3 rdInt) vc1_0.v a_e1] (fun _ : Unit => (.bool R)) (fun _ => []) := by
  refine Spec_enter (n := 8) Tryz.func130 rfl rfl (rs := [.tmp 3]) rfl rfl rfl ?_
  intro H0 F0
  unfold i_AreMethods_1 at hF
  refine au ?_
  refine AbR (fun k1 => ?_)
  iterate 5 refine au ?_
  obtain ⟨r2, hx3, hF⟩ := bind_some hF
  refine Cx0 (i_IsMethod_ok _ _ _ _ _ hx3) (fun _ => ?_)
  iterate 4 refine au ?_
  cases hF
  exact Er ()

/-! impl.Method] -/
def g_slices_IndexFunc_impl_Method_impl_Method_iAreMethods1_L1 (a_e1 : List Int) : List Method → Nat → Option (Int)
  | [], k4 => some (-1)
  | x6 :: rest5, k4 => (i_AreMethods_1 x6 a_e1).bind fun r16 =>
    if r16 then (
      some (k4 : Int))
    else (
      g_slices_IndexFunc_impl_Method_impl_Method_iAreMethods1_L1 a_e1 rest5 (k4 + 1))
def g_slices_IndexFunc_impl_Method_impl_Method_iAreMethods1 (a_s : List Method) (a_e1 : List Int) : Option (Int) :=
  g_slices_IndexFunc_impl_Method_impl_Method_iAreMethods1_L1 a_e1 a_s 0
theorem g_slices_IndexFunc_impl_Method_impl_Method_iAreMethods1_ok (a_s : List Method) (v0_0 : Sv) (kc1 : Nat) (a_e1 : List Int) (vc1_0 : Sv) (R : Int) (hF : g_slices_IndexFunc_impl_Method_impl_Method_iAreMethods1 a_s a_e1 = some R) :
    Fw.Spec Tryz.prog 173 [v0_0.v, (.func (.func 130) [].toArray [(.pointer (some ⟨kc1, 0, some 0⟩))].toArray)] [crd (RdS 112 rd112) v0_0.v a_s, cboR kc1 22 vc1_0.v, crd (RdS 3 rdInt) vc1_0.v a_e1] (fun _ : Unit => (.int .i64 R)) (fun _ => []) := by
  refine Spec_enter (n := 19) Tryz.func173 rfl rfl (rs := [.tmp 4]) rfl rfl rfl ?_
  intro H0 F0
  unfold g_slices_IndexFunc_impl_Method_impl_Method_iAreMethods1 at hF
  iterate 9 refine au ?_
  refine CW_block (CW_loop (m := a_s.length) (fun m2 f' cs' => ∃ (g : Fr) (k4 : Nat) (rest5 : List Method), m2 = rest5.length ∧ f' = updL g [(0, v0_0.v), (1, (.func (.func 130) [].toArray [(.pointer (some ⟨kc1, 0, some 0⟩))].toArray)), (7, (.int .i64 (a_s.length : Int))), (8, (.int .i64 (k4 : Int)))] ∧ List.drop k4 a_s = rest5 ∧ Ent cs' [crd (RdS 112 rd112) v0_0.v a_s, cboR kc1 22 vc1_0.v, crd (RdS 3 rdInt) vc1_0.v a_e1] ∧ g_slices_IndexFunc_impl_Method_impl_Method_iAreMethods1_L1 a_e1 rest5 k4 = some R) ⟨_, 0, _, rfl, eqA, rfl, entA, hF⟩ ?_)
  clear hF
  rintro m2 _ _ ⟨g3, k4, rest5, rfl, rfl, hd7, hE, hF⟩
  refine K_ent hE ?_
  clear hE
  refine K_pure (c := crd (RdS 112 rd112) v0_0.v a_s) .h crd_bound (fun hbd12 => ?_)
  rcases rest5 with _ | ⟨x6, rest5⟩
  · have hk8 := List.drop_eq_nil_iff.1 hd7
    rw [g_slices_IndexFunc_impl_Method_impl_Method_iAreMethods1_L1] at hF
    iterate 4 refine au ?_
    refine CdF ?_
    iterate 8 refine au ?_
    cases hF
    exact Er ()
  obtain ⟨hk8, hx9, hd10⟩ := drop_cons hd7
  rw [g_slices_IndexFunc_impl_Method_impl_Method_iAreMethods1_L1] at hF
  iterate 4 refine au ?_
  refine CdT ?_
  iterate 10 refine au ?_
  refine Ai hx9 (fun k13 j14 => ?_)
  refine AlA1 (ul112_0_112 x6) la112_0_112 (fun p15 => ?_)
  obtain ⟨r16, hx17, hF⟩ := bind_some hF
  refine C_x0 (.rd .h rfl (.rd (.t (.t (.t .h))) rfl (.rd (.t (.t (.t (.t .h)))) rfl .nil))) (X_callCS cf130.h (.tmp rfl rfl) (.cons (.tmp rfl rfl) .nil) (i_AreMethods_1_ok x6 p15 kc1 a_e1 vc1_0 _ hx17)) (fun _ => ?_)
  refine au ?_
  refine Cc (fun hb20 => ?_) (fun hb20 => ?_)
  · rw [if_pos hb20] at hF
    iterate 5 refine au ?_
    cases hF
    exact Er ()
  rw [if_neg (nt hb20)] at hF
  iterate 5 refine au ?_
  rw [wk k4]
  exact ⟨_, Nat.lt_succ_self _, _, k4 + 1, rest5, rfl, eqA, hd10, entA, hF⟩

/-! impl.Method] -/
def g_slices_ContainsFunc_impl_Method_impl_Method_iAreMethods1 (a_s : List Method) (a_e1 : List Int) : Option (Bool) :=
  (g_slices_IndexFunc_impl_Method_impl_Method_iAreMethods1 a_s a_e1).bind fun r1 =>
  some (decide ((0 : Int) ≤ r1))
theorem g_slices_ContainsFunc_impl_Method_impl_Method_iAreMethods1_ok (a_s : List Method) (v0_0 : Sv) (kc1 : Nat) (a_e1 : List Int) (vc1_0 : Sv) (R : Bool) (hF : g_slices_ContainsFunc_impl_Method_impl_Method_iAreMethods1 a_s a_e1 = some R) :
    Fw.Spec Tryz.prog 129 [v0_0.v, (.func (.func 130) [].toArray [(.pointer (some ⟨kc1, 0, some 0⟩))].toArray)] [crd (RdS 112 rd112) v0_0.v a_s, cboR kc1 22 vc1_0.v, crd (RdS 3 rdInt) vc1_0.v a_e1] (fun _ : Unit => (.bool R)) (fun _ => []) := by
  refine Spec_enter (n := 9) Tryz.func129 rfl rfl (rs := [.tmp 4]) rfl rfl rfl ?_
  intro H0 F0
  unfold g_slices_ContainsFunc_impl_Method_impl_Method_iAreMethods1 at hF
  iterate 6 refine au ?_
  obtain ⟨r1, hx2, hF⟩ := bind_some hF
  refine Cx0 (g_slices_IndexFunc_impl_Method_impl_Method_iAreMethods1_ok _ _ _ _ _ _ hx2) (fun _ => ?_)
  iterate 4 refine au ?_
  cases hF
  exact Er ()

/-! impl.AreMethods -/
def i_AreMethods (a_s : List Int) (a_l : List Method) : Option (Bool) :=
  ((i_IsSchema a_s).bind fun r4 =>
    bif r4 then (bif (decide (((a_l.length : Int) : Int) ≤ 5)) then ((g_slices_ContainsFunc_impl_Method_impl_Method_iAreMethods1 a_l a_s).bind fun r9 =>
        some (!r9))
      else (some false))
    else (some false)).bind fun o2 =>
  match o2 with
  | c12 => some c12
theorem i_AreMethods_ok (a_s : List Int) (v0_0 : Sv) (a_l : List Method) (v1_0 : Sv) (R : Bool) (hF : i_AreMethods a_s a_l = some R) :
    Fw.Spec Tryz.prog 69 [v0_0.v, v1_0.v] [crd (RdS 3 rdInt) v0_0.v a_s, crd (RdS 112 rd112) v1_0.v a_l] (fun _ : Unit => (.bool R)) (fun _ => []) := by
  refine Spec_enter (n := 18) Tryz.func69 rfl rfl (rs := [.tmp 4]) rfl rfl rfl ?_
  intro H0 F0
  unfold i_AreMethods at hF
  refine au ?_
  refine AbR (fun k1 => ?_)
  iterate 2 refine au ?_
  obtain ⟨o2, hio2, hO3⟩ := bind_some hF
  refine au ?_
  refine C_cut (fun f' cs' => ∃ (c12 : Bool) (g : Fr), c12 = o2 ∧ f' = updL g [(4, (.bool c12))] ∧ Ent cs' []) ?_ ?_
  · replace hF := hio2
    refine au ?_
    obtain ⟨r4, hx5, hF⟩ := bind_some hF
    refine Cx0 (i_IsSchema_ok _ _ _ hx5) (fun _ => ?_)
    refine au ?_
    rcases Bool.eq_false_or_eq_true r4 with hg7 | hg7
    · rw [hg7]
      try rw [hg7] at hF; dsimp only [cond_true, cond_false] at hF
      iterate 8 refine au ?_
      rcases Bool.eq_false_or_eq_true (decide (((a_l.length : Int) : Int) ≤ 5)) with hg8 | hg8
      · rw [hg8]
        try rw [hg8] at hF; dsimp only [cond_true, cond_false] at hF
        iterate 3 refine au ?_
        refine C_val (V_makeFunc (fn := .func 130) (vs := []) (us := [(.pointer (some ⟨k1, 0, some 0⟩))]) .nil (.cons (.tmp rfl rfl) .nil)) ?_
        refine au ?_
        obtain ⟨r9, hx10, hF⟩ := bind_some hF
        refine Cx0 (g_slices_ContainsFunc_impl_Method_impl_Method_iAreMethods1_ok _ _ _ _ _ _ hx10) (fun _ => ?_)
        iterate 5 refine au ?_
        cases hF
        exact ⟨_, _, rfl, eqA, entA⟩
      rw [hg8]
      try rw [hg8] at hF; dsimp only [cond_true, cond_false] at hF
      iterate 7 refine au ?_
      cases hF
      exact ⟨_, _, rfl, eqA, entA⟩
    rw [hg7]
    try rw [hg7] at hF; dsimp only [cond_true, cond_false] at hF
    iterate 12 refine au ?_
    cases hF
    exact ⟨_, _, rfl, eqA, entA⟩
  rintro _ _ ⟨c12, g13, rfl, rfl, hE⟩
  replace hF := hO3
  clear hO3
  try dsimp only at hF
  refine K_ent hE ?_
  refine au ?_
  cases hF
  exact Er ()

/-! impl.arePositions$1 -/
def i_arePositions_1 (a_i : Int) (a_e1 : Int) : Option (Bool) :=
  (i_within a_i 0 (IntKind.i64.wrap (a_e1 - 1))).bind fun r1 =>
  some (!r1)
theorem i_arePositions_1_ok (a_i : Int) (kc1 : Nat) (a_e1 : Int) (R : Bool) (hF : i_arePositions_1 a_i a_e1 = some R) :
    Fw.Spec Tryz.prog 240 [(.int .i64 a_i), (.pointer (some ⟨kc1, 0, some 0⟩))] [cboR kc1 3 (.int .i64 a_e1)] (fun _ : Unit => (.bool R)) (fun _ => []) := by
  refine Spec_enter (n := 9) Tryz.func240 rfl rfl (rs := [.tmp 3]) rfl rfl rfl ?_
  intro H0 F0
  unfold i_arePositions_1 at hF
  iterate 7 refine au ?_
  obtain ⟨r1, hx2, hF⟩ := bind_some hF
  refine Cx0 (i_within_ok _ _ _ _ hx2) (fun _ => ?_)
  iterate 4 refine au ?_
  cases hF
  exact Er ()

/-! slices.IndexFunc[[]int,int] -/
def g_slices_IndexFunc_int_int_iarePositions1_L1 (a_e1 : Int) : List Int → Nat → Option (Int)
  | [], k4 => some (-1)
  | x6 :: rest5, k4 => (i_arePositions_1 x6 a_e1).bind fun r15 =>
    if r15 then (
      some (k4 : Int))
    else (
      g_slices_IndexFunc_int_int_iarePositions1_L1 a_e1 rest5 (k4 + 1))
def g_slices_IndexFunc_int_int_iarePositions1 (a_s : List Int) (a_e1 : Int) : Option (Int) :=
  g_slices_IndexFunc_int_int_iarePositions1_L1 a_e1 a_s 0
theorem g_slices_IndexFunc_int_int_iarePositions1_ok (a_s : List Int) (v0_0 : Sv) (kc1 : Nat) (a_e1 : Int) (R : Int) (hF : g_slices_IndexFunc_int_int_iarePositions1 a_s a_e1 = some R) :
    Fw.Spec Tryz.prog 204 [v0_0.v, (.func (.func 240) [].toArray [(.pointer (some ⟨kc1, 0, some 0⟩))].toArray)] [crd (RdS 3 rdInt) v0_0.v a_s, cboR kc1 3 (.int .i64 a_e1)] (fun _ : Unit => (.int .i64 R)) (fun _ => []) := by
  refine Spec_enter (n := 19) Tryz.func204 rfl rfl (rs := [.tmp 4]) rfl rfl rfl ?_
  intro H0 F0
  unfold g_slices_IndexFunc_int_int_iarePositions1 at hF
  iterate 9 refine au ?_
  refine CW_block (CW_loop (m := a_s.length) (fun m2 f' cs' => ∃ (g : Fr) (k4 : Nat) (rest5 : List Int), m2 = rest5.length ∧ f' = updL g [(0, v0_0.v), (1, (.func (.func 240) [].toArray [(.pointer (some ⟨kc1, 0, some 0⟩))].toArray)), (7, (.int .i64 (a_s.length : Int))), (8, (.int .i64 (k4 : Int)))] ∧ List.drop k4 a_s = rest5 ∧ Ent cs' [crd (RdS 3 rdInt) v0_0.v a_s, cboR kc1 3 (.int .i64 a_e1)] ∧ g_slices_IndexFunc_int_int_iarePositions1_L1 a_e1 rest5 k4 = some R) ⟨_, 0, _, rfl, eqA, rfl, entA, hF⟩ ?_)
  clear hF
  rintro m2 _ _ ⟨g3, k4, rest5, rfl, rfl, hd7, hE, hF⟩
  refine K_ent hE ?_
  clear hE
  refine K_pure (c := crd (RdS 3 rdInt) v0_0.v a_s) .h crd_bound (fun hbd12 => ?_)
  rcases rest5 with _ | ⟨x6, rest5⟩
  · have hk8 := List.drop_eq_nil_iff.1 hd7
    rw [g_slices_IndexFunc_int_int_iarePositions1_L1] at hF
    iterate 4 refine au ?_
    refine CdF ?_
    iterate 8 refine au ?_
    cases hF
    exact Er ()
  obtain ⟨hk8, hx9, hd10⟩ := drop_cons hd7
  rw [g_slices_IndexFunc_int_int_iarePositions1_L1] at hF
  iterate 4 refine au ?_
  refine CdT ?_
  iterate 10 refine au ?_
  refine Ai hx9 (fun k13 j14 => ?_)
  refine Al ls3_0 ?_
  obtain ⟨r15, hx16, hF⟩ := bind_some hF
  refine C_x0 (.rd (.t (.t .h)) rfl .nil) (X_callCS cf240.h (.tmp rfl rfl) (.cons (.tmp rfl rfl) .nil) (i_arePositions_1_ok x6 kc1 a_e1 _ hx16)) (fun _ => ?_)
  refine au ?_
  refine Cc (fun hb19 => ?_) (fun hb19 => ?_)
  · rw [if_pos hb19] at hF
    iterate 5 refine au ?_
    cases hF
    exact Er ()
  rw [if_neg (nt hb19)] at hF
  iterate 5 refine au ?_
  rw [wk k4]
  exact ⟨_, Nat.lt_succ_self _, _, k4 + 1, rest5, rfl, eqA, hd10, entA, hF⟩

/-! slices.ContainsFunc[[]int,int] -/
def g_slices_ContainsFunc_int_int_iarePositions1 (a_s : List Int) (a_e1 : Int) : Option (Bool) :=
  (g_slices_IndexFunc_int_int_iarePositions1 a_s a_e1).bind fun r1 =>
  some (decide ((0 : Int) ≤ r1))
theorem g_slices_ContainsFunc_int_int_iarePositions1_ok (a_s : List Int) (v0_0 : Sv) (kc1 : Nat) (a_e1 : Int) (R : Bool) (hF : g_slices_ContainsFunc_int_int_iarePositions1 a_s a_e1 = some R) :
    Fw.Spec Tryz.prog 158 [v0_0.v, (.func (.func 240) [].toArray [(.pointer (some ⟨kc1, 0, some 0⟩))].toArray)] [crd (RdS 3 rdInt) v0_0.v a_s, cboR kc1 3 (.int .i64 a_e1)] (fun _ : Unit => (.bool R)) (fun _ => []) := by
  refine Spec_enter (n := 9) Tryz.func158 rfl rfl (rs := [.tmp 4]) rfl rfl rfl ?_
  intro H0 F0
  unfold g_slices_ContainsFunc_int_int_iarePositions1 at hF
  iterate 6 refine au ?_
  obtain ⟨r1, hx2, hF⟩ := bind_some hF
  refine Cx0 (g_slices_IndexFunc_int_int_iarePositions1_ok _ _ _ _ _ hx2) (fun _ => ?_)
  iterate 4 refine au ?_
  cases hF
  exact Er ()

/-! impl.arePositions -/
def i_arePositions (a_l : List Int) (a_arity : Int) : Option (Bool) :=
  (g_slices_ContainsFunc_int_int_iarePositions1 a_l a_arity).bind fun r2 =>
  some (!r2)
theorem i_arePositions_ok (a_l : List Int) (v0_0 : Sv) (a_arity : Int) (R : Bool) (hF : i_arePositions a_l a_arity = some R) :
    Fw.Spec Tryz.prog 202 [v0_0.v, (.int .i64 a_arity)] [crd (RdS 3 rdInt) v0_0.v a_l] (fun _ : Unit => (.bool R)) (fun _ => []) := by
  refine Spec_enter (n := 9) Tryz.func202 rfl rfl (rs := [.tmp 4]) rfl rfl rfl ?_
  intro H0 F0
  unfold i_arePositions at hF
  refine au ?_
  refine AbR (fun k1 => ?_)
  iterate 4 refine au ?_
  refine C_val (V_makeFunc (fn := .func 240) (vs := []) (us := [(.pointer (some ⟨k1, 0, some 0⟩))]) .nil (.cons (.tmp rfl rfl) .nil)) ?_
  obtain ⟨r2, hx3, hF⟩ := bind_some hF
  refine Cx0 (g_slices_ContainsFunc_int_int_iarePositions1_ok _ _ _ _ _ hx3) (fun _ => ?_)
  iterate 4 refine au ?_
  cases hF
  exact Er ()

/-! impl.IsRule -/
def i_IsRule (a_s : List Int) (a_r : Rule) : Option (Bool) :=
  ((i_hasRel a_s a_r.From).bind fun r4 =>
    bif r4 then ((i_hasRel a_s a_r.To).bind fun r8 =>
      bif r8 then ((ix a_s a_r.To).bind fun x12 =>
        bif (((a_r.Map.length : Int) : Int) == x12) then ((ix a_s a_r.From).bind fun x19 =>
          (i_arePositions a_r.Map x19).bind fun r25 =>
          some r25)
        else (some false))
      else (some false))
    else (some false)).bind fun o2 =>
  match o2 with
  | c28 => some c28
theorem i_IsRule_ok (a_s : List Int) (v0_0 : Sv) (a_r : Rule) (v1_2 : Sv) (R : Bool) (hF : i_IsRule a_s a_r = some R) :
    Fw.Spec Tryz.prog 153 [v0_0.v, (.agg [(.int .i64 a_r.From), (.int .i64 a_r.To), v1_2.v].toArray)] [crd (RdS 3 rdInt) v0_0.v a_s, crd (RdS 3 rdInt) v1_2.v a_r.Map] (fun _ : Unit => (.bool R)) (fun _ => []) := by
  refine Spec_enter (n := 36) Tryz.func153 rfl rfl (rs := [.tmp 4]) rfl rfl rfl ?_
  intro H0 F0
  unfold i_IsRule at hF
  refine au ?_
  refine AbR (fun k1 => ?_)
  iterate 2 refine au ?_
  obtain ⟨o2, hio2, hO3⟩ := bind_some hF
  refine K_draw [0, 1, 2, 3, 4, 5, 6, 7, 8, 9, 10, 11, 12, 13, 14, 15, 16, 17, 18, 19, 20, 21, 22, 23, 24, 25, 26, 27, 28, 29, 30, 31] [0, 0, 2, 7, 15, 31, 31, 95, 255, 511, 1023, 2047, 4095, 8191, 2047, 2047, 34815, 116735, 247807, 524287, 1048575, 2097151, 4194303, 8388607, 4194303, 4194303, 37748735, 121634815, 255852543, 536870911, 1073741823, 2147483647] [3, 8, 29] mixed (by decide +kernel) ?_
  refine D_cut (fun f' cs' => ∃ (c28 : Bool) (g : Fr), c28 = o2 ∧ f' = updL g [(4, (.bool c28))] ∧ Ent cs' []) ?_ ?_
  · replace hF := hio2
    iterate 3 refine du ?_
    obtain ⟨r4, hx5, hF⟩ := bind_some hF
    refine Dx0 (i_hasRel_ok _ _ _ _ hx5) (fun _ => ?_)
    refine du ?_
    rcases Bool.eq_false_or_eq_true r4 with hg7 | hg7
    · rw [hg7]
      try rw [hg7] at hF; dsimp only [cond_true, cond_false] at hF
      iterate 3 refine du ?_
      obtain ⟨r8, hx9, hF⟩ := bind_some hF
      refine Dx0 (i_hasRel_ok _ _ _ _ hx9) (fun _ => ?_)
      iterate 2 refine du ?_
      rcases Bool.eq_false_or_eq_true r8 with hg11 | hg11
      · rw [hg11]
        try rw [hg11] at hF; dsimp only [cond_true, cond_false] at hF
        iterate 6 refine du ?_
        obtain ⟨x12, hx13, hF⟩ := bind_some hF
        obtain ⟨hp14, hx15⟩ := ix_some hx13
        refine Di hx15 (fun k16 j17 => ?_)
        refine Dl ls3_0 ?_
        iterate 3 refine du ?_
        rcases Bool.eq_false_or_eq_true (((a_r.Map.length : Int) : Int) == x12) with hg18 | hg18
        · rw [hg18]
          try rw [hg18] at hF; dsimp only [cond_true, cond_false] at hF
          iterate 5 refine du ?_
          obtain ⟨x19, hx20, hF⟩ := bind_some hF
          obtain ⟨hp21, hx22⟩ := ix_some hx20
          refine Di hx22 (fun k23 j24 => ?_)
          refine Dl ls3_0 ?_
          obtain ⟨r25, hx26, hF⟩ := bind_some hF
          refine Dx0 (i_arePositions_ok _ _ _ _ hx26) (fun _ => ?_)
          iterate 3 refine du ?_
          cases hF
          exact ⟨_, _, rfl, eqA, entA⟩
        rw [hg18]
        try rw [hg18] at hF; dsimp only [cond_true, cond_false] at hF
        iterate 11 refine du ?_
        cases hF
        exact ⟨_, _, rfl, eqA, entA⟩
      rw [hg11]
      try rw [hg11] at hF; dsimp only [cond_true, cond_false] at hF
      iterate 22 refine du ?_
      cases hF
      exact ⟨_, _, rfl, eqA, entA⟩
    rw [hg7]
    try rw [hg7] at hF; dsimp only [cond_true, cond_false] at hF
    iterate 28 refine du ?_
    cases hF
    exact ⟨_, _, rfl, eqA, entA⟩
  rintro _ _ ⟨c28, g29, rfl, rfl, hE⟩
  replace hF := hO3
  clear hO3
  try dsimp only at hF
  refine K_ent hE ?_
  refine au ?_
  cases hF
  exact Er ()

/-! impl.AreRules$1 -/
def i_AreRules_1 (a_r : Rule) (a_e1 : List Int) : Option (Bool) :=
  (i_IsRule a_e1 a_r).bind fun r2 =>
  some (!r2)
theorem i_AreRules_1_ok (a_r : Rule) (v0_2 : Sv) (kc1 : Nat) (a_e1 : List Int) (vc1_0 : Sv) (R : Bool) (hF : i_AreRules_1 a_r a_e1 = some R) :
    Fw.Spec Tryz.prog 152 [(.agg [(.int .i64 a_r.From), (.int .i64 a_r.To), v0_2.v].toArray), (.pointer (some ⟨kc1, 0, some 0⟩))] [crd (RdS 3 rdInt) v0_2.v a_r.Map, cboR kc1 22 vc1_0.v, crd (RdS 3 rdInt) vc1_0.v a_e1] (fun _ : Unit => (.bool R)) (fun _ => []) := by
  refine Spec_enter (n := 8) Tryz.func152 rfl rfl (rs := [.tmp 3]) rfl rfl rfl ?_
  intro H0 F0
  unfold i_AreRules_1 at hF
  refine au ?_
  refine AbR (fun k1 => ?_)
  iterate 5 refine au ?_
  obtain ⟨r2, hx3, hF⟩ := bind_some hF
  refine Cx0 (i_IsRule_ok _ _ _ _ _ hx3) (fun _ => ?_)
  iterate 4 refine au ?_
  cases hF
  exact Er ()

/-! impl.Rule] -/
def g_slices_IndexFunc_impl_Rule_impl_Rule_iAreRules1_L1 (a_e1 : List Int) : List Rule → Nat → Option (Int)
  | [], k4 => some (-1)
  | x6 :: rest5, k4 => (i_AreRules_1 x6 a_e1).bind fun r16 =>
    if r16 then (
      some (k4 : Int))
    else (
      g_slices_IndexFunc_impl_Rule_impl_Rule_iAreRules1_L1 a_e1 rest5 (k4 + 1))
def g_slices_IndexFunc_impl_Rule_impl_Rule_iAreRules1 (a_s : List Rule) (a_e1 : List Int) : Option (Int) :=
  g_slices_IndexFunc_impl_Rule_impl_Rule_iAreRules1_L1 a_e1 a_s 0
theorem g_slices_IndexFunc_impl_Rule_impl_Rule_iAreRules1_ok (a_s : List Rule) (v0_0 : Sv) (kc1 : Nat) (a_e1 : List Int) (vc1_0 : Sv) (R : Int) (hF : g_slices_IndexFunc_impl_Rule_impl_Rule_iAreRules1 a_s a_e1 = some R) :
    Fw.Spec Tryz.prog 201 [v0_0.v, (.func (.func 152) [].toArray [(.pointer (some ⟨kc1, 0, some 0⟩))].toArray)] [crd (RdS 148 rd148) v0_0.v a_s, cboR kc1 22 vc1_0.v, crd (RdS 3 rdInt) vc1_0.v a_e1] (fun _ : Unit => (.int .i64 R)) (fun _ => []) := by
  refine Spec_enter (n := 19) Tryz.func201 rfl rfl (rs := [.tmp 4]) rfl rfl rfl ?_
  intro H0 F0
  unfold g_slices_IndexFunc_impl_Rule_impl_Rule_iAreRules1 at hF
  iterate 9 refine au ?_
  refine CW_block (CW_loop (m := a_s.length) (fun m2 f' cs' => ∃ (g : Fr) (k4 : Nat) (rest5 : List Rule), m2 = rest5.length ∧ f' = updL g [(0, v0_0.v), (1, (.func (.func 152) [].toArray [(.pointer (some ⟨kc1, 0, some 0⟩))].toArray)), (7, (.int .i64 (a_s.length : Int))), (8, (.int .i64 (k4 : Int)))] ∧ List.drop k4 a_s = rest5 ∧ Ent cs' [crd (RdS 148 rd148) v0_0.v a_s, cboR kc1 22 vc1_0.v, crd (RdS 3 rdInt) vc1_0.v a_e1] ∧ g_slices_IndexFunc_impl_Rule_impl_Rule_iAreRules1_L1 a_e1 rest5 k4 = some R) ⟨_, 0, _, rfl, eqA, rfl, entA, hF⟩ ?_)
  clear hF
  rintro m2 _ _ ⟨g3, k4, rest5, rfl, rfl, hd7, hE, hF⟩
  refine K_ent hE ?_
  clear hE
  refine K_pure (c := crd (RdS 148 rd148) v0_0.v a_s) .h crd_bound (fun hbd12 => ?_)
  rcases rest5 with _ | ⟨x6, rest5⟩
  · have hk8 := List.drop_eq_nil_iff.1 hd7
    rw [g_slices_IndexFunc_impl_Rule_impl_Rule_iAreRules1_L1] at hF
    iterate 4 refine au ?_
    refine CdF ?_
    iterate 8 refine au ?_
    cases hF
    exact Er ()
  obtain ⟨hk8, hx9, hd10⟩ := drop_cons hd7
  rw [g_slices_IndexFunc_impl_Rule_impl_Rule_iAreRules1_L1] at hF
  iterate 4 refine au ?_
  refine CdT ?_
  iterate 10 refine au ?_
  refine Ai hx9 (fun k13 j14 => ?_)
  refine AlA1 (ul148_0_148 x6) la148_0_148 (fun p15 => ?_)
  obtain ⟨r16, hx17, hF⟩ := bind_some hF
  refine C_x0 (.rd .h rfl (.rd (.t (.t (.t .h))) rfl (.rd (.t (.t (.t (.t .h)))) rfl .nil))) (X_callCS cf152.h (.tmp rfl rfl) (.cons (.tmp rfl rfl) .nil) (i_AreRules_1_ok x6 p15 kc1 a_e1 vc1_0 _ hx17)) (fun _ => ?_)
  refine au ?_
  refine Cc (fun hb20 => ?_) (fun hb20 => ?_)
  · rw [if_pos hb20] at hF
    iterate 5 refine au ?_
    cases hF
    exact Er ()
  rw [if_neg (nt hb20)] at hF
  iterate 5 refine au ?_
  rw [wk k4]
  exact ⟨_, Nat.lt_succ_self _, _, k4 + 1, rest5, rfl, eqA, hd10, entA, hF⟩

/-! impl.Rule] -/
def g_slices_ContainsFunc_impl_Rule_impl_Rule_iAreRules1 (a_s : List Rule) (a_e1 : List Int) : Option (Bool) :=
  (g_slices_IndexFunc_impl_Rule_impl_Rule_iAreRules1 a_s a_e1).bind fun r1 =>
  some (decide ((0 : Int) ≤ r1))
theorem g_slices_ContainsFunc_impl_Rule_impl_Rule_iAreRules1_ok (a_s : List Rule) (v0_0 : Sv) (kc1 : Nat) (a_e1 : List Int) (vc1_0 : Sv) (R : Bool) (hF : g_slices_ContainsFunc_impl_Rule_impl_Rule_iAreRules1 a_s a_e1 = some R) :
    Fw.Spec Tryz.prog 151 [v0_0.v, (.func (.func 152) [].toArray [(.pointer (some ⟨kc1, 0, some 0⟩))].toArray)] [crd (RdS 148 rd148) v0_0.v a_s, cboR kc1 22 vc1_0.v, crd (RdS 3 rdInt) vc1_0.v a_e1] (fun _ : Unit => (.bool R)) (fun _ => []) := by
  refine Spec_enter (n := 9) Tryz.func151 rfl rfl (rs := [.tmp 4]) rfl rfl rfl ?_
  intro H0 F0
  unfold g_slices_ContainsFunc_impl_Rule_impl_Rule_iAreRules1 at hF
  iterate 6 refine au ?_
  obtain ⟨r1, hx2, hF⟩ := bind_some hF
  refine Cx0 (g_slices_IndexFunc_impl_Rule_impl_Rule_iAreRules1_ok _ _ _ _ _ _ hx2) (fun _ => ?_)
  iterate 4 refine au ?_
  cases hF
  exact Er ()

/-! impl.AreRules -/
def i_AreRules (a_s : List Int) (a_l : List Rule) : Option (Bool) :=
  ((i_IsSchema a_s).bind fun r4 =>
    bif r4 then (bif (decide (((a_l.length : Int) : Int) ≤ 4)) then ((g_slices_ContainsFunc_impl_Rule_impl_Rule_iAreRules1 a_l a_s).bind fun r9 =>
        some (!r9))
      else (some false))
    else (some false)).bind fun o2 =>
  match o2 with
  | c12 => some c12
theorem i_AreRules_ok (a_s : List Int) (v0_0 : Sv) (a_l : List Rule) (v1_0 : Sv) (R : Bool) (hF : i_AreRules a_s a_l = some R) :
    Fw.Spec Tryz.prog 103 [v0_0.v, v1_0.v] [crd (RdS 3 rdInt) v0_0.v a_s, crd (RdS 148 rd148) v1_0.v a_l] (fun _ : Unit => (.bool R)) (fun _ => []) := by
  refine Spec_enter (n := 18) Tryz.func103 rfl rfl (rs := [.tmp 4]) rfl rfl rfl ?_
  intro H0 F0
  unfold i_AreRules at hF
  refine au ?_
  refine AbR (fun k1 => ?_)
  iterate 2 refine au ?_
  obtain ⟨o2, hio2, hO3⟩ := bind_some hF
  refine au ?_
  refine C_cut (fun f' cs' => ∃ (c12 : Bool) (g : Fr), c12 = o2 ∧ f' = updL g [(4, (.bool c12))] ∧ Ent cs' []) ?_ ?_
  · replace hF := hio2
    refine au ?_
    obtain ⟨r4, hx5, hF⟩ := bind_some hF
    refine Cx0 (i_IsSchema_ok _ _ _ hx5) (fun _ => ?_)
    refine au ?_
    rcases Bool.eq_false_or_eq_true r4 with hg7 | hg7
    · rw [hg7]
      try rw [hg7] at hF; dsimp only [cond_true, cond_false] at hF
      iterate 8 refine au ?_
      rcases Bool.eq_false_or_eq_true (decide (((a_l.length : Int) : Int) ≤ 4)) with hg8 | hg8
      · rw [hg8]
        try rw [hg8] at hF; dsimp only [cond_true, cond_false] at hF
        iterate 3 refine au ?_
        refine C_val (V_makeFunc (fn := .func 152) (vs := []) (us := [(.pointer (some ⟨k1, 0, some 0⟩))]) .nil (.cons (.tmp rfl rfl) .nil)) ?_
        refine au ?_
        obtain ⟨r9, hx10, hF⟩ := bind_some hF
        refine Cx0 (g_slices_ContainsFunc_impl_Rule_impl_Rule_iAreRules1_ok _ _ _ _ _ _ hx10) (fun _ => ?_)
        iterate 5 refine au ?_
        cases hF
        exact ⟨_, _, rfl, eqA, entA⟩
      rw [hg8]
      try rw [hg8] at hF; dsimp only [cond_true, cond_false] at hF
      iterate 7 refine au ?_
      cases hF
      exact ⟨_, _, rfl, eqA, entA⟩
    rw [hg7]
    try rw [hg7] at hF; dsimp only [cond_true, cond_false] at hF
    iterate 12 refine au ?_
    cases hF
    exact ⟨_, _, rfl, eqA, entA⟩
  rintro _ _ ⟨c12, g13, rfl, rfl, hE⟩
  replace hF := hO3
  clear hO3
  try dsimp only at hF
  refine K_ent hE ?_
  refine au ?_
  cases hF
  exact Er ()

/-! impl.isValue -/
def i_isValue (a_n : Int) : Option (Bool) :=
  (i_within a_n 0 9).bind fun r1 =>
  some r1
theorem i_isValue_ok (a_n : Int) (R : Bool) (hF : i_isValue a_n = some R) :
    Fw.Spec Tryz.prog 161 [(.int .i64 a_n)] [] (fun _ : Unit => (.bool R)) (fun _ => []) := by
  refine Spec_enter (n := 5) Tryz.func161 rfl rfl (rs := [.tmp 2]) rfl rfl rfl ?_
  intro H0 F0
  unfold i_isValue at hF
  iterate 5 refine au ?_
  obtain ⟨r1, hx2, hF⟩ := bind_some hF
  refine Cx0 (i_within_ok _ _ _ _ hx2) (fun _ => ?_)
  iterate 3 refine au ?_
  cases hF
  exact Er ()

/-! impl.areValues$1 -/
def i_areValues_1 (a_n : Int) : Option (Bool) :=
  (i_isValue a_n).bind fun r1 =>
  some (!r1)
theorem i_areValues_1_ok (a_n : Int) (R : Bool) (hF : i_areValues_1 a_n = some R) :
    Fw.Spec Tryz.prog 160 [(.int .i64 a_n)] [] (fun _ : Unit => (.bool R)) (fun _ => []) := by
  refine Spec_enter (n := 6) Tryz.func160 rfl rfl (rs := [.tmp 2]) rfl rfl rfl ?_
  intro H0 F0
  unfold i_areValues_1 at hF
  iterate 5 refine au ?_
  obtain ⟨r1, hx2, hF⟩ := bind_some hF
  refine Cx0 (i_isValue_ok _ _ hx2) (fun _ => ?_)
  iterate 4 refine au ?_
  cases hF
  exact Er ()

/-! slices.IndexFunc[[]int,int] -/
def g_slices_IndexFunc_int_int_iareValues1_L1 : List Int → Nat → Option (Int)
  | [], k4 => some (-1)
  | x6 :: rest5, k4 => (i_areValues_1 x6).bind fun r15 =>
    if r15 then (
      some (k4 : Int))
    else (
      g_slices_IndexFunc_int_int_iareValues1_L1 rest5 (k4 + 1))
def g_slices_IndexFunc_int_int_iareValues1 (a_s : List Int) : Option (Int) :=
  g_slices_IndexFunc_int_int_iareValues1_L1 a_s 0
theorem g_slices_IndexFunc_int_int_iareValues1_ok (a_s : List Int) (v0_0 : Sv) (R : Int) (hF : g_slices_IndexFunc_int_int_iareValues1 a_s = some R) :
    Fw.Spec Tryz.prog 204 [v0_0.v, (.func (.func 160) [].toArray [].toArray)] [crd (RdS 3 rdInt) v0_0.v a_s] (fun _ : Unit => (.int .i64 R)) (fun _ => []) := by
  refine Spec_enter (n := 19) Tryz.func204 rfl rfl (rs := [.tmp 4]) rfl rfl rfl ?_
  intro H0 F0
  unfold g_slices_IndexFunc_int_int_iareValues1 at hF
  iterate 9 refine au ?_
  refine CW_block (CW_loop (m := a_s.length) (fun m2 f' cs' => ∃ (g : Fr) (k4 : Nat) (rest5 : List Int), m2 = rest5.length ∧ f' = updL g [(0, v0_0.v), (1, (.func (.func 160) [].toArray [].toArray)), (7, (.int .i64 (a_s.length : Int))), (8, (.int .i64 (k4 : Int)))] ∧ List.drop k4 a_s = rest5 ∧ Ent cs' [crd (RdS 3 rdInt) v0_0.v a_s] ∧ g_slices_IndexFunc_int_int_iareValues1_L1 rest5 k4 = some R) ⟨_, 0, _, rfl, eqA, rfl, entA, hF⟩ ?_)
  clear hF
  rintro m2 _ _ ⟨g3, k4, rest5, rfl, rfl, hd7, hE, hF⟩
  refine K_ent hE ?_
  clear hE
  refine K_pure (c := crd (RdS 3 rdInt) v0_0.v a_s) .h crd_bound (fun hbd12 => ?_)
  rcases rest5 with _ | ⟨x6, rest5⟩
  · have hk8 := List.drop_eq_nil_iff.1 hd7
    rw [g_slices_IndexFunc_int_int_iareValues1_L1] at hF
    iterate 4 refine au ?_
    refine CdF ?_
    iterate 8 refine au ?_
    cases hF
    exact Er ()
  obtain ⟨hk8, hx9, hd10⟩ := drop_cons hd7
  rw [g_slices_IndexFunc_int_int_iareValues1_L1] at hF
  iterate 4 refine au ?_
  refine CdT ?_
  iterate 10 refine au ?_
  refine Ai hx9 (fun k13 j14 => ?_)
  refine Al ls3_0 ?_
  obtain ⟨r15, hx16, hF⟩ := bind_some hF
  refine C_x0 .nil (X_callCS cf160.h (.tmp rfl rfl) (.cons (.tmp rfl rfl) .nil) (i_areValues_1_ok x6 _ hx16)) (fun _ => ?_)
  refine au ?_
  refine Cc (fun hb19 => ?_) (fun hb19 => ?_)
  · rw [if_pos hb19] at hF
    iterate 5 refine au ?_
    cases hF
    exact Er ()
  rw [if_neg (nt hb19)] at hF
  iterate 5 refine au ?_
  rw [wk k4]
  exact ⟨_, Nat.lt_succ_self _, _, k4 + 1, rest5, rfl, eqA, hd10, entA, hF⟩

/-! slices.ContainsFunc[[]int,int] -/
def g_slices_ContainsFunc_int_int_iareValues1 (a_s : List Int) : Option (Bool) :=
  (g_slices_IndexFunc_int_int_iareValues1 a_s).bind fun r1 =>
  some (decide ((0 : Int) ≤ r1))
theorem g_slices_ContainsFunc_int_int_iareValues1_ok (a_s : List Int) (v0_0 : Sv) (R : Bool) (hF : g_slices_ContainsFunc_int_int_iareValues1 a_s = some R) :
    Fw.Spec Tryz.prog 158 [v0_0.v, (.func (.func 160) [].toArray [].toArray)] [crd (RdS 3 rdInt) v0_0.v a_s] (fun _ : Unit => (.bool R)) (fun _ => []) := by
  refine Spec_enter (n := 9) Tryz.func158 rfl rfl (rs := [.tmp 4]) rfl rfl rfl ?_
  intro H0 F0
  unfold g_slices_ContainsFunc_int_int_iareValues1 at hF
  iterate 6 refine au ?_
  obtain ⟨r1, hx2, hF⟩ := bind_some hF
  refine Cx0 (g_slices_IndexFunc_int_int_iareValues1_ok _ _ _ hx2) (fun _ => ?_)
  iterate 4 refine au ?_
  cases hF
  exact Er ()

/-! impl.areValues -/
def i_areValues (a_l : List Int) : Option (Bool) :=
  (g_slices_ContainsFunc_int_int_iareValues1 a_l).bind fun r1 =>
  some (!r1)
theorem i_areValues_ok (a_l : List Int) (v0_0 : Sv) (R : Bool) (hF : i_areValues a_l = some R) :
    Fw.Spec Tryz.prog 112 [v0_0.v] [crd (RdS 3 rdInt) v0_0.v a_l] (fun _ : Unit => (.bool R)) (fun _ => []) := by
  refine Spec_enter (n := 6) Tryz.func112 rfl rfl (rs := [.tmp 2]) rfl rfl rfl ?_
  intro H0 F0
  unfold i_areValues at hF
  iterate 5 refine au ?_
  obtain ⟨r1, hx2, hF⟩ := bind_some hF
  refine Cx0 (g_slices_ContainsFunc_int_int_iareValues1_ok _ _ _ hx2) (fun _ => ?_)
  iterate 4 refine au ?_
  cases hF
  exact Er ()

/-! impl.IsFact -/
def i_IsFact (a_s : List Int) (a_f : Fact) : Option (Bool) :=
  ((i_hasRel a_s a_f.Rel).bind fun r4 =>
    bif r4 then ((ix a_s a_f.Rel).bind fun x8 =>
      bif (((a_f.Values.length : Int) : Int) == x8) then ((i_areValues a_f.Values).bind fun r15 =>
        some r15)
      else (some false))
    else (some false)).bind fun o2 =>
  match o2 with
  | c18 => some c18
theorem i_IsFact_ok (a_s : List Int) (v0_0 : Sv) (a_f : Fact) (v1_1 : Sv) (R : Bool) (hF : i_IsFact a_s a_f = some R) :
    Fw.Spec Tryz.prog 132 [v0_0.v, (.agg [(.int .i64 a_f.Rel), v1_1.v].toArray)] [crd (RdS 3 rdInt) v0_0.v a_s, crd (RdS 3 rdInt) v1_1.v a_f.Values] (fun _ : Unit => (.bool R)) (fun _ => []) := by
  refine Spec_enter (n := 25) Tryz.func132 rfl rfl (rs := [.tmp 4]) rfl rfl rfl ?_
  intro H0 F0
  unfold i_IsFact at hF
  refine au ?_
  refine AbR (fun k1 => ?_)
  iterate 2 refine au ?_
  obtain ⟨o2, hio2, hO3⟩ := bind_some hF
  refine K_draw [0, 1, 2, 3, 4, 5, 6, 7, 8, 9, 10, 11, 12, 13, 14, 15, 16, 17, 18, 19, 20] [0, 0, 2, 7, 15, 31, 63, 127, 31, 31, 543, 1823, 3871, 8191, 16383, 32767, 65535, 131071, 262143, 524287, 1048575] [3, 18] mixed (by decide +kernel) ?_
  refine D_cut (fun f' cs' => ∃ (c18 : Bool) (g : Fr), c18 = o2 ∧ f' = updL g [(4, (.bool c18))] ∧ Ent cs' []) ?_ ?_
  · replace hF := hio2
    iterate 3 refine du ?_
    obtain ⟨r4, hx5, hF⟩ := bind_some hF
    refine Dx0 (i_hasRel_ok _ _ _ _ hx5) (fun _ => ?_)
    refine du ?_
    rcases Bool.eq_false_or_eq_true r4 with hg7 | hg7
    · rw [hg7]
      try rw [hg7] at hF; dsimp only [cond_true, cond_false] at hF
      iterate 6 refine du ?_
      obtain ⟨x8, hx9, hF⟩ := bind_some hF
      obtain ⟨hp10, hx11⟩ := ix_some hx9
      refine Di hx11 (fun k12 j13 => ?_)
      refine Dl ls3_0 ?_
      iterate 3 refine du ?_
      rcases Bool.eq_false_or_eq_true (((a_f.Values.length : Int) : Int) == x8) with hg14 | hg14
      · rw [hg14]
        try rw [hg14] at hF; dsimp only [cond_true, cond_false] at hF
        iterate 2 refine du ?_
        obtain ⟨r15, hx16, hF⟩ := bind_some hF
        refine Dx0 (i_areValues_ok _ _ _ hx16) (fun _ => ?_)
        iterate 3 refine du ?_
        cases hF
        exact ⟨_, _, rfl, eqA, entA⟩
      rw [hg14]
      try rw [hg14] at hF; dsimp only [cond_true, cond_false] at hF
      iterate 6 refine du ?_
      cases hF
      exact ⟨_, _, rfl, eqA, entA⟩
    rw [hg7]
    try rw [hg7] at hF; dsimp only [cond_true, cond_false] at hF
    iterate 17 refine du ?_
    cases hF
    exact ⟨_, _, rfl, eqA, entA⟩
  rintro _ _ ⟨c18, g19, rfl, rfl, hE⟩
  replace hF := hO3
  clear hO3
  try dsimp only at hF
  refine K_ent hE ?_
  refine au ?_
  cases hF
  exact Er ()

/-! cmp.isNaN[int] -/
def g_cmp_isNaN_int (a_x : Int) : Option (Bool) :=
  some ((a_x : Int) != a_x)
theorem g_cmp_isNaN_int_ok (a_x : Int) (R : Bool) (hF : g_cmp_isNaN_int a_x = some R) :
    Fw.Spec Tryz.prog 215 [(.int .i64 a_x)] [] (fun _ : Unit => (.bool R)) (fun _ => []) := by
  refine Spec_enter (n := 6) Tryz.func215 rfl rfl (rs := [.tmp 2]) rfl rfl rfl ?_
  intro H0 F0
  unfold g_cmp_isNaN_int at hF
  iterate 10 refine au ?_
  cases hF
  exact Er ()

/-! cmp.Compare[int] -/
def g_cmp_Compare_int (a_x : Int) (a_y : Int) : Option (Int) :=
  (g_cmp_isNaN_int a_x).bind fun r1 =>
  (g_cmp_isNaN_int a_y).bind fun r4 =>
  if r1 then (
    if r4 then (
      some 0)
    else (
      some (-1)))
  else (
    if r4 then (
      some 1)
    else (
      if (decide ((a_x : Int) < a_y)) then (
        some (-1))
      else (
        if (decide ((a_y : Int) < a_x)) then (
          some 1)
        else (
          some 0))))
theorem g_cmp_Compare_int_ok (a_x : Int) (a_y : Int) (R : Int) (hF : g_cmp_Compare_int a_x a_y = some R) :
    Fw.Spec Tryz.prog 177 [(.int .i64 a_x), (.int .i64 a_y)] [] (fun _ : Unit => (.int .i64 R)) (fun _ => []) := by
  refine Spec_enter (n := 20) Tryz.func177 rfl rfl (rs := [.tmp 4]) rfl rfl rfl ?_
  intro H0 F0
  unfold g_cmp_Compare_int at hF
  iterate 5 refine au ?_
  obtain ⟨r1, hx2, hF⟩ := bind_some hF
  refine Cx0 (g_cmp_isNaN_int_ok _ _ hx2) (fun _ => ?_)
  iterate 4 refine au ?_
  obtain ⟨r4, hx5, hF⟩ := bind_some hF
  refine Cx0 (g_cmp_isNaN_int_ok _ _ hx5) (fun _ => ?_)
  iterate 6 refine au ?_
  refine Cc (fun hb11 => ?_) (fun hb11 => ?_)
  · rw [if_pos hb11] at hF
    iterate 4 refine au ?_
    refine Cc (fun hb7 => ?_) (fun hb7 => ?_)
    · rw [if_pos hb7] at hF
      iterate 4 refine au ?_
      cases hF
      exact Er ()
    rw [if_neg (nt hb7)] at hF
    iterate 5 refine au ?_
    cases hF
    exact Er ()
  rw [if_neg (nt hb11)] at hF
  iterate 5 refine au ?_
  refine Cc (fun hb10 => ?_) (fun hb10 => ?_)
  · rw [if_pos hb10] at hF
    iterate 4 refine au ?_
    cases hF
    exact Er ()
  rw [if_neg (nt hb10)] at hF
  iterate 7 refine au ?_
  refine Cc (fun hb9 => ?_) (fun hb9 => ?_)
  · rw [if_pos hb9] at hF
    iterate 4 refine au ?_
    cases hF
    exact Er ()
  rw [if_neg (nt hb9)] at hF
  iterate 7 refine au ?_
  refine Cc (fun hb8 => ?_) (fun hb8 => ?_)
  · rw [if_pos hb8] at hF
    iterate 4 refine au ?_
    cases hF
    exact Er ()
  rw [if_neg (nt hb8)] at hF
  iterate 5 refine au ?_
  cases hF
  exact Er ()

/-! slices.Compare[[]int,int] -/
def g_slices_Compare_int_int_L1 (a_s1 : List Int) (a_s2 : List Int) : List Int → Nat → Option (Int)
  | [], k4 => if (decide (((a_s1.length : Int) : Int) < (a_s2.length : Int))) then (
      some (-1))
    else (
      some 0)
  | x6 :: rest5, k4 => if (decide (((a_s2.length : Int) : Int) ≤ (k4 : Int))) then (
      some 1)
    else (
      (ix a_s2 (k4 : Int)).bind fun x16 =>
      (g_cmp_Compare_int x6 x16).bind fun r22 =>
      if ((r22 : Int) != 0) then (
        some r22)
      else (
        g_slices_Compare_int_int_L1 a_s1 a_s2 rest5 (k4 + 1)))
def g_slices_Compare_int_int (a_s1 : List Int) (a_s2 : List Int) : Option (Int) :=
  g_slices_Compare_int_int_L1 a_s1 a_s2 a_s1 0
theorem g_slices_Compare_int_int_ok (a_s1 : List Int) (v0_0 : Sv) (a_s2 : List Int) (v1_0 : Sv) (R : Int) (hF : g_slices_Compare_int_int a_s1 a_s2 = some R) :
    Fw.Spec Tryz.prog 178 [v0_0.v, v1_0.v] [crd (RdS 3 rdInt) v0_0.v a_s1, crd (RdS 3 rdInt) v1_0.v a_s2] (fun _ : Unit => (.int .i64 R)) (fun _ => []) := by
  refine Spec_enter (n := 36) Tryz.func178 rfl rfl (rs := [.tmp 4]) rfl rfl rfl ?_
  intro H0 F0
  unfold g_slices_Compare_int_int at hF
  iterate 9 refine au ?_
  refine CW_block (CW_loop (m := a_s1.length) (fun m2 f' cs' => ∃ (g : Fr) (k4 : Nat) (rest5 : List Int), m2 = rest5.length ∧ f' = updL g [(0, v0_0.v), (1, v1_0.v), (9, v0_0.v), (10, (.int .i64 (a_s1.length : Int))), (11, (.int .i64 (k4 : Int)))] ∧ List.drop k4 a_s1 = rest5 ∧ Ent cs' [crd (RdS 3 rdInt) v0_0.v a_s1, crd (RdS 3 rdInt) v1_0.v a_s2] ∧ g_slices_Compare_int_int_L1 a_s1 a_s2 rest5 k4 = some R) ⟨_, 0, _, rfl, eqA, rfl, entA, hF⟩ ?_)
  clear hF
  rintro m2 _ _ ⟨g3, k4, rest5, rfl, rfl, hd7, hE, hF⟩
  refine K_ent hE ?_
  clear hE
  refine K_pure (c := crd (RdS 3 rdInt) v0_0.v a_s1) .h crd_bound (fun hbd12 => ?_)
  rcases rest5 with _ | ⟨x6, rest5⟩
  · have hk8 := List.drop_eq_nil_iff.1 hd7
    rw [g_slices_Compare_int_int_L1] at hF
    iterate 4 refine au ?_
    refine CdF ?_
    iterate 12 refine au ?_
    refine Cc (fun hb13 => ?_) (fun hb13 => ?_)
    · rw [if_pos hb13] at hF
      iterate 4 refine au ?_
      cases hF
      exact Er ()
    rw [if_neg (nt hb13)] at hF
    iterate 5 refine au ?_
    cases hF
    exact Er ()
  obtain ⟨hk8, hx9, hd10⟩ := drop_cons hd7
  rw [g_slices_Compare_int_int_L1] at hF
  iterate 4 refine au ?_
  refine CdT ?_
  iterate 4 refine au ?_
  refine Ai hx9 (fun k14 j15 => ?_)
  refine Al ls3_0 ?_
  iterate 10 refine au ?_
  refine Cc (fun hb27 => ?_) (fun hb27 => ?_)
  · rw [if_pos hb27] at hF
    iterate 4 refine au ?_
    cases hF
    exact Er ()
  rw [if_neg (nt hb27)] at hF
  iterate 4 refine au ?_
  obtain ⟨x16, hx17, hF⟩ := bind_some hF
  obtain ⟨hp18, hx19⟩ := ix_some hx17
  refine Ai hx19 (fun k20 j21 => ?_)
  refine Al ls3_0 ?_
  iterate 5 refine au ?_
  obtain ⟨r22, hx23, hF⟩ := bind_some hF
  refine Cx0 (g_cmp_Compare_int_ok _ _ _ hx23) (fun _ => ?_)
  iterate 6 refine au ?_
  refine Cc (fun hb26 => ?_) (fun hb26 => ?_)
  · rw [if_pos hb26] at hF
    iterate 5 refine au ?_
    cases hF
    exact Er ()
  rw [if_neg (nt hb26)] at hF
  iterate 5 refine au ?_
  rw [wk k4]
  exact ⟨_, Nat.lt_succ_self _, _, k4 + 1, rest5, rfl, eqA, hd10, entA, hF⟩

/-! cmp.Or[int] -/
def g_cmp_Or_int_L1 : List Int → Nat → Option (Int)
  | [], k4 => some 0
  | x6 :: rest5, k4 => if ((x6 : Int) != 0) then (
      some x6)
    else (
      g_cmp_Or_int_L1 rest5 (k4 + 1))
def g_cmp_Or_int (a_vals : List Int) : Option (Int) :=
  g_cmp_Or_int_L1 a_vals 0
theorem g_cmp_Or_int_ok (a_vals : List Int) (v0_0 : Sv) (R : Int) (hF : g_cmp_Or_int a_vals = some R) :
    Fw.Spec Tryz.prog 176 [v0_0.v] [crd (RdS 3 rdInt) v0_0.v a_vals] (fun _ : Unit => (.int .i64 R)) (fun _ => []) := by
  refine Spec_enter (n := 18) Tryz.func176 rfl rfl (rs := [.tmp 2]) rfl rfl rfl ?_
  intro H0 F0
  unfold g_cmp_Or_int at hF
  iterate 12 refine au ?_
  refine CW_block (CW_loop (m := a_vals.length) (fun m2 f' cs' => ∃ (g : Fr) (k4 : Nat) (rest5 : List Int), m2 = rest5.length ∧ f' = updL g [(3, (.int .i64 0)), (6, v0_0.v), (7, (.int .i64 (a_vals.length : Int))), (8, (.int .i64 (k4 : Int)))] ∧ List.drop k4 a_vals = rest5 ∧ Ent cs' [crd (RdS 3 rdInt) v0_0.v a_vals] ∧ g_cmp_Or_int_L1 rest5 k4 = some R) ⟨_, 0, _, rfl, eqA, rfl, entA, hF⟩ ?_)
  clear hF
  rintro m2 _ _ ⟨g3, k4, rest5, rfl, rfl, hd7, hE, hF⟩
  refine K_ent hE ?_
  clear hE
  refine K_pure (c := crd (RdS 3 rdInt) v0_0.v a_vals) .h crd_bound (fun hbd12 => ?_)
  rcases rest5 with _ | ⟨x6, rest5⟩
  · have hk8 := List.drop_eq_nil_iff.1 hd7
    rw [g_cmp_Or_int_L1] at hF
    iterate 4 refine au ?_
    refine CdF ?_
    iterate 9 refine au ?_
    cases hF
    exact Er ()
  obtain ⟨hk8, hx9, hd10⟩ := drop_cons hd7
  rw [g_cmp_Or_int_L1] at hF
  iterate 4 refine au ?_
  refine CdT ?_
  iterate 3 refine au ?_
  refine Ai hx9 (fun k13 j14 => ?_)
  refine Al ls3_0 ?_
  iterate 7 refine au ?_
  refine Cc (fun hb16 => ?_) (fun hb16 => ?_)
  · rw [if_pos hb16] at hF
    iterate 5 refine au ?_
    cases hF
    exact Er ()
  rw [if_neg (nt hb16)] at hF
  iterate 5 refine au ?_
  rw [wk k4]
  exact ⟨_, Nat.lt_succ_self _, _, k4 + 1, rest5, rfl, eqA, hd10, entA, hF⟩

/-! impl.CompareFacts -/
def i_CompareFacts (a_a : Fact) (a_b : Fact) : Option (Int) :=
  (g_cmp_Compare_int a_a.Rel a_b.Rel).bind fun r3 =>
  (g_slices_Compare_int_int a_a.Values a_b.Values).bind fun r6 =>
  (g_cmp_Or_int ([r3, r6] : List Int)).bind fun r10 =>
  some r10
theorem i_CompareFacts_ok (a_a : Fact) (v0_1 : Sv) (a_b : Fact) (v1_1 : Sv) (R : Int) (hF : i_CompareFacts a_a a_b = some R) :
    Fw.Spec Tryz.prog 133 [(.agg [(.int .i64 a_a.Rel), v0_1.v].toArray), (.agg [(.int .i64 a_b.Rel), v1_1.v].toArray)] [crd (RdS 3 rdInt) v0_1.v a_a.Values, crd (RdS 3 rdInt) v1_1.v a_b.Values] (fun _ : Unit => (.int .i64 R)) (fun _ => []) := by
  refine Spec_enter (n := 17) Tryz.func133 rfl rfl (rs := [.tmp 4]) rfl rfl rfl ?_
  intro H0 F0
  unfold i_CompareFacts at hF
  refine au ?_
  refine AbR (fun k1 => ?_)
  refine AbR (fun k2 => ?_)
  iterate 2 refine au ?_
  refine K_draw [0, 1, 2, 3, 5, 6, 7, 8, 4, 9, 10, 11, 12] [0, 1, 0, 4, 15, 0, 32, 0, 128, 511, 1023, 2047, 4095] [4, 9, 11] mixed (by decide +kernel) ?_
  iterate 8 refine du ?_
  obtain ⟨r3, hx4, hF⟩ := bind_some hF
  refine Dx0 (g_cmp_Compare_int_ok _ _ _ hx4) (fun _ => ?_)
  obtain ⟨r6, hx7, hF⟩ := bind_some hF
  refine Dx0 (g_slices_Compare_int_int_ok _ _ _ _ _ hx7) (fun _ => ?_)
  refine D_new rfl .no rfl (fun ha => N_buildSliceT (g := true) (len := 2) (parts := [(0, .tmp 9), (1, .tmp 14)]) sl22.h ty3.h (.cons (EN ha (.tmp rfl rfl) rfl) (.cons (EN ha (.tmp rfl rfl) rfl) .nil)) (vs := [(.int .i64 r3), (.int .i64 r6)]) rfl rfl rfl (by intro v hv; simp at hv; rcases hv with rfl | rfl <;> rfl)) (fun k9 => ?_)
  refine Dv1 (.cons .h .nil) (own_lit (Ro := (roE rdInt)) (E := 3) (F := ([] ++ ([] ++ []))) (xs := ([r3, r6] : List Int)) (MkL_cons (Mk_pure (fun _ => rfl)) (MkL_cons (Mk_pure (fun _ => rfl)) MkL_nil apps) apps) rfl rfl) ?_
  obtain ⟨r10, hx11, hF⟩ := bind_some hF
  refine D_act1 rfl rfl .no (.cons .h .nil) (.dep rfl .nil) (fun ha => XC_bor frz_own (fun _ => .nil) (X_callS cf176.h (.cons (EN ha (.tmp rfl rfl) rfl) .nil) (g_cmp_Or_int_ok ([r3, r6] : List Int) (⟨(some ⟨k9, 0, none⟩), 2, 1⟩) _ hx11))) (fun _ => ?_)
  iterate 2 refine du ?_
  refine au ?_
  cases hF
  exact Er ()

/-! impl.AreFacts -/
def i_AreFacts_L1 (a_s : List Int) (a_l : List Fact) : List Fact → Nat → Option (Bool)
  | [], k4 => ((i_IsSchema a_s).bind fun r15 =>
      bif r15 then (some (decide (((a_l.length : Int) : Int) ≤ 24)))
      else (some false)).bind fun o13 =>
    match o13 with
    | c19 => some c19
  | x6 :: rest5, k4 => ((i_IsFact a_s x6).bind fun r27 =>
      bif (!r27) then (some true)
      else (bif (decide ((0 : Int) < (k4 : Int))) then ((ix a_l (IntKind.i64.wrap ((k4 : Int) - 1))).bind fun x32 =>
          (i_CompareFacts x32 x6).bind fun r39 =>
          some (decide ((0 : Int) ≤ r39)))
        else (some false))).bind fun o25 =>
    match o25 with
    | c42 => if c42 then (
        some false)
      else (
        i_AreFacts_L1 a_s a_l rest5 (k4 + 1))
def i_AreFacts (a_s : List Int) (a_l : List Fact) : Option (Bool) :=
  i_AreFacts_L1 a_s a_l a_l 0
theorem i_AreFacts_ok (a_s : List Int) (v0_0 : Sv) (a_l : List Fact) (v1_0 : Sv) (R : Bool) (hF : i_AreFacts a_s a_l = some R) :
    Fw.Spec Tryz.prog 70 [v0_0.v, v1_0.v] [crd (RdS 3 rdInt) v0_0.v a_s, crd (RdS 114 rd114) v1_0.v a_l] (fun _ : Unit => (.bool R)) (fun _ => []) := by
  refine Spec_enter (n := 40) Tryz.func70 rfl rfl (rs := [.tmp 4]) rfl rfl rfl ?_
  intro H0 F0
  unfold i_AreFacts at hF
  iterate 9 refine au ?_
  refine CW_block (CW_loop (m := a_l.length) (fun m2 f' cs' => ∃ (g : Fr) (k4 : Nat) (rest5 : List Fact), m2 = rest5.length ∧ f' = updL g [(0, v0_0.v), (1, v1_0.v), (7, v1_0.v), (8, (.int .i64 (a_l.length : Int))), (9, (.int .i64 (k4 : Int)))] ∧ List.drop k4 a_l = rest5 ∧ Ent cs' [crd (RdS 3 rdInt) v0_0.v a_s, crd (RdS 114 rd114) v1_0.v a_l] ∧ i_AreFacts_L1 a_s a_l rest5 k4 = some R) ⟨_, 0, _, rfl, eqA, rfl, entA, hF⟩ ?_)
  clear hF
  rintro m2 _ _ ⟨g3, k4, rest5, rfl, rfl, hd7, hE, hF⟩
  refine K_ent hE ?_
  clear hE
  refine K_pure (c := crd (RdS 114 rd114) v1_0.v a_l) (.t .h) crd_bound (fun hbd12 => ?_)
  rcases rest5 with _ | ⟨x6, rest5⟩
  · have hk8 := List.drop_eq_nil_iff.1 hd7
    rw [i_AreFacts_L1] at hF
    iterate 4 refine au ?_
    refine CdF ?_
    iterate 4 refine au ?_
    obtain ⟨o13, hio13, hO14⟩ := bind_some hF
    refine au ?_
    refine C_cut (fun f' cs' => ∃ (c19 : Bool) (g : Fr), c19 = o13 ∧ f' = updL g [(4, (.bool c19))] ∧ Ent cs' []) ?_ ?_
    · replace hF := hio13
      refine au ?_
      obtain ⟨r15, hx16, hF⟩ := bind_some hF
      refine Cx0 (i_IsSchema_ok _ _ _ hx16) (fun _ => ?_)
      refine au ?_
      rcases Bool.eq_false_or_eq_true r15 with hg18 | hg18
      · rw [hg18]
        try rw [hg18] at hF; dsimp only [cond_true, cond_false] at hF
        iterate 9 refine au ?_
        cases hF
        exact ⟨_, _, rfl, eqA, entA⟩
      rw [hg18]
      try rw [hg18] at hF; dsimp only [cond_true, cond_false] at hF
      iterate 6 refine au ?_
      cases hF
      exact ⟨_, _, rfl, eqA, entA⟩
    rintro _ _ ⟨c19, g20, rfl, rfl, hE⟩
    replace hF := hO14
    clear hO14
    try dsimp only at hF
    refine K_ent hE ?_
    refine au ?_
    cases hF
    exact Er ()
  obtain ⟨hk8, hx9, hd10⟩ := drop_cons hd7
  rw [i_AreFacts_L1] at hF
  iterate 4 refine au ?_
  refine CdT ?_
  iterate 4 refine au ?_
  refine Ai hx9 (fun k21 j22 => ?_)
  refine AlA1 (ul114_0_114 x6) la114_0_114 (fun p23 => ?_)
  refine AnW (fun k24 => ?_)
  refine au ?_
  refine As (.agg [(.int .i64 x6.Rel), p23.v].toArray) ?_
  refine au ?_
  obtain ⟨o25, hio25, hO26⟩ := bind_some hF
  refine K_draw [0, 1, 2, 3, 4, 5, 6, 7, 8, 9, 10, 11, 12, 13, 14, 15, 16, 17] [0, 0, 3, 7, 15, 31, 63, 127, 255, 255, 767, 2047, 4095, 255, 16383, 32767, 65535, 131071] [2, 14] mixed (by decide +kernel) ?_
  refine D_cut (fun f' cs' => ∃ (c42 : Bool) (g : Fr), c42 = o25 ∧ f' = updL g [(0, v0_0.v), (1, v1_0.v), (7, v1_0.v), (8, (.int .i64 (a_l.length : Int))), (9, (.int .i64 (k4 : Int))), (31, (.bool c42))] ∧ Ent cs' [crd (RdS 3 rdInt) v0_0.v a_s, crd (RdS 114 rd114) v1_0.v a_l]) ?_ ?_
  · replace hF := hio25
    refine du ?_
    refine D_atO rfl .no .h (fun ha hp => V_loadBox ag114.h ty114.h.sz rfl (EN ha (.tmp rfl rfl) rfl) hp.2 rfl) ?_
    obtain ⟨r27, hx28, hF⟩ := bind_some hF
    refine Dx0 (i_IsFact_ok _ _ _ _ _ hx28) (fun _ => ?_)
    iterate 2 refine du ?_
    rcases Bool.eq_false_or_eq_true (!r27) with hg30 | hg30
    · rw [hg30]
      try rw [hg30] at hF; dsimp only [cond_true, cond_false] at hF
      iterate 14 refine du ?_
      cases hF
      exact ⟨_, _, rfl, eqA, entA⟩
    rw [hg30]
    try rw [hg30] at hF; dsimp only [cond_true, cond_false] at hF
    iterate 3 refine du ?_
    rcases Bool.eq_false_or_eq_true (decide ((0 : Int) < (k4 : Int))) with hg31 | hg31
    · rw [hg31]
      try rw [hg31] at hF; dsimp only [cond_true, cond_false] at hF
      iterate 3 refine du ?_
      obtain ⟨x32, hx33, hF⟩ := bind_some hF
      obtain ⟨hp34, hx35⟩ := ix_some hx33
      refine Di hx35 (fun k36 j37 => ?_)
      refine DlA1 (ul114_0_114 x32) la114_0_114 (fun p38 => ?_)
      refine D_atO rfl (.on 21 rfl rfl rfl) (.t (.t .h)) (fun ha hp => V_loadBox ag114.h ty114.h.sz rfl (EN ha (.tmp rfl rfl) rfl) hp.2 rfl) ?_
      obtain ⟨r39, hx40, hF⟩ := bind_some hF
      refine Dx0 (i_CompareFacts_ok _ _ _ _ _ hx40) (fun _ => ?_)
      iterate 4 refine du ?_
      cases hF
      exact ⟨_, _, rfl, eqA, entA⟩
    rw [hg31]
    try rw [hg31] at hF; dsimp only [cond_true, cond_false] at hF
    iterate 11 refine du ?_
    cases hF
    exact ⟨_, _, rfl, eqA, entA⟩
  rintro _ _ ⟨c42, g45, rfl, rfl, hE⟩
  replace hF := hO26
  clear hO26
  try dsimp only at hF
  refine K_ent hE ?_
  refine Cc (fun hb44 => ?_) (fun hb44 => ?_)
  · rw [if_pos hb44] at hF
    iterate 4 refine au ?_
    cases hF
    exact Er ()
  rw [if_neg (nt hb44)] at hF
  iterate 5 refine au ?_
  rw [wk k4]
  exact ⟨_, Nat.lt_succ_self _, _, k4 + 1, rest5, rfl, eqA, hd10, entA, hF⟩

/-! impl.IsSource -/
def i_IsSource (a_s : List Int) (a_x : Source) : Option (Bool) :=
  ((i_AreFacts a_s a_x.Facts).bind fun r4 =>
    bif r4 then ((i_within a_x.Version 0 1000).bind fun r8 =>
      some r8)
    else (some false)).bind fun o2 =>
  match o2 with
  | c11 => some c11
theorem i_IsSource_ok (a_s : List Int) (v0_0 : Sv) (a_x : Source) (v1_0 : Sv) (R : Bool) (hF : i_IsSource a_s a_x = some R) :
    Fw.Spec Tryz.prog 104 [v0_0.v, (.agg [v1_0.v, (.int .i64 a_x.Version)].toArray)] [crd (RdS 3 rdInt) v0_0.v a_s, crd (RdS 114 rd114) v1_0.v a_x.Facts] (fun _ : Unit => (.bool R)) (fun _ => []) := by
  refine Spec_enter (n := 14) Tryz.func104 rfl rfl (rs := [.tmp 4]) rfl rfl rfl ?_
  intro H0 F0
  unfold i_IsSource at hF
  refine au ?_
  refine AbR (fun k1 => ?_)
  iterate 2 refine au ?_
  obtain ⟨o2, hio2, hO3⟩ := bind_some hF
  refine au ?_
  refine C_cut (fun f' cs' => ∃ (c11 : Bool) (g : Fr), c11 = o2 ∧ f' = updL g [(4, (.bool c11))] ∧ Ent cs' []) ?_ ?_
  · replace hF := hio2
    iterate 3 refine au ?_
    obtain ⟨r4, hx5, hF⟩ := bind_some hF
    refine Cx0 (i_AreFacts_ok _ _ _ _ _ hx5) (fun _ => ?_)
    refine au ?_
    rcases Bool.eq_false_or_eq_true r4 with hg7 | hg7
    · rw [hg7]
      try rw [hg7] at hF; dsimp only [cond_true, cond_false] at hF
      iterate 5 refine au ?_
      obtain ⟨r8, hx9, hF⟩ := bind_some hF
      refine Cx0 (i_within_ok _ _ _ _ hx9) (fun _ => ?_)
      iterate 3 refine au ?_
      cases hF
      exact ⟨_, _, rfl, eqA, entA⟩
    rw [hg7]
    try rw [hg7] at hF; dsimp only [cond_true, cond_false] at hF
    iterate 6 refine au ?_
    cases hF
    exact ⟨_, _, rfl, eqA, entA⟩
  rintro _ _ ⟨c11, g12, rfl, rfl, hE⟩
  replace hF := hO3
  clear hO3
  try dsimp only at hF
  refine K_ent hE ?_
  refine au ?_
  cases hF
  exact Er ()

/-! impl.IsAccess -/
def i_IsAccess (a_s : List Int) (a_l : List Method) (a_a : Access) : Option (Bool) :=
  ((i_AreMethods a_s a_l).bind fun r4 =>
    bif r4 then ((i_within a_a.Method 0 (IntKind.i64.wrap ((a_l.length : Int) - 1))).bind fun r8 =>
      bif r8 then ((ix a_l a_a.Method).bind fun x12 =>
        bif (((a_a.Values.length : Int) : Int) == (x12.Inputs.length : Int)) then ((i_areValues a_a.Values).bind fun r20 =>
          some r20)
        else (some false))
      else (some false))
    else (some false)).bind fun o2 =>
  match o2 with
  | c23 => some c23
theorem i_IsAccess_ok (a_s : List Int) (v0_0 : Sv) (a_l : List Method) (v1_0 : Sv) (a_a : Access) (v2_1 : Sv) (R : Bool) (hF : i_IsAccess a_s a_l a_a = some R) :
    Fw.Spec Tryz.prog 109 [v0_0.v, v1_0.v, (.agg [(.int .i64 a_a.Method), v2_1.v].toArray)] [crd (RdS 3 rdInt) v0_0.v a_s, crd (RdS 112 rd112) v1_0.v a_l, crd (RdS 3 rdInt) v2_1.v a_a.Values] (fun _ : Unit => (.bool R)) (fun _ => []) := by
  refine Spec_enter (n := 36) Tryz.func109 rfl rfl (rs := [.tmp 6]) rfl rfl rfl ?_
  intro H0 F0
  unfold i_IsAccess at hF
  refine au ?_
  refine AbR (fun k1 => ?_)
  iterate 2 refine au ?_
  obtain ⟨o2, hio2, hO3⟩ := bind_some hF
  refine K_draw [0, 1, 2, 3, 4, 5, 6, 7, 8, 9, 10, 11, 12, 13, 14, 15, 16, 17, 18, 19, 20, 21, 22, 23, 24, 25, 26, 27, 28, 29] [0, 0, 3, 7, 15, 31, 15, 79, 207, 511, 1023, 2047, 4095, 8191, 16383, 4095, 4095, 69631, 233471, 495615, 1019903, 2068479, 4194303, 8388607, 16777215, 33554431, 67108863, 134217727, 268435455, 536870911] [2, 9, 27] mixed (by decide +kernel) ?_
  refine D_cut (fun f' cs' => ∃ (c23 : Bool) (g : Fr), c23 = o2 ∧ f' = updL g [(6, (.bool c23))] ∧ Ent cs' []) ?_ ?_
  · replace hF := hio2
    iterate 2 refine du ?_
    obtain ⟨r4, hx5, hF⟩ := bind_some hF
    refine Dx0 (i_AreMethods_ok _ _ _ _ _ hx5) (fun _ => ?_)
    refine du ?_
    rcases Bool.eq_false_or_eq_true r4 with hg7 | hg7
    · rw [hg7]
      try rw [hg7] at hF; dsimp only [cond_true, cond_false] at hF
      iterate 5 refine du ?_
      obtain ⟨r8, hx9, hF⟩ := bind_some hF
      refine Dx0 (i_within_ok _ _ _ _ hx9) (fun _ => ?_)
      iterate 2 refine du ?_
      rcases Bool.eq_false_or_eq_true r8 with hg11 | hg11
      · rw [hg11]
        try rw [hg11] at hF; dsimp only [cond_true, cond_false] at hF
        iterate 6 refine du ?_
        obtain ⟨x12, hx13, hF⟩ := bind_some hF
        obtain ⟨hp14, hx15⟩ := ix_some hx13
        refine Di hx15 (fun k16 j17 => ?_)
        refine du ?_
        refine D_ldV (R' := (RdS 3 rdInt)) ag22.h rfl (.on 18 rfl rfl rfl) (.tmp rfl rfl) rfl .h lv112_1 (fun w18 => ?_)
        iterate 4 refine du ?_
        rcases Bool.eq_false_or_eq_true (((a_a.Values.length : Int) : Int) == (x12.Inputs.length : Int)) with hg19 | hg19
        · rw [hg19]
          try rw [hg19] at hF; dsimp only [cond_true, cond_false] at hF
          iterate 2 refine du ?_
          obtain ⟨r20, hx21, hF⟩ := bind_some hF
          refine Dx0 (i_areValues_ok _ _ _ hx21) (fun _ => ?_)
          iterate 3 refine du ?_
          cases hF
          exact ⟨_, _, rfl, eqA, entA⟩
        rw [hg19]
        try rw [hg19] at hF; dsimp only [cond_true, cond_false] at hF
        iterate 6 refine du ?_
        cases hF
        exact ⟨_, _, rfl, eqA, entA⟩
      rw [hg11]
      try rw [hg11] at hF; dsimp only [cond_true, cond_false] at hF
      iterate 19 refine du ?_
      cases hF
      exact ⟨_, _, rfl, eqA, entA⟩
    rw [hg7]
    try rw [hg7] at hF; dsimp only [cond_true, cond_false] at hF
    iterate 27 refine du ?_
    cases hF
    exact ⟨_, _, rfl, eqA, entA⟩
  rintro _ _ ⟨c23, g24, rfl, rfl, hE⟩
  replace hF := hO3
  clear hO3
  try dsimp only at hF
  refine K_ent hE ?_
  refine au ?_
  cases hF
  exact Er ()

/-! slices.Clone[[]int,int] -/
def g_slices_Clone_int_int (a_s : List Int) : Option ((List Int)) :=
  (app ([] : List Int) a_s).bind fun z5 =>
  some z5
theorem g_slices_Clone_int_int_ok (a_s : List Int) (v0_0 : Sv) (R : (List Int)) (hF : g_slices_Clone_int_int a_s = some R) :
    Fw.Spec Tryz.prog 235 [v0_0.v] [crd (RdS 3 rdInt) v0_0.v a_s] (fun p : Sv × List Nat => p.1.v) (fun p => [cown (OwnS 3 (roE rdInt)) p.2 p.1.v R]) := by
  refine Spec_enter (n := 8) Tryz.func235 rfl rfl (rs := [.tmp 2]) rfl rfl rfl ?_
  intro H0 F0
  unfold g_slices_Clone_int_int at hF
  iterate 6 refine au ?_
  refine C_eqNil (xs := a_s) sl22.h (.tmp rfl rfl) .h crd_nilc (fun bn1 hn2 => ?_)
  refine au ?_
  refine Cc (fun hb3 => ?_) (fun hb3 => ?_)
  · have hnil := hn2 hb3
    replace hF : some [] = some R := by rw [hnil] at hF; simpa [app] using hF
    iterate 4 refine au ?_
    cases hF
    exact End_ret (⟨none, 0, 0⟩, []) (.tmp rfl rfl .nil) rfl (.conv .nil (own_nil (Ro := (roE rdInt)) (E := 3)) (.cons .nil) (.sel (.cons .h .nil)))
  iterate 2 refine au ?_
  refine C_new rfl (N_buildSliceT (g := true) sl22.h ty3.h .nil (vs := []) rfl rfl rfl (by simp)) (fun k4 => ?_)
  refine Cv1 (.cons .h .nil) (own_lit (Ro := (roE rdInt)) (E := 3) (F := []) (xs := ([] : List Int)) MkL_nil rfl rfl) ?_
  refine au ?_
  obtain ⟨z5, hx6, hF⟩ := bind_some hF
  refine C_x1 (.cons .h (.rd .h rfl .nil)) (X_appendO (Ro := (roE rdInt)) sl22.h ni22 ty3.h rfl rfl rfl (.tmp rfl rfl) (.tmp rfl rfl) hx6 src_rd) (fun p7 => ?_)
  iterate 3 refine au ?_
  cases hF
  exact Er (p7.1, p7.2)

/-! impl.copyFact -/
def i_copyFact (a_f : Fact) : Option (Fact) :=
  (g_slices_Clone_int_int a_f.Values).bind fun r3 =>
  some ({ Rel := a_f.Rel, Values := r3 } : Fact)
theorem i_copyFact_ok (a_f : Fact) (v0_1 : Sv) (R : Fact) (hF : i_copyFact a_f = some R) :
    Fw.Spec Tryz.prog 198 [(.agg [(.int .i64 a_f.Rel), v0_1.v].toArray)] [crd (RdS 3 rdInt) v0_1.v a_f.Values] (fun p : Sv × List Nat => (.agg [(.int .i64 R.Rel), p.1.v].toArray)) (fun p => [cown (OwnS 3 (roE rdInt)) p.2 p.1.v R.Values]) := by
  refine Spec_enter (n := 9) Tryz.func198 rfl rfl (rs := [.cell 2 114]) rfl rfl rfl ?_
  intro H0 F0
  unfold i_copyFact at hF
  refine au ?_
  refine AbR (fun k1 => ?_)
  refine AnW (fun k2 => ?_)
  refine au ?_
  refine K_draw [0, 1, 2, 3, 4, 5, 6] [0, 1, 0, 4, 12, 31, 63] [4, 6] mixed (by decide +kernel) ?_
  iterate 4 refine du ?_
  obtain ⟨r3, hx4, hF⟩ := bind_some hF
  refine Dx1 (g_slices_Clone_int_int_ok _ _ _ hx4) (fun p5 => ?_)
  refine D_val rfl .no (fun ha => V_build ty114.h rfl (vs := [(.int .i64 a_f.Rel), p5.1.v]) (.cons (EN ha (.tmp rfl rfl) rfl) (.cons (EN ha (.tmp rfl rfl) rfl) .nil)) (cells := [(.int .i64 a_f.Rel), p5.1.v]) rfl) ?_
  refine D_act1 rfl rfl .no (.cons (.t .h) .nil) .nil (fun ha => X_storeB (e' := (.agg [(.int .i64 a_f.Rel), p5.1.v].toArray)) (v := (.agg [(.int .i64 a_f.Rel), p5.1.v].toArray)) ty114.h.sz (EN ha (.tmp rfl rfl) rfl) (EN ha (.tmp rfl rfl) rfl) rfl rfl rfl rfl rfl) (fun _ => ?_)
  refine du ?_
  refine au ?_
  cases hF
  exact Er (p5.1, p5.2)

/-! impl.copyFacts -/
def i_copyFacts_L1 : List Fact → Nat → (List Fact) → Option ((List Fact))
  | [], k8, c2 => some c2
  | x10 :: rest9, k8, c2 => (i_copyFact x10).bind fun r21 =>
    (app c2 ([r21] : List Fact)).bind fun z25 =>
    i_copyFacts_L1 rest9 (k8 + 1) z25
def i_copyFacts (a_l : List Fact) : Option ((List Fact)) :=
  i_copyFacts_L1 a_l 0 ([] : List Fact)
theorem i_copyFacts_ok (a_l : List Fact) (v0_0 : Sv) (R : (List Fact)) (hF : i_copyFacts a_l = some R) :
    Fw.Spec Tryz.prog 222 [v0_0.v] [crd (RdS 114 rd114) v0_0.v a_l] (fun p : Sv × List Nat => p.1.v) (fun p => [cown (OwnS 114 ow114) p.2 p.1.v R]) := by
  refine Spec_enter (n := 20) Tryz.func222 rfl rfl (rs := [.tmp 2]) rfl rfl rfl ?_
  intro H0 F0
  unfold i_copyFacts at hF
  iterate 4 refine au ?_
  refine C_new rfl (N_buildSliceT (g := true) sl40.h ty114.h .nil (vs := []) rfl rfl rfl (by simp)) (fun k1 => ?_)
  refine Cv1 (.cons .h .nil) (own_lit (Ro := ow114) (E := 114) (F := []) (xs := ([] : List Fact)) MkL_nil rfl rfl) ?_
  iterate 8 refine au ?_
  refine CW_block (CW_loop (m := a_l.length) (fun m6 f' cs' => ∃ (g : Fr) (k8 : Nat) (rest9 : List Fact) (c2 : List Fact) (v3 : Sv) (F4 : List Nat), m6 = rest9.length ∧ f' = updL g [(3, v3.v), (7, v0_0.v), (8, (.int .i64 (a_l.length : Int))), (9, (.int .i64 (k8 : Int)))] ∧ List.drop k8 a_l = rest9 ∧ Ent cs' [cown (OwnS 114 ow114) F4 v3.v c2, crd (RdS 114 rd114) v0_0.v a_l] ∧ i_copyFacts_L1 rest9 k8 c2 = some R) ⟨_, 0, _, _, ⟨(some ⟨k1, 0, none⟩), 0, 1⟩, (k1 :: []), rfl, eqA, rfl, entA, hF⟩ ?_)
  clear hF
  rintro m6 _ _ ⟨g7, k8, rest9, c2, v3, F4, rfl, rfl, hd11, hE, hF⟩
  refine K_ent hE ?_
  clear hE
  refine K_pure (c := crd (RdS 114 rd114) v0_0.v a_l) (.t .h) crd_bound (fun hbd16 => ?_)
  rcases rest9 with _ | ⟨x10, rest9⟩
  · have hk12 := List.drop_eq_nil_iff.1 hd11
    rw [i_copyFacts_L1] at hF
    iterate 4 refine au ?_
    refine CdF ?_
    iterate 9 refine au ?_
    cases hF
    exact Er (v3, F4)
  obtain ⟨hk12, hx13, hd14⟩ := drop_cons hd11
  rw [i_copyFacts_L1] at hF
  iterate 4 refine au ?_
  refine CdT ?_
  iterate 3 refine au ?_
  refine Ai hx13 (fun k17 j18 => ?_)
  refine AlA1 (ul114_0_114 x10) la114_0_114 (fun p19 => ?_)
  refine AnW (fun k20 => ?_)
  refine As (.agg [(.int .i64 x10.Rel), p19.v].toArray) ?_
  iterate 4 refine au ?_
  obtain ⟨r21, hx22, hF⟩ := bind_some hF
  refine Cx1 (i_copyFact_ok _ _ _ hx22) (fun p23 => ?_)
  refine C_new rfl (N_buildSliceT (g := true) sl40.h ty114.h (.cons (.tmp rfl rfl) .nil) (vs := [(.agg [(.int .i64 r21.Rel), p23.1.v].toArray)]) rfl rfl rfl (by intro v hv; simp at hv; rcases hv with rfl <;> rfl)) (fun k24 => ?_)
  refine Cv1 (.cons .h (.cons .h .nil)) (own_lit (Ro := ow114) (E := 114) (F := (p23.2 ++ [])) (xs := ([r21] : List Fact)) (MkL_cons mk114 MkL_nil apps) rfl rfl) ?_
  obtain ⟨z25, hx26, hF⟩ := bind_some hF
  refine C_x1 (.cons (.t (.t (.t (.t .h)))) (.cons .h .nil)) (X_appendO (Ro := ow114) sl40.h ni40 ty114.h rfl rfl rfl (.tmp rfl rfl) (.tmp rfl rfl) hx26 src_own) (fun p27 => ?_)
  iterate 6 refine au ?_
  rw [wk k8]
  exact ⟨_, Nat.lt_succ_self _, _, k8 + 1, rest9, _, p27.1, p27.2, rfl, eqA, hd14, entA, hF⟩

/-! impl.matches$1 -/
def i_matches_1_L1 (a_f : Fact) (a_e2 : Access) : List Int → Nat → Option (Bool)
  | [], k5 => some false
  | x7 :: rest6, k5 => (ix a_f.Values x7).bind fun x16 =>
    (ix a_e2.Values (k5 : Int)).bind fun x22 =>
    if ((x16 : Int) != x22) then (
      some true)
    else (
      i_matches_1_L1 a_f a_e2 rest6 (k5 + 1))
def i_matches_1 (a_f : Fact) (a_e1 : Method) (a_e2 : Access) : Option (Bool) :=
  if ((a_f.Rel : Int) != a_e1.Rel) then (
    some true)
  else (
    i_matches_1_L1 a_f a_e2 a_e1.Inputs 0)
theorem i_matches_1_ok (a_f : Fact) (v0_1 : Sv) (kc1 : Nat) (a_e1 : Method) (vc1_1 : Sv) (kc2 : Nat) (a_e2 : Access) (vc2_1 : Sv) (R : Bool) (hF : i_matches_1 a_f a_e1 a_e2 = some R) :
    Fw.Spec Tryz.prog 223 [(.agg [(.int .i64 a_f.Rel), v0_1.v].toArray), (.pointer (some ⟨kc1, 0, some 0⟩)), (.pointer (some ⟨kc2, 0, some 0⟩))] [crd (RdS 3 rdInt) v0_1.v a_f.Values, cboR kc1 112 (.agg [(.int .i64 a_e1.Rel), vc1_1.v, (.int .i64 a_e1.Limit), (.int .i64 a_e1.Cost), (.int .i64 a_e1.Quota)].toArray), crd (RdS 3 rdInt) vc1_1.v a_e1.Inputs, cboR kc2 80 (.agg [(.int .i64 a_e2.Method), vc2_1.v].toArray), crd (RdS 3 rdInt) vc2_1.v a_e2.Values] (fun _ : Unit => (.bool R)) (fun _ => []) := by
  refine Spec_enter (n := 32) Tryz.func223 rfl rfl (rs := [.tmp 4]) rfl rfl rfl ?_
  intro H0 F0
  unfold i_matches_1 at hF
  refine au ?_
  refine AbR (fun k1 => ?_)
  iterate 10 refine au ?_
  refine Cc (fun hb30 => ?_) (fun hb30 => ?_)
  · rw [if_pos hb30] at hF
    iterate 4 refine au ?_
    cases hF
    exact Er ()
  rw [if_neg (nt hb30)] at hF
  iterate 8 refine au ?_
  refine CW_block (CW_loop (m := a_e1.Inputs.length) (fun m3 f' cs' => ∃ (g : Fr) (k5 : Nat) (rest6 : List Int), m3 = rest6.length ∧ f' = updL g [(2, (.pointer (some ⟨kc2, 0, some 0⟩))), (3, (.pointer (some ⟨k1, 0, some 0⟩))), (13, vc1_1.v), (14, (.int .i64 (a_e1.Inputs.length : Int))), (15, (.int .i64 (k5 : Int)))] ∧ List.drop k5 a_e1.Inputs = rest6 ∧ Ent cs' [cboR kc2 80 (.agg [(.int .i64 a_e2.Method), vc2_1.v].toArray), crd (RdS 3 rdInt) vc2_1.v a_e2.Values, cboR k1 114 (.agg [(.int .i64 a_f.Rel), v0_1.v].toArray), crd (RdS 3 rdInt) v0_1.v a_f.Values, crd (RdS 3 rdInt) vc1_1.v a_e1.Inputs] ∧ i_matches_1_L1 a_f a_e2 rest6 k5 = some R) ⟨_, 0, _, rfl, eqA, rfl, entA, hF⟩ ?_)
  clear hF
  rintro m3 _ _ ⟨g4, k5, rest6, rfl, rfl, hd8, hE, hF⟩
  refine K_ent hE ?_
  clear hE
  refine K_pure (c := crd (RdS 3 rdInt) vc1_1.v a_e1.Inputs) (.t (.t (.t (.t .h)))) crd_bound (fun hbd13 => ?_)
  rcases rest6 with _ | ⟨x7, rest6⟩
  · have hk9 := List.drop_eq_nil_iff.1 hd8
    rw [i_matches_1_L1] at hF
    iterate 4 refine au ?_
    refine CdF ?_
    iterate 8 refine au ?_
    cases hF
    exact Er ()
  obtain ⟨hk9, hx10, hd11⟩ := drop_cons hd8
  rw [i_matches_1_L1] at hF
  iterate 4 refine au ?_
  refine CdT ?_
  iterate 4 refine au ?_
  refine Ai hx10 (fun k14 j15 => ?_)
  refine Al ls3_0 ?_
  iterate 3 refine au ?_
  refine K_draw [0, 1, 2, 3, 4, 5, 6, 7, 8, 9, 10] [0, 1, 0, 7, 15, 0, 32, 0, 224, 480, 1023] [] mixed (by decide +kernel) ?_
  iterate 3 refine du ?_
  obtain ⟨x16, hx17, hF⟩ := bind_some hF
  obtain ⟨hp18, hx19⟩ := ix_some hx17
  refine Di hx19 (fun k20 j21 => ?_)
  refine Dl ls3_0 ?_
  iterate 3 refine du ?_
  obtain ⟨x22, hx23, hF⟩ := bind_some hF
  obtain ⟨hp24, hx25⟩ := ix_some hx23
  refine Di hx25 (fun k26 j27 => ?_)
  refine Dl ls3_0 ?_
  iterate 2 refine du ?_
  refine Cc (fun hb29 => ?_) (fun hb29 => ?_)
  · rw [if_pos hb29] at hF
    iterate 4 refine au ?_
    cases hF
    exact Er ()
  rw [if_neg (nt hb29)] at hF
  iterate 5 refine au ?_
  rw [wk k5]
  exact ⟨_, Nat.lt_succ_self _, _, k5 + 1, rest6, rfl, eqA, hd11, entA, hF⟩

/-! impl.Fact] -/
def g_slices_IndexFunc_impl_Fact_impl_Fact_imatches1_L1 (a_e1 : Method) (a_e2 : Access) : List Fact → Nat → Option (Int)
  | [], k4 => some (-1)
  | x6 :: rest5, k4 => (i_matches_1 x6 a_e1 a_e2).bind fun r16 =>
    if r16 then (
      some (k4 : Int))
    else (
      g_slices_IndexFunc_impl_Fact_impl_Fact_imatches1_L1 a_e1 a_e2 rest5 (k4 + 1))
def g_slices_IndexFunc_impl_Fact_impl_Fact_imatches1 (a_s : List Fact) (a_e1 : Method) (a_e2 : Access) : Option (Int) :=
  g_slices_IndexFunc_impl_Fact_impl_Fact_imatches1_L1 a_e1 a_e2 a_s 0
theorem g_slices_IndexFunc_impl_Fact_impl_Fact_imatches1_ok (a_s : List Fact) (v0_0 : Sv) (kc1 : Nat) (a_e1 : Method) (vc1_1 : Sv) (kc2 : Nat) (a_e2 : Access) (vc2_1 : Sv) (R : Int) (hF : g_slices_IndexFunc_impl_Fact_impl_Fact_imatches1 a_s a_e1 a_e2 = some R) :
    Fw.Spec Tryz.prog 195 [v0_0.v, (.func (.func 223) [].toArray [(.pointer (some ⟨kc1, 0, some 0⟩)), (.pointer (some ⟨kc2, 0, some 0⟩))].toArray)] [crd (RdS 114 rd114) v0_0.v a_s, cboR kc1 112 (.agg [(.int .i64 a_e1.Rel), vc1_1.v, (.int .i64 a_e1.Limit), (.int .i64 a_e1.Cost), (.int .i64 a_e1.Quota)].toArray), crd (RdS 3 rdInt) vc1_1.v a_e1.Inputs, cboR kc2 80 (.agg [(.int .i64 a_e2.Method), vc2_1.v].toArray), crd (RdS 3 rdInt) vc2_1.v a_e2.Values] (fun _ : Unit => (.int .i64 R)) (fun _ => []) := by
  refine Spec_enter (n := 19) Tryz.func195 rfl rfl (rs := [.tmp 4]) rfl rfl rfl ?_
  intro H0 F0
  unfold g_slices_IndexFunc_impl_Fact_impl_Fact_imatches1 at hF
  refine K_region (C_val (V_assign (v := (.int .i64 0)) (.int _ _)) ?_)
  refine C_nil (K_in (K_region (Cm v0_0.v rfl rfl ?_)))
  refine C_at .h (fun hp => V_lenR (l := a_s.length) sl40.h (.tmp rfl rfl) (crd_len hp)) ?_
  refine C_val (V_move (v := (.int .i64 0)) (.int _ _)) ?_
  refine C_nil (CW_block (CW_loop (m := a_s.length) (fun m2 f' cs' => ∃ (g : Fr) (k4 : Nat) (rest5 : List Fact), m2 = rest5.length ∧ f' = updL g [(0, v0_0.v), (1, (.func (.func 223) [].toArray [(.pointer (some ⟨kc1, 0, some 0⟩)), (.pointer (some ⟨kc2, 0, some 0⟩))].toArray)), (7, (.int .i64 (a_s.length : Int))), (8, (.int .i64 (k4 : Int)))] ∧ List.drop k4 a_s = rest5 ∧ Ent cs' [crd (RdS 114 rd114) v0_0.v a_s, cboR kc1 112 (.agg [(.int .i64 a_e1.Rel), vc1_1.v, (.int .i64 a_e1.Limit), (.int .i64 a_e1.Cost), (.int .i64 a_e1.Quota)].toArray), crd (RdS 3 rdInt) vc1_1.v a_e1.Inputs, cboR kc2 80 (.agg [(.int .i64 a_e2.Method), vc2_1.v].toArray), crd (RdS 3 rdInt) vc2_1.v a_e2.Values] ∧ g_slices_IndexFunc_impl_Fact_impl_Fact_imatches1_L1 a_e1 a_e2 rest5 k4 = some R) ⟨_, 0, _, rfl, (EqL.cons rfl (EqL.cons rfl (EqL.cons rfl (EqL.cons rfl (EqL.nil))))).eq, rfl, (.sel (.rd .h rfl (.rd (.t .h) rfl (.rd (.t (.t .h)) rfl (.rd (.t (.t (.t .h))) rfl (.rd (.t (.t (.t (.t .h)))) rfl .nil)))))), hF⟩ ?_))
  clear hF
  rintro m2 _ _ ⟨g3, k4, rest5, rfl, rfl, hd7, hE, hF⟩
  refine K_ent hE ?_
  clear hE
  refine K_pure (c := crd (RdS 114 rd114) v0_0.v a_s) .h crd_bound (fun hbd12 => ?_)
  rcases rest5 with _ | ⟨x6, rest5⟩
  · have hk8 := List.drop_eq_nil_iff.1 hd7
    have hfe11 : (decide (((k4 : Int) : Int) < (a_s.length : Int))) = false := decide_eq_false (by omega)
    rw [g_slices_IndexFunc_impl_Fact_impl_Fact_imatches1_L1] at hF
    refine K_region (C_val (V_lss (i := (k4 : Int)) (j := (a_s.length : Int)) (.tmp rfl rfl) (.tmp rfl rfl)) ?_)
    refine C_nil (K_in (CW_cond (b := (decide (((k4 : Int) : Int) < (a_s.length : Int)))) (.tmp rfl rfl) (fun hb => absurd (hfe11.symm.trans hb) (by decide)) (fun _ => ?_)))
    refine CW_exit ?_
    iterate 2 refine CThen_exit ?_
    refine CIn_self (K_region (C_val (V_assign (v := (.int .i64 (-1))) (.int _ _)) ?_))
    refine C_nil (CW_ret ?_)
    obtain rfl := Option.some.inj hF
    exact End_ret () (.tmp rfl rfl .nil) rfl (.sel .nil)
  obtain ⟨hk8, hx9, hd10⟩ := drop_cons hd7
  have hfe11 : (decide (((k4 : Int) : Int) < (a_s.length : Int))) = true := decide_eq_true (by omega)
  rw [g_slices_IndexFunc_impl_Fact_impl_Fact_imatches1_L1] at hF
  refine K_region (C_val (V_lss (i := (k4 : Int)) (j := (a_s.length : Int)) (.tmp rfl rfl) (.tmp rfl rfl)) ?_)
  refine C_nil (K_in (CW_cond (b := (decide (((k4 : Int) : Int) < (a_s.length : Int)))) (.tmp rfl rfl) (fun _ => ?_) (fun hb => absurd (hfe11.symm.trans hb) (by decide))))
  refine CW_skip (K_block (K_region (Cm (.int .i64 (k4 : Int)) rfl rfl ?_)))
  refine Ca (.int .i64 (k4 : Int)) rfl rfl ?_
  refine C_nil (K_region (Cm (.func (.func 223) [].toArray [(.pointer (some ⟨kc1, 0, some 0⟩)), (.pointer (some ⟨kc2, 0, some 0⟩))].toArray) rfl rfl ?_))
  refine Cm v0_0.v rfl rfl ?_
  refine Cm (.int .i64 (k4 : Int)) rfl rfl ?_
  refine C_idx (a := x6) sl40.h ty114.h.sz (.tmp rfl rfl) (.tmp rfl rfl) .h (Int.natCast_nonneg k4) hx9 (fun k13 j14 => ?_)
  refine C_ldA1 (ul114_0_114 x6) ag114.h ty114.h.sz rfl (.tmp rfl rfl) .h la114_0_114 (fun p15 => ?_)
  obtain ⟨r16, hx17, hF⟩ := bind_some hF
  refine C_x0 (.rd .h rfl (.rd (.t (.t (.t .h))) rfl (.rd (.t (.t (.t (.t .h)))) rfl (.rd (.t (.t (.t (.t (.t .h))))) rfl (.rd (.t (.t (.t (.t (.t (.t .h)))))) rfl .nil))))) (X_callCS cf223.h (.tmp rfl rfl) (.cons (.tmp rfl rfl) .nil) (i_matches_1_ok x6 p15 kc1 a_e1 vc1_1 kc2 a_e2 vc2_1 _ hx17)) (fun _ => ?_)
  refine C_nil (CW_cond (b := r16) (.tmp rfl rfl) (fun hb20 => ?_) (fun hb20 => ?_))
  · rw [if_pos hb20] at hF
    refine K_region (Cm (.int .i64 (k4 : Int)) rfl rfl ?_)
    refine Ca (.int .i64 (k4 : Int)) rfl rfl ?_
    refine C_nil (CW_ret ?_)
    obtain rfl := Option.some.inj hF
    exact End_ret () (.tmp rfl rfl .nil) rfl (.sel .nil)
  rw [if_neg (by rw [hb20]; exact Bool.false_ne_true)] at hF
  refine CW_skip (CW_region (C_val (V_add (i := (k4 : Int)) (j := 1) (.tmp rfl rfl) (.int _ _)) ?_))
  refine Cm (.int .i64 (IntKind.i64.wrap ((k4 : Int) + 1))) rfl rfl ?_
  refine C_nil ?_
  have hw19 : IntKind.i64.wrap ((k4 : Int) + 1) = ((k4 + 1 : Nat) : Int) := by rw [wrap_in (by omega) (by omega)]; rfl
  rw [hw19]
  exact ⟨_, Nat.lt_succ_self _, _, k4 + 1, rest5, rfl, (EqL.cons rfl (EqL.cons rfl (EqL.cons rfl (EqL.cons rfl (EqL.nil))))).eq, hd10, (.sel (.rd (.t (.t .h)) rfl (.rd (.t (.t (.t .h))) rfl (.rd (.t (.t (.t (.t .h)))) rfl (.rd (.t (.t (.t (.t (.t .h))))) rfl (.rd (.t (.t (.t (.t (.t (.t .h)))))) rfl .nil)))))), hF⟩

/-! impl.Fact] -/
def g_slices_DeleteFunc_impl_Fact_impl_Fact_imatches1 (a_s : List Fact) (a_e1 : Method) (a_e2 : Access) : Option (List Fact) :=
  delL (fun a_q => i_matches_1 a_q a_e1 a_e2) a_s
theorem g_slices_DeleteFunc_impl_Fact_impl_Fact_imatches1_sh (qs : List (Value × Fact)) (v : Sv) (F : List Nat) (kc1 : Nat) (a_e1 : Method) (vc1_1 : Sv) (kc2 : Nat) (a_e2 : Access) (vc2_1 : Sv) (p : Value × Fact → Bool) (hcl : ∀ q ∈ qs, i_matches_1 q.2 a_e1 a_e2 = some (p q)) (hidx : g_slices_IndexFunc_impl_Fact_impl_Fact_imatches1 (qs.map Prod.snd) a_e1 a_e2 = some (ixF p qs 0)) (hbd : qs.length < 4611686018427387904) :
    Fw.Spec Tryz.prog 221 [v.v, (.func (.func 223) [].toArray [(.pointer (some ⟨kc1, 0, some 0⟩)), (.pointer (some ⟨kc2, 0, some 0⟩))].toArray)] [cown (OwnS 114 (roE (rq rd114))) F v.v qs, cboR kc1 112 (.agg [(.int .i64 a_e1.Rel), vc1_1.v, (.int .i64 a_e1.Limit), (.int .i64 a_e1.Cost), (.int .i64 a_e1.Quota)].toArray), crd (RdS 3 rdInt) vc1_1.v a_e1.Inputs, cboR kc2 80 (.agg [(.int .i64 a_e2.Method), vc2_1.v].toArray), crd (RdS 3 rdInt) vc2_1.v a_e2.Values] (fun q : Sv × List Nat => q.1.v) (fun q => [cown (OwnS 114 (roE (rq rd114))) q.2 q.1.v (qs.filter fun a => !p a)]) := by
  refine Spec_enter (n := 42) Tryz.func221 rfl rfl (rs := [.tmp 4]) rfl rfl rfl ?_
  intro H0 F0
  refine K_region ?_
  refine C_val (V_assign (v := (.slice none 0 0)) EV.nilSlice) ?_
  refine C_nil ?_
  refine K_region ?_
  refine C_val (V_move (v := v.v) (.tmp rfl rfl)) ?_
  refine C_val (V_move (v := (.func (.func 223) [].toArray [(.pointer (some ⟨kc1, 0, some 0⟩)), (.pointer (some ⟨kc2, 0, some 0⟩))].toArray)) (.tmp rfl rfl)) ?_
  refine C_x1 (.cons .h (.rd .h rfl (.rd (.t .h) rfl (.rd (.t (.t .h)) rfl (.rd (.t (.t (.t .h))) rfl .nil))))) (XC_borR frz_rq (fun _ => .nil) (XC_pre (.rd (.t (.t (.t (.t .h)))) rfl (.rd .h rfl (.rd (.t .h) rfl (.rd (.t (.t .h)) rfl (.rd (.t (.t (.t .h))) rfl .nil))))) (X_callS cf195.h (.cons (.tmp rfl rfl) (.cons (.tmp rfl rfl) .nil)) (g_slices_IndexFunc_impl_Fact_impl_Fact_imatches1_ok (qs.map Prod.snd) v kc1 a_e1 vc1_1 kc2 a_e2 vc2_1 _ hidx)))) (fun _ => ?_)
  generalize hR : ixF p qs 0 = R0
  refine C_val (V_assign (v := (.int .i64 R0)) (.tmp rfl rfl)) ?_
  refine C_nil ?_
  refine K_in ?_
  refine K_region ?_
  refine C_val (V_move (v := (.int .i64 R0)) (.tmp rfl rfl)) ?_
  refine C_val (V_eql (i := R0) (j := (-1)) (.tmp rfl rfl) (.int _ _)) ?_
  refine C_nil ?_
  refine CW_cond (b := (R0 == (-1 : Int))) (.tmp rfl rfl) (fun hb => ?_) (fun hb => ?_)
  · refine K_region ?_
    refine C_val (V_move (v := v.v) (.tmp rfl rfl)) ?_
    refine C_val (V_assign (v := v.v) (.tmp rfl rfl)) ?_
    refine C_nil ?_
    refine CW_ret ?_
    have e : qs.filter (fun q => !p q) = qs := ixF_none (k := 0) (by rw [hR]; simpa using hb)
    rw [e]
    exact End_ret (v, F) (.tmp rfl rfl .nil) rfl (.sel (.cons .h .nil))
  refine CW_skip ?_
  obtain ⟨i0, hi0, hi1⟩ : ∃ i : Nat, R0 = (i : Int) ∧ i < qs.length := by
    rcases ixF_range p qs 0 with h | ⟨i, h, hi⟩
    · rw [hR] at h; subst h; simp at hb
    · exact ⟨i, by rw [← hR, h], by omega⟩
  subst hi0
  refine K_in ?_
  refine K_region ?_
  refine C_val (V_move (v := (.int .i64 (i0 : Int))) (.tmp rfl rfl)) ?_
  refine C_val (V_add (i := (i0 : Int)) (j := 1) (.tmp rfl rfl) (.int _ _)) ?_
  rw [show IntKind.i64.wrap ((i0 : Int) + 1) = ((i0 + 1 : Nat) : Int) from by rw [wrap_in (by omega) (by omega)]; rfl]
  refine C_val (V_assign (v := (.int .i64 ((i0 + 1 : Nat) : Int))) (.tmp rfl rfl)) ?_
  refine C_nil ?_
  refine CW_block ?_
  refine CW_loop (m := qs.length - (i0 + 1)) (fun m f' cs' => ∃ (g : Fr) (cur : List (Value × Fact)) (i j : Nat) (F' : List Nat), m = qs.length - j ∧ f' = updL g [(0, v.v), (1, (.func (.func 223) [].toArray [(.pointer (some ⟨kc1, 0, some 0⟩)), (.pointer (some ⟨kc2, 0, some 0⟩))].toArray)), (5, (.int .i64 (i : Int))), (6, (.int .i64 (j : Int)))] ∧ DelI p qs cur i j ∧ Ent cs' [cown (OwnS 114 (roE (rq rd114))) F' v.v cur, cboR kc1 112 (.agg [(.int .i64 a_e1.Rel), vc1_1.v, (.int .i64 a_e1.Limit), (.int .i64 a_e1.Cost), (.int .i64 a_e1.Quota)].toArray), crd (RdS 3 rdInt) vc1_1.v a_e1.Inputs, cboR kc2 80 (.agg [(.int .i64 a_e2.Method), vc2_1.v].toArray), crd (RdS 3 rdInt) vc2_1.v a_e2.Values]) ⟨_, qs, i0, i0 + 1, F, rfl, (EqL.cons rfl (EqL.cons rfl (EqL.cons rfl (EqL.cons rfl (EqL.nil))))).eq, DelI.init (by rw [hR]), .sel (.cons .h (.rd .h rfl (.rd (.t .h) rfl (.rd (.t (.t .h)) rfl (.rd (.t (.t (.t .h))) rfl .nil)))))⟩ ?_
  rintro m _ _ ⟨g, cur, i, j, F', rfl, rfl, hI, hE⟩
  refine K_ent hE ?_
  clear hE
  refine K_in ?_
  refine K_region ?_
  refine C_val (V_move (v := (.int .i64 (j : Int))) (.tmp rfl rfl)) ?_
  refine C_val (V_move (v := v.v) (.tmp rfl rfl)) ?_
  refine C_at .h (fun hp => V_lenR (l := cur.length) sl40.h (.tmp rfl rfl) (cown_len hp)) ?_
  refine C_val (V_lss (i := (j : Int)) (j := (cur.length : Int)) (.tmp rfl rfl) (.tmp rfl rfl)) ?_
  refine C_nil ?_
  have hlen := hI.len
  have hij := hI.lt
  have hjl := hI.le
  refine CW_cond (b := (decide ((j : Int) < (cur.length : Int)))) (.tmp rfl rfl) (fun hb2 => ?_) (fun hb2 => ?_)
  · refine CW_skip ?_
    have hj : j < qs.length := by simp at hb2; omega
    obtain ⟨x, hx1, hx2⟩ := hI.at hj
    refine K_block ?_
    refine K_region ?_
    refine C_val (V_move (v := v.v) (.tmp rfl rfl)) ?_
    refine C_val (V_move (v := (.int .i64 (j : Int))) (.tmp rfl rfl)) ?_
    refine C_idxO sl40.h ty114.h.sz (.tmp rfl rfl) (.tmp rfl rfl) .h (by simp; omega) (fun k hk => ?_)
    refine C_ldOW (a := x) (ul := fun i : Sv => [(.int .i64 x.2.Rel), i.v]) (cc := fun i => [crd (RdS 3 rdInt) i.v x.2.Values]) ag114.h ty114.h.sz rfl (.tmp rfl rfl) .h hk (by simpa using hx1) (fun H e h => by obtain ⟨-, v0, h1, h0⟩ := h; exact ⟨v0, h1, rfl, by simp [crd, h0]⟩) (fun w => ?_)
    refine C_new rfl (N_allocT (g := true) ty114.h rfl rfl) (fun k1 => ?_)
    refine C_x1 (.cons .h .nil) (X_storeB (e := (.agg [(.int .i64 0), (.slice none 0 0)].toArray)) (e' := (.agg [(.int .i64 x.2.Rel), w.v].toArray)) (v := (.agg [(.int .i64 x.2.Rel), w.v].toArray)) ty114.h.sz (.tmp rfl rfl) (.tmp rfl rfl) rfl rfl rfl rfl rfl) (fun _ => ?_)
    refine C_nil ?_
    refine K_region ?_
    refine C_val (V_move (v := (.func (.func 223) [].toArray [(.pointer (some ⟨kc1, 0, some 0⟩)), (.pointer (some ⟨kc2, 0, some 0⟩))].toArray)) (.tmp rfl rfl)) ?_
    refine C_at .h (fun hp => V_loadBox ag114.h ty114.h.sz rfl (.tmp rfl rfl) hp.2 rfl) ?_
    refine C_x0 (.rd (.t (.t .h)) rfl (.rd (.t (.t (.t (.t .h)))) rfl (.rd (.t (.t (.t (.t (.t .h))))) rfl (.rd (.t (.t (.t (.t (.t (.t .h)))))) rfl (.rd (.t (.t (.t (.t (.t (.t (.t .h))))))) rfl .nil))))) (X_callCS cf223.h (.tmp rfl rfl) (.cons (.tmp rfl rfl) .nil) (i_matches_1_ok x.2 w kc1 a_e1 vc1_1 kc2 a_e2 vc2_1 _ (hcl x (List.mem_of_getElem? hx2)))) (fun _ => ?_)
    refine C_val (V_not (b := p x) (.tmp rfl rfl)) ?_
    refine C_nil ?_
    refine CW_cond (b := (!p x)) (.tmp rfl rfl) (fun hb3 => ?_) (fun hb3 => ?_)
    · refine K_region ?_
      refine C_val (V_move (v := v.v) (.tmp rfl rfl)) ?_
      refine C_val (V_move (v := (.int .i64 (i : Int))) (.tmp rfl rfl)) ?_
      refine C_at .h (fun hp => V_loadBox ag114.h ty114.h.sz rfl (.tmp rfl rfl) hp.2 rfl) ?_
      have hii : (decide ((0 : Int) ≤ (i : Int)) && decide ((i : Int) < (cur.length : Int))) = true := by simp; omega
      refine C_idxO sl40.h ty114.h.sz (.tmp rfl rfl) (.tmp rfl rfl) (.t (.t (.t .h))) hii (fun k2 hk2 => ?_)
      refine C_x1 (.cons (.t (.t (.t .h))) (.rd (.t .h) rfl .nil)) (X_storeO (Ro := roE (rq rd114)) (a := x) (i := (i : Int)) ty114.h.sz rfl (.tmp rfl rfl) (.tmp rfl rfl) hk2 hii Mk_rd (fun _ _ _ _ h => by obtain ⟨-, -, v0, rfl, _⟩ := h; rfl)) (fun F2 => ?_)
      refine C_nil ?_
      refine CW_region ?_
      refine C_val (V_move (v := (.int .i64 (i : Int))) (.tmp rfl rfl)) ?_
      refine C_val (V_add (i := (i : Int)) (j := 1) (.tmp rfl rfl) (.int _ _)) ?_
      rw [show IntKind.i64.wrap ((i : Int) + 1) = ((i + 1 : Nat) : Int) from by rw [wrap_in (by omega) (by omega)]; rfl]
      refine C_val (V_assign (v := (.int .i64 ((i + 1 : Nat) : Int))) (.tmp rfl rfl)) ?_
      refine C_nil ?_
      refine CW_region ?_
      refine C_val (V_move (v := (.int .i64 (j : Int))) (.tmp rfl rfl)) ?_
      refine C_val (V_add (i := (j : Int)) (j := 1) (.tmp rfl rfl) (.int _ _)) ?_
      rw [show IntKind.i64.wrap ((j : Int) + 1) = ((j + 1 : Nat) : Int) from by rw [wrap_in (by omega) (by omega)]; rfl]
      refine C_val (V_assign (v := (.int .i64 ((j + 1 : Nat) : Int))) (.tmp rfl rfl)) ?_
      refine C_nil ?_
      exact ⟨_, by omega, _, cur.set i x, i + 1, j + 1, F2, rfl, (EqL.cons rfl (EqL.cons rfl (EqL.cons rfl (EqL.cons rfl (EqL.nil))))).eq, hI.no hx2 (by simpa using hb3), .sel (.cons .h (.rd (.t (.t (.t .h))) rfl (.rd (.t (.t (.t (.t .h)))) rfl (.rd (.t (.t (.t (.t (.t .h))))) rfl (.rd (.t (.t (.t (.t (.t (.t .h)))))) rfl .nil)))))⟩
    · refine CW_skip ?_
      refine CW_region ?_
      refine C_val (V_move (v := (.int .i64 (j : Int))) (.tmp rfl rfl)) ?_
      refine C_val (V_add (i := (j : Int)) (j := 1) (.tmp rfl rfl) (.int _ _)) ?_
      rw [show IntKind.i64.wrap ((j : Int) + 1) = ((j + 1 : Nat) : Int) from by rw [wrap_in (by omega) (by omega)]; rfl]
      refine C_val (V_assign (v := (.int .i64 ((j + 1 : Nat) : Int))) (.tmp rfl rfl)) ?_
      refine C_nil ?_
      exact ⟨_, by omega, _, cur, i, j + 1, F', rfl, (EqL.cons rfl (EqL.cons rfl (EqL.cons rfl (EqL.cons rfl (EqL.nil))))).eq, hI.yes hx2 (by simpa using hb3), .sel (.cons (.t (.t (.t .h))) (.rd (.t (.t (.t .h))) rfl (.rd (.t (.t (.t (.t .h)))) rfl (.rd (.t (.t (.t (.t (.t .h))))) rfl (.rd (.t (.t (.t (.t (.t (.t .h)))))) rfl .nil)))))⟩
  · refine CW_exit ?_
    refine CThen_exit ?_
    refine CThen_exit ?_
    refine CIn_self ?_
    have hj : qs.length ≤ j := by simp at hb2; omega
    refine K_pure .h (own_form (by intro e; rw [e] at hlen; simp at hlen; omega)) (fun hv => ?_)
    obtain ⟨k0, m0, rfl, hm0⟩ := hv
    refine K_region ?_
    refine C_val (V_move (v := (.slice (some ⟨k0, 0, none⟩) cur.length m0)) (.tmp rfl rfl)) ?_
    refine C_val (V_move (v := (.int .i64 (i : Int))) (.tmp rfl rfl)) ?_
    refine C_sliceLo sl40.h ty114.h.sz (.tmp rfl rfl) (.tmp rfl rfl) .h (by omega) (by omega) ?_
    refine C_x1 (.cons .h .nil) (X_clear (l := cur.length) (m := m0) (k := k0) (i := i) (j := cur.length - i) sl40.h ty114.h rfl rfl rfl rfl rfl (by omega) (.tmp rfl rfl)) (fun _ => ?_)
    refine C_nil ?_
    refine K_region ?_
    refine C_val (V_move (v := (.slice (some ⟨k0, 0, none⟩) cur.length m0)) (.tmp rfl rfl)) ?_
    refine C_val (V_move (v := (.int .i64 (i : Int))) (.tmp rfl rfl)) ?_
    refine C_sliceHi sl40.h ty114.h.sz (.tmp rfl rfl) hm0 (.tmp rfl rfl) .h rfl (by omega) (by omega) (by omega) ?_
    refine C_val (V_assign (v := (.slice (some ⟨k0, 0, none⟩) i 2)) (.tmp rfl rfl)) ?_
    refine C_nil ?_
    refine CW_ret ?_
    rw [← hI.fin hj]
    exact End_ret (⟨some ⟨k0, 0, none⟩, i, 2⟩, F') (.tmp rfl rfl .nil) rfl (.sel (.cons .h .nil))
theorem g_slices_DeleteFunc_impl_Fact_impl_Fact_imatches1_ok (a_s : List Fact) (v0_0 : Sv) (F0_0 : List Nat) (kc1 : Nat) (a_e1 : Method) (vc1_1 : Sv) (kc2 : Nat) (a_e2 : Access) (vc2_1 : Sv) (R : List Fact) (hF : g_slices_DeleteFunc_impl_Fact_impl_Fact_imatches1 a_s a_e1 a_e2 = some R) :
    Fw.Spec Tryz.prog 221 [v0_0.v, (.func (.func 223) [].toArray [(.pointer (some ⟨kc1, 0, some 0⟩)), (.pointer (some ⟨kc2, 0, some 0⟩))].toArray)] [cown (OwnS 114 ow114) F0_0 v0_0.v a_s, cboR kc1 112 (.agg [(.int .i64 a_e1.Rel), vc1_1.v, (.int .i64 a_e1.Limit), (.int .i64 a_e1.Cost), (.int .i64 a_e1.Quota)].toArray), crd (RdS 3 rdInt) vc1_1.v a_e1.Inputs, cboR kc2 80 (.agg [(.int .i64 a_e2.Method), vc2_1.v].toArray), crd (RdS 3 rdInt) vc2_1.v a_e2.Values] (fun p : Sv × List Nat => p.1.v) (fun p => [cown (OwnS 114 ow114) p.2 p.1.v R]) := by
  unfold g_slices_DeleteFunc_impl_Fact_impl_Fact_imatches1 at hF
  obtain ⟨h1, h2⟩ := delL_some hF
  refine Spec_pure cown_bound (fun hb => ?_)
  refine Spec_deep (R := rd114) rfl (fun es F1 hel => ⟨(es.zip a_s).filter (fun a => !(i_matches_1 a.2 a_e1 a_e2).getD false), List.filter_sublist, by rw [h2]; exact zip_filter (fun a => (i_matches_1 a a_e1 a_e2).getD false) es a_s hel, ?_⟩)
  refine g_slices_DeleteFunc_impl_Fact_impl_Fact_imatches1_sh (es.zip a_s) v0_0 F1 kc1 a_e1 vc1_1 kc2 a_e2 vc2_1 (fun a => (i_matches_1 a.2 a_e1 a_e2).getD false) (fun q hq => h1 q.2 (List.of_mem_zip hq).2) ?_ (by simp; omega)
  rw [List.map_snd_zip (Nat.le_of_eq hel.symm), ← ixF_map Prod.snd (fun a => (i_matches_1 a a_e1 a_e2).getD false), List.map_snd_zip (Nat.le_of_eq hel.symm)]
  exact index_loop (L := g_slices_IndexFunc_impl_Fact_impl_Fact_imatches1_L1 a_e1 a_e2) (fun _ => rfl) (fun _ _ _ => rfl) a_s 0 h1

/-! impl.matches -/
def i_matches (a_l : List Method) (a_facts : List Fact) (a_a : Access) : Option ((List Fact)) :=
  (ix a_l a_a.Method).bind fun x2 =>
  (i_copyFacts a_facts).bind fun r13 =>
  (g_slices_DeleteFunc_impl_Fact_impl_Fact_imatches1 r13 x2 a_a).bind fun r16 =>
  some r16
theorem i_matches_ok (a_l : List Method) (v0_0 : Sv) (a_facts : List Fact) (v1_0 : Sv) (a_a : Access) (v2_1 : Sv) (R : (List Fact)) (hF : i_matches a_l a_facts a_a = some R) :
    Fw.Spec Tryz.prog 181 [v0_0.v, v1_0.v, (.agg [(.int .i64 a_a.Method), v2_1.v].toArray)] [crd (RdS 112 rd112) v0_0.v a_l, crd (RdS 114 rd114) v1_0.v a_facts, crd (RdS 3 rdInt) v2_1.v a_a.Values] (fun p : Sv × List Nat => p.1.v) (fun p => [cown (OwnS 114 ow114) p.2 p.1.v R]) := by
  refine Spec_enter (n := 17) Tryz.func181 rfl rfl (rs := [.tmp 6]) rfl rfl rfl ?_
  intro H0 F0
  unfold i_matches at hF
  refine au ?_
  refine C_newR rfl (N_box (g := false) (v := (.agg [(.int .i64 a_a.Method), v2_1.v].toArray)) ty80.h.sz (.tmp rfl rfl) rfl) (fun k1 => ?_)
  iterate 6 refine au ?_
  obtain ⟨x2, hx3, hF⟩ := bind_some hF
  obtain ⟨hp4, hx5⟩ := ix_some hx3
  refine C_idx (a := x2) sl38.h ty112.h.sz (.tmp rfl rfl) (.tmp rfl rfl) (.t .h) hp4 hx5 (fun k6 j7 => ?_)
  refine C_ldA1 (ul112_0_112 x2) ag112.h ty112.h.sz rfl (.tmp rfl rfl) .h la112_0_112 (fun p8 => ?_)
  refine C_new rfl (N_allocT (g := true) ty112.h rfl rfl) (fun k9 => ?_)
  refine C_x1 (.cons .h .nil) (X_storeB (e' := (.agg [(.int .i64 x2.Rel), p8.v, (.int .i64 x2.Limit), (.int .i64 x2.Cost), (.int .i64 x2.Quota)].toArray)) (v := (.agg [(.int .i64 x2.Rel), p8.v, (.int .i64 x2.Limit), (.int .i64 x2.Cost), (.int .i64 x2.Quota)].toArray)) ty112.h.sz (.tmp rfl rfl) (.tmp rfl rfl) rfl rfl rfl rfl rfl) (fun _ => ?_)
  refine au ?_
  refine K_frz .h frz_blk ?_
  iterate 2 refine au ?_
  obtain ⟨r13, hx14, hF⟩ := bind_some hF
  refine C_x1 (.rd (.t (.t (.t (.t (.t .h))))) rfl .nil) (X_callS cf222.h (.cons (.tmp rfl rfl) .nil) (i_copyFacts_ok a_facts v1_0 _ hx14)) (fun p15 => ?_)
  refine C_val (V_makeFunc (fn := .func 223) (vs := []) (us := [(.pointer (some ⟨k9, 0, some 0⟩)), (.pointer (some ⟨k1, 0, some 0⟩))]) .nil (.cons (.tmp rfl rfl) (.cons (.tmp rfl rfl) .nil))) ?_
  obtain ⟨r16, hx17, hF⟩ := bind_some hF
  refine C_x1 (.cons .h (.rd .h rfl (.rd (.t .h) rfl (.rd (.t (.t (.t .h))) rfl (.rd (.t (.t (.t (.t (.t (.t .h)))))) rfl .nil))))) (X_callS cf221.h (.cons (.tmp rfl rfl) (.cons (.tmp rfl rfl) .nil)) (g_slices_DeleteFunc_impl_Fact_impl_Fact_imatches1_ok r13 p15.1 p15.2 k9 x2 p8 k1 a_a v2_1 _ hx17)) (fun p18 => ?_)
  iterate 3 refine au ?_
  obtain rfl := Option.some.inj hF
  exact End_ret (p18.1, p18.2) (.tmp rfl rfl .nil) rfl (.sel (.cons .h .nil))

/-! impl.isTime -/
def i_isTime (a_t : Int) : Option (Bool) :=
  (i_within a_t 0 10000).bind fun r1 =>
  some r1
theorem i_isTime_ok (a_t : Int) (R : Bool) (hF : i_isTime a_t = some R) :
    Fw.Spec Tryz.prog 106 [(.int .i64 a_t)] [] (fun _ : Unit => (.bool R)) (fun _ => []) := by
  refine Spec_enter (n := 5) Tryz.func106 rfl rfl (rs := [.tmp 2]) rfl rfl rfl ?_
  intro H0 F0
  unfold i_isTime at hF
  iterate 5 refine au ?_
  obtain ⟨r1, hx2, hF⟩ := bind_some hF
  refine Cx0 (i_within_ok _ _ _ _ hx2) (fun _ => ?_)
  iterate 3 refine au ?_
  cases hF
  exact Er ()

/-! impl.isStored -/
def i_isStored (a_s : List Int) (a_l : List Method) (a_x : Stored) : Option (Bool) :=
  ((i_IsAccess a_s a_l a_x.Access).bind fun r4 =>
    bif r4 then ((i_AreFacts a_s a_x.Facts).bind fun r8 =>
      bif r8 then ((i_matches a_l a_x.Facts a_x.Access).bind fun r12 =>
        bif (((r12.length : Int) : Int) == (a_x.Facts.length : Int)) then ((i_isTime a_x.At).bind fun r16 =>
          some r16)
        else (some false))
      else (some false))
    else (some false)).bind fun o2 =>
  match o2 with
  | c19 => some c19
theorem i_isStored_ok (a_s : List Int) (v0_0 : Sv) (a_l : List Method) (v1_0 : Sv) (a_x : Stored) (v2_1 : Sv) (v2_2 : Sv) (R : Bool) (hF : i_isStored a_s a_l a_x = some R) :
    Fw.Spec Tryz.prog 154 [v0_0.v, v1_0.v, (.agg [(.int .i64 a_x.Access.Method), v2_1.v, v2_2.v, (.int .i64 a_x.At)].toArray)] [crd (RdS 3 rdInt) v0_0.v a_s, crd (RdS 112 rd112) v1_0.v a_l, crd (RdS 3 rdInt) v2_1.v a_x.Access.Values, crd (RdS 114 rd114) v2_2.v a_x.Facts] (fun _ : Unit => (.bool R)) (fun _ => []) := by
  refine Spec_enter (n := 36) Tryz.func154 rfl rfl (rs := [.tmp 6]) rfl rfl rfl ?_
  intro H0 F0
  unfold i_isStored at hF
  refine au ?_
  refine AbR (fun k1 => ?_)
  iterate 2 refine au ?_
  obtain ⟨o2, hio2, hO3⟩ := bind_some hF
  refine K_draw [0, 1, 2, 3, 4, 5, 6, 7, 8, 9, 10, 11, 12, 13, 14, 15, 16, 19, 20, 21, 17, 18, 22, 23, 24, 25, 26, 27, 28, 29] [0, 0, 0, 4, 15, 31, 63, 63, 191, 511, 1023, 2047, 4095, 4095, 12287, 4095, 36863, 131071, 262143, 4095, 528383, 1576959, 4194303, 8388607, 16777215, 33554431, 67108863, 134217727, 268435455, 536870911] [4, 9, 17, 27] mixed (by decide +kernel) ?_
  refine D_cut (fun f' cs' => ∃ (c19 : Bool) (g : Fr), c19 = o2 ∧ f' = updL g [(6, (.bool c19))] ∧ Ent cs' []) ?_ ?_
  · replace hF := hio2
    iterate 3 refine du ?_
    refine D_at rfl .no .h rfl (fun ha hp => V_loadA (s := 2) (l := [(.int .i64 a_x.Access.Method), v2_1.v]) ag80.h ty80.h.sz (EN ha (.tmp rfl rfl) rfl) hp.2 rfl (by decide) (Nat.le_of_ble_eq_true rfl) rfl) ?_
    obtain ⟨r4, hx5, hF⟩ := bind_some hF
    refine Dx0 (i_IsAccess_ok _ _ _ _ _ _ _ hx5) (fun _ => ?_)
    refine du ?_
    rcases Bool.eq_false_or_eq_true r4 with hg7 | hg7
    · rw [hg7]
      try rw [hg7] at hF; dsimp only [cond_true, cond_false] at hF
      iterate 3 refine du ?_
      obtain ⟨r8, hx9, hF⟩ := bind_some hF
      refine Dx0 (i_AreFacts_ok _ _ _ _ _ hx9) (fun _ => ?_)
      iterate 2 refine du ?_
      rcases Bool.eq_false_or_eq_true r8 with hg11 | hg11
      · rw [hg11]
        try rw [hg11] at hF; dsimp only [cond_true, cond_false] at hF
        iterate 4 refine du ?_
        refine D_at rfl (.on 18 rfl rfl rfl) .h rfl (fun ha hp => V_loadA (s := 2) (l := [(.int .i64 a_x.Access.Method), v2_1.v]) ag80.h ty80.h.sz (EN ha (.tmp rfl rfl) rfl) hp.2 rfl (by decide) (Nat.le_of_ble_eq_true rfl) rfl) ?_
        iterate 3 refine du ?_
        obtain ⟨r12, hx13, hF⟩ := bind_some hF
        refine Dx1 (i_matches_ok _ _ _ _ _ _ _ hx13) (fun p14 => ?_)
        refine D_atO rfl (.on 18 rfl rfl rfl) .h (fun ha hp => V_lenR (l := r12.length) sl40.h (EN ha (.tmp rfl rfl) rfl) (cown_len hp)) ?_
        iterate 3 refine du ?_
        rcases Bool.eq_false_or_eq_true (((r12.length : Int) : Int) == (a_x.Facts.length : Int)) with hg15 | hg15
        · rw [hg15]
          try rw [hg15] at hF; dsimp only [cond_true, cond_false] at hF
          iterate 2 refine du ?_
          obtain ⟨r16, hx17, hF⟩ := bind_some hF
          refine Dx0 (i_isTime_ok _ _ hx17) (fun _ => ?_)
          iterate 3 refine du ?_
          cases hF
          exact ⟨_, _, rfl, eqA, entA⟩
        rw [hg15]
        try rw [hg15] at hF; dsimp only [cond_true, cond_false] at hF
        iterate 6 refine du ?_
        cases hF
        exact ⟨_, _, rfl, eqA, entA⟩
      rw [hg11]
      try rw [hg11] at hF; dsimp only [cond_true, cond_false] at hF
      iterate 19 refine du ?_
      cases hF
      exact ⟨_, _, rfl, eqA, entA⟩
    rw [hg7]
    try rw [hg7] at hF; dsimp only [cond_true, cond_false] at hF
    iterate 25 refine du ?_
    cases hF
    exact ⟨_, _, rfl, eqA, entA⟩
  rintro _ _ ⟨c19, g20, rfl, rfl, hE⟩
  replace hF := hO3
  clear hO3
  try dsimp only at hF
  refine K_ent hE ?_
  refine au ?_
  cases hF
  exact Er ()

/-! impl.compareAccesses -/
def i_compareAccesses (a_a : Access) (a_b : Access) : Option (Int) :=
  (g_cmp_Compare_int a_a.Method a_b.Method).bind fun r3 =>
  (g_slices_Compare_int_int a_a.Values a_b.Values).bind fun r6 =>
  (g_cmp_Or_int ([r3, r6] : List Int)).bind fun r10 =>
  some r10
theorem i_compareAccesses_ok (a_a : Access) (v0_1 : Sv) (a_b : Access) (v1_1 : Sv) (R : Int) (hF : i_compareAccesses a_a a_b = some R) :
    Fw.Spec Tryz.prog 155 [(.agg [(.int .i64 a_a.Method), v0_1.v].toArray), (.agg [(.int .i64 a_b.Method), v1_1.v].toArray)] [crd (RdS 3 rdInt) v0_1.v a_a.Values, crd (RdS 3 rdInt) v1_1.v a_b.Values] (fun _ : Unit => (.int .i64 R)) (fun _ => []) := by
  refine Spec_enter (n := 17) Tryz.func155 rfl rfl (rs := [.tmp 4]) rfl rfl rfl ?_
  intro H0 F0
  unfold i_compareAccesses at hF
  refine au ?_
  refine AbR (fun k1 => ?_)
  refine AbR (fun k2 => ?_)
  iterate 2 refine au ?_
  refine K_draw [0, 1, 2, 3, 5, 6, 7, 8, 4, 9, 10, 11, 12] [0, 1, 0, 4, 15, 0, 32, 0, 128, 511, 1023, 2047, 4095] [4, 9, 11] mixed (by decide +kernel) ?_
  iterate 8 refine du ?_
  obtain ⟨r3, hx4, hF⟩ := bind_some hF
  refine Dx0 (g_cmp_Compare_int_ok _ _ _ hx4) (fun _ => ?_)
  obtain ⟨r6, hx7, hF⟩ := bind_some hF
  refine Dx0 (g_slices_Compare_int_int_ok _ _ _ _ _ hx7) (fun _ => ?_)
  refine D_new rfl .no rfl (fun ha => N_buildSliceT (g := true) (len := 2) (parts := [(0, .tmp 9), (1, .tmp 14)]) sl22.h ty3.h (.cons (EN ha (.tmp rfl rfl) rfl) (.cons (EN ha (.tmp rfl rfl) rfl) .nil)) (vs := [(.int .i64 r3), (.int .i64 r6)]) rfl rfl rfl (by intro v hv; simp at hv; rcases hv with rfl | rfl <;> rfl)) (fun k9 => ?_)
  refine Dv1 (.cons .h .nil) (own_lit (Ro := (roE rdInt)) (E := 3) (F := ([] ++ ([] ++ []))) (xs := ([r3, r6] : List Int)) (MkL_cons (Mk_pure (fun _ => rfl)) (MkL_cons (Mk_pure (fun _ => rfl)) MkL_nil apps) apps) rfl rfl) ?_
  obtain ⟨r10, hx11, hF⟩ := bind_some hF
  refine D_act1 rfl rfl .no (.cons .h .nil) (.dep rfl .nil) (fun ha => XC_bor frz_own (fun _ => .nil) (X_callS cf176.h (.cons (EN ha (.tmp rfl rfl) rfl) .nil) (g_cmp_Or_int_ok ([r3, r6] : List Int) (⟨(some ⟨k9, 0, none⟩), 2, 1⟩) _ hx11))) (fun _ => ?_)
  iterate 2 refine du ?_
  refine au ?_
  cases hF
  exact Er ()

/-! impl.IsCache -/
def i_IsCache_L1 (a_s : List Int) (a_l : List Method) (a_c : Cache) : List Stored → Nat → Option (Bool)
  | [], k5 => ((i_AreMethods a_s a_l).bind fun r16 =>
      bif r16 then ((i_within a_c.Age 0 100).bind fun r20 =>
        bif r20 then (some (decide (((a_c.Entries.length : Int) : Int) ≤ 100)))
        else (some false))
      else (some false)).bind fun o14 =>
    match o14 with
    | c24 => some c24
  | x7 :: rest6, k5 => ((i_isStored a_s a_l x7).bind fun r32 =>
      bif (!r32) then (some true)
      else (bif (decide ((0 : Int) < (k5 : Int))) then ((ix a_c.Entries (IntKind.i64.wrap ((k5 : Int) - 1))).bind fun x37 =>
          (i_compareAccesses x37.Access x7.Access).bind fun r44 =>
          some (decide ((0 : Int) ≤ r44)))
        else (some false))).bind fun o30 =>
    match o30 with
    | c47 => if c47 then (
        some false)
      else (
        i_IsCache_L1 a_s a_l a_c rest6 (k5 + 1))
def i_IsCache (a_s : List Int) (a_l : List Method) (a_c : Cache) : Option (Bool) :=
  i_IsCache_L1 a_s a_l a_c a_c.Entries 0
theorem i_IsCache_ok (a_s : List Int) (v0_0 : Sv) (a_l : List Method) (v1_0 : Sv) (a_c : Cache) (v2_0 : Sv) (R : Bool) (hF : i_IsCache a_s a_l a_c = some R) :
    Fw.Spec Tryz.prog 105 [v0_0.v, v1_0.v, (.agg [v2_0.v, (.int .i64 a_c.Age)].toArray)] [crd (RdS 3 rdInt) v0_0.v a_s, crd (RdS 112 rd112) v1_0.v a_l, crd (RdS 82 rd82) v2_0.v a_c.Entries] (fun _ : Unit => (.bool R)) (fun _ => []) := by
  refine Spec_enter (n := 54) Tryz.func105 rfl rfl (rs := [.tmp 6]) rfl rfl rfl ?_
  intro H0 F0
  unfold i_IsCache at hF
  refine au ?_
  refine AbR (fun k1 => ?_)
  iterate 9 refine au ?_
  refine CW_block (CW_loop (m := a_c.Entries.length) (fun m3 f' cs' => ∃ (g : Fr) (k5 : Nat) (rest6 : List Stored), m3 = rest6.length ∧ f' = updL g [(0, v0_0.v), (1, v1_0.v), (5, (.pointer (some ⟨k1, 0, some 0⟩))), (10, v2_0.v), (11, (.int .i64 (a_c.Entries.length : Int))), (12, (.int .i64 (k5 : Int)))] ∧ List.drop k5 a_c.Entries = rest6 ∧ Ent cs' [crd (RdS 3 rdInt) v0_0.v a_s, crd (RdS 112 rd112) v1_0.v a_l, cboR k1 45 (.agg [v2_0.v, (.int .i64 a_c.Age)].toArray), crd (RdS 82 rd82) v2_0.v a_c.Entries] ∧ i_IsCache_L1 a_s a_l a_c rest6 k5 = some R) ⟨_, 0, _, rfl, eqA, rfl, entA, hF⟩ ?_)
  clear hF
  rintro m3 _ _ ⟨g4, k5, rest6, rfl, rfl, hd8, hE, hF⟩
  refine K_ent hE ?_
  clear hE
  refine K_pure (c := crd (RdS 82 rd82) v2_0.v a_c.Entries) (.t (.t (.t .h))) crd_bound (fun hbd13 => ?_)
  rcases rest6 with _ | ⟨x7, rest6⟩
  · have hk9 := List.drop_eq_nil_iff.1 hd8
    rw [i_IsCache_L1] at hF
    iterate 4 refine au ?_
    refine CdF ?_
    iterate 4 refine au ?_
    obtain ⟨o14, hio14, hO15⟩ := bind_some hF
    refine au ?_
    refine C_cut (fun f' cs' => ∃ (c24 : Bool) (g : Fr), c24 = o14 ∧ f' = updL g [(6, (.bool c24))] ∧ Ent cs' []) ?_ ?_
    · replace hF := hio14
      iterate 2 refine au ?_
      obtain ⟨r16, hx17, hF⟩ := bind_some hF
      refine Cx0 (i_AreMethods_ok _ _ _ _ _ hx17) (fun _ => ?_)
      refine au ?_
      rcases Bool.eq_false_or_eq_true r16 with hg19 | hg19
      · rw [hg19]
        try rw [hg19] at hF; dsimp only [cond_true, cond_false] at hF
        iterate 5 refine au ?_
        obtain ⟨r20, hx21, hF⟩ := bind_some hF
        refine Cx0 (i_within_ok _ _ _ _ hx21) (fun _ => ?_)
        iterate 2 refine au ?_
        rcases Bool.eq_false_or_eq_true r20 with hg23 | hg23
        · rw [hg23]
          try rw [hg23] at hF; dsimp only [cond_true, cond_false] at hF
          iterate 11 refine au ?_
          cases hF
          exact ⟨_, _, rfl, eqA, entA⟩
        rw [hg23]
        try rw [hg23] at hF; dsimp only [cond_true, cond_false] at hF
        iterate 7 refine au ?_
        cases hF
        exact ⟨_, _, rfl, eqA, entA⟩
      rw [hg19]
      try rw [hg19] at hF; dsimp only [cond_true, cond_false] at hF
      iterate 12 refine au ?_
      cases hF
      exact ⟨_, _, rfl, eqA, entA⟩
    rintro _ _ ⟨c24, g25, rfl, rfl, hE⟩
    replace hF := hO15
    clear hO15
    try dsimp only at hF
    refine K_ent hE ?_
    refine au ?_
    cases hF
    exact Er ()
  obtain ⟨hk9, hx10, hd11⟩ := drop_cons hd8
  rw [i_IsCache_L1] at hF
  iterate 4 refine au ?_
  refine CdT ?_
  iterate 4 refine au ?_
  refine Ai hx10 (fun k26 j27 => ?_)
  refine AlA2 (ul82_0_82 x7) la82_0_82 (fun p28 => ?_)
  refine AnW (fun k29 => ?_)
  refine au ?_
  refine As (.agg [(.int .i64 x7.Access.Method), p28.1.v, p28.2.v, (.int .i64 x7.At)].toArray) ?_
  refine au ?_
  obtain ⟨o30, hio30, hO31⟩ := bind_some hF
  refine K_draw [0, 1, 2, 3, 4, 5, 6, 7, 8, 9, 10, 11, 12, 13, 14, 15, 16, 17, 18, 19, 20, 21] [0, 0, 0, 7, 15, 31, 63, 127, 255, 511, 1023, 511, 2559, 8191, 16383, 32767, 511, 66047, 262143, 524287, 1048575, 2097151] [3, 18] mixed (by decide +kernel) ?_
  refine D_cut (fun f' cs' => ∃ (c47 : Bool) (g : Fr), c47 = o30 ∧ f' = updL g [(0, v0_0.v), (1, v1_0.v), (5, (.pointer (some ⟨k1, 0, some 0⟩))), (10, v2_0.v), (11, (.int .i64 (a_c.Entries.length : Int))), (12, (.int .i64 (k5 : Int))), (38, (.bool c47))] ∧ Ent cs' [crd (RdS 3 rdInt) v0_0.v a_s, crd (RdS 112 rd112) v1_0.v a_l, cboR k1 45 (.agg [v2_0.v, (.int .i64 a_c.Age)].toArray), crd (RdS 82 rd82) v2_0.v a_c.Entries]) ?_ ?_
  · replace hF := hio30
    iterate 2 refine du ?_
    refine D_atO rfl .no .h (fun ha hp => V_loadBox ag82.h ty82.h.sz rfl (EN ha (.tmp rfl rfl) rfl) hp.2 rfl) ?_
    obtain ⟨r32, hx33, hF⟩ := bind_some hF
    refine Dx0 (i_isStored_ok _ _ _ _ _ _ _ _ hx33) (fun _ => ?_)
    iterate 2 refine du ?_
    rcases Bool.eq_false_or_eq_true (!r32) with hg35 | hg35
    · rw [hg35]
      try rw [hg35] at hF; dsimp only [cond_true, cond_false] at hF
      iterate 17 refine du ?_
      cases hF
      exact ⟨_, _, rfl, eqA, entA⟩
    rw [hg35]
    try rw [hg35] at hF; dsimp only [cond_true, cond_false] at hF
    iterate 3 refine du ?_
    rcases Bool.eq_false_or_eq_true (decide ((0 : Int) < (k5 : Int))) with hg36 | hg36
    · rw [hg36]
      try rw [hg36] at hF; dsimp only [cond_true, cond_false] at hF
      iterate 4 refine du ?_
      obtain ⟨x37, hx38, hF⟩ := bind_some hF
      obtain ⟨hp39, hx40⟩ := ix_some hx38
      refine Di hx40 (fun k41 j42 => ?_)
      refine du ?_
      refine DlA1 (ul82_0_80 x37) la82_0_80 (fun p43 => ?_)
      refine du ?_
      refine D_atO rfl (.on 25 rfl rfl rfl) (.t (.t .h)) (fun ha hp => V_loadA (s := 2) (l := [(.int .i64 x7.Access.Method), p28.1.v]) ag80.h ty80.h.sz (EN ha (.tmp rfl rfl) rfl) hp.2 rfl (by decide) (Nat.le_of_ble_eq_true rfl) rfl) ?_
      obtain ⟨r44, hx45, hF⟩ := bind_some hF
      refine Dx0 (i_compareAccesses_ok _ _ _ _ _ hx45) (fun _ => ?_)
      iterate 4 refine du ?_
      cases hF
      exact ⟨_, _, rfl, eqA, entA⟩
    rw [hg36]
    try rw [hg36] at hF; dsimp only [cond_true, cond_false] at hF
    iterate 14 refine du ?_
    cases hF
    exact ⟨_, _, rfl, eqA, entA⟩
  rintro _ _ ⟨c47, g50, rfl, rfl, hE⟩
  replace hF := hO31
  clear hO31
  try dsimp only at hF
  refine K_ent hE ?_
  refine Cc (fun hb49 => ?_) (fun hb49 => ?_)
  · rw [if_pos hb49] at hF
    iterate 4 refine au ?_
    cases hF
    exact Er ()
  rw [if_neg (nt hb49)] at hF
  iterate 5 refine au ?_
  rw [wk k5]
  exact ⟨_, Nat.lt_succ_self _, _, k5 + 1, rest6, rfl, eqA, hd11, entA, hF⟩

/-! impl.IsMediator$1 -/
def i_IsMediator_1 (a_a : Access) (a_e1 : Mediator) : Option (Bool) :=
  (i_IsAccess a_e1.Schema a_e1.Methods a_a).bind fun r2 =>
  some (!r2)
theorem i_IsMediator_1_ok (a_a : Access) (v0_1 : Sv) (kc1 : Nat) (a_e1 : Mediator) (vc1_0 : Sv) (vc1_1 : Sv) (vc1_2 : Sv) (vc1_3 : Sv) (vc1_5 : Sv) (vc1_8 : Sv) (vc1_9 : Sv) (vc1_11 : Sv) (R : Bool) (hF : i_IsMediator_1 a_a a_e1 = some R) :
    Fw.Spec Tryz.prog 108 [(.agg [(.int .i64 a_a.Method), v0_1.v].toArray), (.pointer (some ⟨kc1, 0, some 0⟩))] [crd (RdS 3 rdInt) v0_1.v a_a.Values, cboR kc1 48 (.agg [vc1_0.v, vc1_1.v, vc1_2.v, vc1_3.v, (.int .i64 a_e1.Source.Version), vc1_5.v, (.int .i64 a_e1.Cache.Age), (.int .i64 a_e1.Now), vc1_8.v, vc1_9.v, (.int .i64 a_e1.Spent), vc1_11.v].toArray), crd (RdS 3 rdInt) vc1_0.v a_e1.Schema, crd (RdS 112 rd112) vc1_1.v a_e1.Methods, crd (RdS 148 rd148) vc1_2.v a_e1.Rules, crd (RdS 114 rd114) vc1_3.v a_e1.Source.Facts, crd (RdS 82 rd82) vc1_5.v a_e1.Cache.Entries, crd (RdS 80 rd80) vc1_8.v a_e1.Log, crd (RdS 3 rdInt) vc1_9.v a_e1.Times, crd (RdS 139 (RdS 22 (RdS 3 rdInt))) vc1_11.v a_e1.Results] (fun _ : Unit => (.bool R)) (fun _ => []) := by
  refine Spec_enter (n := 11) Tryz.func108 rfl rfl (rs := [.tmp 3]) rfl rfl rfl ?_
  intro H0 F0
  unfold i_IsMediator_1 at hF
  refine au ?_
  refine AbR (fun k1 => ?_)
  iterate 8 refine au ?_
  obtain ⟨r2, hx3, hF⟩ := bind_some hF
  refine Cx0 (i_IsAccess_ok _ _ _ _ _ _ _ hx3) (fun _ => ?_)
  iterate 4 refine au ?_
  cases hF
  exact Er ()

/-! impl.Access] -/
def g_slices_IndexFunc_impl_Access_impl_Access_iIsMediator1_L1 (a_e1 : Mediator) : List Access → Nat → Option (Int)
  | [], k4 => some (-1)
  | x6 :: rest5, k4 => (i_IsMediator_1 x6 a_e1).bind fun r16 =>
    if r16 then (
      some (k4 : Int))
    else (
      g_slices_IndexFunc_impl_Access_impl_Access_iIsMediator1_L1 a_e1 rest5 (k4 + 1))
def g_slices_IndexFunc_impl_Access_impl_Access_iIsMediator1 (a_s : List Access) (a_e1 : Mediator) : Option (Int) :=
  g_slices_IndexFunc_impl_Access_impl_Access_iIsMediator1_L1 a_e1 a_s 0
theorem g_slices_IndexFunc_impl_Access_impl_Access_iIsMediator1_ok (a_s : List Access) (v0_0 : Sv) (kc1 : Nat) (a_e1 : Mediator) (vc1_0 : Sv) (vc1_1 : Sv) (vc1_2 : Sv) (vc1_3 : Sv) (vc1_5 : Sv) (vc1_8 : Sv) (vc1_9 : Sv) (vc1_11 : Sv) (R : Int) (hF : g_slices_IndexFunc_impl_Access_impl_Access_iIsMediator1 a_s a_e1 = some R) :
    Fw.Spec Tryz.prog 156 [v0_0.v, (.func (.func 108) [].toArray [(.pointer (some ⟨kc1, 0, some 0⟩))].toArray)] [crd (RdS 80 rd80) v0_0.v a_s, cboR kc1 48 (.agg [vc1_0.v, vc1_1.v, vc1_2.v, vc1_3.v, (.int .i64 a_e1.Source.Version), vc1_5.v, (.int .i64 a_e1.Cache.Age), (.int .i64 a_e1.Now), vc1_8.v, vc1_9.v, (.int .i64 a_e1.Spent), vc1_11.v].toArray), crd (RdS 3 rdInt) vc1_0.v a_e1.Schema, crd (RdS 112 rd112) vc1_1.v a_e1.Methods, crd (RdS 148 rd148) vc1_2.v a_e1.Rules, crd (RdS 114 rd114) vc1_3.v a_e1.Source.Facts, crd (RdS 82 rd82) vc1_5.v a_e1.Cache.Entries, crd (RdS 80 rd80) vc1_8.v a_e1.Log, crd (RdS 3 rdInt) vc1_9.v a_e1.Times, crd (RdS 139 (RdS 22 (RdS 3 rdInt))) vc1_11.v a_e1.Results] (fun _ : Unit => (.int .i64 R)) (fun _ => []) := by
  refine Spec_enter (n := 19) Tryz.func156 rfl rfl (rs := [.tmp 4]) rfl rfl rfl ?_
  intro H0 F0
  unfold g_slices_IndexFunc_impl_Access_impl_Access_iIsMediator1 at hF
  iterate 9 refine au ?_
  refine CW_block (CW_loop (m := a_s.length) (fun m2 f' cs' => ∃ (g : Fr) (k4 : Nat) (rest5 : List Access), m2 = rest5.length ∧ f' = updL g [(0, v0_0.v), (1, (.func (.func 108) [].toArray [(.pointer (some ⟨kc1, 0, some 0⟩))].toArray)), (7, (.int .i64 (a_s.length : Int))), (8, (.int .i64 (k4 : Int)))] ∧ List.drop k4 a_s = rest5 ∧ Ent cs' [crd (RdS 80 rd80) v0_0.v a_s, cboR kc1 48 (.agg [vc1_0.v, vc1_1.v, vc1_2.v, vc1_3.v, (.int .i64 a_e1.Source.Version), vc1_5.v, (.int .i64 a_e1.Cache.Age), (.int .i64 a_e1.Now), vc1_8.v, vc1_9.v, (.int .i64 a_e1.Spent), vc1_11.v].toArray), crd (RdS 3 rdInt) vc1_0.v a_e1.Schema, crd (RdS 112 rd112) vc1_1.v a_e1.Methods, crd (RdS 148 rd148) vc1_2.v a_e1.Rules, crd (RdS 114 rd114) vc1_3.v a_e1.Source.Facts, crd (RdS 82 rd82) vc1_5.v a_e1.Cache.Entries, crd (RdS 80 rd80) vc1_8.v a_e1.Log, crd (RdS 3 rdInt) vc1_9.v a_e1.Times, crd (RdS 139 (RdS 22 (RdS 3 rdInt))) vc1_11.v a_e1.Results] ∧ g_slices_IndexFunc_impl_Access_impl_Access_iIsMediator1_L1 a_e1 rest5 k4 = some R) ⟨_, 0, _, rfl, eqA, rfl, entA, hF⟩ ?_)
  clear hF
  rintro m2 _ _ ⟨g3, k4, rest5, rfl, rfl, hd7, hE, hF⟩
  refine K_ent hE ?_
  clear hE
  refine K_pure (c := crd (RdS 80 rd80) v0_0.v a_s) .h crd_bound (fun hbd12 => ?_)
  rcases rest5 with _ | ⟨x6, rest5⟩
  · have hk8 := List.drop_eq_nil_iff.1 hd7
    rw [g_slices_IndexFunc_impl_Access_impl_Access_iIsMediator1_L1] at hF
    iterate 4 refine au ?_
    refine CdF ?_
    iterate 8 refine au ?_
    cases hF
    exact Er ()
  obtain ⟨hk8, hx9, hd10⟩ := drop_cons hd7
  rw [g_slices_IndexFunc_impl_Access_impl_Access_iIsMediator1_L1] at hF
  iterate 4 refine au ?_
  refine CdT ?_
  iterate 10 refine au ?_
  refine Ai hx9 (fun k13 j14 => ?_)
  refine AlA1 (ul80_0_80 x6) la80_0_80 (fun p15 => ?_)
  obtain ⟨r16, hx17, hF⟩ := bind_some hF
  refine C_x0 (.rd .h rfl (.rd (.t (.t (.t .h))) rfl (.rd (.t (.t (.t (.t .h)))) rfl (.rd (.t (.t (.t (.t (.t .h))))) rfl (.rd (.t (.t (.t (.t (.t (.t .h)))))) rfl (.rd (.t (.t (.t (.t (.t (.t (.t .h))))))) rfl (.rd (.t (.t (.t (.t (.t (.t (.t (.t .h)))))))) rfl (.rd (.t (.t (.t (.t (.t (.t (.t (.t (.t .h))))))))) rfl (.rd (.t (.t (.t (.t (.t (.t (.t (.t (.t (.t .h)))))))))) rfl (.rd (.t (.t (.t (.t (.t (.t (.t (.t (.t (.t (.t .h))))))))))) rfl .nil)))))))))) (X_callCS cf108.h (.tmp rfl rfl) (.cons (.tmp rfl rfl) .nil) (i_IsMediator_1_ok x6 p15 kc1 a_e1 vc1_0 vc1_1 vc1_2 vc1_3 vc1_5 vc1_8 vc1_9 vc1_11 _ hx17)) (fun _ => ?_)
  refine au ?_
  refine Cc (fun hb20 => ?_) (fun hb20 => ?_)
  · rw [if_pos hb20] at hF
    iterate 5 refine au ?_
    cases hF
    exact Er ()
  rw [if_neg (nt hb20)] at hF
  iterate 5 refine au ?_
  rw [wk k4]
  exact ⟨_, Nat.lt_succ_self _, _, k4 + 1, rest5, rfl, eqA, hd10, entA, hF⟩

/-! impl.Access] -/
def g_slices_ContainsFunc_impl_Access_impl_Access_iIsMediator1 (a_s : List Access) (a_e1 : Mediator) : Option (Bool) :=
  (g_slices_IndexFunc_impl_Access_impl_Access_iIsMediator1 a_s a_e1).bind fun r1 =>
  some (decide ((0 : Int) ≤ r1))
theorem g_slices_ContainsFunc_impl_Access_impl_Access_iIsMediator1_ok (a_s : List Access) (v0_0 : Sv) (kc1 : Nat) (a_e1 : Mediator) (vc1_0 : Sv) (vc1_1 : Sv) (vc1_2 : Sv) (vc1_3 : Sv) (vc1_5 : Sv) (vc1_8 : Sv) (vc1_9 : Sv) (vc1_11 : Sv) (R : Bool) (hF : g_slices_ContainsFunc_impl_Access_impl_Access_iIsMediator1 a_s a_e1 = some R) :
    Fw.Spec Tryz.prog 107 [v0_0.v, (.func (.func 108) [].toArray [(.pointer (some ⟨kc1, 0, some 0⟩))].toArray)] [crd (RdS 80 rd80) v0_0.v a_s, cboR kc1 48 (.agg [vc1_0.v, vc1_1.v, vc1_2.v, vc1_3.v, (.int .i64 a_e1.Source.Version), vc1_5.v, (.int .i64 a_e1.Cache.Age), (.int .i64 a_e1.Now), vc1_8.v, vc1_9.v, (.int .i64 a_e1.Spent), vc1_11.v].toArray), crd (RdS 3 rdInt) vc1_0.v a_e1.Schema, crd (RdS 112 rd112) vc1_1.v a_e1.Methods, crd (RdS 148 rd148) vc1_2.v a_e1.Rules, crd (RdS 114 rd114) vc1_3.v a_e1.Source.Facts, crd (RdS 82 rd82) vc1_5.v a_e1.Cache.Entries, crd (RdS 80 rd80) vc1_8.v a_e1.Log, crd (RdS 3 rdInt) vc1_9.v a_e1.Times, crd (RdS 139 (RdS 22 (RdS 3 rdInt))) vc1_11.v a_e1.Results] (fun _ : Unit => (.bool R)) (fun _ => []) := by
  refine Spec_enter (n := 9) Tryz.func107 rfl rfl (rs := [.tmp 4]) rfl rfl rfl ?_
  intro H0 F0
  unfold g_slices_ContainsFunc_impl_Access_impl_Access_iIsMediator1 at hF
  iterate 6 refine au ?_
  obtain ⟨r1, hx2, hF⟩ := bind_some hF
  refine Cx0 (g_slices_IndexFunc_impl_Access_impl_Access_iIsMediator1_ok _ _ _ _ _ _ _ _ _ _ _ _ _ hx2) (fun _ => ?_)
  iterate 4 refine au ?_
  cases hF
  exact Er ()

/-! cmp.Less[int] -/
def g_cmp_Less_int (a_x : Int) (a_y : Int) : Option (Bool) :=
  ((g_cmp_isNaN_int a_x).bind fun r3 =>
    bif r3 then ((g_cmp_isNaN_int a_y).bind fun r7 =>
      bif (!r7) then (some true)
      else (some (decide ((a_x : Int) < a_y))))
    else (some (decide ((a_x : Int) < a_y)))).bind fun o1 =>
  match o1 with
  | c11 => some c11
theorem g_cmp_Less_int_ok (a_x : Int) (a_y : Int) (R : Bool) (hF : g_cmp_Less_int a_x a_y = some R) :
    Fw.Spec Tryz.prog 203 [(.int .i64 a_x), (.int .i64 a_y)] [] (fun _ : Unit => (.bool R)) (fun _ => []) := by
  refine Spec_enter (n := 17) Tryz.func203 rfl rfl (rs := [.tmp 4]) rfl rfl rfl ?_
  intro H0 F0
  unfold g_cmp_Less_int at hF
  iterate 3 refine au ?_
  obtain ⟨o1, hio1, hO2⟩ := bind_some hF
  refine au ?_
  refine C_cut (fun f' cs' => ∃ (c11 : Bool) (g : Fr), c11 = o1 ∧ f' = updL g [(4, (.bool c11))] ∧ Ent cs' []) ?_ ?_
  · replace hF := hio1
    refine au ?_
    obtain ⟨r3, hx4, hF⟩ := bind_some hF
    refine Cx0 (g_cmp_isNaN_int_ok _ _ hx4) (fun _ => ?_)
    refine au ?_
    rcases Bool.eq_false_or_eq_true r3 with hg6 | hg6
    · rw [hg6]
      try rw [hg6] at hF; dsimp only [cond_true, cond_false] at hF
      iterate 3 refine au ?_
      obtain ⟨r7, hx8, hF⟩ := bind_some hF
      refine Cx0 (g_cmp_isNaN_int_ok _ _ hx8) (fun _ => ?_)
      iterate 4 refine au ?_
      rcases Bool.eq_false_or_eq_true (!r7) with hg10 | hg10
      · rw [hg10]
        try rw [hg10] at hF; dsimp only [cond_true, cond_false] at hF
        iterate 6 refine au ?_
        cases hF
        exact ⟨_, _, rfl, eqA, entA⟩
      rw [hg10]
      try rw [hg10] at hF; dsimp only [cond_true, cond_false] at hF
      iterate 9 refine au ?_
      cases hF
      exact ⟨_, _, rfl, eqA, entA⟩
    rw [hg6]
    try rw [hg6] at hF; dsimp only [cond_true, cond_false] at hF
    iterate 14 refine au ?_
    cases hF
    exact ⟨_, _, rfl, eqA, entA⟩
  rintro _ _ ⟨c11, g12, rfl, rfl, hE⟩
  replace hF := hO2
  clear hO2
  try dsimp only at hF
  refine K_ent hE ?_
  refine au ?_
  cases hF
  exact Er ()

/-! slices.IsSorted[[]int,int] -/
def g_slices_IsSorted_int_int_L1 (a_x : List Int) : Nat → Int → Option (Bool)
  | 0, _ => none
  | m2 + 1, c1 => if (decide ((0 : Int) < c1)) then (
      (ix a_x c1).bind fun x10 =>
      (ix a_x (IntKind.i64.wrap (c1 - 1))).bind fun x16 =>
      (g_cmp_Less_int x10 x16).bind fun r22 =>
      if r22 then (
        some false)
      else (
        g_slices_IsSorted_int_int_L1 a_x m2 (IntKind.i64.wrap (c1 - 1))))
    else (
      some true)
def g_slices_IsSorted_int_int (a_x : List Int) : Option (Bool) :=
  g_slices_IsSorted_int_int_L1 a_x (((IntKind.i64.wrap ((a_x.length : Int) - 1)) - 0).toNat + 2) (IntKind.i64.wrap ((a_x.length : Int) - 1))
theorem g_slices_IsSorted_int_int_ok (a_x : List Int) (v0_0 : Sv) (R : Bool) (hF : g_slices_IsSorted_int_int a_x = some R) :
    Fw.Spec Tryz.prog 157 [v0_0.v] [crd (RdS 3 rdInt) v0_0.v a_x] (fun _ : Unit => (.bool R)) (fun _ => []) := by
  refine Spec_enter (n := 21) Tryz.func157 rfl rfl (rs := [.tmp 2]) rfl rfl rfl ?_
  intro H0 F0
  unfold g_slices_IsSorted_int_int at hF
  iterate 10 refine au ?_
  refine CW_block (CW_loop (m := (((IntKind.i64.wrap ((a_x.length : Int) - 1)) - 0).toNat + 2)) (fun m2 f' cs' => ∃ (g : Fr) (c1 : Int), f' = updL g [(0, v0_0.v), (3, (.int .i64 c1))] ∧ Ent cs' [crd (RdS 3 rdInt) v0_0.v a_x] ∧ g_slices_IsSorted_int_int_L1 a_x m2 c1 = some R) ⟨_, _, eqA, entA, hF⟩ ?_)
  clear hF
  rintro m2 _ _ ⟨g3, c1, rfl, hE, hF⟩
  refine K_ent hE ?_
  clear hE
  rcases m2 with _ | m2
  · rw [g_slices_IsSorted_int_int_L1] at hF
    exact absurd hF (by simp)
  rw [g_slices_IsSorted_int_int_L1] at hF
  iterate 5 refine au ?_
  refine Cc (fun hb26 => ?_) (fun hb26 => ?_)
  · rw [if_pos hb26] at hF
    iterate 2 refine au ?_
    refine K_draw [0, 1, 2, 3, 4, 5, 6, 7, 8, 9] [0, 0, 3, 7, 0, 0, 32, 112, 240, 511] [9] mixed (by decide +kernel) ?_
    iterate 2 refine du ?_
    obtain ⟨x10, hx11, hF⟩ := bind_some hF
    obtain ⟨hp12, hx13⟩ := ix_some hx11
    refine Di hx13 (fun k14 j15 => ?_)
    refine Dl ls3_0 ?_
    iterate 3 refine du ?_
    obtain ⟨x16, hx17, hF⟩ := bind_some hF
    obtain ⟨hp18, hx19⟩ := ix_some hx17
    refine Di hx19 (fun k20 j21 => ?_)
    refine Dl ls3_0 ?_
    obtain ⟨r22, hx23, hF⟩ := bind_some hF
    refine Dx0 (g_cmp_Less_int_ok _ _ _ hx23) (fun _ => ?_)
    refine du ?_
    refine Cc (fun hb25 => ?_) (fun hb25 => ?_)
    · rw [if_pos hb25] at hF
      iterate 4 refine au ?_
      cases hF
      exact Er ()
    rw [if_neg (nt hb25)] at hF
    iterate 6 refine au ?_
    exact ⟨m2, Nat.lt_succ_self _, _, _, eqA, entA, hF⟩
  rw [if_neg (nt hb26)] at hF
  iterate 8 refine au ?_
  cases hF
  exact Er ()

/-! impl.areTimes$1 -/
def i_areTimes_1 (a_t : Int) : Option (Bool) :=
  (i_isTime a_t).bind fun r1 =>
  some (!r1)
theorem i_areTimes_1_ok (a_t : Int) (R : Bool) (hF : i_areTimes_1 a_t = some R) :
    Fw.Spec Tryz.prog 159 [(.int .i64 a_t)] [] (fun _ : Unit => (.bool R)) (fun _ => []) := by
  refine Spec_enter (n := 6) Tryz.func159 rfl rfl (rs := [.tmp 2]) rfl rfl rfl ?_
  intro H0 F0
  unfold i_areTimes_1 at hF
  iterate 5 refine au ?_
  obtain ⟨r1, hx2, hF⟩ := bind_some hF
  refine Cx0 (i_isTime_ok _ _ hx2) (fun _ => ?_)
  iterate 4 refine au ?_
  cases hF
  exact Er ()

/-! slices.IndexFunc[[]int,int] -/
def g_slices_IndexFunc_int_int_iareTimes1_L1 : List Int → Nat → Option (Int)
  | [], k4 => some (-1)
  | x6 :: rest5, k4 => (i_areTimes_1 x6).bind fun r15 =>
    if r15 then (
      some (k4 : Int))
    else (
      g_slices_IndexFunc_int_int_iareTimes1_L1 rest5 (k4 + 1))
def g_slices_IndexFunc_int_int_iareTimes1 (a_s : List Int) : Option (Int) :=
  g_slices_IndexFunc_int_int_iareTimes1_L1 a_s 0
theorem g_slices_IndexFunc_int_int_iareTimes1_ok (a_s : List Int) (v0_0 : Sv) (R : Int) (hF : g_slices_IndexFunc_int_int_iareTimes1 a_s = some R) :
    Fw.Spec Tryz.prog 204 [v0_0.v, (.func (.func 159) [].toArray [].toArray)] [crd (RdS 3 rdInt) v0_0.v a_s] (fun _ : Unit => (.int .i64 R)) (fun _ => []) := by
  refine Spec_enter (n := 19) Tryz.func204 rfl rfl (rs := [.tmp 4]) rfl rfl rfl ?_
  intro H0 F0
  unfold g_slices_IndexFunc_int_int_iareTimes1 at hF
  iterate 9 refine au ?_
  refine CW_block (CW_loop (m := a_s.length) (fun m2 f' cs' => ∃ (g : Fr) (k4 : Nat) (rest5 : List Int), m2 = rest5.length ∧ f' = updL g [(0, v0_0.v), (1, (.func (.func 159) [].toArray [].toArray)), (7, (.int .i64 (a_s.length : Int))), (8, (.int .i64 (k4 : Int)))] ∧ List.drop k4 a_s = rest5 ∧ Ent cs' [crd (RdS 3 rdInt) v0_0.v a_s] ∧ g_slices_IndexFunc_int_int_iareTimes1_L1 rest5 k4 = some R) ⟨_, 0, _, rfl, eqA, rfl, entA, hF⟩ ?_)
  clear hF
  rintro m2 _ _ ⟨g3, k4, rest5, rfl, rfl, hd7, hE, hF⟩
  refine K_ent hE ?_
  clear hE
  refine K_pure (c := crd (RdS 3 rdInt) v0_0.v a_s) .h crd_bound (fun hbd12 => ?_)
  rcases rest5 with _ | ⟨x6, rest5⟩
  · have hk8 := List.drop_eq_nil_iff.1 hd7
    rw [g_slices_IndexFunc_int_int_iareTimes1_L1] at hF
    iterate 4 refine au ?_
    refine CdF ?_
    iterate 8 refine au ?_
    cases hF
    exact Er ()
  obtain ⟨hk8, hx9, hd10⟩ := drop_cons hd7
  rw [g_slices_IndexFunc_int_int_iareTimes1_L1] at hF
  iterate 4 refine au ?_
  refine CdT ?_
  iterate 10 refine au ?_
  refine Ai hx9 (fun k13 j14 => ?_)
  refine Al ls3_0 ?_
  obtain ⟨r15, hx16, hF⟩ := bind_some hF
  refine C_x0 .nil (X_callCS cf159.h (.tmp rfl rfl) (.cons (.tmp rfl rfl) .nil) (i_areTimes_1_ok x6 _ hx16)) (fun _ => ?_)
  refine au ?_
  refine Cc (fun hb19 => ?_) (fun hb19 => ?_)
  · rw [if_pos hb19] at hF
    iterate 5 refine au ?_
    cases hF
    exact Er ()
  rw [if_neg (nt hb19)] at hF
  iterate 5 refine au ?_
  rw [wk k4]
  exact ⟨_, Nat.lt_succ_self _, _, k4 + 1, rest5, rfl, eqA, hd10, entA, hF⟩

/-! slices.ContainsFunc[[]int,int] -/
def g_slices_ContainsFunc_int_int_iareTimes1 (a_s : List Int) : Option (Bool) :=
  (g_slices_IndexFunc_int_int_iareTimes1 a_s).bind fun r1 =>
  some (decide ((0 : Int) ≤ r1))
theorem g_slices_ContainsFunc_int_int_iareTimes1_ok (a_s : List Int) (v0_0 : Sv) (R : Bool) (hF : g_slices_ContainsFunc_int_int_iareTimes1 a_s = some R) :
    Fw.Spec Tryz.prog 158 [v0_0.v, (.func (.func 159) [].toArray [].toArray)] [crd (RdS 3 rdInt) v0_0.v a_s] (fun _ : Unit => (.bool R)) (fun _ => []) := by
  refine Spec_enter (n := 9) Tryz.func158 rfl rfl (rs := [.tmp 4]) rfl rfl rfl ?_
  intro H0 F0
  unfold g_slices_ContainsFunc_int_int_iareTimes1 at hF
  iterate 6 refine au ?_
  obtain ⟨r1, hx2, hF⟩ := bind_some hF
  refine Cx0 (g_slices_IndexFunc_int_int_iareTimes1_ok _ _ _ hx2) (fun _ => ?_)
  iterate 4 refine au ?_
  cases hF
  exact Er ()

/-! impl.areTimes -/
def i_areTimes (a_l : List Int) : Option (Bool) :=
  ((g_slices_IsSorted_int_int a_l).bind fun r3 =>
    bif r3 then ((g_slices_ContainsFunc_int_int_iareTimes1 a_l).bind fun r7 =>
      some (!r7))
    else (some false)).bind fun o1 =>
  match o1 with
  | c10 => some c10
theorem i_areTimes_ok (a_l : List Int) (v0_0 : Sv) (R : Bool) (hF : i_areTimes a_l = some R) :
    Fw.Spec Tryz.prog 110 [v0_0.v] [crd (RdS 3 rdInt) v0_0.v a_l] (fun _ : Unit => (.bool R)) (fun _ => []) := by
  refine Spec_enter (n := 10) Tryz.func110 rfl rfl (rs := [.tmp 2]) rfl rfl rfl ?_
  intro H0 F0
  unfold i_areTimes at hF
  iterate 3 refine au ?_
  obtain ⟨o1, hio1, hO2⟩ := bind_some hF
  refine au ?_
  refine C_cut (fun f' cs' => ∃ (c10 : Bool) (g : Fr), c10 = o1 ∧ f' = updL g [(2, (.bool c10))] ∧ Ent cs' []) ?_ ?_
  · replace hF := hio1
    refine au ?_
    obtain ⟨r3, hx4, hF⟩ := bind_some hF
    refine Cx0 (g_slices_IsSorted_int_int_ok _ _ _ hx4) (fun _ => ?_)
    refine au ?_
    rcases Bool.eq_false_or_eq_true r3 with hg6 | hg6
    · rw [hg6]
      try rw [hg6] at hF; dsimp only [cond_true, cond_false] at hF
      iterate 3 refine au ?_
      obtain ⟨r7, hx8, hF⟩ := bind_some hF
      refine Cx0 (g_slices_ContainsFunc_int_int_iareTimes1_ok _ _ _ hx8) (fun _ => ?_)
      iterate 5 refine au ?_
      cases hF
      exact ⟨_, _, rfl, eqA, entA⟩
    rw [hg6]
    try rw [hg6] at hF; dsimp only [cond_true, cond_false] at hF
    iterate 6 refine au ?_
    cases hF
    exact ⟨_, _, rfl, eqA, entA⟩
  rintro _ _ ⟨c10, g11, rfl, rfl, hE⟩
  replace hF := hO2
  clear hO2
  try dsimp only at hF
  refine K_ent hE ?_
  refine au ?_
  cases hF
  exact Er ()

/-! impl.IsMediator -/
def i_IsMediator (a_m : Mediator) : Option (Bool) :=
  ((i_AreMethods a_m.Schema a_m.Methods).bind fun r4 =>
    bif r4 then ((i_AreRules a_m.Schema a_m.Rules).bind fun r8 =>
      bif r8 then ((i_IsSource a_m.Schema a_m.Source).bind fun r12 =>
        bif r12 then ((i_IsCache a_m.Schema a_m.Methods a_m.Cache).bind fun r16 =>
          bif r16 then ((i_isTime a_m.Now).bind fun r20 =>
            bif r20 then (bif (decide (((a_m.Log.length : Int) : Int) ≤ 1000)) then ((g_slices_ContainsFunc_impl_Access_impl_Access_iIsMediator1 a_m.Log a_m).bind fun r25 =>
                bif (!r25) then (bif (((a_m.Times.length : Int) : Int) == (a_m.Log.length : Int)) then ((i_areTimes a_m.Times).bind fun r30 =>
                    bif r30 then ((i_within a_m.Spent 0 1000000).bind fun r34 =>
                      bif r34 then (some (decide (((a_m.Results.length : Int) : Int) ≤ 100)))
                      else (some false))
                    else (some false))
                  else (some false))
                else (some false))
              else (some false))
            else (some false))
          else (some false))
        else (some false))
      else (some false))
    else (some false)).bind fun o2 =>
  match o2 with
  | c38 => some c38
theorem i_IsMediator_ok (a_m : Mediator) (v0_0 : Sv) (v0_1 : Sv) (v0_2 : Sv) (v0_3 : Sv) (v0_5 : Sv) (v0_8 : Sv) (v0_9 : Sv) (v0_11 : Sv) (R : Bool) (hF : i_IsMediator a_m = some R) :
    Fw.Spec Tryz.prog 45 [(.agg [v0_0.v, v0_1.v, v0_2.v, v0_3.v, (.int .i64 a_m.Source.Version), v0_5.v, (.int .i64 a_m.Cache.Age), (.int .i64 a_m.Now), v0_8.v, v0_9.v, (.int .i64 a_m.Spent), v0_11.v].toArray)] [crd (RdS 3 rdInt) v0_0.v a_m.Schema, crd (RdS 112 rd112) v0_1.v a_m.Methods, crd (RdS 148 rd148) v0_2.v a_m.Rules, crd (RdS 114 rd114) v0_3.v a_m.Source.Facts, crd (RdS 82 rd82) v0_5.v a_m.Cache.Entries, crd (RdS 80 rd80) v0_8.v a_m.Log, crd (RdS 3 rdInt) v0_9.v a_m.Times, crd (RdS 139 (RdS 22 (RdS 3 rdInt))) v0_11.v a_m.Results] (fun _ : Unit => (.bool R)) (fun _ => []) := by
  refine Spec_enter (n := 74) Tryz.func45 rfl rfl (rs := [.tmp 2]) rfl rfl rfl ?_
  intro H0 F0
  unfold i_IsMediator at hF
  refine K_region (C_newR rfl (N_box (g := false) (v := (.agg [v0_0.v, v0_1.v, v0_2.v, v0_3.v, (.int .i64 a_m.Source.Version), v0_5.v, (.int .i64 a_m.Cache.Age), (.int .i64 a_m.Now), v0_8.v, v0_9.v, (.int .i64 a_m.Spent), v0_11.v].toArray)) ty48.h.sz (.tmp rfl rfl) rfl) (fun k1 => ?_))
  refine C_val (V_assign (v := (.bool false)) (.bool _)) ?_
  refine C_nil ?_
  obtain ⟨o2, hio2, hO3⟩ := bind_some hF
  refine K_region (C_cut (fun f' cs' => ∃ (c38 : Bool) (g : Fr), c38 = o2 ∧ f' = updL g [(2, (.bool c38))] ∧ Ent cs' []) ?_ ?_)
  · replace hF := hio2
    refine C_val (V_fieldAddr (off := 0) fd48_0.h (.tmp rfl rfl)) ?_
    refine C_at .h (fun hp => V_load (v := v0_0.v) ag22.h (.tmp rfl rfl) hp.2 rfl rfl) ?_
    refine C_val (V_fieldAddr (off := 1) fd48_1.h (.tmp rfl rfl)) ?_
    refine C_at .h (fun hp => V_load (v := v0_1.v) ag38.h (.tmp rfl rfl) hp.2 rfl rfl) ?_
    obtain ⟨r4, hx5, hF⟩ := bind_some hF
    refine C_x0 (.rd (.t .h) rfl (.rd (.t (.t .h)) rfl .nil)) (X_callS cf69.h (.cons (.tmp rfl rfl) (.cons (.tmp rfl rfl) .nil)) (i_AreMethods_ok a_m.Schema v0_0 a_m.Methods v0_1 _ hx5)) (fun _ => ?_)
    refine Cm (.bool r4) rfl rfl ?_
    rcases Bool.eq_false_or_eq_true r4 with hg7 | hg7
    · rw [hg7]
      try rw [hg7] at hF; dsimp only [cond_true, cond_false] at hF
      refine C_on (t := 8) rfl rfl rfl ?_
      refine C_val (V_fieldAddr (off := 0) fd48_0.h (.tmp rfl rfl)) ?_
      refine C_on (t := 8) rfl rfl rfl ?_
      refine C_at .h (fun hp => V_load (v := v0_0.v) ag22.h (.tmp rfl rfl) hp.2 rfl rfl) ?_
      refine C_on (t := 8) rfl rfl rfl ?_
      refine C_val (V_fieldAddr (off := 2) fd48_2.h (.tmp rfl rfl)) ?_
      refine C_on (t := 8) rfl rfl rfl ?_
      refine C_at .h (fun hp => V_load (v := v0_2.v) ag39.h (.tmp rfl rfl) hp.2 rfl rfl) ?_
      refine C_on (t := 8) rfl rfl rfl ?_
      obtain ⟨r8, hx9, hF⟩ := bind_some hF
      refine C_x0 (.rd (.t .h) rfl (.rd (.t (.t (.t .h))) rfl .nil)) (X_callS cf103.h (.cons (.tmp rfl rfl) (.cons (.tmp rfl rfl) .nil)) (i_AreRules_ok a_m.Schema v0_0 a_m.Rules v0_2 _ hx9)) (fun _ => ?_)
      refine C_val (V_pick (b := true) (u := (.bool r8)) (v := (.bool false)) (.tmp rfl rfl) (.tmp rfl rfl) (.bool _)) ?_
      refine Cm (.bool r8) rfl rfl ?_
      rcases Bool.eq_false_or_eq_true r8 with hg11 | hg11
      · rw [hg11]
        try rw [hg11] at hF; dsimp only [cond_true, cond_false] at hF
        refine C_on (t := 15) rfl rfl rfl ?_
        refine C_val (V_fieldAddr (off := 0) fd48_0.h (.tmp rfl rfl)) ?_
        refine C_on (t := 15) rfl rfl rfl ?_
        refine C_at .h (fun hp => V_load (v := v0_0.v) ag22.h (.tmp rfl rfl) hp.2 rfl rfl) ?_
        refine C_on (t := 15) rfl rfl rfl ?_
        refine C_val (V_fieldAddr (off := 3) fd48_3.h (.tmp rfl rfl)) ?_
        refine C_on (t := 15) rfl rfl rfl ?_
        refine C_at .h (fun hp => V_loadA (s := 2) (l := [v0_3.v, (.int .i64 a_m.Source.Version)]) ag42.h ty42.h.sz (.tmp rfl rfl) hp.2 rfl (by decide) (Nat.le_of_ble_eq_true rfl) rfl) ?_
        refine C_on (t := 15) rfl rfl rfl ?_
        obtain ⟨r12, hx13, hF⟩ := bind_some hF
        refine C_x0 (.rd (.t .h) rfl (.rd (.t (.t (.t (.t .h)))) rfl .nil)) (X_callS cf104.h (.cons (.tmp rfl rfl) (.cons (.tmp rfl rfl) .nil)) (i_IsSource_ok a_m.Schema v0_0 a_m.Source v0_3 _ hx13)) (fun _ => ?_)
        refine C_val (V_pick (b := true) (u := (.bool r12)) (v := (.bool false)) (.tmp rfl rfl) (.tmp rfl rfl) (.bool _)) ?_
        refine Cm (.bool r12) rfl rfl ?_
        rcases Bool.eq_false_or_eq_true r12 with hg15 | hg15
        · rw [hg15]
          try rw [hg15] at hF; dsimp only [cond_true, cond_false] at hF
          refine C_on (t := 22) rfl rfl rfl ?_
          refine C_val (V_fieldAddr (off := 0) fd48_0.h (.tmp rfl rfl)) ?_
          refine C_on (t := 22) rfl rfl rfl ?_
          refine C_at .h (fun hp => V_load (v := v0_0.v) ag22.h (.tmp rfl rfl) hp.2 rfl rfl) ?_
          refine C_on (t := 22) rfl rfl rfl ?_
          refine C_val (V_fieldAddr (off := 1) fd48_1.h (.tmp rfl rfl)) ?_
          refine C_on (t := 22) rfl rfl rfl ?_
          refine C_at .h (fun hp => V_load (v := v0_1.v) ag38.h (.tmp rfl rfl) hp.2 rfl rfl) ?_
          refine C_on (t := 22) rfl rfl rfl ?_
          refine C_val (V_fieldAddr (off := 5) fd48_4.h (.tmp rfl rfl)) ?_
          refine C_on (t := 22) rfl rfl rfl ?_
          refine C_at .h (fun hp => V_loadA (s := 2) (l := [v0_5.v, (.int .i64 a_m.Cache.Age)]) ag45.h ty45.h.sz (.tmp rfl rfl) hp.2 rfl (by decide) (Nat.le_of_ble_eq_true rfl) rfl) ?_
          refine C_on (t := 22) rfl rfl rfl ?_
          obtain ⟨r16, hx17, hF⟩ := bind_some hF
          refine C_x0 (.rd (.t .h) rfl (.rd (.t (.t .h)) rfl (.rd (.t (.t (.t (.t (.t .h))))) rfl .nil))) (X_callS cf105.h (.cons (.tmp rfl rfl) (.cons (.tmp rfl rfl) (.cons (.tmp rfl rfl) .nil))) (i_IsCache_ok a_m.Schema v0_0 a_m.Methods v0_1 a_m.Cache v0_5 _ hx17)) (fun _ => ?_)
          refine C_val (V_pick (b := true) (u := (.bool r16)) (v := (.bool false)) (.tmp rfl rfl) (.tmp rfl rfl) (.bool _)) ?_
          refine Cm (.bool r16) rfl rfl ?_
          rcases Bool.eq_false_or_eq_true r16 with hg19 | hg19
          · rw [hg19]
            try rw [hg19] at hF; dsimp only [cond_true, cond_false] at hF
            refine C_on (t := 31) rfl rfl rfl ?_
            refine C_val (V_fieldAddr (off := 7) fd48_5.h (.tmp rfl rfl)) ?_
            refine C_on (t := 31) rfl rfl rfl ?_
            refine C_at .h (fun hp => V_load (v := (.int .i64 a_m.Now)) ag3.h (.tmp rfl rfl) hp.2 rfl rfl) ?_
            refine C_on (t := 31) rfl rfl rfl ?_
            obtain ⟨r20, hx21, hF⟩ := bind_some hF
            refine C_x0 .nil (X_callS cf106.h (.cons (.tmp rfl rfl) .nil) (i_isTime_ok a_m.Now _ hx21)) (fun _ => ?_)
            refine C_val (V_pick (b := true) (u := (.bool r20)) (v := (.bool false)) (.tmp rfl rfl) (.tmp rfl rfl) (.bool _)) ?_
            refine Cm (.bool r20) rfl rfl ?_
            rcases Bool.eq_false_or_eq_true r20 with hg23 | hg23
            · rw [hg23]
              try rw [hg23] at hF; dsimp only [cond_true, cond_false] at hF
              refine C_on (t := 36) rfl rfl rfl ?_
              refine C_val (V_fieldAddr (off := 8) fd48_6.h (.tmp rfl rfl)) ?_
              refine C_on (t := 36) rfl rfl rfl ?_
              refine C_at .h (fun hp => V_load (v := v0_8.v) ag46.h (.tmp rfl rfl) hp.2 rfl rfl) ?_
              refine C_on (t := 36) rfl rfl rfl ?_
              refine C_at (.t (.t (.t (.t (.t (.t .h)))))) (fun hp => V_lenR (l := a_m.Log.length) sl46.h (.tmp rfl rfl) (crd_len hp)) ?_
              refine C_on (t := 36) rfl rfl rfl ?_
              refine C_val (V_leq (i := (a_m.Log.length : Int)) (j := 1000) (.tmp rfl rfl) (.int _ _)) ?_
              refine C_val (V_pick (b := true) (u := (.bool (decide (((a_m.Log.length : Int) : Int) ≤ 1000)))) (v := (.bool false)) (.tmp rfl rfl) (.tmp rfl rfl) (.bool _)) ?_
              refine Cm (.bool (decide (((a_m.Log.length : Int) : Int) ≤ 1000))) rfl rfl ?_
              rcases Bool.eq_false_or_eq_true (decide (((a_m.Log.length : Int) : Int) ≤ 1000)) with hg24 | hg24
              · rw [hg24]
                try rw [hg24] at hF; dsimp only [cond_true, cond_false] at hF
                refine C_on (t := 42) rfl rfl rfl ?_
                refine C_val (V_fieldAddr (off := 8) fd48_6.h (.tmp rfl rfl)) ?_
                refine C_on (t := 42) rfl rfl rfl ?_
                refine C_at .h (fun hp => V_load (v := v0_8.v) ag46.h (.tmp rfl rfl) hp.2 rfl rfl) ?_
                refine C_on (t := 42) rfl rfl rfl ?_
                refine C_val (V_makeFunc (fn := .func 108) (vs := []) (us := [(.pointer (some ⟨k1, 0, some 0⟩))]) .nil (.cons (.tmp rfl rfl) .nil)) ?_
                refine C_on (t := 42) rfl rfl rfl ?_
                obtain ⟨r25, hx26, hF⟩ := bind_some hF
                refine C_x0 (.rd (.t (.t (.t (.t (.t (.t .h)))))) rfl (.rd .h rfl (.rd (.t .h) rfl (.rd (.t (.t .h)) rfl (.rd (.t (.t (.t .h))) rfl (.rd (.t (.t (.t (.t .h)))) rfl (.rd (.t (.t (.t (.t (.t .h))))) rfl (.rd (.t (.t (.t (.t (.t (.t .h)))))) rfl (.rd (.t (.t (.t (.t (.t (.t (.t .h))))))) rfl (.rd (.t (.t (.t (.t (.t (.t (.t (.t .h)))))))) rfl .nil)))))))))) (X_callS cf107.h (.cons (.tmp rfl rfl) (.cons (.tmp rfl rfl) .nil)) (g_slices_ContainsFunc_impl_Access_impl_Access_iIsMediator1_ok a_m.Log v0_8 k1 a_m v0_0 v0_1 v0_2 v0_3 v0_5 v0_8 v0_9 v0_11 _ hx26)) (fun _ => ?_)
                refine C_on (t := 42) rfl rfl rfl ?_
                refine C_val (V_not (b := r25) (.tmp rfl rfl)) ?_
                refine C_val (V_pick (b := true) (u := (.bool (!r25))) (v := (.bool false)) (.tmp rfl rfl) (.tmp rfl rfl) (.bool _)) ?_
                refine Cm (.bool (!r25)) rfl rfl ?_
                rcases Bool.eq_false_or_eq_true (!r25) with hg28 | hg28
                · rw [hg28]
                  try rw [hg28] at hF; dsimp only [cond_true, cond_false] at hF
                  refine C_on (t := 49) rfl rfl rfl ?_
                  refine C_val (V_fieldAddr (off := 9) fd48_7.h (.tmp rfl rfl)) ?_
                  refine C_on (t := 49) rfl rfl rfl ?_
                  refine C_at .h (fun hp => V_load (v := v0_9.v) ag22.h (.tmp rfl rfl) hp.2 rfl rfl) ?_
                  refine C_on (t := 49) rfl rfl rfl ?_
                  refine C_at (.t (.t (.t (.t (.t (.t (.t .h))))))) (fun hp => V_lenR (l := a_m.Times.length) sl22.h (.tmp rfl rfl) (crd_len hp)) ?_
                  refine C_on (t := 49) rfl rfl rfl ?_
                  refine C_val (V_fieldAddr (off := 8) fd48_6.h (.tmp rfl rfl)) ?_
                  refine C_on (t := 49) rfl rfl rfl ?_
                  refine C_at .h (fun hp => V_load (v := v0_8.v) ag46.h (.tmp rfl rfl) hp.2 rfl rfl) ?_
                  refine C_on (t := 49) rfl rfl rfl ?_
                  refine C_at (.t (.t (.t (.t (.t (.t .h)))))) (fun hp => V_lenR (l := a_m.Log.length) sl46.h (.tmp rfl rfl) (crd_len hp)) ?_
                  refine C_on (t := 49) rfl rfl rfl ?_
                  refine C_val (V_eql (i := (a_m.Times.length : Int)) (j := (a_m.Log.length : Int)) (.tmp rfl rfl) (.tmp rfl rfl)) ?_
                  refine C_val (V_pick (b := true) (u := (.bool (((a_m.Times.length : Int) : Int) == (a_m.Log.length : Int)))) (v := (.bool false)) (.tmp rfl rfl) (.tmp rfl rfl) (.bool _)) ?_
                  refine Cm (.bool (((a_m.Times.length : Int) : Int) == (a_m.Log.length : Int))) rfl rfl ?_
                  rcases Bool.eq_false_or_eq_true (((a_m.Times.length : Int) : Int) == (a_m.Log.length : Int)) with hg29 | hg29
                  · rw [hg29]
                    try rw [hg29] at hF; dsimp only [cond_true, cond_false] at hF
                    refine C_on (t := 58) rfl rfl rfl ?_
                    refine C_val (V_fieldAddr (off := 9) fd48_7.h (.tmp rfl rfl)) ?_
                    refine C_on (t := 58) rfl rfl rfl ?_
                    refine C_at .h (fun hp => V_load (v := v0_9.v) ag22.h (.tmp rfl rfl) hp.2 rfl rfl) ?_
                    refine C_on (t := 58) rfl rfl rfl ?_
                    obtain ⟨r30, hx31, hF⟩ := bind_some hF
                    refine C_x0 (.rd (.t (.t (.t (.t (.t (.t (.t .h))))))) rfl .nil) (X_callS cf110.h (.cons (.tmp rfl rfl) .nil) (i_areTimes_ok a_m.Times v0_9 _ hx31)) (fun _ => ?_)
                    refine C_val (V_pick (b := true) (u := (.bool r30)) (v := (.bool false)) (.tmp rfl rfl) (.tmp rfl rfl) (.bool _)) ?_
                    refine Cm (.bool r30) rfl rfl ?_
                    rcases Bool.eq_false_or_eq_true r30 with hg33 | hg33
                    · rw [hg33]
                      try rw [hg33] at hF; dsimp only [cond_true, cond_false] at hF
                      refine C_on (t := 63) rfl rfl rfl ?_
                      refine C_val (V_fieldAddr (off := 10) fd48_8.h (.tmp rfl rfl)) ?_
                      refine C_on (t := 63) rfl rfl rfl ?_
                      refine C_at .h (fun hp => V_load (v := (.int .i64 a_m.Spent)) ag3.h (.tmp rfl rfl) hp.2 rfl rfl) ?_
                      refine C_on (t := 63) rfl rfl rfl ?_
                      obtain ⟨r34, hx35, hF⟩ := bind_some hF
                      refine C_x0 .nil (X_callS cf111.h (.cons (.tmp rfl rfl) (.cons (.int _ _) (.cons (.int _ _) .nil))) (i_within_ok a_m.Spent 0 1000000 _ hx35)) (fun _ => ?_)
                      refine C_val (V_pick (b := true) (u := (.bool r34)) (v := (.bool false)) (.tmp rfl rfl) (.tmp rfl rfl) (.bool _)) ?_
                      refine Cm (.bool r34) rfl rfl ?_
                      rcases Bool.eq_false_or_eq_true r34 with hg37 | hg37
                      · rw [hg37]
                        try rw [hg37] at hF; dsimp only [cond_true, cond_false] at hF
                        refine C_on (t := 68) rfl rfl rfl ?_
                        refine C_val (V_fieldAddr (off := 11) fd48_9.h (.tmp rfl rfl)) ?_
                        refine C_on (t := 68) rfl rfl rfl ?_
                        refine C_at .h (fun hp => V_load (v := v0_11.v) ag32.h (.tmp rfl rfl) hp.2 rfl rfl) ?_
                        refine C_on (t := 68) rfl rfl rfl ?_
                        refine C_at (.t (.t (.t (.t (.t (.t (.t (.t .h)))))))) (fun hp => V_lenR (l := a_m.Results.length) sl32.h (.tmp rfl rfl) (crd_len hp)) ?_
                        refine C_on (t := 68) rfl rfl rfl ?_
                        refine C_val (V_leq (i := (a_m.Results.length : Int)) (j := 100) (.tmp rfl rfl) (.int _ _)) ?_
                        refine C_val (V_pick (b := true) (u := (.bool (decide (((a_m.Results.length : Int) : Int) ≤ 100)))) (v := (.bool false)) (.tmp rfl rfl) (.tmp rfl rfl) (.bool _)) ?_
                        refine Ca (.bool (decide (((a_m.Results.length : Int) : Int) ≤ 100))) rfl rfl ?_
                        refine C_nil ?_
                        obtain rfl := Option.some.inj hF
                        exact ⟨_, _, rfl, (EqL.cons rfl (EqL.nil)).eq, (.sel .nil)⟩
                      rw [hg37]
                      try rw [hg37] at hF; dsimp only [cond_true, cond_false] at hF
                      iterate 4 refine C_off (t := 68) rfl rfl rfl ?_
                      refine C_val (V_pick (b := false) (u := undef) (v := (.bool false)) (.tmp rfl rfl) (.tmp rfl rfl) (.bool _)) ?_
                      refine Ca (.bool false) rfl rfl ?_
                      refine C_nil ?_
                      obtain rfl := Option.some.inj hF
                      exact ⟨_, _, rfl, (EqL.cons rfl (EqL.nil)).eq, (.sel .nil)⟩
                    rw [hg33]
                    try rw [hg33] at hF; dsimp only [cond_true, cond_false] at hF
                    iterate 3 refine C_off (t := 63) rfl rfl rfl ?_
                    refine C_val (V_pick (b := false) (u := undef) (v := (.bool false)) (.tmp rfl rfl) (.tmp rfl rfl) (.bool _)) ?_
                    refine Cm (.bool false) rfl rfl ?_
                    iterate 4 refine C_off (t := 68) rfl rfl rfl ?_
                    refine C_val (V_pick (b := false) (u := undef) (v := (.bool false)) (.tmp rfl rfl) (.tmp rfl rfl) (.bool _)) ?_
                    refine Ca (.bool false) rfl rfl ?_
                    refine C_nil ?_
                    obtain rfl := Option.some.inj hF
                    exact ⟨_, _, rfl, (EqL.cons rfl (EqL.nil)).eq, (.sel .nil)⟩
                  rw [hg29]
                  try rw [hg29] at hF; dsimp only [cond_true, cond_false] at hF
                  iterate 3 refine C_off (t := 58) rfl rfl rfl ?_
                  refine C_val (V_pick (b := false) (u := undef) (v := (.bool false)) (.tmp rfl rfl) (.tmp rfl rfl) (.bool _)) ?_
                  refine Cm (.bool false) rfl rfl ?_
                  iterate 3 refine C_off (t := 63) rfl rfl rfl ?_
                  refine C_val (V_pick (b := false) (u := undef) (v := (.bool false)) (.tmp rfl rfl) (.tmp rfl rfl) (.bool _)) ?_
                  refine Cm (.bool false) rfl rfl ?_
                  iterate 4 refine C_off (t := 68) rfl rfl rfl ?_
                  refine C_val (V_pick (b := false) (u := undef) (v := (.bool false)) (.tmp rfl rfl) (.tmp rfl rfl) (.bool _)) ?_
                  refine Ca (.bool false) rfl rfl ?_
                  refine C_nil ?_
                  obtain rfl := Option.some.inj hF
                  exact ⟨_, _, rfl, (EqL.cons rfl (EqL.nil)).eq, (.sel .nil)⟩
                rw [hg28]
                try rw [hg28] at hF; dsimp only [cond_true, cond_false] at hF
                iterate 7 refine C_off (t := 49) rfl rfl rfl ?_
                refine C_val (V_pick (b := false) (u := undef) (v := (.bool false)) (.tmp rfl rfl) (.tmp rfl rfl) (.bool _)) ?_
                refine Cm (.bool false) rfl rfl ?_
                iterate 3 refine C_off (t := 58) rfl rfl rfl ?_
                refine C_val (V_pick (b := false) (u := undef) (v := (.bool false)) (.tmp rfl rfl) (.tmp rfl rfl) (.bool _)) ?_
                refine Cm (.bool false) rfl rfl ?_
                iterate 3 refine C_off (t := 63) rfl rfl rfl ?_
                refine C_val (V_pick (b := false) (u := undef) (v := (.bool false)) (.tmp rfl rfl) (.tmp rfl rfl) (.bool _)) ?_
                refine Cm (.bool false) rfl rfl ?_
                iterate 4 refine C_off (t := 68) rfl rfl rfl ?_
                refine C_val (V_pick (b := false) (u := undef) (v := (.bool false)) (.tmp rfl rfl) (.tmp rfl rfl) (.bool _)) ?_
                refine Ca (.bool false) rfl rfl ?_
                refine C_nil ?_
                obtain rfl := Option.some.inj hF
                exact ⟨_, _, rfl, (EqL.cons rfl (EqL.nil)).eq, (.sel .nil)⟩
              rw [hg24]
              try rw [hg24] at hF; dsimp only [cond_true, cond_false] at hF
              iterate 5 refine C_off (t := 42) rfl rfl rfl ?_
              refine C_val (V_pick (b := false) (u := undef) (v := (.bool false)) (.tmp rfl rfl) (.tmp rfl rfl) (.bool _)) ?_
              refine Cm (.bool false) rfl rfl ?_
              iterate 7 refine C_off (t := 49) rfl rfl rfl ?_
              refine C_val (V_pick (b := false) (u := undef) (v := (.bool false)) (.tmp rfl rfl) (.tmp rfl rfl) (.bool _)) ?_
              refine Cm (.bool false) rfl rfl ?_
              iterate 3 refine C_off (t := 58) rfl rfl rfl ?_
              refine C_val (V_pick (b := false) (u := undef) (v := (.bool false)) (.tmp rfl rfl) (.tmp rfl rfl) (.bool _)) ?_
              refine Cm (.bool false) rfl rfl ?_
              iterate 3 refine C_off (t := 63) rfl rfl rfl ?_
              refine C_val (V_pick (b := false) (u := undef) (v := (.bool false)) (.tmp rfl rfl) (.tmp rfl rfl) (.bool _)) ?_
              refine Cm (.bool false) rfl rfl ?_
              iterate 4 refine C_off (t := 68) rfl rfl rfl ?_
              refine C_val (V_pick (b := false) (u := undef) (v := (.bool false)) (.tmp rfl rfl) (.tmp rfl rfl) (.bool _)) ?_
              refine Ca (.bool false) rfl rfl ?_
              refine C_nil ?_
              obtain rfl := Option.some.inj hF
              exact ⟨_, _, rfl, (EqL.cons rfl (EqL.nil)).eq, (.sel .nil)⟩
            rw [hg23]
            try rw [hg23] at hF; dsimp only [cond_true, cond_false] at hF
            iterate 4 refine C_off (t := 36) rfl rfl rfl ?_
            refine C_val (V_pick (b := false) (u := undef) (v := (.bool false)) (.tmp rfl rfl) (.tmp rfl rfl) (.bool _)) ?_
            refine Cm (.bool false) rfl rfl ?_
            iterate 5 refine C_off (t := 42) rfl rfl rfl ?_
            refine C_val (V_pick (b := false) (u := undef) (v := (.bool false)) (.tmp rfl rfl) (.tmp rfl rfl) (.bool _)) ?_
            refine Cm (.bool false) rfl rfl ?_
            iterate 7 refine C_off (t := 49) rfl rfl rfl ?_
            refine C_val (V_pick (b := false) (u := undef) (v := (.bool false)) (.tmp rfl rfl) (.tmp rfl rfl) (.bool _)) ?_
            refine Cm (.bool false) rfl rfl ?_
            iterate 3 refine C_off (t := 58) rfl rfl rfl ?_
            refine C_val (V_pick (b := false) (u := undef) (v := (.bool false)) (.tmp rfl rfl) (.tmp rfl rfl) (.bool _)) ?_
            refine Cm (.bool false) rfl rfl ?_
            iterate 3 refine C_off (t := 63) rfl rfl rfl ?_
            refine C_val (V_pick (b := false) (u := undef) (v := (.bool false)) (.tmp rfl rfl) (.tmp rfl rfl) (.bool _)) ?_
            refine Cm (.bool false) rfl rfl ?_
            iterate 4 refine C_off (t := 68) rfl rfl rfl ?_
            refine C_val (V_pick (b := false) (u := undef) (v := (.bool false)) (.tmp rfl rfl) (.tmp rfl rfl) (.bool _)) ?_
            refine Ca (.bool false) rfl rfl ?_
            refine C_nil ?_
            obtain rfl := Option.some.inj hF
            exact ⟨_, _, rfl, (EqL.cons rfl (EqL.nil)).eq, (.sel .nil)⟩
          rw [hg19]
          try rw [hg19] at hF; dsimp only [cond_true, cond_false] at hF
          iterate 3 refine C_off (t := 31) rfl rfl rfl ?_
          refine C_val (V_pick (b := false) (u := undef) (v := (.bool false)) (.tmp rfl rfl) (.tmp rfl rfl) (.bool _)) ?_
          refine Cm (.bool false) rfl rfl ?_
          iterate 4 refine C_off (t := 36) rfl rfl rfl ?_
          refine C_val (V_pick (b := false) (u := undef) (v := (.bool false)) (.tmp rfl rfl) (.tmp rfl rfl) (.bool _)) ?_
          refine Cm (.bool false) rfl rfl ?_
          iterate 5 refine C_off (t := 42) rfl rfl rfl ?_
          refine C_val (V_pick (b := false) (u := undef) (v := (.bool false)) (.tmp rfl rfl) (.tmp rfl rfl) (.bool _)) ?_
          refine Cm (.bool false) rfl rfl ?_
          iterate 7 refine C_off (t := 49) rfl rfl rfl ?_
          refine C_val (V_pick (b := false) (u := undef) (v := (.bool false)) (.tmp rfl rfl) (.tmp rfl rfl) (.bool _)) ?_
          refine Cm (.bool false) rfl rfl ?_
          iterate 3 refine C_off (t := 58) rfl rfl rfl ?_
          refine C_val (V_pick (b := false) (u := undef) (v := (.bool false)) (.tmp rfl rfl) (.tmp rfl rfl) (.bool _)) ?_
          refine Cm (.bool false) rfl rfl ?_
          iterate 3 refine C_off (t := 63) rfl rfl rfl ?_
          refine C_val (V_pick (b := false) (u := undef) (v := (.bool false)) (.tmp rfl rfl) (.tmp rfl rfl) (.bool _)) ?_
          refine Cm (.bool false) rfl rfl ?_
          iterate 4 refine C_off (t := 68) rfl rfl rfl ?_
          refine C_val (V_pick (b := false) (u := undef) (v := (.bool false)) (.tmp rfl rfl) (.tmp rfl rfl) (.bool _)) ?_
          refine Ca (.bool false) rfl rfl ?_
          refine C_nil ?_
          obtain rfl := Option.some.inj hF
          exact ⟨_, _, rfl, (EqL.cons rfl (EqL.nil)).eq, (.sel .nil)⟩
        rw [hg15]
        try rw [hg15] at hF; dsimp only [cond_true, cond_false] at hF
        iterate 7 refine C_off (t := 22) rfl rfl rfl ?_
        refine C_val (V_pick (b := false) (u := undef) (v := (.bool false)) (.tmp rfl rfl) (.tmp rfl rfl) (.bool _)) ?_
        refine Cm (.bool false) rfl rfl ?_
        iterate 3 refine C_off (t := 31) rfl rfl rfl ?_
        refine C_val (V_pick (b := false) (u := undef) (v := (.bool false)) (.tmp rfl rfl) (.tmp rfl rfl) (.bool _)) ?_
        refine Cm (.bool false) rfl rfl ?_
        iterate 4 refine C_off (t := 36) rfl rfl rfl ?_
        refine C_val (V_pick (b := false) (u := undef) (v := (.bool false)) (.tmp rfl rfl) (.tmp rfl rfl) (.bool _)) ?_
        refine Cm (.bool false) rfl rfl ?_
        iterate 5 refine C_off (t := 42) rfl rfl rfl ?_
        refine C_val (V_pick (b := false) (u := undef) (v := (.bool false)) (.tmp rfl rfl) (.tmp rfl rfl) (.bool _)) ?_
        refine Cm (.bool false) rfl rfl ?_
        iterate 7 refine C_off (t := 49) rfl rfl rfl ?_
        refine C_val (V_pick (b := false) (u := undef) (v := (.bool false)) (.tmp rfl rfl) (.tmp rfl rfl) (.bool _)) ?_
        refine Cm (.bool false) rfl rfl ?_
        iterate 3 refine C_off (t := 58) rfl rfl rfl ?_
        refine C_val (V_pick (b := false) (u := undef) (v := (.bool false)) (.tmp rfl rfl) (.tmp rfl rfl) (.bool _)) ?_
        refine Cm (.bool false) rfl rfl ?_
        iterate 3 refine C_off (t := 63) rfl rfl rfl ?_
        refine C_val (V_pick (b := false) (u := undef) (v := (.bool false)) (.tmp rfl rfl) (.tmp rfl rfl) (.bool _)) ?_
        refine Cm (.bool false) rfl rfl ?_
        iterate 4 refine C_off (t := 68) rfl rfl rfl ?_
        refine C_val (V_pick (b := false) (u := undef) (v := (.bool false)) (.tmp rfl rfl) (.tmp rfl rfl) (.bool _)) ?_
        refine Ca (.bool false) rfl rfl ?_
        refine C_nil ?_
        obtain rfl := Option.some.inj hF
        exact ⟨_, _, rfl, (EqL.cons rfl (EqL.nil)).eq, (.sel .nil)⟩
      rw [hg11]
      try rw [hg11] at hF; dsimp only [cond_true, cond_false] at hF
      iterate 5 refine C_off (t := 15) rfl rfl rfl ?_
      refine C_val (V_pick (b := false) (u := undef) (v := (.bool false)) (.tmp rfl rfl) (.tmp rfl rfl) (.bool _)) ?_
      refine Cm (.bool false) rfl rfl ?_
      iterate 7 refine C_off (t := 22) rfl rfl rfl ?_
      refine C_val (V_pick (b := false) (u := undef) (v := (.bool false)) (.tmp rfl rfl) (.tmp rfl rfl) (.bool _)) ?_
      refine Cm (.bool false) rfl rfl ?_
      iterate 3 refine C_off (t := 31) rfl rfl rfl ?_
      refine C_val (V_pick (b := false) (u := undef) (v := (.bool false)) (.tmp rfl rfl) (.tmp rfl rfl) (.bool _)) ?_
      refine Cm (.bool false) rfl rfl ?_
      iterate 4 refine C_off (t := 36) rfl rfl rfl ?_
      refine C_val (V_pick (b := false) (u := undef) (v := (.bool false)) (.tmp rfl rfl) (.tmp rfl rfl) (.bool _)) ?_
      refine Cm (.bool false) rfl rfl ?_
      iterate 5 refine C_off (t := 42) rfl rfl rfl ?_
      refine C_val (V_pick (b := false) (u := undef) (v := (.bool false)) (.tmp rfl rfl) (.tmp rfl rfl) (.bool _)) ?_
      refine Cm (.bool false) rfl rfl ?_
      iterate 7 refine C_off (t := 49) rfl rfl rfl ?_
      refine C_val (V_pick (b := false) (u := undef) (v := (.bool false)) (.tmp rfl rfl) (.tmp rfl rfl) (.bool _)) ?_
      refine Cm (.bool false) rfl rfl ?_
      iterate 3 refine C_off (t := 58) rfl rfl rfl ?_
      refine C_val (V_pick (b := false) (u := undef) (v := (.bool false)) (.tmp rfl rfl) (.tmp rfl rfl) (.bool _)) ?_
      refine Cm (.bool false) rfl rfl ?_
      iterate 3 refine C_off (t := 63) rfl rfl rfl ?_
      refine C_val (V_pick (b := false) (u := undef) (v := (.bool false)) (.tmp rfl rfl) (.tmp rfl rfl) (.bool _)) ?_
      refine Cm (.bool false) rfl rfl ?_
      iterate 4 refine C_off (t := 68) rfl rfl rfl ?_
      refine C_val (V_pick (b := false) (u := undef) (v := (.bool false)) (.tmp rfl rfl) (.tmp rfl rfl) (.bool _)) ?_
      refine Ca (.bool false) rfl rfl ?_
      refine C_nil ?_
      obtain rfl := Option.some.inj hF
      exact ⟨_, _, rfl, (EqL.cons rfl (EqL.nil)).eq, (.sel .nil)⟩
    rw [hg7]
    try rw [hg7] at hF; dsimp only [cond_true, cond_false] at hF
    iterate 5 refine C_off (t := 8) rfl rfl rfl ?_
    refine C_val (V_pick (b := false) (u := undef) (v := (.bool false)) (.tmp rfl rfl) (.tmp rfl rfl) (.bool _)) ?_
    refine Cm (.bool false) rfl rfl ?_
    iterate 5 refine C_off (t := 15) rfl rfl rfl ?_
    refine C_val (V_pick (b := false) (u := undef) (v := (.bool false)) (.tmp rfl rfl) (.tmp rfl rfl) (.bool _)) ?_
    refine Cm (.bool false) rfl rfl ?_
    iterate 7 refine C_off (t := 22) rfl rfl rfl ?_
    refine C_val (V_pick (b := false) (u := undef) (v := (.bool false)) (.tmp rfl rfl) (.tmp rfl rfl) (.bool _)) ?_
    refine Cm (.bool false) rfl rfl ?_
    iterate 3 refine C_off (t := 31) rfl rfl rfl ?_
    refine C_val (V_pick (b := false) (u := undef) (v := (.bool false)) (.tmp rfl rfl) (.tmp rfl rfl) (.bool _)) ?_
    refine Cm (.bool false) rfl rfl ?_
    iterate 4 refine C_off (t := 36) rfl rfl rfl ?_
    refine C_val (V_pick (b := false) (u := undef) (v := (.bool false)) (.tmp rfl rfl) (.tmp rfl rfl) (.bool _)) ?_
    refine Cm (.bool false) rfl rfl ?_
    iterate 5 refine C_off (t := 42) rfl rfl rfl ?_
    refine C_val (V_pick (b := false) (u := undef) (v := (.bool false)) (.tmp rfl rfl) (.tmp rfl rfl) (.bool _)) ?_
    refine Cm (.bool false) rfl rfl ?_
    iterate 7 refine C_off (t := 49) rfl rfl rfl ?_
    refine C_val (V_pick (b := false) (u := undef) (v := (.bool false)) (.tmp rfl rfl) (.tmp rfl rfl) (.bool _)) ?_
    refine Cm (.bool false) rfl rfl ?_
    iterate 3 refine C_off (t := 58) rfl rfl rfl ?_
    refine C_val (V_pick (b := false) (u := undef) (v := (.bool false)) (.tmp rfl rfl) (.tmp rfl rfl) (.bool _)) ?_
    refine Cm (.bool false) rfl rfl ?_
    iterate 3 refine C_off (t := 63) rfl rfl rfl ?_
    refine C_val (V_pick (b := false) (u := undef) (v := (.bool false)) (.tmp rfl rfl) (.tmp rfl rfl) (.bool _)) ?_
    refine Cm (.bool false) rfl rfl ?_
    iterate 4 refine C_off (t := 68) rfl rfl rfl ?_
    refine C_val (V_pick (b := false) (u := undef) (v := (.bool false)) (.tmp rfl rfl) (.tmp rfl rfl) (.bool _)) ?_
    refine Ca (.bool false) rfl rfl ?_
    refine C_nil ?_
    obtain rfl := Option.some.inj hF
    exact ⟨_, _, rfl, (EqL.cons rfl (EqL.nil)).eq, (.sel .nil)⟩
  rintro _ _ ⟨c38, g39, rfl, rfl, hE⟩
  replace hF := hO3
  clear hO3
  try dsimp only at hF
  refine K_ent hE ?_
  refine CW_ret ?_
  obtain rfl := Option.some.inj hF
  exact End_ret () (.tmp rfl rfl .nil) rfl (.sel .nil)

/-! strconv.Itoa -/
def g_strconv_Itoa (a_n : Int) : Option (List UInt8) :=
  if -9223372036854775808 ≤ a_n ∧ a_n ≤ 9223372036854775807 then some (Lib.itoa a_n) else none
theorem g_strconv_Itoa_ok (a_n : Int) (R : List UInt8) (hF : g_strconv_Itoa a_n = some R) :
    Fw.Spec Tryz.prog 113 [.int .i64 a_n] [] (fun _ : Unit => (sv R)) (fun _ => []) := by
  unfold g_strconv_Itoa at hF
  split at hF
  · rename_i h
    cases hF
    exact Spec_itoa fun w hv => Go.Proofs.Any.strconv_Itoa laysM171 a_n h.1 h.2 w (Vok.var (fun _ h => h) hv.choose_spec)
  · simp at hF

/-! impl.FormatInt -/
def i_FormatInt (a_n : Int) : Option ((List UInt8)) :=
  (g_strconv_Itoa a_n).bind fun r1 =>
  some r1
theorem i_FormatInt_ok (a_n : Int) (R : (List UInt8)) (hF : i_FormatInt a_n = some R) :
    Fw.Spec Tryz.prog 47 [(.int .i64 a_n)] [] (fun _ : Unit => (sv R)) (fun _ => []) := by
  refine Spec_enter (n := 5) Tryz.func47 rfl rfl (rs := [.tmp 2]) rfl rfl rfl ?_
  intro H0 F0
  unfold i_FormatInt at hF
  iterate 5 refine au ?_
  obtain ⟨r1, hx2, hF⟩ := bind_some hF
  refine Cx0 (g_strconv_Itoa_ok _ _ hx2) (fun _ => ?_)
  iterate 3 refine au ?_
  cases hF
  exact Er ()

/-! strings.Join -/
def g_strings_Join (a_e : List (List UInt8)) (a_sep : List UInt8) : Option (List UInt8) :=
  if a_e.length < 4294967296 ∧ (Lib.join a_e a_sep).length < 4294967296 then some (Lib.join a_e a_sep) else none
theorem g_strings_Join_ok (a_e : List (List UInt8)) (v0_0 : Sv) (a_sep : List UInt8) (R : List UInt8) (hF : g_strings_Join a_e a_sep = some R) :
    Fw.Spec Tryz.prog 115 [v0_0.v, sv a_sep] [crd (RdS 9 rdStr) v0_0.v a_e] (fun _ : Unit => (sv R)) (fun _ => []) := by
  unfold g_strings_Join at hF
  split at hF
  · rename_i h
    cases hF
    exact Spec_join ty9.h.sz (Go.Proofs.Any.strings_Join_none lays156 extra) (Go.Proofs.Any.strings_Join lays156 extra) h.1 h.2
  · simp at hF

/-! impl.joined -/
def i_joined_L1 (a_by : List UInt8) : List Int → Nat → (List (List UInt8)) → Option ((List UInt8))
  | [], k8, c2 => (g_strings_Join c2 a_by).bind fun r17 =>
    some r17
  | x10 :: rest9, k8, c2 => (i_FormatInt x10).bind fun r22 =>
    (app c2 ([r22] : List (List UInt8))).bind fun z26 =>
    i_joined_L1 a_by rest9 (k8 + 1) z26
def i_joined (a_l : List Int) (a_by : List UInt8) : Option ((List UInt8)) :=
  i_joined_L1 a_by a_l 0 ([] : List (List UInt8))
theorem i_joined_ok (a_l : List Int) (v0_0 : Sv) (a_by : List UInt8) (R : (List UInt8)) (hF : i_joined a_l a_by = some R) :
    Fw.Spec Tryz.prog 83 [v0_0.v, (sv a_by)] [crd (RdS 3 rdInt) v0_0.v a_l] (fun _ : Unit => (sv R)) (fun _ => []) := by
  refine Spec_enter (n := 24) Tryz.func83 rfl rfl (rs := [.tmp 4]) rfl rfl rfl ?_
  intro H0 F0
  unfold i_joined at hF
  iterate 4 refine au ?_
  refine C_new rfl (N_buildSliceT (g := true) sl36.h ty9.h .nil (vs := []) rfl rfl rfl (by simp)) (fun k1 => ?_)
  refine Cv1 (.cons .h .nil) (own_lit (Ro := (roE rdStr)) (E := 9) (F := []) (xs := ([] : List (List UInt8))) MkL_nil rfl rfl) ?_
  iterate 8 refine au ?_
  refine CW_block (CW_loop (m := a_l.length) (fun m6 f' cs' => ∃ (g : Fr) (k8 : Nat) (rest9 : List Int) (c2 : List (List UInt8)) (v3 : Sv) (F4 : List Nat), m6 = rest9.length ∧ f' = updL g [(1, (sv a_by)), (5, v3.v), (9, v0_0.v), (10, (.int .i64 (a_l.length : Int))), (11, (.int .i64 (k8 : Int)))] ∧ List.drop k8 a_l = rest9 ∧ Ent cs' [cown (OwnS 9 (roE rdStr)) F4 v3.v c2, crd (RdS 3 rdInt) v0_0.v a_l] ∧ i_joined_L1 a_by rest9 k8 c2 = some R) ⟨_, 0, _, _, ⟨(some ⟨k1, 0, none⟩), 0, 1⟩, (k1 :: []), rfl, eqA, rfl, entA, hF⟩ ?_)
  clear hF
  rintro m6 _ _ ⟨g7, k8, rest9, c2, v3, F4, rfl, rfl, hd11, hE, hF⟩
  refine K_ent hE ?_
  clear hE
  refine K_pure (c := crd (RdS 3 rdInt) v0_0.v a_l) (.t .h) crd_bound (fun hbd16 => ?_)
  rcases rest9 with _ | ⟨x10, rest9⟩
  · have hk12 := List.drop_eq_nil_iff.1 hd11
    rw [i_joined_L1] at hF
    iterate 4 refine au ?_
    refine CdF ?_
    iterate 7 refine au ?_
    obtain ⟨r17, hx18, hF⟩ := bind_some hF
    refine C_x1 (.cons .h .nil) (XC_bor frz_own (fun _ => .nil) (X_callS cf115.h (.cons (.tmp rfl rfl) (.cons (.tmp rfl rfl) .nil)) (g_strings_Join_ok c2 v3 a_by _ hx18))) (fun _ => ?_)
    iterate 3 refine au ?_
    cases hF
    exact Er ()
  obtain ⟨hk12, hx13, hd14⟩ := drop_cons hd11
  rw [i_joined_L1] at hF
  iterate 4 refine au ?_
  refine CdT ?_
  iterate 3 refine au ?_
  refine Ai hx13 (fun k20 j21 => ?_)
  refine Al ls3_0 ?_
  iterate 5 refine au ?_
  obtain ⟨r22, hx23, hF⟩ := bind_some hF
  refine Cx0 (i_FormatInt_ok _ _ hx23) (fun _ => ?_)
  refine C_new rfl (N_buildSliceT (g := true) sl36.h ty9.h (.cons (.tmp rfl rfl) .nil) (vs := [(sv r22)]) rfl rfl rfl (by intro v hv; simp at hv; rcases hv with rfl <;> rfl)) (fun k25 => ?_)
  refine Cv1 (.cons .h .nil) (own_lit (Ro := (roE rdStr)) (E := 9) (F := ([] ++ [])) (xs := ([r22] : List (List UInt8))) (MkL_cons (Mk_pure (fun _ => rfl)) MkL_nil apps) rfl rfl) ?_
  obtain ⟨z26, hx27, hF⟩ := bind_some hF
  refine C_x1 (.cons (.t (.t .h)) (.cons .h .nil)) (X_appendO (Ro := (roE rdStr)) sl36.h ni36 ty9.h rfl rfl rfl (.tmp rfl rfl) (.tmp rfl rfl) hx27 src_own) (fun p28 => ?_)
  iterate 6 refine au ?_
  rw [wk k8]
  exact ⟨_, Nat.lt_succ_self _, _, k8 + 1, rest9, _, p28.1, p28.2, rfl, eqA, hd14, entA, hF⟩

/-! impl.FormatAccess -/
def i_FormatAccess (a_a : Access) : Option ((List UInt8)) :=
  ((i_within a_a.Method 0 4).bind fun r4 =>
    bif (!r4) then (some true)
    else (bif (decide ((3 : Int) < (a_a.Values.length : Int))) then (some true)
      else ((i_areValues a_a.Values).bind fun r9 =>
        some (!r9)))).bind fun o2 =>
  match o2 with
  | c12 => if c12 then (
      some [])
    else (
      (i_FormatInt a_a.Method).bind fun r13 =>
      (cat [109] r13).bind fun x16 =>
      (cat x16 [40]).bind fun x20 =>
      (i_joined a_a.Values [44]).bind fun r24 =>
      (cat x20 r24).bind fun x27 =>
      (cat x27 [41]).bind fun x31 =>
      some x31)
theorem i_FormatAccess_ok (a_a : Access) (v0_1 : Sv) (R : (List UInt8)) (hF : i_FormatAccess a_a = some R) :
    Fw.Spec Tryz.prog 46 [(.agg [(.int .i64 a_a.Method), v0_1.v].toArray)] [crd (RdS 3 rdInt) v0_1.v a_a.Values] (fun _ : Unit => (sv R)) (fun _ => []) := by
  refine Spec_enter (n := 29) Tryz.func46 rfl rfl (rs := [.tmp 2]) rfl rfl rfl ?_
  intro H0 F0
  unfold i_FormatAccess at hF
  refine au ?_
  refine AbR (fun k1 => ?_)
  iterate 3 refine au ?_
  obtain ⟨o2, hio2, hO3⟩ := bind_some hF
  refine au ?_
  refine C_cut (fun f' cs' => ∃ (c12 : Bool) (g : Fr), c12 = o2 ∧ f' = updL g [(1, (.pointer (some ⟨k1, 0, some 0⟩))), (18, (.bool c12))] ∧ Ent cs' [cboR k1 80 (.agg [(.int .i64 a_a.Method), v0_1.v].toArray), crd (RdS 3 rdInt) v0_1.v a_a.Values]) ?_ ?_
  · replace hF := hio2
    iterate 2 refine au ?_
    obtain ⟨r4, hx5, hF⟩ := bind_some hF
    refine Cx0 (i_within_ok _ _ _ _ hx5) (fun _ => ?_)
    iterate 2 refine au ?_
    rcases Bool.eq_false_or_eq_true (!r4) with hg7 | hg7
    · rw [hg7]
      try rw [hg7] at hF; dsimp only [cond_true, cond_false] at hF
      iterate 12 refine au ?_
      cases hF
      exact ⟨_, _, rfl, eqA, entA⟩
    rw [hg7]
    try rw [hg7] at hF; dsimp only [cond_true, cond_false] at hF
    iterate 10 refine au ?_
    rcases Bool.eq_false_or_eq_true (decide ((3 : Int) < (a_a.Values.length : Int))) with hg8 | hg8
    · rw [hg8]
      try rw [hg8] at hF; dsimp only [cond_true, cond_false] at hF
      iterate 6 refine au ?_
      cases hF
      exact ⟨_, _, rfl, eqA, entA⟩
    rw [hg8]
    try rw [hg8] at hF; dsimp only [cond_true, cond_false] at hF
    iterate 5 refine au ?_
    obtain ⟨r9, hx10, hF⟩ := bind_some hF
    refine Cx0 (i_areValues_ok _ _ _ hx10) (fun _ => ?_)
    iterate 4 refine au ?_
    cases hF
    exact ⟨_, _, rfl, eqA, entA⟩
  rintro _ _ ⟨c12, g36, rfl, rfl, hE⟩
  replace hF := hO3
  clear hO3
  try dsimp only at hF
  refine K_ent hE ?_
  refine Cc (fun hb35 => ?_) (fun hb35 => ?_)
  · rw [if_pos hb35] at hF
    iterate 4 refine au ?_
    cases hF
    exact Er ()
  rw [if_neg (nt hb35)] at hF
  refine au ?_
  refine K_draw [0, 1, 5, 6, 2, 3, 4, 7, 8, 9, 10] [0, 1, 3, 7, 15, 0, 32, 103, 255, 511, 1023] [2, 7] mixed (by decide +kernel) ?_
  iterate 4 refine du ?_
  obtain ⟨r13, hx14, hF⟩ := bind_some hF
  refine Dx0 (i_FormatInt_ok _ _ hx14) (fun _ => ?_)
  obtain ⟨x16, hx17, hF⟩ := bind_some hF
  obtain ⟨hq19, hz18⟩ := cat_some hx17
  refine D_val rfl .no (fun ha => V_concatN (s := [109]) (t := r13) (u := x16) (EN ha (.sv _) rfl) (EN ha (.tmp rfl rfl) rfl) hx17) ?_
  obtain ⟨x20, hx21, hF⟩ := bind_some hF
  obtain ⟨hq23, hz22⟩ := cat_some hx21
  refine D_val rfl .no (fun ha => V_concatN (s := x16) (t := [40]) (u := x20) (EN ha (.tmp rfl rfl) rfl) (EN ha (.sv _) rfl) hx21) ?_
  obtain ⟨r24, hx25, hF⟩ := bind_some hF
  refine Dx0 (i_joined_ok _ _ _ _ hx25) (fun _ => ?_)
  obtain ⟨x27, hx28, hF⟩ := bind_some hF
  obtain ⟨hq30, hz29⟩ := cat_some hx28
  refine D_val rfl .no (fun ha => V_concatN (s := x20) (t := r24) (u := x27) (EN ha (.tmp rfl rfl) rfl) (EN ha (.tmp rfl rfl) rfl) hx28) ?_
  obtain ⟨x31, hx32, hF⟩ := bind_some hF
  obtain ⟨hq34, hz33⟩ := cat_some hx32
  refine D_val rfl .no (fun ha => V_concatN (s := x27) (t := [41]) (u := x31) (EN ha (.tmp rfl rfl) rfl) (EN ha (.sv _) rfl) hx32) ?_
  iterate 2 refine du ?_
  refine au ?_
  cases hF
  exact Er ()

/-! impl.isRel -/
def i_isRel (a_rel : Int) : Option (Bool) :=
  (i_within a_rel 0 2).bind fun r1 =>
  some r1
theorem i_isRel_ok (a_rel : Int) (R : Bool) (hF : i_isRel a_rel = some R) :
    Fw.Spec Tryz.prog 163 [(.int .i64 a_rel)] [] (fun _ : Unit => (.bool R)) (fun _ => []) := by
  refine Spec_enter (n := 5) Tryz.func163 rfl rfl (rs := [.tmp 2]) rfl rfl rfl ?_
  intro H0 F0
  unfold i_isRel at hF
  iterate 5 refine au ?_
  obtain ⟨r1, hx2, hF⟩ := bind_some hF
  refine Cx0 (i_within_ok _ _ _ _ hx2) (fun _ => ?_)
  iterate 3 refine au ?_
  cases hF
  exact Er ()

/-! impl.FormatFact -/
def i_FormatFact (a_f : Fact) : Option ((List UInt8)) :=
  ((i_isRel a_f.Rel).bind fun r4 =>
    bif (!r4) then (some true)
    else ((i_within (a_f.Values.length : Int) 1 3).bind fun r8 =>
      bif (!r8) then (some true)
      else ((i_areValues a_f.Values).bind fun r12 =>
        some (!r12)))).bind fun o2 =>
  match o2 with
  | c15 => if c15 then (
      some [])
    else (
      (i_FormatInt a_f.Rel).bind fun r16 =>
      (cat [114] r16).bind fun x19 =>
      (cat x19 [40]).bind fun x23 =>
      (i_joined a_f.Values [44]).bind fun r27 =>
      (cat x23 r27).bind fun x30 =>
      (cat x30 [41]).bind fun x34 =>
      some x34)
theorem i_FormatFact_ok (a_f : Fact) (v0_1 : Sv) (R : (List UInt8)) (hF : i_FormatFact a_f = some R) :
    Fw.Spec Tryz.prog 114 [(.agg [(.int .i64 a_f.Rel), v0_1.v].toArray)] [crd (RdS 3 rdInt) v0_1.v a_f.Values] (fun _ : Unit => (sv R)) (fun _ => []) := by
  refine Spec_enter (n := 30) Tryz.func114 rfl rfl (rs := [.tmp 2]) rfl rfl rfl ?_
  intro H0 F0
  unfold i_FormatFact at hF
  refine au ?_
  refine AbR (fun k1 => ?_)
  iterate 3 refine au ?_
  obtain ⟨o2, hio2, hO3⟩ := bind_some hF
  refine au ?_
  refine C_cut (fun f' cs' => ∃ (c15 : Bool) (g : Fr), c15 = o2 ∧ f' = updL g [(1, (.pointer (some ⟨k1, 0, some 0⟩))), (19, (.bool c15))] ∧ Ent cs' [cboR k1 114 (.agg [(.int .i64 a_f.Rel), v0_1.v].toArray), crd (RdS 3 rdInt) v0_1.v a_f.Values]) ?_ ?_
  · replace hF := hio2
    iterate 2 refine au ?_
    obtain ⟨r4, hx5, hF⟩ := bind_some hF
    refine Cx0 (i_isRel_ok _ _ hx5) (fun _ => ?_)
    iterate 2 refine au ?_
    rcases Bool.eq_false_or_eq_true (!r4) with hg7 | hg7
    · rw [hg7]
      try rw [hg7] at hF; dsimp only [cond_true, cond_false] at hF
      iterate 13 refine au ?_
      cases hF
      exact ⟨_, _, rfl, eqA, entA⟩
    rw [hg7]
    try rw [hg7] at hF; dsimp only [cond_true, cond_false] at hF
    iterate 7 refine au ?_
    obtain ⟨r8, hx9, hF⟩ := bind_some hF
    refine Cx0 (i_within_ok _ _ _ _ hx9) (fun _ => ?_)
    iterate 4 refine au ?_
    rcases Bool.eq_false_or_eq_true (!r8) with hg11 | hg11
    · rw [hg11]
      try rw [hg11] at hF; dsimp only [cond_true, cond_false] at hF
      iterate 6 refine au ?_
      cases hF
      exact ⟨_, _, rfl, eqA, entA⟩
    rw [hg11]
    try rw [hg11] at hF; dsimp only [cond_true, cond_false] at hF
    iterate 5 refine au ?_
    obtain ⟨r12, hx13, hF⟩ := bind_some hF
    refine Cx0 (i_areValues_ok _ _ _ hx13) (fun _ => ?_)
    iterate 4 refine au ?_
    cases hF
    exact ⟨_, _, rfl, eqA, entA⟩
  rintro _ _ ⟨c15, g39, rfl, rfl, hE⟩
  replace hF := hO3
  clear hO3
  try dsimp only at hF
  refine K_ent hE ?_
  refine Cc (fun hb38 => ?_) (fun hb38 => ?_)
  · rw [if_pos hb38] at hF
    iterate 4 refine au ?_
    cases hF
    exact Er ()
  rw [if_neg (nt hb38)] at hF
  refine au ?_
  refine K_draw [0, 1, 5, 6, 2, 3, 4, 7, 8, 9, 10] [0, 1, 3, 7, 15, 0, 32, 103, 255, 511, 1023] [2, 7] mixed (by decide +kernel) ?_
  iterate 4 refine du ?_
  obtain ⟨r16, hx17, hF⟩ := bind_some hF
  refine Dx0 (i_FormatInt_ok _ _ hx17) (fun _ => ?_)
  obtain ⟨x19, hx20, hF⟩ := bind_some hF
  obtain ⟨hq22, hz21⟩ := cat_some hx20
  refine D_val rfl .no (fun ha => V_concatN (s := [114]) (t := r16) (u := x19) (EN ha (.sv _) rfl) (EN ha (.tmp rfl rfl) rfl) hx20) ?_
  obtain ⟨x23, hx24, hF⟩ := bind_some hF
  obtain ⟨hq26, hz25⟩ := cat_some hx24
  refine D_val rfl .no (fun ha => V_concatN (s := x19) (t := [40]) (u := x23) (EN ha (.tmp rfl rfl) rfl) (EN ha (.sv _) rfl) hx24) ?_
  obtain ⟨r27, hx28, hF⟩ := bind_some hF
  refine Dx0 (i_joined_ok _ _ _ _ hx28) (fun _ => ?_)
  obtain ⟨x30, hx31, hF⟩ := bind_some hF
  obtain ⟨hq33, hz32⟩ := cat_some hx31
  refine D_val rfl .no (fun ha => V_concatN (s := x23) (t := r27) (u := x30) (EN ha (.tmp rfl rfl) rfl) (EN ha (.tmp rfl rfl) rfl) hx31) ?_
  obtain ⟨x34, hx35, hF⟩ := bind_some hF
  obtain ⟨hq37, hz36⟩ := cat_some hx35
  refine D_val rfl .no (fun ha => V_concatN (s := x30) (t := [41]) (u := x34) (EN ha (.tmp rfl rfl) rfl) (EN ha (.sv _) rfl) hx35) ?_
  iterate 2 refine du ?_
  refine au ?_
  cases hF
  exact Er ()

/-! impl.factsText -/
def i_factsText_L1 : List Fact → Nat → (List (List UInt8)) → Option ((List UInt8))
  | [], k8, c2 => (g_strings_Join c2 [32]).bind fun r17 =>
    if (r17 == []) then (
      some [110, 111, 110, 101])
    else (
      some r17)
  | x10 :: rest9, k8, c2 => (i_FormatFact x10).bind fun r25 =>
    (app c2 ([r25] : List (List UInt8))).bind fun z29 =>
    i_factsText_L1 rest9 (k8 + 1) z29
def i_factsText (a_l : List Fact) : Option ((List UInt8)) :=
  i_factsText_L1 a_l 0 ([] : List (List UInt8))
theorem i_factsText_ok (a_l : List Fact) (v0_0 : Sv) (R : (List UInt8)) (hF : i_factsText a_l = some R) :
    Fw.Spec Tryz.prog 48 [v0_0.v] [crd (RdS 114 rd114) v0_0.v a_l] (fun _ : Unit => (sv R)) (fun _ => []) := by
  refine Spec_enter (n := 25) Tryz.func48 rfl rfl (rs := [.tmp 2]) rfl rfl rfl ?_
  intro H0 F0
  unfold i_factsText at hF
  iterate 4 refine au ?_
  refine C_new rfl (N_buildSliceT (g := true) sl36.h ty9.h .nil (vs := []) rfl rfl rfl (by simp)) (fun k1 => ?_)
  refine Cv1 (.cons .h .nil) (own_lit (Ro := (roE rdStr)) (E := 9) (F := []) (xs := ([] : List (List UInt8))) MkL_nil rfl rfl) ?_
  iterate 8 refine au ?_
  refine CW_block (CW_loop (m := a_l.length) (fun m6 f' cs' => ∃ (g : Fr) (k8 : Nat) (rest9 : List Fact) (c2 : List (List UInt8)) (v3 : Sv) (F4 : List Nat), m6 = rest9.length ∧ f' = updL g [(3, v3.v), (8, v0_0.v), (9, (.int .i64 (a_l.length : Int))), (10, (.int .i64 (k8 : Int)))] ∧ List.drop k8 a_l = rest9 ∧ Ent cs' [cown (OwnS 9 (roE rdStr)) F4 v3.v c2, crd (RdS 114 rd114) v0_0.v a_l] ∧ i_factsText_L1 rest9 k8 c2 = some R) ⟨_, 0, _, _, ⟨(some ⟨k1, 0, none⟩), 0, 1⟩, (k1 :: []), rfl, eqA, rfl, entA, hF⟩ ?_)
  clear hF
  rintro m6 _ _ ⟨g7, k8, rest9, c2, v3, F4, rfl, rfl, hd11, hE, hF⟩
  refine K_ent hE ?_
  clear hE
  refine K_pure (c := crd (RdS 114 rd114) v0_0.v a_l) (.t .h) crd_bound (fun hbd16 => ?_)
  rcases rest9 with _ | ⟨x10, rest9⟩
  · have hk12 := List.drop_eq_nil_iff.1 hd11
    rw [i_factsText_L1] at hF
    iterate 4 refine au ?_
    refine CdF ?_
    iterate 6 refine au ?_
    obtain ⟨r17, hx18, hF⟩ := bind_some hF
    refine C_x1 (.cons .h .nil) (XC_bor frz_own (fun _ => .nil) (X_callS cf115.h (.cons (.tmp rfl rfl) (.cons (.sv _) .nil)) (g_strings_Join_ok c2 v3 [32] _ hx18))) (fun _ => ?_)
    iterate 5 refine au ?_
    refine C_val (V_eqT (s := r17) (t := []) (.tmp rfl rfl) (.sv _)) ?_
    refine au ?_
    refine Cc (fun hb20 => ?_) (fun hb20 => ?_)
    · rw [if_pos hb20] at hF
      iterate 4 refine au ?_
      cases hF
      exact Er ()
    rw [if_neg (nt hb20)] at hF
    iterate 6 refine au ?_
    cases hF
    exact Er ()
  obtain ⟨hk12, hx13, hd14⟩ := drop_cons hd11
  rw [i_factsText_L1] at hF
  iterate 4 refine au ?_
  refine CdT ?_
  iterate 3 refine au ?_
  refine Ai hx13 (fun k21 j22 => ?_)
  refine AlA1 (ul114_0_114 x10) la114_0_114 (fun p23 => ?_)
  refine AnW (fun k24 => ?_)
  refine As (.agg [(.int .i64 x10.Rel), p23.v].toArray) ?_
  iterate 4 refine au ?_
  obtain ⟨r25, hx26, hF⟩ := bind_some hF
  refine Cx0 (i_FormatFact_ok _ _ _ hx26) (fun _ => ?_)
  refine C_new rfl (N_buildSliceT (g := true) sl36.h ty9.h (.cons (.tmp rfl rfl) .nil) (vs := [(sv r25)]) rfl rfl rfl (by intro v hv; simp at hv; rcases hv with rfl <;> rfl)) (fun k28 => ?_)
  refine Cv1 (.cons .h .nil) (own_lit (Ro := (roE rdStr)) (E := 9) (F := ([] ++ [])) (xs := ([r25] : List (List UInt8))) (MkL_cons (Mk_pure (fun _ => rfl)) MkL_nil apps) rfl rfl) ?_
  obtain ⟨z29, hx30, hF⟩ := bind_some hF
  refine C_x1 (.cons (.t (.t (.t (.t .h)))) (.cons .h .nil)) (X_appendO (Ro := (roE rdStr)) sl36.h ni36 ty9.h rfl rfl rfl (.tmp rfl rfl) (.tmp rfl rfl) hx30 src_own) (fun p31 => ?_)
  iterate 6 refine au ?_
  rw [wk k8]
  exact ⟨_, Nat.lt_succ_self _, _, k8 + 1, rest9, _, p31.1, p31.2, rfl, eqA, hd14, entA, hF⟩

/-! impl.CacheLines -/
def i_CacheLines_L1 : List Stored → Nat → (List (List UInt8)) → Option ((List (List UInt8)))
  | [], k12, c6 => some c6
  | x14 :: rest13, k12, c6 => (i_FormatAccess x14.Access).bind fun r25 =>
    (cat r25 [32, 97, 116, 32]).bind fun x28 =>
    (i_FormatInt x14.At).bind fun r32 =>
    (cat x28 r32).bind fun x35 =>
    (cat x35 [32]).bind fun x39 =>
    (i_factsText x14.Facts).bind fun r43 =>
    (cat x39 r43).bind fun x46 =>
    (app c6 ([x46] : List (List UInt8))).bind fun z51 =>
    i_CacheLines_L1 rest13 (k12 + 1) z51
def i_CacheLines (a_m : Mediator) : Option ((List (List UInt8))) :=
  (i_IsMediator a_m).bind fun r3 =>
  if (!r3) then (
    some ([] : List (List UInt8)))
  else (
    i_CacheLines_L1 a_m.Cache.Entries 0 ([] : List (List UInt8)))
theorem i_CacheLines_ok (a_m : Mediator) (v0_0 : Sv) (v0_1 : Sv) (v0_2 : Sv) (v0_3 : Sv) (v0_5 : Sv) (v0_8 : Sv) (v0_9 : Sv) (v0_11 : Sv) (R : (List (List UInt8))) (hF : i_CacheLines a_m = some R) :
    Fw.Spec Tryz.prog 9 [(.agg [v0_0.v, v0_1.v, v0_2.v, v0_3.v, (.int .i64 a_m.Source.Version), v0_5.v, (.int .i64 a_m.Cache.Age), (.int .i64 a_m.Now), v0_8.v, v0_9.v, (.int .i64 a_m.Spent), v0_11.v].toArray)] [crd (RdS 3 rdInt) v0_0.v a_m.Schema, crd (RdS 112 rd112) v0_1.v a_m.Methods, crd (RdS 148 rd148) v0_2.v a_m.Rules, crd (RdS 114 rd114) v0_3.v a_m.Source.Facts, crd (RdS 82 rd82) v0_5.v a_m.Cache.Entries, crd (RdS 80 rd80) v0_8.v a_m.Log, crd (RdS 3 rdInt) v0_9.v a_m.Times, crd (RdS 139 (RdS 22 (RdS 3 rdInt))) v0_11.v a_m.Results] (fun p : Sv × List Nat => p.1.v) (fun p => [cown (OwnS 9 (roE rdStr)) p.2 p.1.v R]) := by
  refine Spec_enter (n := 37) Tryz.func9 rfl rfl (rs := [.tmp 2]) rfl rfl rfl ?_
  intro H0 F0
  unfold i_CacheLines at hF
  refine au ?_
  refine AbR (fun k1 => ?_)
  iterate 3 refine au ?_
  refine C_new rfl (N_buildSliceT (g := true) sl36.h ty9.h .nil (vs := []) rfl rfl rfl (by simp)) (fun k2 => ?_)
  refine Cv1 (.cons .h .nil) (own_lit (Ro := (roE rdStr)) (E := 9) (F := []) (xs := ([] : List (List UInt8))) MkL_nil rfl rfl) ?_
  iterate 5 refine au ?_
  obtain ⟨r3, hx4, hF⟩ := bind_some hF
  refine Cx0 (i_IsMediator_ok _ _ _ _ _ _ _ _ _ _ hx4) (fun _ => ?_)
  iterate 2 refine au ?_
  refine Cc (fun hb55 => ?_) (fun hb55 => ?_)
  · rw [if_pos hb55] at hF
    iterate 5 refine au ?_
    cases hF
    exact Er (⟨(some ⟨k2, 0, none⟩), 0, 1⟩, (k2 :: []))
  rw [if_neg (nt hb55)] at hF
  iterate 9 refine au ?_
  refine CW_block (CW_loop (m := a_m.Cache.Entries.length) (fun m10 f' cs' => ∃ (g : Fr) (k12 : Nat) (rest13 : List Stored) (c6 : List (List UInt8)) (v7 : Sv) (F8 : List Nat), m10 = rest13.length ∧ f' = updL g [(3, v7.v), (13, v0_5.v), (14, (.int .i64 (a_m.Cache.Entries.length : Int))), (15, (.int .i64 (k12 : Int)))] ∧ List.drop k12 a_m.Cache.Entries = rest13 ∧ Ent cs' [cown (OwnS 9 (roE rdStr)) F8 v7.v c6, crd (RdS 82 rd82) v0_5.v a_m.Cache.Entries] ∧ i_CacheLines_L1 rest13 k12 c6 = some R) ⟨_, 0, _, _, ⟨(some ⟨k2, 0, none⟩), 0, 1⟩, (k2 :: []), rfl, eqA, rfl, entA, hF⟩ ?_)
  clear hF
  rintro m10 _ _ ⟨g11, k12, rest13, c6, v7, F8, rfl, rfl, hd15, hE, hF⟩
  refine K_ent hE ?_
  clear hE
  refine K_pure (c := crd (RdS 82 rd82) v0_5.v a_m.Cache.Entries) (.t .h) crd_bound (fun hbd20 => ?_)
  rcases rest13 with _ | ⟨x14, rest13⟩
  · have hk16 := List.drop_eq_nil_iff.1 hd15
    rw [i_CacheLines_L1] at hF
    iterate 4 refine au ?_
    refine CdF ?_
    iterate 9 refine au ?_
    cases hF
    exact Er (v7, F8)
  obtain ⟨hk16, hx17, hd18⟩ := drop_cons hd15
  rw [i_CacheLines_L1] at hF
  iterate 4 refine au ?_
  refine CdT ?_
  iterate 3 refine au ?_
  refine Ai hx17 (fun k21 j22 => ?_)
  refine AlA2 (ul82_0_82 x14) la82_0_82 (fun p23 => ?_)
  refine AnW (fun k24 => ?_)
  refine As (.agg [(.int .i64 x14.Access.Method), p23.1.v, p23.2.v, (.int .i64 x14.At)].toArray) ?_
  refine au ?_
  refine CW_draw [0, 1, 2, 5, 6, 10, 11, 3, 4, 7, 8, 9, 12, 13, 14, 15, 16] [0, 0, 2, 6, 14, 0, 32, 110, 254, 510, 0, 1024, 3310, 8190, 16382, 32767, 65535] [3, 7, 12, 15] mixed (by decide +kernel) ?_
  iterate 2 refine du ?_
  refine D_atO rfl .no .h (fun ha hp => V_loadA (s := 2) (l := [(.int .i64 x14.Access.Method), p23.1.v]) ag80.h ty80.h.sz (EN ha (.tmp rfl rfl) rfl) hp.2 rfl (by decide) (Nat.le_of_ble_eq_true rfl) rfl) ?_
  refine du ?_
  refine D_atO rfl .no .h (fun ha hp => V_load (v := (.int .i64 x14.At)) ag3.h (EN ha (.tmp rfl rfl) rfl) hp.2 rfl rfl) ?_
  refine du ?_
  refine D_atO rfl .no .h (fun ha hp => V_load (v := p23.2.v) ag40.h (EN ha (.tmp rfl rfl) rfl) hp.2 rfl rfl) ?_
  obtain ⟨r25, hx26, hF⟩ := bind_some hF
  refine D_act0 rfl rfl .no (.rd (.t .h) rfl .nil) (.own .h (fun _ h => h) (.own .h (fun _ h => h) (.dep rfl .nil))) (fun ha => X_callS cf46.h (.cons (EN ha (.tmp rfl rfl) rfl) .nil) (i_FormatAccess_ok x14.Access p23.1 _ hx26)) (fun _ => ?_)
  obtain ⟨x28, hx29, hF⟩ := bind_some hF
  obtain ⟨hq31, hz30⟩ := cat_some hx29
  refine D_val rfl .no (fun ha => V_concatN (s := r25) (t := [32, 97, 116, 32]) (u := x28) (EN ha (.tmp rfl rfl) rfl) (EN ha (.sv _) rfl) hx29) ?_
  obtain ⟨r32, hx33, hF⟩ := bind_some hF
  refine D_act0 rfl rfl .no .nil (.own .h (fun _ h => h) (.dep rfl (.dep rfl .nil))) (fun ha => X_callS cf47.h (.cons (EN ha (.tmp rfl rfl) rfl) .nil) (i_FormatInt_ok x14.At _ hx33)) (fun _ => ?_)
  obtain ⟨x35, hx36, hF⟩ := bind_some hF
  obtain ⟨hq38, hz37⟩ := cat_some hx36
  refine D_val rfl .no (fun ha => V_concatN (s := x28) (t := r32) (u := x35) (EN ha (.tmp rfl rfl) rfl) (EN ha (.tmp rfl rfl) rfl) hx36) ?_
  obtain ⟨x39, hx40, hF⟩ := bind_some hF
  obtain ⟨hq42, hz41⟩ := cat_some hx40
  refine D_val rfl .no (fun ha => V_concatN (s := x35) (t := [32]) (u := x39) (EN ha (.tmp rfl rfl) rfl) (EN ha (.sv _) rfl) hx40) ?_
  obtain ⟨r43, hx44, hF⟩ := bind_some hF
  refine Dx0 (i_factsText_ok _ _ _ hx44) (fun _ => ?_)
  obtain ⟨x46, hx47, hF⟩ := bind_some hF
  obtain ⟨hq49, hz48⟩ := cat_some hx47
  refine D_val rfl .no (fun ha => V_concatN (s := x39) (t := r43) (u := x46) (EN ha (.tmp rfl rfl) rfl) (EN ha (.tmp rfl rfl) rfl) hx47) ?_
  refine D_new rfl .no rfl (fun ha => N_buildSliceT (g := true) (len := 1) (parts := [(0, .tmp 32)]) sl36.h ty9.h (.cons (EN ha (.tmp rfl rfl) rfl) .nil) (vs := [(sv x46)]) rfl rfl rfl (by intro v hv; simp at hv; rcases hv with rfl <;> rfl)) (fun k50 => ?_)
  refine Dv1 (.cons .h .nil) (own_lit (Ro := (roE rdStr)) (E := 9) (F := ([] ++ [])) (xs := ([x46] : List (List UInt8))) (MkL_cons (Mk_pure (fun _ => rfl)) MkL_nil apps) rfl rfl) ?_
  obtain ⟨z51, hx52, hF⟩ := bind_some hF
  refine D_act1 rfl rfl .no (.cons (.t (.t (.t (.t (.t .h))))) (.cons .h .nil)) (.dep rfl (.dep rfl (.dep rfl (.dep rfl .nil)))) (fun ha => X_appendO (Ro := (roE rdStr)) sl36.h ni36 ty9.h rfl rfl rfl (EN ha (.tmp rfl rfl) rfl) (EN ha (.tmp rfl rfl) rfl) hx52 src_own) (fun p53 => ?_)
  iterate 2 refine du ?_
  iterate 4 refine au ?_
  rw [wk k12]
  exact ⟨_, Nat.lt_succ_self _, _, k12 + 1, rest13, _, p53.1, p53.2, rfl, eqA, hd18, entA, hF⟩

/-! laws.eqStringS -/
def l_eqStringS_L1 (a_b : List (List UInt8)) : List (List UInt8) → Nat → Option (Bool)
  | [], k4 => some true
  | x6 :: rest5, k4 => (ix a_b (k4 : Int)).bind fun x15 =>
    if (!(x6 == x15)) then (
      some false)
    else (
      l_eqStringS_L1 a_b rest5 (k4 + 1))
def l_eqStringS (a_a : List (List UInt8)) (a_b : List (List UInt8)) : Option (Bool) :=
  if (((a_a.length : Int) : Int) != (a_b.length : Int)) then (
    some false)
  else (
    l_eqStringS_L1 a_b a_a 0)
theorem l_eqStringS_ok (a_a : List (List UInt8)) (v0_0 : Sv) (a_b : List (List UInt8)) (v1_0 : Sv) (R : Bool) (hF : l_eqStringS a_a a_b = some R) :
    Fw.Spec Tryz.prog 10 [v0_0.v, v1_0.v] [crd (RdS 9 rdStr) v0_0.v a_a, crd (RdS 9 rdStr) v1_0.v a_b] (fun _ : Unit => (.bool R)) (fun _ => []) := by
  refine Spec_enter (n := 26) Tryz.func10 rfl rfl (rs := [.tmp 4]) rfl rfl rfl ?_
  intro H0 F0
  unfold l_eqStringS at hF
  iterate 11 refine au ?_
  refine Cc (fun hb23 => ?_) (fun hb23 => ?_)
  · rw [if_pos hb23] at hF
    iterate 4 refine au ?_
    cases hF
    exact Er ()
  rw [if_neg (nt hb23)] at hF
  iterate 5 refine au ?_
  refine CW_block (CW_loop (m := a_a.length) (fun m2 f' cs' => ∃ (g : Fr) (k4 : Nat) (rest5 : List (List UInt8)), m2 = rest5.length ∧ f' = updL g [(0, v0_0.v), (1, v1_0.v), (5, (.int .i64 (k4 : Int)))] ∧ List.drop k4 a_a = rest5 ∧ Ent cs' [crd (RdS 9 rdStr) v0_0.v a_a, crd (RdS 9 rdStr) v1_0.v a_b] ∧ l_eqStringS_L1 a_b rest5 k4 = some R) ⟨_, 0, _, rfl, eqA, rfl, entA, hF⟩ ?_)
  clear hF
  rintro m2 _ _ ⟨g3, k4, rest5, rfl, rfl, hd7, hE, hF⟩
  refine K_ent hE ?_
  clear hE
  refine K_pure (c := crd (RdS 9 rdStr) v0_0.v a_a) .h crd_bound (fun hbd12 => ?_)
  rcases rest5 with _ | ⟨x6, rest5⟩
  · have hk8 := List.drop_eq_nil_iff.1 hd7
    rw [l_eqStringS_L1] at hF
    iterate 7 refine au ?_
    refine CdF ?_
    iterate 8 refine au ?_
    cases hF
    exact Er ()
  obtain ⟨hk8, hx9, hd10⟩ := drop_cons hd7
  rw [l_eqStringS_L1] at hF
  iterate 7 refine au ?_
  refine CdT ?_
  iterate 2 refine au ?_
  refine K_draw [0, 1, 2, 3, 4, 5, 6, 7, 8] [0, 0, 3, 7, 0, 0, 48, 112, 255] [] mixed (by decide +kernel) ?_
  iterate 2 refine du ?_
  refine Di hx9 (fun k13 j14 => ?_)
  refine Dl ls9_0 ?_
  iterate 2 refine du ?_
  obtain ⟨x15, hx16, hF⟩ := bind_some hF
  obtain ⟨hp17, hx18⟩ := ix_some hx16
  refine Di hx18 (fun k19 j20 => ?_)
  refine Dl ls9_0 ?_
  refine D_val rfl .no (fun ha => V_neT (s := x6) (t := x15) (EN ha (.tmp rfl rfl) rfl) (EN ha (.tmp rfl rfl) rfl)) ?_
  refine du ?_
  refine Cc (fun hb22 => ?_) (fun hb22 => ?_)
  · rw [if_pos hb22] at hF
    iterate 4 refine au ?_
    cases hF
    exact Er ()
  rw [if_neg (nt hb22)] at hF
  iterate 6 refine au ?_
  rw [wk k4]
  exact ⟨_, Nat.lt_succ_self _, _, k4 + 1, rest5, rfl, eqA, hd10, entA, hF⟩

end Go.Proofs.YtekdaagipplhhaaGreatDoor
