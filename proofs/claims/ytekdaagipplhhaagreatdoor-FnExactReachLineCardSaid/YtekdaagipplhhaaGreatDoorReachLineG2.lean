/-
  Functions of the program as Lean functions, and that the calls return what these say: part 3. No conditions.
-/
import Derived.Shelf.Sort.Plain
import Derived.Shelf.Slices.In.SortNone
import Derived.Shelf.Slices.CompactI
import Derived.Shelf.Strconv.Itoa3
import Derived.Shelf.Strings.OnBuilder
import Derived.Test.YtekdaagipplhhaaGreatDoorReachLineG1
import Derived.KernelRfl
set_option maxRecDepth 100000
set_option linter.unusedVariables false
namespace Go.Proofs.YtekdaagipplhhaaGreatDoor
open Go Go.Fw

/-! impl.lists -/
def i_lists_L4 (x79 : List Int) : List Int → Nat → (List (List Int)) → Option ((List (List Int)))
  | [], k97, c91 => some c91
  | x99 :: rest98, k97, c91 => (g_slices_Clone_int_int x79).bind fun r108 =>
    (app r108 ([x99] : List Int)).bind fun z112 =>
    (app c91 ([z112] : List (List Int))).bind fun z116 =>
    i_lists_L4 x79 rest98 (k97 + 1) z116
def i_lists_L2 (a_values : List Int) : List (List Int) → Nat → (List (List Int)) → Option ((List (List Int)))
  | [], k77, c71 => some c71
  | x79 :: rest78, k77, c71 => (i_lists_L4 x79 a_values 0 c71).bind fun o86 =>
    match o86 with
    | c120 => i_lists_L2 a_values rest78 (k77 + 1) c120
def i_lists_L1 (a_values : List Int) (a_n : Int) : Nat → (List (List Int)) → Int → Option ((List (List Int)))
  | 0, _, _ => none
  | m7 + 1, c3, c6 => if (decide ((c6 : Int) < a_n)) then (
      (i_lists_L2 a_values c3 0 ([] : List (List Int))).bind fun o15 =>
      match o15 with
      | c125 => i_lists_L1 a_values a_n m7 c125 (IntKind.i64.wrap (c6 + 1)))
    else (
      some c3)
def i_lists (a_values : List Int) (a_n : Int) : Option ((List (List Int))) :=
  i_lists_L1 a_values a_n ((a_n - 0).toNat + 2) ([([] : List Int)] : List (List Int)) 0
theorem i_lists_ok (a_values : List Int) (v0_0 : Sv) (a_n : Int) (R : (List (List Int))) (hF : i_lists a_values a_n = some R) :
    Fw.Spec Tryz.prog 219 [v0_0.v, (.int .i64 a_n)] [crd (RdS 3 rdInt) v0_0.v a_values] (fun p : Sv × List Nat => p.1.v) (fun p => [cown (OwnS 22 (OwnS 3 (roE rdInt))) p.2 p.1.v R]) := by
  refine Spec_enter (n := 42) Tryz.func219 rfl rfl (rs := [.tmp 4]) rfl rfl rfl ?_
  intro H0 F0
  unfold i_lists at hF
  refine K_region (C_val (V_assign (v := (.slice none 0 0)) EV.nilSlice) ?_)
  refine C_nil (K_region (C_new rfl (N_buildSliceT (g := true) sl22 ty3 .nil (vs := []) rfl rfl rfl (by simp)) (fun k1 => ?_)))
  refine C_conv (.cons .h .nil) (own_lit (Ro := (roE rdInt)) (E := 3) (F := []) (xs := ([] : List Int)) MkL_nil rfl rfl) apps ?_
  refine C_new rfl (N_buildSliceT (g := true) sl139 ty22 (.cons (.tmp rfl rfl) .nil) (vs := [(.slice (some ⟨k1, 0, none⟩) 0 1)]) rfl rfl rfl (by intro v hv; simp at hv; rcases hv with rfl <;> rfl)) (fun k2 => ?_)
  refine C_conv (.cons .h (.cons .h .nil)) (own_lit (Ro := (OwnS 3 (roE rdInt))) (E := 22) (F := ((k1 :: []) ++ [])) (xs := ([([] : List Int)] : List (List Int))) (MkL_cons Mk_own MkL_nil apps) rfl rfl) apps ?_
  refine Ca (.slice (some ⟨k2, 0, none⟩) 1 1) rfl rfl ?_
  refine C_nil (K_in (K_region (Cm (.int .i64 a_n) rfl rfl ?_)))
  refine C_val (V_move (v := (.int .i64 0)) (.int _ _)) ?_
  refine C_nil (CW_block (CW_loop (m := ((a_n - 0).toNat + 2)) (fun m7 f' cs' => ∃ (g : Fr) (c3 : List (List Int)) (c6 : Int) (v4 : Sv) (F5 : List Nat), f' = updL g [(0, v0_0.v), (5, v4.v), (13, (.int .i64 a_n)), (14, (.int .i64 c6))] ∧ Ent cs' [crd (RdS 3 rdInt) v0_0.v a_values, cown (OwnS 22 (OwnS 3 (roE rdInt))) F5 v4.v c3] ∧ i_lists_L1 a_values a_n m7 c3 c6 = some R) ⟨_, _, _, ⟨(some ⟨k2, 0, none⟩), 1, 1⟩, (k2 :: ((k1 :: []) ++ [])), (EqL.cons rfl (EqL.cons rfl (EqL.cons rfl (EqL.cons rfl (EqL.nil))))).eq, (.sel (.rd (.t .h) rfl (.cons .h .nil))), hF⟩ ?_))
  clear hF
  rintro m7 _ _ ⟨g8, c3, c6, v4, F5, rfl, hE, hF⟩
  refine K_ent hE ?_
  clear hE
  rcases m7 with _ | m7
  · rw [i_lists_L1] at hF
    exact absurd hF (by simp)
  rw [i_lists_L1] at hF
  refine K_region (C_val (V_lss (i := c6) (j := a_n) (.tmp rfl rfl) (.tmp rfl rfl)) ?_)
  refine C_nil (K_in (CW_cond (b := (decide ((c6 : Int) < a_n))) (.tmp rfl rfl) (fun hb129 => ?_) (fun hb129 => ?_)))
  · rw [if_pos hb129] at hF
    refine CW_skip ?_
    obtain ⟨o15, hio15, hO16⟩ := bind_some hF
    refine K_cut (fun f' cs' => ∃ (c125 : List (List Int)) (v126 : Sv) (F127 : List Nat) (g : Fr), c125 = o15 ∧ f' = updL g [(0, v0_0.v), (5, v126.v), (13, (.int .i64 a_n)), (14, (.int .i64 c6))] ∧ Ent cs' [crd (RdS 3 rdInt) v0_0.v a_values, cown (OwnS 22 (OwnS 3 (roE rdInt))) F127 v126.v c125]) ?_ ?_
    · replace hF := hio15
      refine CW_block (K_region (C_new rfl (N_buildSliceT (g := true) sl139 ty22 .nil (vs := []) rfl rfl rfl (by simp)) (fun k17 => ?_)))
      refine C_conv (.cons .h .nil) (own_lit (Ro := (OwnS 3 (roE rdInt))) (E := 22) (F := []) (xs := ([] : List (List Int))) MkL_nil rfl rfl) apps ?_
      refine Ca (.slice (some ⟨k17, 0, none⟩) 0 1) rfl rfl ?_
      refine C_nil (K_in (K_region (Cm v4.v rfl rfl ?_)))
      refine C_at (.t (.t .h)) (fun hp => V_lenR (l := c3.length) sl139 (.tmp rfl rfl) (cown_len hp)) ?_
      refine C_val (V_move (v := (.int .i64 0)) (.int _ _)) ?_
      refine C_nil (CW_block (K_frz (.t (.t .h)) frz_own ?_))
      refine CW_loop (m := c3.length) (fun m75 f' cs' => ∃ (g : Fr) (k77 : Nat) (rest78 : List (List Int)) (c71 : List (List Int)) (v72 : Sv) (F73 : List Nat), m75 = rest78.length ∧ f' = updL g [(0, v0_0.v), (6, v72.v), (13, (.int .i64 a_n)), (14, (.int .i64 c6)), (17, v4.v), (18, (.int .i64 (c3.length : Int))), (19, (.int .i64 (k77 : Int)))] ∧ List.drop k77 c3 = rest78 ∧ Ent cs' [crd (RdS 3 rdInt) v0_0.v a_values, cown (OwnS 22 (OwnS 3 (roE rdInt))) F73 v72.v c71, crd (RdS 22 (RdS 3 rdInt)) v4.v c3] ∧ i_lists_L2 a_values rest78 k77 c71 = some o15) ⟨_, 0, _, _, ⟨(some ⟨k17, 0, none⟩), 0, 1⟩, (k17 :: []), rfl, (EqL.cons rfl (EqL.cons rfl (EqL.cons rfl (EqL.cons rfl (EqL.cons rfl (EqL.cons rfl (EqL.cons rfl (EqL.nil)))))))).eq, rfl, (.sel (.rd (.t (.t .h)) rfl (.cons (.t .h) (.rd .h rfl .nil)))), hF⟩ ?_
      clear hF
      rintro m75 _ _ ⟨g76, k77, rest78, c71, v72, F73, rfl, rfl, hd80, hE, hF⟩
      refine K_ent hE ?_
      clear hE
      refine K_pure (c := crd (RdS 22 (RdS 3 rdInt)) v4.v c3) (.t (.t .h)) crd_bound (fun hbd85 => ?_)
      rcases rest78 with _ | ⟨x79, rest78⟩
      · have hk81 := List.drop_eq_nil_iff.1 hd80
        have hfe84 : (decide (((k77 : Int) : Int) < (c3.length : Int))) = false := decide_eq_false (by omega)
        rw [i_lists_L2] at hF
        refine K_region (C_val (V_lss (i := (k77 : Int)) (j := (c3.length : Int)) (.tmp rfl rfl) (.tmp rfl rfl)) ?_)
        refine C_nil (K_in (CW_cond (b := (decide (((k77 : Int) : Int) < (c3.length : Int)))) (.tmp rfl rfl) (fun hb => absurd (hfe84.symm.trans hb) (by decide)) (fun _ => ?_)))
        refine CW_exit ?_
        iterate 2 refine CThen_exit ?_
        refine CIn_self (CW_region (Cm v72.v rfl rfl ?_))
        refine Ca v72.v rfl rfl ?_
        refine C_nil ?_
        obtain rfl := Option.some.inj hF
        exact ⟨_, v72, F73, _, rfl, (EqL.cons rfl (EqL.cons rfl (EqL.cons rfl (EqL.cons rfl (EqL.nil))))).eq, (.sel (.rd .h rfl (.cons (.t .h) .nil)))⟩
      obtain ⟨hk81, hx82, hd83⟩ := drop_cons hd80
      have hfe84 : (decide (((k77 : Int) : Int) < (c3.length : Int))) = true := decide_eq_true (by omega)
      rw [i_lists_L2] at hF
      refine K_region (C_val (V_lss (i := (k77 : Int)) (j := (c3.length : Int)) (.tmp rfl rfl) (.tmp rfl rfl)) ?_)
      refine C_nil (K_in (CW_cond (b := (decide (((k77 : Int) : Int) < (c3.length : Int)))) (.tmp rfl rfl) (fun _ => ?_) (fun hb => absurd (hfe84.symm.trans hb) (by decide))))
      refine CW_skip ?_
      obtain ⟨o86, hio86, hO87⟩ := bind_some hF
      refine K_cut (fun f' cs' => ∃ (c120 : List (List Int)) (v121 : Sv) (F122 : List Nat) (g : Fr), c120 = o86 ∧ f' = updL g [(0, v0_0.v), (6, v121.v), (13, (.int .i64 a_n)), (14, (.int .i64 c6)), (17, v4.v), (18, (.int .i64 (c3.length : Int))), (19, (.int .i64 (k77 : Int)))] ∧ Ent cs' [crd (RdS 3 rdInt) v0_0.v a_values, cown (OwnS 22 (OwnS 3 (roE rdInt))) F122 v121.v c120, crd (RdS 22 (RdS 3 rdInt)) v4.v c3]) ?_ ?_
      · replace hF := hio86
        refine CW_block (K_region (C_idx (a := x79) sl139 ty22.sz (.tmp rfl rfl) (.tmp rfl rfl) (.t (.t .h)) (Int.natCast_nonneg k77) hx82 (fun k88 j89 => ?_)))
        refine C_ldV (R' := (RdS 3 rdInt)) ag22 (.tmp rfl rfl) .h lv22_0 (fun w90 => ?_)
        refine Ca w90.v rfl rfl ?_
        refine C_nil (K_region (Cm v0_0.v rfl rfl ?_))
        refine C_at (.t (.t .h)) (fun hp => V_lenR (l := a_values.length) sl22 (.tmp rfl rfl) (crd_len hp)) ?_
        refine C_val (V_move (v := (.int .i64 0)) (.int _ _)) ?_
        refine C_nil (CW_block (CW_loop (m := a_values.length) (fun m95 f' cs' => ∃ (g : Fr) (k97 : Nat) (rest98 : List Int) (c91 : List (List Int)) (v92 : Sv) (F93 : List Nat), m95 = rest98.length ∧ f' = updL g [(0, v0_0.v), (6, v92.v), (8, w90.v), (13, (.int .i64 a_n)), (14, (.int .i64 c6)), (17, v4.v), (18, (.int .i64 (c3.length : Int))), (19, (.int .i64 (k77 : Int))), (23, v0_0.v), (24, (.int .i64 (a_values.length : Int))), (25, (.int .i64 (k97 : Int)))] ∧ List.drop k97 a_values = rest98 ∧ Ent cs' [crd (RdS 3 rdInt) v0_0.v a_values, cown (OwnS 22 (OwnS 3 (roE rdInt))) F93 v92.v c91, crd (RdS 3 rdInt) w90.v x79, crd (RdS 22 (RdS 3 rdInt)) v4.v c3] ∧ i_lists_L4 x79 rest98 k97 c91 = some o86) ⟨_, 0, _, _, v72, F73, rfl, (EqL.cons rfl (EqL.cons rfl (EqL.cons rfl (EqL.cons rfl (EqL.cons rfl (EqL.cons rfl (EqL.cons rfl (EqL.cons rfl (EqL.cons rfl (EqL.cons rfl (EqL.cons rfl (EqL.nil)))))))))))).eq, rfl, (.sel (.rd (.t (.t .h)) rfl (.cons (.t (.t (.t .h))) (.rd .h rfl (.rd (.t (.t (.t .h))) rfl .nil))))), hF⟩ ?_))
        clear hF
        rintro m95 _ _ ⟨g96, k97, rest98, c91, v92, F93, rfl, rfl, hd100, hE, hF⟩
        refine K_ent hE ?_
        clear hE
        refine K_pure (c := crd (RdS 3 rdInt) v0_0.v a_values) .h crd_bound (fun hbd105 => ?_)
        rcases rest98 with _ | ⟨x99, rest98⟩
        · have hk101 := List.drop_eq_nil_iff.1 hd100
          have hfe104 : (decide (((k97 : Int) : Int) < (a_values.length : Int))) = false := decide_eq_false (by omega)
          rw [i_lists_L4] at hF
          refine K_region (C_val (V_lss (i := (k97 : Int)) (j := (a_values.length : Int)) (.tmp rfl rfl) (.tmp rfl rfl)) ?_)
          refine C_nil (K_in (CW_cond (b := (decide (((k97 : Int) : Int) < (a_values.length : Int)))) (.tmp rfl rfl) (fun hb => absurd (hfe104.symm.trans hb) (by decide)) (fun _ => ?_)))
          refine CW_exit ?_
          iterate 2 refine CThen_exit ?_
          refine CIn_self ?_
          obtain rfl := Option.some.inj hF
          exact ⟨_, v92, F93, _, rfl, (EqL.cons rfl (EqL.cons rfl (EqL.cons rfl (EqL.cons rfl (EqL.cons rfl (EqL.cons rfl (EqL.cons rfl (EqL.nil)))))))).eq, (.sel (.rd .h rfl (.cons (.t .h) (.rd (.t (.t .h)) rfl .nil))))⟩
        obtain ⟨hk101, hx102, hd103⟩ := drop_cons hd100
        have hfe104 : (decide (((k97 : Int) : Int) < (a_values.length : Int))) = true := decide_eq_true (by omega)
        rw [i_lists_L4] at hF
        refine K_region (C_val (V_lss (i := (k97 : Int)) (j := (a_values.length : Int)) (.tmp rfl rfl) (.tmp rfl rfl)) ?_)
        refine C_nil (K_in (CW_cond (b := (decide (((k97 : Int) : Int) < (a_values.length : Int)))) (.tmp rfl rfl) (fun _ => ?_) (fun hb => absurd (hfe104.symm.trans hb) (by decide))))
        refine CW_skip (K_block (K_region (C_idx (a := x99) sl22 ty3.sz (.tmp rfl rfl) (.tmp rfl rfl) .h (Int.natCast_nonneg k97) hx102 (fun k106 j107 => ?_))))
        refine C_ldS (w := (.int .i64 x99)) ag3 (.tmp rfl rfl) .h ls3_0 ?_
        refine Ca (.int .i64 x99) rfl rfl ?_
        refine C_nil (CW_region (Cm v92.v rfl rfl ?_))
        refine Cm w90.v rfl rfl ?_
        obtain ⟨r108, hx109, hF⟩ := bind_some hF
        refine C_x1 (.rd (.t (.t (.t .h))) rfl .nil) (X_callS cf235 (.cons (.tmp rfl rfl) .nil) (g_slices_Clone_int_int_ok x79 w90 _ hx109)) (fun p110 => ?_)
        refine Cm (.int .i64 x99) rfl rfl ?_
        refine C_new rfl (N_buildSliceT (g := true) sl22 ty3 (.cons (.tmp rfl rfl) .nil) (vs := [(.int .i64 x99)]) rfl rfl rfl (by intro v hv; simp at hv; rcases hv with rfl <;> rfl)) (fun k111 => ?_)
        refine C_conv (.cons .h .nil) (own_lit (Ro := (roE rdInt)) (E := 3) (F := ([] ++ [])) (xs := ([x99] : List Int)) (MkL_cons (Mk_pure (fun _ => rfl)) MkL_nil apps) rfl rfl) apps ?_
        obtain ⟨z112, hx113, hF⟩ := bind_some hF
        refine C_x1 (.cons (.t .h) (.cons .h .nil)) (X_appendO (Ro := (roE rdInt)) sl22 ni22 ty3 rfl rfl rfl (.tmp rfl rfl) (.tmp rfl rfl) hx113 src_own) (fun p114 => ?_)
        refine C_new rfl (N_buildSliceT (g := true) sl139 ty22 (.cons (.tmp rfl rfl) .nil) (vs := [p114.1.v]) rfl rfl rfl (by intro v hv; simp at hv; rcases hv with rfl <;> rfl)) (fun k115 => ?_)
        refine C_conv (.cons .h (.cons .h .nil)) (own_lit (Ro := (OwnS 3 (roE rdInt))) (E := 22) (F := (p114.2 ++ [])) (xs := ([z112] : List (List Int))) (MkL_cons Mk_own MkL_nil apps) rfl rfl) apps ?_
        obtain ⟨z116, hx117, hF⟩ := bind_some hF
        refine C_x1 (.cons (.t (.t (.t .h))) (.cons .h .nil)) (X_appendO (Ro := (OwnS 3 (roE rdInt))) sl139 ni139 ty22 rfl rfl rfl (.tmp rfl rfl) (.tmp rfl rfl) hx117 src_own) (fun p118 => ?_)
        refine Ca p118.1.v rfl rfl ?_
        refine C_nil (CW_region (C_val (V_add (i := (k97 : Int)) (j := 1) (.tmp rfl rfl) (.int _ _)) ?_))
        refine Cm (.int .i64 (IntKind.i64.wrap ((k97 : Int) + 1))) rfl rfl ?_
        refine C_nil ?_
        have hw119 : IntKind.i64.wrap ((k97 : Int) + 1) = ((k97 + 1 : Nat) : Int) := by rw [wrap_in (by omega) (by omega)]; rfl
        rw [hw119]
        exact ⟨_, Nat.lt_succ_self _, _, k97 + 1, rest98, _, p118.1, p118.2, rfl, (EqL.cons rfl (EqL.cons rfl (EqL.cons rfl (EqL.cons rfl (EqL.cons rfl (EqL.cons rfl (EqL.cons rfl (EqL.cons rfl (EqL.cons rfl (EqL.cons rfl (EqL.cons rfl (EqL.nil)))))))))))).eq, hd103, (.sel (.rd (.t (.t .h)) rfl (.cons .h (.rd (.t (.t .h)) rfl (.rd (.t (.t (.t .h))) rfl .nil))))), hF⟩
      rintro _ _ ⟨c120, v121, F122, g124, rfl, rfl, hE⟩
      replace hF := hO87
      clear hO87
      try dsimp only at hF
      refine K_ent hE ?_
      refine CW_region (C_val (V_add (i := (k77 : Int)) (j := 1) (.tmp rfl rfl) (.int _ _)) ?_)
      refine Cm (.int .i64 (IntKind.i64.wrap ((k77 : Int) + 1))) rfl rfl ?_
      refine C_nil ?_
      have hw123 : IntKind.i64.wrap ((k77 : Int) + 1) = ((k77 + 1 : Nat) : Int) := by rw [wrap_in (by omega) (by omega)]; rfl
      rw [hw123]
      exact ⟨_, Nat.lt_succ_self _, _, k77 + 1, rest78, _, v121, F122, rfl, (EqL.cons rfl (EqL.cons rfl (EqL.cons rfl (EqL.cons rfl (EqL.cons rfl (EqL.cons rfl (EqL.cons rfl (EqL.nil)))))))).eq, hd83, (.sel (.rd .h rfl (.cons (.t .h) (.rd (.t .h) rfl .nil)))), hF⟩
    rintro _ _ ⟨c125, v126, F127, g128, rfl, rfl, hE⟩
    replace hF := hO16
    clear hO16
    try dsimp only at hF
    refine K_ent hE ?_
    refine CW_region (C_val (V_add (i := c6) (j := 1) (.tmp rfl rfl) (.int _ _)) ?_)
    refine Cm (.int .i64 (IntKind.i64.wrap (c6 + 1))) rfl rfl ?_
    refine C_nil ?_
    exact ⟨m7, Nat.lt_succ_self _, _, _, _, v126, F127, (EqL.cons rfl (EqL.cons rfl (EqL.cons rfl (EqL.cons rfl (EqL.nil))))).eq, (.sel (.rd .h rfl (.cons (.t .h) .nil))), hF⟩
  rw [if_neg (by rw [hb129]; exact Bool.false_ne_true)] at hF
  refine CW_exit ?_
  iterate 2 refine CThen_exit ?_
  refine CIn_self (K_region (Cm v4.v rfl rfl ?_))
  refine Ca v4.v rfl rfl ?_
  refine C_nil (CW_ret ?_)
  obtain rfl := Option.some.inj hF
  exact End_ret (v4, F5) (.tmp rfl rfl .nil) rfl (.sel (.cons (.t .h) .nil))

/-! slices.Equal[[]int,int] -/
def g_slices_Equal_int_int_L1 (a_s2 : List Int) : List Int → Nat → Option (Bool)
  | [], k4 => some true
  | x6 :: rest5, k4 => (ix a_s2 (k4 : Int)).bind fun x15 =>
    if ((x6 : Int) != x15) then (
      some false)
    else (
      g_slices_Equal_int_int_L1 a_s2 rest5 (k4 + 1))
def g_slices_Equal_int_int (a_s1 : List Int) (a_s2 : List Int) : Option (Bool) :=
  if (((a_s1.length : Int) : Int) != (a_s2.length : Int)) then (
    some false)
  else (
    g_slices_Equal_int_int_L1 a_s2 a_s1 0)
theorem g_slices_Equal_int_int_ok (a_s1 : List Int) (v0_0 : Sv) (a_s2 : List Int) (v1_0 : Sv) (R : Bool) (hF : g_slices_Equal_int_int a_s1 a_s2 = some R) :
    Fw.Spec Tryz.prog 263 [v0_0.v, v1_0.v] [crd (RdS 3 rdInt) v0_0.v a_s1, crd (RdS 3 rdInt) v1_0.v a_s2] (fun _ : Unit => (.bool R)) (fun _ => []) := by
  refine Spec_enter (n := 26) Tryz.func263 rfl rfl (rs := [.tmp 4]) rfl rfl rfl ?_
  intro H0 F0
  unfold g_slices_Equal_int_int at hF
  refine K_region (C_val (V_assign (v := (.bool false)) (.bool _)) ?_)
  refine C_nil (K_in (K_region (Cm v0_0.v rfl rfl ?_)))
  refine C_at .h (fun hp => V_lenR (l := a_s1.length) sl22 (.tmp rfl rfl) (crd_len hp)) ?_
  refine Cm v1_0.v rfl rfl ?_
  refine C_at (.t .h) (fun hp => V_lenR (l := a_s2.length) sl22 (.tmp rfl rfl) (crd_len hp)) ?_
  refine C_val (V_neq (i := (a_s1.length : Int)) (j := (a_s2.length : Int)) (.tmp rfl rfl) (.tmp rfl rfl)) ?_
  refine C_nil (CW_cond (b := (((a_s1.length : Int) : Int) != (a_s2.length : Int))) (.tmp rfl rfl) (fun hb23 => ?_) (fun hb23 => ?_))
  · rw [if_pos hb23] at hF
    refine K_region (C_val (V_assign (v := (.bool false)) (.bool _)) ?_)
    refine C_nil (CW_ret ?_)
    obtain rfl := Option.some.inj hF
    exact End_ret () (.tmp rfl rfl .nil) rfl (.sel .nil)
  rw [if_neg (by rw [hb23]; exact Bool.false_ne_true)] at hF
  refine CW_skip (K_in (K_region (Cm v0_0.v rfl rfl ?_)))
  refine C_at .h (fun hp => V_lenR (l := a_s1.length) sl22 (.tmp rfl rfl) (crd_len hp)) ?_
  refine C_val (V_move (v := (.int .i64 0)) (.int _ _)) ?_
  refine C_nil (CW_block (CW_loop (m := a_s1.length) (fun m2 f' cs' => ∃ (g : Fr) (k4 : Nat) (rest5 : List Int), m2 = rest5.length ∧ f' = updL g [(0, v0_0.v), (1, v1_0.v), (12, (.int .i64 (a_s1.length : Int))), (13, (.int .i64 (k4 : Int)))] ∧ List.drop k4 a_s1 = rest5 ∧ Ent cs' [crd (RdS 3 rdInt) v0_0.v a_s1, crd (RdS 3 rdInt) v1_0.v a_s2] ∧ g_slices_Equal_int_int_L1 a_s2 rest5 k4 = some R) ⟨_, 0, _, rfl, (EqL.cons rfl (EqL.cons rfl (EqL.cons rfl (EqL.cons rfl (EqL.nil))))).eq, rfl, (.sel (.rd .h rfl (.rd (.t .h) rfl .nil))), hF⟩ ?_))
  clear hF
  rintro m2 _ _ ⟨g3, k4, rest5, rfl, rfl, hd7, hE, hF⟩
  refine K_ent hE ?_
  clear hE
  refine K_pure (c := crd (RdS 3 rdInt) v0_0.v a_s1) .h crd_bound (fun hbd12 => ?_)
  rcases rest5 with _ | ⟨x6, rest5⟩
  · have hk8 := List.drop_eq_nil_iff.1 hd7
    have hfe11 : (decide (((k4 : Int) : Int) < (a_s1.length : Int))) = false := decide_eq_false (by omega)
    rw [g_slices_Equal_int_int_L1] at hF
    refine K_region (C_val (V_lss (i := (k4 : Int)) (j := (a_s1.length : Int)) (.tmp rfl rfl) (.tmp rfl rfl)) ?_)
    refine C_nil (K_in (CW_cond (b := (decide (((k4 : Int) : Int) < (a_s1.length : Int)))) (.tmp rfl rfl) (fun hb => absurd (hfe11.symm.trans hb) (by decide)) (fun _ => ?_)))
    refine CW_exit ?_
    iterate 2 refine CThen_exit ?_
    refine CIn_self (K_region (C_val (V_assign (v := (.bool true)) (.bool _)) ?_))
    refine C_nil (CW_ret ?_)
    obtain rfl := Option.some.inj hF
    exact End_ret () (.tmp rfl rfl .nil) rfl (.sel .nil)
  obtain ⟨hk8, hx9, hd10⟩ := drop_cons hd7
  have hfe11 : (decide (((k4 : Int) : Int) < (a_s1.length : Int))) = true := decide_eq_true (by omega)
  rw [g_slices_Equal_int_int_L1] at hF
  refine K_region (C_val (V_lss (i := (k4 : Int)) (j := (a_s1.length : Int)) (.tmp rfl rfl) (.tmp rfl rfl)) ?_)
  refine C_nil (K_in (CW_cond (b := (decide (((k4 : Int) : Int) < (a_s1.length : Int)))) (.tmp rfl rfl) (fun _ => ?_) (fun hb => absurd (hfe11.symm.trans hb) (by decide))))
  refine CW_skip (K_block (K_region (Cm (.int .i64 (k4 : Int)) rfl rfl ?_)))
  refine Ca (.int .i64 (k4 : Int)) rfl rfl ?_
  refine C_nil (K_draw [0, 1, 2, 3, 4, 5, 6, 7, 8] [0, 0, 3, 7, 0, 0, 48, 112, 255] [] mixed (by decide +kernel) ?_)
  refine Dm v0_0.v rfl rfl rfl rfl ?_
  refine Dm (.int .i64 (k4 : Int)) rfl rfl rfl rfl ?_
  refine D_idx (a := x6) sl22 ty3.sz rfl .no (.tmp rfl rfl) (.tmp rfl rfl) rfl rfl .h (Int.natCast_nonneg k4) hx9 (fun k13 j14 => ?_)
  refine D_ldS (w := (.int .i64 x6)) ag3 rfl .no (.tmp rfl rfl) rfl .h ls3_0 ?_
  refine Dm v1_0.v rfl rfl rfl rfl ?_
  refine Dm (.int .i64 (k4 : Int)) rfl rfl rfl rfl ?_
  obtain ⟨x15, hx16, hF⟩ := bind_some hF
  obtain ⟨hp17, hx18⟩ := ix_some hx16
  refine D_idx (a := x15) sl22 ty3.sz rfl .no (.tmp rfl rfl) (.tmp rfl rfl) rfl rfl (.t (.t .h)) hp17 hx18 (fun k19 j20 => ?_)
  refine D_ldS (w := (.int .i64 x15)) ag3 rfl .no (.tmp rfl rfl) rfl .h ls3_0 ?_
  refine D_val rfl .no (fun ha => V_neq (i := x6) (j := x15) (EN ha (.tmp rfl rfl) rfl) (EN ha (.tmp rfl rfl) rfl)) ?_
  refine D_nil (CW_cond (b := ((x6 : Int) != x15)) (.tmp rfl rfl) (fun hb22 => ?_) (fun hb22 => ?_))
  · rw [if_pos hb22] at hF
    refine K_region (C_val (V_assign (v := (.bool false)) (.bool _)) ?_)
    refine C_nil (CW_ret ?_)
    obtain rfl := Option.some.inj hF
    exact End_ret () (.tmp rfl rfl .nil) rfl (.sel .nil)
  rw [if_neg (by rw [hb22]; exact Bool.false_ne_true)] at hF
  refine CW_skip (CW_region (C_val (V_add (i := (k4 : Int)) (j := 1) (.tmp rfl rfl) (.int _ _)) ?_))
  refine Cm (.int .i64 (IntKind.i64.wrap ((k4 : Int) + 1))) rfl rfl ?_
  refine C_nil ?_
  have hw21 : IntKind.i64.wrap ((k4 : Int) + 1) = ((k4 + 1 : Nat) : Int) := by rw [wrap_in (by omega) (by omega)]; rfl
  rw [hw21]
  exact ⟨_, Nat.lt_succ_self _, _, k4 + 1, rest5, rfl, (EqL.cons rfl (EqL.cons rfl (EqL.cons rfl (EqL.cons rfl (EqL.nil))))).eq, hd10, (.sel (.rd (.t (.t .h)) rfl (.rd (.t (.t (.t .h))) rfl .nil))), hF⟩

/-! impl.sameAccess -/
def i_sameAccess (a_a : Access) (a_b : Access) : Option (Bool) :=
  (bif ((a_a.Method : Int) == a_b.Method) then ((g_slices_Equal_int_int a_a.Values a_b.Values).bind fun r6 =>
      some r6)
    else (some false)).bind fun o3 =>
  match o3 with
  | c9 => some c9
theorem i_sameAccess_ok (a_a : Access) (v0_1 : Sv) (a_b : Access) (v1_1 : Sv) (R : Bool) (hF : i_sameAccess a_a a_b = some R) :
    Fw.Spec Tryz.prog 253 [(.agg [(.int .i64 a_a.Method), v0_1.v].toArray), (.agg [(.int .i64 a_b.Method), v1_1.v].toArray)] [crd (RdS 3 rdInt) v0_1.v a_a.Values, crd (RdS 3 rdInt) v1_1.v a_b.Values] (fun _ : Unit => (.bool R)) (fun _ => []) := by
  refine Spec_enter (n := 17) Tryz.func253 rfl rfl (rs := [.tmp 4]) rfl rfl rfl ?_
  intro H0 F0
  unfold i_sameAccess at hF
  refine K_region (C_newR rfl (N_box (g := false) (v := (.agg [(.int .i64 a_a.Method), v0_1.v].toArray)) ty80.sz (.tmp rfl rfl) rfl) (fun k1 => ?_))
  refine C_newR rfl (N_box (g := false) (v := (.agg [(.int .i64 a_b.Method), v1_1.v].toArray)) ty80.sz (.tmp rfl rfl) rfl) (fun k2 => ?_)
  refine C_val (V_assign (v := (.bool false)) (.bool _)) ?_
  refine C_nil ?_
  obtain ⟨o3, hio3, hO4⟩ := bind_some hF
  refine K_region (C_cut (fun f' cs' => ∃ (c9 : Bool) (g : Fr), c9 = o3 ∧ f' = updL g [(4, (.bool c9))] ∧ Ent cs' []) ?_ ?_)
  · replace hF := hio3
    refine C_val (V_fieldAddr (off := 0) fd80_0 (.tmp rfl rfl)) ?_
    refine C_at (.t .h) (fun hp => V_load (v := (.int .i64 a_a.Method)) ag3 (.tmp rfl rfl) hp.2 rfl rfl) ?_
    refine C_val (V_fieldAddr (off := 0) fd80_0 (.tmp rfl rfl)) ?_
    refine C_at .h (fun hp => V_load (v := (.int .i64 a_b.Method)) ag3 (.tmp rfl rfl) hp.2 rfl rfl) ?_
    refine C_val (V_eql (i := a_a.Method) (j := a_b.Method) (.tmp rfl rfl) (.tmp rfl rfl)) ?_
    refine Cm (.bool ((a_a.Method : Int) == a_b.Method)) rfl rfl ?_
    rcases Bool.eq_false_or_eq_true ((a_a.Method : Int) == a_b.Method) with hg5 | hg5
    · rw [hg5]
      try rw [hg5] at hF; dsimp only [cond_true, cond_false] at hF
      refine C_on (t := 10) rfl rfl rfl ?_
      refine C_val (V_fieldAddr (off := 1) fd80_1 (.tmp rfl rfl)) ?_
      refine C_on (t := 10) rfl rfl rfl ?_
      refine C_at (.t .h) (fun hp => V_load (v := v0_1.v) ag22 (.tmp rfl rfl) hp.2 rfl rfl) ?_
      refine C_on (t := 10) rfl rfl rfl ?_
      refine C_val (V_fieldAddr (off := 1) fd80_1 (.tmp rfl rfl)) ?_
      refine C_on (t := 10) rfl rfl rfl ?_
      refine C_at .h (fun hp => V_load (v := v1_1.v) ag22 (.tmp rfl rfl) hp.2 rfl rfl) ?_
      refine C_on (t := 10) rfl rfl rfl ?_
      obtain ⟨r6, hx7, hF⟩ := bind_some hF
      refine C_x0 (.rd (.t (.t .h)) rfl (.rd (.t (.t (.t .h))) rfl .nil)) (X_callS cf263 (.cons (.tmp rfl rfl) (.cons (.tmp rfl rfl) .nil)) (g_slices_Equal_int_int_ok a_a.Values v0_1 a_b.Values v1_1 _ hx7)) (fun _ => ?_)
      refine C_val (V_pick (b := true) (u := (.bool r6)) (v := (.bool false)) (.tmp rfl rfl) (.tmp rfl rfl) (.bool _)) ?_
      refine Ca (.bool r6) rfl rfl ?_
      refine C_nil ?_
      obtain rfl := Option.some.inj hF
      exact ⟨_, _, rfl, (EqL.cons rfl (EqL.nil)).eq, (.sel .nil)⟩
    rw [hg5]
    try rw [hg5] at hF; dsimp only [cond_true, cond_false] at hF
    iterate 5 refine C_off (t := 10) rfl rfl rfl ?_
    refine C_val (V_pick (b := false) (u := undef) (v := (.bool false)) (.tmp rfl rfl) (.tmp rfl rfl) (.bool _)) ?_
    refine Ca (.bool false) rfl rfl ?_
    refine C_nil ?_
    obtain rfl := Option.some.inj hF
    exact ⟨_, _, rfl, (EqL.cons rfl (EqL.nil)).eq, (.sel .nil)⟩
  rintro _ _ ⟨c9, g10, rfl, rfl, hE⟩
  replace hF := hO4
  clear hO4
  try dsimp only at hF
  refine K_ent hE ?_
  refine CW_ret ?_
  obtain rfl := Option.some.inj hF
  exact End_ret () (.tmp rfl rfl .nil) rfl (.sel .nil)

/-! impl.hasAccess$1 -/
def i_hasAccess_1 (a_x : Access) (a_e1 : Access) : Option (Bool) :=
  (i_sameAccess a_x a_e1).bind fun r2 =>
  some r2
theorem i_hasAccess_1_ok (a_x : Access) (v0_1 : Sv) (kc1 : Nat) (a_e1 : Access) (vc1_1 : Sv) (R : Bool) (hF : i_hasAccess_1 a_x a_e1 = some R) :
    Fw.Spec Tryz.prog 252 [(.agg [(.int .i64 a_x.Method), v0_1.v].toArray), (.pointer (some ⟨kc1, 0, some 0⟩))] [crd (RdS 3 rdInt) v0_1.v a_x.Values, cboR kc1 80 (.agg [(.int .i64 a_e1.Method), vc1_1.v].toArray), crd (RdS 3 rdInt) vc1_1.v a_e1.Values] (fun _ : Unit => (.bool R)) (fun _ => []) := by
  refine Spec_enter (n := 7) Tryz.func252 rfl rfl (rs := [.tmp 3]) rfl rfl rfl ?_
  intro H0 F0
  unfold i_hasAccess_1 at hF
  refine K_region (C_newR rfl (N_box (g := false) (v := (.agg [(.int .i64 a_x.Method), v0_1.v].toArray)) ty80.sz (.tmp rfl rfl) rfl) (fun k1 => ?_))
  refine C_val (V_assign (v := (.bool false)) (.bool _)) ?_
  refine C_nil (K_region (C_at .h (fun hp => V_loadBox ag80 ty80.sz rfl (.tmp rfl rfl) hp.2 rfl) ?_))
  refine C_at (.t (.t .h)) (fun hp => V_loadBox ag80 ty80.sz rfl (.tmp rfl rfl) hp.2 rfl) ?_
  obtain ⟨r2, hx3, hF⟩ := bind_some hF
  refine C_x0 (.rd (.t .h) rfl (.rd (.t (.t (.t .h))) rfl .nil)) (X_callS cf253 (.cons (.tmp rfl rfl) (.cons (.tmp rfl rfl) .nil)) (i_sameAccess_ok a_x v0_1 a_e1 vc1_1 _ hx3)) (fun _ => ?_)
  refine Ca (.bool r2) rfl rfl ?_
  refine C_nil (CW_ret ?_)
  obtain rfl := Option.some.inj hF
  exact End_ret () (.tmp rfl rfl .nil) rfl (.sel .nil)

/-! impl.Access] -/
def g_slices_IndexFunc_impl_Access_impl_Access_ihasAccess1_L1 (a_e1 : Access) : List Access → Nat → Option (Int)
  | [], k4 => some (-1)
  | x6 :: rest5, k4 => (i_hasAccess_1 x6 a_e1).bind fun r16 =>
    if r16 then (
      some (k4 : Int))
    else (
      g_slices_IndexFunc_impl_Access_impl_Access_ihasAccess1_L1 a_e1 rest5 (k4 + 1))
def g_slices_IndexFunc_impl_Access_impl_Access_ihasAccess1 (a_s : List Access) (a_e1 : Access) : Option (Int) :=
  g_slices_IndexFunc_impl_Access_impl_Access_ihasAccess1_L1 a_e1 a_s 0
theorem g_slices_IndexFunc_impl_Access_impl_Access_ihasAccess1_ok (a_s : List Access) (v0_0 : Sv) (kc1 : Nat) (a_e1 : Access) (vc1_1 : Sv) (R : Int) (hF : g_slices_IndexFunc_impl_Access_impl_Access_ihasAccess1 a_s a_e1 = some R) :
    Fw.Spec Tryz.prog 156 [v0_0.v, (.func (.func 252) [].toArray [(.pointer (some ⟨kc1, 0, some 0⟩))].toArray)] [crd (RdS 80 rd80) v0_0.v a_s, cboR kc1 80 (.agg [(.int .i64 a_e1.Method), vc1_1.v].toArray), crd (RdS 3 rdInt) vc1_1.v a_e1.Values] (fun _ : Unit => (.int .i64 R)) (fun _ => []) := by
  refine Spec_enter (n := 19) Tryz.func156 rfl rfl (rs := [.tmp 4]) rfl rfl rfl ?_
  intro H0 F0
  unfold g_slices_IndexFunc_impl_Access_impl_Access_ihasAccess1 at hF
  refine K_region (C_val (V_assign (v := (.int .i64 0)) (.int _ _)) ?_)
  refine C_nil (K_in (K_region (Cm v0_0.v rfl rfl ?_)))
  refine C_at .h (fun hp => V_lenR (l := a_s.length) sl46 (.tmp rfl rfl) (crd_len hp)) ?_
  refine C_val (V_move (v := (.int .i64 0)) (.int _ _)) ?_
  refine C_nil (CW_block (CW_loop (m := a_s.length) (fun m2 f' cs' => ∃ (g : Fr) (k4 : Nat) (rest5 : List Access), m2 = rest5.length ∧ f' = updL g [(0, v0_0.v), (1, (.func (.func 252) [].toArray [(.pointer (some ⟨kc1, 0, some 0⟩))].toArray)), (7, (.int .i64 (a_s.length : Int))), (8, (.int .i64 (k4 : Int)))] ∧ List.drop k4 a_s = rest5 ∧ Ent cs' [crd (RdS 80 rd80) v0_0.v a_s, cboR kc1 80 (.agg [(.int .i64 a_e1.Method), vc1_1.v].toArray), crd (RdS 3 rdInt) vc1_1.v a_e1.Values] ∧ g_slices_IndexFunc_impl_Access_impl_Access_ihasAccess1_L1 a_e1 rest5 k4 = some R) ⟨_, 0, _, rfl, (EqL.cons rfl (EqL.cons rfl (EqL.cons rfl (EqL.cons rfl (EqL.nil))))).eq, rfl, (.sel (.rd .h rfl (.rd (.t .h) rfl (.rd (.t (.t .h)) rfl .nil)))), hF⟩ ?_))
  clear hF
  rintro m2 _ _ ⟨g3, k4, rest5, rfl, rfl, hd7, hE, hF⟩
  refine K_ent hE ?_
  clear hE
  refine K_pure (c := crd (RdS 80 rd80) v0_0.v a_s) .h crd_bound (fun hbd12 => ?_)
  rcases rest5 with _ | ⟨x6, rest5⟩
  · have hk8 := List.drop_eq_nil_iff.1 hd7
    have hfe11 : (decide (((k4 : Int) : Int) < (a_s.length : Int))) = false := decide_eq_false (by omega)
    rw [g_slices_IndexFunc_impl_Access_impl_Access_ihasAccess1_L1] at hF
    refine K_region (C_val (V_lss (i := (k4 : Int)) (j := (a_s.length : Int)) (.tmp rfl rfl) (.tmp rfl rfl)) ?_)
    refine C_nil (K_in (CW_cond (b := (decide (((k4 : Int) : Int) < (a_s.length : Int)))) (.tmp rfl rfl) (fun hb => absurd (hfe11.symm.trans hb) (by decide)) (fun _ => ?_)))
    refine CW_exit ?_
    iterate 2 refine CThen_exit ?_
    refine CIn_self (K_region (C_val (V_assign (v := (.int .i64 (-1))) (.int _ _)) ?_))
    refine C_nil (CW_ret ?_)
    obtain rfl := Option.some.inj hF
    exact End_ret () (.tmp rfl rfl .nil) rfl (.sel .nil)
  obtain ⟨hk8, hx9, hd10⟩ := drop_cons hd7
  have hfe11 : (decide (((k4 : Int) : Int) < (a_s.length : Int))) = true := decide_eq_true (by omega)
  rw [g_slices_IndexFunc_impl_Access_impl_Access_ihasAccess1_L1] at hF
  refine K_region (C_val (V_lss (i := (k4 : Int)) (j := (a_s.length : Int)) (.tmp rfl rfl) (.tmp rfl rfl)) ?_)
  refine C_nil (K_in (CW_cond (b := (decide (((k4 : Int) : Int) < (a_s.length : Int)))) (.tmp rfl rfl) (fun _ => ?_) (fun hb => absurd (hfe11.symm.trans hb) (by decide))))
  refine CW_skip (K_block (K_region (Cm (.int .i64 (k4 : Int)) rfl rfl ?_)))
  refine Ca (.int .i64 (k4 : Int)) rfl rfl ?_
  refine C_nil (K_region (Cm (.func (.func 252) [].toArray [(.pointer (some ⟨kc1, 0, some 0⟩))].toArray) rfl rfl ?_))
  refine Cm v0_0.v rfl rfl ?_
  refine Cm (.int .i64 (k4 : Int)) rfl rfl ?_
  refine C_idx (a := x6) sl46 ty80.sz (.tmp rfl rfl) (.tmp rfl rfl) .h (Int.natCast_nonneg k4) hx9 (fun k13 j14 => ?_)
  refine C_ldA1 (ul80_0_80 x6) ag80 ty80.sz rfl (.tmp rfl rfl) .h la80_0_80 (fun p15 => ?_)
  obtain ⟨r16, hx17, hF⟩ := bind_some hF
  refine C_x0 (.rd .h rfl (.rd (.t (.t (.t .h))) rfl (.rd (.t (.t (.t (.t .h)))) rfl .nil))) (X_callCS cf252 (.tmp rfl rfl) (.cons (.tmp rfl rfl) .nil) (i_hasAccess_1_ok x6 p15 kc1 a_e1 vc1_1 _ hx17)) (fun _ => ?_)
  refine C_nil (CW_cond (b := r16) (.tmp rfl rfl) (fun hb20 => ?_) (fun hb20 => ?_))
  · rw [if_pos hb20] at hF
    refine K_region (Cm (.int .i64 (k4 : Int)) rfl rfl ?_)
    refine Ca (.int .i64 (k4 : Int)) rfl rfl ?_
    refine C_nil (CW_ret ?_)
    obtain rfl := Option.some.inj hF
    exact End_ret () (.tmp rfl rfl .nil) rfl (.sel .nil)
  rw [if_neg (by rw [hb20]; exact Bool.false_ne_true)] at hF
  refine CW_skip (CW_region (C_val (V_add (i := (k4 : Int)) (j := 1) (.tmp rfl rfl) (.int _ _)) ?_))
  refine Cm (.int .i64 (IntKind.i64.wrap ((k4 : Int) + 1))) rfl rfl ?_
  refine C_nil ?_
  have hw19 : IntKind.i64.wrap ((k4 : Int) + 1) = ((k4 + 1 : Nat) : Int) := by rw [wrap_in (by omega) (by omega)]; rfl
  rw [hw19]
  exact ⟨_, Nat.lt_succ_self _, _, k4 + 1, rest5, rfl, (EqL.cons rfl (EqL.cons rfl (EqL.cons rfl (EqL.cons rfl (EqL.nil))))).eq, hd10, (.sel (.rd (.t (.t .h)) rfl (.rd (.t (.t (.t .h))) rfl (.rd (.t (.t (.t (.t .h)))) rfl .nil)))), hF⟩

/-! impl.Access] -/
def g_slices_ContainsFunc_impl_Access_impl_Access_ihasAccess1 (a_s : List Access) (a_e1 : Access) : Option (Bool) :=
  (g_slices_IndexFunc_impl_Access_impl_Access_ihasAccess1 a_s a_e1).bind fun r1 =>
  some (decide ((0 : Int) ≤ r1))
theorem g_slices_ContainsFunc_impl_Access_impl_Access_ihasAccess1_ok (a_s : List Access) (v0_0 : Sv) (kc1 : Nat) (a_e1 : Access) (vc1_1 : Sv) (R : Bool) (hF : g_slices_ContainsFunc_impl_Access_impl_Access_ihasAccess1 a_s a_e1 = some R) :
    Fw.Spec Tryz.prog 107 [v0_0.v, (.func (.func 252) [].toArray [(.pointer (some ⟨kc1, 0, some 0⟩))].toArray)] [crd (RdS 80 rd80) v0_0.v a_s, cboR kc1 80 (.agg [(.int .i64 a_e1.Method), vc1_1.v].toArray), crd (RdS 3 rdInt) vc1_1.v a_e1.Values] (fun _ : Unit => (.bool R)) (fun _ => []) := by
  refine Spec_enter (n := 9) Tryz.func107 rfl rfl (rs := [.tmp 4]) rfl rfl rfl ?_
  intro H0 F0
  unfold g_slices_ContainsFunc_impl_Access_impl_Access_ihasAccess1 at hF
  refine K_region (C_val (V_assign (v := (.bool false)) (.bool _)) ?_)
  refine C_nil (K_region (Cm v0_0.v rfl rfl ?_))
  refine Cm (.func (.func 252) [].toArray [(.pointer (some ⟨kc1, 0, some 0⟩))].toArray) rfl rfl ?_
  obtain ⟨r1, hx2, hF⟩ := bind_some hF
  refine C_x0 (.rd .h rfl (.rd (.t .h) rfl (.rd (.t (.t .h)) rfl .nil))) (X_callS cf156 (.cons (.tmp rfl rfl) (.cons (.tmp rfl rfl) .nil)) (g_slices_IndexFunc_impl_Access_impl_Access_ihasAccess1_ok a_s v0_0 kc1 a_e1 vc1_1 _ hx2)) (fun _ => ?_)
  refine C_val (V_geq (i := r1) (j := 0) (.tmp rfl rfl) (.int _ _)) ?_
  refine Ca (.bool (decide ((0 : Int) ≤ r1))) rfl rfl ?_
  refine C_nil (CW_ret ?_)
  obtain rfl := Option.some.inj hF
  exact End_ret () (.tmp rfl rfl .nil) rfl (.sel .nil)

/-! impl.hasAccess -/
def i_hasAccess (a_l : List Access) (a_a : Access) : Option (Bool) :=
  (g_slices_ContainsFunc_impl_Access_impl_Access_ihasAccess1 a_l a_a).bind fun r2 =>
  some r2
theorem i_hasAccess_ok (a_l : List Access) (v0_0 : Sv) (a_a : Access) (v1_1 : Sv) (R : Bool) (hF : i_hasAccess a_l a_a = some R) :
    Fw.Spec Tryz.prog 220 [v0_0.v, (.agg [(.int .i64 a_a.Method), v1_1.v].toArray)] [crd (RdS 80 rd80) v0_0.v a_l, crd (RdS 3 rdInt) v1_1.v a_a.Values] (fun _ : Unit => (.bool R)) (fun _ => []) := by
  refine Spec_enter (n := 8) Tryz.func220 rfl rfl (rs := [.tmp 4]) rfl rfl rfl ?_
  intro H0 F0
  unfold i_hasAccess at hF
  refine K_region (C_newR rfl (N_box (g := false) (v := (.agg [(.int .i64 a_a.Method), v1_1.v].toArray)) ty80.sz (.tmp rfl rfl) rfl) (fun k1 => ?_))
  refine C_val (V_assign (v := (.bool false)) (.bool _)) ?_
  refine C_nil (K_region (Cm v0_0.v rfl rfl ?_))
  refine C_val (V_makeFunc (fn := .func 252) (vs := []) (us := [(.pointer (some ⟨k1, 0, some 0⟩))]) .nil (.cons (.tmp rfl rfl) .nil)) ?_
  obtain ⟨r2, hx3, hF⟩ := bind_some hF
  refine C_x0 (.rd (.t .h) rfl (.rd .h rfl (.rd (.t (.t .h)) rfl .nil))) (X_callS cf107 (.cons (.tmp rfl rfl) (.cons (.tmp rfl rfl) .nil)) (g_slices_ContainsFunc_impl_Access_impl_Access_ihasAccess1_ok a_l v0_0 k1 a_a v1_1 _ hx3)) (fun _ => ?_)
  refine Ca (.bool r2) rfl rfl ?_
  refine C_nil (CW_ret ?_)
  obtain rfl := Option.some.inj hF
  exact End_ret () (.tmp rfl rfl .nil) rfl (.sel .nil)

/-! impl.Reached).open -/
def i_Reached_open_L2 (a_r : Reached) (k9 : Nat) : List (List Int) → Nat → (List Access) → Option ((List Access))
  | [], k66, c60 => some c60
  | x68 :: rest67, k66, c60 => ((i_hasAccess a_r.Log ({ Method := (k9 : Int), Values := x68 } : Access)).bind fun r81 =>
      if (!r81) then (
        (app c60 ([({ Method := (k9 : Int), Values := x68 } : Access)] : List Access)).bind fun z85 =>
        some z85)
      else (
        some c60)).bind fun o75 =>
    match o75 with
    | c89 => i_Reached_open_L2 a_r k9 rest67 (k66 + 1) c89
def i_Reached_open_L1 (a_r : Reached) : List Method → Nat → (List Access) → Option ((List Access) × Reached)
  | [], k9, c3 => some (c3, a_r)
  | x11 :: rest10, k9, c3 => (if ((x11.Limit : Int) != 0) then (
        some c3)
      else (
        (i_lists a_r.Values (x11.Inputs.length : Int)).bind fun r24 =>
        i_Reached_open_L2 a_r k9 r24 0 c3)).bind fun o18 =>
    match o18 with
    | c95 => i_Reached_open_L1 a_r rest10 (k9 + 1) c95
def i_Reached_open (a_r : Reached) (a_l : List Method) : Option ((List Access) × Reached) :=
  i_Reached_open_L1 a_r a_l 0 ([] : List Access)
theorem i_Reached_open_ok (a_r : Reached) (v0_0 : Sv) (F0_0 : List Nat) (v0_1 : Sv) (F0_1 : List Nat) (v0_2 : Sv) (F0_2 : List Nat) (a_l : List Method) (v1_0 : Sv) (R : (List Access) × Reached) (hF : i_Reached_open a_r a_l = some R) :
    Fw.Spec Tryz.prog 180 [(.agg [v0_0.v, v0_1.v, v0_2.v, (.int .i64 a_r.Rounds)].toArray), v1_0.v] [cown (OwnS 114 ow114) F0_0 v0_0.v a_r.Facts, cown (OwnS 3 (roE rdInt)) F0_1 v0_1.v a_r.Values, cown (OwnS 80 (roE rd80)) F0_2 v0_2.v a_r.Log, crd (RdS 112 rd112) v1_0.v a_l] (fun p : Sv × List Nat × List Nat × List Nat × List Nat => p.1.v) (fun p => [cown (OwnS 80 (roE rd80)) p.2.1 p.1.v R.1, cown (OwnS 114 ow114) p.2.2.1 v0_0.v R.2.Facts, cown (OwnS 3 (roE rdInt)) p.2.2.2.1 v0_1.v R.2.Values, cown (OwnS 80 (roE rd80)) p.2.2.2.2 v0_2.v R.2.Log]) := by
  refine Spec_enter (n := 48) Tryz.func180 rfl rfl (rs := [.tmp 4]) rfl rfl rfl ?_
  intro H0 F0
  unfold i_Reached_open at hF
  refine K_region (C_newR rfl (N_box (g := false) (v := (.agg [v0_0.v, v0_1.v, v0_2.v, (.int .i64 a_r.Rounds)].toArray)) ty110.sz (.tmp rfl rfl) rfl) (fun k1 => ?_))
  refine C_val (V_assign (v := (.slice none 0 0)) EV.nilSlice) ?_
  refine C_nil (K_region (C_new rfl (N_buildSliceT (g := true) sl46 ty80 .nil (vs := []) rfl rfl rfl (by simp)) (fun k2 => ?_)))
  refine C_conv (.cons .h .nil) (own_lit (Ro := (roE rd80)) (E := 80) (F := []) (xs := ([] : List Access)) MkL_nil rfl rfl) apps ?_
  refine Ca (.slice (some ⟨k2, 0, none⟩) 0 1) rfl rfl ?_
  refine C_nil (K_in (K_region (Cm v1_0.v rfl rfl ?_)))
  refine C_at (.t (.t (.t (.t (.t .h))))) (fun hp => V_lenR (l := a_l.length) sl38 (.tmp rfl rfl) (crd_len hp)) ?_
  refine C_val (V_move (v := (.int .i64 0)) (.int _ _)) ?_
  refine C_nil (CW_block (CW_loop (m := a_l.length) (fun m7 f' cs' => ∃ (g : Fr) (k9 : Nat) (rest10 : List Method) (c3 : List Access) (v4 : Sv) (F5 : List Nat), m7 = rest10.length ∧ f' = updL g [(2, (.pointer (some ⟨k1, 0, some 0⟩))), (5, v4.v), (12, v1_0.v), (13, (.int .i64 (a_l.length : Int))), (14, (.int .i64 (k9 : Int)))] ∧ List.drop k9 a_l = rest10 ∧ Ent cs' [cboR k1 110 (.agg [v0_0.v, v0_1.v, v0_2.v, (.int .i64 a_r.Rounds)].toArray), cown (OwnS 114 ow114) F0_0 v0_0.v a_r.Facts, cown (OwnS 3 (roE rdInt)) F0_1 v0_1.v a_r.Values, cown (OwnS 80 (roE rd80)) F0_2 v0_2.v a_r.Log, cown (OwnS 80 (roE rd80)) F5 v4.v c3, crd (RdS 112 rd112) v1_0.v a_l] ∧ i_Reached_open_L1 a_r rest10 k9 c3 = some R) ⟨_, 0, _, _, ⟨(some ⟨k2, 0, none⟩), 0, 1⟩, (k2 :: []), rfl, (EqL.cons rfl (EqL.cons rfl (EqL.cons rfl (EqL.cons rfl (EqL.cons rfl (EqL.nil)))))).eq, rfl, (.sel (.rd (.t .h) rfl (.cons (.t (.t .h)) (.cons (.t (.t .h)) (.cons (.t (.t .h)) (.cons .h (.rd (.t .h) rfl .nil))))))), hF⟩ ?_))
  clear hF
  rintro m7 _ _ ⟨g8, k9, rest10, c3, v4, F5, rfl, rfl, hd12, hE, hF⟩
  refine K_ent hE ?_
  clear hE
  refine K_pure (c := crd (RdS 112 rd112) v1_0.v a_l) (.t (.t (.t (.t (.t .h))))) crd_bound (fun hbd17 => ?_)
  rcases rest10 with _ | ⟨x11, rest10⟩
  · have hk13 := List.drop_eq_nil_iff.1 hd12
    have hfe16 : (decide (((k9 : Int) : Int) < (a_l.length : Int))) = false := decide_eq_false (by omega)
    rw [i_Reached_open_L1] at hF
    refine K_region (C_val (V_lss (i := (k9 : Int)) (j := (a_l.length : Int)) (.tmp rfl rfl) (.tmp rfl rfl)) ?_)
    refine C_nil (K_in (CW_cond (b := (decide (((k9 : Int) : Int) < (a_l.length : Int)))) (.tmp rfl rfl) (fun hb => absurd (hfe16.symm.trans hb) (by decide)) (fun _ => ?_)))
    refine CW_exit ?_
    iterate 2 refine CThen_exit ?_
    refine CIn_self (K_region (Cm v4.v rfl rfl ?_))
    refine Ca v4.v rfl rfl ?_
    refine C_nil (CW_ret ?_)
    obtain rfl := Option.some.inj hF
    exact End_ret (v4, F5, F0_0, F0_1, F0_2) (.tmp rfl rfl .nil) rfl (.sel (.cons (.t (.t (.t (.t .h)))) (.cons (.t .h) (.cons (.t .h) (.cons (.t .h) .nil)))))
  obtain ⟨hk13, hx14, hd15⟩ := drop_cons hd12
  have hfe16 : (decide (((k9 : Int) : Int) < (a_l.length : Int))) = true := decide_eq_true (by omega)
  rw [i_Reached_open_L1] at hF
  refine K_region (C_val (V_lss (i := (k9 : Int)) (j := (a_l.length : Int)) (.tmp rfl rfl) (.tmp rfl rfl)) ?_)
  refine C_nil (K_in (CW_cond (b := (decide (((k9 : Int) : Int) < (a_l.length : Int)))) (.tmp rfl rfl) (fun _ => ?_) (fun hb => absurd (hfe16.symm.trans hb) (by decide))))
  refine CW_skip ?_
  obtain ⟨o18, hio18, hO19⟩ := bind_some hF
  refine K_cut (fun f' cs' => ∃ (c95 : List Access) (v96 : Sv) (F97 : List Nat) (g : Fr), c95 = o18 ∧ f' = updL g [(2, (.pointer (some ⟨k1, 0, some 0⟩))), (5, v96.v), (12, v1_0.v), (13, (.int .i64 (a_l.length : Int))), (14, (.int .i64 (k9 : Int)))] ∧ Ent cs' [cboR k1 110 (.agg [v0_0.v, v0_1.v, v0_2.v, (.int .i64 a_r.Rounds)].toArray), cown (OwnS 114 ow114) F0_0 v0_0.v a_r.Facts, cown (OwnS 3 (roE rdInt)) F0_1 v0_1.v a_r.Values, cown (OwnS 80 (roE rd80)) F0_2 v0_2.v a_r.Log, cown (OwnS 80 (roE rd80)) F97 v96.v c95, crd (RdS 112 rd112) v1_0.v a_l]) ?_ ?_
  · replace hF := hio18
    refine CW_block (K_region (Cm (.int .i64 (k9 : Int)) rfl rfl ?_))
    refine C_idx (a := x11) sl38 ty112.sz (.tmp rfl rfl) (.tmp rfl rfl) (.t (.t (.t (.t (.t .h))))) (Int.natCast_nonneg k9) hx14 (fun k20 j21 => ?_)
    refine C_ldA1 (ul112_0_112 x11) ag112 ty112.sz rfl (.tmp rfl rfl) .h la112_0_112 (fun p22 => ?_)
    refine C_new rfl (N_allocT (g := true) ty112 rfl rfl) (fun k23 => ?_)
    refine Ca (.int .i64 (k9 : Int)) rfl rfl ?_
    refine C_x1 (.cons .h .nil) (X_storeB (e' := (.agg [(.int .i64 x11.Rel), p22.v, (.int .i64 x11.Limit), (.int .i64 x11.Cost), (.int .i64 x11.Quota)].toArray)) (v := (.agg [(.int .i64 x11.Rel), p22.v, (.int .i64 x11.Limit), (.int .i64 x11.Cost), (.int .i64 x11.Quota)].toArray)) ty112.sz (.tmp rfl rfl) (.tmp rfl rfl) rfl rfl rfl rfl rfl) (fun _ => ?_)
    refine C_nil (K_in (K_region (C_val (V_fieldAddr (off := 2) fd112_2 (.tmp rfl rfl)) ?_)))
    refine C_at .h (fun hp => V_load (v := (.int .i64 x11.Limit)) ag3 (.tmp rfl rfl) hp.2 rfl rfl) ?_
    refine C_val (V_neq (i := x11.Limit) (j := 0) (.tmp rfl rfl) (.int _ _)) ?_
    refine C_nil (CW_cond (b := ((x11.Limit : Int) != 0)) (.tmp rfl rfl) (fun hb94 => ?_) (fun hb94 => ?_))
    · rw [if_pos hb94] at hF
      refine CW_exit (CThen_exit (CIn_self ?_))
      obtain rfl := Option.some.inj hF
      exact ⟨_, v4, F5, _, rfl, (EqL.cons rfl (EqL.cons rfl (EqL.cons rfl (EqL.cons rfl (EqL.cons rfl (EqL.nil)))))).eq, (.sel (.rd (.t (.t (.t .h))) rfl (.cons (.t (.t (.t (.t .h)))) (.cons (.t (.t (.t (.t .h)))) (.cons (.t (.t (.t (.t .h)))) (.cons (.t (.t (.t (.t .h)))) (.rd (.t (.t (.t (.t .h)))) rfl .nil)))))))⟩
    rw [if_neg (by rw [hb94]; exact Bool.false_ne_true)] at hF
    refine CW_skip (K_region (C_val (V_fieldAddr (off := 1) fd110_1 (.tmp rfl rfl)) ?_))
    refine C_at (.t (.t (.t .h))) (fun hp => V_load (v := v0_1.v) ag22 (.tmp rfl rfl) hp.2 rfl rfl) ?_
    refine C_val (V_fieldAddr (off := 1) fd112_1 (.tmp rfl rfl)) ?_
    refine C_at .h (fun hp => V_load (v := p22.v) ag22 (.tmp rfl rfl) hp.2 rfl rfl) ?_
    refine C_at (.t .h) (fun hp => V_lenR (l := x11.Inputs.length) sl22 (.tmp rfl rfl) (crd_len hp)) ?_
    obtain ⟨r24, hx25, hF⟩ := bind_some hF
    refine C_x2 (.cons (.t (.t (.t (.t (.t .h))))) .nil) (XC_bor frz_own (fun _ => (.cons .nil)) (X_callS cf219 (.cons (.tmp rfl rfl) (.cons (.tmp rfl rfl) .nil)) (i_lists_ok a_r.Values v0_1 (x11.Inputs.length : Int) _ hx25))) (fun p26 => ?_)
    refine C_at (.t .h) (fun hp => V_lenR (l := r24.length) sl139 (.tmp rfl rfl) (cown_len hp)) ?_
    refine C_val (V_move (v := (.int .i64 0)) (.int _ _)) ?_
    refine C_nil (CW_block (K_frz (.t .h) frz_own ?_))
    refine CW_loop (m := r24.length) (fun m64 f' cs' => ∃ (g : Fr) (k66 : Nat) (rest67 : List (List Int)) (c60 : List Access) (v61 : Sv) (F62 : List Nat), m64 = rest67.length ∧ f' = updL g [(2, (.pointer (some ⟨k1, 0, some 0⟩))), (5, v61.v), (6, (.int .i64 (k9 : Int))), (12, v1_0.v), (13, (.int .i64 (a_l.length : Int))), (14, (.int .i64 (k9 : Int))), (27, p26.1.v), (28, (.int .i64 (r24.length : Int))), (29, (.int .i64 (k66 : Int)))] ∧ List.drop k66 r24 = rest67 ∧ Ent cs' [cboR k1 110 (.agg [v0_0.v, v0_1.v, v0_2.v, (.int .i64 a_r.Rounds)].toArray), cown (OwnS 114 ow114) F0_0 v0_0.v a_r.Facts, cown (OwnS 3 (roE rdInt)) F0_1 v0_1.v a_r.Values, cown (OwnS 80 (roE rd80)) F0_2 v0_2.v a_r.Log, cown (OwnS 80 (roE rd80)) F62 v61.v c60, crd (RdS 112 rd112) v1_0.v a_l, crd (RdS 22 (RdS 3 rdInt)) p26.1.v r24] ∧ i_Reached_open_L2 a_r k9 rest67 k66 c60 = some o18) ⟨_, 0, _, _, v4, F5, rfl, (EqL.cons rfl (EqL.cons rfl (EqL.cons rfl (EqL.cons rfl (EqL.cons rfl (EqL.cons rfl (EqL.cons rfl (EqL.cons rfl (EqL.cons rfl (EqL.nil)))))))))).eq, rfl, (.sel (.rd (.t (.t (.t (.t (.t .h))))) rfl (.cons (.t (.t (.t (.t (.t (.t .h)))))) (.cons (.t .h) (.cons (.t (.t (.t (.t (.t .h))))) (.cons (.t (.t (.t (.t (.t .h))))) (.rd (.t (.t (.t (.t (.t .h))))) rfl (.rd .h rfl .nil)))))))), hF⟩ ?_
    clear hF
    rintro m64 _ _ ⟨g65, k66, rest67, c60, v61, F62, rfl, rfl, hd69, hE, hF⟩
    refine K_ent hE ?_
    clear hE
    refine K_pure (c := crd (RdS 22 (RdS 3 rdInt)) p26.1.v r24) (.t (.t (.t (.t (.t (.t .h)))))) crd_bound (fun hbd74 => ?_)
    rcases rest67 with _ | ⟨x68, rest67⟩
    · have hk70 := List.drop_eq_nil_iff.1 hd69
      have hfe73 : (decide (((k66 : Int) : Int) < (r24.length : Int))) = false := decide_eq_false (by omega)
      rw [i_Reached_open_L2] at hF
      refine K_region (C_val (V_lss (i := (k66 : Int)) (j := (r24.length : Int)) (.tmp rfl rfl) (.tmp rfl rfl)) ?_)
      refine C_nil (K_in (CW_cond (b := (decide (((k66 : Int) : Int) < (r24.length : Int)))) (.tmp rfl rfl) (fun hb => absurd (hfe73.symm.trans hb) (by decide)) (fun _ => ?_)))
      refine CW_exit ?_
      iterate 2 refine CThen_exit ?_
      refine CIn_self ?_
      obtain rfl := Option.some.inj hF
      exact ⟨_, v61, F62, _, rfl, (EqL.cons rfl (EqL.cons rfl (EqL.cons rfl (EqL.cons rfl (EqL.cons rfl (EqL.nil)))))).eq, (.sel (.rd .h rfl (.cons (.t .h) (.cons (.t .h) (.cons (.t .h) (.cons (.t .h) (.rd (.t .h) rfl .nil)))))))⟩
    obtain ⟨hk70, hx71, hd72⟩ := drop_cons hd69
    have hfe73 : (decide (((k66 : Int) : Int) < (r24.length : Int))) = true := decide_eq_true (by omega)
    rw [i_Reached_open_L2] at hF
    refine K_region (C_val (V_lss (i := (k66 : Int)) (j := (r24.length : Int)) (.tmp rfl rfl) (.tmp rfl rfl)) ?_)
    refine C_nil (K_in (CW_cond (b := (decide (((k66 : Int) : Int) < (r24.length : Int)))) (.tmp rfl rfl) (fun _ => ?_) (fun hb => absurd (hfe73.symm.trans hb) (by decide))))
    refine CW_skip ?_
    obtain ⟨o75, hio75, hO76⟩ := bind_some hF
    refine K_cut (fun f' cs' => ∃ (c89 : List Access) (v90 : Sv) (F91 : List Nat) (g : Fr), c89 = o75 ∧ f' = updL g [(2, (.pointer (some ⟨k1, 0, some 0⟩))), (5, v90.v), (6, (.int .i64 (k9 : Int))), (12, v1_0.v), (13, (.int .i64 (a_l.length : Int))), (14, (.int .i64 (k9 : Int))), (27, p26.1.v), (28, (.int .i64 (r24.length : Int))), (29, (.int .i64 (k66 : Int)))] ∧ Ent cs' [cboR k1 110 (.agg [v0_0.v, v0_1.v, v0_2.v, (.int .i64 a_r.Rounds)].toArray), cown (OwnS 114 ow114) F0_0 v0_0.v a_r.Facts, cown (OwnS 3 (roE rdInt)) F0_1 v0_1.v a_r.Values, cown (OwnS 80 (roE rd80)) F0_2 v0_2.v a_r.Log, cown (OwnS 80 (roE rd80)) F91 v90.v c89, crd (RdS 112 rd112) v1_0.v a_l, crd (RdS 22 (RdS 3 rdInt)) p26.1.v r24]) ?_ ?_
    · replace hF := hio75
      refine CW_block (K_region (C_idx (a := x68) sl139 ty22.sz (.tmp rfl rfl) (.tmp rfl rfl) (.t (.t (.t (.t (.t (.t .h)))))) (Int.natCast_nonneg k66) hx71 (fun k77 j78 => ?_)))
      refine C_ldV (R' := (RdS 3 rdInt)) ag22 (.tmp rfl rfl) .h lv22_0 (fun w79 => ?_)
      refine Ca w79.v rfl rfl ?_
      refine C_nil (K_region (Cm (.int .i64 (k9 : Int)) rfl rfl ?_))
      refine Cm w79.v rfl rfl ?_
      refine C_val (V_build ty80 rfl (vs := [(.int .i64 (k9 : Int)), w79.v]) (.cons (.tmp rfl rfl) (.cons (.tmp rfl rfl) .nil)) (cells := [(.int .i64 (k9 : Int)), w79.v]) rfl) ?_
      refine C_new rfl (N_allocT (g := true) ty80 rfl rfl) (fun k80 => ?_)
      refine C_x1 (.cons .h .nil) (X_storeB (e' := (.agg [(.int .i64 (k9 : Int)), w79.v].toArray)) (v := (.agg [(.int .i64 (k9 : Int)), w79.v].toArray)) ty80.sz (.tmp rfl rfl) (.tmp rfl rfl) rfl rfl rfl rfl rfl) (fun _ => ?_)
      refine C_nil (K_region (C_val (V_fieldAddr (off := 2) fd110_2 (.tmp rfl rfl)) ?_))
      refine C_at (.t (.t (.t .h))) (fun hp => V_load (v := v0_2.v) ag46 (.tmp rfl rfl) hp.2 rfl rfl) ?_
      refine C_at .h (fun hp => V_loadBox ag80 ty80.sz rfl (.tmp rfl rfl) hp.2 rfl) ?_
      obtain ⟨r81, hx82, hF⟩ := bind_some hF
      refine C_x1 (.cons (.t (.t (.t (.t (.t (.t .h)))))) (.rd (.t .h) rfl .nil)) (XC_bor frz_own (fun _ => .nil) (X_callS cf220 (.cons (.tmp rfl rfl) (.cons (.tmp rfl rfl) .nil)) (i_hasAccess_ok a_r.Log v0_2 ({ Method := (k9 : Int), Values := x68 } : Access) w79 _ hx82))) (fun _ => ?_)
      refine C_val (V_not (b := r81) (.tmp rfl rfl)) ?_
      refine C_nil (CW_cond (b := (!r81)) (.tmp rfl rfl) (fun hb88 => ?_) (fun hb88 => ?_))
      · rw [if_pos hb88] at hF
        refine CW_region (Cm v61.v rfl rfl ?_)
        refine C_at (.t .h) (fun hp => V_loadBox ag80 ty80.sz rfl (.tmp rfl rfl) hp.2 rfl) ?_
        refine C_new rfl (N_buildSliceT (g := true) sl46 ty80 (.cons (.tmp rfl rfl) .nil) (vs := [(.agg [(.int .i64 (k9 : Int)), w79.v].toArray)]) rfl rfl rfl (by intro v hv; simp at hv; rcases hv with rfl <;> rfl)) (fun k84 => ?_)
        refine C_conv (.cons .h (.rd (.t (.t .h)) rfl .nil)) (own_lit (Ro := (roE rd80)) (E := 80) (F := ([] ++ [])) (xs := ([({ Method := (k9 : Int), Values := x68 } : Access)] : List Access)) (MkL_cons (mr80 (a := ({ Method := (k9 : Int), Values := x68 } : Access))) MkL_nil apps) rfl rfl) apps ?_
        obtain ⟨z85, hx86, hF⟩ := bind_some hF
        refine C_x1 (.cons (.t (.t (.t (.t (.t (.t (.t (.t .h)))))))) (.cons .h .nil)) (X_appendO (Ro := (roE rd80)) sl46 ni46 ty80 rfl rfl rfl (.tmp rfl rfl) (.tmp rfl rfl) hx86 src_own) (fun p87 => ?_)
        refine Ca p87.1.v rfl rfl ?_
        refine C_nil ?_
        obtain rfl := Option.some.inj hF
        exact ⟨_, p87.1, p87.2, _, rfl, (EqL.cons rfl (EqL.cons rfl (EqL.cons rfl (EqL.cons rfl (EqL.cons rfl (EqL.cons rfl (EqL.cons rfl (EqL.cons rfl (EqL.cons rfl (EqL.nil)))))))))).eq, (.sel (.rd (.t (.t (.t (.t (.t .h))))) rfl (.cons (.t (.t (.t (.t (.t (.t .h)))))) (.cons (.t (.t (.t (.t (.t (.t .h)))))) (.cons (.t .h) (.cons .h (.rd (.t (.t (.t (.t .h)))) rfl (.rd (.t (.t (.t (.t (.t .h))))) rfl .nil))))))))⟩
      rw [if_neg (by rw [hb88]; exact Bool.false_ne_true)] at hF
      refine CW_skip ?_
      obtain rfl := Option.some.inj hF
      exact ⟨_, v61, F62, _, rfl, (EqL.cons rfl (EqL.cons rfl (EqL.cons rfl (EqL.cons rfl (EqL.cons rfl (EqL.cons rfl (EqL.cons rfl (EqL.cons rfl (EqL.cons rfl (EqL.nil)))))))))).eq, (.sel (.rd (.t (.t (.t (.t .h)))) rfl (.cons (.t (.t (.t (.t (.t .h))))) (.cons (.t (.t (.t (.t (.t .h))))) (.cons .h (.cons (.t (.t (.t (.t .h)))) (.rd (.t (.t (.t (.t .h)))) rfl (.rd (.t (.t (.t (.t (.t .h))))) rfl .nil))))))))⟩
    rintro _ _ ⟨c89, v90, F91, g93, rfl, rfl, hE⟩
    replace hF := hO76
    clear hO76
    try dsimp only at hF
    refine K_ent hE ?_
    refine CW_region (C_val (V_add (i := (k66 : Int)) (j := 1) (.tmp rfl rfl) (.int _ _)) ?_)
    refine Cm (.int .i64 (IntKind.i64.wrap ((k66 : Int) + 1))) rfl rfl ?_
    refine C_nil ?_
    have hw92 : IntKind.i64.wrap ((k66 : Int) + 1) = ((k66 + 1 : Nat) : Int) := by rw [wrap_in (by omega) (by omega)]; rfl
    rw [hw92]
    exact ⟨_, Nat.lt_succ_self _, _, k66 + 1, rest67, _, v90, F91, rfl, (EqL.cons rfl (EqL.cons rfl (EqL.cons rfl (EqL.cons rfl (EqL.cons rfl (EqL.cons rfl (EqL.cons rfl (EqL.cons rfl (EqL.cons rfl (EqL.nil)))))))))).eq, hd72, (.sel (.rd .h rfl (.cons (.t .h) (.cons (.t .h) (.cons (.t .h) (.cons (.t .h) (.rd (.t .h) rfl (.rd (.t (.t .h)) rfl .nil)))))))), hF⟩
  rintro _ _ ⟨c95, v96, F97, g99, rfl, rfl, hE⟩
  replace hF := hO19
  clear hO19
  try dsimp only at hF
  refine K_ent hE ?_
  refine CW_region (C_val (V_add (i := (k9 : Int)) (j := 1) (.tmp rfl rfl) (.int _ _)) ?_)
  refine Cm (.int .i64 (IntKind.i64.wrap ((k9 : Int) + 1))) rfl rfl ?_
  refine C_nil ?_
  have hw98 : IntKind.i64.wrap ((k9 : Int) + 1) = ((k9 + 1 : Nat) : Int) := by rw [wrap_in (by omega) (by omega)]; rfl
  rw [hw98]
  exact ⟨_, Nat.lt_succ_self _, _, k9 + 1, rest10, _, v96, F97, rfl, (EqL.cons rfl (EqL.cons rfl (EqL.cons rfl (EqL.cons rfl (EqL.cons rfl (EqL.nil)))))).eq, hd15, (.sel (.rd .h rfl (.cons (.t .h) (.cons (.t .h) (.cons (.t .h) (.cons (.t .h) (.rd (.t .h) rfl .nil))))))), hF⟩

/-! impl.copyFact -/
def i_copyFact (a_f : Fact) : Option (Fact) :=
  (g_slices_Clone_int_int a_f.Values).bind fun r3 =>
  some ({ Rel := a_f.Rel, Values := r3 } : Fact)
theorem i_copyFact_ok (a_f : Fact) (v0_1 : Sv) (R : Fact) (hF : i_copyFact a_f = some R) :
    Fw.Spec Tryz.prog 198 [(.agg [(.int .i64 a_f.Rel), v0_1.v].toArray)] [crd (RdS 3 rdInt) v0_1.v a_f.Values] (fun p : Sv × List Nat => (.agg [(.int .i64 R.Rel), p.1.v].toArray)) (fun p => [cown (OwnS 3 (roE rdInt)) p.2 p.1.v R.Values]) := by
  refine Spec_enter (n := 9) Tryz.func198 rfl rfl (rs := [.cell 2 114]) rfl rfl rfl ?_
  intro H0 F0
  unfold i_copyFact at hF
  refine K_region (C_newR rfl (N_box (g := false) (v := (.agg [(.int .i64 a_f.Rel), v0_1.v].toArray)) ty114.sz (.tmp rfl rfl) rfl) (fun k1 => ?_))
  refine C_new rfl (N_allocT (g := true) ty114 rfl rfl) (fun k2 => ?_)
  refine C_nil (K_draw [0, 1, 2, 3, 4, 5, 6] [0, 1, 0, 4, 12, 31, 63] [4, 6] mixed (by decide +kernel) ?_)
  refine D_val rfl .no (fun ha => V_fieldAddr (off := 0) fd114_0 (EN ha (.tmp rfl rfl) rfl)) ?_
  refine D_at rfl .no (.t .h) rfl (fun ha hp => V_load (v := (.int .i64 a_f.Rel)) ag3 (EN ha (.tmp rfl rfl) rfl) hp.2 rfl rfl) ?_
  refine D_val rfl .no (fun ha => V_fieldAddr (off := 1) fd114_1 (EN ha (.tmp rfl rfl) rfl)) ?_
  refine D_at rfl .no (.t .h) rfl (fun ha hp => V_load (v := v0_1.v) ag22 (EN ha (.tmp rfl rfl) rfl) hp.2 rfl rfl) ?_
  obtain ⟨r3, hx4, hF⟩ := bind_some hF
  refine D_act1 rfl rfl .no (.rd (.t (.t .h)) rfl .nil) .nil (fun ha => X_callS cf235 (.cons (EN ha (.tmp rfl rfl) rfl) .nil) (g_slices_Clone_int_int_ok a_f.Values v0_1 _ hx4)) (fun p5 => ?_)
  refine D_val rfl .no (fun ha => V_build ty114 rfl (vs := [(.int .i64 a_f.Rel), p5.1.v]) (.cons (EN ha (.tmp rfl rfl) rfl) (.cons (EN ha (.tmp rfl rfl) rfl) .nil)) (cells := [(.int .i64 a_f.Rel), p5.1.v]) rfl) ?_
  refine D_act1 rfl rfl .no (.cons (.t .h) .nil) .nil (fun ha => X_storeB (e' := (.agg [(.int .i64 a_f.Rel), p5.1.v].toArray)) (v := (.agg [(.int .i64 a_f.Rel), p5.1.v].toArray)) ty114.sz (EN ha (.tmp rfl rfl) rfl) (EN ha (.tmp rfl rfl) rfl) rfl rfl rfl rfl rfl) (fun _ => ?_)
  refine D_nil (CW_ret ?_)
  obtain rfl := Option.some.inj hF
  exact End_ret (p5.1, p5.2) (.cellA rfl rfl .h rfl ag114 ty114.sz rfl rfl .nil) rfl (.sel (.cons (.t .h) .nil))

/-! impl.copyFacts -/
def i_copyFacts_L1 : List Fact → Nat → (List Fact) → Option ((List Fact))
  | [], k8, c2 => some c2
  | x10 :: rest9, k8, c2 => (i_copyFact x10).bind fun r21 =>
    (app c2 ([r21] : List Fact)).bind fun z25 =>
    i_copyFacts_L1 rest9 (k8 + 1) z25
def i_copyFacts (a_l : List Fact) : Option ((List Fact)) :=
  i_copyFacts_L1 a_l 0 ([] : List Fact)
theorem i_copyFacts_ok (a_l : List Fact) (v0_0 : Sv) (R : (List Fact)) (hF : i_copyFacts a_l = some R) :
    Fw.Spec Tryz.prog 222 [v0_0.v] [crd (RdS 114 rd114) v0_0.v a_l] (fun p : Sv × List Nat => p.1.v) (fun p => [cown (OwnS 114 ow114) p.2 p.1.v R]) := by
  refine Spec_enter (n := 20) Tryz.func222 rfl rfl (rs := [.tmp 2]) rfl rfl rfl ?_
  intro H0 F0
  unfold i_copyFacts at hF
  refine K_region (C_val (V_assign (v := (.slice none 0 0)) EV.nilSlice) ?_)
  refine C_nil (K_region (C_new rfl (N_buildSliceT (g := true) sl40 ty114 .nil (vs := []) rfl rfl rfl (by simp)) (fun k1 => ?_)))
  refine C_conv (.cons .h .nil) (own_lit (Ro := ow114) (E := 114) (F := []) (xs := ([] : List Fact)) MkL_nil rfl rfl) apps ?_
  refine Ca (.slice (some ⟨k1, 0, none⟩) 0 1) rfl rfl ?_
  refine C_nil (K_in (K_region (Cm v0_0.v rfl rfl ?_)))
  refine C_at (.t .h) (fun hp => V_lenR (l := a_l.length) sl40 (.tmp rfl rfl) (crd_len hp)) ?_
  refine C_val (V_move (v := (.int .i64 0)) (.int _ _)) ?_
  refine C_nil (CW_block (CW_loop (m := a_l.length) (fun m6 f' cs' => ∃ (g : Fr) (k8 : Nat) (rest9 : List Fact) (c2 : List Fact) (v3 : Sv) (F4 : List Nat), m6 = rest9.length ∧ f' = updL g [(3, v3.v), (7, v0_0.v), (8, (.int .i64 (a_l.length : Int))), (9, (.int .i64 (k8 : Int)))] ∧ List.drop k8 a_l = rest9 ∧ Ent cs' [cown (OwnS 114 ow114) F4 v3.v c2, crd (RdS 114 rd114) v0_0.v a_l] ∧ i_copyFacts_L1 rest9 k8 c2 = some R) ⟨_, 0, _, _, ⟨(some ⟨k1, 0, none⟩), 0, 1⟩, (k1 :: []), rfl, (EqL.cons rfl (EqL.cons rfl (EqL.cons rfl (EqL.cons rfl (EqL.nil))))).eq, rfl, (.sel (.cons .h (.rd .h rfl .nil))), hF⟩ ?_))
  clear hF
  rintro m6 _ _ ⟨g7, k8, rest9, c2, v3, F4, rfl, rfl, hd11, hE, hF⟩
  refine K_ent hE ?_
  clear hE
  refine K_pure (c := crd (RdS 114 rd114) v0_0.v a_l) (.t .h) crd_bound (fun hbd16 => ?_)
  rcases rest9 with _ | ⟨x10, rest9⟩
  · have hk12 := List.drop_eq_nil_iff.1 hd11
    have hfe15 : (decide (((k8 : Int) : Int) < (a_l.length : Int))) = false := decide_eq_false (by omega)
    rw [i_copyFacts_L1] at hF
    refine K_region (C_val (V_lss (i := (k8 : Int)) (j := (a_l.length : Int)) (.tmp rfl rfl) (.tmp rfl rfl)) ?_)
    refine C_nil (K_in (CW_cond (b := (decide (((k8 : Int) : Int) < (a_l.length : Int)))) (.tmp rfl rfl) (fun hb => absurd (hfe15.symm.trans hb) (by decide)) (fun _ => ?_)))
    refine CW_exit ?_
    iterate 2 refine CThen_exit ?_
    refine CIn_self (K_region (Cm v3.v rfl rfl ?_))
    refine Ca v3.v rfl rfl ?_
    refine C_nil (CW_ret ?_)
    obtain rfl := Option.some.inj hF
    exact End_ret (v3, F4) (.tmp rfl rfl .nil) rfl (.sel (.cons .h .nil))
  obtain ⟨hk12, hx13, hd14⟩ := drop_cons hd11
  have hfe15 : (decide (((k8 : Int) : Int) < (a_l.length : Int))) = true := decide_eq_true (by omega)
  rw [i_copyFacts_L1] at hF
  refine K_region (C_val (V_lss (i := (k8 : Int)) (j := (a_l.length : Int)) (.tmp rfl rfl) (.tmp rfl rfl)) ?_)
  refine C_nil (K_in (CW_cond (b := (decide (((k8 : Int) : Int) < (a_l.length : Int)))) (.tmp rfl rfl) (fun _ => ?_) (fun hb => absurd (hfe15.symm.trans hb) (by decide))))
  refine CW_skip (K_block (K_region (C_idx (a := x10) sl40 ty114.sz (.tmp rfl rfl) (.tmp rfl rfl) (.t .h) (Int.natCast_nonneg k8) hx13 (fun k17 j18 => ?_))))
  refine C_ldA1 (ul114_0_114 x10) ag114 ty114.sz rfl (.tmp rfl rfl) .h la114_0_114 (fun p19 => ?_)
  refine C_new rfl (N_allocT (g := true) ty114 rfl rfl) (fun k20 => ?_)
  refine C_x1 (.cons .h .nil) (X_storeB (e' := (.agg [(.int .i64 x10.Rel), p19.v].toArray)) (v := (.agg [(.int .i64 x10.Rel), p19.v].toArray)) ty114.sz (.tmp rfl rfl) (.tmp rfl rfl) rfl rfl rfl rfl rfl) (fun _ => ?_)
  refine C_nil (CW_region (Cm v3.v rfl rfl ?_))
  refine C_at .h (fun hp => V_loadBox ag114 ty114.sz rfl (.tmp rfl rfl) hp.2 rfl) ?_
  obtain ⟨r21, hx22, hF⟩ := bind_some hF
  refine C_x1 (.rd (.t .h) rfl .nil) (X_callS cf198 (.cons (.tmp rfl rfl) .nil) (i_copyFact_ok x10 p19 _ hx22)) (fun p23 => ?_)
  refine C_new rfl (N_buildSliceT (g := true) sl40 ty114 (.cons (.tmp rfl rfl) .nil) (vs := [(.agg [(.int .i64 r21.Rel), p23.1.v].toArray)]) rfl rfl rfl (by intro v hv; simp at hv; rcases hv with rfl <;> rfl)) (fun k24 => ?_)
  refine C_conv (.cons .h (.cons .h .nil)) (own_lit (Ro := ow114) (E := 114) (F := (p23.2 ++ [])) (xs := ([r21] : List Fact)) (MkL_cons mk114 MkL_nil apps) rfl rfl) apps ?_
  obtain ⟨z25, hx26, hF⟩ := bind_some hF
  refine C_x1 (.cons (.t (.t (.t (.t .h)))) (.cons .h .nil)) (X_appendO (Ro := ow114) sl40 ni40 ty114 rfl rfl rfl (.tmp rfl rfl) (.tmp rfl rfl) hx26 src_own) (fun p27 => ?_)
  refine Ca p27.1.v rfl rfl ?_
  refine C_nil (CW_region (C_val (V_add (i := (k8 : Int)) (j := 1) (.tmp rfl rfl) (.int _ _)) ?_))
  refine Cm (.int .i64 (IntKind.i64.wrap ((k8 : Int) + 1))) rfl rfl ?_
  refine C_nil ?_
  have hw28 : IntKind.i64.wrap ((k8 : Int) + 1) = ((k8 + 1 : Nat) : Int) := by rw [wrap_in (by omega) (by omega)]; rfl
  rw [hw28]
  exact ⟨_, Nat.lt_succ_self _, _, k8 + 1, rest9, _, p27.1, p27.2, rfl, (EqL.cons rfl (EqL.cons rfl (EqL.cons rfl (EqL.cons rfl (EqL.nil))))).eq, hd14, (.sel (.cons .h (.rd (.t (.t (.t .h))) rfl .nil))), hF⟩

/-! impl.matches$1 -/
def i_matches_1_L1 (a_f : Fact) (a_e2 : Access) : List Int → Nat → Option (Bool)
  | [], k5 => some false
  | x7 :: rest6, k5 => (ix a_f.Values x7).bind fun x16 =>
    (ix a_e2.Values (k5 : Int)).bind fun x22 =>
    if ((x16 : Int) != x22) then (
      some true)
    else (
      i_matches_1_L1 a_f a_e2 rest6 (k5 + 1))
def i_matches_1 (a_f : Fact) (a_e1 : Method) (a_e2 : Access) : Option (Bool) :=
  if ((a_f.Rel : Int) != a_e1.Rel) then (
    some true)
  else (
    i_matches_1_L1 a_f a_e2 a_e1.Inputs 0)
theorem i_matches_1_ok (a_f : Fact) (v0_1 : Sv) (kc1 : Nat) (a_e1 : Method) (vc1_1 : Sv) (kc2 : Nat) (a_e2 : Access) (vc2_1 : Sv) (R : Bool) (hF : i_matches_1 a_f a_e1 a_e2 = some R) :
    Fw.Spec Tryz.prog 223 [(.agg [(.int .i64 a_f.Rel), v0_1.v].toArray), (.pointer (some ⟨kc1, 0, some 0⟩)), (.pointer (some ⟨kc2, 0, some 0⟩))] [crd (RdS 3 rdInt) v0_1.v a_f.Values, cboR kc1 112 (.agg [(.int .i64 a_e1.Rel), vc1_1.v, (.int .i64 a_e1.Limit), (.int .i64 a_e1.Cost), (.int .i64 a_e1.Quota)].toArray), crd (RdS 3 rdInt) vc1_1.v a_e1.Inputs, cboR kc2 80 (.agg [(.int .i64 a_e2.Method), vc2_1.v].toArray), crd (RdS 3 rdInt) vc2_1.v a_e2.Values] (fun _ : Unit => (.bool R)) (fun _ => []) := by
  refine Spec_enter (n := 32) Tryz.func223 rfl rfl (rs := [.tmp 4]) rfl rfl rfl ?_
  intro H0 F0
  unfold i_matches_1 at hF
  refine K_region (C_newR rfl (N_box (g := false) (v := (.agg [(.int .i64 a_f.Rel), v0_1.v].toArray)) ty114.sz (.tmp rfl rfl) rfl) (fun k1 => ?_))
  refine C_val (V_assign (v := (.bool false)) (.bool _)) ?_
  refine C_nil (K_in (K_region (C_val (V_fieldAddr (off := 0) fd114_0 (.tmp rfl rfl)) ?_)))
  refine C_at .h (fun hp => V_load (v := (.int .i64 a_f.Rel)) ag3 (.tmp rfl rfl) hp.2 rfl rfl) ?_
  refine C_val (V_fieldAddr (off := 0) fd112_0 (.tmp rfl rfl)) ?_
  refine C_at (.t (.t .h)) (fun hp => V_load (v := (.int .i64 a_e1.Rel)) ag3 (.tmp rfl rfl) hp.2 rfl rfl) ?_
  refine C_val (V_neq (i := a_f.Rel) (j := a_e1.Rel) (.tmp rfl rfl) (.tmp rfl rfl)) ?_
  refine C_nil (CW_cond (b := ((a_f.Rel : Int) != a_e1.Rel)) (.tmp rfl rfl) (fun hb30 => ?_) (fun hb30 => ?_))
  · rw [if_pos hb30] at hF
    refine K_region (C_val (V_assign (v := (.bool true)) (.bool _)) ?_)
    refine C_nil (CW_ret ?_)
    obtain rfl := Option.some.inj hF
    exact End_ret () (.tmp rfl rfl .nil) rfl (.sel .nil)
  rw [if_neg (by rw [hb30]; exact Bool.false_ne_true)] at hF
  refine CW_skip (K_in (K_region (C_val (V_fieldAddr (off := 1) fd112_1 (.tmp rfl rfl)) ?_)))
  refine C_at (.t (.t .h)) (fun hp => V_load (v := vc1_1.v) ag22 (.tmp rfl rfl) hp.2 rfl rfl) ?_
  refine C_at (.t (.t (.t .h))) (fun hp => V_lenR (l := a_e1.Inputs.length) sl22 (.tmp rfl rfl) (crd_len hp)) ?_
  refine C_val (V_move (v := (.int .i64 0)) (.int _ _)) ?_
  refine C_nil (CW_block (CW_loop (m := a_e1.Inputs.length) (fun m3 f' cs' => ∃ (g : Fr) (k5 : Nat) (rest6 : List Int), m3 = rest6.length ∧ f' = updL g [(2, (.pointer (some ⟨kc2, 0, some 0⟩))), (3, (.pointer (some ⟨k1, 0, some 0⟩))), (13, vc1_1.v), (14, (.int .i64 (a_e1.Inputs.length : Int))), (15, (.int .i64 (k5 : Int)))] ∧ List.drop k5 a_e1.Inputs = rest6 ∧ Ent cs' [cboR kc2 80 (.agg [(.int .i64 a_e2.Method), vc2_1.v].toArray), crd (RdS 3 rdInt) vc2_1.v a_e2.Values, cboR k1 114 (.agg [(.int .i64 a_f.Rel), v0_1.v].toArray), crd (RdS 3 rdInt) v0_1.v a_f.Values, crd (RdS 3 rdInt) vc1_1.v a_e1.Inputs] ∧ i_matches_1_L1 a_f a_e2 rest6 k5 = some R) ⟨_, 0, _, rfl, (EqL.cons rfl (EqL.cons rfl (EqL.cons rfl (EqL.cons rfl (EqL.cons rfl (EqL.nil)))))).eq, rfl, (.sel (.rd (.t (.t (.t (.t .h)))) rfl (.rd (.t (.t (.t (.t (.t .h))))) rfl (.rd .h rfl (.rd (.t .h) rfl (.rd (.t (.t (.t .h))) rfl .nil)))))), hF⟩ ?_))
  clear hF
  rintro m3 _ _ ⟨g4, k5, rest6, rfl, rfl, hd8, hE, hF⟩
  refine K_ent hE ?_
  clear hE
  refine K_pure (c := crd (RdS 3 rdInt) vc1_1.v a_e1.Inputs) (.t (.t (.t (.t .h)))) crd_bound (fun hbd13 => ?_)
  rcases rest6 with _ | ⟨x7, rest6⟩
  · have hk9 := List.drop_eq_nil_iff.1 hd8
    have hfe12 : (decide (((k5 : Int) : Int) < (a_e1.Inputs.length : Int))) = false := decide_eq_false (by omega)
    rw [i_matches_1_L1] at hF
    refine K_region (C_val (V_lss (i := (k5 : Int)) (j := (a_e1.Inputs.length : Int)) (.tmp rfl rfl) (.tmp rfl rfl)) ?_)
    refine C_nil (K_in (CW_cond (b := (decide (((k5 : Int) : Int) < (a_e1.Inputs.length : Int)))) (.tmp rfl rfl) (fun hb => absurd (hfe12.symm.trans hb) (by decide)) (fun _ => ?_)))
    refine CW_exit ?_
    iterate 2 refine CThen_exit ?_
    refine CIn_self (K_region (C_val (V_assign (v := (.bool false)) (.bool _)) ?_))
    refine C_nil (CW_ret ?_)
    obtain rfl := Option.some.inj hF
    exact End_ret () (.tmp rfl rfl .nil) rfl (.sel .nil)
  obtain ⟨hk9, hx10, hd11⟩ := drop_cons hd8
  have hfe12 : (decide (((k5 : Int) : Int) < (a_e1.Inputs.length : Int))) = true := decide_eq_true (by omega)
  rw [i_matches_1_L1] at hF
  refine K_region (C_val (V_lss (i := (k5 : Int)) (j := (a_e1.Inputs.length : Int)) (.tmp rfl rfl) (.tmp rfl rfl)) ?_)
  refine C_nil (K_in (CW_cond (b := (decide (((k5 : Int) : Int) < (a_e1.Inputs.length : Int)))) (.tmp rfl rfl) (fun _ => ?_) (fun hb => absurd (hfe12.symm.trans hb) (by decide))))
  refine CW_skip (K_block (K_region (Cm (.int .i64 (k5 : Int)) rfl rfl ?_)))
  refine C_idx (a := x7) sl22 ty3.sz (.tmp rfl rfl) (.tmp rfl rfl) (.t (.t (.t (.t .h)))) (Int.natCast_nonneg k5) hx10 (fun k14 j15 => ?_)
  refine C_ldS (w := (.int .i64 x7)) ag3 (.tmp rfl rfl) .h ls3_0 ?_
  refine Ca (.int .i64 (k5 : Int)) rfl rfl ?_
  refine Ca (.int .i64 x7) rfl rfl ?_
  refine C_nil (K_draw [0, 1, 2, 3, 4, 5, 6, 7, 8, 9, 10] [0, 1, 0, 7, 15, 0, 32, 0, 224, 480, 1023] [] mixed (by decide +kernel) ?_)
  refine D_val rfl .no (fun ha => V_fieldAddr (off := 1) fd114_1 (EN ha (.tmp rfl rfl) rfl)) ?_
  refine D_at rfl .no (.t (.t (.t .h))) rfl (fun ha hp => V_load (v := v0_1.v) ag22 (EN ha (.tmp rfl rfl) rfl) hp.2 rfl rfl) ?_
  refine Dm (.int .i64 x7) rfl rfl rfl rfl ?_
  obtain ⟨x16, hx17, hF⟩ := bind_some hF
  obtain ⟨hp18, hx19⟩ := ix_some hx17
  refine D_idx (a := x16) sl22 ty3.sz rfl .no (.tmp rfl rfl) (.tmp rfl rfl) rfl rfl (.t (.t (.t (.t .h)))) hp18 hx19 (fun k20 j21 => ?_)
  refine D_ldS (w := (.int .i64 x16)) ag3 rfl .no (.tmp rfl rfl) rfl .h ls3_0 ?_
  refine D_val rfl .no (fun ha => V_fieldAddr (off := 1) fd80_1 (EN ha (.tmp rfl rfl) rfl)) ?_
  refine D_at rfl .no (.t (.t .h)) rfl (fun ha hp => V_load (v := vc2_1.v) ag22 (EN ha (.tmp rfl rfl) rfl) hp.2 rfl rfl) ?_
  refine Dm (.int .i64 (k5 : Int)) rfl rfl rfl rfl ?_
  obtain ⟨x22, hx23, hF⟩ := bind_some hF
  obtain ⟨hp24, hx25⟩ := ix_some hx23
  refine D_idx (a := x22) sl22 ty3.sz rfl .no (.tmp rfl rfl) (.tmp rfl rfl) rfl rfl (.t (.t (.t .h))) hp24 hx25 (fun k26 j27 => ?_)
  refine D_ldS (w := (.int .i64 x22)) ag3 rfl .no (.tmp rfl rfl) rfl .h ls3_0 ?_
  refine D_val rfl .no (fun ha => V_neq (i := x16) (j := x22) (EN ha (.tmp rfl rfl) rfl) (EN ha (.tmp rfl rfl) rfl)) ?_
  refine D_nil (CW_cond (b := ((x16 : Int) != x22)) (.tmp rfl rfl) (fun hb29 => ?_) (fun hb29 => ?_))
  · rw [if_pos hb29] at hF
    refine K_region (C_val (V_assign (v := (.bool true)) (.bool _)) ?_)
    refine C_nil (CW_ret ?_)
    obtain rfl := Option.some.inj hF
    exact End_ret () (.tmp rfl rfl .nil) rfl (.sel .nil)
  rw [if_neg (by rw [hb29]; exact Bool.false_ne_true)] at hF
  refine CW_skip (CW_region (C_val (V_add (i := (k5 : Int)) (j := 1) (.tmp rfl rfl) (.int _ _)) ?_))
  refine Cm (.int .i64 (IntKind.i64.wrap ((k5 : Int) + 1))) rfl rfl ?_
  refine C_nil ?_
  have hw28 : IntKind.i64.wrap ((k5 : Int) + 1) = ((k5 + 1 : Nat) : Int) := by rw [wrap_in (by omega) (by omega)]; rfl
  rw [hw28]
  exact ⟨_, Nat.lt_succ_self _, _, k5 + 1, rest6, rfl, (EqL.cons rfl (EqL.cons rfl (EqL.cons rfl (EqL.cons rfl (EqL.cons rfl (EqL.nil)))))).eq, hd11, (.sel (.rd (.t (.t (.t .h))) rfl (.rd (.t (.t (.t (.t .h)))) rfl (.rd (.t (.t (.t (.t (.t .h))))) rfl (.rd (.t (.t (.t (.t (.t (.t .h)))))) rfl (.rd (.t (.t (.t (.t (.t (.t (.t .h))))))) rfl .nil)))))), hF⟩

/-! impl.Fact] -/
def g_slices_IndexFunc_impl_Fact_impl_Fact_imatches1_L1 (a_e1 : Method) (a_e2 : Access) : List Fact → Nat → Option (Int)
  | [], k4 => some (-1)
  | x6 :: rest5, k4 => (i_matches_1 x6 a_e1 a_e2).bind fun r16 =>
    if r16 then (
      some (k4 : Int))
    else (
      g_slices_IndexFunc_impl_Fact_impl_Fact_imatches1_L1 a_e1 a_e2 rest5 (k4 + 1))
def g_slices_IndexFunc_impl_Fact_impl_Fact_imatches1 (a_s : List Fact) (a_e1 : Method) (a_e2 : Access) : Option (Int) :=
  g_slices_IndexFunc_impl_Fact_impl_Fact_imatches1_L1 a_e1 a_e2 a_s 0
theorem g_slices_IndexFunc_impl_Fact_impl_Fact_imatches1_ok (a_s : List Fact) (v0_0 : Sv) (kc1 : Nat) (a_e1 : Method) (vc1_1 : Sv) (kc2 : Nat) (a_e2 : Access) (vc2_1 : Sv) (R : Int) (hF : g_slices_IndexFunc_impl_Fact_impl_Fact_imatches1 a_s a_e1 a_e2 = some R) :
    Fw.Spec Tryz.prog 195 [v0_0.v, (.func (.func 223) [].toArray [(.pointer (some ⟨kc1, 0, some 0⟩)), (.pointer (some ⟨kc2, 0, some 0⟩))].toArray)] [crd (RdS 114 rd114) v0_0.v a_s, cboR kc1 112 (.agg [(.int .i64 a_e1.Rel), vc1_1.v, (.int .i64 a_e1.Limit), (.int .i64 a_e1.Cost), (.int .i64 a_e1.Quota)].toArray), crd (RdS 3 rdInt) vc1_1.v a_e1.Inputs, cboR kc2 80 (.agg [(.int .i64 a_e2.Method), vc2_1.v].toArray), crd (RdS 3 rdInt) vc2_1.v a_e2.Values] (fun _ : Unit => (.int .i64 R)) (fun _ => []) := by
  refine Spec_enter (n := 19) Tryz.func195 rfl rfl (rs := [.tmp 4]) rfl rfl rfl ?_
  intro H0 F0
  unfold g_slices_IndexFunc_impl_Fact_impl_Fact_imatches1 at hF
  refine K_region (C_val (V_assign (v := (.int .i64 0)) (.int _ _)) ?_)
  refine C_nil (K_in (K_region (Cm v0_0.v rfl rfl ?_)))
  refine C_at .h (fun hp => V_lenR (l := a_s.length) sl40 (.tmp rfl rfl) (crd_len hp)) ?_
  refine C_val (V_move (v := (.int .i64 0)) (.int _ _)) ?_
  refine C_nil (CW_block (CW_loop (m := a_s.length) (fun m2 f' cs' => ∃ (g : Fr) (k4 : Nat) (rest5 : List Fact), m2 = rest5.length ∧ f' = updL g [(0, v0_0.v), (1, (.func (.func 223) [].toArray [(.pointer (some ⟨kc1, 0, some 0⟩)), (.pointer (some ⟨kc2, 0, some 0⟩))].toArray)), (7, (.int .i64 (a_s.length : Int))), (8, (.int .i64 (k4 : Int)))] ∧ List.drop k4 a_s = rest5 ∧ Ent cs' [crd (RdS 114 rd114) v0_0.v a_s, cboR kc1 112 (.agg [(.int .i64 a_e1.Rel), vc1_1.v, (.int .i64 a_e1.Limit), (.int .i64 a_e1.Cost), (.int .i64 a_e1.Quota)].toArray), crd (RdS 3 rdInt) vc1_1.v a_e1.Inputs, cboR kc2 80 (.agg [(.int .i64 a_e2.Method), vc2_1.v].toArray), crd (RdS 3 rdInt) vc2_1.v a_e2.Values] ∧ g_slices_IndexFunc_impl_Fact_impl_Fact_imatches1_L1 a_e1 a_e2 rest5 k4 = some R) ⟨_, 0, _, rfl, (EqL.cons rfl (EqL.cons rfl (EqL.cons rfl (EqL.cons rfl (EqL.nil))))).eq, rfl, (.sel (.rd .h rfl (.rd (.t .h) rfl (.rd (.t (.t .h)) rfl (.rd (.t (.t (.t .h))) rfl (.rd (.t (.t (.t (.t .h)))) rfl .nil)))))), hF⟩ ?_))
  clear hF
  rintro m2 _ _ ⟨g3, k4, rest5, rfl, rfl, hd7, hE, hF⟩
  refine K_ent hE ?_
  clear hE
  refine K_pure (c := crd (RdS 114 rd114) v0_0.v a_s) .h crd_bound (fun hbd12 => ?_)
  rcases rest5 with _ | ⟨x6, rest5⟩
  · have hk8 := List.drop_eq_nil_iff.1 hd7
    have hfe11 : (decide (((k4 : Int) : Int) < (a_s.length : Int))) = false := decide_eq_false (by omega)
    rw [g_slices_IndexFunc_impl_Fact_impl_Fact_imatches1_L1] at hF
    refine K_region (C_val (V_lss (i := (k4 : Int)) (j := (a_s.length : Int)) (.tmp rfl rfl) (.tmp rfl rfl)) ?_)
    refine C_nil (K_in (CW_cond (b := (decide (((k4 : Int) : Int) < (a_s.length : Int)))) (.tmp rfl rfl) (fun hb => absurd (hfe11.symm.trans hb) (by decide)) (fun _ => ?_)))
    refine CW_exit ?_
    iterate 2 refine CThen_exit ?_
    refine CIn_self (K_region (C_val (V_assign (v := (.int .i64 (-1))) (.int _ _)) ?_))
    refine C_nil (CW_ret ?_)
    obtain rfl := Option.some.inj hF
    exact End_ret () (.tmp rfl rfl .nil) rfl (.sel .nil)
  obtain ⟨hk8, hx9, hd10⟩ := drop_cons hd7
  have hfe11 : (decide (((k4 : Int) : Int) < (a_s.length : Int))) = true := decide_eq_true (by omega)
  rw [g_slices_IndexFunc_impl_Fact_impl_Fact_imatches1_L1] at hF
  refine K_region (C_val (V_lss (i := (k4 : Int)) (j := (a_s.length : Int)) (.tmp rfl rfl) (.tmp rfl rfl)) ?_)
  refine C_nil (K_in (CW_cond (b := (decide (((k4 : Int) : Int) < (a_s.length : Int)))) (.tmp rfl rfl) (fun _ => ?_) (fun hb => absurd (hfe11.symm.trans hb) (by decide))))
  refine CW_skip (K_block (K_region (Cm (.int .i64 (k4 : Int)) rfl rfl ?_)))
  refine Ca (.int .i64 (k4 : Int)) rfl rfl ?_
  refine C_nil (K_region (Cm (.func (.func 223) [].toArray [(.pointer (some ⟨kc1, 0, some 0⟩)), (.pointer (some ⟨kc2, 0, some 0⟩))].toArray) rfl rfl ?_))
  refine Cm v0_0.v rfl rfl ?_
  refine Cm (.int .i64 (k4 : Int)) rfl rfl ?_
  refine C_idx (a := x6) sl40 ty114.sz (.tmp rfl rfl) (.tmp rfl rfl) .h (Int.natCast_nonneg k4) hx9 (fun k13 j14 => ?_)
  refine C_ldA1 (ul114_0_114 x6) ag114 ty114.sz rfl (.tmp rfl rfl) .h la114_0_114 (fun p15 => ?_)
  obtain ⟨r16, hx17, hF⟩ := bind_some hF
  refine C_x0 (.rd .h rfl (.rd (.t (.t (.t .h))) rfl (.rd (.t (.t (.t (.t .h)))) rfl (.rd (.t (.t (.t (.t (.t .h))))) rfl (.rd (.t (.t (.t (.t (.t (.t .h)))))) rfl .nil))))) (X_callCS cf223 (.tmp rfl rfl) (.cons (.tmp rfl rfl) .nil) (i_matches_1_ok x6 p15 kc1 a_e1 vc1_1 kc2 a_e2 vc2_1 _ hx17)) (fun _ => ?_)
  refine C_nil (CW_cond (b := r16) (.tmp rfl rfl) (fun hb20 => ?_) (fun hb20 => ?_))
  · rw [if_pos hb20] at hF
    refine K_region (Cm (.int .i64 (k4 : Int)) rfl rfl ?_)
    refine Ca (.int .i64 (k4 : Int)) rfl rfl ?_
    refine C_nil (CW_ret ?_)
    obtain rfl := Option.some.inj hF
    exact End_ret () (.tmp rfl rfl .nil) rfl (.sel .nil)
  rw [if_neg (by rw [hb20]; exact Bool.false_ne_true)] at hF
  refine CW_skip (CW_region (C_val (V_add (i := (k4 : Int)) (j := 1) (.tmp rfl rfl) (.int _ _)) ?_))
  refine Cm (.int .i64 (IntKind.i64.wrap ((k4 : Int) + 1))) rfl rfl ?_
  refine C_nil ?_
  have hw19 : IntKind.i64.wrap ((k4 : Int) + 1) = ((k4 + 1 : Nat) : Int) := by rw [wrap_in (by omega) (by omega)]; rfl
  rw [hw19]
  exact ⟨_, Nat.lt_succ_self _, _, k4 + 1, rest5, rfl, (EqL.cons rfl (EqL.cons rfl (EqL.cons rfl (EqL.cons rfl (EqL.nil))))).eq, hd10, (.sel (.rd (.t (.t .h)) rfl (.rd (.t (.t (.t .h))) rfl (.rd (.t (.t (.t (.t .h)))) rfl (.rd (.t (.t (.t (.t (.t .h))))) rfl (.rd (.t (.t (.t (.t (.t (.t .h)))))) rfl .nil)))))), hF⟩

/-! impl.Fact] -/
def g_slices_DeleteFunc_impl_Fact_impl_Fact_imatches1 (a_s : List Fact) (a_e1 : Method) (a_e2 : Access) : Option (List Fact) :=
  delL (fun a_q => i_matches_1 a_q a_e1 a_e2) a_s
theorem g_slices_DeleteFunc_impl_Fact_impl_Fact_imatches1_sh (qs : List (Value × Fact)) (v : Sv) (F : List Nat) (kc1 : Nat) (a_e1 : Method) (vc1_1 : Sv) (kc2 : Nat) (a_e2 : Access) (vc2_1 : Sv) (p : Value × Fact → Bool) (hcl : ∀ q ∈ qs, i_matches_1 q.2 a_e1 a_e2 = some (p q)) (hidx : g_slices_IndexFunc_impl_Fact_impl_Fact_imatches1 (qs.map Prod.snd) a_e1 a_e2 = some (ixF p qs 0)) (hbd : qs.length < 4611686018427387904) :
    Fw.Spec Tryz.prog 221 [v.v, (.func (.func 223) [].toArray [(.pointer (some ⟨kc1, 0, some 0⟩)), (.pointer (some ⟨kc2, 0, some 0⟩))].toArray)] [cown (OwnS 114 (roE (rq rd114))) F v.v qs, cboR kc1 112 (.agg [(.int .i64 a_e1.Rel), vc1_1.v, (.int .i64 a_e1.Limit), (.int .i64 a_e1.Cost), (.int .i64 a_e1.Quota)].toArray), crd (RdS 3 rdInt) vc1_1.v a_e1.Inputs, cboR kc2 80 (.agg [(.int .i64 a_e2.Method), vc2_1.v].toArray), crd (RdS 3 rdInt) vc2_1.v a_e2.Values] (fun q : Sv × List Nat => q.1.v) (fun q => [cown (OwnS 114 (roE (rq rd114))) q.2 q.1.v (qs.filter fun a => !p a)]) := by
  refine Spec_enter (n := 42) Tryz.func221 rfl rfl (rs := [.tmp 4]) rfl rfl rfl ?_
  intro H0 F0
  refine K_region ?_
  refine C_val (V_assign (v := (.slice none 0 0)) EV.nilSlice) ?_
  refine C_nil ?_
  refine K_region ?_
  refine C_val (V_move (v := v.v) (.tmp rfl rfl)) ?_
  refine C_val (V_move (v := (.func (.func 223) [].toArray [(.pointer (some ⟨kc1, 0, some 0⟩)), (.pointer (some ⟨kc2, 0, some 0⟩))].toArray)) (.tmp rfl rfl)) ?_
  refine C_x1 (.cons .h (.rd .h rfl (.rd (.t .h) rfl (.rd (.t (.t .h)) rfl (.rd (.t (.t (.t .h))) rfl .nil))))) (XC_borR frz_rq (fun _ => .nil) (XC_pre (.rd (.t (.t (.t (.t .h)))) rfl (.rd .h rfl (.rd (.t .h) rfl (.rd (.t (.t .h)) rfl (.rd (.t (.t (.t .h))) rfl .nil))))) (X_callS cf195 (.cons (.tmp rfl rfl) (.cons (.tmp rfl rfl) .nil)) (g_slices_IndexFunc_impl_Fact_impl_Fact_imatches1_ok (qs.map Prod.snd) v kc1 a_e1 vc1_1 kc2 a_e2 vc2_1 _ hidx)))) (fun _ => ?_)
  generalize hR : ixF p qs 0 = R0
  refine C_val (V_assign (v := (.int .i64 R0)) (.tmp rfl rfl)) ?_
  refine C_nil ?_
  refine K_in ?_
  refine K_region ?_
  refine C_val (V_move (v := (.int .i64 R0)) (.tmp rfl rfl)) ?_
  refine C_val (V_eql (i := R0) (j := (-1)) (.tmp rfl rfl) (.int _ _)) ?_
  refine C_nil ?_
  refine CW_cond (b := (R0 == (-1 : Int))) (.tmp rfl rfl) (fun hb => ?_) (fun hb => ?_)
  · refine K_region ?_
    refine C_val (V_move (v := v.v) (.tmp rfl rfl)) ?_
    refine C_val (V_assign (v := v.v) (.tmp rfl rfl)) ?_
    refine C_nil ?_
    refine CW_ret ?_
    have e : qs.filter (fun q => !p q) = qs := ixF_none (k := 0) (by rw [hR]; simpa using hb)
    rw [e]
    exact End_ret (v, F) (.tmp rfl rfl .nil) rfl (.sel (.cons .h .nil))
  refine CW_skip ?_
  obtain ⟨i0, hi0, hi1⟩ : ∃ i : Nat, R0 = (i : Int) ∧ i < qs.length := by
    rcases ixF_range p qs 0 with h | ⟨i, h, hi⟩
    · rw [hR] at h; subst h; simp at hb
    · exact ⟨i, by rw [← hR, h], by omega⟩
  subst hi0
  refine K_in ?_
  refine K_region ?_
  refine C_val (V_move (v := (.int .i64 (i0 : Int))) (.tmp rfl rfl)) ?_
  refine C_val (V_add (i := (i0 : Int)) (j := 1) (.tmp rfl rfl) (.int _ _)) ?_
  rw [show IntKind.i64.wrap ((i0 : Int) + 1) = ((i0 + 1 : Nat) : Int) from by rw [wrap_in (by omega) (by omega)]; rfl]
  refine C_val (V_assign (v := (.int .i64 ((i0 + 1 : Nat) : Int))) (.tmp rfl rfl)) ?_
  refine C_nil ?_
  refine CW_block ?_
  refine CW_loop (m := qs.length - (i0 + 1)) (fun m f' cs' => ∃ (g : Fr) (cur : List (Value × Fact)) (i j : Nat) (F' : List Nat), m = qs.length - j ∧ f' = updL g [(0, v.v), (1, (.func (.func 223) [].toArray [(.pointer (some ⟨kc1, 0, some 0⟩)), (.pointer (some ⟨kc2, 0, some 0⟩))].toArray)), (5, (.int .i64 (i : Int))), (6, (.int .i64 (j : Int)))] ∧ DelI p qs cur i j ∧ Ent cs' [cown (OwnS 114 (roE (rq rd114))) F' v.v cur, cboR kc1 112 (.agg [(.int .i64 a_e1.Rel), vc1_1.v, (.int .i64 a_e1.Limit), (.int .i64 a_e1.Cost), (.int .i64 a_e1.Quota)].toArray), crd (RdS 3 rdInt) vc1_1.v a_e1.Inputs, cboR kc2 80 (.agg [(.int .i64 a_e2.Method), vc2_1.v].toArray), crd (RdS 3 rdInt) vc2_1.v a_e2.Values]) ⟨_, qs, i0, i0 + 1, F, rfl, (EqL.cons rfl (EqL.cons rfl (EqL.cons rfl (EqL.cons rfl (EqL.nil))))).eq, DelI.init (by rw [hR]), .sel (.cons .h (.rd .h rfl (.rd (.t .h) rfl (.rd (.t (.t .h)) rfl (.rd (.t (.t (.t .h))) rfl .nil)))))⟩ ?_
  rintro m _ _ ⟨g, cur, i, j, F', rfl, rfl, hI, hE⟩
  refine K_ent hE ?_
  clear hE
  refine K_in ?_
  refine K_region ?_
  refine C_val (V_move (v := (.int .i64 (j : Int))) (.tmp rfl rfl)) ?_
  refine C_val (V_move (v := v.v) (.tmp rfl rfl)) ?_
  refine C_at .h (fun hp => V_lenR (l := cur.length) sl40 (.tmp rfl rfl) (cown_len hp)) ?_
  refine C_val (V_lss (i := (j : Int)) (j := (cur.length : Int)) (.tmp rfl rfl) (.tmp rfl rfl)) ?_
  refine C_nil ?_
  have hlen := hI.len
  have hij := hI.lt
  have hjl := hI.le
  refine CW_cond (b := (decide ((j : Int) < (cur.length : Int)))) (.tmp rfl rfl) (fun hb2 => ?_) (fun hb2 => ?_)
  · refine CW_skip ?_
    have hj : j < qs.length := by simp at hb2; omega
    obtain ⟨x, hx1, hx2⟩ := hI.at hj
    refine K_block ?_
    refine K_region ?_
    refine C_val (V_move (v := v.v) (.tmp rfl rfl)) ?_
    refine C_val (V_move (v := (.int .i64 (j : Int))) (.tmp rfl rfl)) ?_
    refine C_idxO sl40 ty114.sz (.tmp rfl rfl) (.tmp rfl rfl) .h (by simp; omega) (fun k hk => ?_)
    refine C_ldOW (a := x) (ul := fun i : Sv => [(.int .i64 x.2.Rel), i.v]) (cc := fun i => [crd (RdS 3 rdInt) i.v x.2.Values]) ag114 ty114.sz rfl (.tmp rfl rfl) .h hk (by simpa using hx1) (fun H e h => by obtain ⟨-, v0, h1, h0⟩ := h; exact ⟨v0, h1, rfl, by simp [crd, h0]⟩) (fun w => ?_)
    refine C_new rfl (N_allocT (g := true) ty114 rfl rfl) (fun k1 => ?_)
    refine C_x1 (.cons .h .nil) (X_storeB (e := (.agg [(.int .i64 0), (.slice none 0 0)].toArray)) (e' := (.agg [(.int .i64 x.2.Rel), w.v].toArray)) (v := (.agg [(.int .i64 x.2.Rel), w.v].toArray)) ty114.sz (.tmp rfl rfl) (.tmp rfl rfl) rfl rfl rfl rfl rfl) (fun _ => ?_)
    refine C_nil ?_
    refine K_region ?_
    refine C_val (V_move (v := (.func (.func 223) [].toArray [(.pointer (some ⟨kc1, 0, some 0⟩)), (.pointer (some ⟨kc2, 0, some 0⟩))].toArray)) (.tmp rfl rfl)) ?_
    refine C_at .h (fun hp => V_loadBox ag114 ty114.sz rfl (.tmp rfl rfl) hp.2 rfl) ?_
    refine C_x0 (.rd (.t (.t .h)) rfl (.rd (.t (.t (.t (.t .h)))) rfl (.rd (.t (.t (.t (.t (.t .h))))) rfl (.rd (.t (.t (.t (.t (.t (.t .h)))))) rfl (.rd (.t (.t (.t (.t (.t (.t (.t .h))))))) rfl .nil))))) (X_callCS cf223 (.tmp rfl rfl) (.cons (.tmp rfl rfl) .nil) (i_matches_1_ok x.2 w kc1 a_e1 vc1_1 kc2 a_e2 vc2_1 _ (hcl x (List.mem_of_getElem? hx2)))) (fun _ => ?_)
    refine C_val (V_not (b := p x) (.tmp rfl rfl)) ?_
    refine C_nil ?_
    refine CW_cond (b := (!p x)) (.tmp rfl rfl) (fun hb3 => ?_) (fun hb3 => ?_)
    · refine K_region ?_
      refine C_val (V_move (v := v.v) (.tmp rfl rfl)) ?_
      refine C_val (V_move (v := (.int .i64 (i : Int))) (.tmp rfl rfl)) ?_
      refine C_at .h (fun hp => V_loadBox ag114 ty114.sz rfl (.tmp rfl rfl) hp.2 rfl) ?_
      have hii : (decide ((0 : Int) ≤ (i : Int)) && decide ((i : Int) < (cur.length : Int))) = true := by simp; omega
      refine C_idxO sl40 ty114.sz (.tmp rfl rfl) (.tmp rfl rfl) (.t (.t (.t .h))) hii (fun k2 hk2 => ?_)
      refine C_x1 (.cons (.t (.t (.t .h))) (.rd (.t .h) rfl .nil)) (X_storeO (Ro := roE (rq rd114)) (a := x) (i := (i : Int)) ty114.sz rfl (.tmp rfl rfl) (.tmp rfl rfl) hk2 hii Mk_rd (fun _ _ _ _ h => by obtain ⟨-, -, v0, rfl, _⟩ := h; rfl)) (fun F2 => ?_)
      refine C_nil ?_
      refine CW_region ?_
      refine C_val (V_move (v := (.int .i64 (i : Int))) (.tmp rfl rfl)) ?_
      refine C_val (V_add (i := (i : Int)) (j := 1) (.tmp rfl rfl) (.int _ _)) ?_
      rw [show IntKind.i64.wrap ((i : Int) + 1) = ((i + 1 : Nat) : Int) from by rw [wrap_in (by omega) (by omega)]; rfl]
      refine C_val (V_assign (v := (.int .i64 ((i + 1 : Nat) : Int))) (.tmp rfl rfl)) ?_
      refine C_nil ?_
      refine CW_region ?_
      refine C_val (V_move (v := (.int .i64 (j : Int))) (.tmp rfl rfl)) ?_
      refine C_val (V_add (i := (j : Int)) (j := 1) (.tmp rfl rfl) (.int _ _)) ?_
      rw [show IntKind.i64.wrap ((j : Int) + 1) = ((j + 1 : Nat) : Int) from by rw [wrap_in (by omega) (by omega)]; rfl]
      refine C_val (V_assign (v := (.int .i64 ((j + 1 : Nat) : Int))) (.tmp rfl rfl)) ?_
      refine C_nil ?_
      exact ⟨_, by omega, _, cur.set i x, i + 1, j + 1, F2, rfl, (EqL.cons rfl (EqL.cons rfl (EqL.cons rfl (EqL.cons rfl (EqL.nil))))).eq, hI.no hx2 (by simpa using hb3), .sel (.cons .h (.rd (.t (.t (.t .h))) rfl (.rd (.t (.t (.t (.t .h)))) rfl (.rd (.t (.t (.t (.t (.t .h))))) rfl (.rd (.t (.t (.t (.t (.t (.t .h)))))) rfl .nil)))))⟩
    · refine CW_skip ?_
      refine CW_region ?_
      refine C_val (V_move (v := (.int .i64 (j : Int))) (.tmp rfl rfl)) ?_
      refine C_val (V_add (i := (j : Int)) (j := 1) (.tmp rfl rfl) (.int _ _)) ?_
      rw [show IntKind.i64.wrap ((j : Int) + 1) = ((j + 1 : Nat) : Int) from by rw [wrap_in (by omega) (by omega)]; rfl]
      refine C_val (V_assign (v := (.int .i64 ((j + 1 : Nat) : Int))) (.tmp rfl rfl)) ?_
      refine C_nil ?_
      exact ⟨_, by omega, _, cur, i, j + 1, F', rfl, (EqL.cons rfl (EqL.cons rfl (EqL.cons rfl (EqL.cons rfl (EqL.nil))))).eq, hI.yes hx2 (by simpa using hb3), .sel (.cons (.t (.t (.t .h))) (.rd (.t (.t (.t .h))) rfl (.rd (.t (.t (.t (.t .h)))) rfl (.rd (.t (.t (.t (.t (.t .h))))) rfl (.rd (.t (.t (.t (.t (.t (.t .h)))))) rfl .nil)))))⟩
  · refine CW_exit ?_
    refine CThen_exit ?_
    refine CThen_exit ?_
    refine CIn_self ?_
    have hj : qs.length ≤ j := by simp at hb2; omega
    refine K_pure .h (own_form (by intro e; rw [e] at hlen; simp at hlen; omega)) (fun hv => ?_)
    obtain ⟨k0, m0, rfl, hm0⟩ := hv
    refine K_region ?_
    refine C_val (V_move (v := (.slice (some ⟨k0, 0, none⟩) cur.length m0)) (.tmp rfl rfl)) ?_
    refine C_val (V_move (v := (.int .i64 (i : Int))) (.tmp rfl rfl)) ?_
    refine C_sliceLo sl40 ty114.sz (.tmp rfl rfl) (.tmp rfl rfl) .h (by omega) (by omega) ?_
    refine C_x1 (.cons .h .nil) (X_clear (l := cur.length) (m := m0) (k := k0) (i := i) (j := cur.length - i) sl40 ty114 rfl rfl rfl rfl rfl (by omega) (.tmp rfl rfl)) (fun _ => ?_)
    refine C_nil ?_
    refine K_region ?_
    refine C_val (V_move (v := (.slice (some ⟨k0, 0, none⟩) cur.length m0)) (.tmp rfl rfl)) ?_
    refine C_val (V_move (v := (.int .i64 (i : Int))) (.tmp rfl rfl)) ?_
    refine C_sliceHi sl40 ty114.sz (.tmp rfl rfl) hm0 (.tmp rfl rfl) .h rfl (by omega) (by omega) (by omega) ?_
    refine C_val (V_assign (v := (.slice (some ⟨k0, 0, none⟩) i 2)) (.tmp rfl rfl)) ?_
    refine C_nil ?_
    refine CW_ret ?_
    rw [← hI.fin hj]
    exact End_ret (⟨some ⟨k0, 0, none⟩, i, 2⟩, F') (.tmp rfl rfl .nil) rfl (.sel (.cons .h .nil))
theorem g_slices_DeleteFunc_impl_Fact_impl_Fact_imatches1_ok (a_s : List Fact) (v0_0 : Sv) (F0_0 : List Nat) (kc1 : Nat) (a_e1 : Method) (vc1_1 : Sv) (kc2 : Nat) (a_e2 : Access) (vc2_1 : Sv) (R : List Fact) (hF : g_slices_DeleteFunc_impl_Fact_impl_Fact_imatches1 a_s a_e1 a_e2 = some R) :
    Fw.Spec Tryz.prog 221 [v0_0.v, (.func (.func 223) [].toArray [(.pointer (some ⟨kc1, 0, some 0⟩)), (.pointer (some ⟨kc2, 0, some 0⟩))].toArray)] [cown (OwnS 114 ow114) F0_0 v0_0.v a_s, cboR kc1 112 (.agg [(.int .i64 a_e1.Rel), vc1_1.v, (.int .i64 a_e1.Limit), (.int .i64 a_e1.Cost), (.int .i64 a_e1.Quota)].toArray), crd (RdS 3 rdInt) vc1_1.v a_e1.Inputs, cboR kc2 80 (.agg [(.int .i64 a_e2.Method), vc2_1.v].toArray), crd (RdS 3 rdInt) vc2_1.v a_e2.Values] (fun p : Sv × List Nat => p.1.v) (fun p => [cown (OwnS 114 ow114) p.2 p.1.v R]) := by
  unfold g_slices_DeleteFunc_impl_Fact_impl_Fact_imatches1 at hF
  obtain ⟨h1, h2⟩ := delL_some hF
  refine Spec_pure cown_bound (fun hb => ?_)
  refine Spec_deep (R := rd114) rfl (fun es F1 hel => ⟨(es.zip a_s).filter (fun a => !(i_matches_1 a.2 a_e1 a_e2).getD false), List.filter_sublist, by rw [h2]; exact zip_filter (fun a => (i_matches_1 a a_e1 a_e2).getD false) es a_s hel, ?_⟩)
  refine g_slices_DeleteFunc_impl_Fact_impl_Fact_imatches1_sh (es.zip a_s) v0_0 F1 kc1 a_e1 vc1_1 kc2 a_e2 vc2_1 (fun a => (i_matches_1 a.2 a_e1 a_e2).getD false) (fun q hq => h1 q.2 (List.of_mem_zip hq).2) ?_ (by simp; omega)
  rw [List.map_snd_zip (Nat.le_of_eq hel.symm), ← ixF_map Prod.snd (fun a => (i_matches_1 a a_e1 a_e2).getD false), List.map_snd_zip (Nat.le_of_eq hel.symm)]
  exact index_loop (L := g_slices_IndexFunc_impl_Fact_impl_Fact_imatches1_L1 a_e1 a_e2) (fun _ => rfl) (fun _ _ _ => rfl) a_s 0 h1

/-! impl.matches -/
def i_matches (a_l : List Method) (a_facts : List Fact) (a_a : Access) : Option ((List Fact)) :=
  (ix a_l a_a.Method).bind fun x2 =>
  (i_copyFacts a_facts).bind fun r13 =>
  (g_slices_DeleteFunc_impl_Fact_impl_Fact_imatches1 r13 x2 a_a).bind fun r16 =>
  some r16
theorem i_matches_ok (a_l : List Method) (v0_0 : Sv) (a_facts : List Fact) (v1_0 : Sv) (a_a : Access) (v2_1 : Sv) (R : (List Fact)) (hF : i_matches a_l a_facts a_a = some R) :
    Fw.Spec Tryz.prog 181 [v0_0.v, v1_0.v, (.agg [(.int .i64 a_a.Method), v2_1.v].toArray)] [crd (RdS 112 rd112) v0_0.v a_l, crd (RdS 114 rd114) v1_0.v a_facts, crd (RdS 3 rdInt) v2_1.v a_a.Values] (fun p : Sv × List Nat => p.1.v) (fun p => [cown (OwnS 114 ow114) p.2 p.1.v R]) := by
  refine Spec_enter (n := 17) Tryz.func181 rfl rfl (rs := [.tmp 6]) rfl rfl rfl ?_
  intro H0 F0
  unfold i_matches at hF
  refine K_region (C_newR rfl (N_box (g := false) (v := (.agg [(.int .i64 a_a.Method), v2_1.v].toArray)) ty80.sz (.tmp rfl rfl) rfl) (fun k1 => ?_))
  refine C_val (V_assign (v := (.slice none 0 0)) EV.nilSlice) ?_
  refine C_nil (K_region (Cm v0_0.v rfl rfl ?_))
  refine C_val (V_fieldAddr (off := 0) fd80_0 (.tmp rfl rfl)) ?_
  refine C_at .h (fun hp => V_load (v := (.int .i64 a_a.Method)) ag3 (.tmp rfl rfl) hp.2 rfl rfl) ?_
  obtain ⟨x2, hx3, hF⟩ := bind_some hF
  obtain ⟨hp4, hx5⟩ := ix_some hx3
  refine C_idx (a := x2) sl38 ty112.sz (.tmp rfl rfl) (.tmp rfl rfl) (.t .h) hp4 hx5 (fun k6 j7 => ?_)
  refine C_ldA1 (ul112_0_112 x2) ag112 ty112.sz rfl (.tmp rfl rfl) .h la112_0_112 (fun p8 => ?_)
  refine C_new rfl (N_allocT (g := true) ty112 rfl rfl) (fun k9 => ?_)
  refine C_x1 (.cons .h .nil) (X_storeB (e' := (.agg [(.int .i64 x2.Rel), p8.v, (.int .i64 x2.Limit), (.int .i64 x2.Cost), (.int .i64 x2.Quota)].toArray)) (v := (.agg [(.int .i64 x2.Rel), p8.v, (.int .i64 x2.Limit), (.int .i64 x2.Cost), (.int .i64 x2.Quota)].toArray)) ty112.sz (.tmp rfl rfl) (.tmp rfl rfl) rfl rfl rfl rfl rfl) (fun _ => ?_)
  refine C_nil (K_frz .h frz_blk ?_)
  refine K_region (Cm v1_0.v rfl rfl ?_)
  obtain ⟨r13, hx14, hF⟩ := bind_some hF
  refine C_x1 (.rd (.t (.t (.t (.t (.t .h))))) rfl .nil) (X_callS cf222 (.cons (.tmp rfl rfl) .nil) (i_copyFacts_ok a_facts v1_0 _ hx14)) (fun p15 => ?_)
  refine C_val (V_makeFunc (fn := .func 223) (vs := []) (us := [(.pointer (some ⟨k9, 0, some 0⟩)), (.pointer (some ⟨k1, 0, some 0⟩))]) .nil (.cons (.tmp rfl rfl) (.cons (.tmp rfl rfl) .nil))) ?_
  obtain ⟨r16, hx17, hF⟩ := bind_some hF
  refine C_x1 (.cons .h (.rd .h rfl (.rd (.t .h) rfl (.rd (.t (.t (.t .h))) rfl (.rd (.t (.t (.t (.t (.t (.t .h)))))) rfl .nil))))) (X_callS cf221 (.cons (.tmp rfl rfl) (.cons (.tmp rfl rfl) .nil)) (g_slices_DeleteFunc_impl_Fact_impl_Fact_imatches1_ok r13 p15.1 p15.2 k9 x2 p8 k1 a_a v2_1 _ hx17)) (fun p18 => ?_)
  refine Ca p18.1.v rfl rfl ?_
  refine C_nil (CW_ret ?_)
  obtain rfl := Option.some.inj hF
  exact End_ret (p18.1, p18.2) (.tmp rfl rfl .nil) rfl (.sel (.cons .h .nil))

/-! impl.HasFact$1 -/
def i_HasFact_1 (a_x : Fact) (a_e1 : Fact) : Option (Bool) :=
  (i_CompareFacts a_x a_e1).bind fun r2 =>
  some ((r2 : Int) == 0)
theorem i_HasFact_1_ok (a_x : Fact) (v0_1 : Sv) (kc1 : Nat) (a_e1 : Fact) (vc1_1 : Sv) (R : Bool) (hF : i_HasFact_1 a_x a_e1 = some R) :
    Fw.Spec Tryz.prog 237 [(.agg [(.int .i64 a_x.Rel), v0_1.v].toArray), (.pointer (some ⟨kc1, 0, some 0⟩))] [crd (RdS 3 rdInt) v0_1.v a_x.Values, cboR kc1 114 (.agg [(.int .i64 a_e1.Rel), vc1_1.v].toArray), crd (RdS 3 rdInt) vc1_1.v a_e1.Values] (fun _ : Unit => (.bool R)) (fun _ => []) := by
  refine Spec_enter (n := 8) Tryz.func237 rfl rfl (rs := [.tmp 3]) rfl rfl rfl ?_
  intro H0 F0
  unfold i_HasFact_1 at hF
  refine K_region (C_newR rfl (N_box (g := false) (v := (.agg [(.int .i64 a_x.Rel), v0_1.v].toArray)) ty114.sz (.tmp rfl rfl) rfl) (fun k1 => ?_))
  refine C_val (V_assign (v := (.bool false)) (.bool _)) ?_
  refine C_nil (K_region (C_at .h (fun hp => V_loadBox ag114 ty114.sz rfl (.tmp rfl rfl) hp.2 rfl) ?_))
  refine C_at (.t (.t .h)) (fun hp => V_loadBox ag114 ty114.sz rfl (.tmp rfl rfl) hp.2 rfl) ?_
  obtain ⟨r2, hx3, hF⟩ := bind_some hF
  refine C_x0 (.rd (.t .h) rfl (.rd (.t (.t (.t .h))) rfl .nil)) (X_callS cf133 (.cons (.tmp rfl rfl) (.cons (.tmp rfl rfl) .nil)) (i_CompareFacts_ok a_x v0_1 a_e1 vc1_1 _ hx3)) (fun _ => ?_)
  refine C_val (V_eql (i := r2) (j := 0) (.tmp rfl rfl) (.int _ _)) ?_
  refine Ca (.bool ((r2 : Int) == 0)) rfl rfl ?_
  refine C_nil (CW_ret ?_)
  obtain rfl := Option.some.inj hF
  exact End_ret () (.tmp rfl rfl .nil) rfl (.sel .nil)

/-! impl.Fact] -/
def g_slices_IndexFunc_impl_Fact_impl_Fact_iHasFact1_L1 (a_e1 : Fact) : List Fact → Nat → Option (Int)
  | [], k4 => some (-1)
  | x6 :: rest5, k4 => (i_HasFact_1 x6 a_e1).bind fun r16 =>
    if r16 then (
      some (k4 : Int))
    else (
      g_slices_IndexFunc_impl_Fact_impl_Fact_iHasFact1_L1 a_e1 rest5 (k4 + 1))
def g_slices_IndexFunc_impl_Fact_impl_Fact_iHasFact1 (a_s : List Fact) (a_e1 : Fact) : Option (Int) :=
  g_slices_IndexFunc_impl_Fact_impl_Fact_iHasFact1_L1 a_e1 a_s 0
theorem g_slices_IndexFunc_impl_Fact_impl_Fact_iHasFact1_ok (a_s : List Fact) (v0_0 : Sv) (kc1 : Nat) (a_e1 : Fact) (vc1_1 : Sv) (R : Int) (hF : g_slices_IndexFunc_impl_Fact_impl_Fact_iHasFact1 a_s a_e1 = some R) :
    Fw.Spec Tryz.prog 195 [v0_0.v, (.func (.func 237) [].toArray [(.pointer (some ⟨kc1, 0, some 0⟩))].toArray)] [crd (RdS 114 rd114) v0_0.v a_s, cboR kc1 114 (.agg [(.int .i64 a_e1.Rel), vc1_1.v].toArray), crd (RdS 3 rdInt) vc1_1.v a_e1.Values] (fun _ : Unit => (.int .i64 R)) (fun _ => []) := by
  refine Spec_enter (n := 19) Tryz.func195 rfl rfl (rs := [.tmp 4]) rfl rfl rfl ?_
  intro H0 F0
  unfold g_slices_IndexFunc_impl_Fact_impl_Fact_iHasFact1 at hF
  refine K_region (C_val (V_assign (v := (.int .i64 0)) (.int _ _)) ?_)
  refine C_nil (K_in (K_region (Cm v0_0.v rfl rfl ?_)))
  refine C_at .h (fun hp => V_lenR (l := a_s.length) sl40 (.tmp rfl rfl) (crd_len hp)) ?_
  refine C_val (V_move (v := (.int .i64 0)) (.int _ _)) ?_
  refine C_nil (CW_block (CW_loop (m := a_s.length) (fun m2 f' cs' => ∃ (g : Fr) (k4 : Nat) (rest5 : List Fact), m2 = rest5.length ∧ f' = updL g [(0, v0_0.v), (1, (.func (.func 237) [].toArray [(.pointer (some ⟨kc1, 0, some 0⟩))].toArray)), (7, (.int .i64 (a_s.length : Int))), (8, (.int .i64 (k4 : Int)))] ∧ List.drop k4 a_s = rest5 ∧ Ent cs' [crd (RdS 114 rd114) v0_0.v a_s, cboR kc1 114 (.agg [(.int .i64 a_e1.Rel), vc1_1.v].toArray), crd (RdS 3 rdInt) vc1_1.v a_e1.Values] ∧ g_slices_IndexFunc_impl_Fact_impl_Fact_iHasFact1_L1 a_e1 rest5 k4 = some R) ⟨_, 0, _, rfl, (EqL.cons rfl (EqL.cons rfl (EqL.cons rfl (EqL.cons rfl (EqL.nil))))).eq, rfl, (.sel (.rd .h rfl (.rd (.t .h) rfl (.rd (.t (.t .h)) rfl .nil)))), hF⟩ ?_))
  clear hF
  rintro m2 _ _ ⟨g3, k4, rest5, rfl, rfl, hd7, hE, hF⟩
  refine K_ent hE ?_
  clear hE
  refine K_pure (c := crd (RdS 114 rd114) v0_0.v a_s) .h crd_bound (fun hbd12 => ?_)
  rcases rest5 with _ | ⟨x6, rest5⟩
  · have hk8 := List.drop_eq_nil_iff.1 hd7
    have hfe11 : (decide (((k4 : Int) : Int) < (a_s.length : Int))) = false := decide_eq_false (by omega)
    rw [g_slices_IndexFunc_impl_Fact_impl_Fact_iHasFact1_L1] at hF
    refine K_region (C_val (V_lss (i := (k4 : Int)) (j := (a_s.length : Int)) (.tmp rfl rfl) (.tmp rfl rfl)) ?_)
    refine C_nil (K_in (CW_cond (b := (decide (((k4 : Int) : Int) < (a_s.length : Int)))) (.tmp rfl rfl) (fun hb => absurd (hfe11.symm.trans hb) (by decide)) (fun _ => ?_)))
    refine CW_exit ?_
    iterate 2 refine CThen_exit ?_
    refine CIn_self (K_region (C_val (V_assign (v := (.int .i64 (-1))) (.int _ _)) ?_))
    refine C_nil (CW_ret ?_)
    obtain rfl := Option.some.inj hF
    exact End_ret () (.tmp rfl rfl .nil) rfl (.sel .nil)
  obtain ⟨hk8, hx9, hd10⟩ := drop_cons hd7
  have hfe11 : (decide (((k4 : Int) : Int) < (a_s.length : Int))) = true := decide_eq_true (by omega)
  rw [g_slices_IndexFunc_impl_Fact_impl_Fact_iHasFact1_L1] at hF
  refine K_region (C_val (V_lss (i := (k4 : Int)) (j := (a_s.length : Int)) (.tmp rfl rfl) (.tmp rfl rfl)) ?_)
  refine C_nil (K_in (CW_cond (b := (decide (((k4 : Int) : Int) < (a_s.length : Int)))) (.tmp rfl rfl) (fun _ => ?_) (fun hb => absurd (hfe11.symm.trans hb) (by decide))))
  refine CW_skip (K_block (K_region (Cm (.int .i64 (k4 : Int)) rfl rfl ?_)))
  refine Ca (.int .i64 (k4 : Int)) rfl rfl ?_
  refine C_nil (K_region (Cm (.func (.func 237) [].toArray [(.pointer (some ⟨kc1, 0, some 0⟩))].toArray) rfl rfl ?_))
  refine Cm v0_0.v rfl rfl ?_
  refine Cm (.int .i64 (k4 : Int)) rfl rfl ?_
  refine C_idx (a := x6) sl40 ty114.sz (.tmp rfl rfl) (.tmp rfl rfl) .h (Int.natCast_nonneg k4) hx9 (fun k13 j14 => ?_)
  refine C_ldA1 (ul114_0_114 x6) ag114 ty114.sz rfl (.tmp rfl rfl) .h la114_0_114 (fun p15 => ?_)
  obtain ⟨r16, hx17, hF⟩ := bind_some hF
  refine C_x0 (.rd .h rfl (.rd (.t (.t (.t .h))) rfl (.rd (.t (.t (.t (.t .h)))) rfl .nil))) (X_callCS cf237 (.tmp rfl rfl) (.cons (.tmp rfl rfl) .nil) (i_HasFact_1_ok x6 p15 kc1 a_e1 vc1_1 _ hx17)) (fun _ => ?_)
  refine C_nil (CW_cond (b := r16) (.tmp rfl rfl) (fun hb20 => ?_) (fun hb20 => ?_))
  · rw [if_pos hb20] at hF
    refine K_region (Cm (.int .i64 (k4 : Int)) rfl rfl ?_)
    refine Ca (.int .i64 (k4 : Int)) rfl rfl ?_
    refine C_nil (CW_ret ?_)
    obtain rfl := Option.some.inj hF
    exact End_ret () (.tmp rfl rfl .nil) rfl (.sel .nil)
  rw [if_neg (by rw [hb20]; exact Bool.false_ne_true)] at hF
  refine CW_skip (CW_region (C_val (V_add (i := (k4 : Int)) (j := 1) (.tmp rfl rfl) (.int _ _)) ?_))
  refine Cm (.int .i64 (IntKind.i64.wrap ((k4 : Int) + 1))) rfl rfl ?_
  refine C_nil ?_
  have hw19 : IntKind.i64.wrap ((k4 : Int) + 1) = ((k4 + 1 : Nat) : Int) := by rw [wrap_in (by omega) (by omega)]; rfl
  rw [hw19]
  exact ⟨_, Nat.lt_succ_self _, _, k4 + 1, rest5, rfl, (EqL.cons rfl (EqL.cons rfl (EqL.cons rfl (EqL.cons rfl (EqL.nil))))).eq, hd10, (.sel (.rd (.t (.t .h)) rfl (.rd (.t (.t (.t .h))) rfl (.rd (.t (.t (.t (.t .h)))) rfl .nil)))), hF⟩

/-! impl.Fact] -/
def g_slices_ContainsFunc_impl_Fact_impl_Fact_iHasFact1 (a_s : List Fact) (a_e1 : Fact) : Option (Bool) :=
  (g_slices_IndexFunc_impl_Fact_impl_Fact_iHasFact1 a_s a_e1).bind fun r1 =>
  some (decide ((0 : Int) ≤ r1))
theorem g_slices_ContainsFunc_impl_Fact_impl_Fact_iHasFact1_ok (a_s : List Fact) (v0_0 : Sv) (kc1 : Nat) (a_e1 : Fact) (vc1_1 : Sv) (R : Bool) (hF : g_slices_ContainsFunc_impl_Fact_impl_Fact_iHasFact1 a_s a_e1 = some R) :
    Fw.Spec Tryz.prog 236 [v0_0.v, (.func (.func 237) [].toArray [(.pointer (some ⟨kc1, 0, some 0⟩))].toArray)] [crd (RdS 114 rd114) v0_0.v a_s, cboR kc1 114 (.agg [(.int .i64 a_e1.Rel), vc1_1.v].toArray), crd (RdS 3 rdInt) vc1_1.v a_e1.Values] (fun _ : Unit => (.bool R)) (fun _ => []) := by
  refine Spec_enter (n := 9) Tryz.func236 rfl rfl (rs := [.tmp 4]) rfl rfl rfl ?_
  intro H0 F0
  unfold g_slices_ContainsFunc_impl_Fact_impl_Fact_iHasFact1 at hF
  refine K_region (C_val (V_assign (v := (.bool false)) (.bool _)) ?_)
  refine C_nil (K_region (Cm v0_0.v rfl rfl ?_))
  refine Cm (.func (.func 237) [].toArray [(.pointer (some ⟨kc1, 0, some 0⟩))].toArray) rfl rfl ?_
  obtain ⟨r1, hx2, hF⟩ := bind_some hF
  refine C_x0 (.rd .h rfl (.rd (.t .h) rfl (.rd (.t (.t .h)) rfl .nil))) (X_callS cf195 (.cons (.tmp rfl rfl) (.cons (.tmp rfl rfl) .nil)) (g_slices_IndexFunc_impl_Fact_impl_Fact_iHasFact1_ok a_s v0_0 kc1 a_e1 vc1_1 _ hx2)) (fun _ => ?_)
  refine C_val (V_geq (i := r1) (j := 0) (.tmp rfl rfl) (.int _ _)) ?_
  refine Ca (.bool (decide ((0 : Int) ≤ r1))) rfl rfl ?_
  refine C_nil (CW_ret ?_)
  obtain rfl := Option.some.inj hF
  exact End_ret () (.tmp rfl rfl .nil) rfl (.sel .nil)

/-! impl.HasFact -/
def i_HasFact (a_l : List Fact) (a_f : Fact) : Option (Bool) :=
  (g_slices_ContainsFunc_impl_Fact_impl_Fact_iHasFact1 a_l a_f).bind fun r2 =>
  some r2
theorem i_HasFact_ok (a_l : List Fact) (v0_0 : Sv) (a_f : Fact) (v1_1 : Sv) (R : Bool) (hF : i_HasFact a_l a_f = some R) :
    Fw.Spec Tryz.prog 194 [v0_0.v, (.agg [(.int .i64 a_f.Rel), v1_1.v].toArray)] [crd (RdS 114 rd114) v0_0.v a_l, crd (RdS 3 rdInt) v1_1.v a_f.Values] (fun _ : Unit => (.bool R)) (fun _ => []) := by
  refine Spec_enter (n := 8) Tryz.func194 rfl rfl (rs := [.tmp 4]) rfl rfl rfl ?_
  intro H0 F0
  unfold i_HasFact at hF
  refine K_region (C_newR rfl (N_box (g := false) (v := (.agg [(.int .i64 a_f.Rel), v1_1.v].toArray)) ty114.sz (.tmp rfl rfl) rfl) (fun k1 => ?_))
  refine C_val (V_assign (v := (.bool false)) (.bool _)) ?_
  refine C_nil (K_region (Cm v0_0.v rfl rfl ?_))
  refine C_val (V_makeFunc (fn := .func 237) (vs := []) (us := [(.pointer (some ⟨k1, 0, some 0⟩))]) .nil (.cons (.tmp rfl rfl) .nil)) ?_
  obtain ⟨r2, hx3, hF⟩ := bind_some hF
  refine C_x0 (.rd (.t .h) rfl (.rd .h rfl (.rd (.t (.t .h)) rfl .nil))) (X_callS cf236 (.cons (.tmp rfl rfl) (.cons (.tmp rfl rfl) .nil)) (g_slices_ContainsFunc_impl_Fact_impl_Fact_iHasFact1_ok a_l v0_0 k1 a_f v1_1 _ hx3)) (fun _ => ?_)
  refine Ca (.bool r2) rfl rfl ?_
  refine C_nil (CW_ret ?_)
  obtain rfl := Option.some.inj hF
  exact End_ret () (.tmp rfl rfl .nil) rfl (.sel .nil)

/-! impl.added$1 -/
def i_added_1 (a_x : Fact) (a_e1 : Fact) : Option (Bool) :=
  (i_CompareFacts a_x a_e1).bind fun r2 =>
  some (decide ((0 : Int) < r2))
theorem i_added_1_ok (a_x : Fact) (v0_1 : Sv) (kc1 : Nat) (a_e1 : Fact) (vc1_1 : Sv) (R : Bool) (hF : i_added_1 a_x a_e1 = some R) :
    Fw.Spec Tryz.prog 196 [(.agg [(.int .i64 a_x.Rel), v0_1.v].toArray), (.pointer (some ⟨kc1, 0, some 0⟩))] [crd (RdS 3 rdInt) v0_1.v a_x.Values, cboR kc1 114 (.agg [(.int .i64 a_e1.Rel), vc1_1.v].toArray), crd (RdS 3 rdInt) vc1_1.v a_e1.Values] (fun _ : Unit => (.bool R)) (fun _ => []) := by
  refine Spec_enter (n := 8) Tryz.func196 rfl rfl (rs := [.tmp 3]) rfl rfl rfl ?_
  intro H0 F0
  unfold i_added_1 at hF
  refine K_region (C_newR rfl (N_box (g := false) (v := (.agg [(.int .i64 a_x.Rel), v0_1.v].toArray)) ty114.sz (.tmp rfl rfl) rfl) (fun k1 => ?_))
  refine C_val (V_assign (v := (.bool false)) (.bool _)) ?_
  refine C_nil (K_region (C_at .h (fun hp => V_loadBox ag114 ty114.sz rfl (.tmp rfl rfl) hp.2 rfl) ?_))
  refine C_at (.t (.t .h)) (fun hp => V_loadBox ag114 ty114.sz rfl (.tmp rfl rfl) hp.2 rfl) ?_
  obtain ⟨r2, hx3, hF⟩ := bind_some hF
  refine C_x0 (.rd (.t .h) rfl (.rd (.t (.t (.t .h))) rfl .nil)) (X_callS cf133 (.cons (.tmp rfl rfl) (.cons (.tmp rfl rfl) .nil)) (i_CompareFacts_ok a_x v0_1 a_e1 vc1_1 _ hx3)) (fun _ => ?_)
  refine C_val (V_gtr (i := r2) (j := 0) (.tmp rfl rfl) (.int _ _)) ?_
  refine Ca (.bool (decide ((0 : Int) < r2))) rfl rfl ?_
  refine C_nil (CW_ret ?_)
  obtain rfl := Option.some.inj hF
  exact End_ret () (.tmp rfl rfl .nil) rfl (.sel .nil)

/-! impl.Fact] -/
def g_slices_IndexFunc_impl_Fact_impl_Fact_iadded1_L1 (a_e1 : Fact) : List Fact → Nat → Option (Int)
  | [], k4 => some (-1)
  | x6 :: rest5, k4 => (i_added_1 x6 a_e1).bind fun r16 =>
    if r16 then (
      some (k4 : Int))
    else (
      g_slices_IndexFunc_impl_Fact_impl_Fact_iadded1_L1 a_e1 rest5 (k4 + 1))
def g_slices_IndexFunc_impl_Fact_impl_Fact_iadded1 (a_s : List Fact) (a_e1 : Fact) : Option (Int) :=
  g_slices_IndexFunc_impl_Fact_impl_Fact_iadded1_L1 a_e1 a_s 0
theorem g_slices_IndexFunc_impl_Fact_impl_Fact_iadded1_ok (a_s : List Fact) (v0_0 : Sv) (kc1 : Nat) (a_e1 : Fact) (vc1_1 : Sv) (R : Int) (hF : g_slices_IndexFunc_impl_Fact_impl_Fact_iadded1 a_s a_e1 = some R) :
    Fw.Spec Tryz.prog 195 [v0_0.v, (.func (.func 196) [].toArray [(.pointer (some ⟨kc1, 0, some 0⟩))].toArray)] [crd (RdS 114 rd114) v0_0.v a_s, cboR kc1 114 (.agg [(.int .i64 a_e1.Rel), vc1_1.v].toArray), crd (RdS 3 rdInt) vc1_1.v a_e1.Values] (fun _ : Unit => (.int .i64 R)) (fun _ => []) := by
  refine Spec_enter (n := 19) Tryz.func195 rfl rfl (rs := [.tmp 4]) rfl rfl rfl ?_
  intro H0 F0
  unfold g_slices_IndexFunc_impl_Fact_impl_Fact_iadded1 at hF
  refine K_region (C_val (V_assign (v := (.int .i64 0)) (.int _ _)) ?_)
  refine C_nil (K_in (K_region (Cm v0_0.v rfl rfl ?_)))
  refine C_at .h (fun hp => V_lenR (l := a_s.length) sl40 (.tmp rfl rfl) (crd_len hp)) ?_
  refine C_val (V_move (v := (.int .i64 0)) (.int _ _)) ?_
  refine C_nil (CW_block (CW_loop (m := a_s.length) (fun m2 f' cs' => ∃ (g : Fr) (k4 : Nat) (rest5 : List Fact), m2 = rest5.length ∧ f' = updL g [(0, v0_0.v), (1, (.func (.func 196) [].toArray [(.pointer (some ⟨kc1, 0, some 0⟩))].toArray)), (7, (.int .i64 (a_s.length : Int))), (8, (.int .i64 (k4 : Int)))] ∧ List.drop k4 a_s = rest5 ∧ Ent cs' [crd (RdS 114 rd114) v0_0.v a_s, cboR kc1 114 (.agg [(.int .i64 a_e1.Rel), vc1_1.v].toArray), crd (RdS 3 rdInt) vc1_1.v a_e1.Values] ∧ g_slices_IndexFunc_impl_Fact_impl_Fact_iadded1_L1 a_e1 rest5 k4 = some R) ⟨_, 0, _, rfl, (EqL.cons rfl (EqL.cons rfl (EqL.cons rfl (EqL.cons rfl (EqL.nil))))).eq, rfl, (.sel (.rd .h rfl (.rd (.t .h) rfl (.rd (.t (.t .h)) rfl .nil)))), hF⟩ ?_))
  clear hF
  rintro m2 _ _ ⟨g3, k4, rest5, rfl, rfl, hd7, hE, hF⟩
  refine K_ent hE ?_
  clear hE
  refine K_pure (c := crd (RdS 114 rd114) v0_0.v a_s) .h crd_bound (fun hbd12 => ?_)
  rcases rest5 with _ | ⟨x6, rest5⟩
  · have hk8 := List.drop_eq_nil_iff.1 hd7
    have hfe11 : (decide (((k4 : Int) : Int) < (a_s.length : Int))) = false := decide_eq_false (by omega)
    rw [g_slices_IndexFunc_impl_Fact_impl_Fact_iadded1_L1] at hF
    refine K_region (C_val (V_lss (i := (k4 : Int)) (j := (a_s.length : Int)) (.tmp rfl rfl) (.tmp rfl rfl)) ?_)
    refine C_nil (K_in (CW_cond (b := (decide (((k4 : Int) : Int) < (a_s.length : Int)))) (.tmp rfl rfl) (fun hb => absurd (hfe11.symm.trans hb) (by decide)) (fun _ => ?_)))
    refine CW_exit ?_
    iterate 2 refine CThen_exit ?_
    refine CIn_self (K_region (C_val (V_assign (v := (.int .i64 (-1))) (.int _ _)) ?_))
    refine C_nil (CW_ret ?_)
    obtain rfl := Option.some.inj hF
    exact End_ret () (.tmp rfl rfl .nil) rfl (.sel .nil)
  obtain ⟨hk8, hx9, hd10⟩ := drop_cons hd7
  have hfe11 : (decide (((k4 : Int) : Int) < (a_s.length : Int))) = true := decide_eq_true (by omega)
  rw [g_slices_IndexFunc_impl_Fact_impl_Fact_iadded1_L1] at hF
  refine K_region (C_val (V_lss (i := (k4 : Int)) (j := (a_s.length : Int)) (.tmp rfl rfl) (.tmp rfl rfl)) ?_)
  refine C_nil (K_in (CW_cond (b := (decide (((k4 : Int) : Int) < (a_s.length : Int)))) (.tmp rfl rfl) (fun _ => ?_) (fun hb => absurd (hfe11.symm.trans hb) (by decide))))
  refine CW_skip (K_block (K_region (Cm (.int .i64 (k4 : Int)) rfl rfl ?_)))
  refine Ca (.int .i64 (k4 : Int)) rfl rfl ?_
  refine C_nil (K_region (Cm (.func (.func 196) [].toArray [(.pointer (some ⟨kc1, 0, some 0⟩))].toArray) rfl rfl ?_))
  refine Cm v0_0.v rfl rfl ?_
  refine Cm (.int .i64 (k4 : Int)) rfl rfl ?_
  refine C_idx (a := x6) sl40 ty114.sz (.tmp rfl rfl) (.tmp rfl rfl) .h (Int.natCast_nonneg k4) hx9 (fun k13 j14 => ?_)
  refine C_ldA1 (ul114_0_114 x6) ag114 ty114.sz rfl (.tmp rfl rfl) .h la114_0_114 (fun p15 => ?_)
  obtain ⟨r16, hx17, hF⟩ := bind_some hF
  refine C_x0 (.rd .h rfl (.rd (.t (.t (.t .h))) rfl (.rd (.t (.t (.t (.t .h)))) rfl .nil))) (X_callCS cf196 (.tmp rfl rfl) (.cons (.tmp rfl rfl) .nil) (i_added_1_ok x6 p15 kc1 a_e1 vc1_1 _ hx17)) (fun _ => ?_)
  refine C_nil (CW_cond (b := r16) (.tmp rfl rfl) (fun hb20 => ?_) (fun hb20 => ?_))
  · rw [if_pos hb20] at hF
    refine K_region (Cm (.int .i64 (k4 : Int)) rfl rfl ?_)
    refine Ca (.int .i64 (k4 : Int)) rfl rfl ?_
    refine C_nil (CW_ret ?_)
    obtain rfl := Option.some.inj hF
    exact End_ret () (.tmp rfl rfl .nil) rfl (.sel .nil)
  rw [if_neg (by rw [hb20]; exact Bool.false_ne_true)] at hF
  refine CW_skip (CW_region (C_val (V_add (i := (k4 : Int)) (j := 1) (.tmp rfl rfl) (.int _ _)) ?_))
  refine Cm (.int .i64 (IntKind.i64.wrap ((k4 : Int) + 1))) rfl rfl ?_
  refine C_nil ?_
  have hw19 : IntKind.i64.wrap ((k4 : Int) + 1) = ((k4 + 1 : Nat) : Int) := by rw [wrap_in (by omega) (by omega)]; rfl
  rw [hw19]
  exact ⟨_, Nat.lt_succ_self _, _, k4 + 1, rest5, rfl, (EqL.cons rfl (EqL.cons rfl (EqL.cons rfl (EqL.cons rfl (EqL.nil))))).eq, hd10, (.sel (.rd (.t (.t .h)) rfl (.rd (.t (.t (.t .h))) rfl (.rd (.t (.t (.t (.t .h)))) rfl .nil)))), hF⟩

/-! impl.Fact] -/
def g_slices_Insert_impl_Fact_impl_Fact (a_s : List Fact) (a_i : Int) (a_v : List Fact) : Option (List Fact) :=
  match a_v with
  | [a] => if 0 ≤ a_i ∧ a_i.toNat ≤ a_s.length ∧ a_s.length + 1 < 4294967296 then some (a_s.take a_i.toNat ++ a :: a_s.drop a_i.toNat) else none
  | _ => none
set_option maxHeartbeats 4000000 in
theorem g_slices_Insert_impl_Fact_impl_Fact_raw (es : List Value) (e : Value) (v u : Sv) (F F2 : List Nat) (i : Nat) (hi : i ≤ es.length) (hb : es.length + 1 < 4294967296) : Fw.Spec Tryz.prog 197 [v.v, .int .i64 (i : Int), u.v] [cown (OwnS 114 (roE (rvs 2))) F v.v es, cown (OwnS 114 (roE (rvs 2))) F2 u.v [e]] (fun q : Sv × List Nat => q.1.v) (fun q => [cown (OwnS 114 (roE (rvs 2))) q.2 q.1.v (es.take i ++ e :: es.drop i)]) := by
  refine Spec_enter (n := 95) Tryz.func197 rfl rfl (rs := [.tmp 6]) rfl rfl rfl ?_
  intro H0 F0
  refine K_region ?_
  refine C_val (V_assign (v := (.slice none 0 0)) EV.nilSlice) ?_
  refine C_nil ?_
  refine K_region ?_
  refine C_val (V_move (v := v.v) (.tmp rfl rfl)) ?_
  refine C_val (V_move (v := (.int .i64 (i : Int))) (.tmp rfl rfl)) ?_
  refine C_x1 (.cons .h .nil) (X_sliceLoE sl40 ty114.sz (.tmp rfl rfl) (.tmp rfl rfl) hi) (fun w0 => ?_)
  refine C_nil ?_
  refine K_region ?_
  refine C_val (V_move (v := u.v) (.tmp rfl rfl)) ?_
  refine C_at (.t .h) (fun hp => V_lenR (l := 1) sl40 (.tmp rfl rfl) (cown_len hp)) ?_
  refine C_val (V_assign (v := (.int .i64 ((1 : Nat) : Int))) (.tmp rfl rfl)) ?_
  refine C_nil ?_
  refine K_in ?_
  refine K_region ?_
  refine C_val (V_move (v := (.int .i64 ((1 : Nat) : Int))) (.tmp rfl rfl)) ?_
  refine C_val (V_eql (i := ((1 : Nat) : Int)) (j := 0) (.tmp rfl rfl) (.int _ _)) ?_
  refine C_nil ?_
  refine CW_cond (b := (((1 : Nat) : Int) == 0)) (.tmp rfl rfl) (fun hb0 => absurd hb0 (by decide)) (fun _ => ?_)
  refine CW_skip ?_
  refine K_region ?_
  refine C_val (V_move (v := v.v) (.tmp rfl rfl)) ?_
  refine C_at .h (fun hp => V_lenR (l := es.length) sl40 (.tmp rfl rfl) (cown_len hp)) ?_
  refine C_val (V_assign (v := (.int .i64 (es.length : Int))) (.tmp rfl rfl)) ?_
  refine C_nil ?_
  refine K_in ?_
  refine K_region ?_
  refine C_val (V_move (v := (.int .i64 (i : Int))) (.tmp rfl rfl)) ?_
  refine C_val (V_move (v := (.int .i64 (es.length : Int))) (.tmp rfl rfl)) ?_
  refine C_val (V_eql (i := (i : Int)) (j := (es.length : Int)) (.tmp rfl rfl) (.tmp rfl rfl)) ?_
  refine C_nil ?_
  refine CW_cond (b := ((i : Int) == (es.length : Int))) (.tmp rfl rfl) (fun hb1 => ?_) (fun hb1 => ?_)
  · have hie : i = es.length := by simp only [beq_iff_eq] at hb1; omega
    refine K_region ?_
    refine C_val (V_move (v := v.v) (.tmp rfl rfl)) ?_
    refine C_val (V_move (v := u.v) (.tmp rfl rfl)) ?_
    refine C_x1 (.cons .h (.cons .h .nil)) (X_appendO (Ro := (roE (rvs 2))) sl40 ni40 ty114 rfl rfl rfl (.tmp rfl rfl) (.tmp rfl rfl) (app_ok (xs := es) (ys := [e]) (by simpa using hb)) src_own) (fun p => ?_)
    refine C_val (V_assign (v := p.1.v) (.tmp rfl rfl)) ?_
    refine C_nil ?_
    refine CW_ret ?_
    rw [hie, List.take_length, List.drop_length]
    exact End_ret p (.tmp rfl rfl .nil) rfl (.sel (.cons .h .nil))
  refine CW_skip ?_
  have hlt : i < es.length := by simp at hb1; omega
  refine K_pure .h (own_form (by intro h; rw [h] at hlt; simp at hlt)) (fun hv => ?_)
  obtain ⟨k0, m0, rfl, hm0⟩ := hv
  refine K_pure (.t .h) (own_form (by simp)) (fun hu => ?_)
  obtain ⟨k1, m1, rfl, hm1⟩ := hu
  refine K_cap (t := 0) (k := k0) (l := es.length) (m := m0) rfl rfl hm0 (by omega) .h rfl (fun c hc => ?_)
  have w1 : IntKind.i64.wrap ((es.length : Int) + ((1 : Nat) : Int)) = ((es.length + 1 : Nat) : Int) := by rw [wrap_in (by omega) (by omega)]; rfl
  have w2 : IntKind.i64.wrap ((i : Int) + ((1 : Nat) : Int)) = ((i + 1 : Nat) : Int) := by rw [wrap_in (by omega) (by omega)]; rfl
  have w3 : IntKind.i64.wrap (((es.length + 1 : Nat) : Int) - (i : Int)) = ((es.length + 1 - i : Nat) : Int) := by rw [wrap_in (by omega) (by omega)]; omega
  have hel : (es.take i ++ e :: es.drop i).length = es.length + 1 := ins_len hi
  refine K_in ?_
  refine K_region ?_
  refine C_val (V_move (v := (.int .i64 (es.length : Int))) (.tmp rfl rfl)) ?_
  refine C_val (V_move (v := (.int .i64 ((1 : Nat) : Int))) (.tmp rfl rfl)) ?_
  refine C_val (V_add (i := (es.length : Int)) (j := ((1 : Nat) : Int)) (.tmp rfl rfl) (.tmp rfl rfl)) ?_
  rw [w1]
  refine C_val (V_move (v := (.slice (some ⟨k0, 0, none⟩) es.length (c + 3))) (.tmp rfl rfl)) ?_
  refine C_at .h (fun hp => V_capO sl40 hp rfl (.tmp rfl rfl)) ?_
  refine C_val (V_gtr (i := ((es.length + 1 : Nat) : Int)) (j := (c : Int)) (.tmp rfl rfl) (.tmp rfl rfl)) ?_
  refine C_nil ?_
  refine CW_cond (b := (decide ((c : Int) < ((es.length + 1 : Nat) : Int)))) (.tmp rfl rfl) (fun hb2 => ?_) (fun hb2 => ?_)
  · have hcl : c < es.length + 1 := by simp only [decide_eq_true_eq] at hb2; omega
    refine K_region ?_
    refine C_val (V_move (v := (.slice (some ⟨k0, 0, none⟩) es.length (c + 3))) (.tmp rfl rfl)) ?_
    refine C_val (V_move (v := (.int .i64 (i : Int))) (.tmp rfl rfl)) ?_
    refine C_at .h (fun hp => V_sliceCapO (j := i) sl40 ty114.sz hp rfl (.tmp rfl rfl) (.tmp rfl rfl) (by omega)) ?_
    refine C_val (V_move (v := (.int .i64 (es.length : Int))) (.tmp rfl rfl)) ?_
    refine C_val (V_move (v := (.int .i64 ((1 : Nat) : Int))) (.tmp rfl rfl)) ?_
    refine C_val (V_add (i := (es.length : Int)) (j := ((1 : Nat) : Int)) (.tmp rfl rfl) (.tmp rfl rfl)) ?_
    rw [w1]
    refine C_val (V_move (v := (.int .i64 (i : Int))) (.tmp rfl rfl)) ?_
    refine C_val (V_sub (i := ((es.length + 1 : Nat) : Int)) (j := (i : Int)) (.tmp rfl rfl) (.tmp rfl rfl)) ?_
    rw [w3]
    refine C_x2 (.cons .h .nil) (X_appendMake (c := c) (q := es.length + 1 - i) sl40 ik3 ty114 rfl rfl rfl rfl rfl rfl (.tmp rfl rfl) (.tmp rfl rfl) (by omega) (by omega) (by omega) (by omega)) (fun k2 => ?_)
    rw [show i + (es.length + 1 - i) = es.length + 1 from by omega]
    refine C_val (V_assign (v := (.slice (some ⟨k2, 0, none⟩) (es.length + 1) 2)) (.tmp rfl rfl)) ?_
    refine C_nil ?_
    refine K_region ?_
    refine C_val (V_move (v := (.slice (some ⟨k2, 0, none⟩) (es.length + 1) 2)) (.tmp rfl rfl)) ?_
    refine C_val (V_move (v := (.int .i64 (i : Int))) (.tmp rfl rfl)) ?_
    refine C_at .h (fun hp => V_sliceLoO (j := i) sl40 ty114.sz hp rfl (.tmp rfl rfl) (.tmp rfl rfl) (by omega)) ?_
    refine C_val (V_move (v := (.slice (some ⟨k1, 0, none⟩) 1 m1)) (.tmp rfl rfl)) ?_
    refine C_x2 (.cons .h (.cons (.t .h) .nil)) (X_copy2 (m1 := 0) (m2 := m1) (ia := i) (ja := 0) (ld := es.length + 1 - i) (ls := 1) (es2 := [e]) (es' := es.take i ++ e :: List.replicate (es.length - i) (.agg [(.int .i64 0), (.slice none 0 0)].toArray)) sl40 ty114.sz rfl rfl rfl (by exact .tmp rfl rfl) (by exact .tmp rfl rfl) (by omega) (by omega) (by rw [List.length_singleton]; omega) (by simp; omega) (ins_l1 (e := e) (z := (.agg [(.int .i64 0), (.slice none 0 0)].toArray)) hlt) (by simp; omega)) (fun _ => ?_)
    refine C_nil ?_
    refine K_draw [0, 1, 2, 3, 4, 5, 6, 7, 8] [0, 0, 0, 6, 15, 0, 0, 96, 255] [8] mixed (by decide +kernel) ?_
    refine D_val rfl .no (fun ha => V_move (v := (.slice (some ⟨k2, 0, none⟩) (es.length + 1) 2)) (EN ha (.tmp rfl rfl) rfl)) ?_
    refine D_val rfl .no (fun ha => V_move (v := (.int .i64 (i : Int))) (EN ha (.tmp rfl rfl) rfl)) ?_
    refine D_val rfl .no (fun ha => V_move (v := (.int .i64 ((1 : Nat) : Int))) (EN ha (.tmp rfl rfl) rfl)) ?_
    refine D_val rfl .no (fun ha => V_add (i := (i : Int)) (j := ((1 : Nat) : Int)) (EN ha (.tmp rfl rfl) rfl) (EN ha (.tmp rfl rfl) rfl)) ?_
    rw [w2]
    refine D_atO rfl .no .h (fun ha hp => V_sliceLoO (j := i + 1) sl40 ty114.sz hp rfl (EN ha (.tmp rfl rfl) rfl) (EN ha (.tmp rfl rfl) rfl) (by omega)) ?_
    refine D_val rfl .no (fun ha => V_move (v := (.slice (some ⟨k0, 0, none⟩) es.length (c + 3))) (EN ha (.tmp rfl rfl) rfl)) ?_
    refine D_val rfl .no (fun ha => V_move (v := (.int .i64 (i : Int))) (EN ha (.tmp rfl rfl) rfl)) ?_
    refine D_atO rfl .no (.t (.t .h)) (fun ha hp => V_sliceLoO (j := i) sl40 ty114.sz hp rfl (EN ha (.tmp rfl rfl) rfl) (EN ha (.tmp rfl rfl) rfl) (by omega)) ?_
    refine D_act2 rfl rfl .no (.cons .h (.cons (.t .h) .nil)) (.dep rfl (.dep rfl .nil)) (fun ha => X_copy2 sl40 ty114.sz rfl rfl rfl (EN ha (.tmp rfl rfl) rfl) (EN ha (.tmp rfl rfl) rfl) (by omega) (by omega) (by omega) (by simp; omega) (ins_l2 (e := e) (z := (.agg [(.int .i64 0), (.slice none 0 0)].toArray)) hlt) (by omega)) (fun _ => ?_)
    refine D_nil ?_
    refine K_region ?_
    refine C_val (V_move (v := (.slice (some ⟨k2, 0, none⟩) (es.length + 1) 2)) (.tmp rfl rfl)) ?_
    refine C_val (V_assign (v := (.slice (some ⟨k2, 0, none⟩) (es.length + 1) 2)) (.tmp rfl rfl)) ?_
    refine C_nil ?_
    refine CW_ret ?_
    rw [hel]
    exact End_ret (⟨some ⟨k2, 0, none⟩, es.length + 1, 2⟩, [k2]) (.tmp rfl rfl .nil) rfl (.sel (.cons .h .nil))
  refine CW_skip ?_
  have hcl : es.length + 1 ≤ c := by simp only [decide_eq_false_iff_not] at hb2; omega
  refine K_region ?_
  refine C_val (V_move (v := (.slice (some ⟨k0, 0, none⟩) es.length (c + 3))) (.tmp rfl rfl)) ?_
  refine C_val (V_move (v := (.int .i64 (es.length : Int))) (.tmp rfl rfl)) ?_
  refine C_val (V_move (v := (.int .i64 ((1 : Nat) : Int))) (.tmp rfl rfl)) ?_
  refine C_val (V_add (i := (es.length : Int)) (j := ((1 : Nat) : Int)) (.tmp rfl rfl) (.tmp rfl rfl)) ?_
  rw [w1]
  refine C_at .h (fun hp => V_sliceCapO (j := es.length + 1) sl40 ty114.sz hp rfl (.tmp rfl rfl) (.tmp rfl rfl) hcl) ?_
  refine C_val (V_assign (v := (.slice (some ⟨k0, 0, none⟩) (es.length + 1) (c + 3))) (.tmp rfl rfl)) ?_
  refine C_nil ?_
  refine K_in ?_
  refine K_region ?_
  refine C_val (V_move (v := (.slice (some ⟨k1, 0, none⟩) 1 m1)) (.tmp rfl rfl)) ?_
  refine C_val (V_move (v := (.slice (some ⟨k0, 0, none⟩) (es.length + 1) (c + 3))) (.tmp rfl rfl)) ?_
  refine C_val (V_move (v := (.int .i64 (i : Int))) (.tmp rfl rfl)) ?_
  refine C_val (V_move (v := (.int .i64 ((1 : Nat) : Int))) (.tmp rfl rfl)) ?_
  refine C_val (V_add (i := (i : Int)) (j := ((1 : Nat) : Int)) (.tmp rfl rfl) (.tmp rfl rfl)) ?_
  rw [w2]
  refine C_at .h (fun hp => V_sliceLoO (j := i + 1) sl40 ty114.sz hp rfl (.tmp rfl rfl) (.tmp rfl rfl) (by omega)) ?_
  refine C_x2 (.cons (.t .h) (.cons .h .nil)) (X_overlaps sl40 ty114.sz rfl hov238 rfl rfl (.tmp rfl rfl) (.tmp rfl rfl) (by omega) (by omega)) (fun _ => ?_)
  refine C_val (V_not (b := false) (.tmp rfl rfl)) ?_
  refine C_nil ?_
  refine CW_cond (b := (!false)) (.tmp rfl rfl) (fun _ => ?_) (fun h => absurd h (by decide))
  refine K_draw [0, 1, 2, 3, 4, 5, 6, 7, 8] [0, 0, 0, 6, 15, 0, 0, 96, 255] [8] mixed (by decide +kernel) ?_
  refine D_val rfl .no (fun ha => V_move (v := (.slice (some ⟨k0, 0, none⟩) (es.length + 1) (c + 3))) (EN ha (.tmp rfl rfl) rfl)) ?_
  refine D_val rfl .no (fun ha => V_move (v := (.int .i64 (i : Int))) (EN ha (.tmp rfl rfl) rfl)) ?_
  refine D_val rfl .no (fun ha => V_move (v := (.int .i64 ((1 : Nat) : Int))) (EN ha (.tmp rfl rfl) rfl)) ?_
  refine D_val rfl .no (fun ha => V_add (i := (i : Int)) (j := ((1 : Nat) : Int)) (EN ha (.tmp rfl rfl) rfl) (EN ha (.tmp rfl rfl) rfl)) ?_
  rw [w2]
  refine D_atO rfl .no (.t .h) (fun ha hp => V_sliceLoO (j := i + 1) sl40 ty114.sz hp rfl (EN ha (.tmp rfl rfl) rfl) (EN ha (.tmp rfl rfl) rfl) (by omega)) ?_
  refine D_val rfl .no (fun ha => V_move (v := (.slice (some ⟨k0, 0, none⟩) (es.length + 1) (c + 3))) (EN ha (.tmp rfl rfl) rfl)) ?_
  refine D_val rfl .no (fun ha => V_move (v := (.int .i64 (i : Int))) (EN ha (.tmp rfl rfl) rfl)) ?_
  refine D_atO rfl .no (.t .h) (fun ha hp => V_sliceLoO (j := i) sl40 ty114.sz hp rfl (EN ha (.tmp rfl rfl) rfl) (EN ha (.tmp rfl rfl) rfl) (by omega)) ?_
  refine D_act1 rfl rfl .no (.cons (.t .h) .nil) (.dep rfl (.dep rfl .nil)) (fun ha => X_copyS sl40 ty114.sz rfl rfl (EN ha (.tmp rfl rfl) rfl) (EN ha (.tmp rfl rfl) rfl) (by omega) (by omega) (by omega) (by omega) (ins_l3 hlt) (by simp; omega)) (fun _ => ?_)
  refine D_nil ?_
  refine K_region ?_
  refine C_val (V_move (v := (.slice (some ⟨k0, 0, none⟩) (es.length + 1) (c + 3))) (.tmp rfl rfl)) ?_
  refine C_val (V_move (v := (.int .i64 (i : Int))) (.tmp rfl rfl)) ?_
  refine C_at .h (fun hp => V_sliceLoO (j := i) sl40 ty114.sz hp rfl (.tmp rfl rfl) (.tmp rfl rfl) (by omega)) ?_
  refine C_val (V_move (v := (.slice (some ⟨k1, 0, none⟩) 1 m1)) (.tmp rfl rfl)) ?_
  refine C_x2 (.cons .h (.cons .h .nil)) (X_copy2 (m1 := 0) (m2 := m1) (ia := i) (ja := 0) (ld := es.length + 1 - i) (ls := 1) (es2 := [e]) (es' := es.take i ++ e :: es.drop i) sl40 ty114.sz rfl rfl rfl (by exact .tmp rfl rfl) (by exact .tmp rfl rfl) (by omega) (by omega) (by rw [List.length_singleton]; omega) (by simp; omega) (ins_l4 (e := e) hlt) (by omega)) (fun _ => ?_)
  refine C_nil ?_
  refine K_region ?_
  refine C_val (V_move (v := (.slice (some ⟨k0, 0, none⟩) (es.length + 1) (c + 3))) (.tmp rfl rfl)) ?_
  refine C_val (V_assign (v := (.slice (some ⟨k0, 0, none⟩) (es.length + 1) (c + 3))) (.tmp rfl rfl)) ?_
  refine C_nil ?_
  refine K_uncap (t := 6) (k := k0) (l := es.length + 1) (c := c) rfl rfl ?_
  refine CW_ret ?_
  rw [hel]
  exact End_ret (⟨some ⟨k0, 0, none⟩, es.length + 1, 2⟩, F) (.tmp rfl rfl .nil) rfl (.sel (.cons .h .nil))
theorem g_slices_Insert_impl_Fact_impl_Fact_ok (a_s : List Fact) (v0_0 : Sv) (F0_0 : List Nat) (a_i : Int) (a_v : List Fact) (v2_0 : Sv) (F2_0 : List Nat) (R : List Fact) (hF : g_slices_Insert_impl_Fact_impl_Fact a_s a_i a_v = some R) :
    Fw.Spec Tryz.prog 197 [v0_0.v, .int .i64 a_i, v2_0.v] [cown (OwnS 114 ow114) F0_0 v0_0.v a_s, cown (OwnS 114 ow114) F2_0 v2_0.v a_v] (fun p : Sv × List Nat => p.1.v) (fun p => [cown (OwnS 114 ow114) p.2 p.1.v R]) := by
  unfold g_slices_Insert_impl_Fact_impl_Fact at hF
  rcases a_v with _ | ⟨a, _ | ⟨_, _⟩⟩
  · simp at hF
  · dsimp only at hF
    split at hF
    · rename_i h
      obtain ⟨h0, h1, h2⟩ := h
      obtain ⟨i, rfl⟩ : ∃ i : Nat, a_i = (i : Int) := ⟨a_i.toNat, by omega⟩
      cases hF
      rw [Int.toNat_natCast] at h1 ⊢
      exact Spec_insD (s := 2) fun es e Fa Fb hl => g_slices_Insert_impl_Fact_impl_Fact_raw es e v0_0 v2_0 Fa Fb i (by omega) (by omega)
    · simp at hF
  · simp at hF

/-! impl.added -/
def i_added (a_l : List Fact) (a_f : Fact) : Option ((List Fact)) :=
  (i_HasFact a_l a_f).bind fun r2 =>
  if r2 then (
    some a_l)
  else (
    (g_slices_IndexFunc_impl_Fact_impl_Fact_iadded1 a_l a_f).bind fun r5 =>
    if (decide ((r5 : Int) < 0)) then (
      (i_copyFact a_f).bind fun r8 =>
      (g_slices_Insert_impl_Fact_impl_Fact a_l (a_l.length : Int) ([r8] : List Fact)).bind fun r12 =>
      some r12)
    else (
      (i_copyFact a_f).bind fun r15 =>
      (g_slices_Insert_impl_Fact_impl_Fact a_l r5 ([r15] : List Fact)).bind fun r19 =>
      some r19))
theorem i_added_ok (a_l : List Fact) (v0_0 : Sv) (F0_0 : List Nat) (a_f : Fact) (v1_1 : Sv) (R : (List Fact)) (hF : i_added a_l a_f = some R) :
    Fw.Spec Tryz.prog 144 [v0_0.v, (.agg [(.int .i64 a_f.Rel), v1_1.v].toArray)] [cown (OwnS 114 ow114) F0_0 v0_0.v a_l, crd (RdS 3 rdInt) v1_1.v a_f.Values] (fun p : Sv × List Nat => p.1.v) (fun p => [cown (OwnS 114 ow114) p.2 p.1.v R]) := by
  refine Spec_enter (n := 23) Tryz.func144 rfl rfl (rs := [.tmp 4]) rfl rfl rfl ?_
  intro H0 F0
  unfold i_added at hF
  refine K_region (C_newR rfl (N_box (g := false) (v := (.agg [(.int .i64 a_f.Rel), v1_1.v].toArray)) ty114.sz (.tmp rfl rfl) rfl) (fun k1 => ?_))
  refine C_val (V_assign (v := (.slice none 0 0)) EV.nilSlice) ?_
  refine C_nil (K_in (K_region (Cm v0_0.v rfl rfl ?_)))
  refine C_at .h (fun hp => V_loadBox ag114 ty114.sz rfl (.tmp rfl rfl) hp.2 rfl) ?_
  obtain ⟨r2, hx3, hF⟩ := bind_some hF
  refine C_x1 (.cons (.t .h) (.rd (.t .h) rfl .nil)) (XC_bor frz_own (fun _ => .nil) (X_callS cf194 (.cons (.tmp rfl rfl) (.cons (.tmp rfl rfl) .nil)) (i_HasFact_ok a_l v0_0 a_f v1_1 _ hx3))) (fun _ => ?_)
  refine C_nil (CW_cond (b := r2) (.tmp rfl rfl) (fun hb23 => ?_) (fun hb23 => ?_))
  · rw [if_pos hb23] at hF
    refine K_region (Cm v0_0.v rfl rfl ?_)
    refine Ca v0_0.v rfl rfl ?_
    refine C_nil (CW_ret ?_)
    obtain rfl := Option.some.inj hF
    exact End_ret (v0_0, F0_0) (.tmp rfl rfl .nil) rfl (.sel (.cons .h .nil))
  rw [if_neg (by rw [hb23]; exact Bool.false_ne_true)] at hF
  refine CW_skip (K_region (Cm v0_0.v rfl rfl ?_))
  refine C_val (V_makeFunc (fn := .func 196) (vs := []) (us := [(.pointer (some ⟨k1, 0, some 0⟩))]) .nil (.cons (.tmp rfl rfl) .nil)) ?_
  obtain ⟨r5, hx6, hF⟩ := bind_some hF
  refine C_x1 (.cons .h (.rd .h rfl (.rd (.t .h) rfl .nil))) (XC_bor frz_own (fun _ => .nil) (X_callS cf195 (.cons (.tmp rfl rfl) (.cons (.tmp rfl rfl) .nil)) (g_slices_IndexFunc_impl_Fact_impl_Fact_iadded1_ok a_l v0_0 k1 a_f v1_1 _ hx6))) (fun _ => ?_)
  refine Ca (.int .i64 r5) rfl rfl ?_
  refine C_nil (K_in (K_region (Cm (.int .i64 r5) rfl rfl ?_)))
  refine C_val (V_lss (i := r5) (j := 0) (.tmp rfl rfl) (.int _ _)) ?_
  refine C_nil (CW_cond (b := (decide ((r5 : Int) < 0))) (.tmp rfl rfl) (fun hb22 => ?_) (fun hb22 => ?_))
  · rw [if_pos hb22] at hF
    refine CW_region (Cm v0_0.v rfl rfl ?_)
    refine C_at .h (fun hp => V_lenR (l := a_l.length) sl40 (.tmp rfl rfl) (cown_len hp)) ?_
    refine Ca (.int .i64 (a_l.length : Int)) rfl rfl ?_
    refine C_nil (K_region (Cm v0_0.v rfl rfl ?_))
    refine Cm (.int .i64 (a_l.length : Int)) rfl rfl ?_
    refine C_at (.t .h) (fun hp => V_loadBox ag114 ty114.sz rfl (.tmp rfl rfl) hp.2 rfl) ?_
    obtain ⟨r8, hx9, hF⟩ := bind_some hF
    refine C_x1 (.rd (.t (.t .h)) rfl .nil) (X_callS cf198 (.cons (.tmp rfl rfl) .nil) (i_copyFact_ok a_f v1_1 _ hx9)) (fun p10 => ?_)
    refine C_new rfl (N_buildSliceT (g := true) sl40 ty114 (.cons (.tmp rfl rfl) .nil) (vs := [(.agg [(.int .i64 r8.Rel), p10.1.v].toArray)]) rfl rfl rfl (by intro v hv; simp at hv; rcases hv with rfl <;> rfl)) (fun k11 => ?_)
    refine C_conv (.cons .h (.cons .h .nil)) (own_lit (Ro := ow114) (E := 114) (F := (p10.2 ++ [])) (xs := ([r8] : List Fact)) (MkL_cons mk114 MkL_nil apps) rfl rfl) apps ?_
    obtain ⟨r12, hx13, hF⟩ := bind_some hF
    refine C_x1 (.cons (.t .h) (.cons .h .nil)) (X_callS cf197 (.cons (.tmp rfl rfl) (.cons (.tmp rfl rfl) (.cons (.tmp rfl rfl) .nil))) (g_slices_Insert_impl_Fact_impl_Fact_ok a_l v0_0 F0_0 (a_l.length : Int) ([r8] : List Fact) (⟨(some ⟨k11, 0, none⟩), 1, 1⟩) (k11 :: (p10.2 ++ [])) _ hx13)) (fun p14 => ?_)
    refine Ca p14.1.v rfl rfl ?_
    refine C_nil (CW_ret ?_)
    obtain rfl := Option.some.inj hF
    exact End_ret (p14.1, p14.2) (.tmp rfl rfl .nil) rfl (.sel (.cons .h .nil))
  rw [if_neg (by rw [hb22]; exact Bool.false_ne_true)] at hF
  refine CW_skip (K_region (Cm v0_0.v rfl rfl ?_))
  refine Cm (.int .i64 r5) rfl rfl ?_
  refine C_at (.t .h) (fun hp => V_loadBox ag114 ty114.sz rfl (.tmp rfl rfl) hp.2 rfl) ?_
  obtain ⟨r15, hx16, hF⟩ := bind_some hF
  refine C_x1 (.rd (.t (.t .h)) rfl .nil) (X_callS cf198 (.cons (.tmp rfl rfl) .nil) (i_copyFact_ok a_f v1_1 _ hx16)) (fun p17 => ?_)
  refine C_new rfl (N_buildSliceT (g := true) sl40 ty114 (.cons (.tmp rfl rfl) .nil) (vs := [(.agg [(.int .i64 r15.Rel), p17.1.v].toArray)]) rfl rfl rfl (by intro v hv; simp at hv; rcases hv with rfl <;> rfl)) (fun k18 => ?_)
  refine C_conv (.cons .h (.cons .h .nil)) (own_lit (Ro := ow114) (E := 114) (F := (p17.2 ++ [])) (xs := ([r15] : List Fact)) (MkL_cons mk114 MkL_nil apps) rfl rfl) apps ?_
  obtain ⟨r19, hx20, hF⟩ := bind_some hF
  refine C_x1 (.cons (.t .h) (.cons .h .nil)) (X_callS cf197 (.cons (.tmp rfl rfl) (.cons (.tmp rfl rfl) (.cons (.tmp rfl rfl) .nil))) (g_slices_Insert_impl_Fact_impl_Fact_ok a_l v0_0 F0_0 r5 ([r15] : List Fact) (⟨(some ⟨k18, 0, none⟩), 1, 1⟩) (k18 :: (p17.2 ++ [])) _ hx20)) (fun p21 => ?_)
  refine Ca p21.1.v rfl rfl ?_
  refine C_nil (CW_ret ?_)
  obtain rfl := Option.some.inj hF
  exact End_ret (p21.1, p21.2) (.tmp rfl rfl .nil) rfl (.sel (.cons .h .nil))

/-! impl.bit -/
def i_bit (a_is : Bool) : Option (Int) :=
  if a_is then (
    some 1)
  else (
    some 0)
theorem i_bit_ok (a_is : Bool) (R : Int) (hF : i_bit a_is = some R) :
    Fw.Spec Tryz.prog 182 [(.bool a_is)] [] (fun _ : Unit => (.int .i64 R)) (fun _ => []) := by
  refine Spec_enter (n := 4) Tryz.func182 rfl rfl (rs := [.tmp 2]) rfl rfl rfl ?_
  intro H0 F0
  unfold i_bit at hF
  refine K_region (C_val (V_assign (v := (.int .i64 0)) (.int _ _)) ?_)
  refine C_nil (K_in (K_region (Cm (.bool a_is) rfl rfl ?_)))
  refine C_nil (CW_cond (b := a_is) (.tmp rfl rfl) (fun hb1 => ?_) (fun hb1 => ?_))
  · rw [if_pos hb1] at hF
    refine K_region (C_val (V_assign (v := (.int .i64 1)) (.int _ _)) ?_)
    refine C_nil (CW_ret ?_)
    obtain rfl := Option.some.inj hF
    exact End_ret () (.tmp rfl rfl .nil) rfl (.sel .nil)
  rw [if_neg (by rw [hb1]; exact Bool.false_ne_true)] at hF
  refine CW_skip (K_region (C_val (V_assign (v := (.int .i64 0)) (.int _ _)) ?_))
  refine C_nil (CW_ret ?_)
  obtain rfl := Option.some.inj hF
  exact End_ret () (.tmp rfl rfl .nil) rfl (.sel .nil)

/-! impl.Reached).told -/
def i_Reached_told_L4 (z255 : List Access) : List Fact → Nat → (List Fact) → (List Int) → Option ((List Fact) × (List Int) × (List Access))
  | [], k315, c306, c309 => some (c306, c309, z255)
  | x317 :: rest316, k315, c306, c309 => (i_added c306 x317).bind fun r328 =>
    (i_withValues c309 x317.Values).bind fun r331 =>
    i_Reached_told_L4 z255 rest316 (k315 + 1) r328 r331
def i_Reached_told_L1 (a_r : Reached) (a_l : List Method) (a_facts : List Fact) (r1 : (List Access) × Reached) : List Access → Nat → (List Fact) → (List Int) → (List Access) → Option (Bool × Reached)
  | [], k236, c224, c227, c230 => (i_bit (decide ((0 : Int) < (r1.1.length : Int)))).bind fun r245 =>
    some ((decide ((0 : Int) < (r1.1.length : Int))), ({ Facts := c224, Values := c227, Log := c230, Rounds := (IntKind.i64.wrap (a_r.Rounds + r245)) } : Reached))
  | x238 :: rest237, k236, c224, c227, c230 => ((app c230 ([x238] : List Access)).bind fun z255 =>
      (i_matches a_l a_facts x238).bind fun r258 =>
      i_Reached_told_L4 z255 r258 0 c224 c227).bind fun o248 =>
    match o248 with
    | (c335, c338, c341) => i_Reached_told_L1 a_r a_l a_facts r1 rest237 (k236 + 1) c335 c338 c341
def i_Reached_told (a_r : Reached) (a_l : List Method) (a_facts : List Fact) : Option (Bool × Reached) :=
  (i_Reached_open a_r a_l).bind fun r1 =>
  i_Reached_told_L1 a_r a_l a_facts r1 r1.1 0 r1.2.Facts r1.2.Values r1.2.Log
theorem i_Reached_told_ok (kq0 : Nat) (a_r : Reached) (v0_0 : Sv) (F0_0 : List Nat) (v0_1 : Sv) (F0_1 : List Nat) (v0_2 : Sv) (F0_2 : List Nat) (a_l : List Method) (v1_0 : Sv) (a_facts : List Fact) (v2_0 : Sv) (R : Bool × Reached) (hF : i_Reached_told a_r a_l a_facts = some R) :
    Fw.Spec Tryz.prog 135 [(.pointer (some ⟨kq0, 0, some 0⟩)), v1_0.v, v2_0.v] [cbox kq0 110 (.agg [v0_0.v, v0_1.v, v0_2.v, (.int .i64 a_r.Rounds)].toArray), cown (OwnS 114 ow114) F0_0 v0_0.v a_r.Facts, cown (OwnS 3 (roE rdInt)) F0_1 v0_1.v a_r.Values, cown (OwnS 80 (roE rd80)) F0_2 v0_2.v a_r.Log, crd (RdS 112 rd112) v1_0.v a_l, crd (RdS 114 rd114) v2_0.v a_facts] (fun _ : Sv × List Nat × Sv × List Nat × Sv × List Nat => (.bool R.1)) (fun p => [cbox kq0 110 (.agg [p.1.v, p.2.2.1.v, p.2.2.2.2.1.v, (.int .i64 R.2.Rounds)].toArray), cown (OwnS 114 ow114) p.2.1 p.1.v R.2.Facts, cown (OwnS 3 (roE rdInt)) p.2.2.2.1 p.2.2.1.v R.2.Values, cown (OwnS 80 (roE rd80)) p.2.2.2.2.2 p.2.2.2.2.1.v R.2.Log]) := by
  refine Spec_enter (n := 77) Tryz.func135 rfl rfl (rs := [.tmp 6]) rfl rfl rfl ?_
  intro H0 F0
  unfold i_Reached_told at hF
  refine K_region (C_val (V_assign (v := (.bool false)) (.bool _)) ?_)
  refine C_nil (K_region (Cm (.pointer (some ⟨kq0, 0, some 0⟩)) rfl rfl ?_))
  refine C_val (V_nilCheck (v := (.pointer (some ⟨kq0, 0, some 0⟩))) rfl (.tmp rfl rfl)) ?_
  refine C_at .h (fun hp => V_loadBox ag110 ty110.sz rfl (.tmp rfl rfl) hp.2 rfl) ?_
  refine Cm v1_0.v rfl rfl ?_
  obtain ⟨r1, hx2, hF⟩ := bind_some hF
  refine C_x4 (.cons (.t .h) (.cons (.t .h) (.cons (.t .h) (.rd (.t .h) rfl .nil)))) (X_callS cf180 (.cons (.tmp rfl rfl) (.cons (.tmp rfl rfl) .nil)) (i_Reached_open_ok a_r v0_0 F0_0 v0_1 F0_1 v0_2 F0_2 a_l v1_0 _ hx2)) (fun p3 => ?_)
  refine Ca p3.1.v rfl rfl ?_
  refine C_nil (K_in (K_region (Cm p3.1.v rfl rfl ?_)))
  refine C_at .h (fun hp => V_lenR (l := r1.1.length) sl46 (.tmp rfl rfl) (cown_len hp)) ?_
  refine C_val (V_move (v := (.int .i64 0)) (.int _ _)) ?_
  refine C_nil (CW_block (K_frz .h frz_own ?_))
  refine CW_loop (m := r1.1.length) (fun m234 f' cs' => ∃ (g : Fr) (k236 : Nat) (rest237 : List Access) (c224 : List Fact) (c227 : List Int) (c230 : List Access) (v225 : Sv) (F226 : List Nat) (v228 : Sv) (F229 : List Nat) (v231 : Sv) (F232 : List Nat), m234 = rest237.length ∧ f' = updL g [(0, (.pointer (some ⟨kq0, 0, some 0⟩))), (1, v1_0.v), (2, v2_0.v), (7, p3.1.v), (17, p3.1.v), (18, (.int .i64 (r1.1.length : Int))), (19, (.int .i64 (k236 : Int)))] ∧ List.drop k236 r1.1 = rest237 ∧ Ent cs' [cbox kq0 110 (.agg [v225.v, v228.v, v231.v, (.int .i64 a_r.Rounds)].toArray), cown (OwnS 114 ow114) F226 v225.v c224, cown (OwnS 3 (roE rdInt)) F229 v228.v c227, cown (OwnS 80 (roE rd80)) F232 v231.v c230, crd (RdS 112 rd112) v1_0.v a_l, crd (RdS 114 rd114) v2_0.v a_facts, crd (RdS 80 rd80) p3.1.v r1.1] ∧ i_Reached_told_L1 a_r a_l a_facts r1 rest237 k236 c224 c227 c230 = some R) ⟨_, 0, _, _, _, _, v0_0, p3.2.2.1, v0_1, p3.2.2.2.1, v0_2, p3.2.2.2.2, rfl, (EqL.cons rfl (EqL.cons rfl (EqL.cons rfl (EqL.cons rfl (EqL.cons rfl (EqL.cons rfl (EqL.cons rfl (EqL.nil)))))))).eq, rfl, (.sel (.cons (.t (.t (.t (.t .h)))) (.cons (.t .h) (.cons (.t .h) (.cons (.t .h) (.rd (.t .h) rfl (.rd (.t (.t .h)) rfl (.rd .h rfl .nil)))))))), hF⟩ ?_
  clear hF
  rintro m234 _ _ ⟨g235, k236, rest237, c224, c227, c230, v225, F226, v228, F229, v231, F232, rfl, rfl, hd239, hE, hF⟩
  refine K_ent hE ?_
  clear hE
  refine K_pure (c := crd (RdS 80 rd80) p3.1.v r1.1) (.t (.t (.t (.t (.t (.t .h)))))) crd_bound (fun hbd244 => ?_)
  rcases rest237 with _ | ⟨x238, rest237⟩
  · have hk240 := List.drop_eq_nil_iff.1 hd239
    have hfe243 : (decide (((k236 : Int) : Int) < (r1.1.length : Int))) = false := decide_eq_false (by omega)
    rw [i_Reached_told_L1] at hF
    refine K_region (C_val (V_lss (i := (k236 : Int)) (j := (r1.1.length : Int)) (.tmp rfl rfl) (.tmp rfl rfl)) ?_)
    refine C_nil (K_in (CW_cond (b := (decide (((k236 : Int) : Int) < (r1.1.length : Int)))) (.tmp rfl rfl) (fun hb => absurd (hfe243.symm.trans hb) (by decide)) (fun _ => ?_)))
    refine CW_exit ?_
    iterate 2 refine CThen_exit ?_
    refine CIn_self (K_draw [0, 1, 2, 3, 4, 5, 6, 7, 8, 9, 10, 11] [0, 1, 3, 7, 0, 16, 48, 112, 255, 511, 1023, 2047] [7, 11] mixed (by decide +kernel) ?_)
    refine Dm (.pointer (some ⟨kq0, 0, some 0⟩)) rfl rfl rfl rfl ?_
    refine D_val rfl .no (fun ha => V_nilCheck (v := (.pointer (some ⟨kq0, 0, some 0⟩))) rfl (EN ha (.tmp rfl rfl) rfl)) ?_
    refine D_val rfl .no (fun ha => V_fieldAddr (off := 3) fd110_3 (EN ha (.tmp rfl rfl) rfl)) ?_
    refine D_atO rfl .no .h (fun ha hp => V_load (v := (.int .i64 a_r.Rounds)) ag3 (EN ha (.tmp rfl rfl) rfl) hp.2 rfl rfl) ?_
    refine Dm p3.1.v rfl rfl rfl rfl ?_
    refine D_at rfl .no (.t (.t (.t (.t (.t (.t .h)))))) rfl (fun ha hp => V_lenR (l := r1.1.length) sl46 (EN ha (.tmp rfl rfl) rfl) (crd_len hp)) ?_
    refine D_val rfl .no (fun ha => V_gtr (i := (r1.1.length : Int)) (j := 0) (EN ha (.tmp rfl rfl) rfl) (EN ha (.int _ _) rfl)) ?_
    obtain ⟨r245, hx246, hF⟩ := bind_some hF
    refine D_act0 rfl rfl .no .nil (.own .h (fun _ h => h) .nil) (fun ha => X_callS cf182 (.cons (EN ha (.tmp rfl rfl) rfl) .nil) (i_bit_ok (decide ((0 : Int) < (r1.1.length : Int))) _ hx246)) (fun _ => ?_)
    refine D_val rfl .no (fun ha => V_add (i := a_r.Rounds) (j := r245) (EN ha (.tmp rfl rfl) rfl) (EN ha (.tmp rfl rfl) rfl)) ?_
    refine D_val rfl .no (fun ha => V_nilCheck (v := (.pointer (some ⟨kq0, 0, some 0⟩))) rfl (EN ha (.tmp rfl rfl) rfl)) ?_
    refine D_val rfl .no (fun ha => V_fieldAddr (off := 3) fd110_3 (EN ha (.tmp rfl rfl) rfl)) ?_
    refine D_act1 rfl rfl .no (.cons .h .nil) (.dep rfl .nil) (fun ha => X_storeB (e' := (.agg [v225.v, v228.v, v231.v, (.int .i64 (IntKind.i64.wrap (a_r.Rounds + r245)))].toArray)) (v := (.int .i64 (IntKind.i64.wrap (a_r.Rounds + r245)))) ty3.sz (EN ha (.tmp rfl rfl) rfl) (EN ha (.tmp rfl rfl) rfl) rfl rfl rfl rfl rfl) (fun _ => ?_)
    refine D_nil (K_region (Cm p3.1.v rfl rfl ?_))
    refine C_at (.t (.t (.t (.t (.t (.t .h)))))) (fun hp => V_lenR (l := r1.1.length) sl46 (.tmp rfl rfl) (crd_len hp)) ?_
    refine C_val (V_gtr (i := (r1.1.length : Int)) (j := 0) (.tmp rfl rfl) (.int _ _)) ?_
    refine Ca (.bool (decide ((0 : Int) < (r1.1.length : Int)))) rfl rfl ?_
    refine C_nil (CW_ret ?_)
    obtain rfl := Option.some.inj hF
    exact End_ret (v225, F226, v228, F229, v231, F232) (.tmp rfl rfl .nil) rfl (.sel (.cons .h (.cons .h (.cons .h (.cons .h .nil)))))
  obtain ⟨hk240, hx241, hd242⟩ := drop_cons hd239
  have hfe243 : (decide (((k236 : Int) : Int) < (r1.1.length : Int))) = true := decide_eq_true (by omega)
  rw [i_Reached_told_L1] at hF
  refine K_region (C_val (V_lss (i := (k236 : Int)) (j := (r1.1.length : Int)) (.tmp rfl rfl) (.tmp rfl rfl)) ?_)
  refine C_nil (K_in (CW_cond (b := (decide (((k236 : Int) : Int) < (r1.1.length : Int)))) (.tmp rfl rfl) (fun _ => ?_) (fun hb => absurd (hfe243.symm.trans hb) (by decide))))
  refine CW_skip ?_
  obtain ⟨o248, hio248, hO249⟩ := bind_some hF
  refine K_cut (fun f' cs' => ∃ (c335 : List Fact) (c338 : List Int) (c341 : List Access) (v336 : Sv) (F337 : List Nat) (v339 : Sv) (F340 : List Nat) (v342 : Sv) (F343 : List Nat) (g : Fr), o248 = (c335, c338, c341) ∧ f' = updL g [(0, (.pointer (some ⟨kq0, 0, some 0⟩))), (1, v1_0.v), (2, v2_0.v), (7, p3.1.v), (17, p3.1.v), (18, (.int .i64 (r1.1.length : Int))), (19, (.int .i64 (k236 : Int)))] ∧ Ent cs' [cbox kq0 110 (.agg [v336.v, v339.v, v342.v, (.int .i64 a_r.Rounds)].toArray), cown (OwnS 114 ow114) F337 v336.v c335, cown (OwnS 3 (roE rdInt)) F340 v339.v c338, cown (OwnS 80 (roE rd80)) F343 v342.v c341, crd (RdS 112 rd112) v1_0.v a_l, crd (RdS 114 rd114) v2_0.v a_facts, crd (RdS 80 rd80) p3.1.v r1.1]) ?_ ?_
  · replace hF := hio248
    refine CW_block (K_region (C_idx (a := x238) sl46 ty80.sz (.tmp rfl rfl) (.tmp rfl rfl) (.t (.t (.t (.t (.t (.t .h)))))) (Int.natCast_nonneg k236) hx241 (fun k250 j251 => ?_)))
    refine C_ldA1 (ul80_0_80 x238) ag80 ty80.sz rfl (.tmp rfl rfl) .h la80_0_80 (fun p252 => ?_)
    refine C_new rfl (N_allocT (g := true) ty80 rfl rfl) (fun k253 => ?_)
    refine C_x1 (.cons .h .nil) (X_storeB (e' := (.agg [(.int .i64 x238.Method), p252.v].toArray)) (v := (.agg [(.int .i64 x238.Method), p252.v].toArray)) ty80.sz (.tmp rfl rfl) (.tmp rfl rfl) rfl rfl rfl rfl rfl) (fun _ => ?_)
    refine C_nil (K_draw [0, 1, 2, 3, 4, 5, 6, 7, 8, 9, 10] [0, 0, 2, 6, 14, 0, 32, 126, 255, 511, 1023] [7, 10] mixed (by decide +kernel) ?_)
    iterate 2 refine Dm (.pointer (some ⟨kq0, 0, some 0⟩)) rfl rfl rfl rfl ?_
    refine D_val rfl .no (fun ha => V_nilCheck (v := (.pointer (some ⟨kq0, 0, some 0⟩))) rfl (EN ha (.tmp rfl rfl) rfl)) ?_
    refine D_val rfl .no (fun ha => V_fieldAddr (off := 2) fd110_2 (EN ha (.tmp rfl rfl) rfl)) ?_
    refine D_atO rfl .no (.t (.t (.t .h))) (fun ha hp => V_load (v := v231.v) ag46 (EN ha (.tmp rfl rfl) rfl) hp.2 rfl rfl) ?_
    refine D_atO rfl .no .h (fun ha hp => V_loadBox ag80 ty80.sz rfl (EN ha (.tmp rfl rfl) rfl) hp.2 rfl) ?_
    refine D_new rfl .no rfl (fun ha => N_buildSliceT (g := true) (len := 1) (parts := [(0, .tmp 28)]) sl46 ty80 (.cons (EN ha (.tmp rfl rfl) rfl) .nil) (vs := [(.agg [(.int .i64 x238.Method), p252.v].toArray)]) rfl rfl rfl (by intro v hv; simp at hv; rcases hv with rfl <;> rfl)) (fun k254 => ?_)
    refine D_conv (.cons .h (.rd (.t .h) rfl .nil)) (own_lit (Ro := (roE rd80)) (E := 80) (F := ([] ++ [])) (xs := ([x238] : List Access)) (MkL_cons mr80 MkL_nil apps) rfl rfl) apps ?_
    obtain ⟨z255, hx256, hF⟩ := bind_some hF
    refine D_act1 rfl rfl .no (.cons (.t (.t (.t (.t (.t (.t (.t .h))))))) (.cons .h .nil)) (.dep rfl (.dep rfl (.dep rfl .nil))) (fun ha => X_appendO (Ro := (roE rd80)) sl46 ni46 ty80 rfl rfl rfl (EN ha (.tmp rfl rfl) rfl) (EN ha (.tmp rfl rfl) rfl) hx256 src_own) (fun p257 => ?_)
    refine D_val rfl .no (fun ha => V_nilCheck (v := (.pointer (some ⟨kq0, 0, some 0⟩))) rfl (EN ha (.tmp rfl rfl) rfl)) ?_
    refine D_val rfl .no (fun ha => V_fieldAddr (off := 2) fd110_2 (EN ha (.tmp rfl rfl) rfl)) ?_
    refine D_act1 rfl rfl .no (.cons (.t (.t (.t (.t .h)))) .nil) (.dep rfl (.dep rfl (.dep rfl .nil))) (fun ha => X_storeB (e' := (.agg [v225.v, v228.v, p257.1.v, (.int .i64 a_r.Rounds)].toArray)) ty46.sz (EN ha (.tmp rfl rfl) rfl) (EN ha (.tmp rfl rfl) rfl) rfl rfl rfl rfl rfl) (fun _ => ?_)
    refine D_nil (K_region (Cm v1_0.v rfl rfl ?_))
    refine Cm v2_0.v rfl rfl ?_
    refine C_at (.t (.t .h)) (fun hp => V_loadBox ag80 ty80.sz rfl (.tmp rfl rfl) hp.2 rfl) ?_
    obtain ⟨r258, hx259, hF⟩ := bind_some hF
    refine C_x1 (.rd (.t (.t (.t (.t (.t (.t (.t .h))))))) rfl (.rd (.t (.t (.t (.t (.t (.t (.t (.t .h)))))))) rfl (.rd (.t (.t (.t .h))) rfl .nil))) (X_callS cf181 (.cons (.tmp rfl rfl) (.cons (.tmp rfl rfl) (.cons (.tmp rfl rfl) .nil))) (i_matches_ok a_l v1_0 a_facts v2_0 x238 p252 _ hx259)) (fun p260 => ?_)
    refine C_at .h (fun hp => V_lenR (l := r258.length) sl40 (.tmp rfl rfl) (cown_len hp)) ?_
    refine C_val (V_move (v := (.int .i64 0)) (.int _ _)) ?_
    refine C_nil (CW_block (K_frz .h frz_own ?_))
    refine CW_loop (m := r258.length) (fun m313 f' cs' => ∃ (g : Fr) (k315 : Nat) (rest316 : List Fact) (c306 : List Fact) (c309 : List Int) (v307 : Sv) (F308 : List Nat) (v310 : Sv) (F311 : List Nat), m313 = rest316.length ∧ f' = updL g [(0, (.pointer (some ⟨kq0, 0, some 0⟩))), (1, v1_0.v), (2, v2_0.v), (7, p3.1.v), (17, p3.1.v), (18, (.int .i64 (r1.1.length : Int))), (19, (.int .i64 (k236 : Int))), (36, p260.1.v), (37, (.int .i64 (r258.length : Int))), (38, (.int .i64 (k315 : Int)))] ∧ List.drop k315 r258 = rest316 ∧ Ent cs' [cbox kq0 110 (.agg [v307.v, v310.v, p257.1.v, (.int .i64 a_r.Rounds)].toArray), cown (OwnS 114 ow114) F308 v307.v c306, cown (OwnS 3 (roE rdInt)) F311 v310.v c309, cown (OwnS 80 (roE rd80)) p257.2 p257.1.v z255, crd (RdS 112 rd112) v1_0.v a_l, crd (RdS 114 rd114) v2_0.v a_facts, crd (RdS 80 rd80) p3.1.v r1.1, crd (RdS 114 rd114) p260.1.v r258] ∧ i_Reached_told_L4 z255 rest316 k315 c306 c309 = some o248) ⟨_, 0, _, _, _, v225, F226, v228, F229, rfl, (EqL.cons rfl (EqL.cons rfl (EqL.cons rfl (EqL.cons rfl (EqL.cons rfl (EqL.cons rfl (EqL.cons rfl (EqL.cons rfl (EqL.cons rfl (EqL.cons rfl (EqL.nil))))))))))).eq, rfl, (.sel (.cons (.t .h) (.cons (.t (.t (.t (.t (.t .h))))) (.cons (.t (.t (.t (.t (.t .h))))) (.cons (.t .h) (.rd (.t (.t (.t (.t .h)))) rfl (.rd (.t (.t (.t (.t (.t .h))))) rfl (.rd (.t (.t (.t (.t (.t (.t .h)))))) rfl (.rd .h rfl .nil))))))))), hF⟩ ?_
    clear hF
    rintro m313 _ _ ⟨g314, k315, rest316, c306, c309, v307, F308, v310, F311, rfl, rfl, hd318, hE, hF⟩
    refine K_ent hE ?_
    clear hE
    refine K_pure (c := crd (RdS 114 rd114) p260.1.v r258) (.t (.t (.t (.t (.t (.t (.t .h))))))) crd_bound (fun hbd323 => ?_)
    rcases rest316 with _ | ⟨x317, rest316⟩
    · have hk319 := List.drop_eq_nil_iff.1 hd318
      have hfe322 : (decide (((k315 : Int) : Int) < (r258.length : Int))) = false := decide_eq_false (by omega)
      rw [i_Reached_told_L4] at hF
      refine K_region (C_val (V_lss (i := (k315 : Int)) (j := (r258.length : Int)) (.tmp rfl rfl) (.tmp rfl rfl)) ?_)
      refine C_nil (K_in (CW_cond (b := (decide (((k315 : Int) : Int) < (r258.length : Int)))) (.tmp rfl rfl) (fun hb => absurd (hfe322.symm.trans hb) (by decide)) (fun _ => ?_)))
      refine CW_exit ?_
      iterate 2 refine CThen_exit ?_
      refine CIn_self ?_
      obtain rfl := Option.some.inj hF
      exact ⟨_, _, _, v307, F308, v310, F311, p257.1, p257.2, _, rfl, (EqL.cons rfl (EqL.cons rfl (EqL.cons rfl (EqL.cons rfl (EqL.cons rfl (EqL.cons rfl (EqL.cons rfl (EqL.nil)))))))).eq, (.sel (.cons .h (.cons .h (.cons .h (.cons .h (.rd .h rfl (.rd (.t .h) rfl (.rd (.t (.t .h)) rfl .nil))))))))⟩
    obtain ⟨hk319, hx320, hd321⟩ := drop_cons hd318
    have hfe322 : (decide (((k315 : Int) : Int) < (r258.length : Int))) = true := decide_eq_true (by omega)
    rw [i_Reached_told_L4] at hF
    refine K_region (C_val (V_lss (i := (k315 : Int)) (j := (r258.length : Int)) (.tmp rfl rfl) (.tmp rfl rfl)) ?_)
    refine C_nil (K_in (CW_cond (b := (decide (((k315 : Int) : Int) < (r258.length : Int)))) (.tmp rfl rfl) (fun _ => ?_) (fun hb => absurd (hfe322.symm.trans hb) (by decide))))
    refine CW_skip (K_block (K_region (C_idx (a := x317) sl40 ty114.sz (.tmp rfl rfl) (.tmp rfl rfl) (.t (.t (.t (.t (.t (.t (.t .h))))))) (Int.natCast_nonneg k315) hx320 (fun k324 j325 => ?_))))
    refine C_ldA1 (ul114_0_114 x317) ag114 ty114.sz rfl (.tmp rfl rfl) .h la114_0_114 (fun p326 => ?_)
    refine C_new rfl (N_allocT (g := true) ty114 rfl rfl) (fun k327 => ?_)
    refine C_x1 (.cons .h .nil) (X_storeB (e' := (.agg [(.int .i64 x317.Rel), p326.v].toArray)) (v := (.agg [(.int .i64 x317.Rel), p326.v].toArray)) ty114.sz (.tmp rfl rfl) (.tmp rfl rfl) rfl rfl rfl rfl rfl) (fun _ => ?_)
    refine C_nil (K_draw [0, 1, 2, 3, 4, 5, 6, 7, 8, 9] [0, 0, 2, 6, 14, 0, 62, 127, 255, 511] [6, 9] mixed (by decide +kernel) ?_)
    iterate 2 refine Dm (.pointer (some ⟨kq0, 0, some 0⟩)) rfl rfl rfl rfl ?_
    refine D_val rfl .no (fun ha => V_nilCheck (v := (.pointer (some ⟨kq0, 0, some 0⟩))) rfl (EN ha (.tmp rfl rfl) rfl)) ?_
    refine D_val rfl .no (fun ha => V_fieldAddr (off := 0) fd110_0 (EN ha (.tmp rfl rfl) rfl)) ?_
    refine D_atO rfl .no (.t (.t (.t .h))) (fun ha hp => V_load (v := v307.v) ag40 (EN ha (.tmp rfl rfl) rfl) hp.2 rfl rfl) ?_
    refine D_atO rfl .no .h (fun ha hp => V_loadBox ag114 ty114.sz rfl (EN ha (.tmp rfl rfl) rfl) hp.2 rfl) ?_
    obtain ⟨r328, hx329, hF⟩ := bind_some hF
    refine D_act1 rfl rfl .no (.cons (.t (.t (.t (.t .h)))) (.rd (.t .h) rfl .nil)) (.dep rfl (.dep rfl .nil)) (fun ha => X_callS cf144 (.cons (EN ha (.tmp rfl rfl) rfl) (.cons (EN ha (.tmp rfl rfl) rfl) .nil)) (i_added_ok c306 v307 F308 x317 p326 _ hx329)) (fun p330 => ?_)
    refine D_val rfl .no (fun ha => V_nilCheck (v := (.pointer (some ⟨kq0, 0, some 0⟩))) rfl (EN ha (.tmp rfl rfl) rfl)) ?_
    refine D_val rfl .no (fun ha => V_fieldAddr (off := 0) fd110_0 (EN ha (.tmp rfl rfl) rfl)) ?_
    refine D_act1 rfl rfl .no (.cons (.t (.t (.t (.t .h)))) .nil) (.dep rfl (.dep rfl .nil)) (fun ha => X_storeB (e' := (.agg [p330.1.v, v310.v, p257.1.v, (.int .i64 a_r.Rounds)].toArray)) ty40.sz (EN ha (.tmp rfl rfl) rfl) (EN ha (.tmp rfl rfl) rfl) rfl rfl rfl rfl rfl) (fun _ => ?_)
    refine D_nil (CW_draw [0, 1, 2, 3, 4, 5, 6, 7, 8, 9, 10] [0, 0, 2, 6, 14, 0, 32, 126, 255, 511, 1023] [7, 10] mixed (by decide +kernel) ?_)
    iterate 2 refine Dm (.pointer (some ⟨kq0, 0, some 0⟩)) rfl rfl rfl rfl ?_
    refine D_val rfl .no (fun ha => V_nilCheck (v := (.pointer (some ⟨kq0, 0, some 0⟩))) rfl (EN ha (.tmp rfl rfl) rfl)) ?_
    refine D_val rfl .no (fun ha => V_fieldAddr (off := 1) fd110_1 (EN ha (.tmp rfl rfl) rfl)) ?_
    refine D_atO rfl .no .h (fun ha hp => V_load (v := v310.v) ag22 (EN ha (.tmp rfl rfl) rfl) hp.2 rfl rfl) ?_
    refine D_val rfl .no (fun ha => V_fieldAddr (off := 1) fd114_1 (EN ha (.tmp rfl rfl) rfl)) ?_
    refine D_atO rfl .no (.t (.t .h)) (fun ha hp => V_load (v := p326.v) ag22 (EN ha (.tmp rfl rfl) rfl) hp.2 rfl rfl) ?_
    obtain ⟨r331, hx332, hF⟩ := bind_some hF
    refine D_act2 rfl rfl .no (.cons (.t (.t (.t (.t (.t .h))))) (.rd (.t (.t (.t .h))) rfl .nil)) (.dep rfl (.dep rfl .nil)) (fun ha => XC_bor frz_own (fun _ => (.cons .nil)) (X_callS cf179 (.cons (EN ha (.tmp rfl rfl) rfl) (.cons (EN ha (.tmp rfl rfl) rfl) .nil)) (i_withValues_ok c309 v310 x317.Values p326 _ hx332))) (fun p333 => ?_)
    refine D_val rfl .no (fun ha => V_nilCheck (v := (.pointer (some ⟨kq0, 0, some 0⟩))) rfl (EN ha (.tmp rfl rfl) rfl)) ?_
    refine D_val rfl .no (fun ha => V_fieldAddr (off := 1) fd110_1 (EN ha (.tmp rfl rfl) rfl)) ?_
    refine D_act1 rfl rfl .no (.cons (.t (.t .h)) .nil) (.dep rfl (.dep rfl .nil)) (fun ha => X_storeB (e' := (.agg [p330.1.v, p333.1.v, p257.1.v, (.int .i64 a_r.Rounds)].toArray)) ty22.sz (EN ha (.tmp rfl rfl) rfl) (EN ha (.tmp rfl rfl) rfl) rfl rfl rfl rfl rfl) (fun _ => ?_)
    refine D_nil (CW_region (C_val (V_add (i := (k315 : Int)) (j := 1) (.tmp rfl rfl) (.int _ _)) ?_))
    refine Cm (.int .i64 (IntKind.i64.wrap ((k315 : Int) + 1))) rfl rfl ?_
    refine C_nil ?_
    have hw334 : IntKind.i64.wrap ((k315 : Int) + 1) = ((k315 + 1 : Nat) : Int) := by rw [wrap_in (by omega) (by omega)]; rfl
    rw [hw334]
    exact ⟨_, Nat.lt_succ_self _, _, k315 + 1, rest316, _, _, p330.1, p330.2, p333.1, p333.2, rfl, (EqL.cons rfl (EqL.cons rfl (EqL.cons rfl (EqL.cons rfl (EqL.cons rfl (EqL.cons rfl (EqL.cons rfl (EqL.cons rfl (EqL.cons rfl (EqL.cons rfl (EqL.nil))))))))))).eq, hd321, (.sel (.cons .h (.cons (.t (.t .h)) (.cons (.t .h) (.cons (.t (.t (.t (.t .h)))) (.rd (.t (.t (.t (.t .h)))) rfl (.rd (.t (.t (.t (.t (.t .h))))) rfl (.rd (.t (.t (.t (.t (.t (.t .h)))))) rfl (.rd (.t (.t (.t (.t (.t (.t (.t .h))))))) rfl .nil))))))))), hF⟩
  rintro _ _ ⟨c335, c338, c341, v336, F337, v339, F340, v342, F343, g345, rfl, rfl, hE⟩
  replace hF := hO249
  clear hO249
  try dsimp only at hF
  refine K_ent hE ?_
  refine CW_region (C_val (V_add (i := (k236 : Int)) (j := 1) (.tmp rfl rfl) (.int _ _)) ?_)
  refine Cm (.int .i64 (IntKind.i64.wrap ((k236 : Int) + 1))) rfl rfl ?_
  refine C_nil ?_
  have hw344 : IntKind.i64.wrap ((k236 : Int) + 1) = ((k236 + 1 : Nat) : Int) := by rw [wrap_in (by omega) (by omega)]; rfl
  rw [hw344]
  exact ⟨_, Nat.lt_succ_self _, _, k236 + 1, rest237, _, _, _, v336, F337, v339, F340, v342, F343, rfl, (EqL.cons rfl (EqL.cons rfl (EqL.cons rfl (EqL.cons rfl (EqL.cons rfl (EqL.cons rfl (EqL.cons rfl (EqL.nil)))))))).eq, hd242, (.sel (.cons .h (.cons .h (.cons .h (.cons .h (.rd .h rfl (.rd (.t .h) rfl (.rd (.t (.t .h)) rfl .nil)))))))), hF⟩

/-! impl.reach -/
def i_reach_L1 (a_l : List Method) (a_facts : List Fact) : Nat → (List Fact) → (List Int) → (List Access) → Int → Int → Option (Reached)
  | 0, _, _, _, _, _ => none
  | m51 + 1, c40, c43, c46, c49, c50 => if (decide ((c50 : Int) < 40)) then (
      (i_Reached_told ({ Facts := c40, Values := c43, Log := c46, Rounds := c49 } : Reached) a_l a_facts).bind fun r59 =>
      if (!r59.1) then (
        some r59.2)
      else (
        i_reach_L1 a_l a_facts m51 r59.2.Facts r59.2.Values r59.2.Log r59.2.Rounds (IntKind.i64.wrap (c50 + 1))))
    else (
      some ({ Facts := c40, Values := c43, Log := c46, Rounds := c49 } : Reached))
def i_reach (a_l : List Method) (a_facts : List Fact) (a_seeds : List Int) : Option (Reached) :=
  (i_StartReach a_seeds).bind fun r2 =>
  i_reach_L1 a_l a_facts (((40 : Int) - 0).toNat + 2) r2.Facts r2.Values r2.Log r2.Rounds 0
theorem i_reach_ok (a_l : List Method) (v0_0 : Sv) (a_facts : List Fact) (v1_0 : Sv) (a_seeds : List Int) (v2_0 : Sv) (R : Reached) (hF : i_reach a_l a_facts a_seeds = some R) :
    Fw.Spec Tryz.prog 71 [v0_0.v, v1_0.v, v2_0.v] [crd (RdS 112 rd112) v0_0.v a_l, crd (RdS 114 rd114) v1_0.v a_facts, crd (RdS 3 rdInt) v2_0.v a_seeds] (fun p : Sv × List Nat × Sv × List Nat × Sv × List Nat => (.agg [p.1.v, p.2.2.1.v, p.2.2.2.2.1.v, (.int .i64 R.Rounds)].toArray)) (fun p => [cown (OwnS 114 ow114) p.2.1 p.1.v R.Facts, cown (OwnS 3 (roE rdInt)) p.2.2.2.1 p.2.2.1.v R.Values, cown (OwnS 80 (roE rd80)) p.2.2.2.2.2 p.2.2.2.2.1.v R.Log]) := by
  refine Spec_enter (n := 18) Tryz.func71 rfl rfl (rs := [.cell 6 110]) rfl rfl rfl ?_
  intro H0 F0
  unfold i_reach at hF
  refine K_region (C_new rfl (N_allocT (g := true) ty110 rfl rfl) (fun k1 => ?_))
  refine C_nil (K_region (Cm v2_0.v rfl rfl ?_))
  obtain ⟨r2, hx3, hF⟩ := bind_some hF
  refine C_x3 (.rd (.t (.t (.t .h))) rfl .nil) (X_callS cf134 (.cons (.tmp rfl rfl) .nil) (i_StartReach_ok a_seeds v2_0 _ hx3)) (fun p4 => ?_)
  refine C_new rfl (N_allocT (g := true) ty110 rfl rfl) (fun k5 => ?_)
  refine C_x1 (.cons .h .nil) (X_storeB (e' := (.agg [p4.1.v, p4.2.2.1.v, p4.2.2.2.2.1.v, (.int .i64 r2.Rounds)].toArray)) (v := (.agg [p4.1.v, p4.2.2.1.v, p4.2.2.2.2.1.v, (.int .i64 r2.Rounds)].toArray)) ty110.sz (.tmp rfl rfl) (.tmp rfl rfl) rfl rfl rfl rfl rfl) (fun _ => ?_)
  refine C_nil (K_in (K_region (C_val (V_move (v := (.int .i64 0)) (.int _ _)) ?_)))
  refine C_nil (CW_block (CW_loop (m := (((40 : Int) - 0).toNat + 2)) (fun m51 f' cs' => ∃ (g : Fr) (c40 : List Fact) (c43 : List Int) (c46 : List Access) (c49 : Int) (c50 : Int) (v41 : Sv) (F42 : List Nat) (v44 : Sv) (F45 : List Nat) (v47 : Sv) (F48 : List Nat), f' = updL g [(0, v0_0.v), (1, v1_0.v), (6, (.pointer (some ⟨k1, 0, some 0⟩))), (7, (.pointer (some ⟨k5, 0, some 0⟩))), (10, (.int .i64 c50))] ∧ Ent cs' [crd (RdS 112 rd112) v0_0.v a_l, crd (RdS 114 rd114) v1_0.v a_facts, cbox k1 110 (.agg [(.slice none 0 0), (.slice none 0 0), (.slice none 0 0), (.int .i64 0)].toArray), cbox k5 110 (.agg [v41.v, v44.v, v47.v, (.int .i64 c49)].toArray), cown (OwnS 114 ow114) F42 v41.v c40, cown (OwnS 3 (roE rdInt)) F45 v44.v c43, cown (OwnS 80 (roE rd80)) F48 v47.v c46] ∧ i_reach_L1 a_l a_facts m51 c40 c43 c46 c49 c50 = some R) ⟨_, _, _, _, _, _, p4.1, p4.2.1, p4.2.2.1, p4.2.2.2.1, p4.2.2.2.2.1, (p4.2.2.2.2.2.take 1), (EqL.cons rfl (EqL.cons rfl (EqL.cons rfl (EqL.cons rfl (EqL.cons rfl (EqL.nil)))))).eq, (.half (.t (.t (.t .h))) (.sel (.rd (.t (.t (.t (.t (.t .h))))) rfl (.rd (.t (.t (.t (.t (.t (.t .h)))))) rfl (.cons (.t (.t (.t (.t .h)))) (.cons (.t .h) (.cons (.t .h) (.cons (.t .h) (.cons .h .nil))))))))), hF⟩ ?_))
  clear hF
  rintro m51 _ _ ⟨g52, c40, c43, c46, c49, c50, v41, F42, v44, F45, v47, F48, rfl, hE, hF⟩
  refine K_ent hE ?_
  clear hE
  rcases m51 with _ | m51
  · rw [i_reach_L1] at hF
    exact absurd hF (by simp)
  rw [i_reach_L1] at hF
  refine K_region (C_val (V_lss (i := c50) (j := 40) (.tmp rfl rfl) (.int _ _)) ?_)
  refine C_nil (K_in (CW_cond (b := (decide ((c50 : Int) < 40))) (.tmp rfl rfl) (fun hb63 => ?_) (fun hb63 => ?_)))
  · rw [if_pos hb63] at hF
    refine CW_skip (K_block (K_region (Cm v0_0.v rfl rfl ?_)))
    refine Cm v1_0.v rfl rfl ?_
    obtain ⟨r59, hx60, hF⟩ := bind_some hF
    refine C_x4 (.cons (.t (.t (.t .h))) (.cons (.t (.t (.t .h))) (.cons (.t (.t (.t .h))) (.cons (.t (.t (.t .h))) (.rd .h rfl (.rd (.t .h) rfl .nil)))))) (X_callS cf135 (.cons (.tmp rfl rfl) (.cons (.tmp rfl rfl) (.cons (.tmp rfl rfl) .nil))) (i_Reached_told_ok k5 ({ Facts := c40, Values := c43, Log := c46, Rounds := c49 } : Reached) v41 F42 v44 F45 v47 F48 a_l v0_0 a_facts v1_0 _ hx60)) (fun p61 => ?_)
    refine C_val (V_not (b := r59.1) (.tmp rfl rfl)) ?_
    refine C_nil (CW_cond (b := (!r59.1)) (.tmp rfl rfl) (fun hb62 => ?_) (fun hb62 => ?_))
    · rw [if_pos hb62] at hF
      refine CW_exit (CIn_ne rfl ?_)
      iterate 2 refine CThen_exit ?_
      refine CIn_self (K_region (C_at .h (fun hp => V_loadBox ag110 ty110.sz rfl (.tmp rfl rfl) hp.2 rfl) ?_))
      refine C_x1 (.cons (.t (.t (.t (.t (.t (.t .h)))))) .nil) (X_storeB (e' := (.agg [p61.1.v, p61.2.2.1.v, p61.2.2.2.2.1.v, (.int .i64 r59.2.Rounds)].toArray)) (v := (.agg [p61.1.v, p61.2.2.1.v, p61.2.2.2.2.1.v, (.int .i64 r59.2.Rounds)].toArray)) ty110.sz (.tmp rfl rfl) (.tmp rfl rfl) rfl rfl rfl rfl rfl) (fun _ => ?_)
      refine C_nil (CW_ret ?_)
      obtain rfl := Option.some.inj hF
      exact End_ret (p61.1, p61.2.1, p61.2.2.1, p61.2.2.2.1, p61.2.2.2.2.1, p61.2.2.2.2.2) (.cellA rfl rfl .h rfl ag110 ty110.sz rfl rfl .nil) rfl (.sel (.cons (.t (.t .h)) (.cons (.t (.t .h)) (.cons (.t (.t .h)) .nil))))
    rw [if_neg (by rw [hb62]; exact Bool.false_ne_true)] at hF
    refine CW_skip (CW_region (C_val (V_add (i := c50) (j := 1) (.tmp rfl rfl) (.int _ _)) ?_))
    refine Cm (.int .i64 (IntKind.i64.wrap (c50 + 1))) rfl rfl ?_
    refine C_nil ?_
    exact ⟨m51, Nat.lt_succ_self _, _, _, _, _, _, _, p61.1, p61.2.1, p61.2.2.1, p61.2.2.2.1, p61.2.2.2.2.1, p61.2.2.2.2.2, (EqL.cons rfl (EqL.cons rfl (EqL.cons rfl (EqL.cons rfl (EqL.cons rfl (EqL.nil)))))).eq, (.sel (.rd (.t (.t (.t (.t .h)))) rfl (.rd (.t (.t (.t (.t (.t .h))))) rfl (.cons (.t (.t (.t (.t (.t (.t .h)))))) (.cons .h (.cons .h (.cons .h (.cons .h .nil)))))))), hF⟩
  rw [if_neg (by rw [hb63]; exact Bool.false_ne_true)] at hF
  refine CW_exit ?_
  iterate 2 refine CThen_exit ?_
  refine CIn_self (K_region (C_at (.t (.t (.t .h))) (fun hp => V_loadBox ag110 ty110.sz rfl (.tmp rfl rfl) hp.2 rfl) ?_))
  refine C_x1 (.cons (.t (.t .h)) .nil) (X_storeB (e' := (.agg [v41.v, v44.v, v47.v, (.int .i64 c49)].toArray)) (v := (.agg [v41.v, v44.v, v47.v, (.int .i64 c49)].toArray)) ty110.sz (.tmp rfl rfl) (.tmp rfl rfl) rfl rfl rfl rfl rfl) (fun _ => ?_)
  refine C_nil (CW_ret ?_)
  obtain rfl := Option.some.inj hF
  exact End_ret (v41, F42, v44, F45, v47, F48) (.cellA rfl rfl .h rfl ag110 ty110.sz rfl rfl .nil) rfl (.sel (.cons (.t (.t (.t (.t .h)))) (.cons (.t (.t (.t (.t .h)))) (.cons (.t (.t (.t (.t .h)))) .nil))))

/-! strconv.Itoa -/
def g_strconv_Itoa (a_n : Int) : Option (List UInt8) :=
  if -9223372036854775808 ≤ a_n ∧ a_n ≤ 9223372036854775807 then some (Lib.itoa a_n) else none
theorem g_strconv_Itoa_ok (a_n : Int) (R : List UInt8) (hF : g_strconv_Itoa a_n = some R) :
    Fw.Spec Tryz.prog 113 [.int .i64 a_n] [] (fun _ : Unit => (sv R)) (fun _ => []) := by
  unfold g_strconv_Itoa at hF
  split at hF
  · rename_i h
    cases hF
    exact Spec_itoa fun w hv => Go.Proofs.Any.strconv_Itoa laysM171 a_n h.1 h.2 w (Vok.var (fun _ h => h) hv.choose_spec)
  · simp at hF

/-! impl.FormatInt -/
def i_FormatInt (a_n : Int) : Option ((List UInt8)) :=
  (g_strconv_Itoa a_n).bind fun r1 =>
  some r1
theorem i_FormatInt_ok (a_n : Int) (R : (List UInt8)) (hF : i_FormatInt a_n = some R) :
    Fw.Spec Tryz.prog 47 [(.int .i64 a_n)] [] (fun _ : Unit => (sv R)) (fun _ => []) := by
  refine Spec_enter (n := 5) Tryz.func47 rfl rfl (rs := [.tmp 2]) rfl rfl rfl ?_
  intro H0 F0
  unfold i_FormatInt at hF
  refine K_region (C_val (V_assign (v := (sv [])) (.sv _)) ?_)
  refine C_nil (K_region (Cm (.int .i64 a_n) rfl rfl ?_))
  obtain ⟨r1, hx2, hF⟩ := bind_some hF
  refine C_x0 .nil (X_callS cf113 (.cons (.tmp rfl rfl) .nil) (g_strconv_Itoa_ok a_n _ hx2)) (fun _ => ?_)
  refine Ca (sv r1) rfl rfl ?_
  refine C_nil (CW_ret ?_)
  obtain rfl := Option.some.inj hF
  exact End_ret () (.tmp rfl rfl .nil) rfl (.sel .nil)

/-! strings.Join -/
def g_strings_Join (a_e : List (List UInt8)) (a_sep : List UInt8) : Option (List UInt8) :=
  if a_e.length < 4294967296 ∧ (Lib.join a_e a_sep).length < 4294967296 then some (Lib.join a_e a_sep) else none
theorem g_strings_Join_ok (a_e : List (List UInt8)) (v0_0 : Sv) (a_sep : List UInt8) (R : List UInt8) (hF : g_strings_Join a_e a_sep = some R) :
    Fw.Spec Tryz.prog 115 [v0_0.v, sv a_sep] [crd (RdS 9 rdStr) v0_0.v a_e] (fun _ : Unit => (sv R)) (fun _ => []) := by
  unfold g_strings_Join at hF
  split at hF
  · rename_i h
    cases hF
    exact Spec_join ty9.sz (Go.Proofs.Any.strings_Join_none lays156 extra) (Go.Proofs.Any.strings_Join lays156 extra) h.1 h.2
  · simp at hF

/-! impl.isRel -/
def i_isRel (a_rel : Int) : Option (Bool) :=
  (i_within a_rel 0 2).bind fun r1 =>
  some r1
theorem i_isRel_ok (a_rel : Int) (R : Bool) (hF : i_isRel a_rel = some R) :
    Fw.Spec Tryz.prog 163 [(.int .i64 a_rel)] [] (fun _ : Unit => (.bool R)) (fun _ => []) := by
  refine Spec_enter (n := 5) Tryz.func163 rfl rfl (rs := [.tmp 2]) rfl rfl rfl ?_
  intro H0 F0
  unfold i_isRel at hF
  refine K_region (C_val (V_assign (v := (.bool false)) (.bool _)) ?_)
  refine C_nil (K_region (Cm (.int .i64 a_rel) rfl rfl ?_))
  obtain ⟨r1, hx2, hF⟩ := bind_some hF
  refine C_x0 .nil (X_callS cf111 (.cons (.tmp rfl rfl) (.cons (.int _ _) (.cons (.int _ _) .nil))) (i_within_ok a_rel 0 2 _ hx2)) (fun _ => ?_)
  refine Ca (.bool r1) rfl rfl ?_
  refine C_nil (CW_ret ?_)
  obtain rfl := Option.some.inj hF
  exact End_ret () (.tmp rfl rfl .nil) rfl (.sel .nil)

/-! impl.joined -/
def i_joined_L1 (a_by : List UInt8) : List Int → Nat → (List (List UInt8)) → Option ((List UInt8))
  | [], k8, c2 => (g_strings_Join c2 a_by).bind fun r17 =>
    some r17
  | x10 :: rest9, k8, c2 => (i_FormatInt x10).bind fun r22 =>
    (app c2 ([r22] : List (List UInt8))).bind fun z26 =>
    i_joined_L1 a_by rest9 (k8 + 1) z26
def i_joined (a_l : List Int) (a_by : List UInt8) : Option ((List UInt8)) :=
  i_joined_L1 a_by a_l 0 ([] : List (List UInt8))
theorem i_joined_ok (a_l : List Int) (v0_0 : Sv) (a_by : List UInt8) (R : (List UInt8)) (hF : i_joined a_l a_by = some R) :
    Fw.Spec Tryz.prog 83 [v0_0.v, (sv a_by)] [crd (RdS 3 rdInt) v0_0.v a_l] (fun _ : Unit => (sv R)) (fun _ => []) := by
  refine Spec_enter (n := 24) Tryz.func83 rfl rfl (rs := [.tmp 4]) rfl rfl rfl ?_
  intro H0 F0
  unfold i_joined at hF
  refine K_region (C_val (V_assign (v := (sv [])) (.sv _)) ?_)
  refine C_nil (K_region (C_new rfl (N_buildSliceT (g := true) sl36 ty9 .nil (vs := []) rfl rfl rfl (by simp)) (fun k1 => ?_)))
  refine C_conv (.cons .h .nil) (own_lit (Ro := (roE rdStr)) (E := 9) (F := []) (xs := ([] : List (List UInt8))) MkL_nil rfl rfl) apps ?_
  refine Ca (.slice (some ⟨k1, 0, none⟩) 0 1) rfl rfl ?_
  refine C_nil (K_in (K_region (Cm v0_0.v rfl rfl ?_)))
  refine C_at (.t .h) (fun hp => V_lenR (l := a_l.length) sl22 (.tmp rfl rfl) (crd_len hp)) ?_
  refine C_val (V_move (v := (.int .i64 0)) (.int _ _)) ?_
  refine C_nil (CW_block (CW_loop (m := a_l.length) (fun m6 f' cs' => ∃ (g : Fr) (k8 : Nat) (rest9 : List Int) (c2 : List (List UInt8)) (v3 : Sv) (F4 : List Nat), m6 = rest9.length ∧ f' = updL g [(1, (sv a_by)), (5, v3.v), (9, v0_0.v), (10, (.int .i64 (a_l.length : Int))), (11, (.int .i64 (k8 : Int)))] ∧ List.drop k8 a_l = rest9 ∧ Ent cs' [cown (OwnS 9 (roE rdStr)) F4 v3.v c2, crd (RdS 3 rdInt) v0_0.v a_l] ∧ i_joined_L1 a_by rest9 k8 c2 = some R) ⟨_, 0, _, _, ⟨(some ⟨k1, 0, none⟩), 0, 1⟩, (k1 :: []), rfl, (EqL.cons rfl (EqL.cons rfl (EqL.cons rfl (EqL.cons rfl (EqL.cons rfl (EqL.nil)))))).eq, rfl, (.sel (.cons .h (.rd .h rfl .nil))), hF⟩ ?_))
  clear hF
  rintro m6 _ _ ⟨g7, k8, rest9, c2, v3, F4, rfl, rfl, hd11, hE, hF⟩
  refine K_ent hE ?_
  clear hE
  refine K_pure (c := crd (RdS 3 rdInt) v0_0.v a_l) (.t .h) crd_bound (fun hbd16 => ?_)
  rcases rest9 with _ | ⟨x10, rest9⟩
  · have hk12 := List.drop_eq_nil_iff.1 hd11
    have hfe15 : (decide (((k8 : Int) : Int) < (a_l.length : Int))) = false := decide_eq_false (by omega)
    rw [i_joined_L1] at hF
    refine K_region (C_val (V_lss (i := (k8 : Int)) (j := (a_l.length : Int)) (.tmp rfl rfl) (.tmp rfl rfl)) ?_)
    refine C_nil (K_in (CW_cond (b := (decide (((k8 : Int) : Int) < (a_l.length : Int)))) (.tmp rfl rfl) (fun hb => absurd (hfe15.symm.trans hb) (by decide)) (fun _ => ?_)))
    refine CW_exit ?_
    iterate 2 refine CThen_exit ?_
    refine CIn_self (K_region (Cm v3.v rfl rfl ?_))
    refine Cm (sv a_by) rfl rfl ?_
    obtain ⟨r17, hx18, hF⟩ := bind_some hF
    refine C_x1 (.cons .h .nil) (XC_bor frz_own (fun _ => .nil) (X_callS cf115 (.cons (.tmp rfl rfl) (.cons (.tmp rfl rfl) .nil)) (g_strings_Join_ok c2 v3 a_by _ hx18))) (fun _ => ?_)
    refine Ca (sv r17) rfl rfl ?_
    refine C_nil (CW_ret ?_)
    obtain rfl := Option.some.inj hF
    exact End_ret () (.tmp rfl rfl .nil) rfl (.sel .nil)
  obtain ⟨hk12, hx13, hd14⟩ := drop_cons hd11
  have hfe15 : (decide (((k8 : Int) : Int) < (a_l.length : Int))) = true := decide_eq_true (by omega)
  rw [i_joined_L1] at hF
  refine K_region (C_val (V_lss (i := (k8 : Int)) (j := (a_l.length : Int)) (.tmp rfl rfl) (.tmp rfl rfl)) ?_)
  refine C_nil (K_in (CW_cond (b := (decide (((k8 : Int) : Int) < (a_l.length : Int)))) (.tmp rfl rfl) (fun _ => ?_) (fun hb => absurd (hfe15.symm.trans hb) (by decide))))
  refine CW_skip (K_block (K_region (C_idx (a := x10) sl22 ty3.sz (.tmp rfl rfl) (.tmp rfl rfl) (.t .h) (Int.natCast_nonneg k8) hx13 (fun k20 j21 => ?_))))
  refine C_ldS (w := (.int .i64 x10)) ag3 (.tmp rfl rfl) .h ls3_0 ?_
  refine Ca (.int .i64 x10) rfl rfl ?_
  refine C_nil (CW_region (Cm v3.v rfl rfl ?_))
  refine Cm (.int .i64 x10) rfl rfl ?_
  obtain ⟨r22, hx23, hF⟩ := bind_some hF
  refine C_x0 .nil (X_callS cf47 (.cons (.tmp rfl rfl) .nil) (i_FormatInt_ok x10 _ hx23)) (fun _ => ?_)
  refine C_new rfl (N_buildSliceT (g := true) sl36 ty9 (.cons (.tmp rfl rfl) .nil) (vs := [(sv r22)]) rfl rfl rfl (by intro v hv; simp at hv; rcases hv with rfl <;> rfl)) (fun k25 => ?_)
  refine C_conv (.cons .h .nil) (own_lit (Ro := (roE rdStr)) (E := 9) (F := ([] ++ [])) (xs := ([r22] : List (List UInt8))) (MkL_cons (Mk_pure (fun _ => rfl)) MkL_nil apps) rfl rfl) apps ?_
  obtain ⟨z26, hx27, hF⟩ := bind_some hF
  refine C_x1 (.cons (.t (.t .h)) (.cons .h .nil)) (X_appendO (Ro := (roE rdStr)) sl36 ni36 ty9 rfl rfl rfl (.tmp rfl rfl) (.tmp rfl rfl) hx27 src_own) (fun p28 => ?_)
  refine Ca p28.1.v rfl rfl ?_
  refine C_nil (CW_region (C_val (V_add (i := (k8 : Int)) (j := 1) (.tmp rfl rfl) (.int _ _)) ?_))
  refine Cm (.int .i64 (IntKind.i64.wrap ((k8 : Int) + 1))) rfl rfl ?_
  refine C_nil ?_
  have hw29 : IntKind.i64.wrap ((k8 : Int) + 1) = ((k8 + 1 : Nat) : Int) := by rw [wrap_in (by omega) (by omega)]; rfl
  rw [hw29]
  exact ⟨_, Nat.lt_succ_self _, _, k8 + 1, rest9, _, p28.1, p28.2, rfl, (EqL.cons rfl (EqL.cons rfl (EqL.cons rfl (EqL.cons rfl (EqL.cons rfl (EqL.nil)))))).eq, hd14, (.sel (.cons .h (.rd (.t .h) rfl .nil))), hF⟩

/-! impl.FormatFact -/
def i_FormatFact (a_f : Fact) : Option ((List UInt8)) :=
  ((i_isRel a_f.Rel).bind fun r4 =>
    bif (!r4) then (some true)
    else ((i_within (a_f.Values.length : Int) 1 3).bind fun r8 =>
      bif (!r8) then (some true)
      else ((i_areValues a_f.Values).bind fun r12 =>
        some (!r12)))).bind fun o2 =>
  match o2 with
  | c15 => if c15 then (
      some [])
    else (
      (i_FormatInt a_f.Rel).bind fun r16 =>
      (cat [114] r16).bind fun x19 =>
      (cat x19 [40]).bind fun x23 =>
      (i_joined a_f.Values [44]).bind fun r27 =>
      (cat x23 r27).bind fun x30 =>
      (cat x30 [41]).bind fun x34 =>
      some x34)
theorem i_FormatFact_ok (a_f : Fact) (v0_1 : Sv) (R : (List UInt8)) (hF : i_FormatFact a_f = some R) :
    Fw.Spec Tryz.prog 114 [(.agg [(.int .i64 a_f.Rel), v0_1.v].toArray)] [crd (RdS 3 rdInt) v0_1.v a_f.Values] (fun _ : Unit => (sv R)) (fun _ => []) := by
  refine Spec_enter (n := 30) Tryz.func114 rfl rfl (rs := [.tmp 2]) rfl rfl rfl ?_
  intro H0 F0
  unfold i_FormatFact at hF
  refine K_region (C_newR rfl (N_box (g := false) (v := (.agg [(.int .i64 a_f.Rel), v0_1.v].toArray)) ty114.sz (.tmp rfl rfl) rfl) (fun k1 => ?_))
  refine C_val (V_assign (v := (sv [])) (.sv _)) ?_
  refine C_nil (K_in ?_)
  obtain ⟨o2, hio2, hO3⟩ := bind_some hF
  refine K_region (C_cut (fun f' cs' => ∃ (c15 : Bool) (g : Fr), c15 = o2 ∧ f' = updL g [(1, (.pointer (some ⟨k1, 0, some 0⟩))), (19, (.bool c15))] ∧ Ent cs' [cboR k1 114 (.agg [(.int .i64 a_f.Rel), v0_1.v].toArray), crd (RdS 3 rdInt) v0_1.v a_f.Values]) ?_ ?_)
  · replace hF := hio2
    refine C_val (V_fieldAddr (off := 0) fd114_0 (.tmp rfl rfl)) ?_
    refine C_at .h (fun hp => V_load (v := (.int .i64 a_f.Rel)) ag3 (.tmp rfl rfl) hp.2 rfl rfl) ?_
    obtain ⟨r4, hx5, hF⟩ := bind_some hF
    refine C_x0 .nil (X_callS cf163 (.cons (.tmp rfl rfl) .nil) (i_isRel_ok a_f.Rel _ hx5)) (fun _ => ?_)
    refine C_val (V_not (b := r4) (.tmp rfl rfl)) ?_
    refine Cm (.bool (!r4)) rfl rfl ?_
    rcases Bool.eq_false_or_eq_true (!r4) with hg7 | hg7
    · rw [hg7]
      try rw [hg7] at hF; dsimp only [cond_true, cond_false] at hF
      iterate 5 refine C_off (t := 7) rfl rfl rfl ?_
      refine C_val (V_pick (b := true) (u := (.bool true)) (v := undef) (.tmp rfl rfl) (.bool _) (.tmp rfl rfl)) ?_
      refine Cm (.bool true) rfl rfl ?_
      iterate 4 refine C_off (t := 14) rfl rfl rfl ?_
      refine C_val (V_pick (b := true) (u := (.bool true)) (v := undef) (.tmp rfl rfl) (.bool _) (.tmp rfl rfl)) ?_
      refine C_nil ?_
      obtain rfl := Option.some.inj hF
      exact ⟨_, _, rfl, (EqL.cons rfl (EqL.cons rfl (EqL.nil))).eq, (.sel (.rd .h rfl (.rd (.t .h) rfl .nil)))⟩
    rw [hg7]
    try rw [hg7] at hF; dsimp only [cond_true, cond_false] at hF
    refine C_on (t := 7) rfl rfl rfl ?_
    refine C_val (V_fieldAddr (off := 1) fd114_1 (.tmp rfl rfl)) ?_
    refine C_on (t := 7) rfl rfl rfl ?_
    refine C_at .h (fun hp => V_load (v := v0_1.v) ag22 (.tmp rfl rfl) hp.2 rfl rfl) ?_
    refine C_on (t := 7) rfl rfl rfl ?_
    refine C_at (.t .h) (fun hp => V_lenR (l := a_f.Values.length) sl22 (.tmp rfl rfl) (crd_len hp)) ?_
    refine C_on (t := 7) rfl rfl rfl ?_
    obtain ⟨r8, hx9, hF⟩ := bind_some hF
    refine C_x0 .nil (X_callS cf111 (.cons (.tmp rfl rfl) (.cons (.int _ _) (.cons (.int _ _) .nil))) (i_within_ok (a_f.Values.length : Int) 1 3 _ hx9)) (fun _ => ?_)
    refine C_on (t := 7) rfl rfl rfl ?_
    refine C_val (V_not (b := r8) (.tmp rfl rfl)) ?_
    refine C_val (V_pick (b := false) (u := (.bool true)) (v := (.bool (!r8))) (.tmp rfl rfl) (.bool _) (.tmp rfl rfl)) ?_
    refine Cm (.bool (!r8)) rfl rfl ?_
    rcases Bool.eq_false_or_eq_true (!r8) with hg11 | hg11
    · rw [hg11]
      try rw [hg11] at hF; dsimp only [cond_true, cond_false] at hF
      iterate 4 refine C_off (t := 14) rfl rfl rfl ?_
      refine C_val (V_pick (b := true) (u := (.bool true)) (v := undef) (.tmp rfl rfl) (.bool _) (.tmp rfl rfl)) ?_
      refine C_nil ?_
      obtain rfl := Option.some.inj hF
      exact ⟨_, _, rfl, (EqL.cons rfl (EqL.cons rfl (EqL.nil))).eq, (.sel (.rd .h rfl (.rd (.t .h) rfl .nil)))⟩
    rw [hg11]
    try rw [hg11] at hF; dsimp only [cond_true, cond_false] at hF
    refine C_on (t := 14) rfl rfl rfl ?_
    refine C_val (V_fieldAddr (off := 1) fd114_1 (.tmp rfl rfl)) ?_
    refine C_on (t := 14) rfl rfl rfl ?_
    refine C_at .h (fun hp => V_load (v := v0_1.v) ag22 (.tmp rfl rfl) hp.2 rfl rfl) ?_
    refine C_on (t := 14) rfl rfl rfl ?_
    obtain ⟨r12, hx13, hF⟩ := bind_some hF
    refine C_x0 (.rd (.t .h) rfl .nil) (X_callS cf112 (.cons (.tmp rfl rfl) .nil) (i_areValues_ok a_f.Values v0_1 _ hx13)) (fun _ => ?_)
    refine C_on (t := 14) rfl rfl rfl ?_
    refine C_val (V_not (b := r12) (.tmp rfl rfl)) ?_
    refine C_val (V_pick (b := false) (u := (.bool true)) (v := (.bool (!r12))) (.tmp rfl rfl) (.bool _) (.tmp rfl rfl)) ?_
    refine C_nil ?_
    obtain rfl := Option.some.inj hF
    exact ⟨_, _, rfl, (EqL.cons rfl (EqL.cons rfl (EqL.nil))).eq, (.sel (.rd .h rfl (.rd (.t .h) rfl .nil)))⟩
  rintro _ _ ⟨c15, g39, rfl, rfl, hE⟩
  replace hF := hO3
  clear hO3
  try dsimp only at hF
  refine K_ent hE ?_
  refine CW_cond (b := c15) (.tmp rfl rfl) (fun hb38 => ?_) (fun hb38 => ?_)
  · rw [if_pos hb38] at hF
    refine K_region (C_val (V_assign (v := (sv [])) (.sv _)) ?_)
    refine C_nil (CW_ret ?_)
    obtain rfl := Option.some.inj hF
    exact End_ret () (.tmp rfl rfl .nil) rfl (.sel .nil)
  rw [if_neg (by rw [hb38]; exact Bool.false_ne_true)] at hF
  refine CW_skip (K_draw [0, 1, 5, 6, 2, 3, 4, 7, 8, 9, 10] [0, 1, 3, 7, 15, 0, 32, 103, 255, 511, 1023] [2, 7] mixed (by decide +kernel) ?_)
  refine D_val rfl .no (fun ha => V_fieldAddr (off := 0) fd114_0 (EN ha (.tmp rfl rfl) rfl)) ?_
  refine D_at rfl .no .h rfl (fun ha hp => V_load (v := (.int .i64 a_f.Rel)) ag3 (EN ha (.tmp rfl rfl) rfl) hp.2 rfl rfl) ?_
  refine D_val rfl .no (fun ha => V_fieldAddr (off := 1) fd114_1 (EN ha (.tmp rfl rfl) rfl)) ?_
  refine D_at rfl .no .h rfl (fun ha hp => V_load (v := v0_1.v) ag22 (EN ha (.tmp rfl rfl) rfl) hp.2 rfl rfl) ?_
  obtain ⟨r16, hx17, hF⟩ := bind_some hF
  refine D_act0 rfl rfl .no .nil .nil (fun ha => X_callS cf47 (.cons (EN ha (.tmp rfl rfl) rfl) .nil) (i_FormatInt_ok a_f.Rel _ hx17)) (fun _ => ?_)
  obtain ⟨x19, hx20, hF⟩ := bind_some hF
  obtain ⟨hq22, hz21⟩ := cat_some hx20
  refine D_val rfl .no (fun ha => V_concatN (s := [114]) (t := r16) (u := x19) (EN ha (.sv _) rfl) (EN ha (.tmp rfl rfl) rfl) hx20) ?_
  obtain ⟨x23, hx24, hF⟩ := bind_some hF
  obtain ⟨hq26, hz25⟩ := cat_some hx24
  refine D_val rfl .no (fun ha => V_concatN (s := x19) (t := [40]) (u := x23) (EN ha (.tmp rfl rfl) rfl) (EN ha (.sv _) rfl) hx24) ?_
  obtain ⟨r27, hx28, hF⟩ := bind_some hF
  refine D_act0 rfl rfl .no (.rd (.t .h) rfl .nil) .nil (fun ha => X_callS cf83 (.cons (EN ha (.tmp rfl rfl) rfl) (.cons (EN ha (.sv _) rfl) .nil)) (i_joined_ok a_f.Values v0_1 [44] _ hx28)) (fun _ => ?_)
  obtain ⟨x30, hx31, hF⟩ := bind_some hF
  obtain ⟨hq33, hz32⟩ := cat_some hx31
  refine D_val rfl .no (fun ha => V_concatN (s := x23) (t := r27) (u := x30) (EN ha (.tmp rfl rfl) rfl) (EN ha (.tmp rfl rfl) rfl) hx31) ?_
  obtain ⟨x34, hx35, hF⟩ := bind_some hF
  obtain ⟨hq37, hz36⟩ := cat_some hx35
  refine D_val rfl .no (fun ha => V_concatN (s := x30) (t := [41]) (u := x34) (EN ha (.tmp rfl rfl) rfl) (EN ha (.sv _) rfl) hx35) ?_
  refine Da (sv x34) rfl rfl rfl rfl ?_
  refine D_nil (CW_ret ?_)
  obtain rfl := Option.some.inj hF
  exact End_ret () (.tmp rfl rfl .nil) rfl (.sel .nil)

/-! impl.factsText -/
def i_factsText_L1 : List Fact → Nat → (List (List UInt8)) → Option ((List UInt8))
  | [], k8, c2 => (g_strings_Join c2 [32]).bind fun r17 =>
    if (r17 == []) then (
      some [110, 111, 110, 101])
    else (
      some r17)
  | x10 :: rest9, k8, c2 => (i_FormatFact x10).bind fun r25 =>
    (app c2 ([r25] : List (List UInt8))).bind fun z29 =>
    i_factsText_L1 rest9 (k8 + 1) z29
def i_factsText (a_l : List Fact) : Option ((List UInt8)) :=
  i_factsText_L1 a_l 0 ([] : List (List UInt8))
theorem i_factsText_ok (a_l : List Fact) (v0_0 : Sv) (R : (List UInt8)) (hF : i_factsText a_l = some R) :
    Fw.Spec Tryz.prog 48 [v0_0.v] [crd (RdS 114 rd114) v0_0.v a_l] (fun _ : Unit => (sv R)) (fun _ => []) := by
  refine Spec_enter (n := 25) Tryz.func48 rfl rfl (rs := [.tmp 2]) rfl rfl rfl ?_
  intro H0 F0
  unfold i_factsText at hF
  refine K_region (C_val (V_assign (v := (sv [])) (.sv _)) ?_)
  refine C_nil (K_region (C_new rfl (N_buildSliceT (g := true) sl36 ty9 .nil (vs := []) rfl rfl rfl (by simp)) (fun k1 => ?_)))
  refine C_conv (.cons .h .nil) (own_lit (Ro := (roE rdStr)) (E := 9) (F := []) (xs := ([] : List (List UInt8))) MkL_nil rfl rfl) apps ?_
  refine Ca (.slice (some ⟨k1, 0, none⟩) 0 1) rfl rfl ?_
  refine C_nil (K_in (K_region (Cm v0_0.v rfl rfl ?_)))
  refine C_at (.t .h) (fun hp => V_lenR (l := a_l.length) sl40 (.tmp rfl rfl) (crd_len hp)) ?_
  refine C_val (V_move (v := (.int .i64 0)) (.int _ _)) ?_
  refine C_nil (CW_block (CW_loop (m := a_l.length) (fun m6 f' cs' => ∃ (g : Fr) (k8 : Nat) (rest9 : List Fact) (c2 : List (List UInt8)) (v3 : Sv) (F4 : List Nat), m6 = rest9.length ∧ f' = updL g [(3, v3.v), (8, v0_0.v), (9, (.int .i64 (a_l.length : Int))), (10, (.int .i64 (k8 : Int)))] ∧ List.drop k8 a_l = rest9 ∧ Ent cs' [cown (OwnS 9 (roE rdStr)) F4 v3.v c2, crd (RdS 114 rd114) v0_0.v a_l] ∧ i_factsText_L1 rest9 k8 c2 = some R) ⟨_, 0, _, _, ⟨(some ⟨k1, 0, none⟩), 0, 1⟩, (k1 :: []), rfl, (EqL.cons rfl (EqL.cons rfl (EqL.cons rfl (EqL.cons rfl (EqL.nil))))).eq, rfl, (.sel (.cons .h (.rd .h rfl .nil))), hF⟩ ?_))
  clear hF
  rintro m6 _ _ ⟨g7, k8, rest9, c2, v3, F4, rfl, rfl, hd11, hE, hF⟩
  refine K_ent hE ?_
  clear hE
  refine K_pure (c := crd (RdS 114 rd114) v0_0.v a_l) (.t .h) crd_bound (fun hbd16 => ?_)
  rcases rest9 with _ | ⟨x10, rest9⟩
  · have hk12 := List.drop_eq_nil_iff.1 hd11
    have hfe15 : (decide (((k8 : Int) : Int) < (a_l.length : Int))) = false := decide_eq_false (by omega)
    rw [i_factsText_L1] at hF
    refine K_region (C_val (V_lss (i := (k8 : Int)) (j := (a_l.length : Int)) (.tmp rfl rfl) (.tmp rfl rfl)) ?_)
    refine C_nil (K_in (CW_cond (b := (decide (((k8 : Int) : Int) < (a_l.length : Int)))) (.tmp rfl rfl) (fun hb => absurd (hfe15.symm.trans hb) (by decide)) (fun _ => ?_)))
    refine CW_exit ?_
    iterate 2 refine CThen_exit ?_
    refine CIn_self (K_region (Cm v3.v rfl rfl ?_))
    obtain ⟨r17, hx18, hF⟩ := bind_some hF
    refine C_x1 (.cons .h .nil) (XC_bor frz_own (fun _ => .nil) (X_callS cf115 (.cons (.tmp rfl rfl) (.cons (.sv _) .nil)) (g_strings_Join_ok c2 v3 [32] _ hx18))) (fun _ => ?_)
    refine Ca (sv r17) rfl rfl ?_
    refine C_nil (K_in (K_region (Cm (sv r17) rfl rfl ?_)))
    refine C_val (V_eqT (s := r17) (t := []) (.tmp rfl rfl) (.sv _)) ?_
    refine C_nil (CW_cond (b := (r17 == [])) (.tmp rfl rfl) (fun hb20 => ?_) (fun hb20 => ?_))
    · rw [if_pos hb20] at hF
      refine K_region (C_val (V_assign (v := (sv [110, 111, 110, 101])) (.sv _)) ?_)
      refine C_nil (CW_ret ?_)
      obtain rfl := Option.some.inj hF
      exact End_ret () (.tmp rfl rfl .nil) rfl (.sel .nil)
    rw [if_neg (by rw [hb20]; exact Bool.false_ne_true)] at hF
    refine CW_skip (K_region (Cm (sv r17) rfl rfl ?_))
    refine Ca (sv r17) rfl rfl ?_
    refine C_nil (CW_ret ?_)
    obtain rfl := Option.some.inj hF
    exact End_ret () (.tmp rfl rfl .nil) rfl (.sel .nil)
  obtain ⟨hk12, hx13, hd14⟩ := drop_cons hd11
  have hfe15 : (decide (((k8 : Int) : Int) < (a_l.length : Int))) = true := decide_eq_true (by omega)
  rw [i_factsText_L1] at hF
  refine K_region (C_val (V_lss (i := (k8 : Int)) (j := (a_l.length : Int)) (.tmp rfl rfl) (.tmp rfl rfl)) ?_)
  refine C_nil (K_in (CW_cond (b := (decide (((k8 : Int) : Int) < (a_l.length : Int)))) (.tmp rfl rfl) (fun _ => ?_) (fun hb => absurd (hfe15.symm.trans hb) (by decide))))
  refine CW_skip (K_block (K_region (C_idx (a := x10) sl40 ty114.sz (.tmp rfl rfl) (.tmp rfl rfl) (.t .h) (Int.natCast_nonneg k8) hx13 (fun k21 j22 => ?_))))
  refine C_ldA1 (ul114_0_114 x10) ag114 ty114.sz rfl (.tmp rfl rfl) .h la114_0_114 (fun p23 => ?_)
  refine C_new rfl (N_allocT (g := true) ty114 rfl rfl) (fun k24 => ?_)
  refine C_x1 (.cons .h .nil) (X_storeB (e' := (.agg [(.int .i64 x10.Rel), p23.v].toArray)) (v := (.agg [(.int .i64 x10.Rel), p23.v].toArray)) ty114.sz (.tmp rfl rfl) (.tmp rfl rfl) rfl rfl rfl rfl rfl) (fun _ => ?_)
  refine C_nil (CW_region (Cm v3.v rfl rfl ?_))
  refine C_at .h (fun hp => V_loadBox ag114 ty114.sz rfl (.tmp rfl rfl) hp.2 rfl) ?_
  obtain ⟨r25, hx26, hF⟩ := bind_some hF
  refine C_x0 (.rd (.t .h) rfl .nil) (X_callS cf114 (.cons (.tmp rfl rfl) .nil) (i_FormatFact_ok x10 p23 _ hx26)) (fun _ => ?_)
  refine C_new rfl (N_buildSliceT (g := true) sl36 ty9 (.cons (.tmp rfl rfl) .nil) (vs := [(sv r25)]) rfl rfl rfl (by intro v hv; simp at hv; rcases hv with rfl <;> rfl)) (fun k28 => ?_)
  refine C_conv (.cons .h .nil) (own_lit (Ro := (roE rdStr)) (E := 9) (F := ([] ++ [])) (xs := ([r25] : List (List UInt8))) (MkL_cons (Mk_pure (fun _ => rfl)) MkL_nil apps) rfl rfl) apps ?_
  obtain ⟨z29, hx30, hF⟩ := bind_some hF
  refine C_x1 (.cons (.t (.t (.t (.t .h)))) (.cons .h .nil)) (X_appendO (Ro := (roE rdStr)) sl36 ni36 ty9 rfl rfl rfl (.tmp rfl rfl) (.tmp rfl rfl) hx30 src_own) (fun p31 => ?_)
  refine Ca p31.1.v rfl rfl ?_
  refine C_nil (CW_region (C_val (V_add (i := (k8 : Int)) (j := 1) (.tmp rfl rfl) (.int _ _)) ?_))
  refine Cm (.int .i64 (IntKind.i64.wrap ((k8 : Int) + 1))) rfl rfl ?_
  refine C_nil ?_
  have hw32 : IntKind.i64.wrap ((k8 : Int) + 1) = ((k8 + 1 : Nat) : Int) := by rw [wrap_in (by omega) (by omega)]; rfl
  rw [hw32]
  exact ⟨_, Nat.lt_succ_self _, _, k8 + 1, rest9, _, p31.1, p31.2, rfl, (EqL.cons rfl (EqL.cons rfl (EqL.cons rfl (EqL.cons rfl (EqL.nil))))).eq, hd14, (.sel (.cons .h (.rd (.t (.t (.t .h))) rfl .nil))), hF⟩

/-! impl.ReachLine -/
def i_ReachLine (a_s : List Int) (a_l : List Method) (a_facts : List Fact) (a_seeds : List Int) : Option ((List UInt8)) :=
  ((i_AreMethods a_s a_l).bind fun r3 =>
    bif (!r3) then (some true)
    else ((i_AreFacts a_s a_facts).bind fun r7 =>
      some (!r7))).bind fun o1 =>
  match o1 with
  | c10 => if c10 then (
      some [])
    else (
      (i_reach a_l a_facts a_seeds).bind fun r11 =>
      (i_FormatInt r11.Rounds).bind fun r15 =>
      (cat [114, 111, 117, 110, 100, 115, 32] r15).bind fun x18 =>
      (cat x18 [32, 99, 97, 108, 108, 115, 32]).bind fun x22 =>
      (i_FormatInt (r11.Log.length : Int)).bind fun r26 =>
      (cat x22 r26).bind fun x29 =>
      (cat x29 [32, 102, 97, 99, 116, 115, 32]).bind fun x33 =>
      (i_factsText r11.Facts).bind fun r37 =>
      (cat x33 r37).bind fun x40 =>
      some x40)
theorem i_ReachLine_ok (a_s : List Int) (v0_0 : Sv) (a_l : List Method) (v1_0 : Sv) (a_facts : List Fact) (v2_0 : Sv) (a_seeds : List Int) (v3_0 : Sv) (R : (List UInt8)) (hF : i_ReachLine a_s a_l a_facts a_seeds = some R) :
    Fw.Spec Tryz.prog 21 [v0_0.v, v1_0.v, v2_0.v, v3_0.v] [crd (RdS 3 rdInt) v0_0.v a_s, crd (RdS 112 rd112) v1_0.v a_l, crd (RdS 114 rd114) v2_0.v a_facts, crd (RdS 3 rdInt) v3_0.v a_seeds] (fun _ : Unit => (sv R)) (fun _ => []) := by
  refine Spec_enter (n := 39) Tryz.func21 rfl rfl (rs := [.tmp 8]) rfl rfl rfl ?_
  intro H0 F0
  unfold i_ReachLine at hF
  refine K_region (C_val (V_assign (v := (sv [])) (.sv _)) ?_)
  refine C_nil (K_in ?_)
  obtain ⟨o1, hio1, hO2⟩ := bind_some hF
  refine K_region (C_cut (fun f' cs' => ∃ (c10 : Bool) (g : Fr), c10 = o1 ∧ f' = updL g [(1, v1_0.v), (2, v2_0.v), (3, v3_0.v), (19, (.bool c10))] ∧ Ent cs' [crd (RdS 112 rd112) v1_0.v a_l, crd (RdS 114 rd114) v2_0.v a_facts, crd (RdS 3 rdInt) v3_0.v a_seeds]) ?_ ?_)
  · replace hF := hio1
    refine Cm v0_0.v rfl rfl ?_
    refine Cm v1_0.v rfl rfl ?_
    obtain ⟨r3, hx4, hF⟩ := bind_some hF
    refine C_x0 (.rd .h rfl (.rd (.t .h) rfl .nil)) (X_callS cf69 (.cons (.tmp rfl rfl) (.cons (.tmp rfl rfl) .nil)) (i_AreMethods_ok a_s v0_0 a_l v1_0 _ hx4)) (fun _ => ?_)
    refine C_val (V_not (b := r3) (.tmp rfl rfl)) ?_
    refine Cm (.bool (!r3)) rfl rfl ?_
    rcases Bool.eq_false_or_eq_true (!r3) with hg6 | hg6
    · rw [hg6]
      try rw [hg6] at hF; dsimp only [cond_true, cond_false] at hF
      iterate 4 refine C_off (t := 14) rfl rfl rfl ?_
      refine C_val (V_pick (b := true) (u := (.bool true)) (v := undef) (.tmp rfl rfl) (.bool _) (.tmp rfl rfl)) ?_
      refine C_nil ?_
      obtain rfl := Option.some.inj hF
      exact ⟨_, _, rfl, (EqL.cons rfl (EqL.cons rfl (EqL.cons rfl (EqL.cons rfl (EqL.nil))))).eq, (.sel (.rd (.t .h) rfl (.rd (.t (.t .h)) rfl (.rd (.t (.t (.t .h))) rfl .nil))))⟩
    rw [hg6]
    try rw [hg6] at hF; dsimp only [cond_true, cond_false] at hF
    refine C_on (t := 14) rfl rfl rfl ?_
    refine Cm v0_0.v rfl rfl ?_
    refine C_on (t := 14) rfl rfl rfl ?_
    refine Cm v2_0.v rfl rfl ?_
    refine C_on (t := 14) rfl rfl rfl ?_
    obtain ⟨r7, hx8, hF⟩ := bind_some hF
    refine C_x0 (.rd .h rfl (.rd (.t (.t .h)) rfl .nil)) (X_callS cf70 (.cons (.tmp rfl rfl) (.cons (.tmp rfl rfl) .nil)) (i_AreFacts_ok a_s v0_0 a_facts v2_0 _ hx8)) (fun _ => ?_)
    refine C_on (t := 14) rfl rfl rfl ?_
    refine C_val (V_not (b := r7) (.tmp rfl rfl)) ?_
    refine C_val (V_pick (b := false) (u := (.bool true)) (v := (.bool (!r7))) (.tmp rfl rfl) (.bool _) (.tmp rfl rfl)) ?_
    refine C_nil ?_
    obtain rfl := Option.some.inj hF
    exact ⟨_, _, rfl, (EqL.cons rfl (EqL.cons rfl (EqL.cons rfl (EqL.cons rfl (EqL.nil))))).eq, (.sel (.rd (.t .h) rfl (.rd (.t (.t .h)) rfl (.rd (.t (.t (.t .h))) rfl .nil))))⟩
  rintro _ _ ⟨c10, g45, rfl, rfl, hE⟩
  replace hF := hO2
  clear hO2
  try dsimp only at hF
  refine K_ent hE ?_
  refine CW_cond (b := c10) (.tmp rfl rfl) (fun hb44 => ?_) (fun hb44 => ?_)
  · rw [if_pos hb44] at hF
    refine K_region (C_val (V_assign (v := (sv [])) (.sv _)) ?_)
    refine C_nil (CW_ret ?_)
    obtain rfl := Option.some.inj hF
    exact End_ret () (.tmp rfl rfl .nil) rfl (.sel .nil)
  rw [if_neg (by rw [hb44]; exact Bool.false_ne_true)] at hF
  refine CW_skip (K_region (Cm v1_0.v rfl rfl ?_))
  refine Cm v2_0.v rfl rfl ?_
  refine Cm v3_0.v rfl rfl ?_
  obtain ⟨r11, hx12, hF⟩ := bind_some hF
  refine C_x3 (.rd .h rfl (.rd (.t .h) rfl (.rd (.t (.t .h)) rfl .nil))) (X_callS cf71 (.cons (.tmp rfl rfl) (.cons (.tmp rfl rfl) (.cons (.tmp rfl rfl) .nil))) (i_reach_ok a_l v1_0 a_facts v2_0 a_seeds v3_0 _ hx12)) (fun p13 => ?_)
  refine C_new rfl (N_allocT (g := true) ty110 rfl rfl) (fun k14 => ?_)
  refine C_x1 (.cons .h .nil) (X_storeB (e' := (.agg [p13.1.v, p13.2.2.1.v, p13.2.2.2.2.1.v, (.int .i64 r11.Rounds)].toArray)) (v := (.agg [p13.1.v, p13.2.2.1.v, p13.2.2.2.2.1.v, (.int .i64 r11.Rounds)].toArray)) ty110.sz (.tmp rfl rfl) (.tmp rfl rfl) rfl rfl rfl rfl rfl) (fun _ => ?_)
  refine C_nil (K_draw [0, 1, 5, 6, 7, 11, 12, 2, 3, 4, 8, 9, 10, 13, 14, 15] [0, 1, 3, 7, 15, 0, 32, 96, 231, 511, 1023, 0, 2048, 6631, 16383, 32767] [2, 8, 13] mixed (by decide +kernel) ?_)
  refine D_val rfl .no (fun ha => V_fieldAddr (off := 3) fd110_3 (EN ha (.tmp rfl rfl) rfl)) ?_
  refine D_atO rfl .no .h (fun ha hp => V_load (v := (.int .i64 r11.Rounds)) ag3 (EN ha (.tmp rfl rfl) rfl) hp.2 rfl rfl) ?_
  refine D_val rfl .no (fun ha => V_fieldAddr (off := 2) fd110_2 (EN ha (.tmp rfl rfl) rfl)) ?_
  refine D_atO rfl .no .h (fun ha hp => V_load (v := p13.2.2.2.2.1.v) ag46 (EN ha (.tmp rfl rfl) rfl) hp.2 rfl rfl) ?_
  refine D_atO rfl .no (.t (.t (.t .h))) (fun ha hp => V_lenR (l := r11.Log.length) sl46 (EN ha (.tmp rfl rfl) rfl) (cown_len hp)) ?_
  refine D_val rfl .no (fun ha => V_fieldAddr (off := 0) fd110_0 (EN ha (.tmp rfl rfl) rfl)) ?_
  refine D_atO rfl .no .h (fun ha hp => V_load (v := p13.1.v) ag40 (EN ha (.tmp rfl rfl) rfl) hp.2 rfl rfl) ?_
  obtain ⟨r15, hx16, hF⟩ := bind_some hF
  refine D_act0 rfl rfl .no .nil (.own .h (fun _ h => h) (.own (.t (.t (.t .h))) (fun _ h => h) (.own .h (fun _ h => h) (.dep rfl .nil)))) (fun ha => X_callS cf47 (.cons (EN ha (.tmp rfl rfl) rfl) .nil) (i_FormatInt_ok r11.Rounds _ hx16)) (fun _ => ?_)
  obtain ⟨x18, hx19, hF⟩ := bind_some hF
  obtain ⟨hq21, hz20⟩ := cat_some hx19
  refine D_val rfl .no (fun ha => V_concatN (s := [114, 111, 117, 110, 100, 115, 32]) (t := r15) (u := x18) (EN ha (.sv _) rfl) (EN ha (.tmp rfl rfl) rfl) hx19) ?_
  obtain ⟨x22, hx23, hF⟩ := bind_some hF
  obtain ⟨hq25, hz24⟩ := cat_some hx23
  refine D_val rfl .no (fun ha => V_concatN (s := x18) (t := [32, 99, 97, 108, 108, 115, 32]) (u := x22) (EN ha (.tmp rfl rfl) rfl) (EN ha (.sv _) rfl) hx23) ?_
  obtain ⟨r26, hx27, hF⟩ := bind_some hF
  refine D_act0 rfl rfl .no .nil (.own .h (fun _ h => h) (.dep rfl (.dep rfl (.dep rfl .nil)))) (fun ha => X_callS cf47 (.cons (EN ha (.tmp rfl rfl) rfl) .nil) (i_FormatInt_ok (r11.Log.length : Int) _ hx27)) (fun _ => ?_)
  obtain ⟨x29, hx30, hF⟩ := bind_some hF
  obtain ⟨hq32, hz31⟩ := cat_some hx30
  refine D_val rfl .no (fun ha => V_concatN (s := x22) (t := r26) (u := x29) (EN ha (.tmp rfl rfl) rfl) (EN ha (.tmp rfl rfl) rfl) hx30) ?_
  obtain ⟨x33, hx34, hF⟩ := bind_some hF
  obtain ⟨hq36, hz35⟩ := cat_some hx34
  refine D_val rfl .no (fun ha => V_concatN (s := x29) (t := [32, 102, 97, 99, 116, 115, 32]) (u := x33) (EN ha (.tmp rfl rfl) rfl) (EN ha (.sv _) rfl) hx34) ?_
  obtain ⟨r37, hx38, hF⟩ := bind_some hF
  refine D_act1 rfl rfl .no (.cons (.t .h) .nil) (.dep rfl (.dep rfl (.dep rfl (.dep rfl .nil)))) (fun ha => XC_bor frz_own (fun _ => .nil) (X_callS cf48 (.cons (EN ha (.tmp rfl rfl) rfl) .nil) (i_factsText_ok r11.Facts p13.1 _ hx38))) (fun _ => ?_)
  obtain ⟨x40, hx41, hF⟩ := bind_some hF
  obtain ⟨hq43, hz42⟩ := cat_some hx41
  refine D_val rfl .no (fun ha => V_concatN (s := x33) (t := r37) (u := x40) (EN ha (.tmp rfl rfl) rfl) (EN ha (.tmp rfl rfl) rfl) hx41) ?_
  refine Da (sv x40) rfl rfl rfl rfl ?_
  refine D_nil (CW_ret ?_)
  obtain rfl := Option.some.inj hF
  exact End_ret () (.tmp rfl rfl .nil) rfl (.sel .nil)

/-! laws.eqIntS -/
def l_eqIntS_L1 (a_b : List Int) : List Int → Nat → Option (Bool)
  | [], k4 => some true
  | x6 :: rest5, k4 => (ix a_b (k4 : Int)).bind fun x15 =>
    if ((x6 : Int) != x15) then (
      some false)
    else (
      l_eqIntS_L1 a_b rest5 (k4 + 1))
def l_eqIntS (a_a : List Int) (a_b : List Int) : Option (Bool) :=
  if (((a_a.length : Int) : Int) != (a_b.length : Int)) then (
    some false)
  else (
    l_eqIntS_L1 a_b a_a 0)
theorem l_eqIntS_ok (a_a : List Int) (v0_0 : Sv) (a_b : List Int) (v1_0 : Sv) (R : Bool) (hF : l_eqIntS a_a a_b = some R) :
    Fw.Spec Tryz.prog 22 [v0_0.v, v1_0.v] [crd (RdS 3 rdInt) v0_0.v a_a, crd (RdS 3 rdInt) v1_0.v a_b] (fun _ : Unit => (.bool R)) (fun _ => []) := by
  refine Spec_enter (n := 26) Tryz.func22 rfl rfl (rs := [.tmp 4]) rfl rfl rfl ?_
  intro H0 F0
  unfold l_eqIntS at hF
  refine K_region (C_val (V_assign (v := (.bool false)) (.bool _)) ?_)
  refine C_nil (K_in (K_region (Cm v0_0.v rfl rfl ?_)))
  refine C_at .h (fun hp => V_lenR (l := a_a.length) sl22 (.tmp rfl rfl) (crd_len hp)) ?_
  refine Cm v1_0.v rfl rfl ?_
  refine C_at (.t .h) (fun hp => V_lenR (l := a_b.length) sl22 (.tmp rfl rfl) (crd_len hp)) ?_
  refine C_val (V_neq (i := (a_a.length : Int)) (j := (a_b.length : Int)) (.tmp rfl rfl) (.tmp rfl rfl)) ?_
  refine C_nil (CW_cond (b := (((a_a.length : Int) : Int) != (a_b.length : Int))) (.tmp rfl rfl) (fun hb23 => ?_) (fun hb23 => ?_))
  · rw [if_pos hb23] at hF
    refine K_region (C_val (V_assign (v := (.bool false)) (.bool _)) ?_)
    refine C_nil (CW_ret ?_)
    obtain rfl := Option.some.inj hF
    exact End_ret () (.tmp rfl rfl .nil) rfl (.sel .nil)
  rw [if_neg (by rw [hb23]; exact Bool.false_ne_true)] at hF
  refine CW_skip (K_in (K_region (C_val (V_assign (v := (.int .i64 0)) (.int _ _)) ?_)))
  refine C_nil (CW_block (CW_loop (m := a_a.length) (fun m2 f' cs' => ∃ (g : Fr) (k4 : Nat) (rest5 : List Int), m2 = rest5.length ∧ f' = updL g [(0, v0_0.v), (1, v1_0.v), (5, (.int .i64 (k4 : Int)))] ∧ List.drop k4 a_a = rest5 ∧ Ent cs' [crd (RdS 3 rdInt) v0_0.v a_a, crd (RdS 3 rdInt) v1_0.v a_b] ∧ l_eqIntS_L1 a_b rest5 k4 = some R) ⟨_, 0, _, rfl, (EqL.cons rfl (EqL.cons rfl (EqL.cons rfl (EqL.nil)))).eq, rfl, (.sel (.rd .h rfl (.rd (.t .h) rfl .nil))), hF⟩ ?_))
  clear hF
  rintro m2 _ _ ⟨g3, k4, rest5, rfl, rfl, hd7, hE, hF⟩
  refine K_ent hE ?_
  clear hE
  refine K_pure (c := crd (RdS 3 rdInt) v0_0.v a_a) .h crd_bound (fun hbd12 => ?_)
  rcases rest5 with _ | ⟨x6, rest5⟩
  · have hk8 := List.drop_eq_nil_iff.1 hd7
    have hfe11 : (decide (((k4 : Int) : Int) < (a_a.length : Int))) = false := decide_eq_false (by omega)
    rw [l_eqIntS_L1] at hF
    refine K_in (K_region (Cm (.int .i64 (k4 : Int)) rfl rfl ?_))
    refine Cm v0_0.v rfl rfl ?_
    refine C_at .h (fun hp => V_lenR (l := a_a.length) sl22 (.tmp rfl rfl) (crd_len hp)) ?_
    refine C_val (V_lss (i := (k4 : Int)) (j := (a_a.length : Int)) (.tmp rfl rfl) (.tmp rfl rfl)) ?_
    refine C_nil (CW_cond (b := (decide (((k4 : Int) : Int) < (a_a.length : Int)))) (.tmp rfl rfl) (fun hb => absurd (hfe11.symm.trans hb) (by decide)) (fun _ => ?_))
    refine CW_exit ?_
    iterate 2 refine CThen_exit ?_
    refine CIn_self (K_region (C_val (V_assign (v := (.bool true)) (.bool _)) ?_))
    refine C_nil (CW_ret ?_)
    obtain rfl := Option.some.inj hF
    exact End_ret () (.tmp rfl rfl .nil) rfl (.sel .nil)
  obtain ⟨hk8, hx9, hd10⟩ := drop_cons hd7
  have hfe11 : (decide (((k4 : Int) : Int) < (a_a.length : Int))) = true := decide_eq_true (by omega)
  rw [l_eqIntS_L1] at hF
  refine K_in (K_region (Cm (.int .i64 (k4 : Int)) rfl rfl ?_))
  refine Cm v0_0.v rfl rfl ?_
  refine C_at .h (fun hp => V_lenR (l := a_a.length) sl22 (.tmp rfl rfl) (crd_len hp)) ?_
  refine C_val (V_lss (i := (k4 : Int)) (j := (a_a.length : Int)) (.tmp rfl rfl) (.tmp rfl rfl)) ?_
  refine C_nil (CW_cond (b := (decide (((k4 : Int) : Int) < (a_a.length : Int)))) (.tmp rfl rfl) (fun _ => ?_) (fun hb => absurd (hfe11.symm.trans hb) (by decide)))
  refine CW_skip (K_block (K_draw [0, 1, 2, 3, 4, 5, 6, 7, 8] [0, 0, 3, 7, 0, 0, 48, 112, 255] [] mixed (by decide +kernel) ?_))
  refine Dm v0_0.v rfl rfl rfl rfl ?_
  refine Dm (.int .i64 (k4 : Int)) rfl rfl rfl rfl ?_
  refine D_idx (a := x6) sl22 ty3.sz rfl .no (.tmp rfl rfl) (.tmp rfl rfl) rfl rfl .h (Int.natCast_nonneg k4) hx9 (fun k13 j14 => ?_)
  refine D_ldS (w := (.int .i64 x6)) ag3 rfl .no (.tmp rfl rfl) rfl .h ls3_0 ?_
  refine Dm v1_0.v rfl rfl rfl rfl ?_
  refine Dm (.int .i64 (k4 : Int)) rfl rfl rfl rfl ?_
  obtain ⟨x15, hx16, hF⟩ := bind_some hF
  obtain ⟨hp17, hx18⟩ := ix_some hx16
  refine D_idx (a := x15) sl22 ty3.sz rfl .no (.tmp rfl rfl) (.tmp rfl rfl) rfl rfl (.t (.t .h)) hp17 hx18 (fun k19 j20 => ?_)
  refine D_ldS (w := (.int .i64 x15)) ag3 rfl .no (.tmp rfl rfl) rfl .h ls3_0 ?_
  refine D_val rfl .no (fun ha => V_neq (i := x6) (j := x15) (EN ha (.tmp rfl rfl) rfl) (EN ha (.tmp rfl rfl) rfl)) ?_
  refine D_nil (CW_cond (b := ((x6 : Int) != x15)) (.tmp rfl rfl) (fun hb22 => ?_) (fun hb22 => ?_))
  · rw [if_pos hb22] at hF
    refine K_region (C_val (V_assign (v := (.bool false)) (.bool _)) ?_)
    refine C_nil (CW_ret ?_)
    obtain rfl := Option.some.inj hF
    exact End_ret () (.tmp rfl rfl .nil) rfl (.sel .nil)
  rw [if_neg (by rw [hb22]; exact Bool.false_ne_true)] at hF
  refine CW_skip (CW_region (Cm (.int .i64 (k4 : Int)) rfl rfl ?_))
  refine C_val (V_add (i := (k4 : Int)) (j := 1) (.tmp rfl rfl) (.int _ _)) ?_
  refine Ca (.int .i64 (IntKind.i64.wrap ((k4 : Int) + 1))) rfl rfl ?_
  refine C_nil ?_
  have hw21 : IntKind.i64.wrap ((k4 : Int) + 1) = ((k4 + 1 : Nat) : Int) := by rw [wrap_in (by omega) (by omega)]; rfl
  rw [hw21]
  exact ⟨_, Nat.lt_succ_self _, _, k4 + 1, rest5, rfl, (EqL.cons rfl (EqL.cons rfl (EqL.cons rfl (EqL.nil)))).eq, hd10, (.sel (.rd (.t (.t .h)) rfl (.rd (.t (.t (.t .h))) rfl .nil))), hF⟩

/-! laws.eqMethod -/
def l_eqMethod (a_a : Method) (a_b : Method) : Option (Bool) :=
  if ((a_a.Rel : Int) != a_b.Rel) then (
    some false)
  else (
    (l_eqIntS a_a.Inputs a_b.Inputs).bind fun r3 =>
    if (!r3) then (
      some false)
    else (
      if ((a_a.Limit : Int) != a_b.Limit) then (
        some false)
      else (
        if ((a_a.Cost : Int) != a_b.Cost) then (
          some false)
        else (
          if ((a_a.Quota : Int) != a_b.Quota) then (
            some false)
          else (
            some true)))))
theorem l_eqMethod_ok (a_a : Method) (v0_1 : Sv) (a_b : Method) (v1_1 : Sv) (R : Bool) (hF : l_eqMethod a_a a_b = some R) :
    Fw.Spec Tryz.prog 72 [(.agg [(.int .i64 a_a.Rel), v0_1.v, (.int .i64 a_a.Limit), (.int .i64 a_a.Cost), (.int .i64 a_a.Quota)].toArray), (.agg [(.int .i64 a_b.Rel), v1_1.v, (.int .i64 a_b.Limit), (.int .i64 a_b.Cost), (.int .i64 a_b.Quota)].toArray)] [crd (RdS 3 rdInt) v0_1.v a_a.Inputs, crd (RdS 3 rdInt) v1_1.v a_b.Inputs] (fun _ : Unit => (.bool R)) (fun _ => []) := by
  refine Spec_enter (n := 31) Tryz.func72 rfl rfl (rs := [.tmp 4]) rfl rfl rfl ?_
  intro H0 F0
  unfold l_eqMethod at hF
  refine K_region (C_newR rfl (N_box (g := false) (v := (.agg [(.int .i64 a_a.Rel), v0_1.v, (.int .i64 a_a.Limit), (.int .i64 a_a.Cost), (.int .i64 a_a.Quota)].toArray)) ty112.sz (.tmp rfl rfl) rfl) (fun k1 => ?_))
  refine C_newR rfl (N_box (g := false) (v := (.agg [(.int .i64 a_b.Rel), v1_1.v, (.int .i64 a_b.Limit), (.int .i64 a_b.Cost), (.int .i64 a_b.Quota)].toArray)) ty112.sz (.tmp rfl rfl) rfl) (fun k2 => ?_)
  refine C_val (V_assign (v := (.bool false)) (.bool _)) ?_
  refine C_nil (K_in (K_region (C_val (V_fieldAddr (off := 0) fd112_0 (.tmp rfl rfl)) ?_)))
  refine C_at (.t .h) (fun hp => V_load (v := (.int .i64 a_a.Rel)) ag3 (.tmp rfl rfl) hp.2 rfl rfl) ?_
  refine C_val (V_fieldAddr (off := 0) fd112_0 (.tmp rfl rfl)) ?_
  refine C_at .h (fun hp => V_load (v := (.int .i64 a_b.Rel)) ag3 (.tmp rfl rfl) hp.2 rfl rfl) ?_
  refine C_val (V_neq (i := a_a.Rel) (j := a_b.Rel) (.tmp rfl rfl) (.tmp rfl rfl)) ?_
  refine C_nil (CW_cond (b := ((a_a.Rel : Int) != a_b.Rel)) (.tmp rfl rfl) (fun hb10 => ?_) (fun hb10 => ?_))
  · rw [if_pos hb10] at hF
    refine K_region (C_val (V_assign (v := (.bool false)) (.bool _)) ?_)
    refine C_nil (CW_ret ?_)
    obtain rfl := Option.some.inj hF
    exact End_ret () (.tmp rfl rfl .nil) rfl (.sel .nil)
  rw [if_neg (by rw [hb10]; exact Bool.false_ne_true)] at hF
  refine CW_skip (K_in (K_region (C_val (V_fieldAddr (off := 1) fd112_1 (.tmp rfl rfl)) ?_)))
  refine C_at (.t .h) (fun hp => V_load (v := v0_1.v) ag22 (.tmp rfl rfl) hp.2 rfl rfl) ?_
  refine C_val (V_fieldAddr (off := 1) fd112_1 (.tmp rfl rfl)) ?_
  refine C_at .h (fun hp => V_load (v := v1_1.v) ag22 (.tmp rfl rfl) hp.2 rfl rfl) ?_
  obtain ⟨r3, hx4, hF⟩ := bind_some hF
  refine C_x0 (.rd (.t (.t .h)) rfl (.rd (.t (.t (.t .h))) rfl .nil)) (X_callS cf22 (.cons (.tmp rfl rfl) (.cons (.tmp rfl rfl) .nil)) (l_eqIntS_ok a_a.Inputs v0_1 a_b.Inputs v1_1 _ hx4)) (fun _ => ?_)
  refine C_val (V_not (b := r3) (.tmp rfl rfl)) ?_
  refine C_nil (CW_cond (b := (!r3)) (.tmp rfl rfl) (fun hb9 => ?_) (fun hb9 => ?_))
  · rw [if_pos hb9] at hF
    refine K_region (C_val (V_assign (v := (.bool false)) (.bool _)) ?_)
    refine C_nil (CW_ret ?_)
    obtain rfl := Option.some.inj hF
    exact End_ret () (.tmp rfl rfl .nil) rfl (.sel .nil)
  rw [if_neg (by rw [hb9]; exact Bool.false_ne_true)] at hF
  refine CW_skip (K_in (K_region (C_val (V_fieldAddr (off := 2) fd112_2 (.tmp rfl rfl)) ?_)))
  refine C_at (.t .h) (fun hp => V_load (v := (.int .i64 a_a.Limit)) ag3 (.tmp rfl rfl) hp.2 rfl rfl) ?_
  refine C_val (V_fieldAddr (off := 2) fd112_2 (.tmp rfl rfl)) ?_
  refine C_at .h (fun hp => V_load (v := (.int .i64 a_b.Limit)) ag3 (.tmp rfl rfl) hp.2 rfl rfl) ?_
  refine C_val (V_neq (i := a_a.Limit) (j := a_b.Limit) (.tmp rfl rfl) (.tmp rfl rfl)) ?_
  refine C_nil (CW_cond (b := ((a_a.Limit : Int) != a_b.Limit)) (.tmp rfl rfl) (fun hb8 => ?_) (fun hb8 => ?_))
  · rw [if_pos hb8] at hF
    refine K_region (C_val (V_assign (v := (.bool false)) (.bool _)) ?_)
    refine C_nil (CW_ret ?_)
    obtain rfl := Option.some.inj hF
    exact End_ret () (.tmp rfl rfl .nil) rfl (.sel .nil)
  rw [if_neg (by rw [hb8]; exact Bool.false_ne_true)] at hF
  refine CW_skip (K_in (K_region (C_val (V_fieldAddr (off := 3) fd112_3 (.tmp rfl rfl)) ?_)))
  refine C_at (.t .h) (fun hp => V_load (v := (.int .i64 a_a.Cost)) ag3 (.tmp rfl rfl) hp.2 rfl rfl) ?_
  refine C_val (V_fieldAddr (off := 3) fd112_3 (.tmp rfl rfl)) ?_
  refine C_at .h (fun hp => V_load (v := (.int .i64 a_b.Cost)) ag3 (.tmp rfl rfl) hp.2 rfl rfl) ?_
  refine C_val (V_neq (i := a_a.Cost) (j := a_b.Cost) (.tmp rfl rfl) (.tmp rfl rfl)) ?_
  refine C_nil (CW_cond (b := ((a_a.Cost : Int) != a_b.Cost)) (.tmp rfl rfl) (fun hb7 => ?_) (fun hb7 => ?_))
  · rw [if_pos hb7] at hF
    refine K_region (C_val (V_assign (v := (.bool false)) (.bool _)) ?_)
    refine C_nil (CW_ret ?_)
    obtain rfl := Option.some.inj hF
    exact End_ret () (.tmp rfl rfl .nil) rfl (.sel .nil)
  rw [if_neg (by rw [hb7]; exact Bool.false_ne_true)] at hF
  refine CW_skip (K_in (K_region (C_val (V_fieldAddr (off := 4) fd112_4 (.tmp rfl rfl)) ?_)))
  refine C_at (.t .h) (fun hp => V_load (v := (.int .i64 a_a.Quota)) ag3 (.tmp rfl rfl) hp.2 rfl rfl) ?_
  refine C_val (V_fieldAddr (off := 4) fd112_4 (.tmp rfl rfl)) ?_
  refine C_at .h (fun hp => V_load (v := (.int .i64 a_b.Quota)) ag3 (.tmp rfl rfl) hp.2 rfl rfl) ?_
  refine C_val (V_neq (i := a_a.Quota) (j := a_b.Quota) (.tmp rfl rfl) (.tmp rfl rfl)) ?_
  refine C_nil (CW_cond (b := ((a_a.Quota : Int) != a_b.Quota)) (.tmp rfl rfl) (fun hb6 => ?_) (fun hb6 => ?_))
  · rw [if_pos hb6] at hF
    refine K_region (C_val (V_assign (v := (.bool false)) (.bool _)) ?_)
    refine C_nil (CW_ret ?_)
    obtain rfl := Option.some.inj hF
    exact End_ret () (.tmp rfl rfl .nil) rfl (.sel .nil)
  rw [if_neg (by rw [hb6]; exact Bool.false_ne_true)] at hF
  refine CW_skip (K_region (C_val (V_assign (v := (.bool true)) (.bool _)) ?_))
  refine C_nil (CW_ret ?_)
  obtain rfl := Option.some.inj hF
  exact End_ret () (.tmp rfl rfl .nil) rfl (.sel .nil)

/-! laws.eqMethodS -/
def l_eqMethodS_L1 (a_b : List Method) : List Method → Nat → Option (Bool)
  | [], k4 => some true
  | x6 :: rest5, k4 => (ix a_b (k4 : Int)).bind fun x16 =>
    (l_eqMethod x6 x16).bind fun r23 =>
    if (!r23) then (
      some false)
    else (
      l_eqMethodS_L1 a_b rest5 (k4 + 1))
def l_eqMethodS (a_a : List Method) (a_b : List Method) : Option (Bool) :=
  if (((a_a.length : Int) : Int) != (a_b.length : Int)) then (
    some false)
  else (
    l_eqMethodS_L1 a_b a_a 0)
theorem l_eqMethodS_ok (a_a : List Method) (v0_0 : Sv) (a_b : List Method) (v1_0 : Sv) (R : Bool) (hF : l_eqMethodS a_a a_b = some R) :
    Fw.Spec Tryz.prog 23 [v0_0.v, v1_0.v] [crd (RdS 112 rd112) v0_0.v a_a, crd (RdS 112 rd112) v1_0.v a_b] (fun _ : Unit => (.bool R)) (fun _ => []) := by
  refine Spec_enter (n := 27) Tryz.func23 rfl rfl (rs := [.tmp 4]) rfl rfl rfl ?_
  intro H0 F0
  unfold l_eqMethodS at hF
  refine K_region (C_val (V_assign (v := (.bool false)) (.bool _)) ?_)
  refine C_nil (K_in (K_region (Cm v0_0.v rfl rfl ?_)))
  refine C_at .h (fun hp => V_lenR (l := a_a.length) sl38 (.tmp rfl rfl) (crd_len hp)) ?_
  refine Cm v1_0.v rfl rfl ?_
  refine C_at (.t .h) (fun hp => V_lenR (l := a_b.length) sl38 (.tmp rfl rfl) (crd_len hp)) ?_
  refine C_val (V_neq (i := (a_a.length : Int)) (j := (a_b.length : Int)) (.tmp rfl rfl) (.tmp rfl rfl)) ?_
  refine C_nil (CW_cond (b := (((a_a.length : Int) : Int) != (a_b.length : Int))) (.tmp rfl rfl) (fun hb28 => ?_) (fun hb28 => ?_))
  · rw [if_pos hb28] at hF
    refine K_region (C_val (V_assign (v := (.bool false)) (.bool _)) ?_)
    refine C_nil (CW_ret ?_)
    obtain rfl := Option.some.inj hF
    exact End_ret () (.tmp rfl rfl .nil) rfl (.sel .nil)
  rw [if_neg (by rw [hb28]; exact Bool.false_ne_true)] at hF
  refine CW_skip (K_in (K_region (C_val (V_assign (v := (.int .i64 0)) (.int _ _)) ?_)))
  refine C_nil (CW_block (CW_loop (m := a_a.length) (fun m2 f' cs' => ∃ (g : Fr) (k4 : Nat) (rest5 : List Method), m2 = rest5.length ∧ f' = updL g [(0, v0_0.v), (1, v1_0.v), (5, (.int .i64 (k4 : Int)))] ∧ List.drop k4 a_a = rest5 ∧ Ent cs' [crd (RdS 112 rd112) v0_0.v a_a, crd (RdS 112 rd112) v1_0.v a_b] ∧ l_eqMethodS_L1 a_b rest5 k4 = some R) ⟨_, 0, _, rfl, (EqL.cons rfl (EqL.cons rfl (EqL.cons rfl (EqL.nil)))).eq, rfl, (.sel (.rd .h rfl (.rd (.t .h) rfl .nil))), hF⟩ ?_))
  clear hF
  rintro m2 _ _ ⟨g3, k4, rest5, rfl, rfl, hd7, hE, hF⟩
  refine K_ent hE ?_
  clear hE
  refine K_pure (c := crd (RdS 112 rd112) v0_0.v a_a) .h crd_bound (fun hbd12 => ?_)
  rcases rest5 with _ | ⟨x6, rest5⟩
  · have hk8 := List.drop_eq_nil_iff.1 hd7
    have hfe11 : (decide (((k4 : Int) : Int) < (a_a.length : Int))) = false := decide_eq_false (by omega)
    rw [l_eqMethodS_L1] at hF
    refine K_in (K_region (Cm (.int .i64 (k4 : Int)) rfl rfl ?_))
    refine Cm v0_0.v rfl rfl ?_
    refine C_at .h (fun hp => V_lenR (l := a_a.length) sl38 (.tmp rfl rfl) (crd_len hp)) ?_
    refine C_val (V_lss (i := (k4 : Int)) (j := (a_a.length : Int)) (.tmp rfl rfl) (.tmp rfl rfl)) ?_
    refine C_nil (CW_cond (b := (decide (((k4 : Int) : Int) < (a_a.length : Int)))) (.tmp rfl rfl) (fun hb => absurd (hfe11.symm.trans hb) (by decide)) (fun _ => ?_))
    refine CW_exit ?_
    iterate 2 refine CThen_exit ?_
    refine CIn_self (K_region (C_val (V_assign (v := (.bool true)) (.bool _)) ?_))
    refine C_nil (CW_ret ?_)
    obtain rfl := Option.some.inj hF
    exact End_ret () (.tmp rfl rfl .nil) rfl (.sel .nil)
  obtain ⟨hk8, hx9, hd10⟩ := drop_cons hd7
  have hfe11 : (decide (((k4 : Int) : Int) < (a_a.length : Int))) = true := decide_eq_true (by omega)
  rw [l_eqMethodS_L1] at hF
  refine K_in (K_region (Cm (.int .i64 (k4 : Int)) rfl rfl ?_))
  refine Cm v0_0.v rfl rfl ?_
  refine C_at .h (fun hp => V_lenR (l := a_a.length) sl38 (.tmp rfl rfl) (crd_len hp)) ?_
  refine C_val (V_lss (i := (k4 : Int)) (j := (a_a.length : Int)) (.tmp rfl rfl) (.tmp rfl rfl)) ?_
  refine C_nil (CW_cond (b := (decide (((k4 : Int) : Int) < (a_a.length : Int)))) (.tmp rfl rfl) (fun _ => ?_) (fun hb => absurd (hfe11.symm.trans hb) (by decide)))
  refine CW_skip (K_block (K_draw [0, 1, 2, 3, 4, 5, 6, 7, 8, 9] [0, 0, 3, 7, 0, 0, 48, 112, 255, 511] [8] mixed (by decide +kernel) ?_))
  refine Dm v0_0.v rfl rfl rfl rfl ?_
  refine Dm (.int .i64 (k4 : Int)) rfl rfl rfl rfl ?_
  refine D_idx (a := x6) sl38 ty112.sz rfl .no (.tmp rfl rfl) (.tmp rfl rfl) rfl rfl .h (Int.natCast_nonneg k4) hx9 (fun k13 j14 => ?_)
  refine D_ldA1 (ul112_0_112 x6) ag112 ty112.sz rfl rfl .no (.tmp rfl rfl) rfl .h la112_0_112 (fun p15 => ?_)
  refine Dm v1_0.v rfl rfl rfl rfl ?_
  refine Dm (.int .i64 (k4 : Int)) rfl rfl rfl rfl ?_
  obtain ⟨x16, hx17, hF⟩ := bind_some hF
  obtain ⟨hp18, hx19⟩ := ix_some hx17
  refine D_idx (a := x16) sl38 ty112.sz rfl .no (.tmp rfl rfl) (.tmp rfl rfl) rfl rfl (.t (.t (.t .h))) hp18 hx19 (fun k20 j21 => ?_)
  refine D_ldA1 (ul112_0_112 x16) ag112 ty112.sz rfl rfl .no (.tmp rfl rfl) rfl .h la112_0_112 (fun p22 => ?_)
  obtain ⟨r23, hx24, hF⟩ := bind_some hF
  refine D_act0 rfl rfl .no (.rd (.t (.t .h)) rfl (.rd .h rfl .nil)) .nil (fun ha => X_callS cf72 (.cons (EN ha (.tmp rfl rfl) rfl) (.cons (EN ha (.tmp rfl rfl) rfl) .nil)) (l_eqMethod_ok x6 p15 x16 p22 _ hx24)) (fun _ => ?_)
  refine D_val rfl .no (fun ha => V_not (b := r23) (EN ha (.tmp rfl rfl) rfl)) ?_
  refine D_nil (CW_cond (b := (!r23)) (.tmp rfl rfl) (fun hb27 => ?_) (fun hb27 => ?_))
  · rw [if_pos hb27] at hF
    refine K_region (C_val (V_assign (v := (.bool false)) (.bool _)) ?_)
    refine C_nil (CW_ret ?_)
    obtain rfl := Option.some.inj hF
    exact End_ret () (.tmp rfl rfl .nil) rfl (.sel .nil)
  rw [if_neg (by rw [hb27]; exact Bool.false_ne_true)] at hF
  refine CW_skip (CW_region (Cm (.int .i64 (k4 : Int)) rfl rfl ?_))
  refine C_val (V_add (i := (k4 : Int)) (j := 1) (.tmp rfl rfl) (.int _ _)) ?_
  refine Ca (.int .i64 (IntKind.i64.wrap ((k4 : Int) + 1))) rfl rfl ?_
  refine C_nil ?_
  have hw26 : IntKind.i64.wrap ((k4 : Int) + 1) = ((k4 + 1 : Nat) : Int) := by rw [wrap_in (by omega) (by omega)]; rfl
  rw [hw26]
  exact ⟨_, Nat.lt_succ_self _, _, k4 + 1, rest5, rfl, (EqL.cons rfl (EqL.cons rfl (EqL.cons rfl (EqL.nil)))).eq, hd10, (.sel (.rd (.t (.t (.t (.t .h)))) rfl (.rd (.t (.t (.t (.t (.t .h))))) rfl .nil))), hF⟩

/-! laws.eqFact -/
def l_eqFact (a_a : Fact) (a_b : Fact) : Option (Bool) :=
  if ((a_a.Rel : Int) != a_b.Rel) then (
    some false)
  else (
    (l_eqIntS a_a.Values a_b.Values).bind fun r3 =>
    if (!r3) then (
      some false)
    else (
      some true))
theorem l_eqFact_ok (a_a : Fact) (v0_1 : Sv) (a_b : Fact) (v1_1 : Sv) (R : Bool) (hF : l_eqFact a_a a_b = some R) :
    Fw.Spec Tryz.prog 73 [(.agg [(.int .i64 a_a.Rel), v0_1.v].toArray), (.agg [(.int .i64 a_b.Rel), v1_1.v].toArray)] [crd (RdS 3 rdInt) v0_1.v a_a.Values, crd (RdS 3 rdInt) v1_1.v a_b.Values] (fun _ : Unit => (.bool R)) (fun _ => []) := by
  refine Spec_enter (n := 16) Tryz.func73 rfl rfl (rs := [.tmp 4]) rfl rfl rfl ?_
  intro H0 F0
  unfold l_eqFact at hF
  refine K_region (C_newR rfl (N_box (g := false) (v := (.agg [(.int .i64 a_a.Rel), v0_1.v].toArray)) ty114.sz (.tmp rfl rfl) rfl) (fun k1 => ?_))
  refine C_newR rfl (N_box (g := false) (v := (.agg [(.int .i64 a_b.Rel), v1_1.v].toArray)) ty114.sz (.tmp rfl rfl) rfl) (fun k2 => ?_)
  refine C_val (V_assign (v := (.bool false)) (.bool _)) ?_
  refine C_nil (K_in (K_region (C_val (V_fieldAddr (off := 0) fd114_0 (.tmp rfl rfl)) ?_)))
  refine C_at (.t .h) (fun hp => V_load (v := (.int .i64 a_a.Rel)) ag3 (.tmp rfl rfl) hp.2 rfl rfl) ?_
  refine C_val (V_fieldAddr (off := 0) fd114_0 (.tmp rfl rfl)) ?_
  refine C_at .h (fun hp => V_load (v := (.int .i64 a_b.Rel)) ag3 (.tmp rfl rfl) hp.2 rfl rfl) ?_
  refine C_val (V_neq (i := a_a.Rel) (j := a_b.Rel) (.tmp rfl rfl) (.tmp rfl rfl)) ?_
  refine C_nil (CW_cond (b := ((a_a.Rel : Int) != a_b.Rel)) (.tmp rfl rfl) (fun hb7 => ?_) (fun hb7 => ?_))
  · rw [if_pos hb7] at hF
    refine K_region (C_val (V_assign (v := (.bool false)) (.bool _)) ?_)
    refine C_nil (CW_ret ?_)
    obtain rfl := Option.some.inj hF
    exact End_ret () (.tmp rfl rfl .nil) rfl (.sel .nil)
  rw [if_neg (by rw [hb7]; exact Bool.false_ne_true)] at hF
  refine CW_skip (K_in (K_region (C_val (V_fieldAddr (off := 1) fd114_1 (.tmp rfl rfl)) ?_)))
  refine C_at (.t .h) (fun hp => V_load (v := v0_1.v) ag22 (.tmp rfl rfl) hp.2 rfl rfl) ?_
  refine C_val (V_fieldAddr (off := 1) fd114_1 (.tmp rfl rfl)) ?_
  refine C_at .h (fun hp => V_load (v := v1_1.v) ag22 (.tmp rfl rfl) hp.2 rfl rfl) ?_
  obtain ⟨r3, hx4, hF⟩ := bind_some hF
  refine C_x0 (.rd (.t (.t .h)) rfl (.rd (.t (.t (.t .h))) rfl .nil)) (X_callS cf22 (.cons (.tmp rfl rfl) (.cons (.tmp rfl rfl) .nil)) (l_eqIntS_ok a_a.Values v0_1 a_b.Values v1_1 _ hx4)) (fun _ => ?_)
  refine C_val (V_not (b := r3) (.tmp rfl rfl)) ?_
  refine C_nil (CW_cond (b := (!r3)) (.tmp rfl rfl) (fun hb6 => ?_) (fun hb6 => ?_))
  · rw [if_pos hb6] at hF
    refine K_region (C_val (V_assign (v := (.bool false)) (.bool _)) ?_)
    refine C_nil (CW_ret ?_)
    obtain rfl := Option.some.inj hF
    exact End_ret () (.tmp rfl rfl .nil) rfl (.sel .nil)
  rw [if_neg (by rw [hb6]; exact Bool.false_ne_true)] at hF
  refine CW_skip (K_region (C_val (V_assign (v := (.bool true)) (.bool _)) ?_))
  refine C_nil (CW_ret ?_)
  obtain rfl := Option.some.inj hF
  exact End_ret () (.tmp rfl rfl .nil) rfl (.sel .nil)

/-! laws.eqFactS -/
def l_eqFactS_L1 (a_b : List Fact) : List Fact → Nat → Option (Bool)
  | [], k4 => some true
  | x6 :: rest5, k4 => (ix a_b (k4 : Int)).bind fun x16 =>
    (l_eqFact x6 x16).bind fun r23 =>
    if (!r23) then (
      some false)
    else (
      l_eqFactS_L1 a_b rest5 (k4 + 1))
def l_eqFactS (a_a : List Fact) (a_b : List Fact) : Option (Bool) :=
  if (((a_a.length : Int) : Int) != (a_b.length : Int)) then (
    some false)
  else (
    l_eqFactS_L1 a_b a_a 0)
theorem l_eqFactS_ok (a_a : List Fact) (v0_0 : Sv) (a_b : List Fact) (v1_0 : Sv) (R : Bool) (hF : l_eqFactS a_a a_b = some R) :
    Fw.Spec Tryz.prog 24 [v0_0.v, v1_0.v] [crd (RdS 114 rd114) v0_0.v a_a, crd (RdS 114 rd114) v1_0.v a_b] (fun _ : Unit => (.bool R)) (fun _ => []) := by
  refine Spec_enter (n := 27) Tryz.func24 rfl rfl (rs := [.tmp 4]) rfl rfl rfl ?_
  intro H0 F0
  unfold l_eqFactS at hF
  refine K_region (C_val (V_assign (v := (.bool false)) (.bool _)) ?_)
  refine C_nil (K_in (K_region (Cm v0_0.v rfl rfl ?_)))
  refine C_at .h (fun hp => V_lenR (l := a_a.length) sl40 (.tmp rfl rfl) (crd_len hp)) ?_
  refine Cm v1_0.v rfl rfl ?_
  refine C_at (.t .h) (fun hp => V_lenR (l := a_b.length) sl40 (.tmp rfl rfl) (crd_len hp)) ?_
  refine C_val (V_neq (i := (a_a.length : Int)) (j := (a_b.length : Int)) (.tmp rfl rfl) (.tmp rfl rfl)) ?_
  refine C_nil (CW_cond (b := (((a_a.length : Int) : Int) != (a_b.length : Int))) (.tmp rfl rfl) (fun hb28 => ?_) (fun hb28 => ?_))
  · rw [if_pos hb28] at hF
    refine K_region (C_val (V_assign (v := (.bool false)) (.bool _)) ?_)
    refine C_nil (CW_ret ?_)
    obtain rfl := Option.some.inj hF
    exact End_ret () (.tmp rfl rfl .nil) rfl (.sel .nil)
  rw [if_neg (by rw [hb28]; exact Bool.false_ne_true)] at hF
  refine CW_skip (K_in (K_region (C_val (V_assign (v := (.int .i64 0)) (.int _ _)) ?_)))
  refine C_nil (CW_block (CW_loop (m := a_a.length) (fun m2 f' cs' => ∃ (g : Fr) (k4 : Nat) (rest5 : List Fact), m2 = rest5.length ∧ f' = updL g [(0, v0_0.v), (1, v1_0.v), (5, (.int .i64 (k4 : Int)))] ∧ List.drop k4 a_a = rest5 ∧ Ent cs' [crd (RdS 114 rd114) v0_0.v a_a, crd (RdS 114 rd114) v1_0.v a_b] ∧ l_eqFactS_L1 a_b rest5 k4 = some R) ⟨_, 0, _, rfl, (EqL.cons rfl (EqL.cons rfl (EqL.cons rfl (EqL.nil)))).eq, rfl, (.sel (.rd .h rfl (.rd (.t .h) rfl .nil))), hF⟩ ?_))
  clear hF
  rintro m2 _ _ ⟨g3, k4, rest5, rfl, rfl, hd7, hE, hF⟩
  refine K_ent hE ?_
  clear hE
  refine K_pure (c := crd (RdS 114 rd114) v0_0.v a_a) .h crd_bound (fun hbd12 => ?_)
  rcases rest5 with _ | ⟨x6, rest5⟩
  · have hk8 := List.drop_eq_nil_iff.1 hd7
    have hfe11 : (decide (((k4 : Int) : Int) < (a_a.length : Int))) = false := decide_eq_false (by omega)
    rw [l_eqFactS_L1] at hF
    refine K_in (K_region (Cm (.int .i64 (k4 : Int)) rfl rfl ?_))
    refine Cm v0_0.v rfl rfl ?_
    refine C_at .h (fun hp => V_lenR (l := a_a.length) sl40 (.tmp rfl rfl) (crd_len hp)) ?_
    refine C_val (V_lss (i := (k4 : Int)) (j := (a_a.length : Int)) (.tmp rfl rfl) (.tmp rfl rfl)) ?_
    refine C_nil (CW_cond (b := (decide (((k4 : Int) : Int) < (a_a.length : Int)))) (.tmp rfl rfl) (fun hb => absurd (hfe11.symm.trans hb) (by decide)) (fun _ => ?_))
    refine CW_exit ?_
    iterate 2 refine CThen_exit ?_
    refine CIn_self (K_region (C_val (V_assign (v := (.bool true)) (.bool _)) ?_))
    refine C_nil (CW_ret ?_)
    obtain rfl := Option.some.inj hF
    exact End_ret () (.tmp rfl rfl .nil) rfl (.sel .nil)
  obtain ⟨hk8, hx9, hd10⟩ := drop_cons hd7
  have hfe11 : (decide (((k4 : Int) : Int) < (a_a.length : Int))) = true := decide_eq_true (by omega)
  rw [l_eqFactS_L1] at hF
  refine K_in (K_region (Cm (.int .i64 (k4 : Int)) rfl rfl ?_))
  refine Cm v0_0.v rfl rfl ?_
  refine C_at .h (fun hp => V_lenR (l := a_a.length) sl40 (.tmp rfl rfl) (crd_len hp)) ?_
  refine C_val (V_lss (i := (k4 : Int)) (j := (a_a.length : Int)) (.tmp rfl rfl) (.tmp rfl rfl)) ?_
  refine C_nil (CW_cond (b := (decide (((k4 : Int) : Int) < (a_a.length : Int)))) (.tmp rfl rfl) (fun _ => ?_) (fun hb => absurd (hfe11.symm.trans hb) (by decide)))
  refine CW_skip (K_block (K_draw [0, 1, 2, 3, 4, 5, 6, 7, 8, 9] [0, 0, 3, 7, 0, 0, 48, 112, 255, 511] [8] mixed (by decide +kernel) ?_))
  refine Dm v0_0.v rfl rfl rfl rfl ?_
  refine Dm (.int .i64 (k4 : Int)) rfl rfl rfl rfl ?_
  refine D_idx (a := x6) sl40 ty114.sz rfl .no (.tmp rfl rfl) (.tmp rfl rfl) rfl rfl .h (Int.natCast_nonneg k4) hx9 (fun k13 j14 => ?_)
  refine D_ldA1 (ul114_0_114 x6) ag114 ty114.sz rfl rfl .no (.tmp rfl rfl) rfl .h la114_0_114 (fun p15 => ?_)
  refine Dm v1_0.v rfl rfl rfl rfl ?_
  refine Dm (.int .i64 (k4 : Int)) rfl rfl rfl rfl ?_
  obtain ⟨x16, hx17, hF⟩ := bind_some hF
  obtain ⟨hp18, hx19⟩ := ix_some hx17
  refine D_idx (a := x16) sl40 ty114.sz rfl .no (.tmp rfl rfl) (.tmp rfl rfl) rfl rfl (.t (.t (.t .h))) hp18 hx19 (fun k20 j21 => ?_)
  refine D_ldA1 (ul114_0_114 x16) ag114 ty114.sz rfl rfl .no (.tmp rfl rfl) rfl .h la114_0_114 (fun p22 => ?_)
  obtain ⟨r23, hx24, hF⟩ := bind_some hF
  refine D_act0 rfl rfl .no (.rd (.t (.t .h)) rfl (.rd .h rfl .nil)) .nil (fun ha => X_callS cf73 (.cons (EN ha (.tmp rfl rfl) rfl) (.cons (EN ha (.tmp rfl rfl) rfl) .nil)) (l_eqFact_ok x6 p15 x16 p22 _ hx24)) (fun _ => ?_)
  refine D_val rfl .no (fun ha => V_not (b := r23) (EN ha (.tmp rfl rfl) rfl)) ?_
  refine D_nil (CW_cond (b := (!r23)) (.tmp rfl rfl) (fun hb27 => ?_) (fun hb27 => ?_))
  · rw [if_pos hb27] at hF
    refine K_region (C_val (V_assign (v := (.bool false)) (.bool _)) ?_)
    refine C_nil (CW_ret ?_)
    obtain rfl := Option.some.inj hF
    exact End_ret () (.tmp rfl rfl .nil) rfl (.sel .nil)
  rw [if_neg (by rw [hb27]; exact Bool.false_ne_true)] at hF
  refine CW_skip (CW_region (Cm (.int .i64 (k4 : Int)) rfl rfl ?_))
  refine C_val (V_add (i := (k4 : Int)) (j := 1) (.tmp rfl rfl) (.int _ _)) ?_
  refine Ca (.int .i64 (IntKind.i64.wrap ((k4 : Int) + 1))) rfl rfl ?_
  refine C_nil ?_
  have hw26 : IntKind.i64.wrap ((k4 : Int) + 1) = ((k4 + 1 : Nat) : Int) := by rw [wrap_in (by omega) (by omega)]; rfl
  rw [hw26]
  exact ⟨_, Nat.lt_succ_self _, _, k4 + 1, rest5, rfl, (EqL.cons rfl (EqL.cons rfl (EqL.cons rfl (EqL.nil)))).eq, hd10, (.sel (.rd (.t (.t (.t (.t .h)))) rfl (.rd (.t (.t (.t (.t (.t .h))))) rfl .nil))), hF⟩

/-! laws.FnExactReachLine -/
def l_FnExactReachLine (fuel : Nat) (a_aS : List Int) (a_aL : List Method) (a_aFacts : List Fact) (a_aSeeds : List Int) : Option (Bool) :=
  if (decide ((1048576 : Int) < (a_aS.length : Int))) then (
    some true)
  else (
    if (decide ((1048576 : Int) < (a_aSeeds.length : Int))) then (
      some true)
    else (
      (l_szMethodS a_aL 1048576).bind fun r1 =>
      if (decide ((r1 : Int) < 0)) then (
        some true)
      else (
        (l_szFactS a_aFacts r1).bind fun r4 =>
        if (decide ((r4 : Int) < 0)) then (
          some true)
        else (
          (l_toIntS a_aS).bind fun r7 =>
          (l_toMethodS a_aL).bind fun r10 =>
          (l_toFactS a_aFacts).bind fun r13 =>
          (l_toIntS a_aSeeds).bind fun r16 =>
          (s_ReachLine fuel r7 r10 r13 r16).bind fun r19 =>
          (l_toIntS a_aS).bind fun r22 =>
          (l_toMethodS a_aL).bind fun r25 =>
          (l_toFactS a_aFacts).bind fun r28 =>
          (l_toIntS a_aSeeds).bind fun r31 =>
          (i_ReachLine r22 r25 r28 r31).bind fun r34 =>
          if (!(r34 == r19)) then (
            some false)
          else (
            (l_toIntS a_aS).bind fun r37 =>
            (l_eqIntS r22 r37).bind fun r40 =>
            if (!r40) then (
              some false)
            else (
              (l_toMethodS a_aL).bind fun r43 =>
              (l_eqMethodS r25 r43).bind fun r46 =>
              if (!r46) then (
                some false)
              else (
                (l_toFactS a_aFacts).bind fun r49 =>
                (l_eqFactS r28 r49).bind fun r52 =>
                if (!r52) then (
                  some false)
                else (
                  (l_toIntS a_aSeeds).bind fun r55 =>
                  (l_eqIntS r31 r55).bind fun r58 =>
                  if (!r58) then (
                    some false)
                  else (
                    some true)))))))))
theorem l_FnExactReachLine_ok (fuel : Nat) (a_aS : List Int) (v0_0 : Sv) (a_aL : List Method) (v1_0 : Sv) (a_aFacts : List Fact) (v2_0 : Sv) (a_aSeeds : List Int) (v3_0 : Sv) (R : Bool) (hF : l_FnExactReachLine fuel a_aS a_aL a_aFacts a_aSeeds = some R) :
    Fw.Spec Tryz.prog 4 [v0_0.v, v1_0.v, v2_0.v, v3_0.v] [crd (RdS 3 rdInt) v0_0.v a_aS, crd (RdS 103 rd103) v1_0.v a_aL, crd (RdS 106 rd106) v2_0.v a_aFacts, crd (RdS 3 rdInt) v3_0.v a_aSeeds] (fun _ : Unit => (.bool R)) (fun _ => []) := by
  refine Spec_enter (n := 77) Tryz.func4 rfl rfl (rs := [.tmp 8]) rfl rfl rfl ?_
  intro H0 F0
  unfold l_FnExactReachLine at hF
  refine K_region (C_val (V_assign (v := (.bool false)) (.bool _)) ?_)
  refine C_nil (K_in (K_region (Cm v0_0.v rfl rfl ?_)))
  refine C_at .h (fun hp => V_lenR (l := a_aS.length) sl22 (.tmp rfl rfl) (crd_len hp)) ?_
  refine C_val (V_gtr (i := (a_aS.length : Int)) (j := 1048576) (.tmp rfl rfl) (.int _ _)) ?_
  refine C_nil (CW_cond (b := (decide ((1048576 : Int) < (a_aS.length : Int)))) (.tmp rfl rfl) (fun hb69 => ?_) (fun hb69 => ?_))
  · rw [if_pos hb69] at hF
    refine K_region (C_val (V_assign (v := (.bool true)) (.bool _)) ?_)
    refine C_nil (CW_ret ?_)
    obtain rfl := Option.some.inj hF
    exact End_ret () (.tmp rfl rfl .nil) rfl (.sel .nil)
  rw [if_neg (by rw [hb69]; exact Bool.false_ne_true)] at hF
  refine CW_skip (K_in (K_region (Cm v3_0.v rfl rfl ?_)))
  refine C_at (.t (.t (.t .h))) (fun hp => V_lenR (l := a_aSeeds.length) sl22 (.tmp rfl rfl) (crd_len hp)) ?_
  refine C_val (V_gtr (i := (a_aSeeds.length : Int)) (j := 1048576) (.tmp rfl rfl) (.int _ _)) ?_
  refine C_nil (CW_cond (b := (decide ((1048576 : Int) < (a_aSeeds.length : Int)))) (.tmp rfl rfl) (fun hb68 => ?_) (fun hb68 => ?_))
  · rw [if_pos hb68] at hF
    refine K_region (C_val (V_assign (v := (.bool true)) (.bool _)) ?_)
    refine C_nil (CW_ret ?_)
    obtain rfl := Option.some.inj hF
    exact End_ret () (.tmp rfl rfl .nil) rfl (.sel .nil)
  rw [if_neg (by rw [hb68]; exact Bool.false_ne_true)] at hF
  refine CW_skip (K_region (C_val (V_assign (v := (.int .i64 1048576)) (.int _ _)) ?_))
  refine C_nil (K_region (Cm v1_0.v rfl rfl ?_))
  refine Cm (.int .i64 1048576) rfl rfl ?_
  obtain ⟨r1, hx2, hF⟩ := bind_some hF
  refine C_x0 (.rd (.t .h) rfl .nil) (X_callS cf15 (.cons (.tmp rfl rfl) (.cons (.tmp rfl rfl) .nil)) (l_szMethodS_ok a_aL v1_0 1048576 _ hx2)) (fun _ => ?_)
  refine Ca (.int .i64 r1) rfl rfl ?_
  refine C_nil (K_in (K_region (Cm (.int .i64 r1) rfl rfl ?_)))
  refine C_val (V_lss (i := r1) (j := 0) (.tmp rfl rfl) (.int _ _)) ?_
  refine C_nil (CW_cond (b := (decide ((r1 : Int) < 0))) (.tmp rfl rfl) (fun hb67 => ?_) (fun hb67 => ?_))
  · rw [if_pos hb67] at hF
    refine K_region (C_val (V_assign (v := (.bool true)) (.bool _)) ?_)
    refine C_nil (CW_ret ?_)
    obtain rfl := Option.some.inj hF
    exact End_ret () (.tmp rfl rfl .nil) rfl (.sel .nil)
  rw [if_neg (by rw [hb67]; exact Bool.false_ne_true)] at hF
  refine CW_skip (K_region (Cm v2_0.v rfl rfl ?_))
  refine Cm (.int .i64 r1) rfl rfl ?_
  obtain ⟨r4, hx5, hF⟩ := bind_some hF
  refine C_x0 (.rd (.t (.t .h)) rfl .nil) (X_callS cf16 (.cons (.tmp rfl rfl) (.cons (.tmp rfl rfl) .nil)) (l_szFactS_ok a_aFacts v2_0 r1 _ hx5)) (fun _ => ?_)
  refine Ca (.int .i64 r4) rfl rfl ?_
  refine C_nil (K_in (K_region (Cm (.int .i64 r4) rfl rfl ?_)))
  refine C_val (V_lss (i := r4) (j := 0) (.tmp rfl rfl) (.int _ _)) ?_
  refine C_nil (CW_cond (b := (decide ((r4 : Int) < 0))) (.tmp rfl rfl) (fun hb66 => ?_) (fun hb66 => ?_))
  · rw [if_pos hb66] at hF
    refine K_region (C_val (V_assign (v := (.bool true)) (.bool _)) ?_)
    refine C_nil (CW_ret ?_)
    obtain rfl := Option.some.inj hF
    exact End_ret () (.tmp rfl rfl .nil) rfl (.sel .nil)
  rw [if_neg (by rw [hb66]; exact Bool.false_ne_true)] at hF
  refine CW_skip (K_region (Cm v0_0.v rfl rfl ?_))
  obtain ⟨r7, hx8, hF⟩ := bind_some hF
  refine C_x1 (.rd .h rfl .nil) (X_callS cf18 (.cons (.tmp rfl rfl) .nil) (l_toIntS_ok a_aS v0_0 _ hx8)) (fun p9 => ?_)
  refine Cm v1_0.v rfl rfl ?_
  obtain ⟨r10, hx11, hF⟩ := bind_some hF
  refine C_x1 (.rd (.t (.t .h)) rfl .nil) (X_callS cf19 (.cons (.tmp rfl rfl) .nil) (l_toMethodS_ok a_aL v1_0 _ hx11)) (fun p12 => ?_)
  refine Cm v2_0.v rfl rfl ?_
  obtain ⟨r13, hx14, hF⟩ := bind_some hF
  refine C_x1 (.rd (.t (.t (.t (.t .h)))) rfl .nil) (X_callS cf20 (.cons (.tmp rfl rfl) .nil) (l_toFactS_ok a_aFacts v2_0 _ hx14)) (fun p15 => ?_)
  refine Cm v3_0.v rfl rfl ?_
  obtain ⟨r16, hx17, hF⟩ := bind_some hF
  refine C_x1 (.rd (.t (.t (.t (.t (.t (.t .h)))))) rfl .nil) (X_callS cf18 (.cons (.tmp rfl rfl) .nil) (l_toIntS_ok a_aSeeds v3_0 _ hx17)) (fun p18 => ?_)
  obtain ⟨r19, hx20, hF⟩ := bind_some hF
  refine C_x4 (.cons .h (.cons .h (.cons .h (.cons .h .nil)))) (XC_borL (pre := []) (.cons frz_own (.cons frz_own (.cons frz_own (.cons frz_own .nil)))) (fun _ => .nil) (X_callS cf17 (.cons (.tmp rfl rfl) (.cons (.tmp rfl rfl) (.cons (.tmp rfl rfl) (.cons (.tmp rfl rfl) .nil)))) (s_ReachLine_ok fuel r7 p9.1 r10 p12.1 r13 p15.1 r16 p18.1 _ hx20))) (fun _ => ?_)
  refine Ca (sv r19) rfl rfl ?_
  refine C_nil (K_region (Cm v0_0.v rfl rfl ?_))
  obtain ⟨r22, hx23, hF⟩ := bind_some hF
  refine C_x1 (.rd (.t (.t (.t (.t .h)))) rfl .nil) (X_callS cf18 (.cons (.tmp rfl rfl) .nil) (l_toIntS_ok a_aS v0_0 _ hx23)) (fun p24 => ?_)
  refine Ca p24.1.v rfl rfl ?_
  refine C_nil (K_region (Cm v1_0.v rfl rfl ?_))
  obtain ⟨r25, hx26, hF⟩ := bind_some hF
  refine C_x1 (.rd (.t (.t (.t (.t (.t (.t .h)))))) rfl .nil) (X_callS cf19 (.cons (.tmp rfl rfl) .nil) (l_toMethodS_ok a_aL v1_0 _ hx26)) (fun p27 => ?_)
  refine Ca p27.1.v rfl rfl ?_
  refine C_nil (K_region (Cm v2_0.v rfl rfl ?_))
  obtain ⟨r28, hx29, hF⟩ := bind_some hF
  refine C_x1 (.rd (.t (.t (.t (.t (.t (.t (.t (.t .h)))))))) rfl .nil) (X_callS cf20 (.cons (.tmp rfl rfl) .nil) (l_toFactS_ok a_aFacts v2_0 _ hx29)) (fun p30 => ?_)
  refine Ca p30.1.v rfl rfl ?_
  refine C_nil (K_region (Cm v3_0.v rfl rfl ?_))
  obtain ⟨r31, hx32, hF⟩ := bind_some hF
  refine C_x1 (.rd (.t (.t (.t (.t (.t (.t (.t (.t (.t (.t .h)))))))))) rfl .nil) (X_callS cf18 (.cons (.tmp rfl rfl) .nil) (l_toIntS_ok a_aSeeds v3_0 _ hx32)) (fun p33 => ?_)
  refine Ca p33.1.v rfl rfl ?_
  refine C_nil (K_region (Cm p24.1.v rfl rfl ?_))
  refine Cm p27.1.v rfl rfl ?_
  refine Cm p30.1.v rfl rfl ?_
  refine Cm p33.1.v rfl rfl ?_
  obtain ⟨r34, hx35, hF⟩ := bind_some hF
  refine C_x4 (.cons .h (.cons .h (.cons .h (.cons .h .nil)))) (XC_borL (pre := []) (.cons frz_own (.cons frz_own (.cons frz_own (.cons frz_own .nil)))) (fun _ => .nil) (X_callS cf21 (.cons (.tmp rfl rfl) (.cons (.tmp rfl rfl) (.cons (.tmp rfl rfl) (.cons (.tmp rfl rfl) .nil)))) (i_ReachLine_ok r22 p24.1 r25 p27.1 r28 p30.1 r31 p33.1 _ hx35))) (fun _ => ?_)
  refine Ca (sv r34) rfl rfl ?_
  refine C_nil (K_in (K_region (Cm (sv r34) rfl rfl ?_)))
  refine Cm (sv r19) rfl rfl ?_
  refine C_val (V_neT (s := r34) (t := r19) (.tmp rfl rfl) (.tmp rfl rfl)) ?_
  refine C_nil (CW_cond (b := (!(r34 == r19))) (.tmp rfl rfl) (fun hb65 => ?_) (fun hb65 => ?_))
  · rw [if_pos hb65] at hF
    refine K_region (C_val (V_assign (v := (.bool false)) (.bool _)) ?_)
    refine C_nil (CW_ret ?_)
    obtain rfl := Option.some.inj hF
    exact End_ret () (.tmp rfl rfl .nil) rfl (.sel .nil)
  rw [if_neg (by rw [hb65]; exact Bool.false_ne_true)] at hF
  refine CW_skip (K_in (K_region (Cm p24.1.v rfl rfl ?_)))
  refine Cm v0_0.v rfl rfl ?_
  obtain ⟨r37, hx38, hF⟩ := bind_some hF
  refine C_x1 (.rd (.t (.t (.t (.t (.t (.t (.t (.t .h)))))))) rfl .nil) (X_callS cf18 (.cons (.tmp rfl rfl) .nil) (l_toIntS_ok a_aS v0_0 _ hx38)) (fun p39 => ?_)
  obtain ⟨r40, hx41, hF⟩ := bind_some hF
  refine C_x2 (.cons .h (.cons (.t (.t (.t .h))) .nil)) (XC_borL (pre := []) (.cons frz_own (.cons frz_own .nil)) (fun _ => .nil) (X_callS cf22 (.cons (.tmp rfl rfl) (.cons (.tmp rfl rfl) .nil)) (l_eqIntS_ok r22 p24.1 r37 p39.1 _ hx41))) (fun _ => ?_)
  refine C_val (V_not (b := r40) (.tmp rfl rfl)) ?_
  refine C_nil (CW_cond (b := (!r40)) (.tmp rfl rfl) (fun hb64 => ?_) (fun hb64 => ?_))
  · rw [if_pos hb64] at hF
    refine K_region (C_val (V_assign (v := (.bool false)) (.bool _)) ?_)
    refine C_nil (CW_ret ?_)
    obtain rfl := Option.some.inj hF
    exact End_ret () (.tmp rfl rfl .nil) rfl (.sel .nil)
  rw [if_neg (by rw [hb64]; exact Bool.false_ne_true)] at hF
  refine CW_skip (K_in (K_region (Cm p27.1.v rfl rfl ?_)))
  refine Cm v1_0.v rfl rfl ?_
  obtain ⟨r43, hx44, hF⟩ := bind_some hF
  refine C_x1 (.rd (.t (.t (.t (.t (.t (.t (.t (.t (.t (.t .h)))))))))) rfl .nil) (X_callS cf19 (.cons (.tmp rfl rfl) .nil) (l_toMethodS_ok a_aL v1_0 _ hx44)) (fun p45 => ?_)
  obtain ⟨r46, hx47, hF⟩ := bind_some hF
  refine C_x2 (.cons .h (.cons (.t (.t (.t (.t .h)))) .nil)) (XC_borL (pre := []) (.cons frz_own (.cons frz_own .nil)) (fun _ => .nil) (X_callS cf23 (.cons (.tmp rfl rfl) (.cons (.tmp rfl rfl) .nil)) (l_eqMethodS_ok r25 p27.1 r43 p45.1 _ hx47))) (fun _ => ?_)
  refine C_val (V_not (b := r46) (.tmp rfl rfl)) ?_
  refine C_nil (CW_cond (b := (!r46)) (.tmp rfl rfl) (fun hb63 => ?_) (fun hb63 => ?_))
  · rw [if_pos hb63] at hF
    refine K_region (C_val (V_assign (v := (.bool false)) (.bool _)) ?_)
    refine C_nil (CW_ret ?_)
    obtain rfl := Option.some.inj hF
    exact End_ret () (.tmp rfl rfl .nil) rfl (.sel .nil)
  rw [if_neg (by rw [hb63]; exact Bool.false_ne_true)] at hF
  refine CW_skip (K_in (K_region (Cm p30.1.v rfl rfl ?_)))
  refine Cm v2_0.v rfl rfl ?_
  obtain ⟨r49, hx50, hF⟩ := bind_some hF
  refine C_x1 (.rd (.t (.t (.t (.t (.t (.t (.t (.t (.t (.t (.t (.t .h)))))))))))) rfl .nil) (X_callS cf20 (.cons (.tmp rfl rfl) .nil) (l_toFactS_ok a_aFacts v2_0 _ hx50)) (fun p51 => ?_)
  obtain ⟨r52, hx53, hF⟩ := bind_some hF
  refine C_x2 (.cons .h (.cons (.t (.t (.t (.t (.t .h))))) .nil)) (XC_borL (pre := []) (.cons frz_own (.cons frz_own .nil)) (fun _ => .nil) (X_callS cf24 (.cons (.tmp rfl rfl) (.cons (.tmp rfl rfl) .nil)) (l_eqFactS_ok r28 p30.1 r49 p51.1 _ hx53))) (fun _ => ?_)
  refine C_val (V_not (b := r52) (.tmp rfl rfl)) ?_
  refine C_nil (CW_cond (b := (!r52)) (.tmp rfl rfl) (fun hb62 => ?_) (fun hb62 => ?_))
  · rw [if_pos hb62] at hF
    refine K_region (C_val (V_assign (v := (.bool false)) (.bool _)) ?_)
    refine C_nil (CW_ret ?_)
    obtain rfl := Option.some.inj hF
    exact End_ret () (.tmp rfl rfl .nil) rfl (.sel .nil)
  rw [if_neg (by rw [hb62]; exact Bool.false_ne_true)] at hF
  refine CW_skip (K_in (K_region (Cm p33.1.v rfl rfl ?_)))
  refine Cm v3_0.v rfl rfl ?_
  obtain ⟨r55, hx56, hF⟩ := bind_some hF
  refine C_x1 (.rd (.t (.t (.t (.t (.t (.t (.t (.t (.t (.t (.t (.t (.t (.t .h)))))))))))))) rfl .nil) (X_callS cf18 (.cons (.tmp rfl rfl) .nil) (l_toIntS_ok a_aSeeds v3_0 _ hx56)) (fun p57 => ?_)
  obtain ⟨r58, hx59, hF⟩ := bind_some hF
  refine C_x2 (.cons .h (.cons (.t (.t (.t (.t (.t (.t .h)))))) .nil)) (XC_borL (pre := []) (.cons frz_own (.cons frz_own .nil)) (fun _ => .nil) (X_callS cf22 (.cons (.tmp rfl rfl) (.cons (.tmp rfl rfl) .nil)) (l_eqIntS_ok r31 p33.1 r55 p57.1 _ hx59))) (fun _ => ?_)
  refine C_val (V_not (b := r58) (.tmp rfl rfl)) ?_
  refine C_nil (CW_cond (b := (!r58)) (.tmp rfl rfl) (fun hb61 => ?_) (fun hb61 => ?_))
  · rw [if_pos hb61] at hF
    refine K_region (C_val (V_assign (v := (.bool false)) (.bool _)) ?_)
    refine C_nil (CW_ret ?_)
    obtain rfl := Option.some.inj hF
    exact End_ret () (.tmp rfl rfl .nil) rfl (.sel .nil)
  rw [if_neg (by rw [hb61]; exact Bool.false_ne_true)] at hF
  refine CW_skip (K_region (C_val (V_assign (v := (.bool true)) (.bool _)) ?_))
  refine C_nil (CW_ret ?_)
  obtain rfl := Option.some.inj hF
  exact End_ret () (.tmp rfl rfl .nil) rfl (.sel .nil)

end Go.Proofs.YtekdaagipplhhaaGreatDoor
