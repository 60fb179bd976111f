/-
  Functions of the program as Lean functions, and that the calls return what these say: part 2. No conditions.
-/
import Derived.Shelf.Sort.Plain
import Derived.Shelf.Slices.In.SortNone
import Derived.Shelf.Slices.CompactI
import Derived.Shelf.Strconv.Itoa3
import Derived.Shelf.Strings.OnBuilder
import Derived.Test.YtekdaagipplhhaaGreatDoorReachLineG0
import Derived.KernelRfl
set_option maxRecDepth 100000
set_option linter.unusedVariables false
namespace Go.Proofs.YtekdaagipplhhaaGreatDoor
open Go Go.Fw

/-! spec.l5Matches -/
def s_l5Matches_L1 (a_m : Method) (a_values : List Int) : List Fact → Nat → (List Fact) → Option ((List Fact))
  | [], k9, c3 => some c3
  | x11 :: rest10, k9, c3 => ((s_l5Fits a_m a_values x11).bind fun r23 =>
      if r23 then (
        (s_l2One x11.Rel x11.Values).bind fun r31 =>
        (app c3 ([r31] : List Fact)).bind fun z35 =>
        some z35)
      else (
        some c3)).bind fun o18 =>
    match o18 with
    | c39 => s_l5Matches_L1 a_m a_values rest10 (k9 + 1) c39
def s_l5Matches (a_m : Method) (a_values : List Int) (a_facts : List Fact) : Option ((List Fact)) :=
  s_l5Matches_L1 a_m a_values a_facts 0 ([] : List Fact)
theorem s_l5Matches_ok (a_m : Method) (v0_1 : Sv) (a_values : List Int) (v1_0 : Sv) (a_facts : List Fact) (v2_0 : Sv) (R : (List Fact)) (hF : s_l5Matches a_m a_values a_facts = some R) :
    Fw.Spec Tryz.prog 211 [(.agg [(.int .i64 a_m.Rel), v0_1.v, (.int .i64 a_m.Limit), (.int .i64 a_m.Cost), (.int .i64 a_m.Quota)].toArray), v1_0.v, v2_0.v] [crd (RdS 3 rdInt) v0_1.v a_m.Inputs, crd (RdS 3 rdInt) v1_0.v a_values, crd (RdS 114 rd114) v2_0.v a_facts] (fun p : Sv × List Nat => p.1.v) (fun p => [cown (OwnS 114 ow114) p.2 p.1.v R]) := by
  refine Spec_enter (n := 38) Tryz.func211 rfl rfl (rs := [.tmp 6]) rfl rfl rfl ?_
  intro H0 F0
  unfold s_l5Matches at hF
  refine K_region (C_newR rfl (N_box (g := false) (v := (.agg [(.int .i64 a_m.Rel), v0_1.v, (.int .i64 a_m.Limit), (.int .i64 a_m.Cost), (.int .i64 a_m.Quota)].toArray)) ty112.sz (.tmp rfl rfl) rfl) (fun k1 => ?_))
  refine C_val (V_assign (v := (.slice none 0 0)) EV.nilSlice) ?_
  refine C_nil (K_region (C_new rfl (N_buildSliceT (g := true) sl40 ty114 .nil (vs := []) rfl rfl rfl (by simp)) (fun k2 => ?_)))
  refine C_conv (.cons .h .nil) (own_lit (Ro := ow114) (E := 114) (F := []) (xs := ([] : List Fact)) MkL_nil rfl rfl) apps ?_
  refine Ca (.slice (some ⟨k2, 0, none⟩) 0 1) rfl rfl ?_
  refine C_nil (K_in (K_region (C_val (V_assign (v := (.int .i64 0)) (.int _ _)) ?_)))
  refine C_nil (CW_block (CW_loop (m := a_facts.length) (fun m7 f' cs' => ∃ (g : Fr) (k9 : Nat) (rest10 : List Fact) (c3 : List Fact) (v4 : Sv) (F5 : List Nat), m7 = rest10.length ∧ f' = updL g [(1, v1_0.v), (2, v2_0.v), (3, (.pointer (some ⟨k1, 0, some 0⟩))), (7, v4.v), (8, (.int .i64 (k9 : Int)))] ∧ List.drop k9 a_facts = rest10 ∧ Ent cs' [crd (RdS 3 rdInt) v1_0.v a_values, crd (RdS 114 rd114) v2_0.v a_facts, cboR k1 112 (.agg [(.int .i64 a_m.Rel), v0_1.v, (.int .i64 a_m.Limit), (.int .i64 a_m.Cost), (.int .i64 a_m.Quota)].toArray), crd (RdS 3 rdInt) v0_1.v a_m.Inputs, cown (OwnS 114 ow114) F5 v4.v c3] ∧ s_l5Matches_L1 a_m a_values rest10 k9 c3 = some R) ⟨_, 0, _, _, ⟨(some ⟨k2, 0, none⟩), 0, 1⟩, (k2 :: []), rfl, (EqL.cons rfl (EqL.cons rfl (EqL.cons rfl (EqL.cons rfl (EqL.cons rfl (EqL.nil)))))).eq, rfl, (.sel (.rd (.t (.t (.t .h))) rfl (.rd (.t (.t (.t (.t .h)))) rfl (.rd (.t .h) rfl (.rd (.t (.t .h)) rfl (.cons .h .nil)))))), hF⟩ ?_))
  clear hF
  rintro m7 _ _ ⟨g8, k9, rest10, c3, v4, F5, rfl, rfl, hd12, hE, hF⟩
  refine K_ent hE ?_
  clear hE
  refine K_pure (c := crd (RdS 114 rd114) v2_0.v a_facts) (.t .h) crd_bound (fun hbd17 => ?_)
  rcases rest10 with _ | ⟨x11, rest10⟩
  · have hk13 := List.drop_eq_nil_iff.1 hd12
    have hfe16 : (decide (((k9 : Int) : Int) < (a_facts.length : Int))) = false := decide_eq_false (by omega)
    rw [s_l5Matches_L1] at hF
    refine K_in (K_region (Cm (.int .i64 (k9 : Int)) rfl rfl ?_))
    refine Cm v2_0.v rfl rfl ?_
    refine C_at (.t .h) (fun hp => V_lenR (l := a_facts.length) sl40 (.tmp rfl rfl) (crd_len hp)) ?_
    refine C_val (V_lss (i := (k9 : Int)) (j := (a_facts.length : Int)) (.tmp rfl rfl) (.tmp rfl rfl)) ?_
    refine C_nil (CW_cond (b := (decide (((k9 : Int) : Int) < (a_facts.length : Int)))) (.tmp rfl rfl) (fun hb => absurd (hfe16.symm.trans hb) (by decide)) (fun _ => ?_))
    refine CW_exit ?_
    iterate 2 refine CThen_exit ?_
    refine CIn_self (K_region (Cm v4.v rfl rfl ?_))
    refine Ca v4.v rfl rfl ?_
    refine C_nil (CW_ret ?_)
    obtain rfl := Option.some.inj hF
    exact End_ret (v4, F5) (.tmp rfl rfl .nil) rfl (.sel (.cons (.t (.t (.t (.t .h)))) .nil))
  obtain ⟨hk13, hx14, hd15⟩ := drop_cons hd12
  have hfe16 : (decide (((k9 : Int) : Int) < (a_facts.length : Int))) = true := decide_eq_true (by omega)
  rw [s_l5Matches_L1] at hF
  refine K_in (K_region (Cm (.int .i64 (k9 : Int)) rfl rfl ?_))
  refine Cm v2_0.v rfl rfl ?_
  refine C_at (.t .h) (fun hp => V_lenR (l := a_facts.length) sl40 (.tmp rfl rfl) (crd_len hp)) ?_
  refine C_val (V_lss (i := (k9 : Int)) (j := (a_facts.length : Int)) (.tmp rfl rfl) (.tmp rfl rfl)) ?_
  refine C_nil (CW_cond (b := (decide (((k9 : Int) : Int) < (a_facts.length : Int)))) (.tmp rfl rfl) (fun _ => ?_) (fun hb => absurd (hfe16.symm.trans hb) (by decide)))
  refine CW_skip ?_
  obtain ⟨o18, hio18, hO19⟩ := bind_some hF
  refine K_cut (fun f' cs' => ∃ (c39 : List Fact) (v40 : Sv) (F41 : List Nat) (g : Fr), c39 = o18 ∧ f' = updL g [(1, v1_0.v), (2, v2_0.v), (3, (.pointer (some ⟨k1, 0, some 0⟩))), (7, v40.v), (8, (.int .i64 (k9 : Int)))] ∧ Ent cs' [crd (RdS 3 rdInt) v1_0.v a_values, crd (RdS 114 rd114) v2_0.v a_facts, cboR k1 112 (.agg [(.int .i64 a_m.Rel), v0_1.v, (.int .i64 a_m.Limit), (.int .i64 a_m.Cost), (.int .i64 a_m.Quota)].toArray), crd (RdS 3 rdInt) v0_1.v a_m.Inputs, cown (OwnS 114 ow114) F41 v40.v c39]) ?_ ?_
  · replace hF := hio18
    refine CW_block (K_draw [0, 1, 2, 3, 4, 5, 6] [0, 0, 0, 0, 12, 28, 63] [6] mixed (by decide +kernel) ?_)
    refine D_at rfl .no (.t (.t .h)) rfl (fun ha hp => V_loadBox ag112 ty112.sz rfl (EN ha (.tmp rfl rfl) rfl) hp.2 rfl) ?_
    refine Dm v1_0.v rfl rfl rfl rfl ?_
    refine Dm v2_0.v rfl rfl rfl rfl ?_
    refine Dm (.int .i64 (k9 : Int)) rfl rfl rfl rfl ?_
    refine D_idx (a := x11) sl40 ty114.sz rfl .no (.tmp rfl rfl) (.tmp rfl rfl) rfl rfl (.t .h) (Int.natCast_nonneg k9) hx14 (fun k20 j21 => ?_)
    refine D_ldA1 (ul114_0_114 x11) ag114 ty114.sz rfl rfl .no (.tmp rfl rfl) rfl .h la114_0_114 (fun p22 => ?_)
    obtain ⟨r23, hx24, hF⟩ := bind_some hF
    refine D_act0 rfl rfl .no (.rd (.t (.t (.t (.t (.t .h))))) rfl (.rd (.t (.t .h)) rfl (.rd .h rfl .nil))) .nil (fun ha => X_callS cf149 (.cons (EN ha (.tmp rfl rfl) rfl) (.cons (EN ha (.tmp rfl rfl) rfl) (.cons (EN ha (.tmp rfl rfl) rfl) .nil))) (s_l5Fits_ok a_m v0_1 a_values v1_0 x11 p22 _ hx24)) (fun _ => ?_)
    refine D_nil (CW_cond (b := r23) (.tmp rfl rfl) (fun hb38 => ?_) (fun hb38 => ?_))
    · rw [if_pos hb38] at hF
      refine CW_draw [0, 1, 2, 3, 4, 5, 6, 7, 8, 9, 10, 11, 12, 13, 14] [0, 0, 0, 6, 14, 30, 0, 0, 192, 448, 960, 2046, 4094, 8191, 16383] [11, 13] mixed (by decide +kernel) ?_
      refine Dm v4.v rfl rfl rfl rfl ?_
      refine Dm v2_0.v rfl rfl rfl rfl ?_
      refine Dm (.int .i64 (k9 : Int)) rfl rfl rfl rfl ?_
      refine D_idx (a := x11) sl40 ty114.sz rfl .no (.tmp rfl rfl) (.tmp rfl rfl) rfl rfl (.t (.t (.t .h))) (Int.natCast_nonneg k9) hx14 (fun k26 j27 => ?_)
      refine D_val rfl .no (fun ha => V_fieldAddr (off := 0) fd114_0 (EN ha (.tmp rfl rfl) rfl)) ?_
      refine D_ldS (w := (.int .i64 x11.Rel)) ag3 rfl .no (.tmp rfl rfl) rfl .h ls114_0 ?_
      refine Dm v2_0.v rfl rfl rfl rfl ?_
      refine Dm (.int .i64 (k9 : Int)) rfl rfl rfl rfl ?_
      refine D_idx (a := x11) sl40 ty114.sz rfl .no (.tmp rfl rfl) (.tmp rfl rfl) rfl rfl (.t (.t (.t (.t .h)))) (Int.natCast_nonneg k9) hx14 (fun k28 j29 => ?_)
      refine D_val rfl .no (fun ha => V_fieldAddr (off := 1) fd114_1 (EN ha (.tmp rfl rfl) rfl)) ?_
      refine D_ldV (R' := (RdS 3 rdInt)) ag22 rfl .no (.tmp rfl rfl) rfl .h lv114_1 (fun w30 => ?_)
      obtain ⟨r31, hx32, hF⟩ := bind_some hF
      refine D_act1 rfl rfl .no (.rd .h rfl .nil) .nil (fun ha => X_callS cf187 (.cons (EN ha (.tmp rfl rfl) rfl) (.cons (EN ha (.tmp rfl rfl) rfl) .nil)) (s_l2One_ok x11.Rel x11.Values w30 _ hx32)) (fun p33 => ?_)
      refine D_new rfl .no rfl (fun ha => N_buildSliceT (g := true) (len := 1) (parts := [(0, .tmp 34)]) sl40 ty114 (.cons (EN ha (.tmp rfl rfl) rfl) .nil) (vs := [(.agg [(.int .i64 r31.Rel), p33.1.v].toArray)]) rfl rfl rfl (by intro v hv; simp at hv; rcases hv with rfl <;> rfl)) (fun k34 => ?_)
      refine D_conv (.cons .h (.cons .h .nil)) (own_lit (Ro := ow114) (E := 114) (F := (p33.2 ++ [])) (xs := ([r31] : List Fact)) (MkL_cons mk114 MkL_nil apps) rfl rfl) apps ?_
      obtain ⟨z35, hx36, hF⟩ := bind_some hF
      refine D_act1 rfl rfl .no (.cons (.t (.t (.t (.t (.t (.t (.t (.t (.t (.t .h)))))))))) (.cons .h .nil)) (.dep rfl .nil) (fun ha => X_appendO (Ro := ow114) sl40 ni40 ty114 rfl rfl rfl (EN ha (.tmp rfl rfl) rfl) (EN ha (.tmp rfl rfl) rfl) hx36 src_own) (fun p37 => ?_)
      refine Da p37.1.v rfl rfl rfl rfl ?_
      refine D_nil ?_
      obtain rfl := Option.some.inj hF
      exact ⟨_, p37.1, p37.2, _, rfl, (EqL.cons rfl (EqL.cons rfl (EqL.cons rfl (EqL.cons rfl (EqL.cons rfl (EqL.nil)))))).eq, (.sel (.rd (.t (.t (.t (.t (.t (.t .h)))))) rfl (.rd (.t (.t (.t (.t (.t (.t (.t .h))))))) rfl (.rd (.t (.t (.t (.t (.t (.t (.t (.t .h)))))))) rfl (.rd (.t (.t (.t (.t (.t (.t (.t (.t (.t .h))))))))) rfl (.cons .h .nil))))))⟩
    rw [if_neg (by rw [hb38]; exact Bool.false_ne_true)] at hF
    refine CW_skip ?_
    obtain rfl := Option.some.inj hF
    exact ⟨_, v4, F5, _, rfl, (EqL.cons rfl (EqL.cons rfl (EqL.cons rfl (EqL.cons rfl (EqL.cons rfl (EqL.nil)))))).eq, (.sel (.rd (.t (.t .h)) rfl (.rd (.t (.t (.t .h))) rfl (.rd (.t (.t (.t (.t .h)))) rfl (.rd (.t (.t (.t (.t (.t .h))))) rfl (.cons (.t (.t (.t (.t (.t (.t .h)))))) .nil))))))⟩
  rintro _ _ ⟨c39, v40, F41, g43, rfl, rfl, hE⟩
  replace hF := hO19
  clear hO19
  try dsimp only at hF
  refine K_ent hE ?_
  refine CW_region (Cm (.int .i64 (k9 : Int)) rfl rfl ?_)
  refine C_val (V_add (i := (k9 : Int)) (j := 1) (.tmp rfl rfl) (.int _ _)) ?_
  refine Ca (.int .i64 (IntKind.i64.wrap ((k9 : Int) + 1))) rfl rfl ?_
  refine C_nil ?_
  have hw42 : IntKind.i64.wrap ((k9 : Int) + 1) = ((k9 + 1 : Nat) : Int) := by rw [wrap_in (by omega) (by omega)]; rfl
  rw [hw42]
  exact ⟨_, Nat.lt_succ_self _, _, k9 + 1, rest10, _, v40, F41, rfl, (EqL.cons rfl (EqL.cons rfl (EqL.cons rfl (EqL.cons rfl (EqL.cons rfl (EqL.nil)))))).eq, hd15, (.sel (.rd .h rfl (.rd (.t .h) rfl (.rd (.t (.t .h)) rfl (.rd (.t (.t (.t .h))) rfl (.cons (.t (.t (.t (.t .h)))) .nil)))))), hF⟩

/-! spec.HasFact -/
def s_HasFact_L1 (a_f : Fact) : List Fact → Nat → Option (Bool)
  | [], k5 => some false
  | x7 :: rest6, k5 => (s_CompareFacts x7 a_f).bind fun r17 =>
    if ((r17 : Int) == 0) then (
      some true)
    else (
      s_HasFact_L1 a_f rest6 (k5 + 1))
def s_HasFact (a_l : List Fact) (a_f : Fact) : Option (Bool) :=
  s_HasFact_L1 a_f a_l 0
theorem s_HasFact_ok (a_l : List Fact) (v0_0 : Sv) (a_f : Fact) (v1_1 : Sv) (R : Bool) (hF : s_HasFact a_l a_f = some R) :
    Fw.Spec Tryz.prog 142 [v0_0.v, (.agg [(.int .i64 a_f.Rel), v1_1.v].toArray)] [crd (RdS 114 rd114) v0_0.v a_l, crd (RdS 3 rdInt) v1_1.v a_f.Values] (fun _ : Unit => (.bool R)) (fun _ => []) := by
  refine Spec_enter (n := 19) Tryz.func142 rfl rfl (rs := [.tmp 4]) rfl rfl rfl ?_
  intro H0 F0
  unfold s_HasFact at hF
  refine K_region (C_newR rfl (N_box (g := false) (v := (.agg [(.int .i64 a_f.Rel), v1_1.v].toArray)) ty114.sz (.tmp rfl rfl) rfl) (fun k1 => ?_))
  refine C_val (V_assign (v := (.bool false)) (.bool _)) ?_
  refine C_nil (K_in (K_region (C_val (V_assign (v := (.int .i64 0)) (.int _ _)) ?_)))
  refine C_nil (CW_block (CW_loop (m := a_l.length) (fun m3 f' cs' => ∃ (g : Fr) (k5 : Nat) (rest6 : List Fact), m3 = rest6.length ∧ f' = updL g [(0, v0_0.v), (3, (.pointer (some ⟨k1, 0, some 0⟩))), (5, (.int .i64 (k5 : Int)))] ∧ List.drop k5 a_l = rest6 ∧ Ent cs' [crd (RdS 114 rd114) v0_0.v a_l, cboR k1 114 (.agg [(.int .i64 a_f.Rel), v1_1.v].toArray), crd (RdS 3 rdInt) v1_1.v a_f.Values] ∧ s_HasFact_L1 a_f rest6 k5 = some R) ⟨_, 0, _, rfl, (EqL.cons rfl (EqL.cons rfl (EqL.cons rfl (EqL.nil)))).eq, rfl, (.sel (.rd (.t .h) rfl (.rd .h rfl (.rd (.t (.t .h)) rfl .nil)))), hF⟩ ?_))
  clear hF
  rintro m3 _ _ ⟨g4, k5, rest6, rfl, rfl, hd8, hE, hF⟩
  refine K_ent hE ?_
  clear hE
  refine K_pure (c := crd (RdS 114 rd114) v0_0.v a_l) .h crd_bound (fun hbd13 => ?_)
  rcases rest6 with _ | ⟨x7, rest6⟩
  · have hk9 := List.drop_eq_nil_iff.1 hd8
    have hfe12 : (decide (((k5 : Int) : Int) < (a_l.length : Int))) = false := decide_eq_false (by omega)
    rw [s_HasFact_L1] at hF
    refine K_in (K_region (Cm (.int .i64 (k5 : Int)) rfl rfl ?_))
    refine Cm v0_0.v rfl rfl ?_
    refine C_at .h (fun hp => V_lenR (l := a_l.length) sl40 (.tmp rfl rfl) (crd_len hp)) ?_
    refine C_val (V_lss (i := (k5 : Int)) (j := (a_l.length : Int)) (.tmp rfl rfl) (.tmp rfl rfl)) ?_
    refine C_nil (CW_cond (b := (decide (((k5 : Int) : Int) < (a_l.length : Int)))) (.tmp rfl rfl) (fun hb => absurd (hfe12.symm.trans hb) (by decide)) (fun _ => ?_))
    refine CW_exit ?_
    iterate 2 refine CThen_exit ?_
    refine CIn_self (K_region (C_val (V_assign (v := (.bool false)) (.bool _)) ?_))
    refine C_nil (CW_ret ?_)
    obtain rfl := Option.some.inj hF
    exact End_ret () (.tmp rfl rfl .nil) rfl (.sel .nil)
  obtain ⟨hk9, hx10, hd11⟩ := drop_cons hd8
  have hfe12 : (decide (((k5 : Int) : Int) < (a_l.length : Int))) = true := decide_eq_true (by omega)
  rw [s_HasFact_L1] at hF
  refine K_in (K_region (Cm (.int .i64 (k5 : Int)) rfl rfl ?_))
  refine Cm v0_0.v rfl rfl ?_
  refine C_at .h (fun hp => V_lenR (l := a_l.length) sl40 (.tmp rfl rfl) (crd_len hp)) ?_
  refine C_val (V_lss (i := (k5 : Int)) (j := (a_l.length : Int)) (.tmp rfl rfl) (.tmp rfl rfl)) ?_
  refine C_nil (CW_cond (b := (decide (((k5 : Int) : Int) < (a_l.length : Int)))) (.tmp rfl rfl) (fun _ => ?_) (fun hb => absurd (hfe12.symm.trans hb) (by decide)))
  refine CW_skip (K_block (K_draw [0, 1, 2, 3, 4, 5, 6] [0, 0, 3, 7, 0, 31, 63] [5] mixed (by decide +kernel) ?_))
  refine Dm v0_0.v rfl rfl rfl rfl ?_
  refine Dm (.int .i64 (k5 : Int)) rfl rfl rfl rfl ?_
  refine D_idx (a := x7) sl40 ty114.sz rfl .no (.tmp rfl rfl) (.tmp rfl rfl) rfl rfl .h (Int.natCast_nonneg k5) hx10 (fun k14 j15 => ?_)
  refine D_ldA1 (ul114_0_114 x7) ag114 ty114.sz rfl rfl .no (.tmp rfl rfl) rfl .h la114_0_114 (fun p16 => ?_)
  refine D_at rfl .no (.t (.t (.t .h))) rfl (fun ha hp => V_loadBox ag114 ty114.sz rfl (EN ha (.tmp rfl rfl) rfl) hp.2 rfl) ?_
  obtain ⟨r17, hx18, hF⟩ := bind_some hF
  refine D_act0 rfl rfl .no (.rd .h rfl (.rd (.t (.t (.t (.t .h)))) rfl .nil)) .nil (fun ha => X_callS cf125 (.cons (EN ha (.tmp rfl rfl) rfl) (.cons (EN ha (.tmp rfl rfl) rfl) .nil)) (s_CompareFacts_ok x7 p16 a_f v1_1 _ hx18)) (fun _ => ?_)
  refine D_val rfl .no (fun ha => V_eql (i := r17) (j := 0) (EN ha (.tmp rfl rfl) rfl) (EN ha (.int _ _) rfl)) ?_
  refine D_nil (CW_cond (b := ((r17 : Int) == 0)) (.tmp rfl rfl) (fun hb21 => ?_) (fun hb21 => ?_))
  · rw [if_pos hb21] at hF
    refine K_region (C_val (V_assign (v := (.bool true)) (.bool _)) ?_)
    refine C_nil (CW_ret ?_)
    obtain rfl := Option.some.inj hF
    exact End_ret () (.tmp rfl rfl .nil) rfl (.sel .nil)
  rw [if_neg (by rw [hb21]; exact Bool.false_ne_true)] at hF
  refine CW_skip (CW_region (Cm (.int .i64 (k5 : Int)) rfl rfl ?_))
  refine C_val (V_add (i := (k5 : Int)) (j := 1) (.tmp rfl rfl) (.int _ _)) ?_
  refine Ca (.int .i64 (IntKind.i64.wrap ((k5 : Int) + 1))) rfl rfl ?_
  refine C_nil ?_
  have hw20 : IntKind.i64.wrap ((k5 : Int) + 1) = ((k5 + 1 : Nat) : Int) := by rw [wrap_in (by omega) (by omega)]; rfl
  rw [hw20]
  exact ⟨_, Nat.lt_succ_self _, _, k5 + 1, rest6, rfl, (EqL.cons rfl (EqL.cons rfl (EqL.cons rfl (EqL.nil)))).eq, hd11, (.sel (.rd (.t (.t .h)) rfl (.rd (.t (.t (.t .h))) rfl (.rd (.t (.t (.t (.t .h)))) rfl .nil)))), hF⟩

/-! spec.AddFact -/
def s_AddFact_L1 (a_f : Fact) : List Fact → Nat → (List Fact) → Bool → Option ((List Fact))
  | [], k13, c6, c9 => if (!c9) then (
      (s_l2One a_f.Rel a_f.Values).bind fun r22 =>
      (app c6 ([r22] : List Fact)).bind fun z26 =>
      some z26)
    else (
      some c6)
  | x15 :: rest14, k13, c6, c9 => ((bif (!c9) then ((s_CompareFacts a_f x15).bind fun r38 =>
          some (decide ((r38 : Int) < 0)))
        else (some false)).bind fun o32 =>
      match o32 with
      | c41 => if c41 then (
          (s_l2One a_f.Rel a_f.Values).bind fun r42 =>
          (app c6 ([r42] : List Fact)).bind fun z46 =>
          (s_l2One x15.Rel x15.Values).bind fun r54 =>
          (app z46 ([r54] : List Fact)).bind fun z58 =>
          some (z58, true))
        else (
          (s_l2One x15.Rel x15.Values).bind fun r66 =>
          (app c6 ([r66] : List Fact)).bind fun z70 =>
          some (z70, c9))).bind fun o30 =>
    match o30 with
    | (c75, c78) => s_AddFact_L1 a_f rest14 (k13 + 1) c75 c78
def s_AddFact (a_l : List Fact) (a_f : Fact) : Option ((List Fact)) :=
  (s_HasFact a_l a_f).bind fun r3 =>
  s_AddFact_L1 a_f a_l 0 ([] : List Fact) r3
theorem s_AddFact_ok (a_l : List Fact) (v0_0 : Sv) (a_f : Fact) (v1_1 : Sv) (R : (List Fact)) (hF : s_AddFact a_l a_f = some R) :
    Fw.Spec Tryz.prog 140 [v0_0.v, (.agg [(.int .i64 a_f.Rel), v1_1.v].toArray)] [crd (RdS 114 rd114) v0_0.v a_l, crd (RdS 3 rdInt) v1_1.v a_f.Values] (fun p : Sv × List Nat => p.1.v) (fun p => [cown (OwnS 114 ow114) p.2 p.1.v R]) := by
  refine Spec_enter (n := 62) Tryz.func140 rfl rfl (rs := [.tmp 4]) rfl rfl rfl ?_
  intro H0 F0
  unfold s_AddFact at hF
  refine K_region (C_newR rfl (N_box (g := false) (v := (.agg [(.int .i64 a_f.Rel), v1_1.v].toArray)) ty114.sz (.tmp rfl rfl) rfl) (fun k1 => ?_))
  refine C_val (V_assign (v := (.slice none 0 0)) EV.nilSlice) ?_
  refine C_nil (K_region (C_new rfl (N_buildSliceT (g := true) sl40 ty114 .nil (vs := []) rfl rfl rfl (by simp)) (fun k2 => ?_)))
  refine C_conv (.cons .h .nil) (own_lit (Ro := ow114) (E := 114) (F := []) (xs := ([] : List Fact)) MkL_nil rfl rfl) apps ?_
  refine Ca (.slice (some ⟨k2, 0, none⟩) 0 1) rfl rfl ?_
  refine C_nil (K_region (Cm v0_0.v rfl rfl ?_))
  refine C_at (.t .h) (fun hp => V_loadBox ag114 ty114.sz rfl (.tmp rfl rfl) hp.2 rfl) ?_
  obtain ⟨r3, hx4, hF⟩ := bind_some hF
  refine C_x0 (.rd (.t (.t .h)) rfl (.rd (.t (.t (.t .h))) rfl .nil)) (X_callS cf142 (.cons (.tmp rfl rfl) (.cons (.tmp rfl rfl) .nil)) (s_HasFact_ok a_l v0_0 a_f v1_1 _ hx4)) (fun _ => ?_)
  refine Ca (.bool r3) rfl rfl ?_
  refine C_nil (K_in (K_region (C_val (V_assign (v := (.int .i64 0)) (.int _ _)) ?_)))
  refine C_nil (CW_block (CW_loop (m := a_l.length) (fun m11 f' cs' => ∃ (g : Fr) (k13 : Nat) (rest14 : List Fact) (c6 : List Fact) (c9 : Bool) (v7 : Sv) (F8 : List Nat), m11 = rest14.length ∧ f' = updL g [(0, v0_0.v), (3, (.pointer (some ⟨k1, 0, some 0⟩))), (5, v7.v), (6, (.bool c9)), (7, (.int .i64 (k13 : Int)))] ∧ List.drop k13 a_l = rest14 ∧ Ent cs' [crd (RdS 114 rd114) v0_0.v a_l, cboR k1 114 (.agg [(.int .i64 a_f.Rel), v1_1.v].toArray), crd (RdS 3 rdInt) v1_1.v a_f.Values, cown (OwnS 114 ow114) F8 v7.v c6] ∧ s_AddFact_L1 a_f rest14 k13 c6 c9 = some R) ⟨_, 0, _, _, _, ⟨(some ⟨k2, 0, none⟩), 0, 1⟩, (k2 :: []), rfl, (EqL.cons rfl (EqL.cons rfl (EqL.cons rfl (EqL.cons rfl (EqL.cons rfl (EqL.nil)))))).eq, rfl, (.sel (.rd (.t (.t .h)) rfl (.rd (.t .h) rfl (.rd (.t (.t (.t .h))) rfl (.cons .h .nil))))), hF⟩ ?_))
  clear hF
  rintro m11 _ _ ⟨g12, k13, rest14, c6, c9, v7, F8, rfl, rfl, hd16, hE, hF⟩
  refine K_ent hE ?_
  clear hE
  refine K_pure (c := crd (RdS 114 rd114) v0_0.v a_l) .h crd_bound (fun hbd21 => ?_)
  rcases rest14 with _ | ⟨x15, rest14⟩
  · have hk17 := List.drop_eq_nil_iff.1 hd16
    have hfe20 : (decide (((k13 : Int) : Int) < (a_l.length : Int))) = false := decide_eq_false (by omega)
    rw [s_AddFact_L1] at hF
    refine K_in (K_region (Cm (.int .i64 (k13 : Int)) rfl rfl ?_))
    refine Cm v0_0.v rfl rfl ?_
    refine C_at .h (fun hp => V_lenR (l := a_l.length) sl40 (.tmp rfl rfl) (crd_len hp)) ?_
    refine C_val (V_lss (i := (k13 : Int)) (j := (a_l.length : Int)) (.tmp rfl rfl) (.tmp rfl rfl)) ?_
    refine C_nil (CW_cond (b := (decide (((k13 : Int) : Int) < (a_l.length : Int)))) (.tmp rfl rfl) (fun hb => absurd (hfe20.symm.trans hb) (by decide)) (fun _ => ?_))
    refine CW_exit ?_
    iterate 2 refine CThen_exit ?_
    refine CIn_self (K_in (K_region (Cm (.bool c9) rfl rfl ?_)))
    refine C_val (V_not (b := c9) (.tmp rfl rfl)) ?_
    refine C_nil (CW_cond (b := (!c9)) (.tmp rfl rfl) (fun hb29 => ?_) (fun hb29 => ?_))
    · rw [if_pos hb29] at hF
      refine CW_region (Cm v7.v rfl rfl ?_)
      refine C_val (V_fieldAddr (off := 0) fd114_0 (.tmp rfl rfl)) ?_
      refine C_at (.t .h) (fun hp => V_load (v := (.int .i64 a_f.Rel)) ag3 (.tmp rfl rfl) hp.2 rfl rfl) ?_
      refine C_val (V_fieldAddr (off := 1) fd114_1 (.tmp rfl rfl)) ?_
      refine C_at (.t .h) (fun hp => V_load (v := v1_1.v) ag22 (.tmp rfl rfl) hp.2 rfl rfl) ?_
      obtain ⟨r22, hx23, hF⟩ := bind_some hF
      refine C_x1 (.rd (.t (.t .h)) rfl .nil) (X_callS cf187 (.cons (.tmp rfl rfl) (.cons (.tmp rfl rfl) .nil)) (s_l2One_ok a_f.Rel a_f.Values v1_1 _ hx23)) (fun p24 => ?_)
      refine C_new rfl (N_buildSliceT (g := true) sl40 ty114 (.cons (.tmp rfl rfl) .nil) (vs := [(.agg [(.int .i64 r22.Rel), p24.1.v].toArray)]) rfl rfl rfl (by intro v hv; simp at hv; rcases hv with rfl <;> rfl)) (fun k25 => ?_)
      refine C_conv (.cons .h (.cons .h .nil)) (own_lit (Ro := ow114) (E := 114) (F := (p24.2 ++ [])) (xs := ([r22] : List Fact)) (MkL_cons mk114 MkL_nil apps) rfl rfl) apps ?_
      obtain ⟨z26, hx27, hF⟩ := bind_some hF
      refine C_x1 (.cons (.t (.t (.t (.t .h)))) (.cons .h .nil)) (X_appendO (Ro := ow114) sl40 ni40 ty114 rfl rfl rfl (.tmp rfl rfl) (.tmp rfl rfl) hx27 src_own) (fun p28 => ?_)
      refine Ca p28.1.v rfl rfl ?_
      refine C_nil (K_region (Cm p28.1.v rfl rfl ?_))
      refine Ca p28.1.v rfl rfl ?_
      refine C_nil (CW_ret ?_)
      obtain rfl := Option.some.inj hF
      exact End_ret (p28.1, p28.2) (.tmp rfl rfl .nil) rfl (.sel (.cons .h .nil))
    rw [if_neg (by rw [hb29]; exact Bool.false_ne_true)] at hF
    refine CW_skip (K_region (Cm v7.v rfl rfl ?_))
    refine Ca v7.v rfl rfl ?_
    refine C_nil (CW_ret ?_)
    obtain rfl := Option.some.inj hF
    exact End_ret (v7, F8) (.tmp rfl rfl .nil) rfl (.sel (.cons (.t (.t (.t .h))) .nil))
  obtain ⟨hk17, hx18, hd19⟩ := drop_cons hd16
  have hfe20 : (decide (((k13 : Int) : Int) < (a_l.length : Int))) = true := decide_eq_true (by omega)
  rw [s_AddFact_L1] at hF
  refine K_in (K_region (Cm (.int .i64 (k13 : Int)) rfl rfl ?_))
  refine Cm v0_0.v rfl rfl ?_
  refine C_at .h (fun hp => V_lenR (l := a_l.length) sl40 (.tmp rfl rfl) (crd_len hp)) ?_
  refine C_val (V_lss (i := (k13 : Int)) (j := (a_l.length : Int)) (.tmp rfl rfl) (.tmp rfl rfl)) ?_
  refine C_nil (CW_cond (b := (decide (((k13 : Int) : Int) < (a_l.length : Int)))) (.tmp rfl rfl) (fun _ => ?_) (fun hb => absurd (hfe20.symm.trans hb) (by decide)))
  refine CW_skip ?_
  obtain ⟨o30, hio30, hO31⟩ := bind_some hF
  refine K_cut (fun f' cs' => ∃ (c75 : List Fact) (c78 : Bool) (v76 : Sv) (F77 : List Nat) (g : Fr), o30 = (c75, c78) ∧ f' = updL g [(0, v0_0.v), (3, (.pointer (some ⟨k1, 0, some 0⟩))), (5, v76.v), (6, (.bool c78)), (7, (.int .i64 (k13 : Int)))] ∧ Ent cs' [crd (RdS 114 rd114) v0_0.v a_l, cboR k1 114 (.agg [(.int .i64 a_f.Rel), v1_1.v].toArray), crd (RdS 3 rdInt) v1_1.v a_f.Values, cown (OwnS 114 ow114) F77 v76.v c75]) ?_ ?_
  · replace hF := hio30
    refine CW_block (K_in ?_)
    obtain ⟨o32, hio32, hO33⟩ := bind_some hF
    refine K_draw [0, 1, 2, 3, 4, 5, 6, 7, 8, 9, 10] [0, 1, 3, 7, 7, 7, 55, 119, 255, 511, 1023] [8] mixed (by decide +kernel) ?_
    refine D_cut (fun f' cs' => ∃ (c41 : Bool) (g : Fr), c41 = o32 ∧ f' = updL g [(0, v0_0.v), (3, (.pointer (some ⟨k1, 0, some 0⟩))), (5, v7.v), (6, (.bool c9)), (7, (.int .i64 (k13 : Int))), (28, (.bool c41))] ∧ Ent cs' [crd (RdS 114 rd114) v0_0.v a_l, cboR k1 114 (.agg [(.int .i64 a_f.Rel), v1_1.v].toArray), crd (RdS 3 rdInt) v1_1.v a_f.Values, cown (OwnS 114 ow114) F8 v7.v c6]) ?_ ?_
    · replace hF := hio32
      refine Dm (.bool c9) rfl rfl rfl rfl ?_
      refine D_val rfl .no (fun ha => V_not (b := c9) (EN ha (.tmp rfl rfl) rfl)) ?_
      refine Dm (.bool (!c9)) rfl rfl rfl rfl ?_
      rcases Bool.eq_false_or_eq_true (!c9) with hg34 | hg34
      · rw [hg34]
        try rw [hg34] at hF; dsimp only [cond_true, cond_false] at hF
        refine D_at rfl (.on 20 rfl rfl rfl) (.t .h) rfl (fun ha hp => V_loadBox ag114 ty114.sz rfl (EN ha (.tmp rfl rfl) rfl) hp.2 rfl) ?_
        refine D_val rfl (.on 20 rfl rfl rfl) (fun ha => V_move (v := v0_0.v) (EN ha (.tmp rfl rfl) rfl)) ?_
        refine D_val rfl (.on 20 rfl rfl rfl) (fun ha => V_move (v := (.int .i64 (k13 : Int))) (EN ha (.tmp rfl rfl) rfl)) ?_
        refine D_idx (a := x15) sl40 ty114.sz rfl (.on 20 rfl rfl rfl) (.tmp rfl rfl) (.tmp rfl rfl) rfl rfl .h (Int.natCast_nonneg k13) hx18 (fun k35 j36 => ?_)
        refine D_ldA1 (ul114_0_114 x15) ag114 ty114.sz rfl rfl (.on 20 rfl rfl rfl) (.tmp rfl rfl) rfl .h la114_0_114 (fun p37 => ?_)
        obtain ⟨r38, hx39, hF⟩ := bind_some hF
        refine D_act0 rfl rfl (.on 20 rfl rfl rfl) (.rd (.t (.t (.t (.t .h)))) rfl (.rd .h rfl .nil)) .nil (fun ha => X_callS cf125 (.cons (EN ha (.tmp rfl rfl) rfl) (.cons (EN ha (.tmp rfl rfl) rfl) .nil)) (s_CompareFacts_ok a_f v1_1 x15 p37 _ hx39)) (fun _ => ?_)
        refine D_val rfl (.on 20 rfl rfl rfl) (fun ha => V_lss (i := r38) (j := 0) (EN ha (.tmp rfl rfl) rfl) (EN ha (.int _ _) rfl)) ?_
        refine D_val rfl .no (fun ha => V_pick (b := true) (u := (.bool (decide ((r38 : Int) < 0)))) (v := (.bool false)) (EN ha (.tmp rfl rfl) rfl) (EN ha (.tmp rfl rfl) rfl) (EN ha (.bool _) rfl)) ?_
        refine D_nil ?_
        obtain rfl := Option.some.inj hF
        exact ⟨_, _, rfl, (EqL.cons rfl (EqL.cons rfl (EqL.cons rfl (EqL.cons rfl (EqL.cons rfl (EqL.cons rfl (EqL.nil))))))).eq, (.sel (.rd (.t (.t .h)) rfl (.rd (.t (.t (.t .h))) rfl (.rd (.t (.t (.t (.t .h)))) rfl (.cons (.t (.t (.t (.t (.t .h))))) .nil)))))⟩
      rw [hg34]
      try rw [hg34] at hF; dsimp only [cond_true, cond_false] at hF
      iterate 7 refine D_off 20 rfl rfl rfl rfl ?_
      refine D_val rfl .no (fun ha => V_pick (b := false) (u := undef) (v := (.bool false)) (EN ha (.tmp rfl rfl) rfl) (EN ha (.tmp rfl rfl) rfl) (EN ha (.bool _) rfl)) ?_
      refine D_nil ?_
      obtain rfl := Option.some.inj hF
      exact ⟨_, _, rfl, (EqL.cons rfl (EqL.cons rfl (EqL.cons rfl (EqL.cons rfl (EqL.cons rfl (EqL.cons rfl (EqL.nil))))))).eq, (.sel (.rd .h rfl (.rd (.t .h) rfl (.rd (.t (.t .h)) rfl (.cons (.t (.t (.t .h))) .nil)))))⟩
    rintro _ _ ⟨c41, g74, rfl, rfl, hE⟩
    replace hF := hO33
    clear hO33
    try dsimp only at hF
    refine K_ent hE ?_
    refine CW_cond (b := c41) (.tmp rfl rfl) (fun hb73 => ?_) (fun hb73 => ?_)
    · rw [if_pos hb73] at hF
      refine K_region (Cm v7.v rfl rfl ?_)
      refine C_val (V_fieldAddr (off := 0) fd114_0 (.tmp rfl rfl)) ?_
      refine C_at (.t .h) (fun hp => V_load (v := (.int .i64 a_f.Rel)) ag3 (.tmp rfl rfl) hp.2 rfl rfl) ?_
      refine C_val (V_fieldAddr (off := 1) fd114_1 (.tmp rfl rfl)) ?_
      refine C_at (.t .h) (fun hp => V_load (v := v1_1.v) ag22 (.tmp rfl rfl) hp.2 rfl rfl) ?_
      obtain ⟨r42, hx43, hF⟩ := bind_some hF
      refine C_x1 (.rd (.t (.t .h)) rfl .nil) (X_callS cf187 (.cons (.tmp rfl rfl) (.cons (.tmp rfl rfl) .nil)) (s_l2One_ok a_f.Rel a_f.Values v1_1 _ hx43)) (fun p44 => ?_)
      refine C_new rfl (N_buildSliceT (g := true) sl40 ty114 (.cons (.tmp rfl rfl) .nil) (vs := [(.agg [(.int .i64 r42.Rel), p44.1.v].toArray)]) rfl rfl rfl (by intro v hv; simp at hv; rcases hv with rfl <;> rfl)) (fun k45 => ?_)
      refine C_conv (.cons .h (.cons .h .nil)) (own_lit (Ro := ow114) (E := 114) (F := (p44.2 ++ [])) (xs := ([r42] : List Fact)) (MkL_cons mk114 MkL_nil apps) rfl rfl) apps ?_
      obtain ⟨z46, hx47, hF⟩ := bind_some hF
      refine C_x1 (.cons (.t (.t (.t (.t .h)))) (.cons .h .nil)) (X_appendO (Ro := ow114) sl40 ni40 ty114 rfl rfl rfl (.tmp rfl rfl) (.tmp rfl rfl) hx47 src_own) (fun p48 => ?_)
      refine Ca p48.1.v rfl rfl ?_
      refine C_nil (CW_region (C_val (V_assign (v := (.bool true)) (.bool _)) ?_))
      refine C_nil (CW_draw [0, 1, 2, 3, 4, 5, 6, 7, 8, 9, 10, 11, 12, 13, 14] [0, 0, 0, 6, 14, 30, 0, 0, 192, 448, 960, 2046, 4094, 8191, 16383] [11, 13] mixed (by decide +kernel) ?_)
      refine Dm p48.1.v rfl rfl rfl rfl ?_
      refine Dm v0_0.v rfl rfl rfl rfl ?_
      refine Dm (.int .i64 (k13 : Int)) rfl rfl rfl rfl ?_
      refine D_idx (a := x15) sl40 ty114.sz rfl .no (.tmp rfl rfl) (.tmp rfl rfl) rfl rfl (.t .h) (Int.natCast_nonneg k13) hx18 (fun k49 j50 => ?_)
      refine D_val rfl .no (fun ha => V_fieldAddr (off := 0) fd114_0 (EN ha (.tmp rfl rfl) rfl)) ?_
      refine D_ldS (w := (.int .i64 x15.Rel)) ag3 rfl .no (.tmp rfl rfl) rfl .h ls114_0 ?_
      refine Dm v0_0.v rfl rfl rfl rfl ?_
      refine Dm (.int .i64 (k13 : Int)) rfl rfl rfl rfl ?_
      refine D_idx (a := x15) sl40 ty114.sz rfl .no (.tmp rfl rfl) (.tmp rfl rfl) rfl rfl (.t (.t .h)) (Int.natCast_nonneg k13) hx18 (fun k51 j52 => ?_)
      refine D_val rfl .no (fun ha => V_fieldAddr (off := 1) fd114_1 (EN ha (.tmp rfl rfl) rfl)) ?_
      refine D_ldV (R' := (RdS 3 rdInt)) ag22 rfl .no (.tmp rfl rfl) rfl .h lv114_1 (fun w53 => ?_)
      obtain ⟨r54, hx55, hF⟩ := bind_some hF
      refine D_act1 rfl rfl .no (.rd .h rfl .nil) .nil (fun ha => X_callS cf187 (.cons (EN ha (.tmp rfl rfl) rfl) (.cons (EN ha (.tmp rfl rfl) rfl) .nil)) (s_l2One_ok x15.Rel x15.Values w53 _ hx55)) (fun p56 => ?_)
      refine D_new rfl .no rfl (fun ha => N_buildSliceT (g := true) (len := 1) (parts := [(0, .tmp 48)]) sl40 ty114 (.cons (EN ha (.tmp rfl rfl) rfl) .nil) (vs := [(.agg [(.int .i64 r54.Rel), p56.1.v].toArray)]) rfl rfl rfl (by intro v hv; simp at hv; rcases hv with rfl <;> rfl)) (fun k57 => ?_)
      refine D_conv (.cons .h (.cons .h .nil)) (own_lit (Ro := ow114) (E := 114) (F := (p56.2 ++ [])) (xs := ([r54] : List Fact)) (MkL_cons mk114 MkL_nil apps) rfl rfl) apps ?_
      obtain ⟨z58, hx59, hF⟩ := bind_some hF
      refine D_act1 rfl rfl .no (.cons (.t (.t (.t (.t .h)))) (.cons .h .nil)) (.dep rfl .nil) (fun ha => X_appendO (Ro := ow114) sl40 ni40 ty114 rfl rfl rfl (EN ha (.tmp rfl rfl) rfl) (EN ha (.tmp rfl rfl) rfl) hx59 src_own) (fun p60 => ?_)
      refine Da p60.1.v rfl rfl rfl rfl ?_
      refine D_nil ?_
      obtain rfl := Option.some.inj hF
      exact ⟨_, _, p60.1, p60.2, _, rfl, (EqL.cons rfl (EqL.cons rfl (EqL.cons rfl (EqL.cons rfl (EqL.cons rfl (EqL.nil)))))).eq, (.sel (.rd (.t (.t (.t (.t .h)))) rfl (.rd (.t (.t (.t (.t (.t .h))))) rfl (.rd (.t (.t (.t (.t (.t (.t .h)))))) rfl (.cons .h .nil)))))⟩
    rw [if_neg (by rw [hb73]; exact Bool.false_ne_true)] at hF
    refine CW_skip (CW_draw [0, 1, 2, 3, 4, 5, 6, 7, 8, 9, 10, 11, 12, 13, 14] [0, 0, 0, 6, 14, 30, 0, 0, 192, 448, 960, 2046, 4094, 8191, 16383] [11, 13] mixed (by decide +kernel) ?_)
    refine Dm v7.v rfl rfl rfl rfl ?_
    refine Dm v0_0.v rfl rfl rfl rfl ?_
    refine Dm (.int .i64 (k13 : Int)) rfl rfl rfl rfl ?_
    refine D_idx (a := x15) sl40 ty114.sz rfl .no (.tmp rfl rfl) (.tmp rfl rfl) rfl rfl .h (Int.natCast_nonneg k13) hx18 (fun k61 j62 => ?_)
    refine D_val rfl .no (fun ha => V_fieldAddr (off := 0) fd114_0 (EN ha (.tmp rfl rfl) rfl)) ?_
    refine D_ldS (w := (.int .i64 x15.Rel)) ag3 rfl .no (.tmp rfl rfl) rfl .h ls114_0 ?_
    refine Dm v0_0.v rfl rfl rfl rfl ?_
    refine Dm (.int .i64 (k13 : Int)) rfl rfl rfl rfl ?_
    refine D_idx (a := x15) sl40 ty114.sz rfl .no (.tmp rfl rfl) (.tmp rfl rfl) rfl rfl (.t .h) (Int.natCast_nonneg k13) hx18 (fun k63 j64 => ?_)
    refine D_val rfl .no (fun ha => V_fieldAddr (off := 1) fd114_1 (EN ha (.tmp rfl rfl) rfl)) ?_
    refine D_ldV (R' := (RdS 3 rdInt)) ag22 rfl .no (.tmp rfl rfl) rfl .h lv114_1 (fun w65 => ?_)
    obtain ⟨r66, hx67, hF⟩ := bind_some hF
    refine D_act1 rfl rfl .no (.rd .h rfl .nil) .nil (fun ha => X_callS cf187 (.cons (EN ha (.tmp rfl rfl) rfl) (.cons (EN ha (.tmp rfl rfl) rfl) .nil)) (s_l2One_ok x15.Rel x15.Values w65 _ hx67)) (fun p68 => ?_)
    refine D_new rfl .no rfl (fun ha => N_buildSliceT (g := true) (len := 1) (parts := [(0, .tmp 48)]) sl40 ty114 (.cons (EN ha (.tmp rfl rfl) rfl) .nil) (vs := [(.agg [(.int .i64 r66.Rel), p68.1.v].toArray)]) rfl rfl rfl (by intro v hv; simp at hv; rcases hv with rfl <;> rfl)) (fun k69 => ?_)
    refine D_conv (.cons .h (.cons .h .nil)) (own_lit (Ro := ow114) (E := 114) (F := (p68.2 ++ [])) (xs := ([r66] : List Fact)) (MkL_cons mk114 MkL_nil apps) rfl rfl) apps ?_
    obtain ⟨z70, hx71, hF⟩ := bind_some hF
    refine D_act1 rfl rfl .no (.cons (.t (.t (.t (.t (.t (.t (.t .h))))))) (.cons .h .nil)) (.dep rfl .nil) (fun ha => X_appendO (Ro := ow114) sl40 ni40 ty114 rfl rfl rfl (EN ha (.tmp rfl rfl) rfl) (EN ha (.tmp rfl rfl) rfl) hx71 src_own) (fun p72 => ?_)
    refine Da p72.1.v rfl rfl rfl rfl ?_
    refine D_nil ?_
    obtain rfl := Option.some.inj hF
    exact ⟨_, _, p72.1, p72.2, _, rfl, (EqL.cons rfl (EqL.cons rfl (EqL.cons rfl (EqL.cons rfl (EqL.cons rfl (EqL.nil)))))).eq, (.sel (.rd (.t (.t (.t (.t .h)))) rfl (.rd (.t (.t (.t (.t (.t .h))))) rfl (.rd (.t (.t (.t (.t (.t (.t .h)))))) rfl (.cons .h .nil)))))⟩
  rintro _ _ ⟨c75, c78, v76, F77, g80, rfl, rfl, hE⟩
  replace hF := hO31
  clear hO31
  try dsimp only at hF
  refine K_ent hE ?_
  refine CW_region (Cm (.int .i64 (k13 : Int)) rfl rfl ?_)
  refine C_val (V_add (i := (k13 : Int)) (j := 1) (.tmp rfl rfl) (.int _ _)) ?_
  refine Ca (.int .i64 (IntKind.i64.wrap ((k13 : Int) + 1))) rfl rfl ?_
  refine C_nil ?_
  have hw79 : IntKind.i64.wrap ((k13 : Int) + 1) = ((k13 + 1 : Nat) : Int) := by rw [wrap_in (by omega) (by omega)]; rfl
  rw [hw79]
  exact ⟨_, Nat.lt_succ_self _, _, k13 + 1, rest14, _, _, v76, F77, rfl, (EqL.cons rfl (EqL.cons rfl (EqL.cons rfl (EqL.cons rfl (EqL.cons rfl (EqL.nil)))))).eq, hd19, (.sel (.rd .h rfl (.rd (.t .h) rfl (.rd (.t (.t .h)) rfl (.cons (.t (.t (.t .h))) .nil))))), hF⟩

/-! spec.l8Step -/
def s_l8Step_L24 (x2166 : Fact) (r2178 : (List Fact)) : Nat → (List Int) → Int → Option ((List Fact) × (List Int))
  | 0, _, _ => none
  | m2208 + 1, c2205, c2207 => if (decide ((c2207 : Int) < (x2166.Values.length : Int))) then (
      (ix x2166.Values c2207).bind fun x2222 =>
      (s_l3Put c2205 x2222).bind fun r2228 =>
      s_l8Step_L24 x2166 r2178 m2208 r2228 (IntKind.i64.wrap (c2207 + 1)))
    else (
      some (r2178, c2205))
def s_l8Step_L21 (z1969 : List Access) : List Fact → Nat → (List Fact) → (List Int) → Option ((List Fact) × (List Int) × (List Access))
  | [], k2164, c2156, c2159 => some (c2156, c2159, z1969)
  | x2166 :: rest2165, k2164, c2156, c2159 => ((s_AddFact c2156 x2166).bind fun r2178 =>
      s_l8Step_L24 x2166 r2178 (((x2166.Values.length : Int) - 0).toNat + 2) c2159 0).bind fun o2173 =>
    match o2173 with
    | (c2232, c2235) => s_l8Step_L21 z1969 rest2165 (k2164 + 1) c2232 c2235
def s_l8Step_L1 (a_l : List Method) (a_facts : List Fact) (a_r : Reached) (r3 : Reached) (r7 : (List Access)) : List Access → Nat → (List Fact) → (List Int) → (List Access) → Option (Reached × Bool)
  | [], k1953, c1942, c1945, c1947 => if (((r7.length : Int) : Int) == 0) then (
      some (({ Facts := c1942, Values := c1945, Log := c1947, Rounds := r3.Rounds } : Reached), false))
    else (
      some (({ Facts := c1942, Values := c1945, Log := c1947, Rounds := (IntKind.i64.wrap (a_r.Rounds + 1)) } : Reached), true))
  | x1955 :: rest1954, k1953, c1942, c1945, c1947 => ((app c1947 ([x1955] : List Access)).bind fun z1969 =>
      (ix a_l x1955.Method).bind fun x1974 =>
      (s_l5Matches x1974 x1955.Values a_facts).bind fun r1984 =>
      s_l8Step_L21 z1969 r1984 0 c1942 c1945).bind fun o1963 =>
    match o1963 with
    | (c2239, c2242, c2244) => s_l8Step_L1 a_l a_facts a_r r3 r7 rest1954 (k1953 + 1) c2239 c2242 c2244
def s_l8Step (a_l : List Method) (a_facts : List Fact) (a_r : Reached) : Option (Reached × Bool) :=
  (s_l8Copy a_r).bind fun r3 =>
  (s_l8Open a_l a_r).bind fun r7 =>
  s_l8Step_L1 a_l a_facts a_r r3 r7 r7 0 r3.Facts r3.Values r3.Log
theorem s_l8Step_ok (a_l : List Method) (v0_0 : Sv) (a_facts : List Fact) (v1_0 : Sv) (a_r : Reached) (v2_0 : Sv) (v2_1 : Sv) (v2_2 : Sv) (R : Reached × Bool) (hF : s_l8Step a_l a_facts a_r = some R) :
    Fw.Spec Tryz.prog 171 [v0_0.v, v1_0.v, (.agg [v2_0.v, v2_1.v, v2_2.v, (.int .i64 a_r.Rounds)].toArray)] [crd (RdS 112 rd112) v0_0.v a_l, crd (RdS 114 rd114) v1_0.v a_facts, crd (RdS 114 rd114) v2_0.v a_r.Facts, crd (RdS 3 rdInt) v2_1.v a_r.Values, crd (RdS 80 rd80) v2_2.v a_r.Log] (fun p : Sv × List Nat × Sv × Sv => (.tuple [(.agg [p.1.v, p.2.2.1.v, p.2.2.2.v, (.int .i64 R.1.Rounds)].toArray), (.bool R.2)].toArray)) (fun p => [cown (OwnS 114 ow114) p.2.1 p.1.v R.1.Facts, crd (RdS 3 rdInt) p.2.2.1.v R.1.Values, crd (RdS 80 rd80) p.2.2.2.v R.1.Log]) := by
  refine Spec_enter (n := 94) Tryz.func171 rfl rfl (rs := [.cell 6 110, .tmp 7]) rfl rfl rfl ?_
  intro H0 F0
  unfold s_l8Step at hF
  refine K_region (C_newR rfl (N_box (g := false) (v := (.agg [v2_0.v, v2_1.v, v2_2.v, (.int .i64 a_r.Rounds)].toArray)) ty110.sz (.tmp rfl rfl) rfl) (fun k1 => ?_))
  refine C_new rfl (N_allocT (g := true) ty110 rfl rfl) (fun k2 => ?_)
  refine C_val (V_assign (v := (.bool false)) (.bool _)) ?_
  refine C_nil (K_region (C_at (.t .h) (fun hp => V_loadBox ag110 ty110.sz rfl (.tmp rfl rfl) hp.2 rfl) ?_))
  obtain ⟨r3, hx4, hF⟩ := bind_some hF
  refine C_x3 (.rd (.t (.t (.t (.t .h)))) rfl (.rd (.t (.t (.t (.t (.t .h))))) rfl (.rd (.t (.t (.t (.t (.t (.t .h)))))) rfl .nil))) (X_callS cf170 (.cons (.tmp rfl rfl) .nil) (s_l8Copy_ok a_r v2_0 v2_1 v2_2 _ hx4)) (fun p5 => ?_)
  refine C_new rfl (N_allocT (g := true) ty110 rfl rfl) (fun k6 => ?_)
  refine C_x1 (.cons .h .nil) (X_storeB (e' := (.agg [p5.1.v, p5.2.2.1.v, p5.2.2.2.2.1.v, (.int .i64 r3.Rounds)].toArray)) (v := (.agg [p5.1.v, p5.2.2.1.v, p5.2.2.2.2.1.v, (.int .i64 r3.Rounds)].toArray)) ty110.sz (.tmp rfl rfl) (.tmp rfl rfl) rfl rfl rfl rfl rfl) (fun _ => ?_)
  refine C_nil (K_region (Cm v0_0.v rfl rfl ?_))
  refine C_at (.t (.t (.t (.t (.t .h))))) (fun hp => V_loadBox ag110 ty110.sz rfl (.tmp rfl rfl) hp.2 rfl) ?_
  obtain ⟨r7, hx8, hF⟩ := bind_some hF
  refine C_x1 (.rd (.t (.t (.t (.t (.t (.t .h)))))) rfl (.rd (.t (.t (.t (.t (.t (.t (.t (.t .h)))))))) rfl (.rd (.t (.t (.t (.t (.t (.t (.t (.t (.t .h))))))))) rfl (.rd (.t (.t (.t (.t (.t (.t (.t (.t (.t (.t .h)))))))))) rfl .nil)))) (X_callS cf210 (.cons (.tmp rfl rfl) (.cons (.tmp rfl rfl) .nil)) (s_l8Open_ok a_l v0_0 a_r v2_0 v2_1 v2_2 _ hx8)) (fun p9 => ?_)
  refine Ca p9.1.v rfl rfl ?_
  refine C_nil (K_in (K_region (C_val (V_assign (v := (.int .i64 0)) (.int _ _)) ?_)))
  refine C_nil (CW_block (K_frz .h frz_own ?_))
  refine CW_loop (m := r7.length) (fun m1951 f' cs' => ∃ (g : Fr) (k1953 : Nat) (rest1954 : List Access) (c1942 : List Fact) (c1945 : List Int) (c1947 : List Access) (v1943 : Sv) (F1944 : List Nat) (v1946 : Sv) (v1948 : Sv) (F1949 : List Nat), m1951 = rest1954.length ∧ f' = updL g [(0, v0_0.v), (1, v1_0.v), (5, (.pointer (some ⟨k1, 0, some 0⟩))), (6, (.pointer (some ⟨k2, 0, some 0⟩))), (8, (.pointer (some ⟨k6, 0, some 0⟩))), (9, p9.1.v), (10, (.int .i64 (k1953 : Int)))] ∧ List.drop k1953 r7 = rest1954 ∧ Ent cs' [crd (RdS 112 rd112) v0_0.v a_l, crd (RdS 114 rd114) v1_0.v a_facts, cboR k1 110 (.agg [v2_0.v, v2_1.v, v2_2.v, (.int .i64 a_r.Rounds)].toArray), crd (RdS 114 rd114) v2_0.v a_r.Facts, crd (RdS 3 rdInt) v2_1.v a_r.Values, crd (RdS 80 rd80) v2_2.v a_r.Log, cbox k2 110 (.agg [(.slice none 0 0), (.slice none 0 0), (.slice none 0 0), (.int .i64 0)].toArray), cbox k6 110 (.agg [v1943.v, v1946.v, v1948.v, (.int .i64 r3.Rounds)].toArray), cown (OwnS 114 ow114) F1944 v1943.v c1942, crd (RdS 3 rdInt) v1946.v c1945, cown (OwnS 80 (roE rd80)) F1949 v1948.v c1947, crd (RdS 80 rd80) p9.1.v r7] ∧ s_l8Step_L1 a_l a_facts a_r r3 r7 rest1954 k1953 c1942 c1945 c1947 = some R) ⟨_, 0, _, _, _, _, p5.1, p5.2.1, p5.2.2.1, p5.2.2.2.2.1, (p5.2.2.2.2.2.take 1), rfl, (EqL.cons rfl (EqL.cons rfl (EqL.cons rfl (EqL.cons rfl (EqL.cons rfl (EqL.cons rfl (EqL.cons rfl (EqL.nil)))))))).eq, rfl, (.frz (.t (.t (.t .h))) frz_own (.half (.t (.t (.t (.t .h)))) (.sel (.rd (.t (.t (.t (.t (.t (.t (.t .h))))))) rfl (.rd (.t (.t (.t (.t (.t (.t (.t (.t .h)))))))) rfl (.rd (.t (.t (.t (.t (.t (.t .h)))))) rfl (.rd (.t (.t (.t (.t (.t (.t (.t (.t (.t .h))))))))) rfl (.rd (.t (.t (.t (.t (.t (.t (.t (.t (.t (.t .h)))))))))) rfl (.rd (.t (.t (.t (.t (.t (.t (.t (.t (.t (.t (.t .h))))))))))) rfl (.cons (.t (.t (.t (.t (.t .h))))) (.cons (.t (.t (.t .h))) (.cons (.t (.t (.t .h))) (.rd (.t .h) rfl (.cons .h (.rd (.t .h) rfl .nil))))))))))))))), hF⟩ ?_
  clear hF
  rintro m1951 _ _ ⟨g1952, k1953, rest1954, c1942, c1945, c1947, v1943, F1944, v1946, v1948, F1949, rfl, rfl, hd1956, hE, hF⟩
  refine K_ent hE ?_
  clear hE
  refine K_pure (c := crd (RdS 80 rd80) p9.1.v r7) (.t (.t (.t (.t (.t (.t (.t (.t (.t (.t (.t .h))))))))))) crd_bound (fun hbd1961 => ?_)
  rcases rest1954 with _ | ⟨x1955, rest1954⟩
  · have hk1957 := List.drop_eq_nil_iff.1 hd1956
    have hfe1960 : (decide (((k1953 : Int) : Int) < (r7.length : Int))) = false := decide_eq_false (by omega)
    rw [s_l8Step_L1] at hF
    refine K_in (K_region (Cm (.int .i64 (k1953 : Int)) rfl rfl ?_))
    refine Cm p9.1.v rfl rfl ?_
    refine C_at (.t (.t (.t (.t (.t (.t (.t (.t (.t (.t (.t .h))))))))))) (fun hp => V_lenR (l := r7.length) sl46 (.tmp rfl rfl) (crd_len hp)) ?_
    refine C_val (V_lss (i := (k1953 : Int)) (j := (r7.length : Int)) (.tmp rfl rfl) (.tmp rfl rfl)) ?_
    refine C_nil (CW_cond (b := (decide (((k1953 : Int) : Int) < (r7.length : Int)))) (.tmp rfl rfl) (fun hb => absurd (hfe1960.symm.trans hb) (by decide)) (fun _ => ?_))
    refine CW_exit ?_
    iterate 2 refine CThen_exit ?_
    refine CIn_self (K_in (K_region (Cm p9.1.v rfl rfl ?_)))
    refine C_at (.t (.t (.t (.t (.t (.t (.t (.t (.t (.t (.t .h))))))))))) (fun hp => V_lenR (l := r7.length) sl46 (.tmp rfl rfl) (crd_len hp)) ?_
    refine C_val (V_eql (i := (r7.length : Int)) (j := 0) (.tmp rfl rfl) (.int _ _)) ?_
    refine C_nil (CW_cond (b := (((r7.length : Int) : Int) == 0)) (.tmp rfl rfl) (fun hb1962 => ?_) (fun hb1962 => ?_))
    · rw [if_pos hb1962] at hF
      refine K_region (C_at (.t (.t (.t (.t (.t (.t (.t .h))))))) (fun hp => V_loadBox ag110 ty110.sz rfl (.tmp rfl rfl) hp.2 rfl) ?_)
      refine C_x1 (.cons (.t (.t (.t (.t (.t (.t .h)))))) .nil) (X_storeB (e' := (.agg [v1943.v, v1946.v, v1948.v, (.int .i64 r3.Rounds)].toArray)) (v := (.agg [v1943.v, v1946.v, v1948.v, (.int .i64 r3.Rounds)].toArray)) ty110.sz (.tmp rfl rfl) (.tmp rfl rfl) rfl rfl rfl rfl rfl) (fun _ => ?_)
      refine C_val (V_assign (v := (.bool false)) (.bool _)) ?_
      refine C_nil (CW_ret ?_)
      obtain rfl := Option.some.inj hF
      exact End_ret (v1943, F1944, v1946, v1948) (.cellA rfl rfl .h rfl ag110 ty110.sz rfl rfl (.tmp rfl rfl .nil)) rfl (.frz (.t (.t (.t (.t (.t (.t (.t (.t (.t (.t .h)))))))))) frz_own (.sel (.cons (.t (.t (.t (.t (.t (.t (.t (.t (.t .h))))))))) (.rd (.t (.t (.t (.t (.t (.t (.t (.t (.t .h))))))))) rfl (.rd .h rfl .nil)))))
    rw [if_neg (by rw [hb1962]; exact Bool.false_ne_true)] at hF
    refine CW_skip (K_region (C_val (V_fieldAddr (off := 3) fd110_3 (.tmp rfl rfl)) ?_))
    refine C_at (.t (.t .h)) (fun hp => V_load (v := (.int .i64 a_r.Rounds)) ag3 (.tmp rfl rfl) hp.2 rfl rfl) ?_
    refine C_val (V_add (i := a_r.Rounds) (j := 1) (.tmp rfl rfl) (.int _ _)) ?_
    refine C_val (V_fieldAddr (off := 3) fd110_3 (.tmp rfl rfl)) ?_
    refine C_x1 (.cons (.t (.t (.t (.t (.t (.t (.t .h))))))) .nil) (X_storeB (e' := (.agg [v1943.v, v1946.v, v1948.v, (.int .i64 (IntKind.i64.wrap (a_r.Rounds + 1)))].toArray)) (v := (.int .i64 (IntKind.i64.wrap (a_r.Rounds + 1)))) ty3.sz (.tmp rfl rfl) (.tmp rfl rfl) rfl rfl rfl rfl rfl) (fun _ => ?_)
    refine C_nil (K_region (C_at .h (fun hp => V_loadBox ag110 ty110.sz rfl (.tmp rfl rfl) hp.2 rfl) ?_))
    refine C_x1 (.cons (.t (.t (.t (.t (.t (.t (.t .h))))))) .nil) (X_storeB (e' := (.agg [v1943.v, v1946.v, v1948.v, (.int .i64 (IntKind.i64.wrap (a_r.Rounds + 1)))].toArray)) (v := (.agg [v1943.v, v1946.v, v1948.v, (.int .i64 (IntKind.i64.wrap (a_r.Rounds + 1)))].toArray)) ty110.sz (.tmp rfl rfl) (.tmp rfl rfl) rfl rfl rfl rfl rfl) (fun _ => ?_)
    refine C_val (V_assign (v := (.bool true)) (.bool _)) ?_
    refine C_nil (CW_ret ?_)
    obtain rfl := Option.some.inj hF
    exact End_ret (v1943, F1944, v1946, v1948) (.cellA rfl rfl .h rfl ag110 ty110.sz rfl rfl (.tmp rfl rfl .nil)) rfl (.frz (.t (.t (.t (.t (.t (.t (.t (.t (.t (.t .h)))))))))) frz_own (.sel (.cons (.t (.t (.t (.t (.t (.t (.t (.t (.t .h))))))))) (.rd (.t (.t (.t (.t (.t (.t (.t (.t (.t .h))))))))) rfl (.rd .h rfl .nil)))))
  obtain ⟨hk1957, hx1958, hd1959⟩ := drop_cons hd1956
  have hfe1960 : (decide (((k1953 : Int) : Int) < (r7.length : Int))) = true := decide_eq_true (by omega)
  rw [s_l8Step_L1] at hF
  refine K_in (K_region (Cm (.int .i64 (k1953 : Int)) rfl rfl ?_))
  refine Cm p9.1.v rfl rfl ?_
  refine C_at (.t (.t (.t (.t (.t (.t (.t (.t (.t (.t (.t .h))))))))))) (fun hp => V_lenR (l := r7.length) sl46 (.tmp rfl rfl) (crd_len hp)) ?_
  refine C_val (V_lss (i := (k1953 : Int)) (j := (r7.length : Int)) (.tmp rfl rfl) (.tmp rfl rfl)) ?_
  refine C_nil (CW_cond (b := (decide (((k1953 : Int) : Int) < (r7.length : Int)))) (.tmp rfl rfl) (fun _ => ?_) (fun hb => absurd (hfe1960.symm.trans hb) (by decide)))
  refine CW_skip ?_
  obtain ⟨o1963, hio1963, hO1964⟩ := bind_some hF
  refine K_cut (fun f' cs' => ∃ (c2239 : List Fact) (c2242 : List Int) (c2244 : List Access) (v2240 : Sv) (F2241 : List Nat) (v2243 : Sv) (v2245 : Sv) (F2246 : List Nat) (g : Fr), o1963 = (c2239, c2242, c2244) ∧ f' = updL g [(0, v0_0.v), (1, v1_0.v), (5, (.pointer (some ⟨k1, 0, some 0⟩))), (6, (.pointer (some ⟨k2, 0, some 0⟩))), (8, (.pointer (some ⟨k6, 0, some 0⟩))), (9, p9.1.v), (10, (.int .i64 (k1953 : Int)))] ∧ Ent cs' [crd (RdS 112 rd112) v0_0.v a_l, crd (RdS 114 rd114) v1_0.v a_facts, cboR k1 110 (.agg [v2_0.v, v2_1.v, v2_2.v, (.int .i64 a_r.Rounds)].toArray), crd (RdS 114 rd114) v2_0.v a_r.Facts, crd (RdS 3 rdInt) v2_1.v a_r.Values, crd (RdS 80 rd80) v2_2.v a_r.Log, cbox k2 110 (.agg [(.slice none 0 0), (.slice none 0 0), (.slice none 0 0), (.int .i64 0)].toArray), cbox k6 110 (.agg [v2240.v, v2243.v, v2245.v, (.int .i64 r3.Rounds)].toArray), cown (OwnS 114 ow114) F2241 v2240.v c2239, crd (RdS 3 rdInt) v2243.v c2242, cown (OwnS 80 (roE rd80)) F2246 v2245.v c2244, crd (RdS 80 rd80) p9.1.v r7]) ?_ ?_
  · replace hF := hio1963
    refine CW_block (K_draw [0, 1, 2, 3, 4, 5, 6, 7, 8, 9] [0, 1, 0, 0, 12, 28, 60, 127, 255, 511] [7, 9] mixed (by decide +kernel) ?_)
    refine D_val rfl .no (fun ha => V_fieldAddr (off := 2) fd110_2 (EN ha (.tmp rfl rfl) rfl)) ?_
    refine D_atO rfl .no (.t (.t (.t (.t (.t (.t (.t .h))))))) (fun ha hp => V_load (v := v1948.v) ag46 (EN ha (.tmp rfl rfl) rfl) hp.2 rfl rfl) ?_
    refine Dm p9.1.v rfl rfl rfl rfl ?_
    refine Dm (.int .i64 (k1953 : Int)) rfl rfl rfl rfl ?_
    refine D_idx (a := x1955) sl46 ty80.sz rfl .no (.tmp rfl rfl) (.tmp rfl rfl) rfl rfl (.t (.t (.t (.t (.t (.t (.t (.t (.t (.t (.t .h))))))))))) (Int.natCast_nonneg k1953) hx1958 (fun k1965 j1966 => ?_)
    refine D_ldA1 (ul80_0_80 x1955) ag80 ty80.sz rfl rfl .no (.tmp rfl rfl) rfl .h la80_0_80 (fun p1967 => ?_)
    refine D_new rfl .no rfl (fun ha => N_buildSliceT (g := true) (len := 1) (parts := [(0, .tmp 30)]) sl46 ty80 (.cons (EN ha (.tmp rfl rfl) rfl) .nil) (vs := [(.agg [(.int .i64 x1955.Method), p1967.v].toArray)]) rfl rfl rfl (by intro v hv; simp at hv; rcases hv with rfl <;> rfl)) (fun k1968 => ?_)
    refine D_conv (.cons .h (.rd .h rfl .nil)) (own_lit (Ro := (roE rd80)) (E := 80) (F := ([] ++ [])) (xs := ([x1955] : List Access)) (MkL_cons mr80 MkL_nil apps) rfl rfl) apps ?_
    obtain ⟨z1969, hx1970, hF⟩ := bind_some hF
    refine D_act1 rfl rfl .no (.cons (.t (.t (.t (.t (.t (.t (.t (.t (.t (.t (.t (.t (.t .h))))))))))))) (.cons .h .nil)) (.dep rfl (.dep rfl .nil)) (fun ha => X_appendO (Ro := (roE rd80)) sl46 ni46 ty80 rfl rfl rfl (EN ha (.tmp rfl rfl) rfl) (EN ha (.tmp rfl rfl) rfl) hx1970 src_own) (fun p1971 => ?_)
    refine D_val rfl .no (fun ha => V_fieldAddr (off := 2) fd110_2 (EN ha (.tmp rfl rfl) rfl)) ?_
    refine D_act1 rfl rfl .no (.cons (.t (.t (.t (.t (.t (.t (.t (.t (.t (.t .h)))))))))) .nil) (.dep rfl (.dep rfl .nil)) (fun ha => X_storeB (e' := (.agg [v1943.v, v1946.v, p1971.1.v, (.int .i64 r3.Rounds)].toArray)) ty46.sz (EN ha (.tmp rfl rfl) rfl) (EN ha (.tmp rfl rfl) rfl) rfl rfl rfl rfl rfl) (fun _ => ?_)
    refine D_nil (K_draw [0, 1, 2, 3, 4, 5, 6, 7, 8, 9, 10, 11, 12, 13, 14, 15] [0, 0, 0, 6, 14, 30, 63, 127, 0, 0, 768, 1792, 3840, 0, 16383, 32767] [14] mixed (by decide +kernel) ?_)
    refine Dm v0_0.v rfl rfl rfl rfl ?_
    refine Dm p9.1.v rfl rfl rfl rfl ?_
    refine Dm (.int .i64 (k1953 : Int)) rfl rfl rfl rfl ?_
    refine D_idx (a := x1955) sl46 ty80.sz rfl .no (.tmp rfl rfl) (.tmp rfl rfl) rfl rfl (.t (.t (.t (.t (.t (.t (.t (.t (.t (.t (.t (.t (.t .h))))))))))))) (Int.natCast_nonneg k1953) hx1958 (fun k1972 j1973 => ?_)
    refine D_val rfl .no (fun ha => V_fieldAddr (off := 0) fd80_0 (EN ha (.tmp rfl rfl) rfl)) ?_
    refine D_ldS (w := (.int .i64 x1955.Method)) ag3 rfl .no (.tmp rfl rfl) rfl .h ls80_0 ?_
    obtain ⟨x1974, hx1975, hF⟩ := bind_some hF
    obtain ⟨hp1976, hx1977⟩ := ix_some hx1975
    refine D_idx (a := x1974) sl38 ty112.sz rfl .no (.tmp rfl rfl) (.tmp rfl rfl) rfl rfl (.t (.t (.t (.t (.t .h))))) hp1976 hx1977 (fun k1978 j1979 => ?_)
    refine D_ldA1 (ul112_0_112 x1974) ag112 ty112.sz rfl rfl .no (.tmp rfl rfl) rfl .h la112_0_112 (fun p1980 => ?_)
    refine Dm p9.1.v rfl rfl rfl rfl ?_
    refine Dm (.int .i64 (k1953 : Int)) rfl rfl rfl rfl ?_
    refine D_idx (a := x1955) sl46 ty80.sz rfl .no (.tmp rfl rfl) (.tmp rfl rfl) rfl rfl (.t (.t (.t (.t (.t (.t (.t (.t (.t (.t (.t (.t (.t (.t (.t (.t .h)))))))))))))))) (Int.natCast_nonneg k1953) hx1958 (fun k1981 j1982 => ?_)
    refine D_val rfl .no (fun ha => V_fieldAddr (off := 1) fd80_1 (EN ha (.tmp rfl rfl) rfl)) ?_
    refine D_ldV (R' := (RdS 3 rdInt)) ag22 rfl .no (.tmp rfl rfl) rfl .h lv80_1 (fun w1983 => ?_)
    refine Dm v1_0.v rfl rfl rfl rfl ?_
    obtain ⟨r1984, hx1985, hF⟩ := bind_some hF
    refine D_act1 rfl rfl .no (.rd (.t (.t .h)) rfl (.rd .h rfl (.rd (.t (.t (.t (.t (.t (.t (.t (.t (.t (.t .h)))))))))) rfl .nil))) .nil (fun ha => X_callS cf211 (.cons (EN ha (.tmp rfl rfl) rfl) (.cons (EN ha (.tmp rfl rfl) rfl) (.cons (EN ha (.tmp rfl rfl) rfl) .nil))) (s_l5Matches_ok x1974 p1980 x1955.Values w1983 a_facts v1_0 _ hx1985)) (fun p1986 => ?_)
    refine Da p1986.1.v rfl rfl rfl rfl ?_
    refine D_nil (K_region (C_val (V_assign (v := (.int .i64 0)) (.int _ _)) ?_))
    refine C_nil (CW_block (K_frz .h frz_own ?_))
    refine CW_loop (m := r1984.length) (fun m2162 f' cs' => ∃ (g : Fr) (k2164 : Nat) (rest2165 : List Fact) (c2156 : List Fact) (c2159 : List Int) (v2157 : Sv) (F2158 : List Nat) (v2160 : Sv), m2162 = rest2165.length ∧ f' = updL g [(0, v0_0.v), (1, v1_0.v), (5, (.pointer (some ⟨k1, 0, some 0⟩))), (6, (.pointer (some ⟨k2, 0, some 0⟩))), (8, (.pointer (some ⟨k6, 0, some 0⟩))), (9, p9.1.v), (10, (.int .i64 (k1953 : Int))), (11, p1986.1.v), (12, (.int .i64 (k2164 : Int)))] ∧ List.drop k2164 r1984 = rest2165 ∧ Ent cs' [crd (RdS 112 rd112) v0_0.v a_l, crd (RdS 114 rd114) v1_0.v a_facts, cboR k1 110 (.agg [v2_0.v, v2_1.v, v2_2.v, (.int .i64 a_r.Rounds)].toArray), crd (RdS 114 rd114) v2_0.v a_r.Facts, crd (RdS 3 rdInt) v2_1.v a_r.Values, crd (RdS 80 rd80) v2_2.v a_r.Log, cbox k2 110 (.agg [(.slice none 0 0), (.slice none 0 0), (.slice none 0 0), (.int .i64 0)].toArray), cbox k6 110 (.agg [v2157.v, v2160.v, p1971.1.v, (.int .i64 r3.Rounds)].toArray), cown (OwnS 114 ow114) F2158 v2157.v c2156, crd (RdS 3 rdInt) v2160.v c2159, cown (OwnS 80 (roE rd80)) p1971.2 p1971.1.v z1969, crd (RdS 80 rd80) p9.1.v r7, crd (RdS 114 rd114) p1986.1.v r1984] ∧ s_l8Step_L21 z1969 rest2165 k2164 c2156 c2159 = some o1963) ⟨_, 0, _, _, _, v1943, F1944, v1946, rfl, (EqL.cons rfl (EqL.cons rfl (EqL.cons rfl (EqL.cons rfl (EqL.cons rfl (EqL.cons rfl (EqL.cons rfl (EqL.cons rfl (EqL.cons rfl (EqL.nil)))))))))).eq, rfl, (.sel (.rd (.t (.t (.t (.t (.t (.t (.t (.t (.t (.t .h)))))))))) rfl (.rd (.t (.t (.t (.t (.t (.t (.t (.t (.t (.t (.t .h))))))))))) rfl (.rd (.t (.t (.t (.t (.t (.t (.t (.t (.t (.t (.t (.t .h)))))))))))) rfl (.rd (.t (.t (.t (.t (.t (.t (.t (.t (.t (.t (.t (.t (.t .h))))))))))))) rfl (.rd (.t (.t (.t (.t (.t (.t (.t (.t (.t (.t (.t (.t (.t (.t .h)))))))))))))) rfl (.rd (.t (.t (.t (.t (.t (.t (.t (.t (.t (.t (.t (.t (.t (.t (.t .h))))))))))))))) rfl (.cons (.t (.t (.t (.t (.t (.t (.t (.t (.t (.t (.t (.t (.t (.t (.t (.t .h)))))))))))))))) (.cons (.t (.t (.t (.t (.t (.t .h)))))) (.cons (.t (.t (.t (.t (.t (.t (.t (.t (.t (.t (.t (.t (.t (.t (.t .h))))))))))))))) (.rd (.t (.t (.t (.t (.t (.t (.t (.t (.t (.t (.t (.t (.t (.t (.t .h))))))))))))))) rfl (.cons (.t (.t (.t (.t (.t (.t .h)))))) (.rd (.t (.t (.t (.t (.t (.t (.t (.t (.t (.t (.t (.t (.t (.t (.t .h))))))))))))))) rfl (.rd .h rfl .nil)))))))))))))), hF⟩ ?_
    clear hF
    rintro m2162 _ _ ⟨g2163, k2164, rest2165, c2156, c2159, v2157, F2158, v2160, rfl, rfl, hd2167, hE, hF⟩
    refine K_ent hE ?_
    clear hE
    refine K_pure (c := crd (RdS 114 rd114) p1986.1.v r1984) (.t (.t (.t (.t (.t (.t (.t (.t (.t (.t (.t (.t .h)))))))))))) crd_bound (fun hbd2172 => ?_)
    rcases rest2165 with _ | ⟨x2166, rest2165⟩
    · have hk2168 := List.drop_eq_nil_iff.1 hd2167
      have hfe2171 : (decide (((k2164 : Int) : Int) < (r1984.length : Int))) = false := decide_eq_false (by omega)
      rw [s_l8Step_L21] at hF
      refine K_in (K_region (Cm (.int .i64 (k2164 : Int)) rfl rfl ?_))
      refine Cm p1986.1.v rfl rfl ?_
      refine C_at (.t (.t (.t (.t (.t (.t (.t (.t (.t (.t (.t (.t .h)))))))))))) (fun hp => V_lenR (l := r1984.length) sl40 (.tmp rfl rfl) (crd_len hp)) ?_
      refine C_val (V_lss (i := (k2164 : Int)) (j := (r1984.length : Int)) (.tmp rfl rfl) (.tmp rfl rfl)) ?_
      refine C_nil (CW_cond (b := (decide (((k2164 : Int) : Int) < (r1984.length : Int)))) (.tmp rfl rfl) (fun hb => absurd (hfe2171.symm.trans hb) (by decide)) (fun _ => ?_))
      refine CW_exit ?_
      iterate 2 refine CThen_exit ?_
      refine CIn_self ?_
      obtain rfl := Option.some.inj hF
      exact ⟨_, _, _, v2157, F2158, v2160, p1971.1, p1971.2, _, rfl, (EqL.cons rfl (EqL.cons rfl (EqL.cons rfl (EqL.cons rfl (EqL.cons rfl (EqL.cons rfl (EqL.cons rfl (EqL.nil)))))))).eq, (.sel (.rd .h rfl (.rd (.t .h) rfl (.rd (.t (.t .h)) rfl (.rd (.t (.t (.t .h))) rfl (.rd (.t (.t (.t (.t .h)))) rfl (.rd (.t (.t (.t (.t (.t .h))))) rfl (.cons (.t (.t (.t (.t (.t (.t .h)))))) (.cons (.t (.t (.t (.t (.t (.t .h)))))) (.cons (.t (.t (.t (.t (.t (.t .h)))))) (.rd (.t (.t (.t (.t (.t (.t .h)))))) rfl (.cons (.t (.t (.t (.t (.t (.t (.t .h))))))) (.rd (.t (.t (.t (.t (.t (.t (.t .h))))))) rfl .nil)))))))))))))⟩
    obtain ⟨hk2168, hx2169, hd2170⟩ := drop_cons hd2167
    have hfe2171 : (decide (((k2164 : Int) : Int) < (r1984.length : Int))) = true := decide_eq_true (by omega)
    rw [s_l8Step_L21] at hF
    refine K_in (K_region (Cm (.int .i64 (k2164 : Int)) rfl rfl ?_))
    refine Cm p1986.1.v rfl rfl ?_
    refine C_at (.t (.t (.t (.t (.t (.t (.t (.t (.t (.t (.t (.t .h)))))))))))) (fun hp => V_lenR (l := r1984.length) sl40 (.tmp rfl rfl) (crd_len hp)) ?_
    refine C_val (V_lss (i := (k2164 : Int)) (j := (r1984.length : Int)) (.tmp rfl rfl) (.tmp rfl rfl)) ?_
    refine C_nil (CW_cond (b := (decide (((k2164 : Int) : Int) < (r1984.length : Int)))) (.tmp rfl rfl) (fun _ => ?_) (fun hb => absurd (hfe2171.symm.trans hb) (by decide)))
    refine CW_skip ?_
    obtain ⟨o2173, hio2173, hO2174⟩ := bind_some hF
    refine K_cut (fun f' cs' => ∃ (c2232 : List Fact) (c2235 : List Int) (v2233 : Sv) (F2234 : List Nat) (v2236 : Sv) (g : Fr), o2173 = (c2232, c2235) ∧ f' = updL g [(0, v0_0.v), (1, v1_0.v), (5, (.pointer (some ⟨k1, 0, some 0⟩))), (6, (.pointer (some ⟨k2, 0, some 0⟩))), (8, (.pointer (some ⟨k6, 0, some 0⟩))), (9, p9.1.v), (10, (.int .i64 (k1953 : Int))), (11, p1986.1.v), (12, (.int .i64 (k2164 : Int)))] ∧ Ent cs' [crd (RdS 112 rd112) v0_0.v a_l, crd (RdS 114 rd114) v1_0.v a_facts, cboR k1 110 (.agg [v2_0.v, v2_1.v, v2_2.v, (.int .i64 a_r.Rounds)].toArray), crd (RdS 114 rd114) v2_0.v a_r.Facts, crd (RdS 3 rdInt) v2_1.v a_r.Values, crd (RdS 80 rd80) v2_2.v a_r.Log, cbox k2 110 (.agg [(.slice none 0 0), (.slice none 0 0), (.slice none 0 0), (.int .i64 0)].toArray), cbox k6 110 (.agg [v2233.v, v2236.v, p1971.1.v, (.int .i64 r3.Rounds)].toArray), cown (OwnS 114 ow114) F2234 v2233.v c2232, crd (RdS 3 rdInt) v2236.v c2235, cown (OwnS 80 (roE rd80)) p1971.2 p1971.1.v z1969, crd (RdS 80 rd80) p9.1.v r7, crd (RdS 114 rd114) p1986.1.v r1984]) ?_ ?_
    · replace hF := hio2173
      refine CW_block (K_draw [0, 1, 2, 3, 4, 5, 6, 7, 8] [0, 1, 0, 0, 12, 28, 63, 127, 255] [6, 8] mixed (by decide +kernel) ?_)
      refine D_val rfl .no (fun ha => V_fieldAddr (off := 0) fd110_0 (EN ha (.tmp rfl rfl) rfl)) ?_
      refine D_atO rfl .no (.t (.t (.t (.t (.t (.t (.t .h))))))) (fun ha hp => V_load (v := v2157.v) ag40 (EN ha (.tmp rfl rfl) rfl) hp.2 rfl rfl) ?_
      refine Dm p1986.1.v rfl rfl rfl rfl ?_
      refine Dm (.int .i64 (k2164 : Int)) rfl rfl rfl rfl ?_
      refine D_idx (a := x2166) sl40 ty114.sz rfl .no (.tmp rfl rfl) (.tmp rfl rfl) rfl rfl (.t (.t (.t (.t (.t (.t (.t (.t (.t (.t (.t (.t .h)))))))))))) (Int.natCast_nonneg k2164) hx2169 (fun k2175 j2176 => ?_)
      refine D_ldA1 (ul114_0_114 x2166) ag114 ty114.sz rfl rfl .no (.tmp rfl rfl) rfl .h la114_0_114 (fun p2177 => ?_)
      obtain ⟨r2178, hx2179, hF⟩ := bind_some hF
      refine D_act2 rfl rfl .no (.cons (.t (.t (.t (.t (.t (.t (.t (.t (.t (.t .h)))))))))) (.rd .h rfl .nil)) (.dep rfl .nil) (fun ha => XC_bor frz_own (fun _ => (.cons .nil)) (X_callS cf140 (.cons (EN ha (.tmp rfl rfl) rfl) (.cons (EN ha (.tmp rfl rfl) rfl) .nil)) (s_AddFact_ok c2156 v2157 x2166 p2177 _ hx2179))) (fun p2180 => ?_)
      refine D_val rfl .no (fun ha => V_fieldAddr (off := 0) fd110_0 (EN ha (.tmp rfl rfl) rfl)) ?_
      refine D_act1 rfl rfl .no (.cons (.t (.t (.t (.t (.t (.t (.t (.t (.t (.t (.t .h))))))))))) .nil) (.dep rfl .nil) (fun ha => X_storeB (e' := (.agg [p2180.1.v, v2160.v, p1971.1.v, (.int .i64 r3.Rounds)].toArray)) ty40.sz (EN ha (.tmp rfl rfl) rfl) (EN ha (.tmp rfl rfl) rfl) rfl rfl rfl rfl rfl) (fun _ => ?_)
      refine D_nil (K_region (C_val (V_assign (v := (.int .i64 0)) (.int _ _)) ?_))
      refine C_nil (CW_block (CW_loop (m := (((x2166.Values.length : Int) - 0).toNat + 2)) (fun m2208 f' cs' => ∃ (g : Fr) (c2205 : List Int) (c2207 : Int) (v2206 : Sv), f' = updL g [(0, v0_0.v), (1, v1_0.v), (5, (.pointer (some ⟨k1, 0, some 0⟩))), (6, (.pointer (some ⟨k2, 0, some 0⟩))), (8, (.pointer (some ⟨k6, 0, some 0⟩))), (9, p9.1.v), (10, (.int .i64 (k1953 : Int))), (11, p1986.1.v), (12, (.int .i64 (k2164 : Int))), (13, (.int .i64 c2207))] ∧ Ent cs' [crd (RdS 112 rd112) v0_0.v a_l, crd (RdS 114 rd114) v1_0.v a_facts, cboR k1 110 (.agg [v2_0.v, v2_1.v, v2_2.v, (.int .i64 a_r.Rounds)].toArray), crd (RdS 114 rd114) v2_0.v a_r.Facts, crd (RdS 3 rdInt) v2_1.v a_r.Values, crd (RdS 80 rd80) v2_2.v a_r.Log, cbox k2 110 (.agg [(.slice none 0 0), (.slice none 0 0), (.slice none 0 0), (.int .i64 0)].toArray), cbox k6 110 (.agg [p2180.1.v, v2206.v, p1971.1.v, (.int .i64 r3.Rounds)].toArray), cown (OwnS 114 ow114) p2180.2 p2180.1.v r2178, crd (RdS 3 rdInt) v2206.v c2205, cown (OwnS 80 (roE rd80)) p1971.2 p1971.1.v z1969, crd (RdS 80 rd80) p9.1.v r7, crd (RdS 114 rd114) p1986.1.v r1984] ∧ s_l8Step_L24 x2166 r2178 m2208 c2205 c2207 = some o2173) ⟨_, _, _, v2160, (EqL.cons rfl (EqL.cons rfl (EqL.cons rfl (EqL.cons rfl (EqL.cons rfl (EqL.cons rfl (EqL.cons rfl (EqL.cons rfl (EqL.cons rfl (EqL.cons rfl (EqL.nil))))))))))).eq, (.sel (.rd (.t (.t (.t (.t (.t .h))))) rfl (.rd (.t (.t (.t (.t (.t (.t .h)))))) rfl (.rd (.t (.t (.t (.t (.t (.t (.t .h))))))) rfl (.rd (.t (.t (.t (.t (.t (.t (.t (.t .h)))))))) rfl (.rd (.t (.t (.t (.t (.t (.t (.t (.t (.t .h))))))))) rfl (.rd (.t (.t (.t (.t (.t (.t (.t (.t (.t (.t .h)))))))))) rfl (.cons (.t (.t (.t (.t (.t (.t (.t (.t (.t (.t (.t .h))))))))))) (.cons .h (.cons (.t .h) (.rd (.t (.t (.t (.t (.t (.t (.t (.t (.t .h))))))))) rfl (.cons (.t (.t (.t (.t (.t (.t (.t (.t (.t (.t .h)))))))))) (.rd (.t (.t (.t (.t (.t (.t (.t (.t (.t (.t .h)))))))))) rfl (.rd (.t (.t (.t (.t (.t (.t (.t (.t (.t (.t (.t .h))))))))))) rfl .nil)))))))))))))), hF⟩ ?_))
      clear hF
      rintro m2208 _ _ ⟨g2209, c2205, c2207, v2206, rfl, hE, hF⟩
      refine K_ent hE ?_
      clear hE
      rcases m2208 with _ | m2208
      · rw [s_l8Step_L24] at hF
        exact absurd hF (by simp)
      rw [s_l8Step_L24] at hF
      refine K_in (K_region (Cm (.int .i64 c2207) rfl rfl ?_))
      refine Cm p1986.1.v rfl rfl ?_
      refine Cm (.int .i64 (k2164 : Int)) rfl rfl ?_
      refine C_idx (a := x2166) sl40 ty114.sz (.tmp rfl rfl) (.tmp rfl rfl) (.t (.t (.t (.t (.t (.t (.t (.t (.t (.t (.t (.t .h)))))))))))) (Int.natCast_nonneg k2164) hx2169 (fun k2216 j2217 => ?_)
      refine C_val (V_fieldAddr (off := 1) fd114_1 (.tmp rfl rfl)) ?_
      refine C_ldV (R' := (RdS 3 rdInt)) ag22 (.tmp rfl rfl) .h lv114_1 (fun w2218 => ?_)
      refine C_at .h (fun hp => V_lenR (l := x2166.Values.length) sl22 (.tmp rfl rfl) (crd_len hp)) ?_
      refine C_val (V_lss (i := c2207) (j := (x2166.Values.length : Int)) (.tmp rfl rfl) (.tmp rfl rfl)) ?_
      refine C_nil (CW_cond (b := (decide ((c2207 : Int) < (x2166.Values.length : Int)))) (.tmp rfl rfl) (fun hb2231 => ?_) (fun hb2231 => ?_))
      · rw [if_pos hb2231] at hF
        refine CW_skip (K_block (CW_draw [0, 1, 2, 3, 4, 5, 6, 7, 8, 9, 10, 11, 12] [0, 1, 0, 0, 12, 28, 60, 0, 252, 508, 1023, 2047, 4095] [10, 12] mixed (by decide +kernel) ?_))
        refine D_val rfl .no (fun ha => V_fieldAddr (off := 1) fd110_1 (EN ha (.tmp rfl rfl) rfl)) ?_
        refine D_atO rfl .no (.t (.t (.t (.t (.t (.t (.t (.t (.t .h))))))))) (fun ha hp => V_load (v := v2206.v) ag22 (EN ha (.tmp rfl rfl) rfl) hp.2 rfl rfl) ?_
        refine Dm p1986.1.v rfl rfl rfl rfl ?_
        refine Dm (.int .i64 (k2164 : Int)) rfl rfl rfl rfl ?_
        refine D_idx (a := x2166) sl40 ty114.sz rfl .no (.tmp rfl rfl) (.tmp rfl rfl) rfl rfl (.t (.t (.t (.t (.t (.t (.t (.t (.t (.t (.t (.t (.t (.t .h)))))))))))))) (Int.natCast_nonneg k2164) hx2169 (fun k2219 j2220 => ?_)
        refine D_val rfl .no (fun ha => V_fieldAddr (off := 1) fd114_1 (EN ha (.tmp rfl rfl) rfl)) ?_
        refine D_ldV (R' := (RdS 3 rdInt)) ag22 rfl .no (.tmp rfl rfl) rfl .h lv114_1 (fun w2221 => ?_)
        refine Dm (.int .i64 c2207) rfl rfl rfl rfl ?_
        obtain ⟨x2222, hx2223, hF⟩ := bind_some hF
        obtain ⟨hp2224, hx2225⟩ := ix_some hx2223
        refine D_idx (a := x2222) sl22 ty3.sz rfl .no (.tmp rfl rfl) (.tmp rfl rfl) rfl rfl .h hp2224 hx2225 (fun k2226 j2227 => ?_)
        refine D_ldS (w := (.int .i64 x2222)) ag3 rfl .no (.tmp rfl rfl) rfl .h ls3_0 ?_
        obtain ⟨r2228, hx2229, hF⟩ := bind_some hF
        refine D_act1 rfl rfl .no (.rd (.t (.t (.t (.t (.t (.t (.t (.t (.t (.t (.t (.t (.t (.t .h)))))))))))))) rfl .nil) (.dep rfl .nil) (fun ha => X_callS cf168 (.cons (EN ha (.tmp rfl rfl) rfl) (.cons (EN ha (.tmp rfl rfl) rfl) .nil)) (s_l3Put_ok c2205 v2206 x2222 _ hx2229)) (fun p2230 => ?_)
        refine D_val rfl .no (fun ha => V_fieldAddr (off := 1) fd110_1 (EN ha (.tmp rfl rfl) rfl)) ?_
        refine D_act1 rfl rfl .no (.cons (.t (.t (.t (.t (.t (.t (.t (.t (.t (.t (.t (.t (.t .h))))))))))))) .nil) (.dep rfl .nil) (fun ha => X_storeB (e' := (.agg [p2180.1.v, p2230.v, p1971.1.v, (.int .i64 r3.Rounds)].toArray)) ty22.sz (EN ha (.tmp rfl rfl) rfl) (EN ha (.tmp rfl rfl) rfl) rfl rfl rfl rfl rfl) (fun _ => ?_)
        refine D_nil (CW_region (Cm (.int .i64 c2207) rfl rfl ?_))
        refine C_val (V_add (i := c2207) (j := 1) (.tmp rfl rfl) (.int _ _)) ?_
        refine Ca (.int .i64 (IntKind.i64.wrap (c2207 + 1))) rfl rfl ?_
        refine C_nil ?_
        exact ⟨m2208, Nat.lt_succ_self _, _, _, _, p2230, (EqL.cons rfl (EqL.cons rfl (EqL.cons rfl (EqL.cons rfl (EqL.cons rfl (EqL.cons rfl (EqL.cons rfl (EqL.cons rfl (EqL.cons rfl (EqL.cons rfl (EqL.nil))))))))))).eq, (.sel (.rd (.t (.t (.t (.t (.t (.t (.t .h))))))) rfl (.rd (.t (.t (.t (.t (.t (.t (.t (.t .h)))))))) rfl (.rd (.t (.t (.t (.t (.t (.t (.t (.t (.t .h))))))))) rfl (.rd (.t (.t (.t (.t (.t (.t (.t (.t (.t (.t .h)))))))))) rfl (.rd (.t (.t (.t (.t (.t (.t (.t (.t (.t (.t (.t .h))))))))))) rfl (.rd (.t (.t (.t (.t (.t (.t (.t (.t (.t (.t (.t (.t .h)))))))))))) rfl (.cons (.t (.t (.t (.t (.t (.t (.t (.t (.t (.t (.t (.t (.t .h))))))))))))) (.cons .h (.cons (.t (.t (.t (.t (.t (.t (.t (.t (.t (.t (.t (.t .h)))))))))))) (.rd .h rfl (.cons (.t (.t (.t (.t (.t (.t (.t (.t (.t (.t (.t (.t (.t .h))))))))))))) (.rd (.t (.t (.t (.t (.t (.t (.t (.t (.t (.t (.t (.t (.t .h))))))))))))) rfl (.rd (.t (.t (.t (.t (.t (.t (.t (.t (.t (.t (.t (.t (.t (.t .h)))))))))))))) rfl .nil)))))))))))))), hF⟩
      rw [if_neg (by rw [hb2231]; exact Bool.false_ne_true)] at hF
      refine CW_exit ?_
      iterate 2 refine CThen_exit ?_
      refine CIn_self ?_
      obtain rfl := Option.some.inj hF
      exact ⟨_, _, p2180.1, p2180.2, v2206, _, rfl, (EqL.cons rfl (EqL.cons rfl (EqL.cons rfl (EqL.cons rfl (EqL.cons rfl (EqL.cons rfl (EqL.cons rfl (EqL.cons rfl (EqL.cons rfl (EqL.nil)))))))))).eq, (.sel (.rd (.t (.t .h)) rfl (.rd (.t (.t (.t .h))) rfl (.rd (.t (.t (.t (.t .h)))) rfl (.rd (.t (.t (.t (.t (.t .h))))) rfl (.rd (.t (.t (.t (.t (.t (.t .h)))))) rfl (.rd (.t (.t (.t (.t (.t (.t (.t .h))))))) rfl (.cons (.t (.t (.t (.t (.t (.t (.t (.t .h)))))))) (.cons (.t (.t (.t (.t (.t (.t (.t (.t .h)))))))) (.cons (.t (.t (.t (.t (.t (.t (.t (.t .h)))))))) (.rd (.t (.t (.t (.t (.t (.t (.t (.t .h)))))))) rfl (.cons (.t (.t (.t (.t (.t (.t (.t (.t (.t .h))))))))) (.rd (.t (.t (.t (.t (.t (.t (.t (.t (.t .h))))))))) rfl (.rd (.t (.t (.t (.t (.t (.t (.t (.t (.t (.t .h)))))))))) rfl .nil))))))))))))))⟩
    rintro _ _ ⟨c2232, c2235, v2233, F2234, v2236, g2238, rfl, rfl, hE⟩
    replace hF := hO2174
    clear hO2174
    try dsimp only at hF
    refine K_ent hE ?_
    refine CW_region (Cm (.int .i64 (k2164 : Int)) rfl rfl ?_)
    refine C_val (V_add (i := (k2164 : Int)) (j := 1) (.tmp rfl rfl) (.int _ _)) ?_
    refine Ca (.int .i64 (IntKind.i64.wrap ((k2164 : Int) + 1))) rfl rfl ?_
    refine C_nil ?_
    have hw2237 : IntKind.i64.wrap ((k2164 : Int) + 1) = ((k2164 + 1 : Nat) : Int) := by rw [wrap_in (by omega) (by omega)]; rfl
    rw [hw2237]
    exact ⟨_, Nat.lt_succ_self _, _, k2164 + 1, rest2165, _, _, v2233, F2234, v2236, rfl, (EqL.cons rfl (EqL.cons rfl (EqL.cons rfl (EqL.cons rfl (EqL.cons rfl (EqL.cons rfl (EqL.cons rfl (EqL.cons rfl (EqL.cons rfl (EqL.nil)))))))))).eq, hd2170, (.sel (.rd .h rfl (.rd (.t .h) rfl (.rd (.t (.t .h)) rfl (.rd (.t (.t (.t .h))) rfl (.rd (.t (.t (.t (.t .h)))) rfl (.rd (.t (.t (.t (.t (.t .h))))) rfl (.cons (.t (.t (.t (.t (.t (.t .h)))))) (.cons (.t (.t (.t (.t (.t (.t .h)))))) (.cons (.t (.t (.t (.t (.t (.t .h)))))) (.rd (.t (.t (.t (.t (.t (.t .h)))))) rfl (.cons (.t (.t (.t (.t (.t (.t (.t .h))))))) (.rd (.t (.t (.t (.t (.t (.t (.t .h))))))) rfl (.rd (.t (.t (.t (.t (.t (.t (.t (.t .h)))))))) rfl .nil)))))))))))))), hF⟩
  rintro _ _ ⟨c2239, c2242, c2244, v2240, F2241, v2243, v2245, F2246, g2248, rfl, rfl, hE⟩
  replace hF := hO1964
  clear hO1964
  try dsimp only at hF
  refine K_ent hE ?_
  refine CW_region (Cm (.int .i64 (k1953 : Int)) rfl rfl ?_)
  refine C_val (V_add (i := (k1953 : Int)) (j := 1) (.tmp rfl rfl) (.int _ _)) ?_
  refine Ca (.int .i64 (IntKind.i64.wrap ((k1953 : Int) + 1))) rfl rfl ?_
  refine C_nil ?_
  have hw2247 : IntKind.i64.wrap ((k1953 : Int) + 1) = ((k1953 + 1 : Nat) : Int) := by rw [wrap_in (by omega) (by omega)]; rfl
  rw [hw2247]
  exact ⟨_, Nat.lt_succ_self _, _, k1953 + 1, rest1954, _, _, _, v2240, F2241, v2243, v2245, F2246, rfl, (EqL.cons rfl (EqL.cons rfl (EqL.cons rfl (EqL.cons rfl (EqL.cons rfl (EqL.cons rfl (EqL.cons rfl (EqL.nil)))))))).eq, hd1959, (.sel (.rd .h rfl (.rd (.t .h) rfl (.rd (.t (.t .h)) rfl (.rd (.t (.t (.t .h))) rfl (.rd (.t (.t (.t (.t .h)))) rfl (.rd (.t (.t (.t (.t (.t .h))))) rfl (.cons (.t (.t (.t (.t (.t (.t .h)))))) (.cons (.t (.t (.t (.t (.t (.t .h)))))) (.cons (.t (.t (.t (.t (.t (.t .h)))))) (.rd (.t (.t (.t (.t (.t (.t .h)))))) rfl (.cons (.t (.t (.t (.t (.t (.t (.t .h))))))) (.rd (.t (.t (.t (.t (.t (.t (.t .h))))))) rfl .nil))))))))))))), hF⟩

/-! spec.StepReach -/
def s_StepReach (a_s : List Int) (a_l : List Method) (a_facts : List Fact) (a_r : Reached) : Option (Reached × Bool) :=
  ((s_AreMethods a_s a_l).bind fun r5 =>
    bif (!r5) then (some true)
    else ((s_AreFacts a_s a_facts).bind fun r9 =>
      bif (!r9) then (some true)
      else ((s_l8Values a_r.Values).bind fun r13 =>
        bif (!r13) then (some true)
        else ((s_AreFacts a_s a_r.Facts).bind fun r17 =>
          bif (!r17) then (some true)
          else ((s_l1In a_r.Rounds 0 100).bind fun r21 =>
            some (!r21)))))).bind fun o3 =>
  match o3 with
  | c24 => if c24 then (
      (s_l8Copy a_r).bind fun r25 =>
      some (r25, false))
    else (
      (s_l8Step a_l a_facts a_r).bind fun r28 =>
      some (r28.1, r28.2))
theorem s_StepReach_ok (a_s : List Int) (v0_0 : Sv) (a_l : List Method) (v1_0 : Sv) (a_facts : List Fact) (v2_0 : Sv) (a_r : Reached) (v3_0 : Sv) (v3_1 : Sv) (v3_2 : Sv) (R : Reached × Bool) (hF : s_StepReach a_s a_l a_facts a_r = some R) :
    Fw.Spec Tryz.prog 127 [v0_0.v, v1_0.v, v2_0.v, (.agg [v3_0.v, v3_1.v, v3_2.v, (.int .i64 a_r.Rounds)].toArray)] [crd (RdS 3 rdInt) v0_0.v a_s, crd (RdS 112 rd112) v1_0.v a_l, crd (RdS 114 rd114) v2_0.v a_facts, crd (RdS 114 rd114) v3_0.v a_r.Facts, crd (RdS 3 rdInt) v3_1.v a_r.Values, crd (RdS 80 rd80) v3_2.v a_r.Log] (fun p : Sv × List Nat × Sv × Sv => (.tuple [(.agg [p.1.v, p.2.2.1.v, p.2.2.2.v, (.int .i64 R.1.Rounds)].toArray), (.bool R.2)].toArray)) (fun p => [cown (OwnS 114 ow114) p.2.1 p.1.v R.1.Facts, crd (RdS 3 rdInt) p.2.2.1.v R.1.Values, crd (RdS 80 rd80) p.2.2.2.v R.1.Log]) := by
  refine Spec_enter (n := 52) Tryz.func127 rfl rfl (rs := [.cell 8 110, .tmp 9]) rfl rfl rfl ?_
  intro H0 F0
  unfold s_StepReach at hF
  refine K_region (C_newR rfl (N_box (g := false) (v := (.agg [v3_0.v, v3_1.v, v3_2.v, (.int .i64 a_r.Rounds)].toArray)) ty110.sz (.tmp rfl rfl) rfl) (fun k1 => ?_))
  refine C_new rfl (N_allocT (g := true) ty110 rfl rfl) (fun k2 => ?_)
  refine C_val (V_assign (v := (.bool false)) (.bool _)) ?_
  refine C_nil (K_in ?_)
  obtain ⟨o3, hio3, hO4⟩ := bind_some hF
  refine K_region (C_cut (fun f' cs' => ∃ (c24 : Bool) (g : Fr), c24 = o3 ∧ f' = updL g [(1, v1_0.v), (2, v2_0.v), (7, (.pointer (some ⟨k1, 0, some 0⟩))), (8, (.pointer (some ⟨k2, 0, some 0⟩))), (40, (.bool c24))] ∧ Ent cs' [crd (RdS 112 rd112) v1_0.v a_l, crd (RdS 114 rd114) v2_0.v a_facts, cboR k1 110 (.agg [v3_0.v, v3_1.v, v3_2.v, (.int .i64 a_r.Rounds)].toArray), crd (RdS 114 rd114) v3_0.v a_r.Facts, crd (RdS 3 rdInt) v3_1.v a_r.Values, crd (RdS 80 rd80) v3_2.v a_r.Log, cbox k2 110 (.agg [(.slice none 0 0), (.slice none 0 0), (.slice none 0 0), (.int .i64 0)].toArray)]) ?_ ?_)
  · replace hF := hio3
    refine Cm v0_0.v rfl rfl ?_
    refine Cm v1_0.v rfl rfl ?_
    obtain ⟨r5, hx6, hF⟩ := bind_some hF
    refine C_x0 (.rd (.t (.t .h)) rfl (.rd (.t (.t (.t .h))) rfl .nil)) (X_callS cf64 (.cons (.tmp rfl rfl) (.cons (.tmp rfl rfl) .nil)) (s_AreMethods_ok a_s v0_0 a_l v1_0 _ hx6)) (fun _ => ?_)
    refine C_val (V_not (b := r5) (.tmp rfl rfl)) ?_
    refine Cm (.bool (!r5)) rfl rfl ?_
    rcases Bool.eq_false_or_eq_true (!r5) with hg8 | hg8
    · rw [hg8]
      try rw [hg8] at hF; dsimp only [cond_true, cond_false] at hF
      iterate 4 refine C_off (t := 16) rfl rfl rfl ?_
      refine C_val (V_pick (b := true) (u := (.bool true)) (v := undef) (.tmp rfl rfl) (.bool _) (.tmp rfl rfl)) ?_
      refine Cm (.bool true) rfl rfl ?_
      iterate 4 refine C_off (t := 22) rfl rfl rfl ?_
      refine C_val (V_pick (b := true) (u := (.bool true)) (v := undef) (.tmp rfl rfl) (.bool _) (.tmp rfl rfl)) ?_
      refine Cm (.bool true) rfl rfl ?_
      iterate 5 refine C_off (t := 28) rfl rfl rfl ?_
      refine C_val (V_pick (b := true) (u := (.bool true)) (v := undef) (.tmp rfl rfl) (.bool _) (.tmp rfl rfl)) ?_
      refine Cm (.bool true) rfl rfl ?_
      iterate 4 refine C_off (t := 35) rfl rfl rfl ?_
      refine C_val (V_pick (b := true) (u := (.bool true)) (v := undef) (.tmp rfl rfl) (.bool _) (.tmp rfl rfl)) ?_
      refine C_nil ?_
      obtain rfl := Option.some.inj hF
      exact ⟨_, _, rfl, (EqL.cons rfl (EqL.cons rfl (EqL.cons rfl (EqL.cons rfl (EqL.cons rfl (EqL.nil)))))).eq, (.sel (.rd (.t (.t (.t .h))) rfl (.rd (.t (.t (.t (.t .h)))) rfl (.rd (.t .h) rfl (.rd (.t (.t (.t (.t (.t .h))))) rfl (.rd (.t (.t (.t (.t (.t (.t .h)))))) rfl (.rd (.t (.t (.t (.t (.t (.t (.t .h))))))) rfl (.cons .h .nil))))))))⟩
    rw [hg8]
    try rw [hg8] at hF; dsimp only [cond_true, cond_false] at hF
    refine C_on (t := 16) rfl rfl rfl ?_
    refine Cm v0_0.v rfl rfl ?_
    refine C_on (t := 16) rfl rfl rfl ?_
    refine Cm v2_0.v rfl rfl ?_
    refine C_on (t := 16) rfl rfl rfl ?_
    obtain ⟨r9, hx10, hF⟩ := bind_some hF
    refine C_x0 (.rd (.t (.t .h)) rfl (.rd (.t (.t (.t (.t .h)))) rfl .nil)) (X_callS cf65 (.cons (.tmp rfl rfl) (.cons (.tmp rfl rfl) .nil)) (s_AreFacts_ok a_s v0_0 a_facts v2_0 _ hx10)) (fun _ => ?_)
    refine C_on (t := 16) rfl rfl rfl ?_
    refine C_val (V_not (b := r9) (.tmp rfl rfl)) ?_
    refine C_val (V_pick (b := false) (u := (.bool true)) (v := (.bool (!r9))) (.tmp rfl rfl) (.bool _) (.tmp rfl rfl)) ?_
    refine Cm (.bool (!r9)) rfl rfl ?_
    rcases Bool.eq_false_or_eq_true (!r9) with hg12 | hg12
    · rw [hg12]
      try rw [hg12] at hF; dsimp only [cond_true, cond_false] at hF
      iterate 4 refine C_off (t := 22) rfl rfl rfl ?_
      refine C_val (V_pick (b := true) (u := (.bool true)) (v := undef) (.tmp rfl rfl) (.bool _) (.tmp rfl rfl)) ?_
      refine Cm (.bool true) rfl rfl ?_
      iterate 5 refine C_off (t := 28) rfl rfl rfl ?_
      refine C_val (V_pick (b := true) (u := (.bool true)) (v := undef) (.tmp rfl rfl) (.bool _) (.tmp rfl rfl)) ?_
      refine Cm (.bool true) rfl rfl ?_
      iterate 4 refine C_off (t := 35) rfl rfl rfl ?_
      refine C_val (V_pick (b := true) (u := (.bool true)) (v := undef) (.tmp rfl rfl) (.bool _) (.tmp rfl rfl)) ?_
      refine C_nil ?_
      obtain rfl := Option.some.inj hF
      exact ⟨_, _, rfl, (EqL.cons rfl (EqL.cons rfl (EqL.cons rfl (EqL.cons rfl (EqL.cons rfl (EqL.nil)))))).eq, (.sel (.rd (.t (.t (.t .h))) rfl (.rd (.t (.t (.t (.t .h)))) rfl (.rd (.t .h) rfl (.rd (.t (.t (.t (.t (.t .h))))) rfl (.rd (.t (.t (.t (.t (.t (.t .h)))))) rfl (.rd (.t (.t (.t (.t (.t (.t (.t .h))))))) rfl (.cons .h .nil))))))))⟩
    rw [hg12]
    try rw [hg12] at hF; dsimp only [cond_true, cond_false] at hF
    refine C_on (t := 22) rfl rfl rfl ?_
    refine C_val (V_fieldAddr (off := 1) fd110_1 (.tmp rfl rfl)) ?_
    refine C_on (t := 22) rfl rfl rfl ?_
    refine C_at (.t .h) (fun hp => V_load (v := v3_1.v) ag22 (.tmp rfl rfl) hp.2 rfl rfl) ?_
    refine C_on (t := 22) rfl rfl rfl ?_
    obtain ⟨r13, hx14, hF⟩ := bind_some hF
    refine C_x0 (.rd (.t (.t (.t (.t (.t (.t .h)))))) rfl .nil) (X_callS cf169 (.cons (.tmp rfl rfl) .nil) (s_l8Values_ok a_r.Values v3_1 _ hx14)) (fun _ => ?_)
    refine C_on (t := 22) rfl rfl rfl ?_
    refine C_val (V_not (b := r13) (.tmp rfl rfl)) ?_
    refine C_val (V_pick (b := false) (u := (.bool true)) (v := (.bool (!r13))) (.tmp rfl rfl) (.bool _) (.tmp rfl rfl)) ?_
    refine Cm (.bool (!r13)) rfl rfl ?_
    rcases Bool.eq_false_or_eq_true (!r13) with hg16 | hg16
    · rw [hg16]
      try rw [hg16] at hF; dsimp only [cond_true, cond_false] at hF
      iterate 5 refine C_off (t := 28) rfl rfl rfl ?_
      refine C_val (V_pick (b := true) (u := (.bool true)) (v := undef) (.tmp rfl rfl) (.bool _) (.tmp rfl rfl)) ?_
      refine Cm (.bool true) rfl rfl ?_
      iterate 4 refine C_off (t := 35) rfl rfl rfl ?_
      refine C_val (V_pick (b := true) (u := (.bool true)) (v := undef) (.tmp rfl rfl) (.bool _) (.tmp rfl rfl)) ?_
      refine C_nil ?_
      obtain rfl := Option.some.inj hF
      exact ⟨_, _, rfl, (EqL.cons rfl (EqL.cons rfl (EqL.cons rfl (EqL.cons rfl (EqL.cons rfl (EqL.nil)))))).eq, (.sel (.rd (.t (.t (.t .h))) rfl (.rd (.t (.t (.t (.t .h)))) rfl (.rd (.t .h) rfl (.rd (.t (.t (.t (.t (.t .h))))) rfl (.rd (.t (.t (.t (.t (.t (.t .h)))))) rfl (.rd (.t (.t (.t (.t (.t (.t (.t .h))))))) rfl (.cons .h .nil))))))))⟩
    rw [hg16]
    try rw [hg16] at hF; dsimp only [cond_true, cond_false] at hF
    refine C_on (t := 28) rfl rfl rfl ?_
    refine Cm v0_0.v rfl rfl ?_
    refine C_on (t := 28) rfl rfl rfl ?_
    refine C_val (V_fieldAddr (off := 0) fd110_0 (.tmp rfl rfl)) ?_
    refine C_on (t := 28) rfl rfl rfl ?_
    refine C_at (.t .h) (fun hp => V_load (v := v3_0.v) ag40 (.tmp rfl rfl) hp.2 rfl rfl) ?_
    refine C_on (t := 28) rfl rfl rfl ?_
    obtain ⟨r17, hx18, hF⟩ := bind_some hF
    refine C_x0 (.rd (.t (.t .h)) rfl (.rd (.t (.t (.t (.t (.t .h))))) rfl .nil)) (X_callS cf65 (.cons (.tmp rfl rfl) (.cons (.tmp rfl rfl) .nil)) (s_AreFacts_ok a_s v0_0 a_r.Facts v3_0 _ hx18)) (fun _ => ?_)
    refine C_on (t := 28) rfl rfl rfl ?_
    refine C_val (V_not (b := r17) (.tmp rfl rfl)) ?_
    refine C_val (V_pick (b := false) (u := (.bool true)) (v := (.bool (!r17))) (.tmp rfl rfl) (.bool _) (.tmp rfl rfl)) ?_
    refine Cm (.bool (!r17)) rfl rfl ?_
    rcases Bool.eq_false_or_eq_true (!r17) with hg20 | hg20
    · rw [hg20]
      try rw [hg20] at hF; dsimp only [cond_true, cond_false] at hF
      iterate 4 refine C_off (t := 35) rfl rfl rfl ?_
      refine C_val (V_pick (b := true) (u := (.bool true)) (v := undef) (.tmp rfl rfl) (.bool _) (.tmp rfl rfl)) ?_
      refine C_nil ?_
      obtain rfl := Option.some.inj hF
      exact ⟨_, _, rfl, (EqL.cons rfl (EqL.cons rfl (EqL.cons rfl (EqL.cons rfl (EqL.cons rfl (EqL.nil)))))).eq, (.sel (.rd (.t (.t (.t .h))) rfl (.rd (.t (.t (.t (.t .h)))) rfl (.rd (.t .h) rfl (.rd (.t (.t (.t (.t (.t .h))))) rfl (.rd (.t (.t (.t (.t (.t (.t .h)))))) rfl (.rd (.t (.t (.t (.t (.t (.t (.t .h))))))) rfl (.cons .h .nil))))))))⟩
    rw [hg20]
    try rw [hg20] at hF; dsimp only [cond_true, cond_false] at hF
    refine C_on (t := 35) rfl rfl rfl ?_
    refine C_val (V_fieldAddr (off := 3) fd110_3 (.tmp rfl rfl)) ?_
    refine C_on (t := 35) rfl rfl rfl ?_
    refine C_at (.t .h) (fun hp => V_load (v := (.int .i64 a_r.Rounds)) ag3 (.tmp rfl rfl) hp.2 rfl rfl) ?_
    refine C_on (t := 35) rfl rfl rfl ?_
    obtain ⟨r21, hx22, hF⟩ := bind_some hF
    refine C_x0 .nil (X_callS cf96 (.cons (.tmp rfl rfl) (.cons (.int _ _) (.cons (.int _ _) .nil))) (s_l1In_ok a_r.Rounds 0 100 _ hx22)) (fun _ => ?_)
    refine C_on (t := 35) rfl rfl rfl ?_
    refine C_val (V_not (b := r21) (.tmp rfl rfl)) ?_
    refine C_val (V_pick (b := false) (u := (.bool true)) (v := (.bool (!r21))) (.tmp rfl rfl) (.bool _) (.tmp rfl rfl)) ?_
    refine C_nil ?_
    obtain rfl := Option.some.inj hF
    exact ⟨_, _, rfl, (EqL.cons rfl (EqL.cons rfl (EqL.cons rfl (EqL.cons rfl (EqL.cons rfl (EqL.nil)))))).eq, (.sel (.rd (.t (.t (.t .h))) rfl (.rd (.t (.t (.t (.t .h)))) rfl (.rd (.t .h) rfl (.rd (.t (.t (.t (.t (.t .h))))) rfl (.rd (.t (.t (.t (.t (.t (.t .h)))))) rfl (.rd (.t (.t (.t (.t (.t (.t (.t .h))))))) rfl (.cons .h .nil))))))))⟩
  rintro _ _ ⟨c24, g33, rfl, rfl, hE⟩
  replace hF := hO4
  clear hO4
  try dsimp only at hF
  refine K_ent hE ?_
  refine CW_cond (b := c24) (.tmp rfl rfl) (fun hb32 => ?_) (fun hb32 => ?_)
  · rw [if_pos hb32] at hF
    refine K_region (C_at (.t (.t .h)) (fun hp => V_loadBox ag110 ty110.sz rfl (.tmp rfl rfl) hp.2 rfl) ?_)
    obtain ⟨r25, hx26, hF⟩ := bind_some hF
    refine C_x3 (.rd (.t (.t (.t .h))) rfl (.rd (.t (.t (.t (.t .h)))) rfl (.rd (.t (.t (.t (.t (.t .h))))) rfl .nil))) (X_callS cf170 (.cons (.tmp rfl rfl) .nil) (s_l8Copy_ok a_r v3_0 v3_1 v3_2 _ hx26)) (fun p27 => ?_)
    refine C_x1 (.cons (.t (.t (.t (.t (.t (.t (.t (.t (.t .h))))))))) .nil) (X_storeB (e' := (.agg [p27.1.v, p27.2.2.1.v, p27.2.2.2.2.1.v, (.int .i64 r25.Rounds)].toArray)) (v := (.agg [p27.1.v, p27.2.2.1.v, p27.2.2.2.2.1.v, (.int .i64 r25.Rounds)].toArray)) ty110.sz (.tmp rfl rfl) (.tmp rfl rfl) rfl rfl rfl rfl rfl) (fun _ => ?_)
    refine C_val (V_assign (v := (.bool false)) (.bool _)) ?_
    refine C_nil (CW_ret ?_)
    obtain rfl := Option.some.inj hF
    exact End_ret (p27.1, p27.2.1, p27.2.2.1, p27.2.2.2.2.1) (.cellA rfl rfl .h rfl ag110 ty110.sz rfl rfl (.tmp rfl rfl .nil)) rfl (.frz (.t (.t .h)) frz_own (.frz (.t (.t (.t .h))) frz_own (.sel (.cons (.t (.t (.t .h))) (.rd (.t .h) rfl (.rd .h rfl .nil))))))
  rw [if_neg (by rw [hb32]; exact Bool.false_ne_true)] at hF
  refine CW_skip (K_region (Cm v1_0.v rfl rfl ?_))
  refine Cm v2_0.v rfl rfl ?_
  refine C_at (.t (.t .h)) (fun hp => V_loadBox ag110 ty110.sz rfl (.tmp rfl rfl) hp.2 rfl) ?_
  obtain ⟨r28, hx29, hF⟩ := bind_some hF
  refine C_x3 (.rd .h rfl (.rd (.t .h) rfl (.rd (.t (.t (.t .h))) rfl (.rd (.t (.t (.t (.t .h)))) rfl (.rd (.t (.t (.t (.t (.t .h))))) rfl .nil))))) (X_callS cf171 (.cons (.tmp rfl rfl) (.cons (.tmp rfl rfl) (.cons (.tmp rfl rfl) .nil))) (s_l8Step_ok a_l v1_0 a_facts v2_0 a_r v3_0 v3_1 v3_2 _ hx29)) (fun p30 => ?_)
  refine Cm (.tuple [(.agg [p30.1.v, p30.2.2.1.v, p30.2.2.2.v, (.int .i64 r28.1.Rounds)].toArray), (.bool r28.2)].toArray) rfl rfl ?_
  refine C_val (V_extract (l := [(.agg [p30.1.v, p30.2.2.1.v, p30.2.2.2.v, (.int .i64 r28.1.Rounds)].toArray), (.bool r28.2)]) (v := (.agg [p30.1.v, p30.2.2.1.v, p30.2.2.2.v, (.int .i64 r28.1.Rounds)].toArray)) (.tmp rfl rfl) rfl) ?_
  refine C_val (V_extract (l := [(.agg [p30.1.v, p30.2.2.1.v, p30.2.2.2.v, (.int .i64 r28.1.Rounds)].toArray), (.bool r28.2)]) (v := (.bool r28.2)) (.tmp rfl rfl) rfl) ?_
  refine C_new rfl (N_allocT (g := true) ty110 rfl rfl) (fun k31 => ?_)
  refine C_x1 (.cons .h .nil) (X_storeB (e' := (.agg [p30.1.v, p30.2.2.1.v, p30.2.2.2.v, (.int .i64 r28.1.Rounds)].toArray)) (v := (.agg [p30.1.v, p30.2.2.1.v, p30.2.2.2.v, (.int .i64 r28.1.Rounds)].toArray)) ty110.sz (.tmp rfl rfl) (.tmp rfl rfl) rfl rfl rfl rfl rfl) (fun _ => ?_)
  refine Ca (.bool r28.2) rfl rfl ?_
  refine C_nil (K_region (C_at .h (fun hp => V_loadBox ag110 ty110.sz rfl (.tmp rfl rfl) hp.2 rfl) ?_))
  refine Cm (.bool r28.2) rfl rfl ?_
  refine C_x1 (.cons (.t (.t (.t (.t (.t (.t (.t (.t (.t (.t .h)))))))))) .nil) (X_storeB (e' := (.agg [p30.1.v, p30.2.2.1.v, p30.2.2.2.v, (.int .i64 r28.1.Rounds)].toArray)) (v := (.agg [p30.1.v, p30.2.2.1.v, p30.2.2.2.v, (.int .i64 r28.1.Rounds)].toArray)) ty110.sz (.tmp rfl rfl) (.tmp rfl rfl) rfl rfl rfl rfl rfl) (fun _ => ?_)
  refine Ca (.bool r28.2) rfl rfl ?_
  refine C_nil (CW_ret ?_)
  obtain rfl := Option.some.inj hF
  exact End_ret (p30.1, p30.2.1, p30.2.2.1, p30.2.2.2) (.cellA rfl rfl .h rfl ag110 ty110.sz rfl rfl (.tmp rfl rfl .nil)) rfl (.sel (.cons (.t (.t .h)) (.rd (.t (.t .h)) rfl (.rd (.t (.t (.t .h))) rfl .nil))))

/-! spec.ReachAll -/
def s_ReachAll_L1 (a_s : List Int) (a_l : List Method) (a_facts : List Fact) : Nat → (List Fact) → (List Int) → (List Access) → Int → Int → Option (Reached)
  | 0, _, _, _, _, _ => none
  | m50 + 1, c41, c44, c46, c48, c49 => if (decide ((c49 : Int) < 40)) then (
      (s_StepReach a_s a_l a_facts ({ Facts := c41, Values := c44, Log := c46, Rounds := c48 } : Reached)).bind fun r58 =>
      if (!r58.2) then (
        some ({ Facts := c41, Values := c44, Log := c46, Rounds := c48 } : Reached))
      else (
        s_ReachAll_L1 a_s a_l a_facts m50 r58.1.Facts r58.1.Values r58.1.Log r58.1.Rounds (IntKind.i64.wrap (c49 + 1))))
    else (
      some ({ Facts := c41, Values := c44, Log := c46, Rounds := c48 } : Reached))
def s_ReachAll (a_s : List Int) (a_l : List Method) (a_facts : List Fact) (a_seeds : List Int) : Option (Reached) :=
  (s_StartReach a_seeds).bind fun r2 =>
  s_ReachAll_L1 a_s a_l a_facts (((40 : Int) - 0).toNat + 2) r2.Facts r2.Values r2.Log r2.Rounds 0
theorem s_ReachAll_ok (a_s : List Int) (v0_0 : Sv) (a_l : List Method) (v1_0 : Sv) (a_facts : List Fact) (v2_0 : Sv) (a_seeds : List Int) (v3_0 : Sv) (R : Reached) (hF : s_ReachAll a_s a_l a_facts a_seeds = some R) :
    Fw.Spec Tryz.prog 66 [v0_0.v, v1_0.v, v2_0.v, v3_0.v] [crd (RdS 3 rdInt) v0_0.v a_s, crd (RdS 112 rd112) v1_0.v a_l, crd (RdS 114 rd114) v2_0.v a_facts, crd (RdS 3 rdInt) v3_0.v a_seeds] (fun p : Sv × Sv × Sv => (.agg [p.1.v, p.2.1.v, p.2.2.v, (.int .i64 R.Rounds)].toArray)) (fun p => [crd (RdS 114 rd114) p.1.v R.Facts, crd (RdS 3 rdInt) p.2.1.v R.Values, crd (RdS 80 rd80) p.2.2.v R.Log]) := by
  refine Spec_enter (n := 32) Tryz.func66 rfl rfl (rs := [.cell 8 110]) rfl rfl rfl ?_
  intro H0 F0
  unfold s_ReachAll at hF
  refine K_region (C_new rfl (N_allocT (g := true) ty110 rfl rfl) (fun k1 => ?_))
  refine C_nil (K_region (Cm v3_0.v rfl rfl ?_))
  obtain ⟨r2, hx3, hF⟩ := bind_some hF
  refine C_x3 (.rd (.t (.t (.t (.t .h)))) rfl .nil) (X_callS cf126 (.cons (.tmp rfl rfl) .nil) (s_StartReach_ok a_seeds v3_0 _ hx3)) (fun p4 => ?_)
  refine C_new rfl (N_allocT (g := true) ty110 rfl rfl) (fun k5 => ?_)
  refine C_x1 (.cons .h .nil) (X_storeB (e' := (.agg [p4.1.v, p4.2.2.1.v, p4.2.2.2.1.v, (.int .i64 r2.Rounds)].toArray)) (v := (.agg [p4.1.v, p4.2.2.1.v, p4.2.2.2.1.v, (.int .i64 r2.Rounds)].toArray)) ty110.sz (.tmp rfl rfl) (.tmp rfl rfl) rfl rfl rfl rfl rfl) (fun _ => ?_)
  refine C_nil (K_in (K_region (C_val (V_assign (v := (.int .i64 0)) (.int _ _)) ?_)))
  refine C_nil (CW_block (CW_loop (m := (((40 : Int) - 0).toNat + 2)) (fun m50 f' cs' => ∃ (g : Fr) (c41 : List Fact) (c44 : List Int) (c46 : List Access) (c48 : Int) (c49 : Int) (v42 : Sv) (F43 : List Nat) (v45 : Sv) (v47 : Sv), f' = updL g [(0, v0_0.v), (1, v1_0.v), (2, v2_0.v), (8, (.pointer (some ⟨k1, 0, some 0⟩))), (9, (.pointer (some ⟨k5, 0, some 0⟩))), (10, (.int .i64 c49))] ∧ Ent cs' [crd (RdS 3 rdInt) v0_0.v a_s, crd (RdS 112 rd112) v1_0.v a_l, crd (RdS 114 rd114) v2_0.v a_facts, cbox k1 110 (.agg [(.slice none 0 0), (.slice none 0 0), (.slice none 0 0), (.int .i64 0)].toArray), cbox k5 110 (.agg [v42.v, v45.v, v47.v, (.int .i64 c48)].toArray), cown (OwnS 114 ow114) F43 v42.v c41, crd (RdS 3 rdInt) v45.v c44, crd (RdS 80 rd80) v47.v c46] ∧ s_ReachAll_L1 a_s a_l a_facts m50 c41 c44 c46 c48 c49 = some R) ⟨_, _, _, _, _, _, p4.1, p4.2.1, p4.2.2.1, p4.2.2.2.1, (EqL.cons rfl (EqL.cons rfl (EqL.cons rfl (EqL.cons rfl (EqL.cons rfl (EqL.cons rfl (EqL.nil))))))).eq, (.frz (.t (.t (.t .h))) frz_own (.sel (.rd (.t (.t (.t (.t (.t .h))))) rfl (.rd (.t (.t (.t (.t (.t (.t .h)))))) rfl (.rd (.t (.t (.t (.t (.t (.t (.t .h))))))) rfl (.cons (.t (.t (.t (.t .h)))) (.cons (.t .h) (.cons (.t .h) (.rd (.t .h) rfl (.rd .h rfl .nil)))))))))), hF⟩ ?_))
  clear hF
  rintro m50 _ _ ⟨g51, c41, c44, c46, c48, c49, v42, F43, v45, v47, rfl, hE, hF⟩
  refine K_ent hE ?_
  clear hE
  rcases m50 with _ | m50
  · rw [s_ReachAll_L1] at hF
    exact absurd hF (by simp)
  rw [s_ReachAll_L1] at hF
  refine K_in (K_region (Cm (.int .i64 c49) rfl rfl ?_))
  refine C_val (V_lss (i := c49) (j := 40) (.tmp rfl rfl) (.int _ _)) ?_
  refine C_nil (CW_cond (b := (decide ((c49 : Int) < 40))) (.tmp rfl rfl) (fun hb63 => ?_) (fun hb63 => ?_))
  · rw [if_pos hb63] at hF
    refine CW_skip (K_block (K_frz (.t (.t (.t (.t (.t .h))))) frz_own ?_))
    refine K_region (Cm v0_0.v rfl rfl ?_)
    refine Cm v1_0.v rfl rfl ?_
    refine Cm v2_0.v rfl rfl ?_
    refine C_at (.t (.t (.t (.t (.t .h))))) (fun hp => V_loadBox ag110 ty110.sz rfl (.tmp rfl rfl) hp.2 rfl) ?_
    obtain ⟨r58, hx59, hF⟩ := bind_some hF
    refine C_x3 (.rd (.t .h) rfl (.rd (.t (.t .h)) rfl (.rd (.t (.t (.t .h))) rfl (.rd .h rfl (.rd (.t (.t (.t (.t (.t (.t .h)))))) rfl (.rd (.t (.t (.t (.t (.t (.t (.t .h))))))) rfl .nil)))))) (X_callS cf127 (.cons (.tmp rfl rfl) (.cons (.tmp rfl rfl) (.cons (.tmp rfl rfl) (.cons (.tmp rfl rfl) .nil)))) (s_StepReach_ok a_s v0_0 a_l v1_0 a_facts v2_0 ({ Facts := c41, Values := c44, Log := c46, Rounds := c48 } : Reached) v42 v45 v47 _ hx59)) (fun p60 => ?_)
    refine Cm (.tuple [(.agg [p60.1.v, p60.2.2.1.v, p60.2.2.2.v, (.int .i64 r58.1.Rounds)].toArray), (.bool r58.2)].toArray) rfl rfl ?_
    refine C_val (V_extract (l := [(.agg [p60.1.v, p60.2.2.1.v, p60.2.2.2.v, (.int .i64 r58.1.Rounds)].toArray), (.bool r58.2)]) (v := (.agg [p60.1.v, p60.2.2.1.v, p60.2.2.2.v, (.int .i64 r58.1.Rounds)].toArray)) (.tmp rfl rfl) rfl) ?_
    refine C_val (V_extract (l := [(.agg [p60.1.v, p60.2.2.1.v, p60.2.2.2.v, (.int .i64 r58.1.Rounds)].toArray), (.bool r58.2)]) (v := (.bool r58.2)) (.tmp rfl rfl) rfl) ?_
    refine C_new rfl (N_allocT (g := true) ty110 rfl rfl) (fun k61 => ?_)
    refine C_x1 (.cons .h .nil) (X_storeB (e' := (.agg [p60.1.v, p60.2.2.1.v, p60.2.2.2.v, (.int .i64 r58.1.Rounds)].toArray)) (v := (.agg [p60.1.v, p60.2.2.1.v, p60.2.2.2.v, (.int .i64 r58.1.Rounds)].toArray)) ty110.sz (.tmp rfl rfl) (.tmp rfl rfl) rfl rfl rfl rfl rfl) (fun _ => ?_)
    refine Ca (.bool r58.2) rfl rfl ?_
    refine C_nil (K_in (K_region (Cm (.bool r58.2) rfl rfl ?_)))
    refine C_val (V_not (b := r58.2) (.tmp rfl rfl)) ?_
    refine C_nil (CW_cond (b := (!r58.2)) (.tmp rfl rfl) (fun hb62 => ?_) (fun hb62 => ?_))
    · rw [if_pos hb62] at hF
      refine K_region (C_at (.t (.t (.t (.t (.t (.t (.t (.t (.t .h))))))))) (fun hp => V_loadBox ag110 ty110.sz rfl (.tmp rfl rfl) hp.2 rfl) ?_)
      refine C_x1 (.cons (.t (.t (.t (.t (.t (.t (.t (.t .h)))))))) .nil) (X_storeB (e' := (.agg [v42.v, v45.v, v47.v, (.int .i64 c48)].toArray)) (v := (.agg [v42.v, v45.v, v47.v, (.int .i64 c48)].toArray)) ty110.sz (.tmp rfl rfl) (.tmp rfl rfl) rfl rfl rfl rfl rfl) (fun _ => ?_)
      refine C_nil (CW_ret ?_)
      obtain rfl := Option.some.inj hF
      exact End_ret (v42, v45, v47) (.cellA rfl rfl .h rfl ag110 ty110.sz rfl rfl .nil) rfl (.sel (.rd (.t (.t (.t (.t (.t .h))))) rfl (.rd (.t (.t (.t (.t (.t (.t (.t (.t (.t (.t .h)))))))))) rfl (.rd (.t (.t (.t (.t (.t (.t (.t (.t (.t (.t (.t .h))))))))))) rfl .nil))))
    rw [if_neg (by rw [hb62]; exact Bool.false_ne_true)] at hF
    refine CW_skip (CW_region (C_at .h (fun hp => V_loadBox ag110 ty110.sz rfl (.tmp rfl rfl) hp.2 rfl) ?_))
    refine C_x1 (.cons (.t (.t (.t (.t (.t (.t (.t (.t (.t .h))))))))) .nil) (X_storeB (e' := (.agg [p60.1.v, p60.2.2.1.v, p60.2.2.2.v, (.int .i64 r58.1.Rounds)].toArray)) (v := (.agg [p60.1.v, p60.2.2.1.v, p60.2.2.2.v, (.int .i64 r58.1.Rounds)].toArray)) ty110.sz (.tmp rfl rfl) (.tmp rfl rfl) rfl rfl rfl rfl rfl) (fun _ => ?_)
    refine C_nil (CW_region (Cm (.int .i64 c49) rfl rfl ?_))
    refine C_val (V_add (i := c49) (j := 1) (.tmp rfl rfl) (.int _ _)) ?_
    refine Ca (.int .i64 (IntKind.i64.wrap (c49 + 1))) rfl rfl ?_
    refine C_nil ?_
    exact ⟨m50, Nat.lt_succ_self _, _, _, _, _, _, _, p60.1, p60.2.1, p60.2.2.1, p60.2.2.2, (EqL.cons rfl (EqL.cons rfl (EqL.cons rfl (EqL.cons rfl (EqL.cons rfl (EqL.cons rfl (EqL.nil))))))).eq, (.sel (.rd (.t (.t (.t (.t (.t (.t .h)))))) rfl (.rd (.t (.t (.t (.t (.t (.t (.t .h))))))) rfl (.rd (.t (.t (.t (.t (.t (.t (.t (.t .h)))))))) rfl (.cons (.t (.t (.t (.t (.t (.t (.t (.t (.t .h))))))))) (.cons .h (.cons (.t .h) (.rd (.t .h) rfl (.rd (.t (.t .h)) rfl .nil))))))))), hF⟩
  rw [if_neg (by rw [hb63]; exact Bool.false_ne_true)] at hF
  refine CW_exit ?_
  iterate 2 refine CThen_exit ?_
  refine CIn_self (K_region (C_at (.t (.t (.t (.t .h)))) (fun hp => V_loadBox ag110 ty110.sz rfl (.tmp rfl rfl) hp.2 rfl) ?_))
  refine C_x1 (.cons (.t (.t (.t .h))) .nil) (X_storeB (e' := (.agg [v42.v, v45.v, v47.v, (.int .i64 c48)].toArray)) (v := (.agg [v42.v, v45.v, v47.v, (.int .i64 c48)].toArray)) ty110.sz (.tmp rfl rfl) (.tmp rfl rfl) rfl rfl rfl rfl rfl) (fun _ => ?_)
  refine C_nil (CW_ret ?_)
  obtain rfl := Option.some.inj hF
  exact End_ret (v42, v45, v47) (.cellA rfl rfl .h rfl ag110 ty110.sz rfl rfl .nil) rfl (.frz (.t (.t (.t (.t (.t .h))))) frz_own (.sel (.rd .h rfl (.rd (.t (.t (.t (.t (.t (.t .h)))))) rfl (.rd (.t (.t (.t (.t (.t (.t (.t .h))))))) rfl .nil)))))

/-! spec.FormatInt -/
def s_FormatInt_L1 : Nat → Int → (List UInt8) → Option ((List UInt8))
  | 0, _, _ => none
  | m5 + 1, c3, c4 => if ((c3 : Int) != 0) then (
      if (decide (((Int.tmod c3 10) : Int) < 0)) then (
        (cat [(u8of (IntKind.i64.wrap (48 + (IntKind.i64.wrap (-(Int.tmod c3 10))))))] c4).bind fun x14 =>
        s_FormatInt_L1 m5 (IntKind.i64.wrap (Int.tdiv c3 10)) x14)
      else (
        (cat [(u8of (IntKind.i64.wrap (48 + (Int.tmod c3 10))))] c4).bind fun x19 =>
        s_FormatInt_L1 m5 (IntKind.i64.wrap (Int.tdiv c3 10)) x19))
    else (
      some c4)
def s_FormatInt (fuel : Nat) (a_n : Int) : Option ((List UInt8)) :=
  if ((a_n : Int) == 0) then (
    some [48])
  else (
    (s_FormatInt_L1 fuel a_n []).bind fun o1 =>
    match o1 with
    | c25 => if (decide ((a_n : Int) < 0)) then (
        (cat [45] c25).bind fun x26 =>
        some x26)
      else (
        some c25))
theorem s_FormatInt_ok (fuel : Nat) (a_n : Int) (R : (List UInt8)) (hF : s_FormatInt fuel a_n = some R) :
    Fw.Spec Tryz.prog 38 [(.int .i64 a_n)] [] (fun _ : Unit => (sv R)) (fun _ => []) := by
  refine Spec_enter (n := 31) Tryz.func38 rfl rfl (rs := [.tmp 2]) rfl rfl rfl ?_
  intro H0 F0
  unfold s_FormatInt at hF
  refine K_region (C_val (V_assign (v := (sv [])) (.sv _)) ?_)
  refine C_nil (K_in (K_region (Cm (.int .i64 a_n) rfl rfl ?_)))
  refine C_val (V_eql (i := a_n) (j := 0) (.tmp rfl rfl) (.int _ _)) ?_
  refine C_nil (CW_cond (b := ((a_n : Int) == 0)) (.tmp rfl rfl) (fun hb32 => ?_) (fun hb32 => ?_))
  · rw [if_pos hb32] at hF
    refine K_region (C_val (V_assign (v := (sv [48])) (.sv _)) ?_)
    refine C_nil (CW_ret ?_)
    obtain rfl := Option.some.inj hF
    exact End_ret () (.tmp rfl rfl .nil) rfl (.sel .nil)
  rw [if_neg (by rw [hb32]; exact Bool.false_ne_true)] at hF
  refine CW_skip (K_region (C_val (V_assign (v := (sv [])) (.sv _)) ?_))
  refine C_nil (K_region (Cm (.int .i64 a_n) rfl rfl ?_))
  refine C_val (V_lss (i := a_n) (j := 0) (.tmp rfl rfl) (.int _ _)) ?_
  refine Ca (.bool (decide ((a_n : Int) < 0))) rfl rfl ?_
  refine C_nil ?_
  obtain ⟨o1, hio1, hO2⟩ := bind_some hF
  refine K_cut (fun f' cs' => ∃ (c25 : List UInt8) (g : Fr), c25 = o1 ∧ f' = updL g [(3, (sv c25)), (4, (.bool (decide ((a_n : Int) < 0))))] ∧ Ent cs' []) ?_ ?_
  · replace hF := hio1
    refine CW_block (CW_loop (m := fuel) (fun m5 f' cs' => ∃ (g : Fr) (c3 : Int) (c4 : List UInt8), f' = updL g [(0, (.int .i64 c3)), (3, (sv c4)), (4, (.bool (decide ((a_n : Int) < 0))))] ∧ Ent cs' [] ∧ s_FormatInt_L1 m5 c3 c4 = some o1) ⟨_, _, _, (EqL.cons rfl (EqL.cons rfl (EqL.cons rfl (EqL.nil)))).eq, (.sel .nil), hF⟩ ?_)
    clear hF
    rintro m5 _ _ ⟨g6, c3, c4, rfl, hE, hF⟩
    refine K_ent hE ?_
    clear hE
    rcases m5 with _ | m5
    · rw [s_FormatInt_L1] at hF
      exact absurd hF (by simp)
    rw [s_FormatInt_L1] at hF
    refine K_in (K_region (Cm (.int .i64 c3) rfl rfl ?_))
    refine C_val (V_neq (i := c3) (j := 0) (.tmp rfl rfl) (.int _ _)) ?_
    refine C_nil (CW_cond (b := ((c3 : Int) != 0)) (.tmp rfl rfl) (fun hb24 => ?_) (fun hb24 => ?_))
    · rw [if_pos hb24] at hF
      refine CW_skip (CW_block (K_region (Cm (.int .i64 c3) rfl rfl ?_)))
      refine C_val (V_rem (i := c3) (j := 10) (.tmp rfl rfl) (.int _ _) (by decide)) ?_
      refine Ca (.int .i64 (Int.tmod c3 10)) rfl rfl ?_
      refine C_nil (K_in (K_region (Cm (.int .i64 (Int.tmod c3 10)) rfl rfl ?_)))
      refine C_val (V_lss (i := (Int.tmod c3 10)) (j := 0) (.tmp rfl rfl) (.int _ _)) ?_
      refine C_nil (CW_cond (b := (decide (((Int.tmod c3 10) : Int) < 0))) (.tmp rfl rfl) (fun hb23 => ?_) (fun hb23 => ?_))
      · rw [if_pos hb23] at hF
        refine CW_region (Cm (.int .i64 (Int.tmod c3 10)) rfl rfl ?_)
        refine C_val (V_neg (i := (Int.tmod c3 10)) (.tmp rfl rfl)) ?_
        refine Ca (.int .i64 (IntKind.i64.wrap (-(Int.tmod c3 10)))) rfl rfl ?_
        refine C_nil (K_region (Cm (.int .i64 (IntKind.i64.wrap (-(Int.tmod c3 10)))) rfl rfl ?_))
        refine C_val (V_add (i := 48) (j := (IntKind.i64.wrap (-(Int.tmod c3 10)))) (.int _ _) (.tmp rfl rfl)) ?_
        refine C_val (V_convU8 (i := (IntKind.i64.wrap (48 + (IntKind.i64.wrap (-(Int.tmod c3 10)))))) ik3 ik5 (.tmp rfl rfl)) ?_
        refine C_new rfl (N_buildSliceT (g := true) sl146 ty5 (.cons (.tmp rfl rfl) .nil) (vs := [(.int .u8 ((u8of (IntKind.i64.wrap (48 + (IntKind.i64.wrap (-(Int.tmod c3 10)))))).toNat : Int))]) rfl rfl rfl (by intro v hv; simp at hv; rcases hv with rfl <;> rfl)) (fun k13 => ?_)
        refine C_conv (.cons .h .nil) (own_lit (Ro := (roE rdU8)) (E := 5) (F := ([] ++ [])) (xs := ([(u8of (IntKind.i64.wrap (48 + (IntKind.i64.wrap (-(Int.tmod c3 10))))))] : List UInt8)) (MkL_cons (Mk_pure (fun _ => rfl)) MkL_nil apps) rfl rfl) apps ?_
        refine C_at .h (fun hp => V_bytes1 (u := (u8of (IntKind.i64.wrap (48 + (IntKind.i64.wrap (-(Int.tmod c3 10))))))) sl146 ik5 str9 ty5.sz (.tmp rfl rfl) hp) ?_
        refine Cm (sv c4) rfl rfl ?_
        obtain ⟨x14, hx15, hF⟩ := bind_some hF
        obtain ⟨hq17, hz16⟩ := cat_some hx15
        refine C_val (V_concatN (s := [(u8of (IntKind.i64.wrap (48 + (IntKind.i64.wrap (-(Int.tmod c3 10))))))]) (t := c4) (u := x14) (.tmp rfl rfl) (.tmp rfl rfl) hx15) ?_
        refine Ca (sv x14) rfl rfl ?_
        refine C_nil (CW_region (Cm (.int .i64 c3) rfl rfl ?_))
        refine C_val (V_quo (i := c3) (j := 10) (.tmp rfl rfl) (.int _ _) (by decide)) ?_
        refine Ca (.int .i64 (IntKind.i64.wrap (Int.tdiv c3 10))) rfl rfl ?_
        refine C_nil ?_
        exact ⟨m5, Nat.lt_succ_self _, _, _, _, (EqL.cons rfl (EqL.cons rfl (EqL.cons rfl (EqL.nil)))).eq, (.sel .nil), hF⟩
      rw [if_neg (by rw [hb23]; exact Bool.false_ne_true)] at hF
      refine CW_skip (K_region (Cm (.int .i64 (Int.tmod c3 10)) rfl rfl ?_))
      refine C_val (V_add (i := 48) (j := (Int.tmod c3 10)) (.int _ _) (.tmp rfl rfl)) ?_
      refine C_val (V_convU8 (i := (IntKind.i64.wrap (48 + (Int.tmod c3 10)))) ik3 ik5 (.tmp rfl rfl)) ?_
      refine C_new rfl (N_buildSliceT (g := true) sl146 ty5 (.cons (.tmp rfl rfl) .nil) (vs := [(.int .u8 ((u8of (IntKind.i64.wrap (48 + (Int.tmod c3 10)))).toNat : Int))]) rfl rfl rfl (by intro v hv; simp at hv; rcases hv with rfl <;> rfl)) (fun k18 => ?_)
      refine C_conv (.cons .h .nil) (own_lit (Ro := (roE rdU8)) (E := 5) (F := ([] ++ [])) (xs := ([(u8of (IntKind.i64.wrap (48 + (Int.tmod c3 10))))] : List UInt8)) (MkL_cons (Mk_pure (fun _ => rfl)) MkL_nil apps) rfl rfl) apps ?_
      refine C_at .h (fun hp => V_bytes1 (u := (u8of (IntKind.i64.wrap (48 + (Int.tmod c3 10))))) sl146 ik5 str9 ty5.sz (.tmp rfl rfl) hp) ?_
      refine Cm (sv c4) rfl rfl ?_
      obtain ⟨x19, hx20, hF⟩ := bind_some hF
      obtain ⟨hq22, hz21⟩ := cat_some hx20
      refine C_val (V_concatN (s := [(u8of (IntKind.i64.wrap (48 + (Int.tmod c3 10))))]) (t := c4) (u := x19) (.tmp rfl rfl) (.tmp rfl rfl) hx20) ?_
      refine Ca (sv x19) rfl rfl ?_
      refine C_nil (CW_region (Cm (.int .i64 c3) rfl rfl ?_))
      refine C_val (V_quo (i := c3) (j := 10) (.tmp rfl rfl) (.int _ _) (by decide)) ?_
      refine Ca (.int .i64 (IntKind.i64.wrap (Int.tdiv c3 10))) rfl rfl ?_
      refine C_nil ?_
      exact ⟨m5, Nat.lt_succ_self _, _, _, _, (EqL.cons rfl (EqL.cons rfl (EqL.cons rfl (EqL.nil)))).eq, (.sel .nil), hF⟩
    rw [if_neg (by rw [hb24]; exact Bool.false_ne_true)] at hF
    refine CW_exit ?_
    iterate 2 refine CThen_exit ?_
    refine CIn_self ?_
    obtain rfl := Option.some.inj hF
    exact ⟨_, _, rfl, (EqL.cons rfl (EqL.cons rfl (EqL.nil))).eq, (.sel .nil)⟩
  rintro _ _ ⟨c25, g31, rfl, rfl, hE⟩
  replace hF := hO2
  clear hO2
  try dsimp only at hF
  refine K_ent hE ?_
  refine K_in (K_region (Cm (.bool (decide ((a_n : Int) < 0))) rfl rfl ?_))
  refine C_nil (CW_cond (b := (decide ((a_n : Int) < 0))) (.tmp rfl rfl) (fun hb30 => ?_) (fun hb30 => ?_))
  · rw [if_pos hb30] at hF
    refine K_region (Cm (sv c25) rfl rfl ?_)
    obtain ⟨x26, hx27, hF⟩ := bind_some hF
    obtain ⟨hq29, hz28⟩ := cat_some hx27
    refine C_val (V_concatN (s := [45]) (t := c25) (u := x26) (.sv _) (.tmp rfl rfl) hx27) ?_
    refine Ca (sv x26) rfl rfl ?_
    refine C_nil (CW_ret ?_)
    obtain rfl := Option.some.inj hF
    exact End_ret () (.tmp rfl rfl .nil) rfl (.sel .nil)
  rw [if_neg (by rw [hb30]; exact Bool.false_ne_true)] at hF
  refine CW_skip (K_region (Cm (sv c25) rfl rfl ?_))
  refine Ca (sv c25) rfl rfl ?_
  refine C_nil (CW_ret ?_)
  obtain rfl := Option.some.inj hF
  exact End_ret () (.tmp rfl rfl .nil) rfl (.sel .nil)

/-! spec.l2List -/
def s_l2List_L1 (fuel : Nat) : List Int → Nat → (List UInt8) → Option ((List UInt8))
  | [], k5, c1 => some c1
  | x7 :: rest6, k5, c1 => (if (decide ((0 : Int) < (k5 : Int))) then (
        (cat c1 [44]).bind fun x16 =>
        (s_FormatInt fuel x7).bind fun r22 =>
        (cat x16 r22).bind fun x25 =>
        some x25)
      else (
        (s_FormatInt fuel x7).bind fun r31 =>
        (cat c1 r31).bind fun x34 =>
        some x34)).bind fun o14 =>
    match o14 with
    | c39 => s_l2List_L1 fuel rest6 (k5 + 1) c39
def s_l2List (fuel : Nat) (a_l : List Int) : Option ((List UInt8)) :=
  s_l2List_L1 fuel a_l 0 []
theorem s_l2List_ok (fuel : Nat) (a_l : List Int) (v0_0 : Sv) (R : (List UInt8)) (hF : s_l2List fuel a_l = some R) :
    Fw.Spec Tryz.prog 77 [v0_0.v] [crd (RdS 3 rdInt) v0_0.v a_l] (fun _ : Unit => (sv R)) (fun _ => []) := by
  refine Spec_enter (n := 23) Tryz.func77 rfl rfl (rs := [.tmp 2]) rfl rfl rfl ?_
  intro H0 F0
  unfold s_l2List at hF
  refine K_region (C_val (V_assign (v := (sv [])) (.sv _)) ?_)
  refine C_nil (K_region (C_val (V_assign (v := (sv [])) (.sv _)) ?_))
  refine C_nil (K_in (K_region (C_val (V_assign (v := (.int .i64 0)) (.int _ _)) ?_)))
  refine C_nil (CW_block (CW_loop (m := a_l.length) (fun m3 f' cs' => ∃ (g : Fr) (k5 : Nat) (rest6 : List Int) (c1 : List UInt8), m3 = rest6.length ∧ f' = updL g [(0, v0_0.v), (3, (sv c1)), (4, (.int .i64 (k5 : Int)))] ∧ List.drop k5 a_l = rest6 ∧ Ent cs' [crd (RdS 3 rdInt) v0_0.v a_l] ∧ s_l2List_L1 fuel rest6 k5 c1 = some R) ⟨_, 0, _, _, rfl, (EqL.cons rfl (EqL.cons rfl (EqL.cons rfl (EqL.nil)))).eq, rfl, (.sel (.rd .h rfl .nil)), hF⟩ ?_))
  clear hF
  rintro m3 _ _ ⟨g4, k5, rest6, c1, rfl, rfl, hd8, hE, hF⟩
  refine K_ent hE ?_
  clear hE
  refine K_pure (c := crd (RdS 3 rdInt) v0_0.v a_l) .h crd_bound (fun hbd13 => ?_)
  rcases rest6 with _ | ⟨x7, rest6⟩
  · have hk9 := List.drop_eq_nil_iff.1 hd8
    have hfe12 : (decide (((k5 : Int) : Int) < (a_l.length : Int))) = false := decide_eq_false (by omega)
    rw [s_l2List_L1] at hF
    refine K_in (K_region (Cm (.int .i64 (k5 : Int)) rfl rfl ?_))
    refine Cm v0_0.v rfl rfl ?_
    refine C_at .h (fun hp => V_lenR (l := a_l.length) sl22 (.tmp rfl rfl) (crd_len hp)) ?_
    refine C_val (V_lss (i := (k5 : Int)) (j := (a_l.length : Int)) (.tmp rfl rfl) (.tmp rfl rfl)) ?_
    refine C_nil (CW_cond (b := (decide (((k5 : Int) : Int) < (a_l.length : Int)))) (.tmp rfl rfl) (fun hb => absurd (hfe12.symm.trans hb) (by decide)) (fun _ => ?_))
    refine CW_exit ?_
    iterate 2 refine CThen_exit ?_
    refine CIn_self (K_region (Cm (sv c1) rfl rfl ?_))
    refine Ca (sv c1) rfl rfl ?_
    refine C_nil (CW_ret ?_)
    obtain rfl := Option.some.inj hF
    exact End_ret () (.tmp rfl rfl .nil) rfl (.sel .nil)
  obtain ⟨hk9, hx10, hd11⟩ := drop_cons hd8
  have hfe12 : (decide (((k5 : Int) : Int) < (a_l.length : Int))) = true := decide_eq_true (by omega)
  rw [s_l2List_L1] at hF
  refine K_in (K_region (Cm (.int .i64 (k5 : Int)) rfl rfl ?_))
  refine Cm v0_0.v rfl rfl ?_
  refine C_at .h (fun hp => V_lenR (l := a_l.length) sl22 (.tmp rfl rfl) (crd_len hp)) ?_
  refine C_val (V_lss (i := (k5 : Int)) (j := (a_l.length : Int)) (.tmp rfl rfl) (.tmp rfl rfl)) ?_
  refine C_nil (CW_cond (b := (decide (((k5 : Int) : Int) < (a_l.length : Int)))) (.tmp rfl rfl) (fun _ => ?_) (fun hb => absurd (hfe12.symm.trans hb) (by decide)))
  refine CW_skip ?_
  obtain ⟨o14, hio14, hO15⟩ := bind_some hF
  refine K_cut (fun f' cs' => ∃ (c39 : List UInt8) (g : Fr), c39 = o14 ∧ f' = updL g [(0, v0_0.v), (3, (sv c39)), (4, (.int .i64 (k5 : Int)))] ∧ Ent cs' [crd (RdS 3 rdInt) v0_0.v a_l]) ?_ ?_
  · replace hF := hio14
    refine CW_block (K_in (K_region (Cm (.int .i64 (k5 : Int)) rfl rfl ?_)))
    refine C_val (V_gtr (i := (k5 : Int)) (j := 0) (.tmp rfl rfl) (.int _ _)) ?_
    refine C_nil (CW_cond (b := (decide ((0 : Int) < (k5 : Int)))) (.tmp rfl rfl) (fun hb38 => ?_) (fun hb38 => ?_))
    · rw [if_pos hb38] at hF
      refine CW_region (Cm (sv c1) rfl rfl ?_)
      obtain ⟨x16, hx17, hF⟩ := bind_some hF
      obtain ⟨hq19, hz18⟩ := cat_some hx17
      refine C_val (V_concatN (s := c1) (t := [44]) (u := x16) (.tmp rfl rfl) (.sv _) hx17) ?_
      refine Ca (sv x16) rfl rfl ?_
      refine C_nil (CW_region (Cm (sv x16) rfl rfl ?_))
      refine Cm v0_0.v rfl rfl ?_
      refine Cm (.int .i64 (k5 : Int)) rfl rfl ?_
      refine C_idx (a := x7) sl22 ty3.sz (.tmp rfl rfl) (.tmp rfl rfl) .h (Int.natCast_nonneg k5) hx10 (fun k20 j21 => ?_)
      refine C_ldS (w := (.int .i64 x7)) ag3 (.tmp rfl rfl) .h ls3_0 ?_
      obtain ⟨r22, hx23, hF⟩ := bind_some hF
      refine C_x0 .nil (X_callS cf38 (.cons (.tmp rfl rfl) .nil) (s_FormatInt_ok fuel x7 _ hx23)) (fun _ => ?_)
      obtain ⟨x25, hx26, hF⟩ := bind_some hF
      obtain ⟨hq28, hz27⟩ := cat_some hx26
      refine C_val (V_concatN (s := x16) (t := r22) (u := x25) (.tmp rfl rfl) (.tmp rfl rfl) hx26) ?_
      refine Ca (sv x25) rfl rfl ?_
      refine C_nil ?_
      obtain rfl := Option.some.inj hF
      exact ⟨_, _, rfl, (EqL.cons rfl (EqL.cons rfl (EqL.cons rfl (EqL.nil)))).eq, (.sel (.rd (.t .h) rfl .nil))⟩
    rw [if_neg (by rw [hb38]; exact Bool.false_ne_true)] at hF
    refine CW_skip (CW_region (Cm (sv c1) rfl rfl ?_))
    refine Cm v0_0.v rfl rfl ?_
    refine Cm (.int .i64 (k5 : Int)) rfl rfl ?_
    refine C_idx (a := x7) sl22 ty3.sz (.tmp rfl rfl) (.tmp rfl rfl) .h (Int.natCast_nonneg k5) hx10 (fun k29 j30 => ?_)
    refine C_ldS (w := (.int .i64 x7)) ag3 (.tmp rfl rfl) .h ls3_0 ?_
    obtain ⟨r31, hx32, hF⟩ := bind_some hF
    refine C_x0 .nil (X_callS cf38 (.cons (.tmp rfl rfl) .nil) (s_FormatInt_ok fuel x7 _ hx32)) (fun _ => ?_)
    obtain ⟨x34, hx35, hF⟩ := bind_some hF
    obtain ⟨hq37, hz36⟩ := cat_some hx35
    refine C_val (V_concatN (s := c1) (t := r31) (u := x34) (.tmp rfl rfl) (.tmp rfl rfl) hx35) ?_
    refine Ca (sv x34) rfl rfl ?_
    refine C_nil ?_
    obtain rfl := Option.some.inj hF
    exact ⟨_, _, rfl, (EqL.cons rfl (EqL.cons rfl (EqL.cons rfl (EqL.nil)))).eq, (.sel (.rd (.t .h) rfl .nil))⟩
  rintro _ _ ⟨c39, g41, rfl, rfl, hE⟩
  replace hF := hO15
  clear hO15
  try dsimp only at hF
  refine K_ent hE ?_
  refine CW_region (Cm (.int .i64 (k5 : Int)) rfl rfl ?_)
  refine C_val (V_add (i := (k5 : Int)) (j := 1) (.tmp rfl rfl) (.int _ _)) ?_
  refine Ca (.int .i64 (IntKind.i64.wrap ((k5 : Int) + 1))) rfl rfl ?_
  refine C_nil ?_
  have hw40 : IntKind.i64.wrap ((k5 : Int) + 1) = ((k5 + 1 : Nat) : Int) := by rw [wrap_in (by omega) (by omega)]; rfl
  rw [hw40]
  exact ⟨_, Nat.lt_succ_self _, _, k5 + 1, rest6, _, rfl, (EqL.cons rfl (EqL.cons rfl (EqL.cons rfl (EqL.nil)))).eq, hd11, (.sel (.rd .h rfl .nil)), hF⟩

/-! spec.FormatFact -/
def s_FormatFact_L1 (a_f : Fact) (fuel : Nat) : List Int → Nat → Option ((List UInt8))
  | [], k15 => (s_FormatInt fuel a_f.Rel).bind fun r24 =>
    (cat [114] r24).bind fun x27 =>
    (cat x27 [40]).bind fun x31 =>
    (s_l2List fuel a_f.Values).bind fun r35 =>
    (cat x31 r35).bind fun x38 =>
    (cat x38 [41]).bind fun x42 =>
    some x42
  | x17 :: rest16, k15 => (s_l1In x17 0 9).bind fun r48 =>
    if (!r48) then (
      some [])
    else (
      s_FormatFact_L1 a_f fuel rest16 (k15 + 1))
def s_FormatFact (fuel : Nat) (a_f : Fact) : Option ((List UInt8)) :=
  ((s_l1In a_f.Rel 0 2).bind fun r4 =>
    bif (!r4) then (some true)
    else ((s_l1In (a_f.Values.length : Int) 1 3).bind fun r8 =>
      some (!r8))).bind fun o2 =>
  match o2 with
  | c11 => if c11 then (
      some [])
    else (
      s_FormatFact_L1 a_f fuel a_f.Values 0)
theorem s_FormatFact_ok (fuel : Nat) (a_f : Fact) (v0_1 : Sv) (R : (List UInt8)) (hF : s_FormatFact fuel a_f = some R) :
    Fw.Spec Tryz.prog 98 [(.agg [(.int .i64 a_f.Rel), v0_1.v].toArray)] [crd (RdS 3 rdInt) v0_1.v a_f.Values] (fun _ : Unit => (sv R)) (fun _ => []) := by
  refine Spec_enter (n := 39) Tryz.func98 rfl rfl (rs := [.tmp 2]) rfl rfl rfl ?_
  intro H0 F0
  unfold s_FormatFact at hF
  refine K_region (C_newR rfl (N_box (g := false) (v := (.agg [(.int .i64 a_f.Rel), v0_1.v].toArray)) ty114.sz (.tmp rfl rfl) rfl) (fun k1 => ?_))
  refine C_val (V_assign (v := (sv [])) (.sv _)) ?_
  refine C_nil (K_in ?_)
  obtain ⟨o2, hio2, hO3⟩ := bind_some hF
  refine K_region (C_cut (fun f' cs' => ∃ (c11 : Bool) (g : Fr), c11 = o2 ∧ f' = updL g [(1, (.pointer (some ⟨k1, 0, some 0⟩))), (14, (.bool c11))] ∧ Ent cs' [cboR k1 114 (.agg [(.int .i64 a_f.Rel), v0_1.v].toArray), crd (RdS 3 rdInt) v0_1.v a_f.Values]) ?_ ?_)
  · replace hF := hio2
    refine C_val (V_fieldAddr (off := 0) fd114_0 (.tmp rfl rfl)) ?_
    refine C_at .h (fun hp => V_load (v := (.int .i64 a_f.Rel)) ag3 (.tmp rfl rfl) hp.2 rfl rfl) ?_
    obtain ⟨r4, hx5, hF⟩ := bind_some hF
    refine C_x0 .nil (X_callS cf96 (.cons (.tmp rfl rfl) (.cons (.int _ _) (.cons (.int _ _) .nil))) (s_l1In_ok a_f.Rel 0 2 _ hx5)) (fun _ => ?_)
    refine C_val (V_not (b := r4) (.tmp rfl rfl)) ?_
    refine Cm (.bool (!r4)) rfl rfl ?_
    rcases Bool.eq_false_or_eq_true (!r4) with hg7 | hg7
    · rw [hg7]
      try rw [hg7] at hF; dsimp only [cond_true, cond_false] at hF
      iterate 5 refine C_off (t := 8) rfl rfl rfl ?_
      refine C_val (V_pick (b := true) (u := (.bool true)) (v := undef) (.tmp rfl rfl) (.bool _) (.tmp rfl rfl)) ?_
      refine C_nil ?_
      obtain rfl := Option.some.inj hF
      exact ⟨_, _, rfl, (EqL.cons rfl (EqL.cons rfl (EqL.nil))).eq, (.sel (.rd .h rfl (.rd (.t .h) rfl .nil)))⟩
    rw [hg7]
    try rw [hg7] at hF; dsimp only [cond_true, cond_false] at hF
    refine C_on (t := 8) rfl rfl rfl ?_
    refine C_val (V_fieldAddr (off := 1) fd114_1 (.tmp rfl rfl)) ?_
    refine C_on (t := 8) rfl rfl rfl ?_
    refine C_at .h (fun hp => V_load (v := v0_1.v) ag22 (.tmp rfl rfl) hp.2 rfl rfl) ?_
    refine C_on (t := 8) rfl rfl rfl ?_
    refine C_at (.t .h) (fun hp => V_lenR (l := a_f.Values.length) sl22 (.tmp rfl rfl) (crd_len hp)) ?_
    refine C_on (t := 8) rfl rfl rfl ?_
    obtain ⟨r8, hx9, hF⟩ := bind_some hF
    refine C_x0 .nil (X_callS cf96 (.cons (.tmp rfl rfl) (.cons (.int _ _) (.cons (.int _ _) .nil))) (s_l1In_ok (a_f.Values.length : Int) 1 3 _ hx9)) (fun _ => ?_)
    refine C_on (t := 8) rfl rfl rfl ?_
    refine C_val (V_not (b := r8) (.tmp rfl rfl)) ?_
    refine C_val (V_pick (b := false) (u := (.bool true)) (v := (.bool (!r8))) (.tmp rfl rfl) (.bool _) (.tmp rfl rfl)) ?_
    refine C_nil ?_
    obtain rfl := Option.some.inj hF
    exact ⟨_, _, rfl, (EqL.cons rfl (EqL.cons rfl (EqL.nil))).eq, (.sel (.rd .h rfl (.rd (.t .h) rfl .nil)))⟩
  rintro _ _ ⟨c11, g54, rfl, rfl, hE⟩
  replace hF := hO3
  clear hO3
  try dsimp only at hF
  refine K_ent hE ?_
  refine CW_cond (b := c11) (.tmp rfl rfl) (fun hb53 => ?_) (fun hb53 => ?_)
  · rw [if_pos hb53] at hF
    refine K_region (C_val (V_assign (v := (sv [])) (.sv _)) ?_)
    refine C_nil (CW_ret ?_)
    obtain rfl := Option.some.inj hF
    exact End_ret () (.tmp rfl rfl .nil) rfl (.sel .nil)
  rw [if_neg (by rw [hb53]; exact Bool.false_ne_true)] at hF
  refine CW_skip (K_in (K_region (C_val (V_assign (v := (.int .i64 0)) (.int _ _)) ?_)))
  refine C_nil (CW_block (CW_loop (m := a_f.Values.length) (fun m13 f' cs' => ∃ (g : Fr) (k15 : Nat) (rest16 : List Int), m13 = rest16.length ∧ f' = updL g [(1, (.pointer (some ⟨k1, 0, some 0⟩))), (3, (.int .i64 (k15 : Int)))] ∧ List.drop k15 a_f.Values = rest16 ∧ Ent cs' [cboR k1 114 (.agg [(.int .i64 a_f.Rel), v0_1.v].toArray), crd (RdS 3 rdInt) v0_1.v a_f.Values] ∧ s_FormatFact_L1 a_f fuel rest16 k15 = some R) ⟨_, 0, _, rfl, (EqL.cons rfl (EqL.cons rfl (EqL.nil))).eq, rfl, (.sel (.rd .h rfl (.rd (.t .h) rfl .nil))), hF⟩ ?_))
  clear hF
  rintro m13 _ _ ⟨g14, k15, rest16, rfl, rfl, hd18, hE, hF⟩
  refine K_ent hE ?_
  clear hE
  refine K_pure (c := crd (RdS 3 rdInt) v0_1.v a_f.Values) (.t .h) crd_bound (fun hbd23 => ?_)
  rcases rest16 with _ | ⟨x17, rest16⟩
  · have hk19 := List.drop_eq_nil_iff.1 hd18
    have hfe22 : (decide (((k15 : Int) : Int) < (a_f.Values.length : Int))) = false := decide_eq_false (by omega)
    rw [s_FormatFact_L1] at hF
    refine K_in (K_region (Cm (.int .i64 (k15 : Int)) rfl rfl ?_))
    refine C_val (V_fieldAddr (off := 1) fd114_1 (.tmp rfl rfl)) ?_
    refine C_at .h (fun hp => V_load (v := v0_1.v) ag22 (.tmp rfl rfl) hp.2 rfl rfl) ?_
    refine C_at (.t .h) (fun hp => V_lenR (l := a_f.Values.length) sl22 (.tmp rfl rfl) (crd_len hp)) ?_
    refine C_val (V_lss (i := (k15 : Int)) (j := (a_f.Values.length : Int)) (.tmp rfl rfl) (.tmp rfl rfl)) ?_
    refine C_nil (CW_cond (b := (decide (((k15 : Int) : Int) < (a_f.Values.length : Int)))) (.tmp rfl rfl) (fun hb => absurd (hfe22.symm.trans hb) (by decide)) (fun _ => ?_))
    refine CW_exit ?_
    iterate 2 refine CThen_exit ?_
    refine CIn_self (K_draw [0, 1, 5, 6, 2, 3, 4, 7, 8, 9, 10] [0, 1, 3, 7, 15, 0, 32, 103, 255, 511, 1023] [2, 7] mixed (by decide +kernel) ?_)
    refine D_val rfl .no (fun ha => V_fieldAddr (off := 0) fd114_0 (EN ha (.tmp rfl rfl) rfl)) ?_
    refine D_at rfl .no .h rfl (fun ha hp => V_load (v := (.int .i64 a_f.Rel)) ag3 (EN ha (.tmp rfl rfl) rfl) hp.2 rfl rfl) ?_
    refine D_val rfl .no (fun ha => V_fieldAddr (off := 1) fd114_1 (EN ha (.tmp rfl rfl) rfl)) ?_
    refine D_at rfl .no .h rfl (fun ha hp => V_load (v := v0_1.v) ag22 (EN ha (.tmp rfl rfl) rfl) hp.2 rfl rfl) ?_
    obtain ⟨r24, hx25, hF⟩ := bind_some hF
    refine D_act0 rfl rfl .no .nil .nil (fun ha => X_callS cf38 (.cons (EN ha (.tmp rfl rfl) rfl) .nil) (s_FormatInt_ok fuel a_f.Rel _ hx25)) (fun _ => ?_)
    obtain ⟨x27, hx28, hF⟩ := bind_some hF
    obtain ⟨hq30, hz29⟩ := cat_some hx28
    refine D_val rfl .no (fun ha => V_concatN (s := [114]) (t := r24) (u := x27) (EN ha (.sv _) rfl) (EN ha (.tmp rfl rfl) rfl) hx28) ?_
    obtain ⟨x31, hx32, hF⟩ := bind_some hF
    obtain ⟨hq34, hz33⟩ := cat_some hx32
    refine D_val rfl .no (fun ha => V_concatN (s := x27) (t := [40]) (u := x31) (EN ha (.tmp rfl rfl) rfl) (EN ha (.sv _) rfl) hx32) ?_
    obtain ⟨r35, hx36, hF⟩ := bind_some hF
    refine D_act0 rfl rfl .no (.rd (.t .h) rfl .nil) .nil (fun ha => X_callS cf77 (.cons (EN ha (.tmp rfl rfl) rfl) .nil) (s_l2List_ok fuel a_f.Values v0_1 _ hx36)) (fun _ => ?_)
    obtain ⟨x38, hx39, hF⟩ := bind_some hF
    obtain ⟨hq41, hz40⟩ := cat_some hx39
    refine D_val rfl .no (fun ha => V_concatN (s := x31) (t := r35) (u := x38) (EN ha (.tmp rfl rfl) rfl) (EN ha (.tmp rfl rfl) rfl) hx39) ?_
    obtain ⟨x42, hx43, hF⟩ := bind_some hF
    obtain ⟨hq45, hz44⟩ := cat_some hx43
    refine D_val rfl .no (fun ha => V_concatN (s := x38) (t := [41]) (u := x42) (EN ha (.tmp rfl rfl) rfl) (EN ha (.sv _) rfl) hx43) ?_
    refine Da (sv x42) rfl rfl rfl rfl ?_
    refine D_nil (CW_ret ?_)
    obtain rfl := Option.some.inj hF
    exact End_ret () (.tmp rfl rfl .nil) rfl (.sel .nil)
  obtain ⟨hk19, hx20, hd21⟩ := drop_cons hd18
  have hfe22 : (decide (((k15 : Int) : Int) < (a_f.Values.length : Int))) = true := decide_eq_true (by omega)
  rw [s_FormatFact_L1] at hF
  refine K_in (K_region (Cm (.int .i64 (k15 : Int)) rfl rfl ?_))
  refine C_val (V_fieldAddr (off := 1) fd114_1 (.tmp rfl rfl)) ?_
  refine C_at .h (fun hp => V_load (v := v0_1.v) ag22 (.tmp rfl rfl) hp.2 rfl rfl) ?_
  refine C_at (.t .h) (fun hp => V_lenR (l := a_f.Values.length) sl22 (.tmp rfl rfl) (crd_len hp)) ?_
  refine C_val (V_lss (i := (k15 : Int)) (j := (a_f.Values.length : Int)) (.tmp rfl rfl) (.tmp rfl rfl)) ?_
  refine C_nil (CW_cond (b := (decide (((k15 : Int) : Int) < (a_f.Values.length : Int)))) (.tmp rfl rfl) (fun _ => ?_) (fun hb => absurd (hfe22.symm.trans hb) (by decide)))
  refine CW_skip (K_block (K_region (C_val (V_fieldAddr (off := 1) fd114_1 (.tmp rfl rfl)) ?_)))
  refine C_at .h (fun hp => V_load (v := v0_1.v) ag22 (.tmp rfl rfl) hp.2 rfl rfl) ?_
  refine Cm (.int .i64 (k15 : Int)) rfl rfl ?_
  refine C_idx (a := x17) sl22 ty3.sz (.tmp rfl rfl) (.tmp rfl rfl) (.t .h) (Int.natCast_nonneg k15) hx20 (fun k46 j47 => ?_)
  refine C_ldS (w := (.int .i64 x17)) ag3 (.tmp rfl rfl) .h ls3_0 ?_
  obtain ⟨r48, hx49, hF⟩ := bind_some hF
  refine C_x0 .nil (X_callS cf96 (.cons (.tmp rfl rfl) (.cons (.int _ _) (.cons (.int _ _) .nil))) (s_l1In_ok x17 0 9 _ hx49)) (fun _ => ?_)
  refine C_val (V_not (b := r48) (.tmp rfl rfl)) ?_
  refine C_nil (CW_cond (b := (!r48)) (.tmp rfl rfl) (fun hb52 => ?_) (fun hb52 => ?_))
  · rw [if_pos hb52] at hF
    refine K_region (C_val (V_assign (v := (sv [])) (.sv _)) ?_)
    refine C_nil (CW_ret ?_)
    obtain rfl := Option.some.inj hF
    exact End_ret () (.tmp rfl rfl .nil) rfl (.sel .nil)
  rw [if_neg (by rw [hb52]; exact Bool.false_ne_true)] at hF
  refine CW_skip (CW_region (Cm (.int .i64 (k15 : Int)) rfl rfl ?_))
  refine C_val (V_add (i := (k15 : Int)) (j := 1) (.tmp rfl rfl) (.int _ _)) ?_
  refine Ca (.int .i64 (IntKind.i64.wrap ((k15 : Int) + 1))) rfl rfl ?_
  refine C_nil ?_
  have hw51 : IntKind.i64.wrap ((k15 : Int) + 1) = ((k15 + 1 : Nat) : Int) := by rw [wrap_in (by omega) (by omega)]; rfl
  rw [hw51]
  exact ⟨_, Nat.lt_succ_self _, _, k15 + 1, rest16, rfl, (EqL.cons rfl (EqL.cons rfl (EqL.nil))).eq, hd21, (.sel (.rd (.t .h) rfl (.rd (.t (.t .h)) rfl .nil))), hF⟩

/-! spec.l36Facts -/
def s_l36Facts_L1 (fuel : Nat) : List Fact → Nat → (List UInt8) → Option ((List UInt8))
  | [], k5, c1 => if (c1 == []) then (
      some [110, 111, 110, 101])
    else (
      some c1)
  | x7 :: rest6, k5, c1 => (if (decide ((0 : Int) < (k5 : Int))) then (
        (cat c1 [32]).bind fun x17 =>
        (s_FormatFact fuel x7).bind fun r24 =>
        (cat x17 r24).bind fun x27 =>
        some x27)
      else (
        (s_FormatFact fuel x7).bind fun r34 =>
        (cat c1 r34).bind fun x37 =>
        some x37)).bind fun o15 =>
    match o15 with
    | c42 => s_l36Facts_L1 fuel rest6 (k5 + 1) c42
def s_l36Facts (fuel : Nat) (a_l : List Fact) : Option ((List UInt8)) :=
  s_l36Facts_L1 fuel a_l 0 []
theorem s_l36Facts_ok (fuel : Nat) (a_l : List Fact) (v0_0 : Sv) (R : (List UInt8)) (hF : s_l36Facts fuel a_l = some R) :
    Fw.Spec Tryz.prog 39 [v0_0.v] [crd (RdS 114 rd114) v0_0.v a_l] (fun _ : Unit => (sv R)) (fun _ => []) := by
  refine Spec_enter (n := 25) Tryz.func39 rfl rfl (rs := [.tmp 2]) rfl rfl rfl ?_
  intro H0 F0
  unfold s_l36Facts at hF
  refine K_region (C_val (V_assign (v := (sv [])) (.sv _)) ?_)
  refine C_nil (K_region (C_val (V_assign (v := (sv [])) (.sv _)) ?_))
  refine C_nil (K_in (K_region (C_val (V_assign (v := (.int .i64 0)) (.int _ _)) ?_)))
  refine C_nil (CW_block (CW_loop (m := a_l.length) (fun m3 f' cs' => ∃ (g : Fr) (k5 : Nat) (rest6 : List Fact) (c1 : List UInt8), m3 = rest6.length ∧ f' = updL g [(0, v0_0.v), (3, (sv c1)), (4, (.int .i64 (k5 : Int)))] ∧ List.drop k5 a_l = rest6 ∧ Ent cs' [crd (RdS 114 rd114) v0_0.v a_l] ∧ s_l36Facts_L1 fuel rest6 k5 c1 = some R) ⟨_, 0, _, _, rfl, (EqL.cons rfl (EqL.cons rfl (EqL.cons rfl (EqL.nil)))).eq, rfl, (.sel (.rd .h rfl .nil)), hF⟩ ?_))
  clear hF
  rintro m3 _ _ ⟨g4, k5, rest6, c1, rfl, rfl, hd8, hE, hF⟩
  refine K_ent hE ?_
  clear hE
  refine K_pure (c := crd (RdS 114 rd114) v0_0.v a_l) .h crd_bound (fun hbd13 => ?_)
  rcases rest6 with _ | ⟨x7, rest6⟩
  · have hk9 := List.drop_eq_nil_iff.1 hd8
    have hfe12 : (decide (((k5 : Int) : Int) < (a_l.length : Int))) = false := decide_eq_false (by omega)
    rw [s_l36Facts_L1] at hF
    refine K_in (K_region (Cm (.int .i64 (k5 : Int)) rfl rfl ?_))
    refine Cm v0_0.v rfl rfl ?_
    refine C_at .h (fun hp => V_lenR (l := a_l.length) sl40 (.tmp rfl rfl) (crd_len hp)) ?_
    refine C_val (V_lss (i := (k5 : Int)) (j := (a_l.length : Int)) (.tmp rfl rfl) (.tmp rfl rfl)) ?_
    refine C_nil (CW_cond (b := (decide (((k5 : Int) : Int) < (a_l.length : Int)))) (.tmp rfl rfl) (fun hb => absurd (hfe12.symm.trans hb) (by decide)) (fun _ => ?_))
    refine CW_exit ?_
    iterate 2 refine CThen_exit ?_
    refine CIn_self (K_in (K_region (Cm (sv c1) rfl rfl ?_)))
    refine C_val (V_eqT (s := c1) (t := []) (.tmp rfl rfl) (.sv _)) ?_
    refine C_nil (CW_cond (b := (c1 == [])) (.tmp rfl rfl) (fun hb14 => ?_) (fun hb14 => ?_))
    · rw [if_pos hb14] at hF
      refine K_region (C_val (V_assign (v := (sv [110, 111, 110, 101])) (.sv _)) ?_)
      refine C_nil (CW_ret ?_)
      obtain rfl := Option.some.inj hF
      exact End_ret () (.tmp rfl rfl .nil) rfl (.sel .nil)
    rw [if_neg (by rw [hb14]; exact Bool.false_ne_true)] at hF
    refine CW_skip (K_region (Cm (sv c1) rfl rfl ?_))
    refine Ca (sv c1) rfl rfl ?_
    refine C_nil (CW_ret ?_)
    obtain rfl := Option.some.inj hF
    exact End_ret () (.tmp rfl rfl .nil) rfl (.sel .nil)
  obtain ⟨hk9, hx10, hd11⟩ := drop_cons hd8
  have hfe12 : (decide (((k5 : Int) : Int) < (a_l.length : Int))) = true := decide_eq_true (by omega)
  rw [s_l36Facts_L1] at hF
  refine K_in (K_region (Cm (.int .i64 (k5 : Int)) rfl rfl ?_))
  refine Cm v0_0.v rfl rfl ?_
  refine C_at .h (fun hp => V_lenR (l := a_l.length) sl40 (.tmp rfl rfl) (crd_len hp)) ?_
  refine C_val (V_lss (i := (k5 : Int)) (j := (a_l.length : Int)) (.tmp rfl rfl) (.tmp rfl rfl)) ?_
  refine C_nil (CW_cond (b := (decide (((k5 : Int) : Int) < (a_l.length : Int)))) (.tmp rfl rfl) (fun _ => ?_) (fun hb => absurd (hfe12.symm.trans hb) (by decide)))
  refine CW_skip ?_
  obtain ⟨o15, hio15, hO16⟩ := bind_some hF
  refine K_cut (fun f' cs' => ∃ (c42 : List UInt8) (g : Fr), c42 = o15 ∧ f' = updL g [(0, v0_0.v), (3, (sv c42)), (4, (.int .i64 (k5 : Int)))] ∧ Ent cs' [crd (RdS 114 rd114) v0_0.v a_l]) ?_ ?_
  · replace hF := hio15
    refine CW_block (K_in (K_region (Cm (.int .i64 (k5 : Int)) rfl rfl ?_)))
    refine C_val (V_gtr (i := (k5 : Int)) (j := 0) (.tmp rfl rfl) (.int _ _)) ?_
    refine C_nil (CW_cond (b := (decide ((0 : Int) < (k5 : Int)))) (.tmp rfl rfl) (fun hb41 => ?_) (fun hb41 => ?_))
    · rw [if_pos hb41] at hF
      refine CW_region (Cm (sv c1) rfl rfl ?_)
      obtain ⟨x17, hx18, hF⟩ := bind_some hF
      obtain ⟨hq20, hz19⟩ := cat_some hx18
      refine C_val (V_concatN (s := c1) (t := [32]) (u := x17) (.tmp rfl rfl) (.sv _) hx18) ?_
      refine Ca (sv x17) rfl rfl ?_
      refine C_nil (CW_region (Cm (sv x17) rfl rfl ?_))
      refine Cm v0_0.v rfl rfl ?_
      refine Cm (.int .i64 (k5 : Int)) rfl rfl ?_
      refine C_idx (a := x7) sl40 ty114.sz (.tmp rfl rfl) (.tmp rfl rfl) .h (Int.natCast_nonneg k5) hx10 (fun k21 j22 => ?_)
      refine C_ldA1 (ul114_0_114 x7) ag114 ty114.sz rfl (.tmp rfl rfl) .h la114_0_114 (fun p23 => ?_)
      obtain ⟨r24, hx25, hF⟩ := bind_some hF
      refine C_x0 (.rd .h rfl .nil) (X_callS cf98 (.cons (.tmp rfl rfl) .nil) (s_FormatFact_ok fuel x7 p23 _ hx25)) (fun _ => ?_)
      obtain ⟨x27, hx28, hF⟩ := bind_some hF
      obtain ⟨hq30, hz29⟩ := cat_some hx28
      refine C_val (V_concatN (s := x17) (t := r24) (u := x27) (.tmp rfl rfl) (.tmp rfl rfl) hx28) ?_
      refine Ca (sv x27) rfl rfl ?_
      refine C_nil ?_
      obtain rfl := Option.some.inj hF
      exact ⟨_, _, rfl, (EqL.cons rfl (EqL.cons rfl (EqL.cons rfl (EqL.nil)))).eq, (.sel (.rd (.t (.t .h)) rfl .nil))⟩
    rw [if_neg (by rw [hb41]; exact Bool.false_ne_true)] at hF
    refine CW_skip (CW_region (Cm (sv c1) rfl rfl ?_))
    refine Cm v0_0.v rfl rfl ?_
    refine Cm (.int .i64 (k5 : Int)) rfl rfl ?_
    refine C_idx (a := x7) sl40 ty114.sz (.tmp rfl rfl) (.tmp rfl rfl) .h (Int.natCast_nonneg k5) hx10 (fun k31 j32 => ?_)
    refine C_ldA1 (ul114_0_114 x7) ag114 ty114.sz rfl (.tmp rfl rfl) .h la114_0_114 (fun p33 => ?_)
    obtain ⟨r34, hx35, hF⟩ := bind_some hF
    refine C_x0 (.rd .h rfl .nil) (X_callS cf98 (.cons (.tmp rfl rfl) .nil) (s_FormatFact_ok fuel x7 p33 _ hx35)) (fun _ => ?_)
    obtain ⟨x37, hx38, hF⟩ := bind_some hF
    obtain ⟨hq40, hz39⟩ := cat_some hx38
    refine C_val (V_concatN (s := c1) (t := r34) (u := x37) (.tmp rfl rfl) (.tmp rfl rfl) hx38) ?_
    refine Ca (sv x37) rfl rfl ?_
    refine C_nil ?_
    obtain rfl := Option.some.inj hF
    exact ⟨_, _, rfl, (EqL.cons rfl (EqL.cons rfl (EqL.cons rfl (EqL.nil)))).eq, (.sel (.rd (.t (.t .h)) rfl .nil))⟩
  rintro _ _ ⟨c42, g44, rfl, rfl, hE⟩
  replace hF := hO16
  clear hO16
  try dsimp only at hF
  refine K_ent hE ?_
  refine CW_region (Cm (.int .i64 (k5 : Int)) rfl rfl ?_)
  refine C_val (V_add (i := (k5 : Int)) (j := 1) (.tmp rfl rfl) (.int _ _)) ?_
  refine Ca (.int .i64 (IntKind.i64.wrap ((k5 : Int) + 1))) rfl rfl ?_
  refine C_nil ?_
  have hw43 : IntKind.i64.wrap ((k5 : Int) + 1) = ((k5 + 1 : Nat) : Int) := by rw [wrap_in (by omega) (by omega)]; rfl
  rw [hw43]
  exact ⟨_, Nat.lt_succ_self _, _, k5 + 1, rest6, _, rfl, (EqL.cons rfl (EqL.cons rfl (EqL.cons rfl (EqL.nil)))).eq, hd11, (.sel (.rd .h rfl .nil)), hF⟩

/-! spec.ReachLine -/
def s_ReachLine (fuel : Nat) (a_s : List Int) (a_l : List Method) (a_facts : List Fact) (a_seeds : List Int) : Option ((List UInt8)) :=
  ((s_AreMethods a_s a_l).bind fun r3 =>
    bif (!r3) then (some true)
    else ((s_AreFacts a_s a_facts).bind fun r7 =>
      some (!r7))).bind fun o1 =>
  match o1 with
  | c10 => if c10 then (
      some [])
    else (
      (s_ReachAll a_s a_l a_facts a_seeds).bind fun r11 =>
      (s_FormatInt fuel r11.Rounds).bind fun r15 =>
      (cat [114, 111, 117, 110, 100, 115, 32] r15).bind fun x18 =>
      (cat x18 [32, 99, 97, 108, 108, 115, 32]).bind fun x22 =>
      (s_FormatInt fuel (r11.Log.length : Int)).bind fun r26 =>
      (cat x22 r26).bind fun x29 =>
      (cat x29 [32, 102, 97, 99, 116, 115, 32]).bind fun x33 =>
      (s_l36Facts fuel r11.Facts).bind fun r37 =>
      (cat x33 r37).bind fun x40 =>
      some x40)
theorem s_ReachLine_ok (fuel : Nat) (a_s : List Int) (v0_0 : Sv) (a_l : List Method) (v1_0 : Sv) (a_facts : List Fact) (v2_0 : Sv) (a_seeds : List Int) (v3_0 : Sv) (R : (List UInt8)) (hF : s_ReachLine fuel a_s a_l a_facts a_seeds = some R) :
    Fw.Spec Tryz.prog 17 [v0_0.v, v1_0.v, v2_0.v, v3_0.v] [crd (RdS 3 rdInt) v0_0.v a_s, crd (RdS 112 rd112) v1_0.v a_l, crd (RdS 114 rd114) v2_0.v a_facts, crd (RdS 3 rdInt) v3_0.v a_seeds] (fun _ : Unit => (sv R)) (fun _ => []) := by
  refine Spec_enter (n := 40) Tryz.func17 rfl rfl (rs := [.tmp 8]) rfl rfl rfl ?_
  intro H0 F0
  unfold s_ReachLine at hF
  refine K_region (C_val (V_assign (v := (sv [])) (.sv _)) ?_)
  refine C_nil (K_in ?_)
  obtain ⟨o1, hio1, hO2⟩ := bind_some hF
  refine K_region (C_cut (fun f' cs' => ∃ (c10 : Bool) (g : Fr), c10 = o1 ∧ f' = updL g [(0, v0_0.v), (1, v1_0.v), (2, v2_0.v), (3, v3_0.v), (19, (.bool c10))] ∧ Ent cs' [crd (RdS 3 rdInt) v0_0.v a_s, crd (RdS 112 rd112) v1_0.v a_l, crd (RdS 114 rd114) v2_0.v a_facts, crd (RdS 3 rdInt) v3_0.v a_seeds]) ?_ ?_)
  · replace hF := hio1
    refine Cm v0_0.v rfl rfl ?_
    refine Cm v1_0.v rfl rfl ?_
    obtain ⟨r3, hx4, hF⟩ := bind_some hF
    refine C_x0 (.rd .h rfl (.rd (.t .h) rfl .nil)) (X_callS cf64 (.cons (.tmp rfl rfl) (.cons (.tmp rfl rfl) .nil)) (s_AreMethods_ok a_s v0_0 a_l v1_0 _ hx4)) (fun _ => ?_)
    refine C_val (V_not (b := r3) (.tmp rfl rfl)) ?_
    refine Cm (.bool (!r3)) rfl rfl ?_
    rcases Bool.eq_false_or_eq_true (!r3) with hg6 | hg6
    · rw [hg6]
      try rw [hg6] at hF; dsimp only [cond_true, cond_false] at hF
      iterate 4 refine C_off (t := 14) rfl rfl rfl ?_
      refine C_val (V_pick (b := true) (u := (.bool true)) (v := undef) (.tmp rfl rfl) (.bool _) (.tmp rfl rfl)) ?_
      refine C_nil ?_
      obtain rfl := Option.some.inj hF
      exact ⟨_, _, rfl, (EqL.cons rfl (EqL.cons rfl (EqL.cons rfl (EqL.cons rfl (EqL.cons rfl (EqL.nil)))))).eq, (.sel (.rd .h rfl (.rd (.t .h) rfl (.rd (.t (.t .h)) rfl (.rd (.t (.t (.t .h))) rfl .nil)))))⟩
    rw [hg6]
    try rw [hg6] at hF; dsimp only [cond_true, cond_false] at hF
    refine C_on (t := 14) rfl rfl rfl ?_
    refine Cm v0_0.v rfl rfl ?_
    refine C_on (t := 14) rfl rfl rfl ?_
    refine Cm v2_0.v rfl rfl ?_
    refine C_on (t := 14) rfl rfl rfl ?_
    obtain ⟨r7, hx8, hF⟩ := bind_some hF
    refine C_x0 (.rd .h rfl (.rd (.t (.t .h)) rfl .nil)) (X_callS cf65 (.cons (.tmp rfl rfl) (.cons (.tmp rfl rfl) .nil)) (s_AreFacts_ok a_s v0_0 a_facts v2_0 _ hx8)) (fun _ => ?_)
    refine C_on (t := 14) rfl rfl rfl ?_
    refine C_val (V_not (b := r7) (.tmp rfl rfl)) ?_
    refine C_val (V_pick (b := false) (u := (.bool true)) (v := (.bool (!r7))) (.tmp rfl rfl) (.bool _) (.tmp rfl rfl)) ?_
    refine C_nil ?_
    obtain rfl := Option.some.inj hF
    exact ⟨_, _, rfl, (EqL.cons rfl (EqL.cons rfl (EqL.cons rfl (EqL.cons rfl (EqL.cons rfl (EqL.nil)))))).eq, (.sel (.rd .h rfl (.rd (.t .h) rfl (.rd (.t (.t .h)) rfl (.rd (.t (.t (.t .h))) rfl .nil)))))⟩
  rintro _ _ ⟨c10, g45, rfl, rfl, hE⟩
  replace hF := hO2
  clear hO2
  try dsimp only at hF
  refine K_ent hE ?_
  refine CW_cond (b := c10) (.tmp rfl rfl) (fun hb44 => ?_) (fun hb44 => ?_)
  · rw [if_pos hb44] at hF
    refine K_region (C_val (V_assign (v := (sv [])) (.sv _)) ?_)
    refine C_nil (CW_ret ?_)
    obtain rfl := Option.some.inj hF
    exact End_ret () (.tmp rfl rfl .nil) rfl (.sel .nil)
  rw [if_neg (by rw [hb44]; exact Bool.false_ne_true)] at hF
  refine CW_skip (K_region (Cm v0_0.v rfl rfl ?_))
  refine Cm v1_0.v rfl rfl ?_
  refine Cm v2_0.v rfl rfl ?_
  refine Cm v3_0.v rfl rfl ?_
  obtain ⟨r11, hx12, hF⟩ := bind_some hF
  refine C_x3 (.rd .h rfl (.rd (.t .h) rfl (.rd (.t (.t .h)) rfl (.rd (.t (.t (.t .h))) rfl .nil)))) (X_callS cf66 (.cons (.tmp rfl rfl) (.cons (.tmp rfl rfl) (.cons (.tmp rfl rfl) (.cons (.tmp rfl rfl) .nil)))) (s_ReachAll_ok a_s v0_0 a_l v1_0 a_facts v2_0 a_seeds v3_0 _ hx12)) (fun p13 => ?_)
  refine C_new rfl (N_allocT (g := true) ty110 rfl rfl) (fun k14 => ?_)
  refine C_x1 (.cons .h .nil) (X_storeB (e' := (.agg [p13.1.v, p13.2.1.v, p13.2.2.v, (.int .i64 r11.Rounds)].toArray)) (v := (.agg [p13.1.v, p13.2.1.v, p13.2.2.v, (.int .i64 r11.Rounds)].toArray)) ty110.sz (.tmp rfl rfl) (.tmp rfl rfl) rfl rfl rfl rfl rfl) (fun _ => ?_)
  refine C_nil (K_draw [0, 1, 5, 6, 7, 11, 12, 2, 3, 4, 8, 9, 10, 13, 14, 15] [0, 1, 3, 7, 15, 0, 32, 96, 231, 511, 1023, 0, 2048, 6631, 16383, 32767] [2, 8, 13] mixed (by decide +kernel) ?_)
  refine D_val rfl .no (fun ha => V_fieldAddr (off := 3) fd110_3 (EN ha (.tmp rfl rfl) rfl)) ?_
  refine D_atO rfl .no .h (fun ha hp => V_load (v := (.int .i64 r11.Rounds)) ag3 (EN ha (.tmp rfl rfl) rfl) hp.2 rfl rfl) ?_
  refine D_val rfl .no (fun ha => V_fieldAddr (off := 2) fd110_2 (EN ha (.tmp rfl rfl) rfl)) ?_
  refine D_atO rfl .no .h (fun ha hp => V_load (v := p13.2.2.v) ag46 (EN ha (.tmp rfl rfl) rfl) hp.2 rfl rfl) ?_
  refine D_at rfl .no (.t (.t (.t .h))) rfl (fun ha hp => V_lenR (l := r11.Log.length) sl46 (EN ha (.tmp rfl rfl) rfl) (crd_len hp)) ?_
  refine D_val rfl .no (fun ha => V_fieldAddr (off := 0) fd110_0 (EN ha (.tmp rfl rfl) rfl)) ?_
  refine D_atO rfl .no .h (fun ha hp => V_load (v := p13.1.v) ag40 (EN ha (.tmp rfl rfl) rfl) hp.2 rfl rfl) ?_
  obtain ⟨r15, hx16, hF⟩ := bind_some hF
  refine D_act0 rfl rfl .no .nil (.own .h (fun _ h => h) (.own .h (fun _ h => h) (.dep rfl .nil))) (fun ha => X_callS cf38 (.cons (EN ha (.tmp rfl rfl) rfl) .nil) (s_FormatInt_ok fuel r11.Rounds _ hx16)) (fun _ => ?_)
  obtain ⟨x18, hx19, hF⟩ := bind_some hF
  obtain ⟨hq21, hz20⟩ := cat_some hx19
  refine D_val rfl .no (fun ha => V_concatN (s := [114, 111, 117, 110, 100, 115, 32]) (t := r15) (u := x18) (EN ha (.sv _) rfl) (EN ha (.tmp rfl rfl) rfl) hx19) ?_
  obtain ⟨x22, hx23, hF⟩ := bind_some hF
  obtain ⟨hq25, hz24⟩ := cat_some hx23
  refine D_val rfl .no (fun ha => V_concatN (s := x18) (t := [32, 99, 97, 108, 108, 115, 32]) (u := x22) (EN ha (.tmp rfl rfl) rfl) (EN ha (.sv _) rfl) hx23) ?_
  obtain ⟨r26, hx27, hF⟩ := bind_some hF
  refine D_act0 rfl rfl .no .nil (.own .h (fun _ h => h) (.dep rfl (.dep rfl .nil))) (fun ha => X_callS cf38 (.cons (EN ha (.tmp rfl rfl) rfl) .nil) (s_FormatInt_ok fuel (r11.Log.length : Int) _ hx27)) (fun _ => ?_)
  obtain ⟨x29, hx30, hF⟩ := bind_some hF
  obtain ⟨hq32, hz31⟩ := cat_some hx30
  refine D_val rfl .no (fun ha => V_concatN (s := x22) (t := r26) (u := x29) (EN ha (.tmp rfl rfl) rfl) (EN ha (.tmp rfl rfl) rfl) hx30) ?_
  obtain ⟨x33, hx34, hF⟩ := bind_some hF
  obtain ⟨hq36, hz35⟩ := cat_some hx34
  refine D_val rfl .no (fun ha => V_concatN (s := x29) (t := [32, 102, 97, 99, 116, 115, 32]) (u := x33) (EN ha (.tmp rfl rfl) rfl) (EN ha (.sv _) rfl) hx34) ?_
  obtain ⟨r37, hx38, hF⟩ := bind_some hF
  refine D_act0 rfl rfl .no (.rd (.t .h) rfl .nil) (.dep rfl (.dep rfl (.dep rfl .nil))) (fun ha => X_callS cf39 (.cons (EN ha (.tmp rfl rfl) rfl) .nil) (s_l36Facts_ok fuel r11.Facts p13.1 _ hx38)) (fun _ => ?_)
  obtain ⟨x40, hx41, hF⟩ := bind_some hF
  obtain ⟨hq43, hz42⟩ := cat_some hx41
  refine D_val rfl .no (fun ha => V_concatN (s := x33) (t := r37) (u := x40) (EN ha (.tmp rfl rfl) rfl) (EN ha (.tmp rfl rfl) rfl) hx41) ?_
  refine Da (sv x40) rfl rfl rfl rfl ?_
  refine D_nil (CW_ret ?_)
  obtain rfl := Option.some.inj hF
  exact End_ret () (.tmp rfl rfl .nil) rfl (.sel .nil)

/-! impl.within -/
def i_within (a_n : Int) (a_low : Int) (a_high : Int) : Option (Bool) :=
  some ((decide ((a_low : Int) ≤ a_n)) && (decide ((a_n : Int) ≤ a_high)))
theorem i_within_ok (a_n : Int) (a_low : Int) (a_high : Int) (R : Bool) (hF : i_within a_n a_low a_high = some R) :
    Fw.Spec Tryz.prog 111 [(.int .i64 a_n), (.int .i64 a_low), (.int .i64 a_high)] [] (fun _ : Unit => (.bool R)) (fun _ => []) := by
  refine Spec_enter (n := 15) Tryz.func111 rfl rfl (rs := [.tmp 6]) rfl rfl rfl ?_
  intro H0 F0
  unfold i_within at hF
  refine K_region (C_val (V_assign (v := (.bool false)) (.bool _)) ?_)
  refine C_nil (K_region (C_cut (fun f' cs' => ∃ (g : Fr), f' = updL g [(6, (.bool ((decide ((a_low : Int) ≤ a_n)) && (decide ((a_n : Int) ≤ a_high)))))] ∧ Ent cs' []) ?_ ?_))
  · refine Cm (.int .i64 a_n) rfl rfl ?_
    refine Cm (.int .i64 a_low) rfl rfl ?_
    refine C_val (V_geq (i := a_n) (j := a_low) (.tmp rfl rfl) (.tmp rfl rfl)) ?_
    refine Cm (.bool (decide ((a_low : Int) ≤ a_n))) rfl rfl ?_
    rcases Bool.eq_false_or_eq_true (decide ((a_low : Int) ≤ a_n)) with hg1 | hg1
    · rw [hg1]
      try rw [hg1] at hF; dsimp only [cond_true, cond_false] at hF
      refine C_on (t := 10) rfl rfl rfl ?_
      refine Cm (.int .i64 a_n) rfl rfl ?_
      refine C_on (t := 10) rfl rfl rfl ?_
      refine Cm (.int .i64 a_high) rfl rfl ?_
      refine C_on (t := 10) rfl rfl rfl ?_
      refine C_val (V_leq (i := a_n) (j := a_high) (.tmp rfl rfl) (.tmp rfl rfl)) ?_
      refine C_val (V_pick (b := true) (u := (.bool (decide ((a_n : Int) ≤ a_high)))) (v := (.bool false)) (.tmp rfl rfl) (.tmp rfl rfl) (.bool _)) ?_
      refine Ca (.bool (decide ((a_n : Int) ≤ a_high))) rfl rfl ?_
      refine C_nil ?_
      exact ⟨_, (EqL.cons rfl (EqL.nil)).eq, (.sel .nil)⟩
    rw [hg1]
    try rw [hg1] at hF; dsimp only [cond_true, cond_false] at hF
    iterate 3 refine C_off (t := 10) rfl rfl rfl ?_
    refine C_val (V_pick (b := false) (u := undef) (v := (.bool false)) (.tmp rfl rfl) (.tmp rfl rfl) (.bool _)) ?_
    refine Ca (.bool false) rfl rfl ?_
    refine C_nil ?_
    exact ⟨_, (EqL.cons rfl (EqL.nil)).eq, (.sel .nil)⟩
  rintro _ _ ⟨g2, rfl, hE⟩
  refine K_ent hE ?_
  refine CW_ret ?_
  obtain rfl := Option.some.inj hF
  exact End_ret () (.tmp rfl rfl .nil) rfl (.sel .nil)

/-! impl.IsSchema$1 -/
def i_IsSchema_1 (a_n : Int) : Option (Bool) :=
  (i_within a_n 1 3).bind fun r1 =>
  some (!r1)
theorem i_IsSchema_1_ok (a_n : Int) (R : Bool) (hF : i_IsSchema_1 a_n = some R) :
    Fw.Spec Tryz.prog 172 [(.int .i64 a_n)] [] (fun _ : Unit => (.bool R)) (fun _ => []) := by
  refine Spec_enter (n := 6) Tryz.func172 rfl rfl (rs := [.tmp 2]) rfl rfl rfl ?_
  intro H0 F0
  unfold i_IsSchema_1 at hF
  refine K_region (C_val (V_assign (v := (.bool false)) (.bool _)) ?_)
  refine C_nil (K_region (Cm (.int .i64 a_n) rfl rfl ?_))
  obtain ⟨r1, hx2, hF⟩ := bind_some hF
  refine C_x0 .nil (X_callS cf111 (.cons (.tmp rfl rfl) (.cons (.int _ _) (.cons (.int _ _) .nil))) (i_within_ok a_n 1 3 _ hx2)) (fun _ => ?_)
  refine C_val (V_not (b := r1) (.tmp rfl rfl)) ?_
  refine Ca (.bool (!r1)) rfl rfl ?_
  refine C_nil (CW_ret ?_)
  obtain rfl := Option.some.inj hF
  exact End_ret () (.tmp rfl rfl .nil) rfl (.sel .nil)

/-! slices.IndexFunc[[]int,int] -/
def g_slices_IndexFunc_int_int_iIsSchema1_L1 : List Int → Nat → Option (Int)
  | [], k4 => some (-1)
  | x6 :: rest5, k4 => (i_IsSchema_1 x6).bind fun r15 =>
    if r15 then (
      some (k4 : Int))
    else (
      g_slices_IndexFunc_int_int_iIsSchema1_L1 rest5 (k4 + 1))
def g_slices_IndexFunc_int_int_iIsSchema1 (a_s : List Int) : Option (Int) :=
  g_slices_IndexFunc_int_int_iIsSchema1_L1 a_s 0
theorem g_slices_IndexFunc_int_int_iIsSchema1_ok (a_s : List Int) (v0_0 : Sv) (R : Int) (hF : g_slices_IndexFunc_int_int_iIsSchema1 a_s = some R) :
    Fw.Spec Tryz.prog 204 [v0_0.v, (.func (.func 172) [].toArray [].toArray)] [crd (RdS 3 rdInt) v0_0.v a_s] (fun _ : Unit => (.int .i64 R)) (fun _ => []) := by
  refine Spec_enter (n := 19) Tryz.func204 rfl rfl (rs := [.tmp 4]) rfl rfl rfl ?_
  intro H0 F0
  unfold g_slices_IndexFunc_int_int_iIsSchema1 at hF
  refine K_region (C_val (V_assign (v := (.int .i64 0)) (.int _ _)) ?_)
  refine C_nil (K_in (K_region (Cm v0_0.v rfl rfl ?_)))
  refine C_at .h (fun hp => V_lenR (l := a_s.length) sl22 (.tmp rfl rfl) (crd_len hp)) ?_
  refine C_val (V_move (v := (.int .i64 0)) (.int _ _)) ?_
  refine C_nil (CW_block (CW_loop (m := a_s.length) (fun m2 f' cs' => ∃ (g : Fr) (k4 : Nat) (rest5 : List Int), m2 = rest5.length ∧ f' = updL g [(0, v0_0.v), (1, (.func (.func 172) [].toArray [].toArray)), (7, (.int .i64 (a_s.length : Int))), (8, (.int .i64 (k4 : Int)))] ∧ List.drop k4 a_s = rest5 ∧ Ent cs' [crd (RdS 3 rdInt) v0_0.v a_s] ∧ g_slices_IndexFunc_int_int_iIsSchema1_L1 rest5 k4 = some R) ⟨_, 0, _, rfl, (EqL.cons rfl (EqL.cons rfl (EqL.cons rfl (EqL.cons rfl (EqL.nil))))).eq, rfl, (.sel (.rd .h rfl .nil)), hF⟩ ?_))
  clear hF
  rintro m2 _ _ ⟨g3, k4, rest5, rfl, rfl, hd7, hE, hF⟩
  refine K_ent hE ?_
  clear hE
  refine K_pure (c := crd (RdS 3 rdInt) v0_0.v a_s) .h crd_bound (fun hbd12 => ?_)
  rcases rest5 with _ | ⟨x6, rest5⟩
  · have hk8 := List.drop_eq_nil_iff.1 hd7
    have hfe11 : (decide (((k4 : Int) : Int) < (a_s.length : Int))) = false := decide_eq_false (by omega)
    rw [g_slices_IndexFunc_int_int_iIsSchema1_L1] at hF
    refine K_region (C_val (V_lss (i := (k4 : Int)) (j := (a_s.length : Int)) (.tmp rfl rfl) (.tmp rfl rfl)) ?_)
    refine C_nil (K_in (CW_cond (b := (decide (((k4 : Int) : Int) < (a_s.length : Int)))) (.tmp rfl rfl) (fun hb => absurd (hfe11.symm.trans hb) (by decide)) (fun _ => ?_)))
    refine CW_exit ?_
    iterate 2 refine CThen_exit ?_
    refine CIn_self (K_region (C_val (V_assign (v := (.int .i64 (-1))) (.int _ _)) ?_))
    refine C_nil (CW_ret ?_)
    obtain rfl := Option.some.inj hF
    exact End_ret () (.tmp rfl rfl .nil) rfl (.sel .nil)
  obtain ⟨hk8, hx9, hd10⟩ := drop_cons hd7
  have hfe11 : (decide (((k4 : Int) : Int) < (a_s.length : Int))) = true := decide_eq_true (by omega)
  rw [g_slices_IndexFunc_int_int_iIsSchema1_L1] at hF
  refine K_region (C_val (V_lss (i := (k4 : Int)) (j := (a_s.length : Int)) (.tmp rfl rfl) (.tmp rfl rfl)) ?_)
  refine C_nil (K_in (CW_cond (b := (decide (((k4 : Int) : Int) < (a_s.length : Int)))) (.tmp rfl rfl) (fun _ => ?_) (fun hb => absurd (hfe11.symm.trans hb) (by decide))))
  refine CW_skip (K_block (K_region (Cm (.int .i64 (k4 : Int)) rfl rfl ?_)))
  refine Ca (.int .i64 (k4 : Int)) rfl rfl ?_
  refine C_nil (K_region (Cm (.func (.func 172) [].toArray [].toArray) rfl rfl ?_))
  refine Cm v0_0.v rfl rfl ?_
  refine Cm (.int .i64 (k4 : Int)) rfl rfl ?_
  refine C_idx (a := x6) sl22 ty3.sz (.tmp rfl rfl) (.tmp rfl rfl) .h (Int.natCast_nonneg k4) hx9 (fun k13 j14 => ?_)
  refine C_ldS (w := (.int .i64 x6)) ag3 (.tmp rfl rfl) .h ls3_0 ?_
  obtain ⟨r15, hx16, hF⟩ := bind_some hF
  refine C_x0 .nil (X_callCS cf172 (.tmp rfl rfl) (.cons (.tmp rfl rfl) .nil) (i_IsSchema_1_ok x6 _ hx16)) (fun _ => ?_)
  refine C_nil (CW_cond (b := r15) (.tmp rfl rfl) (fun hb19 => ?_) (fun hb19 => ?_))
  · rw [if_pos hb19] at hF
    refine K_region (Cm (.int .i64 (k4 : Int)) rfl rfl ?_)
    refine Ca (.int .i64 (k4 : Int)) rfl rfl ?_
    refine C_nil (CW_ret ?_)
    obtain rfl := Option.some.inj hF
    exact End_ret () (.tmp rfl rfl .nil) rfl (.sel .nil)
  rw [if_neg (by rw [hb19]; exact Bool.false_ne_true)] at hF
  refine CW_skip (CW_region (C_val (V_add (i := (k4 : Int)) (j := 1) (.tmp rfl rfl) (.int _ _)) ?_))
  refine Cm (.int .i64 (IntKind.i64.wrap ((k4 : Int) + 1))) rfl rfl ?_
  refine C_nil ?_
  have hw18 : IntKind.i64.wrap ((k4 : Int) + 1) = ((k4 + 1 : Nat) : Int) := by rw [wrap_in (by omega) (by omega)]; rfl
  rw [hw18]
  exact ⟨_, Nat.lt_succ_self _, _, k4 + 1, rest5, rfl, (EqL.cons rfl (EqL.cons rfl (EqL.cons rfl (EqL.cons rfl (EqL.nil))))).eq, hd10, (.sel (.rd (.t .h) rfl .nil)), hF⟩

/-! slices.ContainsFunc[[]int,int] -/
def g_slices_ContainsFunc_int_int_iIsSchema1 (a_s : List Int) : Option (Bool) :=
  (g_slices_IndexFunc_int_int_iIsSchema1 a_s).bind fun r1 =>
  some (decide ((0 : Int) ≤ r1))
theorem g_slices_ContainsFunc_int_int_iIsSchema1_ok (a_s : List Int) (v0_0 : Sv) (R : Bool) (hF : g_slices_ContainsFunc_int_int_iIsSchema1 a_s = some R) :
    Fw.Spec Tryz.prog 158 [v0_0.v, (.func (.func 172) [].toArray [].toArray)] [crd (RdS 3 rdInt) v0_0.v a_s] (fun _ : Unit => (.bool R)) (fun _ => []) := by
  refine Spec_enter (n := 9) Tryz.func158 rfl rfl (rs := [.tmp 4]) rfl rfl rfl ?_
  intro H0 F0
  unfold g_slices_ContainsFunc_int_int_iIsSchema1 at hF
  refine K_region (C_val (V_assign (v := (.bool false)) (.bool _)) ?_)
  refine C_nil (K_region (Cm v0_0.v rfl rfl ?_))
  refine Cm (.func (.func 172) [].toArray [].toArray) rfl rfl ?_
  obtain ⟨r1, hx2, hF⟩ := bind_some hF
  refine C_x0 (.rd .h rfl .nil) (X_callS cf204 (.cons (.tmp rfl rfl) (.cons (.tmp rfl rfl) .nil)) (g_slices_IndexFunc_int_int_iIsSchema1_ok a_s v0_0 _ hx2)) (fun _ => ?_)
  refine C_val (V_geq (i := r1) (j := 0) (.tmp rfl rfl) (.int _ _)) ?_
  refine Ca (.bool (decide ((0 : Int) ≤ r1))) rfl rfl ?_
  refine C_nil (CW_ret ?_)
  obtain rfl := Option.some.inj hF
  exact End_ret () (.tmp rfl rfl .nil) rfl (.sel .nil)

/-! impl.IsSchema -/
def i_IsSchema (a_s : List Int) : Option (Bool) :=
  ((i_within (a_s.length : Int) 1 3).bind fun r3 =>
    bif r3 then ((g_slices_ContainsFunc_int_int_iIsSchema1 a_s).bind fun r7 =>
      some (!r7))
    else (some false)).bind fun o1 =>
  match o1 with
  | c10 => some c10
theorem i_IsSchema_ok (a_s : List Int) (v0_0 : Sv) (R : Bool) (hF : i_IsSchema a_s = some R) :
    Fw.Spec Tryz.prog 128 [v0_0.v] [crd (RdS 3 rdInt) v0_0.v a_s] (fun _ : Unit => (.bool R)) (fun _ => []) := by
  refine Spec_enter (n := 11) Tryz.func128 rfl rfl (rs := [.tmp 2]) rfl rfl rfl ?_
  intro H0 F0
  unfold i_IsSchema at hF
  refine K_region (C_val (V_assign (v := (.bool false)) (.bool _)) ?_)
  refine C_nil ?_
  obtain ⟨o1, hio1, hO2⟩ := bind_some hF
  refine K_region (C_cut (fun f' cs' => ∃ (c10 : Bool) (g : Fr), c10 = o1 ∧ f' = updL g [(2, (.bool c10))] ∧ Ent cs' []) ?_ ?_)
  · replace hF := hio1
    refine Cm v0_0.v rfl rfl ?_
    refine C_at .h (fun hp => V_lenR (l := a_s.length) sl22 (.tmp rfl rfl) (crd_len hp)) ?_
    obtain ⟨r3, hx4, hF⟩ := bind_some hF
    refine C_x0 .nil (X_callS cf111 (.cons (.tmp rfl rfl) (.cons (.int _ _) (.cons (.int _ _) .nil))) (i_within_ok (a_s.length : Int) 1 3 _ hx4)) (fun _ => ?_)
    refine Cm (.bool r3) rfl rfl ?_
    rcases Bool.eq_false_or_eq_true r3 with hg6 | hg6
    · rw [hg6]
      try rw [hg6] at hF; dsimp only [cond_true, cond_false] at hF
      refine C_on (t := 6) rfl rfl rfl ?_
      refine Cm v0_0.v rfl rfl ?_
      refine C_on (t := 6) rfl rfl rfl ?_
      obtain ⟨r7, hx8, hF⟩ := bind_some hF
      refine C_x0 (.rd .h rfl .nil) (X_callS cf158 (.cons (.tmp rfl rfl) (.cons (.fn _) .nil)) (g_slices_ContainsFunc_int_int_iIsSchema1_ok a_s v0_0 _ hx8)) (fun _ => ?_)
      refine C_on (t := 6) rfl rfl rfl ?_
      refine C_val (V_not (b := r7) (.tmp rfl rfl)) ?_
      refine C_val (V_pick (b := true) (u := (.bool (!r7))) (v := (.bool false)) (.tmp rfl rfl) (.tmp rfl rfl) (.bool _)) ?_
      refine Ca (.bool (!r7)) rfl rfl ?_
      refine C_nil ?_
      obtain rfl := Option.some.inj hF
      exact ⟨_, _, rfl, (EqL.cons rfl (EqL.nil)).eq, (.sel .nil)⟩
    rw [hg6]
    try rw [hg6] at hF; dsimp only [cond_true, cond_false] at hF
    iterate 3 refine C_off (t := 6) rfl rfl rfl ?_
    refine C_val (V_pick (b := false) (u := undef) (v := (.bool false)) (.tmp rfl rfl) (.tmp rfl rfl) (.bool _)) ?_
    refine Ca (.bool false) rfl rfl ?_
    refine C_nil ?_
    obtain rfl := Option.some.inj hF
    exact ⟨_, _, rfl, (EqL.cons rfl (EqL.nil)).eq, (.sel .nil)⟩
  rintro _ _ ⟨c10, g11, rfl, rfl, hE⟩
  replace hF := hO2
  clear hO2
  try dsimp only at hF
  refine K_ent hE ?_
  refine CW_ret ?_
  obtain rfl := Option.some.inj hF
  exact End_ret () (.tmp rfl rfl .nil) rfl (.sel .nil)

/-! impl.hasRel -/
def i_hasRel (a_s : List Int) (a_rel : Int) : Option (Bool) :=
  ((i_IsSchema a_s).bind fun r3 =>
    bif r3 then ((i_within a_rel 0 (IntKind.i64.wrap ((a_s.length : Int) - 1))).bind fun r7 =>
      some r7)
    else (some false)).bind fun o1 =>
  match o1 with
  | c10 => some c10
theorem i_hasRel_ok (a_s : List Int) (v0_0 : Sv) (a_rel : Int) (R : Bool) (hF : i_hasRel a_s a_rel = some R) :
    Fw.Spec Tryz.prog 174 [v0_0.v, (.int .i64 a_rel)] [crd (RdS 3 rdInt) v0_0.v a_s] (fun _ : Unit => (.bool R)) (fun _ => []) := by
  refine Spec_enter (n := 14) Tryz.func174 rfl rfl (rs := [.tmp 4]) rfl rfl rfl ?_
  intro H0 F0
  unfold i_hasRel at hF
  refine K_region (C_val (V_assign (v := (.bool false)) (.bool _)) ?_)
  refine C_nil ?_
  obtain ⟨o1, hio1, hO2⟩ := bind_some hF
  refine K_region (C_cut (fun f' cs' => ∃ (c10 : Bool) (g : Fr), c10 = o1 ∧ f' = updL g [(4, (.bool c10))] ∧ Ent cs' []) ?_ ?_)
  · replace hF := hio1
    refine Cm v0_0.v rfl rfl ?_
    obtain ⟨r3, hx4, hF⟩ := bind_some hF
    refine C_x0 (.rd .h rfl .nil) (X_callS cf128 (.cons (.tmp rfl rfl) .nil) (i_IsSchema_ok a_s v0_0 _ hx4)) (fun _ => ?_)
    refine Cm (.bool r3) rfl rfl ?_
    rcases Bool.eq_false_or_eq_true r3 with hg6 | hg6
    · rw [hg6]
      try rw [hg6] at hF; dsimp only [cond_true, cond_false] at hF
      refine C_on (t := 7) rfl rfl rfl ?_
      refine Cm (.int .i64 a_rel) rfl rfl ?_
      refine C_on (t := 7) rfl rfl rfl ?_
      refine Cm v0_0.v rfl rfl ?_
      refine C_on (t := 7) rfl rfl rfl ?_
      refine C_at .h (fun hp => V_lenR (l := a_s.length) sl22 (.tmp rfl rfl) (crd_len hp)) ?_
      refine C_on (t := 7) rfl rfl rfl ?_
      refine C_val (V_sub (i := (a_s.length : Int)) (j := 1) (.tmp rfl rfl) (.int _ _)) ?_
      refine C_on (t := 7) rfl rfl rfl ?_
      obtain ⟨r7, hx8, hF⟩ := bind_some hF
      refine C_x0 .nil (X_callS cf111 (.cons (.tmp rfl rfl) (.cons (.int _ _) (.cons (.tmp rfl rfl) .nil))) (i_within_ok a_rel 0 (IntKind.i64.wrap ((a_s.length : Int) - 1)) _ hx8)) (fun _ => ?_)
      refine C_val (V_pick (b := true) (u := (.bool r7)) (v := (.bool false)) (.tmp rfl rfl) (.tmp rfl rfl) (.bool _)) ?_
      refine Ca (.bool r7) rfl rfl ?_
      refine C_nil ?_
      obtain rfl := Option.some.inj hF
      exact ⟨_, _, rfl, (EqL.cons rfl (EqL.nil)).eq, (.sel .nil)⟩
    rw [hg6]
    try rw [hg6] at hF; dsimp only [cond_true, cond_false] at hF
    iterate 5 refine C_off (t := 7) rfl rfl rfl ?_
    refine C_val (V_pick (b := false) (u := undef) (v := (.bool false)) (.tmp rfl rfl) (.tmp rfl rfl) (.bool _)) ?_
    refine Ca (.bool false) rfl rfl ?_
    refine C_nil ?_
    obtain rfl := Option.some.inj hF
    exact ⟨_, _, rfl, (EqL.cons rfl (EqL.nil)).eq, (.sel .nil)⟩
  rintro _ _ ⟨c10, g11, rfl, rfl, hE⟩
  replace hF := hO2
  clear hO2
  try dsimp only at hF
  refine K_ent hE ?_
  refine CW_ret ?_
  obtain rfl := Option.some.inj hF
  exact End_ret () (.tmp rfl rfl .nil) rfl (.sel .nil)

/-! impl.ascending -/
def i_ascending_L1 (a_l : List Int) : List Int → Nat → Option (Bool)
  | [], k4 => some true
  | x6 :: rest5, k4 => (bif (decide ((0 : Int) < (k4 : Int))) then ((ix a_l (IntKind.i64.wrap ((k4 : Int) - 1))).bind fun x18 =>
        some (decide ((x6 : Int) ≤ x18)))
      else (some false)).bind fun o13 =>
    match o13 with
    | c24 => if c24 then (
        some false)
      else (
        i_ascending_L1 a_l rest5 (k4 + 1))
def i_ascending (a_l : List Int) : Option (Bool) :=
  i_ascending_L1 a_l a_l 0
theorem i_ascending_ok (a_l : List Int) (v0_0 : Sv) (R : Bool) (hF : i_ascending a_l = some R) :
    Fw.Spec Tryz.prog 212 [v0_0.v] [crd (RdS 3 rdInt) v0_0.v a_l] (fun _ : Unit => (.bool R)) (fun _ => []) := by
  refine Spec_enter (n := 24) Tryz.func212 rfl rfl (rs := [.tmp 2]) rfl rfl rfl ?_
  intro H0 F0
  unfold i_ascending at hF
  refine K_region (C_val (V_assign (v := (.bool false)) (.bool _)) ?_)
  refine C_nil (K_in (K_region (Cm v0_0.v rfl rfl ?_)))
  refine C_at .h (fun hp => V_lenR (l := a_l.length) sl22 (.tmp rfl rfl) (crd_len hp)) ?_
  refine C_val (V_move (v := (.int .i64 0)) (.int _ _)) ?_
  refine C_nil (CW_block (CW_loop (m := a_l.length) (fun m2 f' cs' => ∃ (g : Fr) (k4 : Nat) (rest5 : List Int), m2 = rest5.length ∧ f' = updL g [(0, v0_0.v), (5, (.int .i64 (a_l.length : Int))), (6, (.int .i64 (k4 : Int)))] ∧ List.drop k4 a_l = rest5 ∧ Ent cs' [crd (RdS 3 rdInt) v0_0.v a_l] ∧ i_ascending_L1 a_l rest5 k4 = some R) ⟨_, 0, _, rfl, (EqL.cons rfl (EqL.cons rfl (EqL.cons rfl (EqL.nil)))).eq, rfl, (.sel (.rd .h rfl .nil)), hF⟩ ?_))
  clear hF
  rintro m2 _ _ ⟨g3, k4, rest5, rfl, rfl, hd7, hE, hF⟩
  refine K_ent hE ?_
  clear hE
  refine K_pure (c := crd (RdS 3 rdInt) v0_0.v a_l) .h crd_bound (fun hbd12 => ?_)
  rcases rest5 with _ | ⟨x6, rest5⟩
  · have hk8 := List.drop_eq_nil_iff.1 hd7
    have hfe11 : (decide (((k4 : Int) : Int) < (a_l.length : Int))) = false := decide_eq_false (by omega)
    rw [i_ascending_L1] at hF
    refine K_region (C_val (V_lss (i := (k4 : Int)) (j := (a_l.length : Int)) (.tmp rfl rfl) (.tmp rfl rfl)) ?_)
    refine C_nil (K_in (CW_cond (b := (decide (((k4 : Int) : Int) < (a_l.length : Int)))) (.tmp rfl rfl) (fun hb => absurd (hfe11.symm.trans hb) (by decide)) (fun _ => ?_)))
    refine CW_exit ?_
    iterate 2 refine CThen_exit ?_
    refine CIn_self (K_region (C_val (V_assign (v := (.bool true)) (.bool _)) ?_))
    refine C_nil (CW_ret ?_)
    obtain rfl := Option.some.inj hF
    exact End_ret () (.tmp rfl rfl .nil) rfl (.sel .nil)
  obtain ⟨hk8, hx9, hd10⟩ := drop_cons hd7
  have hfe11 : (decide (((k4 : Int) : Int) < (a_l.length : Int))) = true := decide_eq_true (by omega)
  rw [i_ascending_L1] at hF
  refine K_region (C_val (V_lss (i := (k4 : Int)) (j := (a_l.length : Int)) (.tmp rfl rfl) (.tmp rfl rfl)) ?_)
  refine C_nil (K_in (CW_cond (b := (decide (((k4 : Int) : Int) < (a_l.length : Int)))) (.tmp rfl rfl) (fun _ => ?_) (fun hb => absurd (hfe11.symm.trans hb) (by decide))))
  refine CW_skip (K_block (K_region (Cm (.int .i64 (k4 : Int)) rfl rfl ?_)))
  refine Ca (.int .i64 (k4 : Int)) rfl rfl ?_
  refine C_nil ?_
  obtain ⟨o13, hio13, hO14⟩ := bind_some hF
  refine K_draw [0, 1, 2, 3, 4, 5, 6, 7, 8, 9, 10, 11, 12, 13] [0, 1, 3, 7, 7, 31, 63, 7, 7, 263, 903, 1927, 4095, 8191] [] mixed (by decide +kernel) ?_
  refine D_cut (fun f' cs' => ∃ (c24 : Bool) (g : Fr), c24 = o13 ∧ f' = updL g [(0, v0_0.v), (5, (.int .i64 (a_l.length : Int))), (6, (.int .i64 (k4 : Int))), (22, (.bool c24))] ∧ Ent cs' [crd (RdS 3 rdInt) v0_0.v a_l]) ?_ ?_
  · replace hF := hio13
    refine Dm (.int .i64 (k4 : Int)) rfl rfl rfl rfl ?_
    refine D_val rfl .no (fun ha => V_gtr (i := (k4 : Int)) (j := 0) (EN ha (.tmp rfl rfl) rfl) (EN ha (.int _ _) rfl)) ?_
    refine Dm (.bool (decide ((0 : Int) < (k4 : Int)))) rfl rfl rfl rfl ?_
    rcases Bool.eq_false_or_eq_true (decide ((0 : Int) < (k4 : Int))) with hg15 | hg15
    · rw [hg15]
      try rw [hg15] at hF; dsimp only [cond_true, cond_false] at hF
      refine D_val rfl (.on 11 rfl rfl rfl) (fun ha => V_move (v := v0_0.v) (EN ha (.tmp rfl rfl) rfl)) ?_
      refine D_val rfl (.on 11 rfl rfl rfl) (fun ha => V_move (v := (.int .i64 (k4 : Int))) (EN ha (.tmp rfl rfl) rfl)) ?_
      refine D_idx (a := x6) sl22 ty3.sz rfl (.on 11 rfl rfl rfl) (.tmp rfl rfl) (.tmp rfl rfl) rfl rfl .h (Int.natCast_nonneg k4) hx9 (fun k16 j17 => ?_)
      refine D_ldS (w := (.int .i64 x6)) ag3 rfl (.on 11 rfl rfl rfl) (.tmp rfl rfl) rfl .h ls3_0 ?_
      refine D_val rfl (.on 11 rfl rfl rfl) (fun ha => V_move (v := v0_0.v) (EN ha (.tmp rfl rfl) rfl)) ?_
      refine D_val rfl (.on 11 rfl rfl rfl) (fun ha => V_move (v := (.int .i64 (k4 : Int))) (EN ha (.tmp rfl rfl) rfl)) ?_
      refine D_val rfl (.on 11 rfl rfl rfl) (fun ha => V_sub (i := (k4 : Int)) (j := 1) (EN ha (.tmp rfl rfl) rfl) (EN ha (.int _ _) rfl)) ?_
      obtain ⟨x18, hx19, hF⟩ := bind_some hF
      obtain ⟨hp20, hx21⟩ := ix_some hx19
      refine D_idx (a := x18) sl22 ty3.sz rfl (.on 11 rfl rfl rfl) (.tmp rfl rfl) (.tmp rfl rfl) rfl rfl (.t .h) hp20 hx21 (fun k22 j23 => ?_)
      refine D_ldS (w := (.int .i64 x18)) ag3 rfl (.on 11 rfl rfl rfl) (.tmp rfl rfl) rfl .h ls3_0 ?_
      refine D_val rfl (.on 11 rfl rfl rfl) (fun ha => V_leq (i := x6) (j := x18) (EN ha (.tmp rfl rfl) rfl) (EN ha (.tmp rfl rfl) rfl)) ?_
      refine D_val rfl .no (fun ha => V_pick (b := true) (u := (.bool (decide ((x6 : Int) ≤ x18)))) (v := (.bool false)) (EN ha (.tmp rfl rfl) rfl) (EN ha (.tmp rfl rfl) rfl) (EN ha (.bool _) rfl)) ?_
      refine D_nil ?_
      obtain rfl := Option.some.inj hF
      exact ⟨_, _, rfl, (EqL.cons rfl (EqL.cons rfl (EqL.cons rfl (EqL.cons rfl (EqL.nil))))).eq, (.sel (.rd (.t (.t .h)) rfl .nil))⟩
    rw [hg15]
    try rw [hg15] at hF; dsimp only [cond_true, cond_false] at hF
    iterate 10 refine D_off 11 rfl rfl rfl rfl ?_
    refine D_val rfl .no (fun ha => V_pick (b := false) (u := undef) (v := (.bool false)) (EN ha (.tmp rfl rfl) rfl) (EN ha (.tmp rfl rfl) rfl) (EN ha (.bool _) rfl)) ?_
    refine D_nil ?_
    obtain rfl := Option.some.inj hF
    exact ⟨_, _, rfl, (EqL.cons rfl (EqL.cons rfl (EqL.cons rfl (EqL.cons rfl (EqL.nil))))).eq, (.sel (.rd .h rfl .nil))⟩
  rintro _ _ ⟨c24, g27, rfl, rfl, hE⟩
  replace hF := hO14
  clear hO14
  try dsimp only at hF
  refine K_ent hE ?_
  refine CW_cond (b := c24) (.tmp rfl rfl) (fun hb26 => ?_) (fun hb26 => ?_)
  · rw [if_pos hb26] at hF
    refine K_region (C_val (V_assign (v := (.bool false)) (.bool _)) ?_)
    refine C_nil (CW_ret ?_)
    obtain rfl := Option.some.inj hF
    exact End_ret () (.tmp rfl rfl .nil) rfl (.sel .nil)
  rw [if_neg (by rw [hb26]; exact Bool.false_ne_true)] at hF
  refine CW_skip (CW_region (C_val (V_add (i := (k4 : Int)) (j := 1) (.tmp rfl rfl) (.int _ _)) ?_))
  refine Cm (.int .i64 (IntKind.i64.wrap ((k4 : Int) + 1))) rfl rfl ?_
  refine C_nil ?_
  have hw25 : IntKind.i64.wrap ((k4 : Int) + 1) = ((k4 + 1 : Nat) : Int) := by rw [wrap_in (by omega) (by omega)]; rfl
  rw [hw25]
  exact ⟨_, Nat.lt_succ_self _, _, k4 + 1, rest5, rfl, (EqL.cons rfl (EqL.cons rfl (EqL.cons rfl (EqL.nil)))).eq, hd10, (.sel (.rd .h rfl .nil)), hF⟩

/-! impl.Method).fits$1 -/
def i_Method_fits_1 (a_i : Int) (a_e1 : Int) : Option (Bool) :=
  (i_within a_i 0 (IntKind.i64.wrap (a_e1 - 1))).bind fun r1 =>
  some (!r1)
theorem i_Method_fits_1_ok (a_i : Int) (kc1 : Nat) (a_e1 : Int) (R : Bool) (hF : i_Method_fits_1 a_i a_e1 = some R) :
    Fw.Spec Tryz.prog 213 [(.int .i64 a_i), (.pointer (some ⟨kc1, 0, some 0⟩))] [cboR kc1 3 (.int .i64 a_e1)] (fun _ : Unit => (.bool R)) (fun _ => []) := by
  refine Spec_enter (n := 9) Tryz.func213 rfl rfl (rs := [.tmp 3]) rfl rfl rfl ?_
  intro H0 F0
  unfold i_Method_fits_1 at hF
  refine K_region (C_val (V_assign (v := (.bool false)) (.bool _)) ?_)
  refine C_nil (K_region (Cm (.int .i64 a_i) rfl rfl ?_))
  refine C_at .h (fun hp => V_load (v := (.int .i64 a_e1)) ag3 (.tmp rfl rfl) hp.2 rfl rfl) ?_
  refine C_val (V_sub (i := a_e1) (j := 1) (.tmp rfl rfl) (.int _ _)) ?_
  obtain ⟨r1, hx2, hF⟩ := bind_some hF
  refine C_x0 .nil (X_callS cf111 (.cons (.tmp rfl rfl) (.cons (.int _ _) (.cons (.tmp rfl rfl) .nil))) (i_within_ok a_i 0 (IntKind.i64.wrap (a_e1 - 1)) _ hx2)) (fun _ => ?_)
  refine C_val (V_not (b := r1) (.tmp rfl rfl)) ?_
  refine Ca (.bool (!r1)) rfl rfl ?_
  refine C_nil (CW_ret ?_)
  obtain rfl := Option.some.inj hF
  exact End_ret () (.tmp rfl rfl .nil) rfl (.sel .nil)

/-! slices.IndexFunc[[]int,int] -/
def g_slices_IndexFunc_int_int_iMethodfits1_L1 (a_e1 : Int) : List Int → Nat → Option (Int)
  | [], k4 => some (-1)
  | x6 :: rest5, k4 => (i_Method_fits_1 x6 a_e1).bind fun r15 =>
    if r15 then (
      some (k4 : Int))
    else (
      g_slices_IndexFunc_int_int_iMethodfits1_L1 a_e1 rest5 (k4 + 1))
def g_slices_IndexFunc_int_int_iMethodfits1 (a_s : List Int) (a_e1 : Int) : Option (Int) :=
  g_slices_IndexFunc_int_int_iMethodfits1_L1 a_e1 a_s 0
theorem g_slices_IndexFunc_int_int_iMethodfits1_ok (a_s : List Int) (v0_0 : Sv) (kc1 : Nat) (a_e1 : Int) (R : Int) (hF : g_slices_IndexFunc_int_int_iMethodfits1 a_s a_e1 = some R) :
    Fw.Spec Tryz.prog 204 [v0_0.v, (.func (.func 213) [].toArray [(.pointer (some ⟨kc1, 0, some 0⟩))].toArray)] [crd (RdS 3 rdInt) v0_0.v a_s, cboR kc1 3 (.int .i64 a_e1)] (fun _ : Unit => (.int .i64 R)) (fun _ => []) := by
  refine Spec_enter (n := 19) Tryz.func204 rfl rfl (rs := [.tmp 4]) rfl rfl rfl ?_
  intro H0 F0
  unfold g_slices_IndexFunc_int_int_iMethodfits1 at hF
  refine K_region (C_val (V_assign (v := (.int .i64 0)) (.int _ _)) ?_)
  refine C_nil (K_in (K_region (Cm v0_0.v rfl rfl ?_)))
  refine C_at .h (fun hp => V_lenR (l := a_s.length) sl22 (.tmp rfl rfl) (crd_len hp)) ?_
  refine C_val (V_move (v := (.int .i64 0)) (.int _ _)) ?_
  refine C_nil (CW_block (CW_loop (m := a_s.length) (fun m2 f' cs' => ∃ (g : Fr) (k4 : Nat) (rest5 : List Int), m2 = rest5.length ∧ f' = updL g [(0, v0_0.v), (1, (.func (.func 213) [].toArray [(.pointer (some ⟨kc1, 0, some 0⟩))].toArray)), (7, (.int .i64 (a_s.length : Int))), (8, (.int .i64 (k4 : Int)))] ∧ List.drop k4 a_s = rest5 ∧ Ent cs' [crd (RdS 3 rdInt) v0_0.v a_s, cboR kc1 3 (.int .i64 a_e1)] ∧ g_slices_IndexFunc_int_int_iMethodfits1_L1 a_e1 rest5 k4 = some R) ⟨_, 0, _, rfl, (EqL.cons rfl (EqL.cons rfl (EqL.cons rfl (EqL.cons rfl (EqL.nil))))).eq, rfl, (.sel (.rd .h rfl (.rd (.t .h) rfl .nil))), hF⟩ ?_))
  clear hF
  rintro m2 _ _ ⟨g3, k4, rest5, rfl, rfl, hd7, hE, hF⟩
  refine K_ent hE ?_
  clear hE
  refine K_pure (c := crd (RdS 3 rdInt) v0_0.v a_s) .h crd_bound (fun hbd12 => ?_)
  rcases rest5 with _ | ⟨x6, rest5⟩
  · have hk8 := List.drop_eq_nil_iff.1 hd7
    have hfe11 : (decide (((k4 : Int) : Int) < (a_s.length : Int))) = false := decide_eq_false (by omega)
    rw [g_slices_IndexFunc_int_int_iMethodfits1_L1] at hF
    refine K_region (C_val (V_lss (i := (k4 : Int)) (j := (a_s.length : Int)) (.tmp rfl rfl) (.tmp rfl rfl)) ?_)
    refine C_nil (K_in (CW_cond (b := (decide (((k4 : Int) : Int) < (a_s.length : Int)))) (.tmp rfl rfl) (fun hb => absurd (hfe11.symm.trans hb) (by decide)) (fun _ => ?_)))
    refine CW_exit ?_
    iterate 2 refine CThen_exit ?_
    refine CIn_self (K_region (C_val (V_assign (v := (.int .i64 (-1))) (.int _ _)) ?_))
    refine C_nil (CW_ret ?_)
    obtain rfl := Option.some.inj hF
    exact End_ret () (.tmp rfl rfl .nil) rfl (.sel .nil)
  obtain ⟨hk8, hx9, hd10⟩ := drop_cons hd7
  have hfe11 : (decide (((k4 : Int) : Int) < (a_s.length : Int))) = true := decide_eq_true (by omega)
  rw [g_slices_IndexFunc_int_int_iMethodfits1_L1] at hF
  refine K_region (C_val (V_lss (i := (k4 : Int)) (j := (a_s.length : Int)) (.tmp rfl rfl) (.tmp rfl rfl)) ?_)
  refine C_nil (K_in (CW_cond (b := (decide (((k4 : Int) : Int) < (a_s.length : Int)))) (.tmp rfl rfl) (fun _ => ?_) (fun hb => absurd (hfe11.symm.trans hb) (by decide))))
  refine CW_skip (K_block (K_region (Cm (.int .i64 (k4 : Int)) rfl rfl ?_)))
  refine Ca (.int .i64 (k4 : Int)) rfl rfl ?_
  refine C_nil (K_region (Cm (.func (.func 213) [].toArray [(.pointer (some ⟨kc1, 0, some 0⟩))].toArray) rfl rfl ?_))
  refine Cm v0_0.v rfl rfl ?_
  refine Cm (.int .i64 (k4 : Int)) rfl rfl ?_
  refine C_idx (a := x6) sl22 ty3.sz (.tmp rfl rfl) (.tmp rfl rfl) .h (Int.natCast_nonneg k4) hx9 (fun k13 j14 => ?_)
  refine C_ldS (w := (.int .i64 x6)) ag3 (.tmp rfl rfl) .h ls3_0 ?_
  obtain ⟨r15, hx16, hF⟩ := bind_some hF
  refine C_x0 (.rd (.t (.t .h)) rfl .nil) (X_callCS cf213 (.tmp rfl rfl) (.cons (.tmp rfl rfl) .nil) (i_Method_fits_1_ok x6 kc1 a_e1 _ hx16)) (fun _ => ?_)
  refine C_nil (CW_cond (b := r15) (.tmp rfl rfl) (fun hb19 => ?_) (fun hb19 => ?_))
  · rw [if_pos hb19] at hF
    refine K_region (Cm (.int .i64 (k4 : Int)) rfl rfl ?_)
    refine Ca (.int .i64 (k4 : Int)) rfl rfl ?_
    refine C_nil (CW_ret ?_)
    obtain rfl := Option.some.inj hF
    exact End_ret () (.tmp rfl rfl .nil) rfl (.sel .nil)
  rw [if_neg (by rw [hb19]; exact Bool.false_ne_true)] at hF
  refine CW_skip (CW_region (C_val (V_add (i := (k4 : Int)) (j := 1) (.tmp rfl rfl) (.int _ _)) ?_))
  refine Cm (.int .i64 (IntKind.i64.wrap ((k4 : Int) + 1))) rfl rfl ?_
  refine C_nil ?_
  have hw18 : IntKind.i64.wrap ((k4 : Int) + 1) = ((k4 + 1 : Nat) : Int) := by rw [wrap_in (by omega) (by omega)]; rfl
  rw [hw18]
  exact ⟨_, Nat.lt_succ_self _, _, k4 + 1, rest5, rfl, (EqL.cons rfl (EqL.cons rfl (EqL.cons rfl (EqL.cons rfl (EqL.nil))))).eq, hd10, (.sel (.rd (.t .h) rfl (.rd (.t (.t .h)) rfl .nil))), hF⟩

/-! slices.ContainsFunc[[]int,int] -/
def g_slices_ContainsFunc_int_int_iMethodfits1 (a_s : List Int) (a_e1 : Int) : Option (Bool) :=
  (g_slices_IndexFunc_int_int_iMethodfits1 a_s a_e1).bind fun r1 =>
  some (decide ((0 : Int) ≤ r1))
theorem g_slices_ContainsFunc_int_int_iMethodfits1_ok (a_s : List Int) (v0_0 : Sv) (kc1 : Nat) (a_e1 : Int) (R : Bool) (hF : g_slices_ContainsFunc_int_int_iMethodfits1 a_s a_e1 = some R) :
    Fw.Spec Tryz.prog 158 [v0_0.v, (.func (.func 213) [].toArray [(.pointer (some ⟨kc1, 0, some 0⟩))].toArray)] [crd (RdS 3 rdInt) v0_0.v a_s, cboR kc1 3 (.int .i64 a_e1)] (fun _ : Unit => (.bool R)) (fun _ => []) := by
  refine Spec_enter (n := 9) Tryz.func158 rfl rfl (rs := [.tmp 4]) rfl rfl rfl ?_
  intro H0 F0
  unfold g_slices_ContainsFunc_int_int_iMethodfits1 at hF
  refine K_region (C_val (V_assign (v := (.bool false)) (.bool _)) ?_)
  refine C_nil (K_region (Cm v0_0.v rfl rfl ?_))
  refine Cm (.func (.func 213) [].toArray [(.pointer (some ⟨kc1, 0, some 0⟩))].toArray) rfl rfl ?_
  obtain ⟨r1, hx2, hF⟩ := bind_some hF
  refine C_x0 (.rd .h rfl (.rd (.t .h) rfl .nil)) (X_callS cf204 (.cons (.tmp rfl rfl) (.cons (.tmp rfl rfl) .nil)) (g_slices_IndexFunc_int_int_iMethodfits1_ok a_s v0_0 kc1 a_e1 _ hx2)) (fun _ => ?_)
  refine C_val (V_geq (i := r1) (j := 0) (.tmp rfl rfl) (.int _ _)) ?_
  refine Ca (.bool (decide ((0 : Int) ≤ r1))) rfl rfl ?_
  refine C_nil (CW_ret ?_)
  obtain rfl := Option.some.inj hF
  exact End_ret () (.tmp rfl rfl .nil) rfl (.sel .nil)

/-! impl.isCost -/
def i_isCost (a_n : Int) : Option (Bool) :=
  (i_within a_n 0 99).bind fun r1 =>
  some r1
theorem i_isCost_ok (a_n : Int) (R : Bool) (hF : i_isCost a_n = some R) :
    Fw.Spec Tryz.prog 214 [(.int .i64 a_n)] [] (fun _ : Unit => (.bool R)) (fun _ => []) := by
  refine Spec_enter (n := 5) Tryz.func214 rfl rfl (rs := [.tmp 2]) rfl rfl rfl ?_
  intro H0 F0
  unfold i_isCost at hF
  refine K_region (C_val (V_assign (v := (.bool false)) (.bool _)) ?_)
  refine C_nil (K_region (Cm (.int .i64 a_n) rfl rfl ?_))
  obtain ⟨r1, hx2, hF⟩ := bind_some hF
  refine C_x0 .nil (X_callS cf111 (.cons (.tmp rfl rfl) (.cons (.int _ _) (.cons (.int _ _) .nil))) (i_within_ok a_n 0 99 _ hx2)) (fun _ => ?_)
  refine Ca (.bool r1) rfl rfl ?_
  refine C_nil (CW_ret ?_)
  obtain rfl := Option.some.inj hF
  exact End_ret () (.tmp rfl rfl .nil) rfl (.sel .nil)

/-! impl.Method).fits -/
def i_Method_fits (a_m : Method) (a_arity : Int) : Option (Bool) :=
  ((i_ascending a_m.Inputs).bind fun r5 =>
    bif r5 then ((g_slices_ContainsFunc_int_int_iMethodfits1 a_m.Inputs a_arity).bind fun r9 =>
      bif (!r9) then ((i_within a_m.Limit 0 9).bind fun r13 =>
        bif r13 then ((i_isCost a_m.Cost).bind fun r17 =>
          bif r17 then ((i_within a_m.Quota 1 99).bind fun r21 =>
            some r21)
          else (some false))
        else (some false))
      else (some false))
    else (some false)).bind fun o3 =>
  match o3 with
  | c24 => some c24
theorem i_Method_fits_ok (a_m : Method) (v0_1 : Sv) (a_arity : Int) (R : Bool) (hF : i_Method_fits a_m a_arity = some R) :
    Fw.Spec Tryz.prog 175 [(.agg [(.int .i64 a_m.Rel), v0_1.v, (.int .i64 a_m.Limit), (.int .i64 a_m.Cost), (.int .i64 a_m.Quota)].toArray), (.int .i64 a_arity)] [crd (RdS 3 rdInt) v0_1.v a_m.Inputs] (fun _ : Unit => (.bool R)) (fun _ => []) := by
  refine Spec_enter (n := 30) Tryz.func175 rfl rfl (rs := [.tmp 4]) rfl rfl rfl ?_
  intro H0 F0
  unfold i_Method_fits at hF
  refine K_region (C_newR rfl (N_box (g := false) (v := (.agg [(.int .i64 a_m.Rel), v0_1.v, (.int .i64 a_m.Limit), (.int .i64 a_m.Cost), (.int .i64 a_m.Quota)].toArray)) ty112.sz (.tmp rfl rfl) rfl) (fun k1 => ?_))
  refine C_newR rfl (N_box (g := false) (v := (.int .i64 a_arity)) ty3.sz (.tmp rfl rfl) rfl) (fun k2 => ?_)
  refine C_val (V_assign (v := (.bool false)) (.bool _)) ?_
  refine C_nil ?_
  obtain ⟨o3, hio3, hO4⟩ := bind_some hF
  refine K_region (C_cut (fun f' cs' => ∃ (c24 : Bool) (g : Fr), c24 = o3 ∧ f' = updL g [(4, (.bool c24))] ∧ Ent cs' []) ?_ ?_)
  · replace hF := hio3
    refine C_val (V_fieldAddr (off := 1) fd112_1 (.tmp rfl rfl)) ?_
    refine C_at (.t .h) (fun hp => V_load (v := v0_1.v) ag22 (.tmp rfl rfl) hp.2 rfl rfl) ?_
    obtain ⟨r5, hx6, hF⟩ := bind_some hF
    refine C_x0 (.rd (.t (.t .h)) rfl .nil) (X_callS cf212 (.cons (.tmp rfl rfl) .nil) (i_ascending_ok a_m.Inputs v0_1 _ hx6)) (fun _ => ?_)
    refine Cm (.bool r5) rfl rfl ?_
    rcases Bool.eq_false_or_eq_true r5 with hg8 | hg8
    · rw [hg8]
      try rw [hg8] at hF; dsimp only [cond_true, cond_false] at hF
      refine C_on (t := 8) rfl rfl rfl ?_
      refine C_val (V_fieldAddr (off := 1) fd112_1 (.tmp rfl rfl)) ?_
      refine C_on (t := 8) rfl rfl rfl ?_
      refine C_at (.t .h) (fun hp => V_load (v := v0_1.v) ag22 (.tmp rfl rfl) hp.2 rfl rfl) ?_
      refine C_on (t := 8) rfl rfl rfl ?_
      refine C_val (V_makeFunc (fn := .func 213) (vs := []) (us := [(.pointer (some ⟨k2, 0, some 0⟩))]) .nil (.cons (.tmp rfl rfl) .nil)) ?_
      refine C_on (t := 8) rfl rfl rfl ?_
      obtain ⟨r9, hx10, hF⟩ := bind_some hF
      refine C_x0 (.rd (.t (.t .h)) rfl (.rd .h rfl .nil)) (X_callS cf158 (.cons (.tmp rfl rfl) (.cons (.tmp rfl rfl) .nil)) (g_slices_ContainsFunc_int_int_iMethodfits1_ok a_m.Inputs v0_1 k2 a_arity _ hx10)) (fun _ => ?_)
      refine C_on (t := 8) rfl rfl rfl ?_
      refine C_val (V_not (b := r9) (.tmp rfl rfl)) ?_
      refine C_val (V_pick (b := true) (u := (.bool (!r9))) (v := (.bool false)) (.tmp rfl rfl) (.tmp rfl rfl) (.bool _)) ?_
      refine Cm (.bool (!r9)) rfl rfl ?_
      rcases Bool.eq_false_or_eq_true (!r9) with hg12 | hg12
      · rw [hg12]
        try rw [hg12] at hF; dsimp only [cond_true, cond_false] at hF
        refine C_on (t := 15) rfl rfl rfl ?_
        refine C_val (V_fieldAddr (off := 2) fd112_2 (.tmp rfl rfl)) ?_
        refine C_on (t := 15) rfl rfl rfl ?_
        refine C_at (.t .h) (fun hp => V_load (v := (.int .i64 a_m.Limit)) ag3 (.tmp rfl rfl) hp.2 rfl rfl) ?_
        refine C_on (t := 15) rfl rfl rfl ?_
        obtain ⟨r13, hx14, hF⟩ := bind_some hF
        refine C_x0 .nil (X_callS cf111 (.cons (.tmp rfl rfl) (.cons (.int _ _) (.cons (.int _ _) .nil))) (i_within_ok a_m.Limit 0 9 _ hx14)) (fun _ => ?_)
        refine C_val (V_pick (b := true) (u := (.bool r13)) (v := (.bool false)) (.tmp rfl rfl) (.tmp rfl rfl) (.bool _)) ?_
        refine Cm (.bool r13) rfl rfl ?_
        rcases Bool.eq_false_or_eq_true r13 with hg16 | hg16
        · rw [hg16]
          try rw [hg16] at hF; dsimp only [cond_true, cond_false] at hF
          refine C_on (t := 20) rfl rfl rfl ?_
          refine C_val (V_fieldAddr (off := 3) fd112_3 (.tmp rfl rfl)) ?_
          refine C_on (t := 20) rfl rfl rfl ?_
          refine C_at (.t .h) (fun hp => V_load (v := (.int .i64 a_m.Cost)) ag3 (.tmp rfl rfl) hp.2 rfl rfl) ?_
          refine C_on (t := 20) rfl rfl rfl ?_
          obtain ⟨r17, hx18, hF⟩ := bind_some hF
          refine C_x0 .nil (X_callS cf214 (.cons (.tmp rfl rfl) .nil) (i_isCost_ok a_m.Cost _ hx18)) (fun _ => ?_)
          refine C_val (V_pick (b := true) (u := (.bool r17)) (v := (.bool false)) (.tmp rfl rfl) (.tmp rfl rfl) (.bool _)) ?_
          refine Cm (.bool r17) rfl rfl ?_
          rcases Bool.eq_false_or_eq_true r17 with hg20 | hg20
          · rw [hg20]
            try rw [hg20] at hF; dsimp only [cond_true, cond_false] at hF
            refine C_on (t := 25) rfl rfl rfl ?_
            refine C_val (V_fieldAddr (off := 4) fd112_4 (.tmp rfl rfl)) ?_
            refine C_on (t := 25) rfl rfl rfl ?_
            refine C_at (.t .h) (fun hp => V_load (v := (.int .i64 a_m.Quota)) ag3 (.tmp rfl rfl) hp.2 rfl rfl) ?_
            refine C_on (t := 25) rfl rfl rfl ?_
            obtain ⟨r21, hx22, hF⟩ := bind_some hF
            refine C_x0 .nil (X_callS cf111 (.cons (.tmp rfl rfl) (.cons (.int _ _) (.cons (.int _ _) .nil))) (i_within_ok a_m.Quota 1 99 _ hx22)) (fun _ => ?_)
            refine C_val (V_pick (b := true) (u := (.bool r21)) (v := (.bool false)) (.tmp rfl rfl) (.tmp rfl rfl) (.bool _)) ?_
            refine Ca (.bool r21) rfl rfl ?_
            refine C_nil ?_
            obtain rfl := Option.some.inj hF
            exact ⟨_, _, rfl, (EqL.cons rfl (EqL.nil)).eq, (.sel .nil)⟩
          rw [hg20]
          try rw [hg20] at hF; dsimp only [cond_true, cond_false] at hF
          iterate 3 refine C_off (t := 25) rfl rfl rfl ?_
          refine C_val (V_pick (b := false) (u := undef) (v := (.bool false)) (.tmp rfl rfl) (.tmp rfl rfl) (.bool _)) ?_
          refine Ca (.bool false) rfl rfl ?_
          refine C_nil ?_
          obtain rfl := Option.some.inj hF
          exact ⟨_, _, rfl, (EqL.cons rfl (EqL.nil)).eq, (.sel .nil)⟩
        rw [hg16]
        try rw [hg16] at hF; dsimp only [cond_true, cond_false] at hF
        iterate 3 refine C_off (t := 20) rfl rfl rfl ?_
        refine C_val (V_pick (b := false) (u := undef) (v := (.bool false)) (.tmp rfl rfl) (.tmp rfl rfl) (.bool _)) ?_
        refine Cm (.bool false) rfl rfl ?_
        iterate 3 refine C_off (t := 25) rfl rfl rfl ?_
        refine C_val (V_pick (b := false) (u := undef) (v := (.bool false)) (.tmp rfl rfl) (.tmp rfl rfl) (.bool _)) ?_
        refine Ca (.bool false) rfl rfl ?_
        refine C_nil ?_
        obtain rfl := Option.some.inj hF
        exact ⟨_, _, rfl, (EqL.cons rfl (EqL.nil)).eq, (.sel .nil)⟩
      rw [hg12]
      try rw [hg12] at hF; dsimp only [cond_true, cond_false] at hF
      iterate 3 refine C_off (t := 15) rfl rfl rfl ?_
      refine C_val (V_pick (b := false) (u := undef) (v := (.bool false)) (.tmp rfl rfl) (.tmp rfl rfl) (.bool _)) ?_
      refine Cm (.bool false) rfl rfl ?_
      iterate 3 refine C_off (t := 20) rfl rfl rfl ?_
      refine C_val (V_pick (b := false) (u := undef) (v := (.bool false)) (.tmp rfl rfl) (.tmp rfl rfl) (.bool _)) ?_
      refine Cm (.bool false) rfl rfl ?_
      iterate 3 refine C_off (t := 25) rfl rfl rfl ?_
      refine C_val (V_pick (b := false) (u := undef) (v := (.bool false)) (.tmp rfl rfl) (.tmp rfl rfl) (.bool _)) ?_
      refine Ca (.bool false) rfl rfl ?_
      refine C_nil ?_
      obtain rfl := Option.some.inj hF
      exact ⟨_, _, rfl, (EqL.cons rfl (EqL.nil)).eq, (.sel .nil)⟩
    rw [hg8]
    try rw [hg8] at hF; dsimp only [cond_true, cond_false] at hF
    iterate 5 refine C_off (t := 8) rfl rfl rfl ?_
    refine C_val (V_pick (b := false) (u := undef) (v := (.bool false)) (.tmp rfl rfl) (.tmp rfl rfl) (.bool _)) ?_
    refine Cm (.bool false) rfl rfl ?_
    iterate 3 refine C_off (t := 15) rfl rfl rfl ?_
    refine C_val (V_pick (b := false) (u := undef) (v := (.bool false)) (.tmp rfl rfl) (.tmp rfl rfl) (.bool _)) ?_
    refine Cm (.bool false) rfl rfl ?_
    iterate 3 refine C_off (t := 20) rfl rfl rfl ?_
    refine C_val (V_pick (b := false) (u := undef) (v := (.bool false)) (.tmp rfl rfl) (.tmp rfl rfl) (.bool _)) ?_
    refine Cm (.bool false) rfl rfl ?_
    iterate 3 refine C_off (t := 25) rfl rfl rfl ?_
    refine C_val (V_pick (b := false) (u := undef) (v := (.bool false)) (.tmp rfl rfl) (.tmp rfl rfl) (.bool _)) ?_
    refine Ca (.bool false) rfl rfl ?_
    refine C_nil ?_
    obtain rfl := Option.some.inj hF
    exact ⟨_, _, rfl, (EqL.cons rfl (EqL.nil)).eq, (.sel .nil)⟩
  rintro _ _ ⟨c24, g25, rfl, rfl, hE⟩
  replace hF := hO4
  clear hO4
  try dsimp only at hF
  refine K_ent hE ?_
  refine CW_ret ?_
  obtain rfl := Option.some.inj hF
  exact End_ret () (.tmp rfl rfl .nil) rfl (.sel .nil)

/-! impl.IsMethod -/
def i_IsMethod (a_s : List Int) (a_m : Method) : Option (Bool) :=
  ((i_hasRel a_s a_m.Rel).bind fun r4 =>
    bif r4 then ((ix a_s a_m.Rel).bind fun x8 =>
      (i_Method_fits a_m x8).bind fun r14 =>
      some r14)
    else (some false)).bind fun o2 =>
  match o2 with
  | c17 => some c17
theorem i_IsMethod_ok (a_s : List Int) (v0_0 : Sv) (a_m : Method) (v1_1 : Sv) (R : Bool) (hF : i_IsMethod a_s a_m = some R) :
    Fw.Spec Tryz.prog 131 [v0_0.v, (.agg [(.int .i64 a_m.Rel), v1_1.v, (.int .i64 a_m.Limit), (.int .i64 a_m.Cost), (.int .i64 a_m.Quota)].toArray)] [crd (RdS 3 rdInt) v0_0.v a_s, crd (RdS 3 rdInt) v1_1.v a_m.Inputs] (fun _ : Unit => (.bool R)) (fun _ => []) := by
  refine Spec_enter (n := 18) Tryz.func131 rfl rfl (rs := [.tmp 4]) rfl rfl rfl ?_
  intro H0 F0
  unfold i_IsMethod at hF
  refine K_region (C_newR rfl (N_box (g := false) (v := (.agg [(.int .i64 a_m.Rel), v1_1.v, (.int .i64 a_m.Limit), (.int .i64 a_m.Cost), (.int .i64 a_m.Quota)].toArray)) ty112.sz (.tmp rfl rfl) rfl) (fun k1 => ?_))
  refine C_val (V_assign (v := (.bool false)) (.bool _)) ?_
  refine C_nil ?_
  obtain ⟨o2, hio2, hO3⟩ := bind_some hF
  refine K_draw [0, 1, 2, 3, 4, 5, 6, 7, 8, 9, 10, 11, 12, 13] [0, 0, 2, 7, 15, 31, 31, 31, 159, 479, 991, 2047, 4095, 8191] [3, 11] mixed (by decide +kernel) ?_
  refine D_cut (fun f' cs' => ∃ (c17 : Bool) (g : Fr), c17 = o2 ∧ f' = updL g [(4, (.bool c17))] ∧ Ent cs' []) ?_ ?_
  · replace hF := hio2
    refine Dm v0_0.v rfl rfl rfl rfl ?_
    refine D_val rfl .no (fun ha => V_fieldAddr (off := 0) fd112_0 (EN ha (.tmp rfl rfl) rfl)) ?_
    refine D_at rfl .no .h rfl (fun ha hp => V_load (v := (.int .i64 a_m.Rel)) ag3 (EN ha (.tmp rfl rfl) rfl) hp.2 rfl rfl) ?_
    obtain ⟨r4, hx5, hF⟩ := bind_some hF
    refine D_act0 rfl rfl .no (.rd (.t .h) rfl .nil) .nil (fun ha => X_callS cf174 (.cons (EN ha (.tmp rfl rfl) rfl) (.cons (EN ha (.tmp rfl rfl) rfl) .nil)) (i_hasRel_ok a_s v0_0 a_m.Rel _ hx5)) (fun _ => ?_)
    refine Dm (.bool r4) rfl rfl rfl rfl ?_
    rcases Bool.eq_false_or_eq_true r4 with hg7 | hg7
    · rw [hg7]
      try rw [hg7] at hF; dsimp only [cond_true, cond_false] at hF
      refine D_at rfl (.on 9 rfl rfl rfl) .h rfl (fun ha hp => V_loadBox ag112 ty112.sz rfl (EN ha (.tmp rfl rfl) rfl) hp.2 rfl) ?_
      refine D_val rfl (.on 9 rfl rfl rfl) (fun ha => V_move (v := v0_0.v) (EN ha (.tmp rfl rfl) rfl)) ?_
      refine D_val rfl (.on 9 rfl rfl rfl) (fun ha => V_fieldAddr (off := 0) fd112_0 (EN ha (.tmp rfl rfl) rfl)) ?_
      refine D_at rfl (.on 9 rfl rfl rfl) .h rfl (fun ha hp => V_load (v := (.int .i64 a_m.Rel)) ag3 (EN ha (.tmp rfl rfl) rfl) hp.2 rfl rfl) ?_
      obtain ⟨x8, hx9, hF⟩ := bind_some hF
      obtain ⟨hp10, hx11⟩ := ix_some hx9
      refine D_idx (a := x8) sl22 ty3.sz rfl (.on 9 rfl rfl rfl) (.tmp rfl rfl) (.tmp rfl rfl) rfl rfl (.t .h) hp10 hx11 (fun k12 j13 => ?_)
      refine D_ldS (w := (.int .i64 x8)) ag3 rfl (.on 9 rfl rfl rfl) (.tmp rfl rfl) rfl .h ls3_0 ?_
      obtain ⟨r14, hx15, hF⟩ := bind_some hF
      refine D_act0 rfl rfl (.on 9 rfl rfl rfl) (.rd (.t (.t (.t .h))) rfl .nil) .nil (fun ha => X_callS cf175 (.cons (EN ha (.tmp rfl rfl) rfl) (.cons (EN ha (.tmp rfl rfl) rfl) .nil)) (i_Method_fits_ok a_m v1_1 x8 _ hx15)) (fun _ => ?_)
      refine D_val rfl .no (fun ha => V_pick (b := true) (u := (.bool r14)) (v := (.bool false)) (EN ha (.tmp rfl rfl) rfl) (EN ha (.tmp rfl rfl) rfl) (EN ha (.bool _) rfl)) ?_
      refine Da (.bool r14) rfl rfl rfl rfl ?_
      refine D_nil ?_
      obtain rfl := Option.some.inj hF
      exact ⟨_, _, rfl, (EqL.cons rfl (EqL.nil)).eq, (.sel .nil)⟩
    rw [hg7]
    try rw [hg7] at hF; dsimp only [cond_true, cond_false] at hF
    iterate 7 refine D_off 9 rfl rfl rfl rfl ?_
    refine D_val rfl .no (fun ha => V_pick (b := false) (u := undef) (v := (.bool false)) (EN ha (.tmp rfl rfl) rfl) (EN ha (.tmp rfl rfl) rfl) (EN ha (.bool _) rfl)) ?_
    refine Da (.bool false) rfl rfl rfl rfl ?_
    refine D_nil ?_
    obtain rfl := Option.some.inj hF
    exact ⟨_, _, rfl, (EqL.cons rfl (EqL.nil)).eq, (.sel .nil)⟩
  rintro _ _ ⟨c17, g18, rfl, rfl, hE⟩
  replace hF := hO3
  clear hO3
  try dsimp only at hF
  refine K_ent hE ?_
  refine CW_ret ?_
  obtain rfl := Option.some.inj hF
  exact End_ret () (.tmp rfl rfl .nil) rfl (.sel .nil)

/-! impl.AreMethods$1 -/
def i_AreMethods_1 (a_m : Method) (a_e1 : List Int) : Option (Bool) :=
  (i_IsMethod a_e1 a_m).bind fun r2 =>
  some (!r2)
theorem i_AreMethods_1_ok (a_m : Method) (v0_1 : Sv) (kc1 : Nat) (a_e1 : List Int) (vc1_0 : Sv) (R : Bool) (hF : i_AreMethods_1 a_m a_e1 = some R) :
    Fw.Spec Tryz.prog 130 [(.agg [(.int .i64 a_m.Rel), v0_1.v, (.int .i64 a_m.Limit), (.int .i64 a_m.Cost), (.int .i64 a_m.Quota)].toArray), (.pointer (some ⟨kc1, 0, some 0⟩))] [crd (RdS 3 rdInt) v0_1.v a_m.Inputs, cboR kc1 22 vc1_0.v, crd (RdS 3 rdInt) vc1_0.v a_e1] (fun _ : Unit => (.bool R)) (fun _ => []) := by
  refine Spec_enter (n := 8) Tryz.func130 rfl rfl (rs := [.tmp 3]) rfl rfl rfl ?_
  intro H0 F0
  unfold i_AreMethods_1 at hF
  refine K_region (C_newR rfl (N_box (g := false) (v := (.agg [(.int .i64 a_m.Rel), v0_1.v, (.int .i64 a_m.Limit), (.int .i64 a_m.Cost), (.int .i64 a_m.Quota)].toArray)) ty112.sz (.tmp rfl rfl) rfl) (fun k1 => ?_))
  refine C_val (V_assign (v := (.bool false)) (.bool _)) ?_
  refine C_nil (K_region (C_at (.t (.t .h)) (fun hp => V_load (v := vc1_0.v) ag22 (.tmp rfl rfl) hp.2 rfl rfl) ?_))
  refine C_at .h (fun hp => V_loadBox ag112 ty112.sz rfl (.tmp rfl rfl) hp.2 rfl) ?_
  obtain ⟨r2, hx3, hF⟩ := bind_some hF
  refine C_x0 (.rd (.t (.t (.t .h))) rfl (.rd (.t .h) rfl .nil)) (X_callS cf131 (.cons (.tmp rfl rfl) (.cons (.tmp rfl rfl) .nil)) (i_IsMethod_ok a_e1 vc1_0 a_m v0_1 _ hx3)) (fun _ => ?_)
  refine C_val (V_not (b := r2) (.tmp rfl rfl)) ?_
  refine Ca (.bool (!r2)) rfl rfl ?_
  refine C_nil (CW_ret ?_)
  obtain rfl := Option.some.inj hF
  exact End_ret () (.tmp rfl rfl .nil) rfl (.sel .nil)

/-! impl.Method] -/
def g_slices_IndexFunc_impl_Method_impl_Method_iAreMethods1_L1 (a_e1 : List Int) : List Method → Nat → Option (Int)
  | [], k4 => some (-1)
  | x6 :: rest5, k4 => (i_AreMethods_1 x6 a_e1).bind fun r16 =>
    if r16 then (
      some (k4 : Int))
    else (
      g_slices_IndexFunc_impl_Method_impl_Method_iAreMethods1_L1 a_e1 rest5 (k4 + 1))
def g_slices_IndexFunc_impl_Method_impl_Method_iAreMethods1 (a_s : List Method) (a_e1 : List Int) : Option (Int) :=
  g_slices_IndexFunc_impl_Method_impl_Method_iAreMethods1_L1 a_e1 a_s 0
theorem g_slices_IndexFunc_impl_Method_impl_Method_iAreMethods1_ok (a_s : List Method) (v0_0 : Sv) (kc1 : Nat) (a_e1 : List Int) (vc1_0 : Sv) (R : Int) (hF : g_slices_IndexFunc_impl_Method_impl_Method_iAreMethods1 a_s a_e1 = some R) :
    Fw.Spec Tryz.prog 173 [v0_0.v, (.func (.func 130) [].toArray [(.pointer (some ⟨kc1, 0, some 0⟩))].toArray)] [crd (RdS 112 rd112) v0_0.v a_s, cboR kc1 22 vc1_0.v, crd (RdS 3 rdInt) vc1_0.v a_e1] (fun _ : Unit => (.int .i64 R)) (fun _ => []) := by
  refine Spec_enter (n := 19) Tryz.func173 rfl rfl (rs := [.tmp 4]) rfl rfl rfl ?_
  intro H0 F0
  unfold g_slices_IndexFunc_impl_Method_impl_Method_iAreMethods1 at hF
  refine K_region (C_val (V_assign (v := (.int .i64 0)) (.int _ _)) ?_)
  refine C_nil (K_in (K_region (Cm v0_0.v rfl rfl ?_)))
  refine C_at .h (fun hp => V_lenR (l := a_s.length) sl38 (.tmp rfl rfl) (crd_len hp)) ?_
  refine C_val (V_move (v := (.int .i64 0)) (.int _ _)) ?_
  refine C_nil (CW_block (CW_loop (m := a_s.length) (fun m2 f' cs' => ∃ (g : Fr) (k4 : Nat) (rest5 : List Method), m2 = rest5.length ∧ f' = updL g [(0, v0_0.v), (1, (.func (.func 130) [].toArray [(.pointer (some ⟨kc1, 0, some 0⟩))].toArray)), (7, (.int .i64 (a_s.length : Int))), (8, (.int .i64 (k4 : Int)))] ∧ List.drop k4 a_s = rest5 ∧ Ent cs' [crd (RdS 112 rd112) v0_0.v a_s, cboR kc1 22 vc1_0.v, crd (RdS 3 rdInt) vc1_0.v a_e1] ∧ g_slices_IndexFunc_impl_Method_impl_Method_iAreMethods1_L1 a_e1 rest5 k4 = some R) ⟨_, 0, _, rfl, (EqL.cons rfl (EqL.cons rfl (EqL.cons rfl (EqL.cons rfl (EqL.nil))))).eq, rfl, (.sel (.rd .h rfl (.rd (.t .h) rfl (.rd (.t (.t .h)) rfl .nil)))), hF⟩ ?_))
  clear hF
  rintro m2 _ _ ⟨g3, k4, rest5, rfl, rfl, hd7, hE, hF⟩
  refine K_ent hE ?_
  clear hE
  refine K_pure (c := crd (RdS 112 rd112) v0_0.v a_s) .h crd_bound (fun hbd12 => ?_)
  rcases rest5 with _ | ⟨x6, rest5⟩
  · have hk8 := List.drop_eq_nil_iff.1 hd7
    have hfe11 : (decide (((k4 : Int) : Int) < (a_s.length : Int))) = false := decide_eq_false (by omega)
    rw [g_slices_IndexFunc_impl_Method_impl_Method_iAreMethods1_L1] at hF
    refine K_region (C_val (V_lss (i := (k4 : Int)) (j := (a_s.length : Int)) (.tmp rfl rfl) (.tmp rfl rfl)) ?_)
    refine C_nil (K_in (CW_cond (b := (decide (((k4 : Int) : Int) < (a_s.length : Int)))) (.tmp rfl rfl) (fun hb => absurd (hfe11.symm.trans hb) (by decide)) (fun _ => ?_)))
    refine CW_exit ?_
    iterate 2 refine CThen_exit ?_
    refine CIn_self (K_region (C_val (V_assign (v := (.int .i64 (-1))) (.int _ _)) ?_))
    refine C_nil (CW_ret ?_)
    obtain rfl := Option.some.inj hF
    exact End_ret () (.tmp rfl rfl .nil) rfl (.sel .nil)
  obtain ⟨hk8, hx9, hd10⟩ := drop_cons hd7
  have hfe11 : (decide (((k4 : Int) : Int) < (a_s.length : Int))) = true := decide_eq_true (by omega)
  rw [g_slices_IndexFunc_impl_Method_impl_Method_iAreMethods1_L1] at hF
  refine K_region (C_val (V_lss (i := (k4 : Int)) (j := (a_s.length : Int)) (.tmp rfl rfl) (.tmp rfl rfl)) ?_)
  refine C_nil (K_in (CW_cond (b := (decide (((k4 : Int) : Int) < (a_s.length : Int)))) (.tmp rfl rfl) (fun _ => ?_) (fun hb => absurd (hfe11.symm.trans hb) (by decide))))
  refine CW_skip (K_block (K_region (Cm (.int .i64 (k4 : Int)) rfl rfl ?_)))
  refine Ca (.int .i64 (k4 : Int)) rfl rfl ?_
  refine C_nil (K_region (Cm (.func (.func 130) [].toArray [(.pointer (some ⟨kc1, 0, some 0⟩))].toArray) rfl rfl ?_))
  refine Cm v0_0.v rfl rfl ?_
  refine Cm (.int .i64 (k4 : Int)) rfl rfl ?_
  refine C_idx (a := x6) sl38 ty112.sz (.tmp rfl rfl) (.tmp rfl rfl) .h (Int.natCast_nonneg k4) hx9 (fun k13 j14 => ?_)
  refine C_ldA1 (ul112_0_112 x6) ag112 ty112.sz rfl (.tmp rfl rfl) .h la112_0_112 (fun p15 => ?_)
  obtain ⟨r16, hx17, hF⟩ := bind_some hF
  refine C_x0 (.rd .h rfl (.rd (.t (.t (.t .h))) rfl (.rd (.t (.t (.t (.t .h)))) rfl .nil))) (X_callCS cf130 (.tmp rfl rfl) (.cons (.tmp rfl rfl) .nil) (i_AreMethods_1_ok x6 p15 kc1 a_e1 vc1_0 _ hx17)) (fun _ => ?_)
  refine C_nil (CW_cond (b := r16) (.tmp rfl rfl) (fun hb20 => ?_) (fun hb20 => ?_))
  · rw [if_pos hb20] at hF
    refine K_region (Cm (.int .i64 (k4 : Int)) rfl rfl ?_)
    refine Ca (.int .i64 (k4 : Int)) rfl rfl ?_
    refine C_nil (CW_ret ?_)
    obtain rfl := Option.some.inj hF
    exact End_ret () (.tmp rfl rfl .nil) rfl (.sel .nil)
  rw [if_neg (by rw [hb20]; exact Bool.false_ne_true)] at hF
  refine CW_skip (CW_region (C_val (V_add (i := (k4 : Int)) (j := 1) (.tmp rfl rfl) (.int _ _)) ?_))
  refine Cm (.int .i64 (IntKind.i64.wrap ((k4 : Int) + 1))) rfl rfl ?_
  refine C_nil ?_
  have hw19 : IntKind.i64.wrap ((k4 : Int) + 1) = ((k4 + 1 : Nat) : Int) := by rw [wrap_in (by omega) (by omega)]; rfl
  rw [hw19]
  exact ⟨_, Nat.lt_succ_self _, _, k4 + 1, rest5, rfl, (EqL.cons rfl (EqL.cons rfl (EqL.cons rfl (EqL.cons rfl (EqL.nil))))).eq, hd10, (.sel (.rd (.t (.t .h)) rfl (.rd (.t (.t (.t .h))) rfl (.rd (.t (.t (.t (.t .h)))) rfl .nil)))), hF⟩

/-! impl.Method] -/
def g_slices_ContainsFunc_impl_Method_impl_Method_iAreMethods1 (a_s : List Method) (a_e1 : List Int) : Option (Bool) :=
  (g_slices_IndexFunc_impl_Method_impl_Method_iAreMethods1 a_s a_e1).bind fun r1 =>
  some (decide ((0 : Int) ≤ r1))
theorem g_slices_ContainsFunc_impl_Method_impl_Method_iAreMethods1_ok (a_s : List Method) (v0_0 : Sv) (kc1 : Nat) (a_e1 : List Int) (vc1_0 : Sv) (R : Bool) (hF : g_slices_ContainsFunc_impl_Method_impl_Method_iAreMethods1 a_s a_e1 = some R) :
    Fw.Spec Tryz.prog 129 [v0_0.v, (.func (.func 130) [].toArray [(.pointer (some ⟨kc1, 0, some 0⟩))].toArray)] [crd (RdS 112 rd112) v0_0.v a_s, cboR kc1 22 vc1_0.v, crd (RdS 3 rdInt) vc1_0.v a_e1] (fun _ : Unit => (.bool R)) (fun _ => []) := by
  refine Spec_enter (n := 9) Tryz.func129 rfl rfl (rs := [.tmp 4]) rfl rfl rfl ?_
  intro H0 F0
  unfold g_slices_ContainsFunc_impl_Method_impl_Method_iAreMethods1 at hF
  refine K_region (C_val (V_assign (v := (.bool false)) (.bool _)) ?_)
  refine C_nil (K_region (Cm v0_0.v rfl rfl ?_))
  refine Cm (.func (.func 130) [].toArray [(.pointer (some ⟨kc1, 0, some 0⟩))].toArray) rfl rfl ?_
  obtain ⟨r1, hx2, hF⟩ := bind_some hF
  refine C_x0 (.rd .h rfl (.rd (.t .h) rfl (.rd (.t (.t .h)) rfl .nil))) (X_callS cf173 (.cons (.tmp rfl rfl) (.cons (.tmp rfl rfl) .nil)) (g_slices_IndexFunc_impl_Method_impl_Method_iAreMethods1_ok a_s v0_0 kc1 a_e1 vc1_0 _ hx2)) (fun _ => ?_)
  refine C_val (V_geq (i := r1) (j := 0) (.tmp rfl rfl) (.int _ _)) ?_
  refine Ca (.bool (decide ((0 : Int) ≤ r1))) rfl rfl ?_
  refine C_nil (CW_ret ?_)
  obtain rfl := Option.some.inj hF
  exact End_ret () (.tmp rfl rfl .nil) rfl (.sel .nil)

/-! impl.AreMethods -/
def i_AreMethods (a_s : List Int) (a_l : List Method) : Option (Bool) :=
  ((i_IsSchema a_s).bind fun r4 =>
    bif r4 then (bif (decide (((a_l.length : Int) : Int) ≤ 5)) then ((g_slices_ContainsFunc_impl_Method_impl_Method_iAreMethods1 a_l a_s).bind fun r9 =>
        some (!r9))
      else (some false))
    else (some false)).bind fun o2 =>
  match o2 with
  | c12 => some c12
theorem i_AreMethods_ok (a_s : List Int) (v0_0 : Sv) (a_l : List Method) (v1_0 : Sv) (R : Bool) (hF : i_AreMethods a_s a_l = some R) :
    Fw.Spec Tryz.prog 69 [v0_0.v, v1_0.v] [crd (RdS 3 rdInt) v0_0.v a_s, crd (RdS 112 rd112) v1_0.v a_l] (fun _ : Unit => (.bool R)) (fun _ => []) := by
  refine Spec_enter (n := 18) Tryz.func69 rfl rfl (rs := [.tmp 4]) rfl rfl rfl ?_
  intro H0 F0
  unfold i_AreMethods at hF
  refine K_region (C_newR rfl (N_box (g := false) (v := v0_0.v) ty22.sz (.tmp rfl rfl) rfl) (fun k1 => ?_))
  refine C_val (V_assign (v := (.bool false)) (.bool _)) ?_
  refine C_nil ?_
  obtain ⟨o2, hio2, hO3⟩ := bind_some hF
  refine K_region (C_cut (fun f' cs' => ∃ (c12 : Bool) (g : Fr), c12 = o2 ∧ f' = updL g [(4, (.bool c12))] ∧ Ent cs' []) ?_ ?_)
  · replace hF := hio2
    refine C_at .h (fun hp => V_load (v := v0_0.v) ag22 (.tmp rfl rfl) hp.2 rfl rfl) ?_
    obtain ⟨r4, hx5, hF⟩ := bind_some hF
    refine C_x0 (.rd (.t .h) rfl .nil) (X_callS cf128 (.cons (.tmp rfl rfl) .nil) (i_IsSchema_ok a_s v0_0 _ hx5)) (fun _ => ?_)
    refine Cm (.bool r4) rfl rfl ?_
    rcases Bool.eq_false_or_eq_true r4 with hg7 | hg7
    · rw [hg7]
      try rw [hg7] at hF; dsimp only [cond_true, cond_false] at hF
      refine C_on (t := 7) rfl rfl rfl ?_
      refine Cm v1_0.v rfl rfl ?_
      refine C_on (t := 7) rfl rfl rfl ?_
      refine C_at (.t (.t .h)) (fun hp => V_lenR (l := a_l.length) sl38 (.tmp rfl rfl) (crd_len hp)) ?_
      refine C_on (t := 7) rfl rfl rfl ?_
      refine C_val (V_leq (i := (a_l.length : Int)) (j := 5) (.tmp rfl rfl) (.int _ _)) ?_
      refine C_val (V_pick (b := true) (u := (.bool (decide (((a_l.length : Int) : Int) ≤ 5)))) (v := (.bool false)) (.tmp rfl rfl) (.tmp rfl rfl) (.bool _)) ?_
      refine Cm (.bool (decide (((a_l.length : Int) : Int) ≤ 5))) rfl rfl ?_
      rcases Bool.eq_false_or_eq_true (decide (((a_l.length : Int) : Int) ≤ 5)) with hg8 | hg8
      · rw [hg8]
        try rw [hg8] at hF; dsimp only [cond_true, cond_false] at hF
        refine C_on (t := 12) rfl rfl rfl ?_
        refine Cm v1_0.v rfl rfl ?_
        refine C_on (t := 12) rfl rfl rfl ?_
        refine C_val (V_makeFunc (fn := .func 130) (vs := []) (us := [(.pointer (some ⟨k1, 0, some 0⟩))]) .nil (.cons (.tmp rfl rfl) .nil)) ?_
        refine C_on (t := 12) rfl rfl rfl ?_
        obtain ⟨r9, hx10, hF⟩ := bind_some hF
        refine C_x0 (.rd (.t (.t .h)) rfl (.rd .h rfl (.rd (.t .h) rfl .nil))) (X_callS cf129 (.cons (.tmp rfl rfl) (.cons (.tmp rfl rfl) .nil)) (g_slices_ContainsFunc_impl_Method_impl_Method_iAreMethods1_ok a_l v1_0 k1 a_s v0_0 _ hx10)) (fun _ => ?_)
        refine C_on (t := 12) rfl rfl rfl ?_
        refine C_val (V_not (b := r9) (.tmp rfl rfl)) ?_
        refine C_val (V_pick (b := true) (u := (.bool (!r9))) (v := (.bool false)) (.tmp rfl rfl) (.tmp rfl rfl) (.bool _)) ?_
        refine Ca (.bool (!r9)) rfl rfl ?_
        refine C_nil ?_
        obtain rfl := Option.some.inj hF
        exact ⟨_, _, rfl, (EqL.cons rfl (EqL.nil)).eq, (.sel .nil)⟩
      rw [hg8]
      try rw [hg8] at hF; dsimp only [cond_true, cond_false] at hF
      iterate 4 refine C_off (t := 12) rfl rfl rfl ?_
      refine C_val (V_pick (b := false) (u := undef) (v := (.bool false)) (.tmp rfl rfl) (.tmp rfl rfl) (.bool _)) ?_
      refine Ca (.bool false) rfl rfl ?_
      refine C_nil ?_
      obtain rfl := Option.some.inj hF
      exact ⟨_, _, rfl, (EqL.cons rfl (EqL.nil)).eq, (.sel .nil)⟩
    rw [hg7]
    try rw [hg7] at hF; dsimp only [cond_true, cond_false] at hF
    iterate 3 refine C_off (t := 7) rfl rfl rfl ?_
    refine C_val (V_pick (b := false) (u := undef) (v := (.bool false)) (.tmp rfl rfl) (.tmp rfl rfl) (.bool _)) ?_
    refine Cm (.bool false) rfl rfl ?_
    iterate 4 refine C_off (t := 12) rfl rfl rfl ?_
    refine C_val (V_pick (b := false) (u := undef) (v := (.bool false)) (.tmp rfl rfl) (.tmp rfl rfl) (.bool _)) ?_
    refine Ca (.bool false) rfl rfl ?_
    refine C_nil ?_
    obtain rfl := Option.some.inj hF
    exact ⟨_, _, rfl, (EqL.cons rfl (EqL.nil)).eq, (.sel .nil)⟩
  rintro _ _ ⟨c12, g13, rfl, rfl, hE⟩
  replace hF := hO3
  clear hO3
  try dsimp only at hF
  refine K_ent hE ?_
  refine CW_ret ?_
  obtain rfl := Option.some.inj hF
  exact End_ret () (.tmp rfl rfl .nil) rfl (.sel .nil)

/-! impl.isValue -/
def i_isValue (a_n : Int) : Option (Bool) :=
  (i_within a_n 0 9).bind fun r1 =>
  some r1
theorem i_isValue_ok (a_n : Int) (R : Bool) (hF : i_isValue a_n = some R) :
    Fw.Spec Tryz.prog 161 [(.int .i64 a_n)] [] (fun _ : Unit => (.bool R)) (fun _ => []) := by
  refine Spec_enter (n := 5) Tryz.func161 rfl rfl (rs := [.tmp 2]) rfl rfl rfl ?_
  intro H0 F0
  unfold i_isValue at hF
  refine K_region (C_val (V_assign (v := (.bool false)) (.bool _)) ?_)
  refine C_nil (K_region (Cm (.int .i64 a_n) rfl rfl ?_))
  obtain ⟨r1, hx2, hF⟩ := bind_some hF
  refine C_x0 .nil (X_callS cf111 (.cons (.tmp rfl rfl) (.cons (.int _ _) (.cons (.int _ _) .nil))) (i_within_ok a_n 0 9 _ hx2)) (fun _ => ?_)
  refine Ca (.bool r1) rfl rfl ?_
  refine C_nil (CW_ret ?_)
  obtain rfl := Option.some.inj hF
  exact End_ret () (.tmp rfl rfl .nil) rfl (.sel .nil)

/-! impl.areValues$1 -/
def i_areValues_1 (a_n : Int) : Option (Bool) :=
  (i_isValue a_n).bind fun r1 =>
  some (!r1)
theorem i_areValues_1_ok (a_n : Int) (R : Bool) (hF : i_areValues_1 a_n = some R) :
    Fw.Spec Tryz.prog 160 [(.int .i64 a_n)] [] (fun _ : Unit => (.bool R)) (fun _ => []) := by
  refine Spec_enter (n := 6) Tryz.func160 rfl rfl (rs := [.tmp 2]) rfl rfl rfl ?_
  intro H0 F0
  unfold i_areValues_1 at hF
  refine K_region (C_val (V_assign (v := (.bool false)) (.bool _)) ?_)
  refine C_nil (K_region (Cm (.int .i64 a_n) rfl rfl ?_))
  obtain ⟨r1, hx2, hF⟩ := bind_some hF
  refine C_x0 .nil (X_callS cf161 (.cons (.tmp rfl rfl) .nil) (i_isValue_ok a_n _ hx2)) (fun _ => ?_)
  refine C_val (V_not (b := r1) (.tmp rfl rfl)) ?_
  refine Ca (.bool (!r1)) rfl rfl ?_
  refine C_nil (CW_ret ?_)
  obtain rfl := Option.some.inj hF
  exact End_ret () (.tmp rfl rfl .nil) rfl (.sel .nil)

/-! slices.IndexFunc[[]int,int] -/
def g_slices_IndexFunc_int_int_iareValues1_L1 : List Int → Nat → Option (Int)
  | [], k4 => some (-1)
  | x6 :: rest5, k4 => (i_areValues_1 x6).bind fun r15 =>
    if r15 then (
      some (k4 : Int))
    else (
      g_slices_IndexFunc_int_int_iareValues1_L1 rest5 (k4 + 1))
def g_slices_IndexFunc_int_int_iareValues1 (a_s : List Int) : Option (Int) :=
  g_slices_IndexFunc_int_int_iareValues1_L1 a_s 0
theorem g_slices_IndexFunc_int_int_iareValues1_ok (a_s : List Int) (v0_0 : Sv) (R : Int) (hF : g_slices_IndexFunc_int_int_iareValues1 a_s = some R) :
    Fw.Spec Tryz.prog 204 [v0_0.v, (.func (.func 160) [].toArray [].toArray)] [crd (RdS 3 rdInt) v0_0.v a_s] (fun _ : Unit => (.int .i64 R)) (fun _ => []) := by
  refine Spec_enter (n := 19) Tryz.func204 rfl rfl (rs := [.tmp 4]) rfl rfl rfl ?_
  intro H0 F0
  unfold g_slices_IndexFunc_int_int_iareValues1 at hF
  refine K_region (C_val (V_assign (v := (.int .i64 0)) (.int _ _)) ?_)
  refine C_nil (K_in (K_region (Cm v0_0.v rfl rfl ?_)))
  refine C_at .h (fun hp => V_lenR (l := a_s.length) sl22 (.tmp rfl rfl) (crd_len hp)) ?_
  refine C_val (V_move (v := (.int .i64 0)) (.int _ _)) ?_
  refine C_nil (CW_block (CW_loop (m := a_s.length) (fun m2 f' cs' => ∃ (g : Fr) (k4 : Nat) (rest5 : List Int), m2 = rest5.length ∧ f' = updL g [(0, v0_0.v), (1, (.func (.func 160) [].toArray [].toArray)), (7, (.int .i64 (a_s.length : Int))), (8, (.int .i64 (k4 : Int)))] ∧ List.drop k4 a_s = rest5 ∧ Ent cs' [crd (RdS 3 rdInt) v0_0.v a_s] ∧ g_slices_IndexFunc_int_int_iareValues1_L1 rest5 k4 = some R) ⟨_, 0, _, rfl, (EqL.cons rfl (EqL.cons rfl (EqL.cons rfl (EqL.cons rfl (EqL.nil))))).eq, rfl, (.sel (.rd .h rfl .nil)), hF⟩ ?_))
  clear hF
  rintro m2 _ _ ⟨g3, k4, rest5, rfl, rfl, hd7, hE, hF⟩
  refine K_ent hE ?_
  clear hE
  refine K_pure (c := crd (RdS 3 rdInt) v0_0.v a_s) .h crd_bound (fun hbd12 => ?_)
  rcases rest5 with _ | ⟨x6, rest5⟩
  · have hk8 := List.drop_eq_nil_iff.1 hd7
    have hfe11 : (decide (((k4 : Int) : Int) < (a_s.length : Int))) = false := decide_eq_false (by omega)
    rw [g_slices_IndexFunc_int_int_iareValues1_L1] at hF
    refine K_region (C_val (V_lss (i := (k4 : Int)) (j := (a_s.length : Int)) (.tmp rfl rfl) (.tmp rfl rfl)) ?_)
    refine C_nil (K_in (CW_cond (b := (decide (((k4 : Int) : Int) < (a_s.length : Int)))) (.tmp rfl rfl) (fun hb => absurd (hfe11.symm.trans hb) (by decide)) (fun _ => ?_)))
    refine CW_exit ?_
    iterate 2 refine CThen_exit ?_
    refine CIn_self (K_region (C_val (V_assign (v := (.int .i64 (-1))) (.int _ _)) ?_))
    refine C_nil (CW_ret ?_)
    obtain rfl := Option.some.inj hF
    exact End_ret () (.tmp rfl rfl .nil) rfl (.sel .nil)
  obtain ⟨hk8, hx9, hd10⟩ := drop_cons hd7
  have hfe11 : (decide (((k4 : Int) : Int) < (a_s.length : Int))) = true := decide_eq_true (by omega)
  rw [g_slices_IndexFunc_int_int_iareValues1_L1] at hF
  refine K_region (C_val (V_lss (i := (k4 : Int)) (j := (a_s.length : Int)) (.tmp rfl rfl) (.tmp rfl rfl)) ?_)
  refine C_nil (K_in (CW_cond (b := (decide (((k4 : Int) : Int) < (a_s.length : Int)))) (.tmp rfl rfl) (fun _ => ?_) (fun hb => absurd (hfe11.symm.trans hb) (by decide))))
  refine CW_skip (K_block (K_region (Cm (.int .i64 (k4 : Int)) rfl rfl ?_)))
  refine Ca (.int .i64 (k4 : Int)) rfl rfl ?_
  refine C_nil (K_region (Cm (.func (.func 160) [].toArray [].toArray) rfl rfl ?_))
  refine Cm v0_0.v rfl rfl ?_
  refine Cm (.int .i64 (k4 : Int)) rfl rfl ?_
  refine C_idx (a := x6) sl22 ty3.sz (.tmp rfl rfl) (.tmp rfl rfl) .h (Int.natCast_nonneg k4) hx9 (fun k13 j14 => ?_)
  refine C_ldS (w := (.int .i64 x6)) ag3 (.tmp rfl rfl) .h ls3_0 ?_
  obtain ⟨r15, hx16, hF⟩ := bind_some hF
  refine C_x0 .nil (X_callCS cf160 (.tmp rfl rfl) (.cons (.tmp rfl rfl) .nil) (i_areValues_1_ok x6 _ hx16)) (fun _ => ?_)
  refine C_nil (CW_cond (b := r15) (.tmp rfl rfl) (fun hb19 => ?_) (fun hb19 => ?_))
  · rw [if_pos hb19] at hF
    refine K_region (Cm (.int .i64 (k4 : Int)) rfl rfl ?_)
    refine Ca (.int .i64 (k4 : Int)) rfl rfl ?_
    refine C_nil (CW_ret ?_)
    obtain rfl := Option.some.inj hF
    exact End_ret () (.tmp rfl rfl .nil) rfl (.sel .nil)
  rw [if_neg (by rw [hb19]; exact Bool.false_ne_true)] at hF
  refine CW_skip (CW_region (C_val (V_add (i := (k4 : Int)) (j := 1) (.tmp rfl rfl) (.int _ _)) ?_))
  refine Cm (.int .i64 (IntKind.i64.wrap ((k4 : Int) + 1))) rfl rfl ?_
  refine C_nil ?_
  have hw18 : IntKind.i64.wrap ((k4 : Int) + 1) = ((k4 + 1 : Nat) : Int) := by rw [wrap_in (by omega) (by omega)]; rfl
  rw [hw18]
  exact ⟨_, Nat.lt_succ_self _, _, k4 + 1, rest5, rfl, (EqL.cons rfl (EqL.cons rfl (EqL.cons rfl (EqL.cons rfl (EqL.nil))))).eq, hd10, (.sel (.rd (.t .h) rfl .nil)), hF⟩

/-! slices.ContainsFunc[[]int,int] -/
def g_slices_ContainsFunc_int_int_iareValues1 (a_s : List Int) : Option (Bool) :=
  (g_slices_IndexFunc_int_int_iareValues1 a_s).bind fun r1 =>
  some (decide ((0 : Int) ≤ r1))
theorem g_slices_ContainsFunc_int_int_iareValues1_ok (a_s : List Int) (v0_0 : Sv) (R : Bool) (hF : g_slices_ContainsFunc_int_int_iareValues1 a_s = some R) :
    Fw.Spec Tryz.prog 158 [v0_0.v, (.func (.func 160) [].toArray [].toArray)] [crd (RdS 3 rdInt) v0_0.v a_s] (fun _ : Unit => (.bool R)) (fun _ => []) := by
  refine Spec_enter (n := 9) Tryz.func158 rfl rfl (rs := [.tmp 4]) rfl rfl rfl ?_
  intro H0 F0
  unfold g_slices_ContainsFunc_int_int_iareValues1 at hF
  refine K_region (C_val (V_assign (v := (.bool false)) (.bool _)) ?_)
  refine C_nil (K_region (Cm v0_0.v rfl rfl ?_))
  refine Cm (.func (.func 160) [].toArray [].toArray) rfl rfl ?_
  obtain ⟨r1, hx2, hF⟩ := bind_some hF
  refine C_x0 (.rd .h rfl .nil) (X_callS cf204 (.cons (.tmp rfl rfl) (.cons (.tmp rfl rfl) .nil)) (g_slices_IndexFunc_int_int_iareValues1_ok a_s v0_0 _ hx2)) (fun _ => ?_)
  refine C_val (V_geq (i := r1) (j := 0) (.tmp rfl rfl) (.int _ _)) ?_
  refine Ca (.bool (decide ((0 : Int) ≤ r1))) rfl rfl ?_
  refine C_nil (CW_ret ?_)
  obtain rfl := Option.some.inj hF
  exact End_ret () (.tmp rfl rfl .nil) rfl (.sel .nil)

/-! impl.areValues -/
def i_areValues (a_l : List Int) : Option (Bool) :=
  (g_slices_ContainsFunc_int_int_iareValues1 a_l).bind fun r1 =>
  some (!r1)
theorem i_areValues_ok (a_l : List Int) (v0_0 : Sv) (R : Bool) (hF : i_areValues a_l = some R) :
    Fw.Spec Tryz.prog 112 [v0_0.v] [crd (RdS 3 rdInt) v0_0.v a_l] (fun _ : Unit => (.bool R)) (fun _ => []) := by
  refine Spec_enter (n := 6) Tryz.func112 rfl rfl (rs := [.tmp 2]) rfl rfl rfl ?_
  intro H0 F0
  unfold i_areValues at hF
  refine K_region (C_val (V_assign (v := (.bool false)) (.bool _)) ?_)
  refine C_nil (K_region (Cm v0_0.v rfl rfl ?_))
  obtain ⟨r1, hx2, hF⟩ := bind_some hF
  refine C_x0 (.rd .h rfl .nil) (X_callS cf158 (.cons (.tmp rfl rfl) (.cons (.fn _) .nil)) (g_slices_ContainsFunc_int_int_iareValues1_ok a_l v0_0 _ hx2)) (fun _ => ?_)
  refine C_val (V_not (b := r1) (.tmp rfl rfl)) ?_
  refine Ca (.bool (!r1)) rfl rfl ?_
  refine C_nil (CW_ret ?_)
  obtain rfl := Option.some.inj hF
  exact End_ret () (.tmp rfl rfl .nil) rfl (.sel .nil)

/-! impl.IsFact -/
def i_IsFact (a_s : List Int) (a_f : Fact) : Option (Bool) :=
  ((i_hasRel a_s a_f.Rel).bind fun r4 =>
    bif r4 then ((ix a_s a_f.Rel).bind fun x8 =>
      bif (((a_f.Values.length : Int) : Int) == x8) then ((i_areValues a_f.Values).bind fun r15 =>
        some r15)
      else (some false))
    else (some false)).bind fun o2 =>
  match o2 with
  | c18 => some c18
theorem i_IsFact_ok (a_s : List Int) (v0_0 : Sv) (a_f : Fact) (v1_1 : Sv) (R : Bool) (hF : i_IsFact a_s a_f = some R) :
    Fw.Spec Tryz.prog 132 [v0_0.v, (.agg [(.int .i64 a_f.Rel), v1_1.v].toArray)] [crd (RdS 3 rdInt) v0_0.v a_s, crd (RdS 3 rdInt) v1_1.v a_f.Values] (fun _ : Unit => (.bool R)) (fun _ => []) := by
  refine Spec_enter (n := 25) Tryz.func132 rfl rfl (rs := [.tmp 4]) rfl rfl rfl ?_
  intro H0 F0
  unfold i_IsFact at hF
  refine K_region (C_newR rfl (N_box (g := false) (v := (.agg [(.int .i64 a_f.Rel), v1_1.v].toArray)) ty114.sz (.tmp rfl rfl) rfl) (fun k1 => ?_))
  refine C_val (V_assign (v := (.bool false)) (.bool _)) ?_
  refine C_nil ?_
  obtain ⟨o2, hio2, hO3⟩ := bind_some hF
  refine K_draw [0, 1, 2, 3, 4, 5, 6, 7, 8, 9, 10, 11, 12, 13, 14, 15, 16, 17, 18, 19, 20] [0, 0, 2, 7, 15, 31, 63, 127, 31, 31, 543, 1823, 3871, 8191, 16383, 32767, 65535, 131071, 262143, 524287, 1048575] [3, 18] mixed (by decide +kernel) ?_
  refine D_cut (fun f' cs' => ∃ (c18 : Bool) (g : Fr), c18 = o2 ∧ f' = updL g [(4, (.bool c18))] ∧ Ent cs' []) ?_ ?_
  · replace hF := hio2
    refine Dm v0_0.v rfl rfl rfl rfl ?_
    refine D_val rfl .no (fun ha => V_fieldAddr (off := 0) fd114_0 (EN ha (.tmp rfl rfl) rfl)) ?_
    refine D_at rfl .no .h rfl (fun ha hp => V_load (v := (.int .i64 a_f.Rel)) ag3 (EN ha (.tmp rfl rfl) rfl) hp.2 rfl rfl) ?_
    obtain ⟨r4, hx5, hF⟩ := bind_some hF
    refine D_act0 rfl rfl .no (.rd (.t .h) rfl .nil) .nil (fun ha => X_callS cf174 (.cons (EN ha (.tmp rfl rfl) rfl) (.cons (EN ha (.tmp rfl rfl) rfl) .nil)) (i_hasRel_ok a_s v0_0 a_f.Rel _ hx5)) (fun _ => ?_)
    refine Dm (.bool r4) rfl rfl rfl rfl ?_
    rcases Bool.eq_false_or_eq_true r4 with hg7 | hg7
    · rw [hg7]
      try rw [hg7] at hF; dsimp only [cond_true, cond_false] at hF
      refine D_val rfl (.on 9 rfl rfl rfl) (fun ha => V_fieldAddr (off := 1) fd114_1 (EN ha (.tmp rfl rfl) rfl)) ?_
      refine D_at rfl (.on 9 rfl rfl rfl) .h rfl (fun ha hp => V_load (v := v1_1.v) ag22 (EN ha (.tmp rfl rfl) rfl) hp.2 rfl rfl) ?_
      refine D_at rfl (.on 9 rfl rfl rfl) (.t (.t .h)) rfl (fun ha hp => V_lenR (l := a_f.Values.length) sl22 (EN ha (.tmp rfl rfl) rfl) (crd_len hp)) ?_
      refine D_val rfl (.on 9 rfl rfl rfl) (fun ha => V_move (v := v0_0.v) (EN ha (.tmp rfl rfl) rfl)) ?_
      refine D_val rfl (.on 9 rfl rfl rfl) (fun ha => V_fieldAddr (off := 0) fd114_0 (EN ha (.tmp rfl rfl) rfl)) ?_
      refine D_at rfl (.on 9 rfl rfl rfl) .h rfl (fun ha hp => V_load (v := (.int .i64 a_f.Rel)) ag3 (EN ha (.tmp rfl rfl) rfl) hp.2 rfl rfl) ?_
      obtain ⟨x8, hx9, hF⟩ := bind_some hF
      obtain ⟨hp10, hx11⟩ := ix_some hx9
      refine D_idx (a := x8) sl22 ty3.sz rfl (.on 9 rfl rfl rfl) (.tmp rfl rfl) (.tmp rfl rfl) rfl rfl (.t .h) hp10 hx11 (fun k12 j13 => ?_)
      refine D_ldS (w := (.int .i64 x8)) ag3 rfl (.on 9 rfl rfl rfl) (.tmp rfl rfl) rfl .h ls3_0 ?_
      refine D_val rfl (.on 9 rfl rfl rfl) (fun ha => V_eql (i := (a_f.Values.length : Int)) (j := x8) (EN ha (.tmp rfl rfl) rfl) (EN ha (.tmp rfl rfl) rfl)) ?_
      refine D_val rfl .no (fun ha => V_pick (b := true) (u := (.bool (((a_f.Values.length : Int) : Int) == x8))) (v := (.bool false)) (EN ha (.tmp rfl rfl) rfl) (EN ha (.tmp rfl rfl) rfl) (EN ha (.bool _) rfl)) ?_
      refine Dm (.bool (((a_f.Values.length : Int) : Int) == x8)) rfl rfl rfl rfl ?_
      rcases Bool.eq_false_or_eq_true (((a_f.Values.length : Int) : Int) == x8) with hg14 | hg14
      · rw [hg14]
        try rw [hg14] at hF; dsimp only [cond_true, cond_false] at hF
        refine D_val rfl (.on 20 rfl rfl rfl) (fun ha => V_fieldAddr (off := 1) fd114_1 (EN ha (.tmp rfl rfl) rfl)) ?_
        refine D_at rfl (.on 20 rfl rfl rfl) (.t .h) rfl (fun ha hp => V_load (v := v1_1.v) ag22 (EN ha (.tmp rfl rfl) rfl) hp.2 rfl rfl) ?_
        obtain ⟨r15, hx16, hF⟩ := bind_some hF
        refine D_act0 rfl rfl (.on 20 rfl rfl rfl) (.rd (.t (.t (.t .h))) rfl .nil) .nil (fun ha => X_callS cf112 (.cons (EN ha (.tmp rfl rfl) rfl) .nil) (i_areValues_ok a_f.Values v1_1 _ hx16)) (fun _ => ?_)
        refine D_val rfl .no (fun ha => V_pick (b := true) (u := (.bool r15)) (v := (.bool false)) (EN ha (.tmp rfl rfl) rfl) (EN ha (.tmp rfl rfl) rfl) (EN ha (.bool _) rfl)) ?_
        refine Da (.bool r15) rfl rfl rfl rfl ?_
        refine D_nil ?_
        obtain rfl := Option.some.inj hF
        exact ⟨_, _, rfl, (EqL.cons rfl (EqL.nil)).eq, (.sel .nil)⟩
      rw [hg14]
      try rw [hg14] at hF; dsimp only [cond_true, cond_false] at hF
      iterate 3 refine D_off 20 rfl rfl rfl rfl ?_
      refine D_val rfl .no (fun ha => V_pick (b := false) (u := undef) (v := (.bool false)) (EN ha (.tmp rfl rfl) rfl) (EN ha (.tmp rfl rfl) rfl) (EN ha (.bool _) rfl)) ?_
      refine Da (.bool false) rfl rfl rfl rfl ?_
      refine D_nil ?_
      obtain rfl := Option.some.inj hF
      exact ⟨_, _, rfl, (EqL.cons rfl (EqL.nil)).eq, (.sel .nil)⟩
    rw [hg7]
    try rw [hg7] at hF; dsimp only [cond_true, cond_false] at hF
    iterate 9 refine D_off 9 rfl rfl rfl rfl ?_
    refine D_val rfl .no (fun ha => V_pick (b := false) (u := undef) (v := (.bool false)) (EN ha (.tmp rfl rfl) rfl) (EN ha (.tmp rfl rfl) rfl) (EN ha (.bool _) rfl)) ?_
    refine Dm (.bool false) rfl rfl rfl rfl ?_
    iterate 3 refine D_off 20 rfl rfl rfl rfl ?_
    refine D_val rfl .no (fun ha => V_pick (b := false) (u := undef) (v := (.bool false)) (EN ha (.tmp rfl rfl) rfl) (EN ha (.tmp rfl rfl) rfl) (EN ha (.bool _) rfl)) ?_
    refine Da (.bool false) rfl rfl rfl rfl ?_
    refine D_nil ?_
    obtain rfl := Option.some.inj hF
    exact ⟨_, _, rfl, (EqL.cons rfl (EqL.nil)).eq, (.sel .nil)⟩
  rintro _ _ ⟨c18, g19, rfl, rfl, hE⟩
  replace hF := hO3
  clear hO3
  try dsimp only at hF
  refine K_ent hE ?_
  refine CW_ret ?_
  obtain rfl := Option.some.inj hF
  exact End_ret () (.tmp rfl rfl .nil) rfl (.sel .nil)

/-! cmp.isNaN[int] -/
def g_cmp_isNaN_int (a_x : Int) : Option (Bool) :=
  some ((a_x : Int) != a_x)
theorem g_cmp_isNaN_int_ok (a_x : Int) (R : Bool) (hF : g_cmp_isNaN_int a_x = some R) :
    Fw.Spec Tryz.prog 215 [(.int .i64 a_x)] [] (fun _ : Unit => (.bool R)) (fun _ => []) := by
  refine Spec_enter (n := 6) Tryz.func215 rfl rfl (rs := [.tmp 2]) rfl rfl rfl ?_
  intro H0 F0
  unfold g_cmp_isNaN_int at hF
  refine K_region (C_val (V_assign (v := (.bool false)) (.bool _)) ?_)
  refine C_nil (K_region ?_)
  iterate 2 refine Cm (.int .i64 a_x) rfl rfl ?_
  refine C_val (V_neq (i := a_x) (j := a_x) (.tmp rfl rfl) (.tmp rfl rfl)) ?_
  refine Ca (.bool ((a_x : Int) != a_x)) rfl rfl ?_
  refine C_nil (CW_ret ?_)
  obtain rfl := Option.some.inj hF
  exact End_ret () (.tmp rfl rfl .nil) rfl (.sel .nil)

/-! cmp.Compare[int] -/
def g_cmp_Compare_int (a_x : Int) (a_y : Int) : Option (Int) :=
  (g_cmp_isNaN_int a_x).bind fun r1 =>
  (g_cmp_isNaN_int a_y).bind fun r4 =>
  if r1 then (
    if r4 then (
      some 0)
    else (
      some (-1)))
  else (
    if r4 then (
      some 1)
    else (
      if (decide ((a_x : Int) < a_y)) then (
        some (-1))
      else (
        if (decide ((a_y : Int) < a_x)) then (
          some 1)
        else (
          some 0))))
theorem g_cmp_Compare_int_ok (a_x : Int) (a_y : Int) (R : Int) (hF : g_cmp_Compare_int a_x a_y = some R) :
    Fw.Spec Tryz.prog 177 [(.int .i64 a_x), (.int .i64 a_y)] [] (fun _ : Unit => (.int .i64 R)) (fun _ => []) := by
  refine Spec_enter (n := 20) Tryz.func177 rfl rfl (rs := [.tmp 4]) rfl rfl rfl ?_
  intro H0 F0
  unfold g_cmp_Compare_int at hF
  refine K_region (C_val (V_assign (v := (.int .i64 0)) (.int _ _)) ?_)
  refine C_nil (K_region (Cm (.int .i64 a_x) rfl rfl ?_))
  obtain ⟨r1, hx2, hF⟩ := bind_some hF
  refine C_x0 .nil (X_callS cf215 (.cons (.tmp rfl rfl) .nil) (g_cmp_isNaN_int_ok a_x _ hx2)) (fun _ => ?_)
  refine Ca (.bool r1) rfl rfl ?_
  refine C_nil (K_region (Cm (.int .i64 a_y) rfl rfl ?_))
  obtain ⟨r4, hx5, hF⟩ := bind_some hF
  refine C_x0 .nil (X_callS cf215 (.cons (.tmp rfl rfl) .nil) (g_cmp_isNaN_int_ok a_y _ hx5)) (fun _ => ?_)
  refine Ca (.bool r4) rfl rfl ?_
  refine C_nil (K_in (K_region (Cm (.bool r1) rfl rfl ?_)))
  refine C_nil (CW_cond (b := r1) (.tmp rfl rfl) (fun hb11 => ?_) (fun hb11 => ?_))
  · rw [if_pos hb11] at hF
    refine K_in (K_region (Cm (.bool r4) rfl rfl ?_))
    refine C_nil (CW_cond (b := r4) (.tmp rfl rfl) (fun hb7 => ?_) (fun hb7 => ?_))
    · rw [if_pos hb7] at hF
      refine K_region (C_val (V_assign (v := (.int .i64 0)) (.int _ _)) ?_)
      refine C_nil (CW_ret ?_)
      obtain rfl := Option.some.inj hF
      exact End_ret () (.tmp rfl rfl .nil) rfl (.sel .nil)
    rw [if_neg (by rw [hb7]; exact Bool.false_ne_true)] at hF
    refine CW_skip (K_region (C_val (V_assign (v := (.int .i64 (-1))) (.int _ _)) ?_))
    refine C_nil (CW_ret ?_)
    obtain rfl := Option.some.inj hF
    exact End_ret () (.tmp rfl rfl .nil) rfl (.sel .nil)
  rw [if_neg (by rw [hb11]; exact Bool.false_ne_true)] at hF
  refine CW_skip (K_in (K_region (Cm (.bool r4) rfl rfl ?_)))
  refine C_nil (CW_cond (b := r4) (.tmp rfl rfl) (fun hb10 => ?_) (fun hb10 => ?_))
  · rw [if_pos hb10] at hF
    refine K_region (C_val (V_assign (v := (.int .i64 1)) (.int _ _)) ?_)
    refine C_nil (CW_ret ?_)
    obtain rfl := Option.some.inj hF
    exact End_ret () (.tmp rfl rfl .nil) rfl (.sel .nil)
  rw [if_neg (by rw [hb10]; exact Bool.false_ne_true)] at hF
  refine CW_skip (K_in (K_region (Cm (.int .i64 a_x) rfl rfl ?_)))
  refine Cm (.int .i64 a_y) rfl rfl ?_
  refine C_val (V_lss (i := a_x) (j := a_y) (.tmp rfl rfl) (.tmp rfl rfl)) ?_
  refine C_nil (CW_cond (b := (decide ((a_x : Int) < a_y))) (.tmp rfl rfl) (fun hb9 => ?_) (fun hb9 => ?_))
  · rw [if_pos hb9] at hF
    refine K_region (C_val (V_assign (v := (.int .i64 (-1))) (.int _ _)) ?_)
    refine C_nil (CW_ret ?_)
    obtain rfl := Option.some.inj hF
    exact End_ret () (.tmp rfl rfl .nil) rfl (.sel .nil)
  rw [if_neg (by rw [hb9]; exact Bool.false_ne_true)] at hF
  refine CW_skip (K_in (K_region (Cm (.int .i64 a_x) rfl rfl ?_)))
  refine Cm (.int .i64 a_y) rfl rfl ?_
  refine C_val (V_gtr (i := a_x) (j := a_y) (.tmp rfl rfl) (.tmp rfl rfl)) ?_
  refine C_nil (CW_cond (b := (decide ((a_y : Int) < a_x))) (.tmp rfl rfl) (fun hb8 => ?_) (fun hb8 => ?_))
  · rw [if_pos hb8] at hF
    refine K_region (C_val (V_assign (v := (.int .i64 1)) (.int _ _)) ?_)
    refine C_nil (CW_ret ?_)
    obtain rfl := Option.some.inj hF
    exact End_ret () (.tmp rfl rfl .nil) rfl (.sel .nil)
  rw [if_neg (by rw [hb8]; exact Bool.false_ne_true)] at hF
  refine CW_skip (K_region (C_val (V_assign (v := (.int .i64 0)) (.int _ _)) ?_))
  refine C_nil (CW_ret ?_)
  obtain rfl := Option.some.inj hF
  exact End_ret () (.tmp rfl rfl .nil) rfl (.sel .nil)

/-! slices.Compare[[]int,int] -/
def g_slices_Compare_int_int_L1 (a_s1 : List Int) (a_s2 : List Int) : List Int → Nat → Option (Int)
  | [], k4 => if (decide (((a_s1.length : Int) : Int) < (a_s2.length : Int))) then (
      some (-1))
    else (
      some 0)
  | x6 :: rest5, k4 => if (decide (((a_s2.length : Int) : Int) ≤ (k4 : Int))) then (
      some 1)
    else (
      (ix a_s2 (k4 : Int)).bind fun x16 =>
      (g_cmp_Compare_int x6 x16).bind fun r22 =>
      if ((r22 : Int) != 0) then (
        some r22)
      else (
        g_slices_Compare_int_int_L1 a_s1 a_s2 rest5 (k4 + 1)))
def g_slices_Compare_int_int (a_s1 : List Int) (a_s2 : List Int) : Option (Int) :=
  g_slices_Compare_int_int_L1 a_s1 a_s2 a_s1 0
theorem g_slices_Compare_int_int_ok (a_s1 : List Int) (v0_0 : Sv) (a_s2 : List Int) (v1_0 : Sv) (R : Int) (hF : g_slices_Compare_int_int a_s1 a_s2 = some R) :
    Fw.Spec Tryz.prog 178 [v0_0.v, v1_0.v] [crd (RdS 3 rdInt) v0_0.v a_s1, crd (RdS 3 rdInt) v1_0.v a_s2] (fun _ : Unit => (.int .i64 R)) (fun _ => []) := by
  refine Spec_enter (n := 36) Tryz.func178 rfl rfl (rs := [.tmp 4]) rfl rfl rfl ?_
  intro H0 F0
  unfold g_slices_Compare_int_int at hF
  refine K_region (C_val (V_assign (v := (.int .i64 0)) (.int _ _)) ?_)
  refine C_nil (K_in (K_region (Cm v0_0.v rfl rfl ?_)))
  refine C_at .h (fun hp => V_lenR (l := a_s1.length) sl22 (.tmp rfl rfl) (crd_len hp)) ?_
  refine C_val (V_move (v := (.int .i64 0)) (.int _ _)) ?_
  refine C_nil (CW_block (CW_loop (m := a_s1.length) (fun m2 f' cs' => ∃ (g : Fr) (k4 : Nat) (rest5 : List Int), m2 = rest5.length ∧ f' = updL g [(0, v0_0.v), (1, v1_0.v), (9, v0_0.v), (10, (.int .i64 (a_s1.length : Int))), (11, (.int .i64 (k4 : Int)))] ∧ List.drop k4 a_s1 = rest5 ∧ Ent cs' [crd (RdS 3 rdInt) v0_0.v a_s1, crd (RdS 3 rdInt) v1_0.v a_s2] ∧ g_slices_Compare_int_int_L1 a_s1 a_s2 rest5 k4 = some R) ⟨_, 0, _, rfl, (EqL.cons rfl (EqL.cons rfl (EqL.cons rfl (EqL.cons rfl (EqL.cons rfl (EqL.nil)))))).eq, rfl, (.sel (.rd .h rfl (.rd (.t .h) rfl .nil))), hF⟩ ?_))
  clear hF
  rintro m2 _ _ ⟨g3, k4, rest5, rfl, rfl, hd7, hE, hF⟩
  refine K_ent hE ?_
  clear hE
  refine K_pure (c := crd (RdS 3 rdInt) v0_0.v a_s1) .h crd_bound (fun hbd12 => ?_)
  rcases rest5 with _ | ⟨x6, rest5⟩
  · have hk8 := List.drop_eq_nil_iff.1 hd7
    have hfe11 : (decide (((k4 : Int) : Int) < (a_s1.length : Int))) = false := decide_eq_false (by omega)
    rw [g_slices_Compare_int_int_L1] at hF
    refine K_region (C_val (V_lss (i := (k4 : Int)) (j := (a_s1.length : Int)) (.tmp rfl rfl) (.tmp rfl rfl)) ?_)
    refine C_nil (K_in (CW_cond (b := (decide (((k4 : Int) : Int) < (a_s1.length : Int)))) (.tmp rfl rfl) (fun hb => absurd (hfe11.symm.trans hb) (by decide)) (fun _ => ?_)))
    refine CW_exit ?_
    iterate 2 refine CThen_exit ?_
    refine CIn_self (K_in (K_region (Cm v0_0.v rfl rfl ?_)))
    refine C_at .h (fun hp => V_lenR (l := a_s1.length) sl22 (.tmp rfl rfl) (crd_len hp)) ?_
    refine Cm v1_0.v rfl rfl ?_
    refine C_at (.t .h) (fun hp => V_lenR (l := a_s2.length) sl22 (.tmp rfl rfl) (crd_len hp)) ?_
    refine C_val (V_lss (i := (a_s1.length : Int)) (j := (a_s2.length : Int)) (.tmp rfl rfl) (.tmp rfl rfl)) ?_
    refine C_nil (CW_cond (b := (decide (((a_s1.length : Int) : Int) < (a_s2.length : Int)))) (.tmp rfl rfl) (fun hb13 => ?_) (fun hb13 => ?_))
    · rw [if_pos hb13] at hF
      refine K_region (C_val (V_assign (v := (.int .i64 (-1))) (.int _ _)) ?_)
      refine C_nil (CW_ret ?_)
      obtain rfl := Option.some.inj hF
      exact End_ret () (.tmp rfl rfl .nil) rfl (.sel .nil)
    rw [if_neg (by rw [hb13]; exact Bool.false_ne_true)] at hF
    refine CW_skip (K_region (C_val (V_assign (v := (.int .i64 0)) (.int _ _)) ?_))
    refine C_nil (CW_ret ?_)
    obtain rfl := Option.some.inj hF
    exact End_ret () (.tmp rfl rfl .nil) rfl (.sel .nil)
  obtain ⟨hk8, hx9, hd10⟩ := drop_cons hd7
  have hfe11 : (decide (((k4 : Int) : Int) < (a_s1.length : Int))) = true := decide_eq_true (by omega)
  rw [g_slices_Compare_int_int_L1] at hF
  refine K_region (C_val (V_lss (i := (k4 : Int)) (j := (a_s1.length : Int)) (.tmp rfl rfl) (.tmp rfl rfl)) ?_)
  refine C_nil (K_in (CW_cond (b := (decide (((k4 : Int) : Int) < (a_s1.length : Int)))) (.tmp rfl rfl) (fun _ => ?_) (fun hb => absurd (hfe11.symm.trans hb) (by decide))))
  refine CW_skip (K_block (K_region (Cm (.int .i64 (k4 : Int)) rfl rfl ?_)))
  refine C_idx (a := x6) sl22 ty3.sz (.tmp rfl rfl) (.tmp rfl rfl) .h (Int.natCast_nonneg k4) hx9 (fun k14 j15 => ?_)
  refine C_ldS (w := (.int .i64 x6)) ag3 (.tmp rfl rfl) .h ls3_0 ?_
  refine Ca (.int .i64 (k4 : Int)) rfl rfl ?_
  refine Ca (.int .i64 x6) rfl rfl ?_
  refine C_nil (K_in (K_region (Cm (.int .i64 (k4 : Int)) rfl rfl ?_)))
  refine Cm v1_0.v rfl rfl ?_
  refine C_at (.t (.t .h)) (fun hp => V_lenR (l := a_s2.length) sl22 (.tmp rfl rfl) (crd_len hp)) ?_
  refine C_val (V_geq (i := (k4 : Int)) (j := (a_s2.length : Int)) (.tmp rfl rfl) (.tmp rfl rfl)) ?_
  refine C_nil (CW_cond (b := (decide (((a_s2.length : Int) : Int) ≤ (k4 : Int)))) (.tmp rfl rfl) (fun hb27 => ?_) (fun hb27 => ?_))
  · rw [if_pos hb27] at hF
    refine K_region (C_val (V_assign (v := (.int .i64 1)) (.int _ _)) ?_)
    refine C_nil (CW_ret ?_)
    obtain rfl := Option.some.inj hF
    exact End_ret () (.tmp rfl rfl .nil) rfl (.sel .nil)
  rw [if_neg (by rw [hb27]; exact Bool.false_ne_true)] at hF
  refine CW_skip (K_region (Cm v1_0.v rfl rfl ?_))
  refine Cm (.int .i64 (k4 : Int)) rfl rfl ?_
  obtain ⟨x16, hx17, hF⟩ := bind_some hF
  obtain ⟨hp18, hx19⟩ := ix_some hx17
  refine C_idx (a := x16) sl22 ty3.sz (.tmp rfl rfl) (.tmp rfl rfl) (.t (.t .h)) hp18 hx19 (fun k20 j21 => ?_)
  refine C_ldS (w := (.int .i64 x16)) ag3 (.tmp rfl rfl) .h ls3_0 ?_
  refine Ca (.int .i64 x16) rfl rfl ?_
  refine C_nil (K_region (Cm (.int .i64 x6) rfl rfl ?_))
  refine Cm (.int .i64 x16) rfl rfl ?_
  obtain ⟨r22, hx23, hF⟩ := bind_some hF
  refine C_x0 .nil (X_callS cf177 (.cons (.tmp rfl rfl) (.cons (.tmp rfl rfl) .nil)) (g_cmp_Compare_int_ok x6 x16 _ hx23)) (fun _ => ?_)
  refine Ca (.int .i64 r22) rfl rfl ?_
  refine C_nil (K_region (Cm (.int .i64 r22) rfl rfl ?_))
  refine C_val (V_neq (i := r22) (j := 0) (.tmp rfl rfl) (.int _ _)) ?_
  refine C_nil (CW_cond (b := ((r22 : Int) != 0)) (.tmp rfl rfl) (fun hb26 => ?_) (fun hb26 => ?_))
  · rw [if_pos hb26] at hF
    refine K_region (Cm (.int .i64 r22) rfl rfl ?_)
    refine Ca (.int .i64 r22) rfl rfl ?_
    refine C_nil (CW_ret ?_)
    obtain rfl := Option.some.inj hF
    exact End_ret () (.tmp rfl rfl .nil) rfl (.sel .nil)
  rw [if_neg (by rw [hb26]; exact Bool.false_ne_true)] at hF
  refine CW_skip (CW_region (C_val (V_add (i := (k4 : Int)) (j := 1) (.tmp rfl rfl) (.int _ _)) ?_))
  refine Cm (.int .i64 (IntKind.i64.wrap ((k4 : Int) + 1))) rfl rfl ?_
  refine C_nil ?_
  have hw25 : IntKind.i64.wrap ((k4 : Int) + 1) = ((k4 + 1 : Nat) : Int) := by rw [wrap_in (by omega) (by omega)]; rfl
  rw [hw25]
  exact ⟨_, Nat.lt_succ_self _, _, k4 + 1, rest5, rfl, (EqL.cons rfl (EqL.cons rfl (EqL.cons rfl (EqL.cons rfl (EqL.cons rfl (EqL.nil)))))).eq, hd10, (.sel (.rd (.t (.t .h)) rfl (.rd (.t (.t (.t .h))) rfl .nil))), hF⟩

/-! cmp.Or[int] -/
def g_cmp_Or_int_L1 : List Int → Nat → Option (Int)
  | [], k4 => some 0
  | x6 :: rest5, k4 => if ((x6 : Int) != 0) then (
      some x6)
    else (
      g_cmp_Or_int_L1 rest5 (k4 + 1))
def g_cmp_Or_int (a_vals : List Int) : Option (Int) :=
  g_cmp_Or_int_L1 a_vals 0
theorem g_cmp_Or_int_ok (a_vals : List Int) (v0_0 : Sv) (R : Int) (hF : g_cmp_Or_int a_vals = some R) :
    Fw.Spec Tryz.prog 176 [v0_0.v] [crd (RdS 3 rdInt) v0_0.v a_vals] (fun _ : Unit => (.int .i64 R)) (fun _ => []) := by
  refine Spec_enter (n := 18) Tryz.func176 rfl rfl (rs := [.tmp 2]) rfl rfl rfl ?_
  intro H0 F0
  unfold g_cmp_Or_int at hF
  refine K_region (C_val (V_assign (v := (.int .i64 0)) (.int _ _)) ?_)
  refine C_nil (K_region (C_val (V_assign (v := (.int .i64 0)) (.int _ _)) ?_))
  refine C_nil (K_in (K_region (Cm v0_0.v rfl rfl ?_)))
  refine C_at .h (fun hp => V_lenR (l := a_vals.length) sl22 (.tmp rfl rfl) (crd_len hp)) ?_
  refine C_val (V_move (v := (.int .i64 0)) (.int _ _)) ?_
  refine C_nil (CW_block (CW_loop (m := a_vals.length) (fun m2 f' cs' => ∃ (g : Fr) (k4 : Nat) (rest5 : List Int), m2 = rest5.length ∧ f' = updL g [(3, (.int .i64 0)), (6, v0_0.v), (7, (.int .i64 (a_vals.length : Int))), (8, (.int .i64 (k4 : Int)))] ∧ List.drop k4 a_vals = rest5 ∧ Ent cs' [crd (RdS 3 rdInt) v0_0.v a_vals] ∧ g_cmp_Or_int_L1 rest5 k4 = some R) ⟨_, 0, _, rfl, (EqL.cons rfl (EqL.cons rfl (EqL.cons rfl (EqL.cons rfl (EqL.nil))))).eq, rfl, (.sel (.rd .h rfl .nil)), hF⟩ ?_))
  clear hF
  rintro m2 _ _ ⟨g3, k4, rest5, rfl, rfl, hd7, hE, hF⟩
  refine K_ent hE ?_
  clear hE
  refine K_pure (c := crd (RdS 3 rdInt) v0_0.v a_vals) .h crd_bound (fun hbd12 => ?_)
  rcases rest5 with _ | ⟨x6, rest5⟩
  · have hk8 := List.drop_eq_nil_iff.1 hd7
    have hfe11 : (decide (((k4 : Int) : Int) < (a_vals.length : Int))) = false := decide_eq_false (by omega)
    rw [g_cmp_Or_int_L1] at hF
    refine K_region (C_val (V_lss (i := (k4 : Int)) (j := (a_vals.length : Int)) (.tmp rfl rfl) (.tmp rfl rfl)) ?_)
    refine C_nil (K_in (CW_cond (b := (decide (((k4 : Int) : Int) < (a_vals.length : Int)))) (.tmp rfl rfl) (fun hb => absurd (hfe11.symm.trans hb) (by decide)) (fun _ => ?_)))
    refine CW_exit ?_
    iterate 2 refine CThen_exit ?_
    refine CIn_self (K_region (Cm (.int .i64 0) rfl rfl ?_))
    refine Ca (.int .i64 0) rfl rfl ?_
    refine C_nil (CW_ret ?_)
    obtain rfl := Option.some.inj hF
    exact End_ret () (.tmp rfl rfl .nil) rfl (.sel .nil)
  obtain ⟨hk8, hx9, hd10⟩ := drop_cons hd7
  have hfe11 : (decide (((k4 : Int) : Int) < (a_vals.length : Int))) = true := decide_eq_true (by omega)
  rw [g_cmp_Or_int_L1] at hF
  refine K_region (C_val (V_lss (i := (k4 : Int)) (j := (a_vals.length : Int)) (.tmp rfl rfl) (.tmp rfl rfl)) ?_)
  refine C_nil (K_in (CW_cond (b := (decide (((k4 : Int) : Int) < (a_vals.length : Int)))) (.tmp rfl rfl) (fun _ => ?_) (fun hb => absurd (hfe11.symm.trans hb) (by decide))))
  refine CW_skip (K_block (K_region (C_idx (a := x6) sl22 ty3.sz (.tmp rfl rfl) (.tmp rfl rfl) .h (Int.natCast_nonneg k4) hx9 (fun k13 j14 => ?_))))
  refine C_ldS (w := (.int .i64 x6)) ag3 (.tmp rfl rfl) .h ls3_0 ?_
  refine Ca (.int .i64 x6) rfl rfl ?_
  refine C_nil (K_region (Cm (.int .i64 x6) rfl rfl ?_))
  refine Cm (.int .i64 0) rfl rfl ?_
  refine C_val (V_neq (i := x6) (j := 0) (.tmp rfl rfl) (.tmp rfl rfl)) ?_
  refine C_nil (CW_cond (b := ((x6 : Int) != 0)) (.tmp rfl rfl) (fun hb16 => ?_) (fun hb16 => ?_))
  · rw [if_pos hb16] at hF
    refine K_region (Cm (.int .i64 x6) rfl rfl ?_)
    refine Ca (.int .i64 x6) rfl rfl ?_
    refine C_nil (CW_ret ?_)
    obtain rfl := Option.some.inj hF
    exact End_ret () (.tmp rfl rfl .nil) rfl (.sel .nil)
  rw [if_neg (by rw [hb16]; exact Bool.false_ne_true)] at hF
  refine CW_skip (CW_region (C_val (V_add (i := (k4 : Int)) (j := 1) (.tmp rfl rfl) (.int _ _)) ?_))
  refine Cm (.int .i64 (IntKind.i64.wrap ((k4 : Int) + 1))) rfl rfl ?_
  refine C_nil ?_
  have hw15 : IntKind.i64.wrap ((k4 : Int) + 1) = ((k4 + 1 : Nat) : Int) := by rw [wrap_in (by omega) (by omega)]; rfl
  rw [hw15]
  exact ⟨_, Nat.lt_succ_self _, _, k4 + 1, rest5, rfl, (EqL.cons rfl (EqL.cons rfl (EqL.cons rfl (EqL.cons rfl (EqL.nil))))).eq, hd10, (.sel (.rd (.t .h) rfl .nil)), hF⟩

/-! impl.CompareFacts -/
def i_CompareFacts (a_a : Fact) (a_b : Fact) : Option (Int) :=
  (g_cmp_Compare_int a_a.Rel a_b.Rel).bind fun r3 =>
  (g_slices_Compare_int_int a_a.Values a_b.Values).bind fun r6 =>
  (g_cmp_Or_int ([r3, r6] : List Int)).bind fun r10 =>
  some r10
theorem i_CompareFacts_ok (a_a : Fact) (v0_1 : Sv) (a_b : Fact) (v1_1 : Sv) (R : Int) (hF : i_CompareFacts a_a a_b = some R) :
    Fw.Spec Tryz.prog 133 [(.agg [(.int .i64 a_a.Rel), v0_1.v].toArray), (.agg [(.int .i64 a_b.Rel), v1_1.v].toArray)] [crd (RdS 3 rdInt) v0_1.v a_a.Values, crd (RdS 3 rdInt) v1_1.v a_b.Values] (fun _ : Unit => (.int .i64 R)) (fun _ => []) := by
  refine Spec_enter (n := 17) Tryz.func133 rfl rfl (rs := [.tmp 4]) rfl rfl rfl ?_
  intro H0 F0
  unfold i_CompareFacts at hF
  refine K_region (C_newR rfl (N_box (g := false) (v := (.agg [(.int .i64 a_a.Rel), v0_1.v].toArray)) ty114.sz (.tmp rfl rfl) rfl) (fun k1 => ?_))
  refine C_newR rfl (N_box (g := false) (v := (.agg [(.int .i64 a_b.Rel), v1_1.v].toArray)) ty114.sz (.tmp rfl rfl) rfl) (fun k2 => ?_)
  refine C_val (V_assign (v := (.int .i64 0)) (.int _ _)) ?_
  refine C_nil (K_draw [0, 1, 2, 3, 5, 6, 7, 8, 4, 9, 10, 11, 12] [0, 1, 0, 4, 15, 0, 32, 0, 128, 511, 1023, 2047, 4095] [4, 9, 11] mixed (by decide +kernel) ?_)
  refine D_val rfl .no (fun ha => V_fieldAddr (off := 0) fd114_0 (EN ha (.tmp rfl rfl) rfl)) ?_
  refine D_at rfl .no (.t .h) rfl (fun ha hp => V_load (v := (.int .i64 a_a.Rel)) ag3 (EN ha (.tmp rfl rfl) rfl) hp.2 rfl rfl) ?_
  refine D_val rfl .no (fun ha => V_fieldAddr (off := 0) fd114_0 (EN ha (.tmp rfl rfl) rfl)) ?_
  refine D_at rfl .no .h rfl (fun ha hp => V_load (v := (.int .i64 a_b.Rel)) ag3 (EN ha (.tmp rfl rfl) rfl) hp.2 rfl rfl) ?_
  refine D_val rfl .no (fun ha => V_fieldAddr (off := 1) fd114_1 (EN ha (.tmp rfl rfl) rfl)) ?_
  refine D_at rfl .no (.t .h) rfl (fun ha hp => V_load (v := v0_1.v) ag22 (EN ha (.tmp rfl rfl) rfl) hp.2 rfl rfl) ?_
  refine D_val rfl .no (fun ha => V_fieldAddr (off := 1) fd114_1 (EN ha (.tmp rfl rfl) rfl)) ?_
  refine D_at rfl .no .h rfl (fun ha hp => V_load (v := v1_1.v) ag22 (EN ha (.tmp rfl rfl) rfl) hp.2 rfl rfl) ?_
  obtain ⟨r3, hx4, hF⟩ := bind_some hF
  refine D_act0 rfl rfl .no .nil .nil (fun ha => X_callS cf177 (.cons (EN ha (.tmp rfl rfl) rfl) (.cons (EN ha (.tmp rfl rfl) rfl) .nil)) (g_cmp_Compare_int_ok a_a.Rel a_b.Rel _ hx4)) (fun _ => ?_)
  obtain ⟨r6, hx7, hF⟩ := bind_some hF
  refine D_act0 rfl rfl .no (.rd (.t (.t .h)) rfl (.rd (.t (.t (.t .h))) rfl .nil)) .nil (fun ha => X_callS cf178 (.cons (EN ha (.tmp rfl rfl) rfl) (.cons (EN ha (.tmp rfl rfl) rfl) .nil)) (g_slices_Compare_int_int_ok a_a.Values v0_1 a_b.Values v1_1 _ hx7)) (fun _ => ?_)
  refine D_new rfl .no rfl (fun ha => N_buildSliceT (g := true) (len := 2) (parts := [(0, .tmp 9), (1, .tmp 14)]) sl22 ty3 (.cons (EN ha (.tmp rfl rfl) rfl) (.cons (EN ha (.tmp rfl rfl) rfl) .nil)) (vs := [(.int .i64 r3), (.int .i64 r6)]) rfl rfl rfl (by intro v hv; simp at hv; rcases hv with rfl | rfl <;> rfl)) (fun k9 => ?_)
  refine D_conv (.cons .h .nil) (own_lit (Ro := (roE rdInt)) (E := 3) (F := ([] ++ ([] ++ []))) (xs := ([r3, r6] : List Int)) (MkL_cons (Mk_pure (fun _ => rfl)) (MkL_cons (Mk_pure (fun _ => rfl)) MkL_nil apps) apps) rfl rfl) apps ?_
  obtain ⟨r10, hx11, hF⟩ := bind_some hF
  refine D_act1 rfl rfl .no (.cons .h .nil) (.dep rfl .nil) (fun ha => XC_bor frz_own (fun _ => .nil) (X_callS cf176 (.cons (EN ha (.tmp rfl rfl) rfl) .nil) (g_cmp_Or_int_ok ([r3, r6] : List Int) (⟨(some ⟨k9, 0, none⟩), 2, 1⟩) _ hx11))) (fun _ => ?_)
  refine Da (.int .i64 r10) rfl rfl rfl rfl ?_
  refine D_nil (CW_ret ?_)
  obtain rfl := Option.some.inj hF
  exact End_ret () (.tmp rfl rfl .nil) rfl (.sel .nil)

/-! impl.AreFacts -/
def i_AreFacts_L1 (a_s : List Int) (a_l : List Fact) : List Fact → Nat → Option (Bool)
  | [], k4 => ((i_IsSchema a_s).bind fun r15 =>
      bif r15 then (some (decide (((a_l.length : Int) : Int) ≤ 24)))
      else (some false)).bind fun o13 =>
    match o13 with
    | c19 => some c19
  | x6 :: rest5, k4 => ((i_IsFact a_s x6).bind fun r27 =>
      bif (!r27) then (some true)
      else (bif (decide ((0 : Int) < (k4 : Int))) then ((ix a_l (IntKind.i64.wrap ((k4 : Int) - 1))).bind fun x32 =>
          (i_CompareFacts x32 x6).bind fun r39 =>
          some (decide ((0 : Int) ≤ r39)))
        else (some false))).bind fun o25 =>
    match o25 with
    | c42 => if c42 then (
        some false)
      else (
        i_AreFacts_L1 a_s a_l rest5 (k4 + 1))
def i_AreFacts (a_s : List Int) (a_l : List Fact) : Option (Bool) :=
  i_AreFacts_L1 a_s a_l a_l 0
theorem i_AreFacts_ok (a_s : List Int) (v0_0 : Sv) (a_l : List Fact) (v1_0 : Sv) (R : Bool) (hF : i_AreFacts a_s a_l = some R) :
    Fw.Spec Tryz.prog 70 [v0_0.v, v1_0.v] [crd (RdS 3 rdInt) v0_0.v a_s, crd (RdS 114 rd114) v1_0.v a_l] (fun _ : Unit => (.bool R)) (fun _ => []) := by
  refine Spec_enter (n := 40) Tryz.func70 rfl rfl (rs := [.tmp 4]) rfl rfl rfl ?_
  intro H0 F0
  unfold i_AreFacts at hF
  refine K_region (C_val (V_assign (v := (.bool false)) (.bool _)) ?_)
  refine C_nil (K_in (K_region (Cm v1_0.v rfl rfl ?_)))
  refine C_at (.t .h) (fun hp => V_lenR (l := a_l.length) sl40 (.tmp rfl rfl) (crd_len hp)) ?_
  refine C_val (V_move (v := (.int .i64 0)) (.int _ _)) ?_
  refine C_nil (CW_block (CW_loop (m := a_l.length) (fun m2 f' cs' => ∃ (g : Fr) (k4 : Nat) (rest5 : List Fact), m2 = rest5.length ∧ f' = updL g [(0, v0_0.v), (1, v1_0.v), (7, v1_0.v), (8, (.int .i64 (a_l.length : Int))), (9, (.int .i64 (k4 : Int)))] ∧ List.drop k4 a_l = rest5 ∧ Ent cs' [crd (RdS 3 rdInt) v0_0.v a_s, crd (RdS 114 rd114) v1_0.v a_l] ∧ i_AreFacts_L1 a_s a_l rest5 k4 = some R) ⟨_, 0, _, rfl, (EqL.cons rfl (EqL.cons rfl (EqL.cons rfl (EqL.cons rfl (EqL.cons rfl (EqL.nil)))))).eq, rfl, (.sel (.rd .h rfl (.rd (.t .h) rfl .nil))), hF⟩ ?_))
  clear hF
  rintro m2 _ _ ⟨g3, k4, rest5, rfl, rfl, hd7, hE, hF⟩
  refine K_ent hE ?_
  clear hE
  refine K_pure (c := crd (RdS 114 rd114) v1_0.v a_l) (.t .h) crd_bound (fun hbd12 => ?_)
  rcases rest5 with _ | ⟨x6, rest5⟩
  · have hk8 := List.drop_eq_nil_iff.1 hd7
    have hfe11 : (decide (((k4 : Int) : Int) < (a_l.length : Int))) = false := decide_eq_false (by omega)
    rw [i_AreFacts_L1] at hF
    refine K_region (C_val (V_lss (i := (k4 : Int)) (j := (a_l.length : Int)) (.tmp rfl rfl) (.tmp rfl rfl)) ?_)
    refine C_nil (K_in (CW_cond (b := (decide (((k4 : Int) : Int) < (a_l.length : Int)))) (.tmp rfl rfl) (fun hb => absurd (hfe11.symm.trans hb) (by decide)) (fun _ => ?_)))
    refine CW_exit ?_
    iterate 2 refine CThen_exit ?_
    refine CIn_self ?_
    obtain ⟨o13, hio13, hO14⟩ := bind_some hF
    refine K_region (C_cut (fun f' cs' => ∃ (c19 : Bool) (g : Fr), c19 = o13 ∧ f' = updL g [(4, (.bool c19))] ∧ Ent cs' []) ?_ ?_)
    · replace hF := hio13
      refine Cm v0_0.v rfl rfl ?_
      obtain ⟨r15, hx16, hF⟩ := bind_some hF
      refine C_x0 (.rd .h rfl .nil) (X_callS cf128 (.cons (.tmp rfl rfl) .nil) (i_IsSchema_ok a_s v0_0 _ hx16)) (fun _ => ?_)
      refine Cm (.bool r15) rfl rfl ?_
      rcases Bool.eq_false_or_eq_true r15 with hg18 | hg18
      · rw [hg18]
        try rw [hg18] at hF; dsimp only [cond_true, cond_false] at hF
        refine C_on (t := 35) rfl rfl rfl ?_
        refine Cm v1_0.v rfl rfl ?_
        refine C_on (t := 35) rfl rfl rfl ?_
        refine C_at (.t .h) (fun hp => V_lenR (l := a_l.length) sl40 (.tmp rfl rfl) (crd_len hp)) ?_
        refine C_on (t := 35) rfl rfl rfl ?_
        refine C_val (V_leq (i := (a_l.length : Int)) (j := 24) (.tmp rfl rfl) (.int _ _)) ?_
        refine C_val (V_pick (b := true) (u := (.bool (decide (((a_l.length : Int) : Int) ≤ 24)))) (v := (.bool false)) (.tmp rfl rfl) (.tmp rfl rfl) (.bool _)) ?_
        refine Ca (.bool (decide (((a_l.length : Int) : Int) ≤ 24))) rfl rfl ?_
        refine C_nil ?_
        obtain rfl := Option.some.inj hF
        exact ⟨_, _, rfl, (EqL.cons rfl (EqL.nil)).eq, (.sel .nil)⟩
      rw [hg18]
      try rw [hg18] at hF; dsimp only [cond_true, cond_false] at hF
      iterate 3 refine C_off (t := 35) rfl rfl rfl ?_
      refine C_val (V_pick (b := false) (u := undef) (v := (.bool false)) (.tmp rfl rfl) (.tmp rfl rfl) (.bool _)) ?_
      refine Ca (.bool false) rfl rfl ?_
      refine C_nil ?_
      obtain rfl := Option.some.inj hF
      exact ⟨_, _, rfl, (EqL.cons rfl (EqL.nil)).eq, (.sel .nil)⟩
    rintro _ _ ⟨c19, g20, rfl, rfl, hE⟩
    replace hF := hO14
    clear hO14
    try dsimp only at hF
    refine K_ent hE ?_
    refine CW_ret ?_
    obtain rfl := Option.some.inj hF
    exact End_ret () (.tmp rfl rfl .nil) rfl (.sel .nil)
  obtain ⟨hk8, hx9, hd10⟩ := drop_cons hd7
  have hfe11 : (decide (((k4 : Int) : Int) < (a_l.length : Int))) = true := decide_eq_true (by omega)
  rw [i_AreFacts_L1] at hF
  refine K_region (C_val (V_lss (i := (k4 : Int)) (j := (a_l.length : Int)) (.tmp rfl rfl) (.tmp rfl rfl)) ?_)
  refine C_nil (K_in (CW_cond (b := (decide (((k4 : Int) : Int) < (a_l.length : Int)))) (.tmp rfl rfl) (fun _ => ?_) (fun hb => absurd (hfe11.symm.trans hb) (by decide))))
  refine CW_skip (K_block (K_region (Cm (.int .i64 (k4 : Int)) rfl rfl ?_)))
  refine C_idx (a := x6) sl40 ty114.sz (.tmp rfl rfl) (.tmp rfl rfl) (.t .h) (Int.natCast_nonneg k4) hx9 (fun k21 j22 => ?_)
  refine C_ldA1 (ul114_0_114 x6) ag114 ty114.sz rfl (.tmp rfl rfl) .h la114_0_114 (fun p23 => ?_)
  refine C_new rfl (N_allocT (g := true) ty114 rfl rfl) (fun k24 => ?_)
  refine Ca (.int .i64 (k4 : Int)) rfl rfl ?_
  refine C_x1 (.cons .h .nil) (X_storeB (e' := (.agg [(.int .i64 x6.Rel), p23.v].toArray)) (v := (.agg [(.int .i64 x6.Rel), p23.v].toArray)) ty114.sz (.tmp rfl rfl) (.tmp rfl rfl) rfl rfl rfl rfl rfl) (fun _ => ?_)
  refine C_nil ?_
  obtain ⟨o25, hio25, hO26⟩ := bind_some hF
  refine K_draw [0, 1, 2, 3, 4, 5, 6, 7, 8, 9, 10, 11, 12, 13, 14, 15, 16, 17] [0, 0, 3, 7, 15, 31, 63, 127, 255, 255, 767, 2047, 4095, 255, 16383, 32767, 65535, 131071] [2, 14] mixed (by decide +kernel) ?_
  refine D_cut (fun f' cs' => ∃ (c42 : Bool) (g : Fr), c42 = o25 ∧ f' = updL g [(0, v0_0.v), (1, v1_0.v), (7, v1_0.v), (8, (.int .i64 (a_l.length : Int))), (9, (.int .i64 (k4 : Int))), (31, (.bool c42))] ∧ Ent cs' [crd (RdS 3 rdInt) v0_0.v a_s, crd (RdS 114 rd114) v1_0.v a_l]) ?_ ?_
  · replace hF := hio25
    refine Dm v0_0.v rfl rfl rfl rfl ?_
    refine D_atO rfl .no .h (fun ha hp => V_loadBox ag114 ty114.sz rfl (EN ha (.tmp rfl rfl) rfl) hp.2 rfl) ?_
    obtain ⟨r27, hx28, hF⟩ := bind_some hF
    refine D_act0 rfl rfl .no (.rd (.t (.t (.t .h))) rfl (.rd (.t .h) rfl .nil)) (.dep rfl .nil) (fun ha => X_callS cf132 (.cons (EN ha (.tmp rfl rfl) rfl) (.cons (EN ha (.tmp rfl rfl) rfl) .nil)) (i_IsFact_ok a_s v0_0 x6 p23 _ hx28)) (fun _ => ?_)
    refine D_val rfl .no (fun ha => V_not (b := r27) (EN ha (.tmp rfl rfl) rfl)) ?_
    refine Dm (.bool (!r27)) rfl rfl rfl rfl ?_
    rcases Bool.eq_false_or_eq_true (!r27) with hg30 | hg30
    · rw [hg30]
      try rw [hg30] at hF; dsimp only [cond_true, cond_false] at hF
      iterate 3 refine D_off 18 rfl rfl rfl rfl ?_
      iterate 8 refine D_offU 21 rfl rfl rfl rfl ?_
      refine D_off 18 rfl rfl rfl rfl ?_
      refine D_val rfl .no (fun ha => V_pick (b := true) (u := (.bool true)) (v := undef) (EN ha (.tmp rfl rfl) rfl) (EN ha (.bool _) rfl) (EN ha (.tmp rfl rfl) rfl)) ?_
      refine D_nil ?_
      obtain rfl := Option.some.inj hF
      exact ⟨_, _, rfl, (EqL.cons rfl (EqL.cons rfl (EqL.cons rfl (EqL.cons rfl (EqL.cons rfl (EqL.cons rfl (EqL.nil))))))).eq, (.sel (.rd (.t (.t (.t .h))) rfl (.rd (.t (.t (.t (.t .h)))) rfl .nil)))⟩
    rw [hg30]
    try rw [hg30] at hF; dsimp only [cond_true, cond_false] at hF
    refine D_val rfl (.on 18 rfl rfl rfl) (fun ha => V_move (v := (.int .i64 (k4 : Int))) (EN ha (.tmp rfl rfl) rfl)) ?_
    refine D_val rfl (.on 18 rfl rfl rfl) (fun ha => V_gtr (i := (k4 : Int)) (j := 0) (EN ha (.tmp rfl rfl) rfl) (EN ha (.int _ _) rfl)) ?_
    refine D_val rfl (.on 18 rfl rfl rfl) (fun ha => V_move (v := (.bool (decide ((0 : Int) < (k4 : Int))))) (EN ha (.tmp rfl rfl) rfl)) ?_
    rcases Bool.eq_false_or_eq_true (decide ((0 : Int) < (k4 : Int))) with hg31 | hg31
    · rw [hg31]
      try rw [hg31] at hF; dsimp only [cond_true, cond_false] at hF
      refine D_val rfl (.on 21 rfl rfl rfl) (fun ha => V_move (v := v1_0.v) (EN ha (.tmp rfl rfl) rfl)) ?_
      refine D_val rfl (.on 21 rfl rfl rfl) (fun ha => V_move (v := (.int .i64 (k4 : Int))) (EN ha (.tmp rfl rfl) rfl)) ?_
      refine D_val rfl (.on 21 rfl rfl rfl) (fun ha => V_sub (i := (k4 : Int)) (j := 1) (EN ha (.tmp rfl rfl) rfl) (EN ha (.int _ _) rfl)) ?_
      obtain ⟨x32, hx33, hF⟩ := bind_some hF
      obtain ⟨hp34, hx35⟩ := ix_some hx33
      refine D_idx (a := x32) sl40 ty114.sz rfl (.on 21 rfl rfl rfl) (.tmp rfl rfl) (.tmp rfl rfl) rfl rfl (.t (.t (.t (.t .h)))) hp34 hx35 (fun k36 j37 => ?_)
      refine D_ldA1 (ul114_0_114 x32) ag114 ty114.sz rfl rfl (.on 21 rfl rfl rfl) (.tmp rfl rfl) rfl .h la114_0_114 (fun p38 => ?_)
      refine D_atO rfl (.on 21 rfl rfl rfl) (.t (.t .h)) (fun ha hp => V_loadBox ag114 ty114.sz rfl (EN ha (.tmp rfl rfl) rfl) hp.2 rfl) ?_
      obtain ⟨r39, hx40, hF⟩ := bind_some hF
      refine D_act0 rfl rfl (.on 21 rfl rfl rfl) (.rd .h rfl (.rd (.t (.t (.t .h))) rfl .nil)) (.dep rfl (.dep rfl .nil)) (fun ha => X_callS cf133 (.cons (EN ha (.tmp rfl rfl) rfl) (.cons (EN ha (.tmp rfl rfl) rfl) .nil)) (i_CompareFacts_ok x32 p38 x6 p23 _ hx40)) (fun _ => ?_)
      refine D_val rfl (.on 21 rfl rfl rfl) (fun ha => V_geq (i := r39) (j := 0) (EN ha (.tmp rfl rfl) rfl) (EN ha (.int _ _) rfl)) ?_
      refine D_val rfl (.on 18 rfl rfl rfl) (fun ha => V_pick (b := true) (u := (.bool (decide ((0 : Int) ≤ r39)))) (v := (.bool false)) (EN ha (.tmp rfl rfl) rfl) (EN ha (.tmp rfl rfl) rfl) (EN ha (.bool _) rfl)) ?_
      refine D_val rfl .no (fun ha => V_pick (b := false) (u := (.bool true)) (v := (.bool (decide ((0 : Int) ≤ r39)))) (EN ha (.tmp rfl rfl) rfl) (EN ha (.bool _) rfl) (EN ha (.tmp rfl rfl) rfl)) ?_
      refine D_nil ?_
      obtain rfl := Option.some.inj hF
      exact ⟨_, _, rfl, (EqL.cons rfl (EqL.cons rfl (EqL.cons rfl (EqL.cons rfl (EqL.cons rfl (EqL.cons rfl (EqL.nil))))))).eq, (.sel (.rd (.t (.t (.t (.t (.t .h))))) rfl (.rd (.t (.t (.t (.t (.t (.t .h)))))) rfl .nil)))⟩
    rw [hg31]
    try rw [hg31] at hF; dsimp only [cond_true, cond_false] at hF
    iterate 8 refine D_off 21 rfl rfl rfl rfl ?_
    refine D_val rfl (.on 18 rfl rfl rfl) (fun ha => V_pick (b := false) (u := undef) (v := (.bool false)) (EN ha (.tmp rfl rfl) rfl) (EN ha (.tmp rfl rfl) rfl) (EN ha (.bool _) rfl)) ?_
    refine D_val rfl .no (fun ha => V_pick (b := false) (u := (.bool true)) (v := (.bool false)) (EN ha (.tmp rfl rfl) rfl) (EN ha (.bool _) rfl) (EN ha (.tmp rfl rfl) rfl)) ?_
    refine D_nil ?_
    obtain rfl := Option.some.inj hF
    exact ⟨_, _, rfl, (EqL.cons rfl (EqL.cons rfl (EqL.cons rfl (EqL.cons rfl (EqL.cons rfl (EqL.cons rfl (EqL.nil))))))).eq, (.sel (.rd (.t (.t (.t .h))) rfl (.rd (.t (.t (.t (.t .h)))) rfl .nil)))⟩
  rintro _ _ ⟨c42, g45, rfl, rfl, hE⟩
  replace hF := hO26
  clear hO26
  try dsimp only at hF
  refine K_ent hE ?_
  refine CW_cond (b := c42) (.tmp rfl rfl) (fun hb44 => ?_) (fun hb44 => ?_)
  · rw [if_pos hb44] at hF
    refine K_region (C_val (V_assign (v := (.bool false)) (.bool _)) ?_)
    refine C_nil (CW_ret ?_)
    obtain rfl := Option.some.inj hF
    exact End_ret () (.tmp rfl rfl .nil) rfl (.sel .nil)
  rw [if_neg (by rw [hb44]; exact Bool.false_ne_true)] at hF
  refine CW_skip (CW_region (C_val (V_add (i := (k4 : Int)) (j := 1) (.tmp rfl rfl) (.int _ _)) ?_))
  refine Cm (.int .i64 (IntKind.i64.wrap ((k4 : Int) + 1))) rfl rfl ?_
  refine C_nil ?_
  have hw43 : IntKind.i64.wrap ((k4 : Int) + 1) = ((k4 + 1 : Nat) : Int) := by rw [wrap_in (by omega) (by omega)]; rfl
  rw [hw43]
  exact ⟨_, Nat.lt_succ_self _, _, k4 + 1, rest5, rfl, (EqL.cons rfl (EqL.cons rfl (EqL.cons rfl (EqL.cons rfl (EqL.cons rfl (EqL.nil)))))).eq, hd10, (.sel (.rd .h rfl (.rd (.t .h) rfl .nil))), hF⟩

/-! slices.Grow[[]int,int] nil -/
def g_slices_Grow_int_int_nil (a_n : Int) : Option (List Int) :=
  if 0 ≤ a_n ∧ a_n < 4294967296 then some [] else none
theorem g_slices_Grow_int_int_nil_ok (a_n : Int) (R : List Int) (hF : g_slices_Grow_int_int_nil a_n = some R) :
    Fw.Spec Tryz.prog 249 [(.slice none 0 0), .int .i64 a_n] [] (fun p : Sv × List Nat => p.1.v) (fun p => [cown (OwnS 3 (roE rdInt)) p.2 p.1.v R]) := by
  unfold g_slices_Grow_int_int_nil at hF
  split at hF
  · rename_i h
    obtain ⟨h0, h1⟩ := h
    cases hF
    obtain ⟨q, rfl⟩ : ∃ q : Nat, a_n = (q : Int) := ⟨a_n.toNat, by omega⟩
    have w0 : IntKind.i64.wrap ((0 : Int) - ((0 : Nat) : Int)) = 0 := by decide
    have w1 : IntKind.i64.wrap ((q : Int) - 0) = (q : Int) := by rw [wrap_in (by omega) (by omega)]; omega
    refine Spec_enter (n := 27) Tryz.func249 rfl rfl (rs := [.tmp 4]) rfl rfl rfl ?_
    intro H0 F0
    refine K_region ?_
    refine C_val (V_assign (v := (.slice none 0 0)) EV.nilSlice) ?_
    refine C_nil ?_
    refine K_in ?_
    refine K_region ?_
    refine C_val (V_move (v := (.int .i64 (q : Int))) (.tmp rfl rfl)) ?_
    refine C_val (V_lss (i := (q : Int)) (j := 0) (.tmp rfl rfl) (.int _ _)) ?_
    refine C_nil ?_
    refine CW_cond (b := (decide ((q : Int) < 0))) (.tmp rfl rfl) (fun hb => absurd hb (by simp only [decide_eq_true_eq]; omega)) (fun _ => ?_)
    refine CW_skip ?_
    refine K_in ?_
    refine K_region ?_
    refine C_val (V_move (v := (.int .i64 (q : Int))) (.tmp rfl rfl)) ?_
    refine C_val (V_move (v := (.slice none 0 0)) (.tmp rfl rfl)) ?_
    refine C_val (V_capNil sl22 (.tmp rfl rfl)) ?_
    refine C_val (V_move (v := (.slice none 0 0)) (.tmp rfl rfl)) ?_
    refine C_val (V_lenR (l := 0) sl22 (.tmp rfl rfl) ⟨none, 0, rfl⟩) ?_
    refine C_val (V_sub (i := (0 : Int)) (j := ((0 : Nat) : Int)) (.tmp rfl rfl) (.tmp rfl rfl)) ?_
    rw [w0]
    refine C_val (V_sub (i := (q : Int)) (j := (0 : Int)) (.tmp rfl rfl) (.tmp rfl rfl)) ?_
    rw [w1]
    refine C_val (V_assign (v := (.int .i64 (q : Int))) (.tmp rfl rfl)) ?_
    refine C_nil ?_
    refine K_region ?_
    refine C_val (V_move (v := (.int .i64 (q : Int))) (.tmp rfl rfl)) ?_
    refine C_val (V_gtr (i := (q : Int)) (j := 0) (.tmp rfl rfl) (.int _ _)) ?_
    refine C_nil ?_
    refine CW_cond (b := (decide ((0 : Int) < (q : Int)))) (.tmp rfl rfl) (fun hb => ?_) (fun hb => ?_)
    · have hq : 0 < q := by simp only [decide_eq_true_eq] at hb; omega
      refine CW_region ?_
      refine C_val (V_move (v := (.slice none 0 0)) (.tmp rfl rfl)) ?_
      refine C_val (V_move (v := (.slice none 0 0)) (.tmp rfl rfl)) ?_
      refine C_val (V_capNil sl22 (.tmp rfl rfl)) ?_
      refine C_val (V_sliceNilHi sl22 ty3.sz (.tmp rfl rfl) (.tmp rfl rfl)) ?_
      refine C_val (V_move (v := (.int .i64 (q : Int))) (.tmp rfl rfl)) ?_
      refine C_x1 .nil (X_growNil (Ro := (roE rdInt)) (E := 3) sl22 ik3 ty3 rfl rfl rfl (by exact .tmp rfl rfl) (by exact .tmp rfl rfl) hq (by omega)) (fun k => ?_)
      refine C_val (V_move (v := (.slice none 0 0)) (.tmp rfl rfl)) ?_
      refine C_val (V_lenR (l := 0) sl22 (.tmp rfl rfl) ⟨none, 0, rfl⟩) ?_
      refine C_sliceHiD (i := ((0 : Nat) : Int)) sl22 ty3.sz (by exact .tmp rfl rfl) (.inr rfl) (by exact .tmp rfl rfl) .h rfl (by omega) (by omega) (by omega) ?_
      refine C_val (V_assign (v := (.slice (some ⟨k, 0, none⟩) 0 2)) (.tmp rfl rfl)) ?_
      refine C_nil ?_
      refine K_region ?_
      refine C_val (V_move (v := (.slice (some ⟨k, 0, none⟩) 0 2)) (.tmp rfl rfl)) ?_
      refine C_val (V_assign (v := (.slice (some ⟨k, 0, none⟩) 0 2)) (.tmp rfl rfl)) ?_
      refine C_nil ?_
      refine CW_ret ?_
      exact End_ret (⟨some ⟨k, 0, none⟩, 0, 2⟩, [k]) (.tmp rfl rfl .nil) rfl (.sel (.cons .h .nil))
    · refine CW_skip ?_
      refine K_region ?_
      refine C_val (V_move (v := (.slice none 0 0)) (.tmp rfl rfl)) ?_
      refine C_val (V_assign (v := (.slice none 0 0)) (.tmp rfl rfl)) ?_
      refine C_nil ?_
      refine CW_ret ?_
      exact End_ret (⟨none, 0, 0⟩, []) (.tmp rfl rfl .nil) rfl (.conv .nil (own_nil (Ro := (roE rdInt)) (E := 3)) (.cons .nil) (.sel (.cons .h .nil)))
  · simp at hF

/-! slices.Concat[[]int,int] -/
def g_slices_Concat_int_int_L2 : List (List Int) → Nat → (List Int) → Option ((List Int))
  | [], k23, c17 => some c17
  | x25 :: rest24, k23, c17 => (app c17 x25).bind fun z35 =>
    g_slices_Concat_int_int_L2 rest24 (k23 + 1) z35
def g_slices_Concat_int_int_L1 (a_slices : List (List Int)) : List (List Int) → Nat → Int → Option ((List Int))
  | [], k5, c1 => (g_slices_Grow_int_int_nil c1).bind fun r14 =>
    g_slices_Concat_int_int_L2 a_slices 0 r14
  | x7 :: rest6, k5, c1 => (if (decide (((IntKind.i64.wrap (c1 + (x7.length : Int))) : Int) < 0)) then (
        none)
      else (
        some ())).bind fun o39 =>
    match o39 with
    | _ => g_slices_Concat_int_int_L1 a_slices rest6 (k5 + 1) (IntKind.i64.wrap (c1 + (x7.length : Int)))
def g_slices_Concat_int_int (a_slices : List (List Int)) : Option ((List Int)) :=
  g_slices_Concat_int_int_L1 a_slices a_slices 0 0
theorem g_slices_Concat_int_int_ok (a_slices : List (List Int)) (v0_0 : Sv) (R : (List Int)) (hF : g_slices_Concat_int_int a_slices = some R) :
    Fw.Spec Tryz.prog 216 [v0_0.v] [crd (RdS 22 (RdS 3 rdInt)) v0_0.v a_slices] (fun p : Sv × List Nat => p.1.v) (fun p => [cown (OwnS 3 (roE rdInt)) p.2 p.1.v R]) := by
  refine Spec_enter (n := 36) Tryz.func216 rfl rfl (rs := [.tmp 2]) rfl rfl rfl ?_
  intro H0 F0
  unfold g_slices_Concat_int_int at hF
  refine K_region (C_val (V_assign (v := (.slice none 0 0)) EV.nilSlice) ?_)
  refine C_nil (K_region (C_val (V_assign (v := (.int .i64 0)) (.int _ _)) ?_))
  refine C_nil (K_in (K_region (Cm v0_0.v rfl rfl ?_)))
  refine C_at .h (fun hp => V_lenR (l := a_slices.length) sl139 (.tmp rfl rfl) (crd_len hp)) ?_
  refine C_val (V_move (v := (.int .i64 0)) (.int _ _)) ?_
  refine C_nil (CW_block (CW_loop (m := a_slices.length) (fun m3 f' cs' => ∃ (g : Fr) (k5 : Nat) (rest6 : List (List Int)) (c1 : Int), m3 = rest6.length ∧ f' = updL g [(0, v0_0.v), (3, (.int .i64 c1)), (9, v0_0.v), (10, (.int .i64 (a_slices.length : Int))), (11, (.int .i64 (k5 : Int)))] ∧ List.drop k5 a_slices = rest6 ∧ Ent cs' [crd (RdS 22 (RdS 3 rdInt)) v0_0.v a_slices] ∧ g_slices_Concat_int_int_L1 a_slices rest6 k5 c1 = some R) ⟨_, 0, _, _, rfl, (EqL.cons rfl (EqL.cons rfl (EqL.cons rfl (EqL.cons rfl (EqL.cons rfl (EqL.nil)))))).eq, rfl, (.sel (.rd .h rfl .nil)), hF⟩ ?_))
  clear hF
  rintro m3 _ _ ⟨g4, k5, rest6, c1, rfl, rfl, hd8, hE, hF⟩
  refine K_ent hE ?_
  clear hE
  refine K_pure (c := crd (RdS 22 (RdS 3 rdInt)) v0_0.v a_slices) .h crd_bound (fun hbd13 => ?_)
  rcases rest6 with _ | ⟨x7, rest6⟩
  · have hk9 := List.drop_eq_nil_iff.1 hd8
    have hfe12 : (decide (((k5 : Int) : Int) < (a_slices.length : Int))) = false := decide_eq_false (by omega)
    rw [g_slices_Concat_int_int_L1] at hF
    refine K_region (C_val (V_lss (i := (k5 : Int)) (j := (a_slices.length : Int)) (.tmp rfl rfl) (.tmp rfl rfl)) ?_)
    refine C_nil (K_in (CW_cond (b := (decide (((k5 : Int) : Int) < (a_slices.length : Int)))) (.tmp rfl rfl) (fun hb => absurd (hfe12.symm.trans hb) (by decide)) (fun _ => ?_)))
    refine CW_exit ?_
    iterate 2 refine CThen_exit ?_
    refine CIn_self (K_region (Cm (.int .i64 c1) rfl rfl ?_))
    obtain ⟨r14, hx15, hF⟩ := bind_some hF
    refine C_x1 .nil (X_callS cf249 (.cons EV.nilSlice (.cons (.tmp rfl rfl) .nil)) (g_slices_Grow_int_int_nil_ok c1 _ hx15)) (fun p16 => ?_)
    refine Ca p16.1.v rfl rfl ?_
    refine C_nil (K_in (K_region (Cm v0_0.v rfl rfl ?_)))
    refine C_at (.t .h) (fun hp => V_lenR (l := a_slices.length) sl139 (.tmp rfl rfl) (crd_len hp)) ?_
    refine C_val (V_move (v := (.int .i64 0)) (.int _ _)) ?_
    refine C_nil (CW_block (CW_loop (m := a_slices.length) (fun m21 f' cs' => ∃ (g : Fr) (k23 : Nat) (rest24 : List (List Int)) (c17 : List Int) (v18 : Sv) (F19 : List Nat), m21 = rest24.length ∧ f' = updL g [(6, v18.v), (25, v0_0.v), (26, (.int .i64 (a_slices.length : Int))), (27, (.int .i64 (k23 : Int)))] ∧ List.drop k23 a_slices = rest24 ∧ Ent cs' [cown (OwnS 3 (roE rdInt)) F19 v18.v c17, crd (RdS 22 (RdS 3 rdInt)) v0_0.v a_slices] ∧ g_slices_Concat_int_int_L2 rest24 k23 c17 = some R) ⟨_, 0, _, _, p16.1, p16.2, rfl, (EqL.cons rfl (EqL.cons rfl (EqL.cons rfl (EqL.cons rfl (EqL.nil))))).eq, rfl, (.sel (.cons .h (.rd .h rfl .nil))), hF⟩ ?_))
    clear hF
    rintro m21 _ _ ⟨g22, k23, rest24, c17, v18, F19, rfl, rfl, hd26, hE, hF⟩
    refine K_ent hE ?_
    clear hE
    refine K_pure (c := crd (RdS 22 (RdS 3 rdInt)) v0_0.v a_slices) (.t .h) crd_bound (fun hbd31 => ?_)
    rcases rest24 with _ | ⟨x25, rest24⟩
    · have hk27 := List.drop_eq_nil_iff.1 hd26
      have hfe30 : (decide (((k23 : Int) : Int) < (a_slices.length : Int))) = false := decide_eq_false (by omega)
      rw [g_slices_Concat_int_int_L2] at hF
      refine K_region (C_val (V_lss (i := (k23 : Int)) (j := (a_slices.length : Int)) (.tmp rfl rfl) (.tmp rfl rfl)) ?_)
      refine C_nil (K_in (CW_cond (b := (decide (((k23 : Int) : Int) < (a_slices.length : Int)))) (.tmp rfl rfl) (fun hb => absurd (hfe30.symm.trans hb) (by decide)) (fun _ => ?_)))
      refine CW_exit ?_
      iterate 2 refine CThen_exit ?_
      refine CIn_self (K_region (Cm v18.v rfl rfl ?_))
      refine Ca v18.v rfl rfl ?_
      refine C_nil (CW_ret ?_)
      obtain rfl := Option.some.inj hF
      exact End_ret (v18, F19) (.tmp rfl rfl .nil) rfl (.sel (.cons .h .nil))
    obtain ⟨hk27, hx28, hd29⟩ := drop_cons hd26
    have hfe30 : (decide (((k23 : Int) : Int) < (a_slices.length : Int))) = true := decide_eq_true (by omega)
    rw [g_slices_Concat_int_int_L2] at hF
    refine K_region (C_val (V_lss (i := (k23 : Int)) (j := (a_slices.length : Int)) (.tmp rfl rfl) (.tmp rfl rfl)) ?_)
    refine C_nil (K_in (CW_cond (b := (decide (((k23 : Int) : Int) < (a_slices.length : Int)))) (.tmp rfl rfl) (fun _ => ?_) (fun hb => absurd (hfe30.symm.trans hb) (by decide))))
    refine CW_skip (K_block (K_region (C_idx (a := x25) sl139 ty22.sz (.tmp rfl rfl) (.tmp rfl rfl) (.t .h) (Int.natCast_nonneg k23) hx28 (fun k32 j33 => ?_))))
    refine C_ldV (R' := (RdS 3 rdInt)) ag22 (.tmp rfl rfl) .h lv22_0 (fun w34 => ?_)
    refine Ca w34.v rfl rfl ?_
    refine C_nil (CW_region (Cm v18.v rfl rfl ?_))
    refine Cm w34.v rfl rfl ?_
    obtain ⟨z35, hx36, hF⟩ := bind_some hF
    refine C_x1 (.cons (.t (.t .h)) (.rd .h rfl .nil)) (X_appendO (Ro := (roE rdInt)) sl22 ni22 ty3 rfl rfl rfl (.tmp rfl rfl) (.tmp rfl rfl) hx36 src_rd) (fun p37 => ?_)
    refine Ca p37.1.v rfl rfl ?_
    refine C_nil (CW_region (C_val (V_add (i := (k23 : Int)) (j := 1) (.tmp rfl rfl) (.int _ _)) ?_))
    refine Cm (.int .i64 (IntKind.i64.wrap ((k23 : Int) + 1))) rfl rfl ?_
    refine C_nil ?_
    have hw38 : IntKind.i64.wrap ((k23 : Int) + 1) = ((k23 + 1 : Nat) : Int) := by rw [wrap_in (by omega) (by omega)]; rfl
    rw [hw38]
    exact ⟨_, Nat.lt_succ_self _, _, k23 + 1, rest24, _, p37.1, p37.2, rfl, (EqL.cons rfl (EqL.cons rfl (EqL.cons rfl (EqL.cons rfl (EqL.nil))))).eq, hd29, (.sel (.cons .h (.rd (.t (.t .h)) rfl .nil))), hF⟩
  obtain ⟨hk9, hx10, hd11⟩ := drop_cons hd8
  have hfe12 : (decide (((k5 : Int) : Int) < (a_slices.length : Int))) = true := decide_eq_true (by omega)
  rw [g_slices_Concat_int_int_L1] at hF
  refine K_region (C_val (V_lss (i := (k5 : Int)) (j := (a_slices.length : Int)) (.tmp rfl rfl) (.tmp rfl rfl)) ?_)
  refine C_nil (K_in (CW_cond (b := (decide (((k5 : Int) : Int) < (a_slices.length : Int)))) (.tmp rfl rfl) (fun _ => ?_) (fun hb => absurd (hfe12.symm.trans hb) (by decide))))
  refine CW_skip ?_
  obtain ⟨o39, hio39, hO40⟩ := bind_some hF
  refine K_cut (fun f' cs' => ∃ (g : Fr), o39 = () ∧ f' = updL g [(0, v0_0.v), (3, (.int .i64 (IntKind.i64.wrap (c1 + (x7.length : Int))))), (9, v0_0.v), (10, (.int .i64 (a_slices.length : Int))), (11, (.int .i64 (k5 : Int)))] ∧ Ent cs' [crd (RdS 22 (RdS 3 rdInt)) v0_0.v a_slices]) ?_ ?_
  · replace hF := hio39
    refine CW_block (K_region (C_idx (a := x7) sl139 ty22.sz (.tmp rfl rfl) (.tmp rfl rfl) .h (Int.natCast_nonneg k5) hx10 (fun k41 j42 => ?_)))
    refine C_ldV (R' := (RdS 3 rdInt)) ag22 (.tmp rfl rfl) .h lv22_0 (fun w43 => ?_)
    refine Ca w43.v rfl rfl ?_
    refine C_nil (K_region (Cm (.int .i64 c1) rfl rfl ?_))
    refine Cm w43.v rfl rfl ?_
    refine C_at .h (fun hp => V_lenR (l := x7.length) sl22 (.tmp rfl rfl) (crd_len hp)) ?_
    refine C_val (V_add (i := c1) (j := (x7.length : Int)) (.tmp rfl rfl) (.tmp rfl rfl)) ?_
    refine Ca (.int .i64 (IntKind.i64.wrap (c1 + (x7.length : Int)))) rfl rfl ?_
    refine C_nil (K_region (Cm (.int .i64 (IntKind.i64.wrap (c1 + (x7.length : Int)))) rfl rfl ?_))
    refine C_val (V_lss (i := (IntKind.i64.wrap (c1 + (x7.length : Int)))) (j := 0) (.tmp rfl rfl) (.int _ _)) ?_
    refine C_nil (CW_cond (b := (decide (((IntKind.i64.wrap (c1 + (x7.length : Int))) : Int) < 0))) (.tmp rfl rfl) (fun hb44 => ?_) (fun hb44 => ?_))
    · rw [if_pos hb44] at hF
      exact absurd hF (by simp)
    rw [if_neg (by rw [hb44]; exact Bool.false_ne_true)] at hF
    refine CW_skip ?_
    obtain rfl := Option.some.inj hF
    exact ⟨_, rfl, (EqL.cons rfl (EqL.cons rfl (EqL.cons rfl (EqL.cons rfl (EqL.cons rfl (EqL.nil)))))).eq, (.sel (.rd (.t (.t .h)) rfl .nil))⟩
  rintro _ _ ⟨g46, rfl, rfl, hE⟩
  replace hF := hO40
  clear hO40
  try dsimp only at hF
  refine K_ent hE ?_
  refine CW_region (C_val (V_add (i := (k5 : Int)) (j := 1) (.tmp rfl rfl) (.int _ _)) ?_)
  refine Cm (.int .i64 (IntKind.i64.wrap ((k5 : Int) + 1))) rfl rfl ?_
  refine C_nil ?_
  have hw45 : IntKind.i64.wrap ((k5 : Int) + 1) = ((k5 + 1 : Nat) : Int) := by rw [wrap_in (by omega) (by omega)]; rfl
  rw [hw45]
  exact ⟨_, Nat.lt_succ_self _, _, k5 + 1, rest6, _, rfl, (EqL.cons rfl (EqL.cons rfl (EqL.cons rfl (EqL.cons rfl (EqL.cons rfl (EqL.nil)))))).eq, hd11, (.sel (.rd .h rfl .nil)), hF⟩

/-! slices.Sort[[]int,int] -/
def g_slices_Sort_int_int (a_x : List Int) : Option (List Int) :=
  some (a_x.mergeSort fun x y => decide (x ≤ y))
theorem g_slices_Sort_int_int_ok (a_x : List Int) (v0_0 : Sv) (F0_0 : List Nat) (R : List Int) (hF : g_slices_Sort_int_int a_x = some R) :
    Fw.Spec Tryz.prog 217 [v0_0.v] [cown (OwnS 3 (roE rdInt)) F0_0 v0_0.v a_x] (fun _ : List Nat => (.tuple [].toArray)) (fun p => [cown (OwnS 3 (roE rdInt)) p v0_0.v R]) := by
  cases hF
  exact Spec_sort ty3 (Go.Proofs.Any.slices_Sort_int_none lays189) (Go.Proofs.Any.slices_Sort_int lays189)

/-! slices.Compact[[]int,int] -/
def g_slices_Compact_int_int (a_x : List Int) : Option (List Int) :=
  some (Lib.compact a_x)
theorem g_slices_Compact_int_int_ok (a_x : List Int) (v0_0 : Sv) (F0_0 : List Nat) (R : List Int) (hF : g_slices_Compact_int_int a_x = some R) :
    Fw.Spec Tryz.prog 218 [v0_0.v] [cown (OwnS 3 (roE rdInt)) F0_0 v0_0.v a_x] (fun p : Sv × List Nat => p.1.v) (fun p => [cown (OwnS 3 (roE rdInt)) p.2 p.1.v R]) := by
  cases hF
  exact Spec_compact ty3 compact_le rfl (Go.Proofs.Any.slices_Compact_int_empty lays2020) (Go.Proofs.Any.slices_Compact_int lays2020)

/-! impl.withValues -/
def i_withValues_L1 (r3 : (List Int)) : Nat → (List Int) → Int → Option ((List Int))
  | 0, _, _ => none
  | m10 + 1, c6, c9 => if (decide ((c9 : Int) < (r3.length : Int))) then (
      ((ix r3 c9).bind fun x23 =>
        (i_isValue x23).bind fun r27 =>
        if r27 then (
          (app c6 ([x23] : List Int)).bind fun z31 =>
          some z31)
        else (
          some c6)).bind fun o18 =>
      match o18 with
      | c35 => i_withValues_L1 r3 m10 c35 (IntKind.i64.wrap (c9 + 1)))
    else (
      (g_slices_Sort_int_int c6).bind fun r39 =>
      (g_slices_Compact_int_int r39).bind fun r42 =>
      some r42)
def i_withValues (a_l : List Int) (a_more : List Int) : Option ((List Int)) :=
  (g_slices_Concat_int_int ([a_l, a_more] : List (List Int))).bind fun r3 =>
  i_withValues_L1 r3 (((r3.length : Int) - 0).toNat + 2) ([] : List Int) 0
theorem i_withValues_ok (a_l : List Int) (v0_0 : Sv) (a_more : List Int) (v1_0 : Sv) (R : (List Int)) (hF : i_withValues a_l a_more = some R) :
    Fw.Spec Tryz.prog 179 [v0_0.v, v1_0.v] [crd (RdS 3 rdInt) v0_0.v a_l, crd (RdS 3 rdInt) v1_0.v a_more] (fun p : Sv × List Nat => p.1.v) (fun p => [cown (OwnS 3 (roE rdInt)) p.2 p.1.v R]) := by
  refine Spec_enter (n := 29) Tryz.func179 rfl rfl (rs := [.tmp 4]) rfl rfl rfl ?_
  intro H0 F0
  unfold i_withValues at hF
  refine K_region (C_val (V_assign (v := (.slice none 0 0)) EV.nilSlice) ?_)
  refine C_nil (K_region (C_new rfl (N_buildSliceT (g := true) sl22 ty3 .nil (vs := []) rfl rfl rfl (by simp)) (fun k1 => ?_)))
  refine C_conv (.cons .h .nil) (own_lit (Ro := (roE rdInt)) (E := 3) (F := []) (xs := ([] : List Int)) MkL_nil rfl rfl) apps ?_
  refine Ca (.slice (some ⟨k1, 0, none⟩) 0 1) rfl rfl ?_
  refine C_nil (K_in (K_region (Cm v0_0.v rfl rfl ?_)))
  refine Cm v1_0.v rfl rfl ?_
  refine C_new rfl (N_buildSliceT (g := true) sl139 ty22 (.cons (.tmp rfl rfl) (.cons (.tmp rfl rfl) .nil)) (vs := [v0_0.v, v1_0.v]) rfl rfl rfl (by intro v hv; simp at hv; rcases hv with rfl | rfl <;> rfl)) (fun k2 => ?_)
  refine C_conv (.cons .h (.rd (.t .h) rfl (.rd (.t (.t .h)) rfl .nil))) (own_lit (Ro := (roE (RdS 3 rdInt))) (E := 22) (F := ([] ++ ([] ++ []))) (xs := ([a_l, a_more] : List (List Int))) (MkL_cons Mk_rd (MkL_cons Mk_rd MkL_nil apps) apps) rfl rfl) apps ?_
  obtain ⟨r3, hx4, hF⟩ := bind_some hF
  refine C_x2 (.cons .h .nil) (XC_bor frz_own (fun _ => (.cons .nil)) (X_callS cf216 (.cons (.tmp rfl rfl) .nil) (g_slices_Concat_int_int_ok ([a_l, a_more] : List (List Int)) (⟨(some ⟨k2, 0, none⟩), 2, 1⟩) _ hx4))) (fun p5 => ?_)
  refine C_at (.t .h) (fun hp => V_lenR (l := r3.length) sl22 (.tmp rfl rfl) (cown_len hp)) ?_
  refine C_val (V_move (v := (.int .i64 0)) (.int _ _)) ?_
  refine C_nil (CW_block (CW_loop (m := (((r3.length : Int) - 0).toNat + 2)) (fun m10 f' cs' => ∃ (g : Fr) (c6 : List Int) (c9 : Int) (v7 : Sv) (F8 : List Nat), f' = updL g [(5, v7.v), (12, p5.1.v), (13, (.int .i64 (r3.length : Int))), (14, (.int .i64 c9))] ∧ Ent cs' [cown (OwnS 3 (roE rdInt)) F8 v7.v c6, cown (OwnS 3 (roE rdInt)) p5.2 p5.1.v r3] ∧ i_withValues_L1 r3 m10 c6 c9 = some R) ⟨_, _, _, ⟨(some ⟨k1, 0, none⟩), 0, 1⟩, (k1 :: []), (EqL.cons rfl (EqL.cons rfl (EqL.cons rfl (EqL.cons rfl (EqL.nil))))).eq, (.sel (.cons (.t (.t .h)) (.cons (.t .h) .nil))), hF⟩ ?_))
  clear hF
  rintro m10 _ _ ⟨g11, c6, c9, v7, F8, rfl, hE, hF⟩
  refine K_ent hE ?_
  clear hE
  rcases m10 with _ | m10
  · rw [i_withValues_L1] at hF
    exact absurd hF (by simp)
  rw [i_withValues_L1] at hF
  refine K_region (C_val (V_lss (i := c9) (j := (r3.length : Int)) (.tmp rfl rfl) (.tmp rfl rfl)) ?_)
  refine C_nil (K_in (CW_cond (b := (decide ((c9 : Int) < (r3.length : Int)))) (.tmp rfl rfl) (fun hb45 => ?_) (fun hb45 => ?_)))
  · rw [if_pos hb45] at hF
    refine CW_skip ?_
    obtain ⟨o18, hio18, hO19⟩ := bind_some hF
    refine K_cut (fun f' cs' => ∃ (c35 : List Int) (v36 : Sv) (F37 : List Nat) (g : Fr), c35 = o18 ∧ f' = updL g [(5, v36.v), (12, p5.1.v), (13, (.int .i64 (r3.length : Int))), (14, (.int .i64 c9))] ∧ Ent cs' [cown (OwnS 3 (roE rdInt)) F37 v36.v c35, cown (OwnS 3 (roE rdInt)) p5.2 p5.1.v r3]) ?_ ?_
    · replace hF := hio18
      refine CW_block (K_region ?_)
      obtain ⟨x23, hx24, hF⟩ := bind_some hF
      have hi22 := ix_chk hx24
      obtain ⟨hp25, hx26⟩ := ix_some hx24
      refine C_idxO sl22 ty3.sz (.tmp rfl rfl) (.tmp rfl rfl) (.t .h) hi22 (fun k20 hk21 => ?_)
      refine C_ldO (w := (.int .i64 x23)) ag3 (.tmp rfl rfl) (.t .h) hk21 hx26 lo3_0 ?_
      refine Ca (.int .i64 x23) rfl rfl ?_
      refine C_nil (K_region (Cm (.int .i64 x23) rfl rfl ?_))
      obtain ⟨r27, hx28, hF⟩ := bind_some hF
      refine C_x0 .nil (X_callS cf161 (.cons (.tmp rfl rfl) .nil) (i_isValue_ok x23 _ hx28)) (fun _ => ?_)
      refine C_nil (CW_cond (b := r27) (.tmp rfl rfl) (fun hb34 => ?_) (fun hb34 => ?_))
      · rw [if_pos hb34] at hF
        refine CW_region (Cm v7.v rfl rfl ?_)
        refine Cm (.int .i64 x23) rfl rfl ?_
        refine C_new rfl (N_buildSliceT (g := true) sl22 ty3 (.cons (.tmp rfl rfl) .nil) (vs := [(.int .i64 x23)]) rfl rfl rfl (by intro v hv; simp at hv; rcases hv with rfl <;> rfl)) (fun k30 => ?_)
        refine C_conv (.cons .h .nil) (own_lit (Ro := (roE rdInt)) (E := 3) (F := ([] ++ [])) (xs := ([x23] : List Int)) (MkL_cons (Mk_pure (fun _ => rfl)) MkL_nil apps) rfl rfl) apps ?_
        obtain ⟨z31, hx32, hF⟩ := bind_some hF
        refine C_x1 (.cons (.t .h) (.cons .h .nil)) (X_appendO (Ro := (roE rdInt)) sl22 ni22 ty3 rfl rfl rfl (.tmp rfl rfl) (.tmp rfl rfl) hx32 src_own) (fun p33 => ?_)
        refine Ca p33.1.v rfl rfl ?_
        refine C_nil ?_
        obtain rfl := Option.some.inj hF
        exact ⟨_, p33.1, p33.2, _, rfl, (EqL.cons rfl (EqL.cons rfl (EqL.cons rfl (EqL.cons rfl (EqL.nil))))).eq, (.sel (.cons .h (.cons .h .nil)))⟩
      rw [if_neg (by rw [hb34]; exact Bool.false_ne_true)] at hF
      refine CW_skip ?_
      obtain rfl := Option.some.inj hF
      exact ⟨_, v7, F8, _, rfl, (EqL.cons rfl (EqL.cons rfl (EqL.cons rfl (EqL.cons rfl (EqL.nil))))).eq, (.sel (.cons .h (.cons .h .nil)))⟩
    rintro _ _ ⟨c35, v36, F37, g38, rfl, rfl, hE⟩
    replace hF := hO19
    clear hO19
    try dsimp only at hF
    refine K_ent hE ?_
    refine CW_region (C_val (V_add (i := c9) (j := 1) (.tmp rfl rfl) (.int _ _)) ?_)
    refine Cm (.int .i64 (IntKind.i64.wrap (c9 + 1))) rfl rfl ?_
    refine C_nil ?_
    exact ⟨m10, Nat.lt_succ_self _, _, _, _, v36, F37, (EqL.cons rfl (EqL.cons rfl (EqL.cons rfl (EqL.cons rfl (EqL.nil))))).eq, (.sel (.cons .h (.cons .h .nil))), hF⟩
  rw [if_neg (by rw [hb45]; exact Bool.false_ne_true)] at hF
  refine CW_exit ?_
  iterate 2 refine CThen_exit ?_
  refine CIn_self (K_region (Cm v7.v rfl rfl ?_))
  obtain ⟨r39, hx40, hF⟩ := bind_some hF
  refine C_x1 (.cons .h .nil) (X_callS cf217 (.cons (.tmp rfl rfl) .nil) (g_slices_Sort_int_int_ok c6 v7 F8 _ hx40)) (fun p41 => ?_)
  refine C_nil (K_region (Cm v7.v rfl rfl ?_))
  obtain ⟨r42, hx43, hF⟩ := bind_some hF
  refine C_x1 (.cons .h .nil) (X_callS cf218 (.cons (.tmp rfl rfl) .nil) (g_slices_Compact_int_int_ok r39 v7 p41 _ hx43)) (fun p44 => ?_)
  refine Ca p44.1.v rfl rfl ?_
  refine C_nil (CW_ret ?_)
  obtain rfl := Option.some.inj hF
  exact End_ret (p44.1, p44.2) (.tmp rfl rfl .nil) rfl (.sel (.cons .h .nil))

/-! impl.StartReach -/
def i_StartReach (a_seeds : List Int) : Option (Reached) :=
  (i_withValues a_seeds []).bind fun r2 =>
  some ({ Facts := [], Values := r2, Log := [], Rounds := 0 } : Reached)
theorem i_StartReach_ok (a_seeds : List Int) (v0_0 : Sv) (R : Reached) (hF : i_StartReach a_seeds = some R) :
    Fw.Spec Tryz.prog 134 [v0_0.v] [crd (RdS 3 rdInt) v0_0.v a_seeds] (fun p : Sv × List Nat × Sv × List Nat × Sv × List Nat => (.agg [p.1.v, p.2.2.1.v, p.2.2.2.2.1.v, (.int .i64 R.Rounds)].toArray)) (fun p => [cown (OwnS 114 ow114) p.2.1 p.1.v R.Facts, cown (OwnS 3 (roE rdInt)) p.2.2.2.1 p.2.2.1.v R.Values, cown (OwnS 80 ow80) p.2.2.2.2.2 p.2.2.2.2.1.v R.Log]) := by
  refine Spec_enter (n := 6) Tryz.func134 rfl rfl (rs := [.cell 2 110]) rfl rfl rfl ?_
  intro H0 F0
  unfold i_StartReach at hF
  refine K_region (C_new rfl (N_allocT (g := true) ty110 rfl rfl) (fun k1 => ?_))
  refine C_nil (K_region (Cm v0_0.v rfl rfl ?_))
  refine C_conv .nil (rd_nil (R := rdInt) (E := 3)) apps ?_
  obtain ⟨r2, hx3, hF⟩ := bind_some hF
  refine C_x1 (.rd (.t (.t .h)) rfl (.rd .h rfl .nil)) (X_callS cf179 (.cons (.tmp rfl rfl) (.cons EV.nilSlice .nil)) (i_withValues_ok a_seeds v0_0 [] (⟨none, 0, 0⟩) _ hx3)) (fun p4 => ?_)
  refine C_val (V_build ty110 rfl (vs := [p4.1.v]) (.cons (.tmp rfl rfl) .nil) (cells := [(.slice none 0 0), p4.1.v, (.slice none 0 0), (.int .i64 0)]) rfl) ?_
  refine C_x1 (.cons (.t (.t .h)) .nil) (X_storeB (e' := (.agg [(.slice none 0 0), p4.1.v, (.slice none 0 0), (.int .i64 0)].toArray)) (v := (.agg [(.slice none 0 0), p4.1.v, (.slice none 0 0), (.int .i64 0)].toArray)) ty110.sz (.tmp rfl rfl) (.tmp rfl rfl) rfl rfl rfl rfl rfl) (fun _ => ?_)
  refine C_nil (CW_ret ?_)
  obtain rfl := Option.some.inj hF
  exact End_ret (⟨none, 0, 0⟩, [], p4.1, p4.2, ⟨none, 0, 0⟩, []) (.cellA rfl rfl .h rfl ag110 ty110.sz rfl rfl .nil) rfl (.conv .nil (own_nil (Ro := ow114) (E := 114)) (.cons .nil) (.conv .nil (own_nil (Ro := ow80) (E := 80)) (.cons .nil) (.sel (.cons (.t .h) (.cons (.t (.t .h)) (.cons .h .nil))))))

/-! slices.Clone[[]int,int] -/
def g_slices_Clone_int_int (a_s : List Int) : Option ((List Int)) :=
  (app ([] : List Int) a_s).bind fun z5 =>
  some z5
theorem g_slices_Clone_int_int_ok (a_s : List Int) (v0_0 : Sv) (R : (List Int)) (hF : g_slices_Clone_int_int a_s = some R) :
    Fw.Spec Tryz.prog 235 [v0_0.v] [crd (RdS 3 rdInt) v0_0.v a_s] (fun p : Sv × List Nat => p.1.v) (fun p => [cown (OwnS 3 (roE rdInt)) p.2 p.1.v R]) := by
  refine Spec_enter (n := 8) Tryz.func235 rfl rfl (rs := [.tmp 2]) rfl rfl rfl ?_
  intro H0 F0
  unfold g_slices_Clone_int_int at hF
  refine K_region (C_val (V_assign (v := (.slice none 0 0)) EV.nilSlice) ?_)
  refine C_nil (K_in (K_region (Cm v0_0.v rfl rfl ?_)))
  refine C_eqNil (xs := a_s) sl22 (.tmp rfl rfl) .h crd_nilc (fun bn1 hn2 => ?_)
  refine C_nil (CW_cond (b := bn1) (.tmp rfl rfl) (fun hb3 => ?_) (fun hb3 => ?_))
  · have hnil := hn2 hb3
    replace hF : some [] = some R := by rw [hnil] at hF; simpa [app] using hF
    refine K_region (C_val (V_assign (v := (.slice none 0 0)) EV.nilSlice) ?_)
    refine C_nil (CW_ret ?_)
    obtain rfl := Option.some.inj hF
    exact End_ret (⟨none, 0, 0⟩, []) (.tmp rfl rfl .nil) rfl (.conv .nil (own_nil (Ro := (roE rdInt)) (E := 3)) (.cons .nil) (.sel (.cons .h .nil)))
  refine CW_skip (K_region (C_new rfl (N_buildSliceT (g := true) sl22 ty3 .nil (vs := []) rfl rfl rfl (by simp)) (fun k4 => ?_)))
  refine C_conv (.cons .h .nil) (own_lit (Ro := (roE rdInt)) (E := 3) (F := []) (xs := ([] : List Int)) MkL_nil rfl rfl) apps ?_
  refine Cm v0_0.v rfl rfl ?_
  obtain ⟨z5, hx6, hF⟩ := bind_some hF
  refine C_x1 (.cons .h (.rd .h rfl .nil)) (X_appendO (Ro := (roE rdInt)) sl22 ni22 ty3 rfl rfl rfl (.tmp rfl rfl) (.tmp rfl rfl) hx6 src_rd) (fun p7 => ?_)
  refine Ca p7.1.v rfl rfl ?_
  refine C_nil (CW_ret ?_)
  obtain rfl := Option.some.inj hF
  exact End_ret (p7.1, p7.2) (.tmp rfl rfl .nil) rfl (.sel (.cons .h .nil))

end Go.Proofs.YtekdaagipplhhaaGreatDoor
