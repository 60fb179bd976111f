/-
  Functions of the program as Lean functions, and that the calls return what these say: part 3. No conditions.
-/
import Derived.Shelf.Strconv.Itoa3
import Derived.Shelf.Strings.OnBuilder
import Derived.Test.YtekdaagipplhhaaGreatDoorCacheLinesG1
import Derived.KernelRfl
set_option maxRecDepth 100000
set_option maxHeartbeats 1000000
set_option linter.unusedVariables false
namespace Go.Proofs.YtekdaagipplhhaaGreatDoor
open Go Go.Fw

/-! laws.eqIntS -/
def l_eqIntS_L1 (a_b : List Int) : List Int → Nat → Option (Bool)
  | [], k4 => some true
  | x6 :: rest5, k4 => (ix a_b (k4 : Int)).bind fun x15 =>
    if ((x6 : Int) != x15) then (
      some false)
    else (
      l_eqIntS_L1 a_b rest5 (k4 + 1))
def l_eqIntS (a_a : List Int) (a_b : List Int) : Option (Bool) :=
  if (((a_a.length : Int) : Int) != (a_b.length : Int)) then (
    some false)
  else (
    l_eqIntS_L1 a_b a_a 0)
theorem l_eqIntS_ok (a_a : List Int) (v0_0 : Sv) (a_b : List Int) (v1_0 : Sv) (R : Bool) (hF : l_eqIntS a_a a_b = some R) :
    Fw.Spec Tryz.prog 22 [v0_0.v, v1_0.v] [crd (RdS 3 rdInt) v0_0.v a_a, crd (RdS 3 rdInt) v1_0.v a_b] (fun _ : Unit => (.bool R)) (fun _ => []) := by
  refine Spec_enter (n := 26) Tryz.func22 rfl rfl (rs := [.tmp 4]) rfl rfl rfl ?_
  intro H0 F0
  unfold l_eqIntS at hF
  iterate 11 refine au ?_
  refine Cc (fun hb23 => ?_) (fun hb23 => ?_)
  · rw [if_pos hb23] at hF
    iterate 4 refine au ?_
    cases hF
    exact Er ()
  rw [if_neg (nt hb23)] at hF
  iterate 5 refine au ?_
  refine CW_block (CW_loop (m := a_a.length) (fun m2 f' cs' => ∃ (g : Fr) (k4 : Nat) (rest5 : List Int), m2 = rest5.length ∧ f' = updL g [(0, v0_0.v), (1, v1_0.v), (5, (.int .i64 (k4 : Int)))] ∧ List.drop k4 a_a = rest5 ∧ Ent cs' [crd (RdS 3 rdInt) v0_0.v a_a, crd (RdS 3 rdInt) v1_0.v a_b] ∧ l_eqIntS_L1 a_b rest5 k4 = some R) ⟨_, 0, _, rfl, eqA, rfl, entA, hF⟩ ?_)
  clear hF
  rintro m2 _ _ ⟨g3, k4, rest5, rfl, rfl, hd7, hE, hF⟩
  refine K_ent hE ?_
  clear hE
  refine K_pure (c := crd (RdS 3 rdInt) v0_0.v a_a) .h crd_bound (fun hbd12 => ?_)
  rcases rest5 with _ | ⟨x6, rest5⟩
  · have hk8 := List.drop_eq_nil_iff.1 hd7
    rw [l_eqIntS_L1] at hF
    iterate 7 refine au ?_
    refine CdF ?_
    iterate 8 refine au ?_
    cases hF
    exact Er ()
  obtain ⟨hk8, hx9, hd10⟩ := drop_cons hd7
  rw [l_eqIntS_L1] at hF
  iterate 7 refine au ?_
  refine CdT ?_
  iterate 2 refine au ?_
  refine K_draw [0, 1, 2, 3, 4, 5, 6, 7, 8] [0, 0, 3, 7, 0, 0, 48, 112, 255] [] mixed (by decide +kernel) ?_
  iterate 2 refine du ?_
  refine Di hx9 (fun k13 j14 => ?_)
  refine Dl ls3_0 ?_
  iterate 2 refine du ?_
  obtain ⟨x15, hx16, hF⟩ := bind_some hF
  obtain ⟨hp17, hx18⟩ := ix_some hx16
  refine Di hx18 (fun k19 j20 => ?_)
  refine Dl ls3_0 ?_
  iterate 2 refine du ?_
  refine Cc (fun hb22 => ?_) (fun hb22 => ?_)
  · rw [if_pos hb22] at hF
    iterate 4 refine au ?_
    cases hF
    exact Er ()
  rw [if_neg (nt hb22)] at hF
  iterate 6 refine au ?_
  rw [wk k4]
  exact ⟨_, Nat.lt_succ_self _, _, k4 + 1, rest5, rfl, eqA, hd10, entA, hF⟩

/-! laws.eqMethod -/
def l_eqMethod (a_a : Method) (a_b : Method) : Option (Bool) :=
  if ((a_a.Rel : Int) != a_b.Rel) then (
    some false)
  else (
    (l_eqIntS a_a.Inputs a_b.Inputs).bind fun r3 =>
    if (!r3) then (
      some false)
    else (
      if ((a_a.Limit : Int) != a_b.Limit) then (
        some false)
      else (
        if ((a_a.Cost : Int) != a_b.Cost) then (
          some false)
        else (
          if ((a_a.Quota : Int) != a_b.Quota) then (
            some false)
          else (
            some true)))))
theorem l_eqMethod_ok (a_a : Method) (v0_1 : Sv) (a_b : Method) (v1_1 : Sv) (R : Bool) (hF : l_eqMethod a_a a_b = some R) :
    Fw.Spec Tryz.prog 72 [(.agg [(.int .i64 a_a.Rel), v0_1.v, (.int .i64 a_a.Limit), (.int .i64 a_a.Cost), (.int .i64 a_a.Quota)].toArray), (.agg [(.int .i64 a_b.Rel), v1_1.v, (.int .i64 a_b.Limit), (.int .i64 a_b.Cost), (.int .i64 a_b.Quota)].toArray)] [crd (RdS 3 rdInt) v0_1.v a_a.Inputs, crd (RdS 3 rdInt) v1_1.v a_b.Inputs] (fun _ : Unit => (.bool R)) (fun _ => []) := by
  refine Spec_enter (n := 31) Tryz.func72 rfl rfl (rs := [.tmp 4]) rfl rfl rfl ?_
  intro H0 F0
  unfold l_eqMethod at hF
  refine au ?_
  refine AbR (fun k1 => ?_)
  refine AbR (fun k2 => ?_)
  iterate 10 refine au ?_
  refine Cc (fun hb10 => ?_) (fun hb10 => ?_)
  · rw [if_pos hb10] at hF
    iterate 4 refine au ?_
    cases hF
    exact Er ()
  rw [if_neg (nt hb10)] at hF
  iterate 7 refine au ?_
  obtain ⟨r3, hx4, hF⟩ := bind_some hF
  refine Cx0 (l_eqIntS_ok _ _ _ _ _ hx4) (fun _ => ?_)
  iterate 2 refine au ?_
  refine Cc (fun hb9 => ?_) (fun hb9 => ?_)
  · rw [if_pos hb9] at hF
    iterate 4 refine au ?_
    cases hF
    exact Er ()
  rw [if_neg (nt hb9)] at hF
  iterate 9 refine au ?_
  refine Cc (fun hb8 => ?_) (fun hb8 => ?_)
  · rw [if_pos hb8] at hF
    iterate 4 refine au ?_
    cases hF
    exact Er ()
  rw [if_neg (nt hb8)] at hF
  iterate 9 refine au ?_
  refine Cc (fun hb7 => ?_) (fun hb7 => ?_)
  · rw [if_pos hb7] at hF
    iterate 4 refine au ?_
    cases hF
    exact Er ()
  rw [if_neg (nt hb7)] at hF
  iterate 9 refine au ?_
  refine Cc (fun hb6 => ?_) (fun hb6 => ?_)
  · rw [if_pos hb6] at hF
    iterate 4 refine au ?_
    cases hF
    exact Er ()
  rw [if_neg (nt hb6)] at hF
  iterate 5 refine au ?_
  cases hF
  exact Er ()

/-! laws.eqMethodS -/
def l_eqMethodS_L1 (a_b : List Method) : List Method → Nat → Option (Bool)
  | [], k4 => some true
  | x6 :: rest5, k4 => (ix a_b (k4 : Int)).bind fun x16 =>
    (l_eqMethod x6 x16).bind fun r23 =>
    if (!r23) then (
      some false)
    else (
      l_eqMethodS_L1 a_b rest5 (k4 + 1))
def l_eqMethodS (a_a : List Method) (a_b : List Method) : Option (Bool) :=
  if (((a_a.length : Int) : Int) != (a_b.length : Int)) then (
    some false)
  else (
    l_eqMethodS_L1 a_b a_a 0)
theorem l_eqMethodS_ok (a_a : List Method) (v0_0 : Sv) (a_b : List Method) (v1_0 : Sv) (R : Bool) (hF : l_eqMethodS a_a a_b = some R) :
    Fw.Spec Tryz.prog 23 [v0_0.v, v1_0.v] [crd (RdS 112 rd112) v0_0.v a_a, crd (RdS 112 rd112) v1_0.v a_b] (fun _ : Unit => (.bool R)) (fun _ => []) := by
  refine Spec_enter (n := 27) Tryz.func23 rfl rfl (rs := [.tmp 4]) rfl rfl rfl ?_
  intro H0 F0
  unfold l_eqMethodS at hF
  iterate 11 refine au ?_
  refine Cc (fun hb28 => ?_) (fun hb28 => ?_)
  · rw [if_pos hb28] at hF
    iterate 4 refine au ?_
    cases hF
    exact Er ()
  rw [if_neg (nt hb28)] at hF
  iterate 5 refine au ?_
  refine CW_block (CW_loop (m := a_a.length) (fun m2 f' cs' => ∃ (g : Fr) (k4 : Nat) (rest5 : List Method), m2 = rest5.length ∧ f' = updL g [(0, v0_0.v), (1, v1_0.v), (5, (.int .i64 (k4 : Int)))] ∧ List.drop k4 a_a = rest5 ∧ Ent cs' [crd (RdS 112 rd112) v0_0.v a_a, crd (RdS 112 rd112) v1_0.v a_b] ∧ l_eqMethodS_L1 a_b rest5 k4 = some R) ⟨_, 0, _, rfl, eqA, rfl, entA, hF⟩ ?_)
  clear hF
  rintro m2 _ _ ⟨g3, k4, rest5, rfl, rfl, hd7, hE, hF⟩
  refine K_ent hE ?_
  clear hE
  refine K_pure (c := crd (RdS 112 rd112) v0_0.v a_a) .h crd_bound (fun hbd12 => ?_)
  rcases rest5 with _ | ⟨x6, rest5⟩
  · have hk8 := List.drop_eq_nil_iff.1 hd7
    rw [l_eqMethodS_L1] at hF
    iterate 7 refine au ?_
    refine CdF ?_
    iterate 8 refine au ?_
    cases hF
    exact Er ()
  obtain ⟨hk8, hx9, hd10⟩ := drop_cons hd7
  rw [l_eqMethodS_L1] at hF
  iterate 7 refine au ?_
  refine CdT ?_
  iterate 2 refine au ?_
  refine K_draw [0, 1, 2, 3, 4, 5, 6, 7, 8, 9] [0, 0, 3, 7, 0, 0, 48, 112, 255, 511] [8] mixed (by decide +kernel) ?_
  iterate 2 refine du ?_
  refine Di hx9 (fun k13 j14 => ?_)
  refine DlA1 (ul112_0_112 x6) la112_0_112 (fun p15 => ?_)
  iterate 2 refine du ?_
  obtain ⟨x16, hx17, hF⟩ := bind_some hF
  obtain ⟨hp18, hx19⟩ := ix_some hx17
  refine Di hx19 (fun k20 j21 => ?_)
  refine DlA1 (ul112_0_112 x16) la112_0_112 (fun p22 => ?_)
  obtain ⟨r23, hx24, hF⟩ := bind_some hF
  refine Dx0 (l_eqMethod_ok _ _ _ _ _ hx24) (fun _ => ?_)
  iterate 2 refine du ?_
  refine Cc (fun hb27 => ?_) (fun hb27 => ?_)
  · rw [if_pos hb27] at hF
    iterate 4 refine au ?_
    cases hF
    exact Er ()
  rw [if_neg (nt hb27)] at hF
  iterate 6 refine au ?_
  rw [wk k4]
  exact ⟨_, Nat.lt_succ_self _, _, k4 + 1, rest5, rfl, eqA, hd10, entA, hF⟩

/-! laws.eqRule -/
def l_eqRule (a_a : Rule) (a_b : Rule) : Option (Bool) :=
  if ((a_a.From : Int) != a_b.From) then (
    some false)
  else (
    if ((a_a.To : Int) != a_b.To) then (
      some false)
    else (
      (l_eqIntS a_a.Map a_b.Map).bind fun r3 =>
      if (!r3) then (
        some false)
      else (
        some true)))
theorem l_eqRule_ok (a_a : Rule) (v0_2 : Sv) (a_b : Rule) (v1_2 : Sv) (R : Bool) (hF : l_eqRule a_a a_b = some R) :
    Fw.Spec Tryz.prog 116 [(.agg [(.int .i64 a_a.From), (.int .i64 a_a.To), v0_2.v].toArray), (.agg [(.int .i64 a_b.From), (.int .i64 a_b.To), v1_2.v].toArray)] [crd (RdS 3 rdInt) v0_2.v a_a.Map, crd (RdS 3 rdInt) v1_2.v a_b.Map] (fun _ : Unit => (.bool R)) (fun _ => []) := by
  refine Spec_enter (n := 21) Tryz.func116 rfl rfl (rs := [.tmp 4]) rfl rfl rfl ?_
  intro H0 F0
  unfold l_eqRule at hF
  refine au ?_
  refine AbR (fun k1 => ?_)
  refine AbR (fun k2 => ?_)
  iterate 10 refine au ?_
  refine Cc (fun hb8 => ?_) (fun hb8 => ?_)
  · rw [if_pos hb8] at hF
    iterate 4 refine au ?_
    cases hF
    exact Er ()
  rw [if_neg (nt hb8)] at hF
  iterate 9 refine au ?_
  refine Cc (fun hb7 => ?_) (fun hb7 => ?_)
  · rw [if_pos hb7] at hF
    iterate 4 refine au ?_
    cases hF
    exact Er ()
  rw [if_neg (nt hb7)] at hF
  iterate 7 refine au ?_
  obtain ⟨r3, hx4, hF⟩ := bind_some hF
  refine Cx0 (l_eqIntS_ok _ _ _ _ _ hx4) (fun _ => ?_)
  iterate 2 refine au ?_
  refine Cc (fun hb6 => ?_) (fun hb6 => ?_)
  · rw [if_pos hb6] at hF
    iterate 4 refine au ?_
    cases hF
    exact Er ()
  rw [if_neg (nt hb6)] at hF
  iterate 5 refine au ?_
  cases hF
  exact Er ()

/-! laws.eqRuleS -/
def l_eqRuleS_L1 (a_b : List Rule) : List Rule → Nat → Option (Bool)
  | [], k4 => some true
  | x6 :: rest5, k4 => (ix a_b (k4 : Int)).bind fun x16 =>
    (l_eqRule x6 x16).bind fun r23 =>
    if (!r23) then (
      some false)
    else (
      l_eqRuleS_L1 a_b rest5 (k4 + 1))
def l_eqRuleS (a_a : List Rule) (a_b : List Rule) : Option (Bool) :=
  if (((a_a.length : Int) : Int) != (a_b.length : Int)) then (
    some false)
  else (
    l_eqRuleS_L1 a_b a_a 0)
theorem l_eqRuleS_ok (a_a : List Rule) (v0_0 : Sv) (a_b : List Rule) (v1_0 : Sv) (R : Bool) (hF : l_eqRuleS a_a a_b = some R) :
    Fw.Spec Tryz.prog 49 [v0_0.v, v1_0.v] [crd (RdS 148 rd148) v0_0.v a_a, crd (RdS 148 rd148) v1_0.v a_b] (fun _ : Unit => (.bool R)) (fun _ => []) := by
  refine Spec_enter (n := 27) Tryz.func49 rfl rfl (rs := [.tmp 4]) rfl rfl rfl ?_
  intro H0 F0
  unfold l_eqRuleS at hF
  iterate 11 refine au ?_
  refine Cc (fun hb28 => ?_) (fun hb28 => ?_)
  · rw [if_pos hb28] at hF
    iterate 4 refine au ?_
    cases hF
    exact Er ()
  rw [if_neg (nt hb28)] at hF
  iterate 5 refine au ?_
  refine CW_block (CW_loop (m := a_a.length) (fun m2 f' cs' => ∃ (g : Fr) (k4 : Nat) (rest5 : List Rule), m2 = rest5.length ∧ f' = updL g [(0, v0_0.v), (1, v1_0.v), (5, (.int .i64 (k4 : Int)))] ∧ List.drop k4 a_a = rest5 ∧ Ent cs' [crd (RdS 148 rd148) v0_0.v a_a, crd (RdS 148 rd148) v1_0.v a_b] ∧ l_eqRuleS_L1 a_b rest5 k4 = some R) ⟨_, 0, _, rfl, eqA, rfl, entA, hF⟩ ?_)
  clear hF
  rintro m2 _ _ ⟨g3, k4, rest5, rfl, rfl, hd7, hE, hF⟩
  refine K_ent hE ?_
  clear hE
  refine K_pure (c := crd (RdS 148 rd148) v0_0.v a_a) .h crd_bound (fun hbd12 => ?_)
  rcases rest5 with _ | ⟨x6, rest5⟩
  · have hk8 := List.drop_eq_nil_iff.1 hd7
    rw [l_eqRuleS_L1] at hF
    iterate 7 refine au ?_
    refine CdF ?_
    iterate 8 refine au ?_
    cases hF
    exact Er ()
  obtain ⟨hk8, hx9, hd10⟩ := drop_cons hd7
  rw [l_eqRuleS_L1] at hF
  iterate 7 refine au ?_
  refine CdT ?_
  iterate 2 refine au ?_
  refine K_draw [0, 1, 2, 3, 4, 5, 6, 7, 8, 9] [0, 0, 3, 7, 0, 0, 48, 112, 255, 511] [8] mixed (by decide +kernel) ?_
  iterate 2 refine du ?_
  refine Di hx9 (fun k13 j14 => ?_)
  refine DlA1 (ul148_0_148 x6) la148_0_148 (fun p15 => ?_)
  iterate 2 refine du ?_
  obtain ⟨x16, hx17, hF⟩ := bind_some hF
  obtain ⟨hp18, hx19⟩ := ix_some hx17
  refine Di hx19 (fun k20 j21 => ?_)
  refine DlA1 (ul148_0_148 x16) la148_0_148 (fun p22 => ?_)
  obtain ⟨r23, hx24, hF⟩ := bind_some hF
  refine Dx0 (l_eqRule_ok _ _ _ _ _ hx24) (fun _ => ?_)
  iterate 2 refine du ?_
  refine Cc (fun hb27 => ?_) (fun hb27 => ?_)
  · rw [if_pos hb27] at hF
    iterate 4 refine au ?_
    cases hF
    exact Er ()
  rw [if_neg (nt hb27)] at hF
  iterate 6 refine au ?_
  rw [wk k4]
  exact ⟨_, Nat.lt_succ_self _, _, k4 + 1, rest5, rfl, eqA, hd10, entA, hF⟩

/-! laws.eqFact -/
def l_eqFact (a_a : Fact) (a_b : Fact) : Option (Bool) :=
  if ((a_a.Rel : Int) != a_b.Rel) then (
    some false)
  else (
    (l_eqIntS a_a.Values a_b.Values).bind fun r3 =>
    if (!r3) then (
      some false)
    else (
      some true))
theorem l_eqFact_ok (a_a : Fact) (v0_1 : Sv) (a_b : Fact) (v1_1 : Sv) (R : Bool) (hF : l_eqFact a_a a_b = some R) :
    Fw.Spec Tryz.prog 73 [(.agg [(.int .i64 a_a.Rel), v0_1.v].toArray), (.agg [(.int .i64 a_b.Rel), v1_1.v].toArray)] [crd (RdS 3 rdInt) v0_1.v a_a.Values, crd (RdS 3 rdInt) v1_1.v a_b.Values] (fun _ : Unit => (.bool R)) (fun _ => []) := by
  refine Spec_enter (n := 16) Tryz.func73 rfl rfl (rs := [.tmp 4]) rfl rfl rfl ?_
  intro H0 F0
  unfold l_eqFact at hF
  refine au ?_
  refine AbR (fun k1 => ?_)
  refine AbR (fun k2 => ?_)
  iterate 10 refine au ?_
  refine Cc (fun hb7 => ?_) (fun hb7 => ?_)
  · rw [if_pos hb7] at hF
    iterate 4 refine au ?_
    cases hF
    exact Er ()
  rw [if_neg (nt hb7)] at hF
  iterate 7 refine au ?_
  obtain ⟨r3, hx4, hF⟩ := bind_some hF
  refine Cx0 (l_eqIntS_ok _ _ _ _ _ hx4) (fun _ => ?_)
  iterate 2 refine au ?_
  refine Cc (fun hb6 => ?_) (fun hb6 => ?_)
  · rw [if_pos hb6] at hF
    iterate 4 refine au ?_
    cases hF
    exact Er ()
  rw [if_neg (nt hb6)] at hF
  iterate 5 refine au ?_
  cases hF
  exact Er ()

/-! laws.eqFactS -/
def l_eqFactS_L1 (a_b : List Fact) : List Fact → Nat → Option (Bool)
  | [], k4 => some true
  | x6 :: rest5, k4 => (ix a_b (k4 : Int)).bind fun x16 =>
    (l_eqFact x6 x16).bind fun r23 =>
    if (!r23) then (
      some false)
    else (
      l_eqFactS_L1 a_b rest5 (k4 + 1))
def l_eqFactS (a_a : List Fact) (a_b : List Fact) : Option (Bool) :=
  if (((a_a.length : Int) : Int) != (a_b.length : Int)) then (
    some false)
  else (
    l_eqFactS_L1 a_b a_a 0)
theorem l_eqFactS_ok (a_a : List Fact) (v0_0 : Sv) (a_b : List Fact) (v1_0 : Sv) (R : Bool) (hF : l_eqFactS a_a a_b = some R) :
    Fw.Spec Tryz.prog 24 [v0_0.v, v1_0.v] [crd (RdS 114 rd114) v0_0.v a_a, crd (RdS 114 rd114) v1_0.v a_b] (fun _ : Unit => (.bool R)) (fun _ => []) := by
  refine Spec_enter (n := 27) Tryz.func24 rfl rfl (rs := [.tmp 4]) rfl rfl rfl ?_
  intro H0 F0
  unfold l_eqFactS at hF
  iterate 11 refine au ?_
  refine Cc (fun hb28 => ?_) (fun hb28 => ?_)
  · rw [if_pos hb28] at hF
    iterate 4 refine au ?_
    cases hF
    exact Er ()
  rw [if_neg (nt hb28)] at hF
  iterate 5 refine au ?_
  refine CW_block (CW_loop (m := a_a.length) (fun m2 f' cs' => ∃ (g : Fr) (k4 : Nat) (rest5 : List Fact), m2 = rest5.length ∧ f' = updL g [(0, v0_0.v), (1, v1_0.v), (5, (.int .i64 (k4 : Int)))] ∧ List.drop k4 a_a = rest5 ∧ Ent cs' [crd (RdS 114 rd114) v0_0.v a_a, crd (RdS 114 rd114) v1_0.v a_b] ∧ l_eqFactS_L1 a_b rest5 k4 = some R) ⟨_, 0, _, rfl, eqA, rfl, entA, hF⟩ ?_)
  clear hF
  rintro m2 _ _ ⟨g3, k4, rest5, rfl, rfl, hd7, hE, hF⟩
  refine K_ent hE ?_
  clear hE
  refine K_pure (c := crd (RdS 114 rd114) v0_0.v a_a) .h crd_bound (fun hbd12 => ?_)
  rcases rest5 with _ | ⟨x6, rest5⟩
  · have hk8 := List.drop_eq_nil_iff.1 hd7
    rw [l_eqFactS_L1] at hF
    iterate 7 refine au ?_
    refine CdF ?_
    iterate 8 refine au ?_
    cases hF
    exact Er ()
  obtain ⟨hk8, hx9, hd10⟩ := drop_cons hd7
  rw [l_eqFactS_L1] at hF
  iterate 7 refine au ?_
  refine CdT ?_
  iterate 2 refine au ?_
  refine K_draw [0, 1, 2, 3, 4, 5, 6, 7, 8, 9] [0, 0, 3, 7, 0, 0, 48, 112, 255, 511] [8] mixed (by decide +kernel) ?_
  iterate 2 refine du ?_
  refine Di hx9 (fun k13 j14 => ?_)
  refine DlA1 (ul114_0_114 x6) la114_0_114 (fun p15 => ?_)
  iterate 2 refine du ?_
  obtain ⟨x16, hx17, hF⟩ := bind_some hF
  obtain ⟨hp18, hx19⟩ := ix_some hx17
  refine Di hx19 (fun k20 j21 => ?_)
  refine DlA1 (ul114_0_114 x16) la114_0_114 (fun p22 => ?_)
  obtain ⟨r23, hx24, hF⟩ := bind_some hF
  refine Dx0 (l_eqFact_ok _ _ _ _ _ hx24) (fun _ => ?_)
  iterate 2 refine du ?_
  refine Cc (fun hb27 => ?_) (fun hb27 => ?_)
  · rw [if_pos hb27] at hF
    iterate 4 refine au ?_
    cases hF
    exact Er ()
  rw [if_neg (nt hb27)] at hF
  iterate 6 refine au ?_
  rw [wk k4]
  exact ⟨_, Nat.lt_succ_self _, _, k4 + 1, rest5, rfl, eqA, hd10, entA, hF⟩

/-! laws.eqSource -/
def l_eqSource (a_a : Source) (a_b : Source) : Option (Bool) :=
  (l_eqFactS a_a.Facts a_b.Facts).bind fun r3 =>
  if (!r3) then (
    some false)
  else (
    if ((a_a.Version : Int) != a_b.Version) then (
      some false)
    else (
      some true))
theorem l_eqSource_ok (a_a : Source) (v0_0 : Sv) (a_b : Source) (v1_0 : Sv) (R : Bool) (hF : l_eqSource a_a a_b = some R) :
    Fw.Spec Tryz.prog 50 [(.agg [v0_0.v, (.int .i64 a_a.Version)].toArray), (.agg [v1_0.v, (.int .i64 a_b.Version)].toArray)] [crd (RdS 114 rd114) v0_0.v a_a.Facts, crd (RdS 114 rd114) v1_0.v a_b.Facts] (fun _ : Unit => (.bool R)) (fun _ => []) := by
  refine Spec_enter (n := 16) Tryz.func50 rfl rfl (rs := [.tmp 4]) rfl rfl rfl ?_
  intro H0 F0
  unfold l_eqSource at hF
  refine au ?_
  refine AbR (fun k1 => ?_)
  refine AbR (fun k2 => ?_)
  iterate 8 refine au ?_
  obtain ⟨r3, hx4, hF⟩ := bind_some hF
  refine Cx0 (l_eqFactS_ok _ _ _ _ _ hx4) (fun _ => ?_)
  iterate 2 refine au ?_
  refine Cc (fun hb7 => ?_) (fun hb7 => ?_)
  · rw [if_pos hb7] at hF
    iterate 4 refine au ?_
    cases hF
    exact Er ()
  rw [if_neg (nt hb7)] at hF
  iterate 9 refine au ?_
  refine Cc (fun hb6 => ?_) (fun hb6 => ?_)
  · rw [if_pos hb6] at hF
    iterate 4 refine au ?_
    cases hF
    exact Er ()
  rw [if_neg (nt hb6)] at hF
  iterate 5 refine au ?_
  cases hF
  exact Er ()

/-! laws.eqAccess -/
def l_eqAccess (a_a : Access) (a_b : Access) : Option (Bool) :=
  if ((a_a.Method : Int) != a_b.Method) then (
    some false)
  else (
    (l_eqIntS a_a.Values a_b.Values).bind fun r3 =>
    if (!r3) then (
      some false)
    else (
      some true))
theorem l_eqAccess_ok (a_a : Access) (v0_1 : Sv) (a_b : Access) (v1_1 : Sv) (R : Bool) (hF : l_eqAccess a_a a_b = some R) :
    Fw.Spec Tryz.prog 118 [(.agg [(.int .i64 a_a.Method), v0_1.v].toArray), (.agg [(.int .i64 a_b.Method), v1_1.v].toArray)] [crd (RdS 3 rdInt) v0_1.v a_a.Values, crd (RdS 3 rdInt) v1_1.v a_b.Values] (fun _ : Unit => (.bool R)) (fun _ => []) := by
  refine Spec_enter (n := 16) Tryz.func118 rfl rfl (rs := [.tmp 4]) rfl rfl rfl ?_
  intro H0 F0
  unfold l_eqAccess at hF
  refine au ?_
  refine AbR (fun k1 => ?_)
  refine AbR (fun k2 => ?_)
  iterate 10 refine au ?_
  refine Cc (fun hb7 => ?_) (fun hb7 => ?_)
  · rw [if_pos hb7] at hF
    iterate 4 refine au ?_
    cases hF
    exact Er ()
  rw [if_neg (nt hb7)] at hF
  iterate 7 refine au ?_
  obtain ⟨r3, hx4, hF⟩ := bind_some hF
  refine Cx0 (l_eqIntS_ok _ _ _ _ _ hx4) (fun _ => ?_)
  iterate 2 refine au ?_
  refine Cc (fun hb6 => ?_) (fun hb6 => ?_)
  · rw [if_pos hb6] at hF
    iterate 4 refine au ?_
    cases hF
    exact Er ()
  rw [if_neg (nt hb6)] at hF
  iterate 5 refine au ?_
  cases hF
  exact Er ()

/-! laws.eqStored -/
def l_eqStored (a_a : Stored) (a_b : Stored) : Option (Bool) :=
  (l_eqAccess a_a.Access a_b.Access).bind fun r3 =>
  if (!r3) then (
    some false)
  else (
    (l_eqFactS a_a.Facts a_b.Facts).bind fun r6 =>
    if (!r6) then (
      some false)
    else (
      if ((a_a.At : Int) != a_b.At) then (
        some false)
      else (
        some true)))
theorem l_eqStored_ok (a_a : Stored) (v0_1 : Sv) (v0_2 : Sv) (a_b : Stored) (v1_1 : Sv) (v1_2 : Sv) (R : Bool) (hF : l_eqStored a_a a_b = some R) :
    Fw.Spec Tryz.prog 167 [(.agg [(.int .i64 a_a.Access.Method), v0_1.v, v0_2.v, (.int .i64 a_a.At)].toArray), (.agg [(.int .i64 a_b.Access.Method), v1_1.v, v1_2.v, (.int .i64 a_b.At)].toArray)] [crd (RdS 3 rdInt) v0_1.v a_a.Access.Values, crd (RdS 114 rd114) v0_2.v a_a.Facts, crd (RdS 3 rdInt) v1_1.v a_b.Access.Values, crd (RdS 114 rd114) v1_2.v a_b.Facts] (fun _ : Unit => (.bool R)) (fun _ => []) := by
  refine Spec_enter (n := 22) Tryz.func167 rfl rfl (rs := [.tmp 4]) rfl rfl rfl ?_
  intro H0 F0
  unfold l_eqStored at hF
  refine au ?_
  refine AbR (fun k1 => ?_)
  refine AbR (fun k2 => ?_)
  iterate 5 refine au ?_
  refine C_at (.t .h) (fun hp => V_loadA (s := 2) (l := [(.int .i64 a_a.Access.Method), v0_1.v]) ag80.h ty80.h.sz (.tmp rfl rfl) hp.2 rfl (by decide) (Nat.le_of_ble_eq_true rfl) rfl) ?_
  refine au ?_
  refine C_at .h (fun hp => V_loadA (s := 2) (l := [(.int .i64 a_b.Access.Method), v1_1.v]) ag80.h ty80.h.sz (.tmp rfl rfl) hp.2 rfl (by decide) (Nat.le_of_ble_eq_true rfl) rfl) ?_
  obtain ⟨r3, hx4, hF⟩ := bind_some hF
  refine Cx0 (l_eqAccess_ok _ _ _ _ _ hx4) (fun _ => ?_)
  iterate 2 refine au ?_
  refine Cc (fun hb11 => ?_) (fun hb11 => ?_)
  · rw [if_pos hb11] at hF
    iterate 4 refine au ?_
    cases hF
    exact Er ()
  rw [if_neg (nt hb11)] at hF
  iterate 7 refine au ?_
  obtain ⟨r6, hx7, hF⟩ := bind_some hF
  refine Cx0 (l_eqFactS_ok _ _ _ _ _ hx7) (fun _ => ?_)
  iterate 2 refine au ?_
  refine Cc (fun hb10 => ?_) (fun hb10 => ?_)
  · rw [if_pos hb10] at hF
    iterate 4 refine au ?_
    cases hF
    exact Er ()
  rw [if_neg (nt hb10)] at hF
  iterate 9 refine au ?_
  refine Cc (fun hb9 => ?_) (fun hb9 => ?_)
  · rw [if_pos hb9] at hF
    iterate 4 refine au ?_
    cases hF
    exact Er ()
  rw [if_neg (nt hb9)] at hF
  iterate 5 refine au ?_
  cases hF
  exact Er ()

/-! laws.eqStoredS -/
def l_eqStoredS_L1 (a_b : List Stored) : List Stored → Nat → Option (Bool)
  | [], k4 => some true
  | x6 :: rest5, k4 => (ix a_b (k4 : Int)).bind fun x16 =>
    (l_eqStored x6 x16).bind fun r23 =>
    if (!r23) then (
      some false)
    else (
      l_eqStoredS_L1 a_b rest5 (k4 + 1))
def l_eqStoredS (a_a : List Stored) (a_b : List Stored) : Option (Bool) :=
  if (((a_a.length : Int) : Int) != (a_b.length : Int)) then (
    some false)
  else (
    l_eqStoredS_L1 a_b a_a 0)
theorem l_eqStoredS_ok (a_a : List Stored) (v0_0 : Sv) (a_b : List Stored) (v1_0 : Sv) (R : Bool) (hF : l_eqStoredS a_a a_b = some R) :
    Fw.Spec Tryz.prog 117 [v0_0.v, v1_0.v] [crd (RdS 82 rd82) v0_0.v a_a, crd (RdS 82 rd82) v1_0.v a_b] (fun _ : Unit => (.bool R)) (fun _ => []) := by
  refine Spec_enter (n := 27) Tryz.func117 rfl rfl (rs := [.tmp 4]) rfl rfl rfl ?_
  intro H0 F0
  unfold l_eqStoredS at hF
  iterate 11 refine au ?_
  refine Cc (fun hb28 => ?_) (fun hb28 => ?_)
  · rw [if_pos hb28] at hF
    iterate 4 refine au ?_
    cases hF
    exact Er ()
  rw [if_neg (nt hb28)] at hF
  iterate 5 refine au ?_
  refine CW_block (CW_loop (m := a_a.length) (fun m2 f' cs' => ∃ (g : Fr) (k4 : Nat) (rest5 : List Stored), m2 = rest5.length ∧ f' = updL g [(0, v0_0.v), (1, v1_0.v), (5, (.int .i64 (k4 : Int)))] ∧ List.drop k4 a_a = rest5 ∧ Ent cs' [crd (RdS 82 rd82) v0_0.v a_a, crd (RdS 82 rd82) v1_0.v a_b] ∧ l_eqStoredS_L1 a_b rest5 k4 = some R) ⟨_, 0, _, rfl, eqA, rfl, entA, hF⟩ ?_)
  clear hF
  rintro m2 _ _ ⟨g3, k4, rest5, rfl, rfl, hd7, hE, hF⟩
  refine K_ent hE ?_
  clear hE
  refine K_pure (c := crd (RdS 82 rd82) v0_0.v a_a) .h crd_bound (fun hbd12 => ?_)
  rcases rest5 with _ | ⟨x6, rest5⟩
  · have hk8 := List.drop_eq_nil_iff.1 hd7
    rw [l_eqStoredS_L1] at hF
    iterate 7 refine au ?_
    refine CdF ?_
    iterate 8 refine au ?_
    cases hF
    exact Er ()
  obtain ⟨hk8, hx9, hd10⟩ := drop_cons hd7
  rw [l_eqStoredS_L1] at hF
  iterate 7 refine au ?_
  refine CdT ?_
  iterate 2 refine au ?_
  refine K_draw [0, 1, 2, 3, 4, 5, 6, 7, 8, 9] [0, 0, 3, 7, 0, 0, 48, 112, 255, 511] [8] mixed (by decide +kernel) ?_
  iterate 2 refine du ?_
  refine Di hx9 (fun k13 j14 => ?_)
  refine DlA2 (ul82_0_82 x6) la82_0_82 (fun p15 => ?_)
  iterate 2 refine du ?_
  obtain ⟨x16, hx17, hF⟩ := bind_some hF
  obtain ⟨hp18, hx19⟩ := ix_some hx17
  refine Di hx19 (fun k20 j21 => ?_)
  refine DlA2 (ul82_0_82 x16) la82_0_82 (fun p22 => ?_)
  obtain ⟨r23, hx24, hF⟩ := bind_some hF
  refine Dx0 (l_eqStored_ok _ _ _ _ _ _ _ hx24) (fun _ => ?_)
  iterate 2 refine du ?_
  refine Cc (fun hb27 => ?_) (fun hb27 => ?_)
  · rw [if_pos hb27] at hF
    iterate 4 refine au ?_
    cases hF
    exact Er ()
  rw [if_neg (nt hb27)] at hF
  iterate 6 refine au ?_
  rw [wk k4]
  exact ⟨_, Nat.lt_succ_self _, _, k4 + 1, rest5, rfl, eqA, hd10, entA, hF⟩

/-! laws.eqCache -/
def l_eqCache (a_a : Cache) (a_b : Cache) : Option (Bool) :=
  (l_eqStoredS a_a.Entries a_b.Entries).bind fun r3 =>
  if (!r3) then (
    some false)
  else (
    if ((a_a.Age : Int) != a_b.Age) then (
      some false)
    else (
      some true))
theorem l_eqCache_ok (a_a : Cache) (v0_0 : Sv) (a_b : Cache) (v1_0 : Sv) (R : Bool) (hF : l_eqCache a_a a_b = some R) :
    Fw.Spec Tryz.prog 51 [(.agg [v0_0.v, (.int .i64 a_a.Age)].toArray), (.agg [v1_0.v, (.int .i64 a_b.Age)].toArray)] [crd (RdS 82 rd82) v0_0.v a_a.Entries, crd (RdS 82 rd82) v1_0.v a_b.Entries] (fun _ : Unit => (.bool R)) (fun _ => []) := by
  refine Spec_enter (n := 16) Tryz.func51 rfl rfl (rs := [.tmp 4]) rfl rfl rfl ?_
  intro H0 F0
  unfold l_eqCache at hF
  refine au ?_
  refine AbR (fun k1 => ?_)
  refine AbR (fun k2 => ?_)
  iterate 8 refine au ?_
  obtain ⟨r3, hx4, hF⟩ := bind_some hF
  refine Cx0 (l_eqStoredS_ok _ _ _ _ _ hx4) (fun _ => ?_)
  iterate 2 refine au ?_
  refine Cc (fun hb7 => ?_) (fun hb7 => ?_)
  · rw [if_pos hb7] at hF
    iterate 4 refine au ?_
    cases hF
    exact Er ()
  rw [if_neg (nt hb7)] at hF
  iterate 9 refine au ?_
  refine Cc (fun hb6 => ?_) (fun hb6 => ?_)
  · rw [if_pos hb6] at hF
    iterate 4 refine au ?_
    cases hF
    exact Er ()
  rw [if_neg (nt hb6)] at hF
  iterate 5 refine au ?_
  cases hF
  exact Er ()

/-! laws.eqAccessS -/
def l_eqAccessS_L1 (a_b : List Access) : List Access → Nat → Option (Bool)
  | [], k4 => some true
  | x6 :: rest5, k4 => (ix a_b (k4 : Int)).bind fun x16 =>
    (l_eqAccess x6 x16).bind fun r23 =>
    if (!r23) then (
      some false)
    else (
      l_eqAccessS_L1 a_b rest5 (k4 + 1))
def l_eqAccessS (a_a : List Access) (a_b : List Access) : Option (Bool) :=
  if (((a_a.length : Int) : Int) != (a_b.length : Int)) then (
    some false)
  else (
    l_eqAccessS_L1 a_b a_a 0)
theorem l_eqAccessS_ok (a_a : List Access) (v0_0 : Sv) (a_b : List Access) (v1_0 : Sv) (R : Bool) (hF : l_eqAccessS a_a a_b = some R) :
    Fw.Spec Tryz.prog 52 [v0_0.v, v1_0.v] [crd (RdS 80 rd80) v0_0.v a_a, crd (RdS 80 rd80) v1_0.v a_b] (fun _ : Unit => (.bool R)) (fun _ => []) := by
  refine Spec_enter (n := 27) Tryz.func52 rfl rfl (rs := [.tmp 4]) rfl rfl rfl ?_
  intro H0 F0
  unfold l_eqAccessS at hF
  iterate 11 refine au ?_
  refine Cc (fun hb28 => ?_) (fun hb28 => ?_)
  · rw [if_pos hb28] at hF
    iterate 4 refine au ?_
    cases hF
    exact Er ()
  rw [if_neg (nt hb28)] at hF
  iterate 5 refine au ?_
  refine CW_block (CW_loop (m := a_a.length) (fun m2 f' cs' => ∃ (g : Fr) (k4 : Nat) (rest5 : List Access), m2 = rest5.length ∧ f' = updL g [(0, v0_0.v), (1, v1_0.v), (5, (.int .i64 (k4 : Int)))] ∧ List.drop k4 a_a = rest5 ∧ Ent cs' [crd (RdS 80 rd80) v0_0.v a_a, crd (RdS 80 rd80) v1_0.v a_b] ∧ l_eqAccessS_L1 a_b rest5 k4 = some R) ⟨_, 0, _, rfl, eqA, rfl, entA, hF⟩ ?_)
  clear hF
  rintro m2 _ _ ⟨g3, k4, rest5, rfl, rfl, hd7, hE, hF⟩
  refine K_ent hE ?_
  clear hE
  refine K_pure (c := crd (RdS 80 rd80) v0_0.v a_a) .h crd_bound (fun hbd12 => ?_)
  rcases rest5 with _ | ⟨x6, rest5⟩
  · have hk8 := List.drop_eq_nil_iff.1 hd7
    rw [l_eqAccessS_L1] at hF
    iterate 7 refine au ?_
    refine CdF ?_
    iterate 8 refine au ?_
    cases hF
    exact Er ()
  obtain ⟨hk8, hx9, hd10⟩ := drop_cons hd7
  rw [l_eqAccessS_L1] at hF
  iterate 7 refine au ?_
  refine CdT ?_
  iterate 2 refine au ?_
  refine K_draw [0, 1, 2, 3, 4, 5, 6, 7, 8, 9] [0, 0, 3, 7, 0, 0, 48, 112, 255, 511] [8] mixed (by decide +kernel) ?_
  iterate 2 refine du ?_
  refine Di hx9 (fun k13 j14 => ?_)
  refine DlA1 (ul80_0_80 x6) la80_0_80 (fun p15 => ?_)
  iterate 2 refine du ?_
  obtain ⟨x16, hx17, hF⟩ := bind_some hF
  obtain ⟨hp18, hx19⟩ := ix_some hx17
  refine Di hx19 (fun k20 j21 => ?_)
  refine DlA1 (ul80_0_80 x16) la80_0_80 (fun p22 => ?_)
  obtain ⟨r23, hx24, hF⟩ := bind_some hF
  refine Dx0 (l_eqAccess_ok _ _ _ _ _ hx24) (fun _ => ?_)
  iterate 2 refine du ?_
  refine Cc (fun hb27 => ?_) (fun hb27 => ?_)
  · rw [if_pos hb27] at hF
    iterate 4 refine au ?_
    cases hF
    exact Er ()
  rw [if_neg (nt hb27)] at hF
  iterate 6 refine au ?_
  rw [wk k4]
  exact ⟨_, Nat.lt_succ_self _, _, k4 + 1, rest5, rfl, eqA, hd10, entA, hF⟩

/-! laws.eqIntSS -/
def l_eqIntSS_L1 (a_b : List (List Int)) : List (List Int) → Nat → Option (Bool)
  | [], k4 => some true
  | x6 :: rest5, k4 => (ix a_b (k4 : Int)).bind fun x16 =>
    (l_eqIntS x6 x16).bind fun r23 =>
    if (!r23) then (
      some false)
    else (
      l_eqIntSS_L1 a_b rest5 (k4 + 1))
def l_eqIntSS (a_a : List (List Int)) (a_b : List (List Int)) : Option (Bool) :=
  if (((a_a.length : Int) : Int) != (a_b.length : Int)) then (
    some false)
  else (
    l_eqIntSS_L1 a_b a_a 0)
theorem l_eqIntSS_ok (a_a : List (List Int)) (v0_0 : Sv) (a_b : List (List Int)) (v1_0 : Sv) (R : Bool) (hF : l_eqIntSS a_a a_b = some R) :
    Fw.Spec Tryz.prog 119 [v0_0.v, v1_0.v] [crd (RdS 22 (RdS 3 rdInt)) v0_0.v a_a, crd (RdS 22 (RdS 3 rdInt)) v1_0.v a_b] (fun _ : Unit => (.bool R)) (fun _ => []) := by
  refine Spec_enter (n := 27) Tryz.func119 rfl rfl (rs := [.tmp 4]) rfl rfl rfl ?_
  intro H0 F0
  unfold l_eqIntSS at hF
  iterate 11 refine au ?_
  refine Cc (fun hb28 => ?_) (fun hb28 => ?_)
  · rw [if_pos hb28] at hF
    iterate 4 refine au ?_
    cases hF
    exact Er ()
  rw [if_neg (nt hb28)] at hF
  iterate 5 refine au ?_
  refine CW_block (CW_loop (m := a_a.length) (fun m2 f' cs' => ∃ (g : Fr) (k4 : Nat) (rest5 : List (List Int)), m2 = rest5.length ∧ f' = updL g [(0, v0_0.v), (1, v1_0.v), (5, (.int .i64 (k4 : Int)))] ∧ List.drop k4 a_a = rest5 ∧ Ent cs' [crd (RdS 22 (RdS 3 rdInt)) v0_0.v a_a, crd (RdS 22 (RdS 3 rdInt)) v1_0.v a_b] ∧ l_eqIntSS_L1 a_b rest5 k4 = some R) ⟨_, 0, _, rfl, eqA, rfl, entA, hF⟩ ?_)
  clear hF
  rintro m2 _ _ ⟨g3, k4, rest5, rfl, rfl, hd7, hE, hF⟩
  refine K_ent hE ?_
  clear hE
  refine K_pure (c := crd (RdS 22 (RdS 3 rdInt)) v0_0.v a_a) .h crd_bound (fun hbd12 => ?_)
  rcases rest5 with _ | ⟨x6, rest5⟩
  · have hk8 := List.drop_eq_nil_iff.1 hd7
    rw [l_eqIntSS_L1] at hF
    iterate 7 refine au ?_
    refine CdF ?_
    iterate 8 refine au ?_
    cases hF
    exact Er ()
  obtain ⟨hk8, hx9, hd10⟩ := drop_cons hd7
  rw [l_eqIntSS_L1] at hF
  iterate 7 refine au ?_
  refine CdT ?_
  iterate 2 refine au ?_
  refine K_draw [0, 1, 2, 3, 4, 5, 6, 7, 8, 9] [0, 0, 3, 7, 0, 0, 48, 112, 255, 511] [8] mixed (by decide +kernel) ?_
  iterate 2 refine du ?_
  refine Di hx9 (fun k13 j14 => ?_)
  refine D_ldV (R' := (RdS 3 rdInt)) ag22.h rfl .no (.tmp rfl rfl) rfl .h lv22_0 (fun w15 => ?_)
  iterate 2 refine du ?_
  obtain ⟨x16, hx17, hF⟩ := bind_some hF
  obtain ⟨hp18, hx19⟩ := ix_some hx17
  refine Di hx19 (fun k20 j21 => ?_)
  refine D_ldV (R' := (RdS 3 rdInt)) ag22.h rfl .no (.tmp rfl rfl) rfl .h lv22_0 (fun w22 => ?_)
  obtain ⟨r23, hx24, hF⟩ := bind_some hF
  refine Dx0 (l_eqIntS_ok _ _ _ _ _ hx24) (fun _ => ?_)
  iterate 2 refine du ?_
  refine Cc (fun hb27 => ?_) (fun hb27 => ?_)
  · rw [if_pos hb27] at hF
    iterate 4 refine au ?_
    cases hF
    exact Er ()
  rw [if_neg (nt hb27)] at hF
  iterate 6 refine au ?_
  rw [wk k4]
  exact ⟨_, Nat.lt_succ_self _, _, k4 + 1, rest5, rfl, eqA, hd10, entA, hF⟩

/-! laws.eqIntSSS -/
def l_eqIntSSS_L1 (a_b : List (List (List Int))) : List (List (List Int)) → Nat → Option (Bool)
  | [], k4 => some true
  | x6 :: rest5, k4 => (ix a_b (k4 : Int)).bind fun x16 =>
    (l_eqIntSS x6 x16).bind fun r23 =>
    if (!r23) then (
      some false)
    else (
      l_eqIntSSS_L1 a_b rest5 (k4 + 1))
def l_eqIntSSS (a_a : List (List (List Int))) (a_b : List (List (List Int))) : Option (Bool) :=
  if (((a_a.length : Int) : Int) != (a_b.length : Int)) then (
    some false)
  else (
    l_eqIntSSS_L1 a_b a_a 0)
theorem l_eqIntSSS_ok (a_a : List (List (List Int))) (v0_0 : Sv) (a_b : List (List (List Int))) (v1_0 : Sv) (R : Bool) (hF : l_eqIntSSS a_a a_b = some R) :
    Fw.Spec Tryz.prog 53 [v0_0.v, v1_0.v] [crd (RdS 139 (RdS 22 (RdS 3 rdInt))) v0_0.v a_a, crd (RdS 139 (RdS 22 (RdS 3 rdInt))) v1_0.v a_b] (fun _ : Unit => (.bool R)) (fun _ => []) := by
  refine Spec_enter (n := 27) Tryz.func53 rfl rfl (rs := [.tmp 4]) rfl rfl rfl ?_
  intro H0 F0
  unfold l_eqIntSSS at hF
  iterate 11 refine au ?_
  refine Cc (fun hb28 => ?_) (fun hb28 => ?_)
  · rw [if_pos hb28] at hF
    iterate 4 refine au ?_
    cases hF
    exact Er ()
  rw [if_neg (nt hb28)] at hF
  iterate 5 refine au ?_
  refine CW_block (CW_loop (m := a_a.length) (fun m2 f' cs' => ∃ (g : Fr) (k4 : Nat) (rest5 : List (List (List Int))), m2 = rest5.length ∧ f' = updL g [(0, v0_0.v), (1, v1_0.v), (5, (.int .i64 (k4 : Int)))] ∧ List.drop k4 a_a = rest5 ∧ Ent cs' [crd (RdS 139 (RdS 22 (RdS 3 rdInt))) v0_0.v a_a, crd (RdS 139 (RdS 22 (RdS 3 rdInt))) v1_0.v a_b] ∧ l_eqIntSSS_L1 a_b rest5 k4 = some R) ⟨_, 0, _, rfl, eqA, rfl, entA, hF⟩ ?_)
  clear hF
  rintro m2 _ _ ⟨g3, k4, rest5, rfl, rfl, hd7, hE, hF⟩
  refine K_ent hE ?_
  clear hE
  refine K_pure (c := crd (RdS 139 (RdS 22 (RdS 3 rdInt))) v0_0.v a_a) .h crd_bound (fun hbd12 => ?_)
  rcases rest5 with _ | ⟨x6, rest5⟩
  · have hk8 := List.drop_eq_nil_iff.1 hd7
    rw [l_eqIntSSS_L1] at hF
    iterate 7 refine au ?_
    refine CdF ?_
    iterate 8 refine au ?_
    cases hF
    exact Er ()
  obtain ⟨hk8, hx9, hd10⟩ := drop_cons hd7
  rw [l_eqIntSSS_L1] at hF
  iterate 7 refine au ?_
  refine CdT ?_
  iterate 2 refine au ?_
  refine K_draw [0, 1, 2, 3, 4, 5, 6, 7, 8, 9] [0, 0, 3, 7, 0, 0, 48, 112, 255, 511] [8] mixed (by decide +kernel) ?_
  iterate 2 refine du ?_
  refine Di hx9 (fun k13 j14 => ?_)
  refine D_ldV (R' := (RdS 22 (RdS 3 rdInt))) ag139.h rfl .no (.tmp rfl rfl) rfl .h lv139_0 (fun w15 => ?_)
  iterate 2 refine du ?_
  obtain ⟨x16, hx17, hF⟩ := bind_some hF
  obtain ⟨hp18, hx19⟩ := ix_some hx17
  refine Di hx19 (fun k20 j21 => ?_)
  refine D_ldV (R' := (RdS 22 (RdS 3 rdInt))) ag139.h rfl .no (.tmp rfl rfl) rfl .h lv139_0 (fun w22 => ?_)
  obtain ⟨r23, hx24, hF⟩ := bind_some hF
  refine Dx0 (l_eqIntSS_ok _ _ _ _ _ hx24) (fun _ => ?_)
  iterate 2 refine du ?_
  refine Cc (fun hb27 => ?_) (fun hb27 => ?_)
  · rw [if_pos hb27] at hF
    iterate 4 refine au ?_
    cases hF
    exact Er ()
  rw [if_neg (nt hb27)] at hF
  iterate 6 refine au ?_
  rw [wk k4]
  exact ⟨_, Nat.lt_succ_self _, _, k4 + 1, rest5, rfl, eqA, hd10, entA, hF⟩

/-! laws.eqMediator -/
def l_eqMediator (a_a : Mediator) (a_b : Mediator) : Option (Bool) :=
  (l_eqIntS a_a.Schema a_b.Schema).bind fun r3 =>
  if (!r3) then (
    some false)
  else (
    (l_eqMethodS a_a.Methods a_b.Methods).bind fun r6 =>
    if (!r6) then (
      some false)
    else (
      (l_eqRuleS a_a.Rules a_b.Rules).bind fun r9 =>
      if (!r9) then (
        some false)
      else (
        (l_eqSource a_a.Source a_b.Source).bind fun r12 =>
        if (!r12) then (
          some false)
        else (
          (l_eqCache a_a.Cache a_b.Cache).bind fun r15 =>
          if (!r15) then (
            some false)
          else (
            if ((a_a.Now : Int) != a_b.Now) then (
              some false)
            else (
              (l_eqAccessS a_a.Log a_b.Log).bind fun r18 =>
              if (!r18) then (
                some false)
              else (
                (l_eqIntS a_a.Times a_b.Times).bind fun r21 =>
                if (!r21) then (
                  some false)
                else (
                  if ((a_a.Spent : Int) != a_b.Spent) then (
                    some false)
                  else (
                    (l_eqIntSSS a_a.Results a_b.Results).bind fun r24 =>
                    if (!r24) then (
                      some false)
                    else (
                      some true))))))))))
theorem l_eqMediator_ok (a_a : Mediator) (v0_0 : Sv) (v0_1 : Sv) (v0_2 : Sv) (v0_3 : Sv) (v0_5 : Sv) (v0_8 : Sv) (v0_9 : Sv) (v0_11 : Sv) (a_b : Mediator) (v1_0 : Sv) (v1_1 : Sv) (v1_2 : Sv) (v1_3 : Sv) (v1_5 : Sv) (v1_8 : Sv) (v1_9 : Sv) (v1_11 : Sv) (R : Bool) (hF : l_eqMediator a_a a_b = some R) :
    Fw.Spec Tryz.prog 11 [(.agg [v0_0.v, v0_1.v, v0_2.v, v0_3.v, (.int .i64 a_a.Source.Version), v0_5.v, (.int .i64 a_a.Cache.Age), (.int .i64 a_a.Now), v0_8.v, v0_9.v, (.int .i64 a_a.Spent), v0_11.v].toArray), (.agg [v1_0.v, v1_1.v, v1_2.v, v1_3.v, (.int .i64 a_b.Source.Version), v1_5.v, (.int .i64 a_b.Cache.Age), (.int .i64 a_b.Now), v1_8.v, v1_9.v, (.int .i64 a_b.Spent), v1_11.v].toArray)] [crd (RdS 3 rdInt) v0_0.v a_a.Schema, crd (RdS 112 rd112) v0_1.v a_a.Methods, crd (RdS 148 rd148) v0_2.v a_a.Rules, crd (RdS 114 rd114) v0_3.v a_a.Source.Facts, crd (RdS 82 rd82) v0_5.v a_a.Cache.Entries, crd (RdS 80 rd80) v0_8.v a_a.Log, crd (RdS 3 rdInt) v0_9.v a_a.Times, crd (RdS 139 (RdS 22 (RdS 3 rdInt))) v0_11.v a_a.Results, crd (RdS 3 rdInt) v1_0.v a_b.Schema, crd (RdS 112 rd112) v1_1.v a_b.Methods, crd (RdS 148 rd148) v1_2.v a_b.Rules, crd (RdS 114 rd114) v1_3.v a_b.Source.Facts, crd (RdS 82 rd82) v1_5.v a_b.Cache.Entries, crd (RdS 80 rd80) v1_8.v a_b.Log, crd (RdS 3 rdInt) v1_9.v a_b.Times, crd (RdS 139 (RdS 22 (RdS 3 rdInt))) v1_11.v a_b.Results] (fun _ : Unit => (.bool R)) (fun _ => []) := by
  refine Spec_enter (n := 63) Tryz.func11 rfl rfl (rs := [.tmp 4]) rfl rfl rfl ?_
  intro H0 F0
  unfold l_eqMediator at hF
  refine au ?_
  refine AbR (fun k1 => ?_)
  refine AbR (fun k2 => ?_)
  iterate 8 refine au ?_
  obtain ⟨r3, hx4, hF⟩ := bind_some hF
  refine Cx0 (l_eqIntS_ok _ _ _ _ _ hx4) (fun _ => ?_)
  iterate 2 refine au ?_
  refine Cc (fun hb36 => ?_) (fun hb36 => ?_)
  · rw [if_pos hb36] at hF
    iterate 4 refine au ?_
    cases hF
    exact Er ()
  rw [if_neg (nt hb36)] at hF
  iterate 7 refine au ?_
  obtain ⟨r6, hx7, hF⟩ := bind_some hF
  refine Cx0 (l_eqMethodS_ok _ _ _ _ _ hx7) (fun _ => ?_)
  iterate 2 refine au ?_
  refine Cc (fun hb35 => ?_) (fun hb35 => ?_)
  · rw [if_pos hb35] at hF
    iterate 4 refine au ?_
    cases hF
    exact Er ()
  rw [if_neg (nt hb35)] at hF
  iterate 7 refine au ?_
  obtain ⟨r9, hx10, hF⟩ := bind_some hF
  refine Cx0 (l_eqRuleS_ok _ _ _ _ _ hx10) (fun _ => ?_)
  iterate 2 refine au ?_
  refine Cc (fun hb34 => ?_) (fun hb34 => ?_)
  · rw [if_pos hb34] at hF
    iterate 4 refine au ?_
    cases hF
    exact Er ()
  rw [if_neg (nt hb34)] at hF
  iterate 4 refine au ?_
  refine C_at (.t .h) (fun hp => V_loadA (s := 2) (l := [v0_3.v, (.int .i64 a_a.Source.Version)]) ag42.h ty42.h.sz (.tmp rfl rfl) hp.2 rfl (by decide) (Nat.le_of_ble_eq_true rfl) rfl) ?_
  refine au ?_
  refine C_at .h (fun hp => V_loadA (s := 2) (l := [v1_3.v, (.int .i64 a_b.Source.Version)]) ag42.h ty42.h.sz (.tmp rfl rfl) hp.2 rfl (by decide) (Nat.le_of_ble_eq_true rfl) rfl) ?_
  obtain ⟨r12, hx13, hF⟩ := bind_some hF
  refine Cx0 (l_eqSource_ok _ _ _ _ _ hx13) (fun _ => ?_)
  iterate 2 refine au ?_
  refine Cc (fun hb33 => ?_) (fun hb33 => ?_)
  · rw [if_pos hb33] at hF
    iterate 4 refine au ?_
    cases hF
    exact Er ()
  rw [if_neg (nt hb33)] at hF
  iterate 4 refine au ?_
  refine C_at (.t .h) (fun hp => V_loadA (s := 2) (l := [v0_5.v, (.int .i64 a_a.Cache.Age)]) ag45.h ty45.h.sz (.tmp rfl rfl) hp.2 rfl (by decide) (Nat.le_of_ble_eq_true rfl) rfl) ?_
  refine au ?_
  refine C_at .h (fun hp => V_loadA (s := 2) (l := [v1_5.v, (.int .i64 a_b.Cache.Age)]) ag45.h ty45.h.sz (.tmp rfl rfl) hp.2 rfl (by decide) (Nat.le_of_ble_eq_true rfl) rfl) ?_
  obtain ⟨r15, hx16, hF⟩ := bind_some hF
  refine Cx0 (l_eqCache_ok _ _ _ _ _ hx16) (fun _ => ?_)
  iterate 2 refine au ?_
  refine Cc (fun hb32 => ?_) (fun hb32 => ?_)
  · rw [if_pos hb32] at hF
    iterate 4 refine au ?_
    cases hF
    exact Er ()
  rw [if_neg (nt hb32)] at hF
  iterate 9 refine au ?_
  refine Cc (fun hb31 => ?_) (fun hb31 => ?_)
  · rw [if_pos hb31] at hF
    iterate 4 refine au ?_
    cases hF
    exact Er ()
  rw [if_neg (nt hb31)] at hF
  iterate 7 refine au ?_
  obtain ⟨r18, hx19, hF⟩ := bind_some hF
  refine Cx0 (l_eqAccessS_ok _ _ _ _ _ hx19) (fun _ => ?_)
  iterate 2 refine au ?_
  refine Cc (fun hb30 => ?_) (fun hb30 => ?_)
  · rw [if_pos hb30] at hF
    iterate 4 refine au ?_
    cases hF
    exact Er ()
  rw [if_neg (nt hb30)] at hF
  iterate 7 refine au ?_
  obtain ⟨r21, hx22, hF⟩ := bind_some hF
  refine Cx0 (l_eqIntS_ok _ _ _ _ _ hx22) (fun _ => ?_)
  iterate 2 refine au ?_
  refine Cc (fun hb29 => ?_) (fun hb29 => ?_)
  · rw [if_pos hb29] at hF
    iterate 4 refine au ?_
    cases hF
    exact Er ()
  rw [if_neg (nt hb29)] at hF
  iterate 9 refine au ?_
  refine Cc (fun hb28 => ?_) (fun hb28 => ?_)
  · rw [if_pos hb28] at hF
    iterate 4 refine au ?_
    cases hF
    exact Er ()
  rw [if_neg (nt hb28)] at hF
  iterate 7 refine au ?_
  obtain ⟨r24, hx25, hF⟩ := bind_some hF
  refine Cx0 (l_eqIntSSS_ok _ _ _ _ _ hx25) (fun _ => ?_)
  iterate 2 refine au ?_
  refine Cc (fun hb27 => ?_) (fun hb27 => ?_)
  · rw [if_pos hb27] at hF
    iterate 4 refine au ?_
    cases hF
    exact Er ()
  rw [if_neg (nt hb27)] at hF
  iterate 5 refine au ?_
  cases hF
  exact Er ()

/-! laws.markIntS -/
def l_markIntS_L1 : Nat → (List Int) → Int → Int → Option (Int × (List Int))
  | 0, _, _, _ => none
  | m23 + 1, c19, c21, c22 => if (decide ((c22 : Int) < (c19.length : Int))) then (
      (chk (decide (0 ≤ c22) && decide (c22 < (c19.length : Int)))).bind fun u34 =>
      (some (c19.set (c22).toNat c21)).bind fun z36 =>
      l_markIntS_L1 m23 z36 (IntKind.i64.wrap (c21 + 1)) (IntKind.i64.wrap (c22 + 1)))
    else (
      some (c21, c19))
def l_markIntS (a_a : List Int) (a_k : Int) : Option (Int × (List Int)) :=
  l_markIntS_L1 (((a_a.length : Int) - 0).toNat + 2) a_a a_k 0
theorem l_markIntS_ok (a_a : List Int) (v0_0 : Sv) (F0_0 : List Nat) (a_k : Int) (R : Int × (List Int)) (hF : l_markIntS a_a a_k = some R) :
    Fw.Spec Tryz.prog 54 [v0_0.v, (.int .i64 a_k)] [cown (OwnS 3 (roE rdInt)) F0_0 v0_0.v a_a] (fun _ : List Nat => (.int .i64 R.1)) (fun p => [cown (OwnS 3 (roE rdInt)) p v0_0.v R.2]) := by
  refine Spec_enter (n := 19) Tryz.func54 rfl rfl (rs := [.tmp 4]) rfl rfl rfl ?_
  intro H0 F0
  unfold l_markIntS at hF
  iterate 7 refine au ?_
  refine CW_block (CW_loop (m := (((a_a.length : Int) - 0).toNat + 2)) (fun m23 f' cs' => ∃ (g : Fr) (c19 : List Int) (c21 : Int) (c22 : Int) (F20 : List Nat), f' = updL g [(0, v0_0.v), (1, (.int .i64 c21)), (5, (.int .i64 c22))] ∧ Ent cs' [cown (OwnS 3 (roE rdInt)) F20 v0_0.v c19] ∧ l_markIntS_L1 m23 c19 c21 c22 = some R) ⟨_, _, _, _, F0_0, eqA, entA, hF⟩ ?_)
  clear hF
  rintro m23 _ _ ⟨g24, c19, c21, c22, F20, rfl, hE, hF⟩
  refine K_ent hE ?_
  clear hE
  rcases m23 with _ | m23
  · rw [l_markIntS_L1] at hF
    exact absurd hF (by simp)
  rw [l_markIntS_L1] at hF
  iterate 7 refine au ?_
  refine Cc (fun hb39 => ?_) (fun hb39 => ?_)
  · rw [if_pos hb39] at hF
    iterate 6 refine au ?_
    obtain ⟨u34, hx35, hF⟩ := bind_some hF
    have hi33 := chk_some hx35
    refine C_idxO sl22.h ty3.h.sz (.tmp rfl rfl) (.tmp rfl rfl) .h hi33 (fun k31 hk32 => ?_)
    obtain ⟨z36, hx37, hF⟩ := bind_some hF
    replace hx37 := Option.some.inj hx37
    refine C_x1 (.cons .h .nil) (X_storeO (Ro := (roE rdInt)) (a := c21) (i := c22) ty3.h.sz rfl (.tmp rfl rfl) (.tmp rfl rfl) hk32 hi33 (Mk_pure (fun _ => rfl)) (fun _ _ _ _ h => by obtain ⟨-, h⟩ := h; cases h; rfl)) (fun F38 => ?_)
    rw [hx37]
    iterate 11 refine au ?_
    exact ⟨m23, Nat.lt_succ_self _, _, _, _, _, F38, eqA, entA, hF⟩
  rw [if_neg (nt hb39)] at hF
  iterate 9 refine au ?_
  cases hF
  exact Er F20

/-! laws.markMethodS -/
def l_markMethodS_L1 : Nat → (List Method) → Int → Int → Option (Int × (List Method))
  | 0, _, _, _ => none
  | m64 + 1, c60, c62, c63 => if (decide ((c63 : Int) < (c60.length : Int))) then (
      (ix c60 c63).bind fun x75 =>
      (some (c60.set (c63).toNat { x75 with Rel := c62 })).bind fun z79 =>
      (ix z79 c63).bind fun x84 =>
      (l_markIntS x84.Inputs (IntKind.i64.wrap (c62 + 1))).bind fun r89 =>
      (some (z79.set (c63).toNat { x84 with Inputs := r89.2 })).bind fun z92 =>
      (ix z92 c63).bind fun x97 =>
      (some (z92.set (c63).toNat { x97 with Limit := r89.1 })).bind fun z101 =>
      (ix z101 c63).bind fun x106 =>
      (some (z101.set (c63).toNat { x106 with Cost := (IntKind.i64.wrap (r89.1 + 1)) })).bind fun z110 =>
      (ix z110 c63).bind fun x115 =>
      (some (z110.set (c63).toNat { x115 with Quota := (IntKind.i64.wrap ((IntKind.i64.wrap (r89.1 + 1)) + 1)) })).bind fun z119 =>
      l_markMethodS_L1 m64 z119 (IntKind.i64.wrap ((IntKind.i64.wrap ((IntKind.i64.wrap (r89.1 + 1)) + 1)) + 1)) (IntKind.i64.wrap (c63 + 1)))
    else (
      some (c62, c60))
def l_markMethodS (a_a : List Method) (a_k : Int) : Option (Int × (List Method)) :=
  l_markMethodS_L1 (((a_a.length : Int) - 0).toNat + 2) a_a a_k 0
theorem l_markMethodS_ok (a_a : List Method) (v0_0 : Sv) (F0_0 : List Nat) (a_k : Int) (R : Int × (List Method)) (hF : l_markMethodS a_a a_k = some R) :
    Fw.Spec Tryz.prog 55 [v0_0.v, (.int .i64 a_k)] [cown (OwnS 112 ow112) F0_0 v0_0.v a_a] (fun _ : List Nat => (.int .i64 R.1)) (fun p => [cown (OwnS 112 ow112) p v0_0.v R.2]) := by
  refine Spec_enter (n := 48) Tryz.func55 rfl rfl (rs := [.tmp 4]) rfl rfl rfl ?_
  intro H0 F0
  unfold l_markMethodS at hF
  iterate 7 refine au ?_
  refine CW_block (CW_loop (m := (((a_a.length : Int) - 0).toNat + 2)) (fun m64 f' cs' => ∃ (g : Fr) (c60 : List Method) (c62 : Int) (c63 : Int) (F61 : List Nat), f' = updL g [(0, v0_0.v), (1, (.int .i64 c62)), (5, (.int .i64 c63))] ∧ Ent cs' [cown (OwnS 112 ow112) F61 v0_0.v c60] ∧ l_markMethodS_L1 m64 c60 c62 c63 = some R) ⟨_, _, _, _, F0_0, eqA, entA, hF⟩ ?_)
  clear hF
  rintro m64 _ _ ⟨g65, c60, c62, c63, F61, rfl, hE, hF⟩
  refine K_ent hE ?_
  clear hE
  rcases m64 with _ | m64
  · rw [l_markMethodS_L1] at hF
    exact absurd hF (by simp)
  rw [l_markMethodS_L1] at hF
  iterate 7 refine au ?_
  refine Cc (fun hb121 => ?_) (fun hb121 => ?_)
  · rw [if_pos hb121] at hF
    iterate 6 refine au ?_
    obtain ⟨x75, hx76, hF⟩ := bind_some hF
    have hi74 := ix_chk hx76
    obtain ⟨hp77, hx78⟩ := ix_some hx76
    refine C_idxO sl38.h ty112.h.sz (.tmp rfl rfl) (.tmp rfl rfl) .h hi74 (fun k72 hk73 => ?_)
    refine au ?_
    obtain ⟨z79, hx80, hF⟩ := bind_some hF
    replace hx80 := Option.some.inj hx80
    refine C_x1 (.cons .h .nil) (X_storeF (Ro := ow112) (i := c63) ty3.h.sz rfl (.tmp rfl rfl) (.tmp rfl rfl) hk73 hx78 rfl rfl fsf112_0 (sf112_0 (d := c62))) (fun _ => ?_)
    rw [hx80]
    iterate 9 refine au ?_
    obtain ⟨x84, hx85, hF⟩ := bind_some hF
    have hi83 := ix_chk hx85
    obtain ⟨hp86, hx87⟩ := ix_some hx85
    refine C_idxO sl38.h ty112.h.sz (.tmp rfl rfl) (.tmp rfl rfl) .h hi83 (fun k81 hk82 => ?_)
    refine au ?_
    refine C_ldOV ag22.h (.tmp rfl rfl) .h hk82 hx87 pt112_1 (fun w88 => ?_)
    refine au ?_
    obtain ⟨r89, hx90, hF⟩ := bind_some hF
    obtain ⟨z92, hx93, hF⟩ := bind_some hF
    replace hx93 := Option.some.inj hx93
    refine C_x1 (.cons .h .nil) (X_part hx87 pt112_1 (fun Fw => X_callS cf54.h (.cons (.tmp rfl rfl) (.cons (.tmp rfl rfl) .nil)) (l_markIntS_ok x84.Inputs w88 Fw (IntKind.i64.wrap (c62 + 1)) _ hx90)) rfl) (fun p91 => ?_)
    rw [hx93]
    iterate 6 refine au ?_
    obtain ⟨x97, hx98, hF⟩ := bind_some hF
    have hi96 := ix_chk hx98
    obtain ⟨hp99, hx100⟩ := ix_some hx98
    refine C_idxO sl38.h ty112.h.sz (.tmp rfl rfl) (.tmp rfl rfl) .h hi96 (fun k94 hk95 => ?_)
    refine au ?_
    obtain ⟨z101, hx102, hF⟩ := bind_some hF
    replace hx102 := Option.some.inj hx102
    refine C_x1 (.cons .h .nil) (X_storeF (Ro := ow112) (i := c63) ty3.h.sz rfl (.tmp rfl rfl) (.tmp rfl rfl) hk95 hx100 rfl rfl fsf112_2 (sf112_2 (d := r89.1))) (fun _ => ?_)
    rw [hx102]
    iterate 10 refine au ?_
    obtain ⟨x106, hx107, hF⟩ := bind_some hF
    have hi105 := ix_chk hx107
    obtain ⟨hp108, hx109⟩ := ix_some hx107
    refine C_idxO sl38.h ty112.h.sz (.tmp rfl rfl) (.tmp rfl rfl) .h hi105 (fun k103 hk104 => ?_)
    refine au ?_
    obtain ⟨z110, hx111, hF⟩ := bind_some hF
    replace hx111 := Option.some.inj hx111
    refine C_x1 (.cons .h .nil) (X_storeF (Ro := ow112) (i := c63) ty3.h.sz rfl (.tmp rfl rfl) (.tmp rfl rfl) hk104 hx109 rfl rfl fsf112_3 (sf112_3 (d := (IntKind.i64.wrap (r89.1 + 1))))) (fun _ => ?_)
    rw [hx111]
    iterate 10 refine au ?_
    obtain ⟨x115, hx116, hF⟩ := bind_some hF
    have hi114 := ix_chk hx116
    obtain ⟨hp117, hx118⟩ := ix_some hx116
    refine C_idxO sl38.h ty112.h.sz (.tmp rfl rfl) (.tmp rfl rfl) .h hi114 (fun k112 hk113 => ?_)
    refine au ?_
    obtain ⟨z119, hx120, hF⟩ := bind_some hF
    replace hx120 := Option.some.inj hx120
    refine C_x1 (.cons .h .nil) (X_storeF (Ro := ow112) (i := c63) ty3.h.sz rfl (.tmp rfl rfl) (.tmp rfl rfl) hk113 hx118 rfl rfl fsf112_4 (sf112_4 (d := (IntKind.i64.wrap ((IntKind.i64.wrap (r89.1 + 1)) + 1))))) (fun _ => ?_)
    rw [hx120]
    iterate 11 refine au ?_
    exact ⟨m64, Nat.lt_succ_self _, _, _, _, _, p91.2, eqA, entA, hF⟩
  rw [if_neg (nt hb121)] at hF
  iterate 9 refine au ?_
  cases hF
  exact Er F61

/-! laws.markRuleS -/
def l_markRuleS_L1 : Nat → (List Rule) → Int → Int → Option (Int × (List Rule))
  | 0, _, _, _ => none
  | m46 + 1, c42, c44, c45 => if (decide ((c45 : Int) < (c42.length : Int))) then (
      (ix c42 c45).bind fun x57 =>
      (some (c42.set (c45).toNat { x57 with From := c44 })).bind fun z61 =>
      (ix z61 c45).bind fun x66 =>
      (some (z61.set (c45).toNat { x66 with To := (IntKind.i64.wrap (c44 + 1)) })).bind fun z70 =>
      (ix z70 c45).bind fun x75 =>
      (l_markIntS x75.Map (IntKind.i64.wrap ((IntKind.i64.wrap (c44 + 1)) + 1))).bind fun r80 =>
      (some (z70.set (c45).toNat { x75 with Map := r80.2 })).bind fun z83 =>
      l_markRuleS_L1 m46 z83 r80.1 (IntKind.i64.wrap (c45 + 1)))
    else (
      some (c44, c42))
def l_markRuleS (a_a : List Rule) (a_k : Int) : Option (Int × (List Rule)) :=
  l_markRuleS_L1 (((a_a.length : Int) - 0).toNat + 2) a_a a_k 0
theorem l_markRuleS_ok (a_a : List Rule) (v0_0 : Sv) (F0_0 : List Nat) (a_k : Int) (R : Int × (List Rule)) (hF : l_markRuleS a_a a_k = some R) :
    Fw.Spec Tryz.prog 56 [v0_0.v, (.int .i64 a_k)] [cown (OwnS 148 ow148) F0_0 v0_0.v a_a] (fun _ : List Nat => (.int .i64 R.1)) (fun p => [cown (OwnS 148 ow148) p v0_0.v R.2]) := by
  refine Spec_enter (n := 34) Tryz.func56 rfl rfl (rs := [.tmp 4]) rfl rfl rfl ?_
  intro H0 F0
  unfold l_markRuleS at hF
  iterate 7 refine au ?_
  refine CW_block (CW_loop (m := (((a_a.length : Int) - 0).toNat + 2)) (fun m46 f' cs' => ∃ (g : Fr) (c42 : List Rule) (c44 : Int) (c45 : Int) (F43 : List Nat), f' = updL g [(0, v0_0.v), (1, (.int .i64 c44)), (5, (.int .i64 c45))] ∧ Ent cs' [cown (OwnS 148 ow148) F43 v0_0.v c42] ∧ l_markRuleS_L1 m46 c42 c44 c45 = some R) ⟨_, _, _, _, F0_0, eqA, entA, hF⟩ ?_)
  clear hF
  rintro m46 _ _ ⟨g47, c42, c44, c45, F43, rfl, hE, hF⟩
  refine K_ent hE ?_
  clear hE
  rcases m46 with _ | m46
  · rw [l_markRuleS_L1] at hF
    exact absurd hF (by simp)
  rw [l_markRuleS_L1] at hF
  iterate 7 refine au ?_
  refine Cc (fun hb85 => ?_) (fun hb85 => ?_)
  · rw [if_pos hb85] at hF
    iterate 6 refine au ?_
    obtain ⟨x57, hx58, hF⟩ := bind_some hF
    have hi56 := ix_chk hx58
    obtain ⟨hp59, hx60⟩ := ix_some hx58
    refine C_idxO sl39.h ty148.h.sz (.tmp rfl rfl) (.tmp rfl rfl) .h hi56 (fun k54 hk55 => ?_)
    refine au ?_
    obtain ⟨z61, hx62, hF⟩ := bind_some hF
    replace hx62 := Option.some.inj hx62
    refine C_x1 (.cons .h .nil) (X_storeF (Ro := ow148) (i := c45) ty3.h.sz rfl (.tmp rfl rfl) (.tmp rfl rfl) hk55 hx60 rfl rfl fsf148_0 (sf148_0 (d := c44))) (fun _ => ?_)
    rw [hx62]
    iterate 10 refine au ?_
    obtain ⟨x66, hx67, hF⟩ := bind_some hF
    have hi65 := ix_chk hx67
    obtain ⟨hp68, hx69⟩ := ix_some hx67
    refine C_idxO sl39.h ty148.h.sz (.tmp rfl rfl) (.tmp rfl rfl) .h hi65 (fun k63 hk64 => ?_)
    refine au ?_
    obtain ⟨z70, hx71, hF⟩ := bind_some hF
    replace hx71 := Option.some.inj hx71
    refine C_x1 (.cons .h .nil) (X_storeF (Ro := ow148) (i := c45) ty3.h.sz rfl (.tmp rfl rfl) (.tmp rfl rfl) hk64 hx69 rfl rfl fsf148_1 (sf148_1 (d := (IntKind.i64.wrap (c44 + 1))))) (fun _ => ?_)
    rw [hx71]
    iterate 9 refine au ?_
    obtain ⟨x75, hx76, hF⟩ := bind_some hF
    have hi74 := ix_chk hx76
    obtain ⟨hp77, hx78⟩ := ix_some hx76
    refine C_idxO sl39.h ty148.h.sz (.tmp rfl rfl) (.tmp rfl rfl) .h hi74 (fun k72 hk73 => ?_)
    refine au ?_
    refine C_ldOV ag22.h (.tmp rfl rfl) .h hk73 hx78 pt148_2 (fun w79 => ?_)
    refine au ?_
    obtain ⟨r80, hx81, hF⟩ := bind_some hF
    obtain ⟨z83, hx84, hF⟩ := bind_some hF
    replace hx84 := Option.some.inj hx84
    refine C_x1 (.cons .h .nil) (X_part hx78 pt148_2 (fun Fw => X_callS cf54.h (.cons (.tmp rfl rfl) (.cons (.tmp rfl rfl) .nil)) (l_markIntS_ok x75.Map w79 Fw (IntKind.i64.wrap ((IntKind.i64.wrap (c44 + 1)) + 1)) _ hx81)) rfl) (fun p82 => ?_)
    rw [hx84]
    iterate 7 refine au ?_
    exact ⟨m46, Nat.lt_succ_self _, _, _, _, _, p82.2, eqA, entA, hF⟩
  rw [if_neg (nt hb85)] at hF
  iterate 9 refine au ?_
  cases hF
  exact Er F43

/-! laws.markFactS -/
def l_markFactS_L1 : Nat → (List Fact) → Int → Int → Option (Int × (List Fact))
  | 0, _, _, _ => none
  | m37 + 1, c33, c35, c36 => if (decide ((c36 : Int) < (c33.length : Int))) then (
      (ix c33 c36).bind fun x48 =>
      (some (c33.set (c36).toNat { x48 with Rel := c35 })).bind fun z52 =>
      (ix z52 c36).bind fun x57 =>
      (l_markIntS x57.Values (IntKind.i64.wrap (c35 + 1))).bind fun r62 =>
      (some (z52.set (c36).toNat { x57 with Values := r62.2 })).bind fun z65 =>
      l_markFactS_L1 m37 z65 r62.1 (IntKind.i64.wrap (c36 + 1)))
    else (
      some (c35, c33))
def l_markFactS (a_a : List Fact) (a_k : Int) : Option (Int × (List Fact)) :=
  l_markFactS_L1 (((a_a.length : Int) - 0).toNat + 2) a_a a_k 0
theorem l_markFactS_ok (a_a : List Fact) (v0_0 : Sv) (F0_0 : List Nat) (a_k : Int) (R : Int × (List Fact)) (hF : l_markFactS a_a a_k = some R) :
    Fw.Spec Tryz.prog 120 [v0_0.v, (.int .i64 a_k)] [cown (OwnS 114 ow114) F0_0 v0_0.v a_a] (fun _ : List Nat => (.int .i64 R.1)) (fun p => [cown (OwnS 114 ow114) p v0_0.v R.2]) := by
  refine Spec_enter (n := 27) Tryz.func120 rfl rfl (rs := [.tmp 4]) rfl rfl rfl ?_
  intro H0 F0
  unfold l_markFactS at hF
  iterate 7 refine au ?_
  refine CW_block (CW_loop (m := (((a_a.length : Int) - 0).toNat + 2)) (fun m37 f' cs' => ∃ (g : Fr) (c33 : List Fact) (c35 : Int) (c36 : Int) (F34 : List Nat), f' = updL g [(0, v0_0.v), (1, (.int .i64 c35)), (5, (.int .i64 c36))] ∧ Ent cs' [cown (OwnS 114 ow114) F34 v0_0.v c33] ∧ l_markFactS_L1 m37 c33 c35 c36 = some R) ⟨_, _, _, _, F0_0, eqA, entA, hF⟩ ?_)
  clear hF
  rintro m37 _ _ ⟨g38, c33, c35, c36, F34, rfl, hE, hF⟩
  refine K_ent hE ?_
  clear hE
  rcases m37 with _ | m37
  · rw [l_markFactS_L1] at hF
    exact absurd hF (by simp)
  rw [l_markFactS_L1] at hF
  iterate 7 refine au ?_
  refine Cc (fun hb67 => ?_) (fun hb67 => ?_)
  · rw [if_pos hb67] at hF
    iterate 6 refine au ?_
    obtain ⟨x48, hx49, hF⟩ := bind_some hF
    have hi47 := ix_chk hx49
    obtain ⟨hp50, hx51⟩ := ix_some hx49
    refine C_idxO sl40.h ty114.h.sz (.tmp rfl rfl) (.tmp rfl rfl) .h hi47 (fun k45 hk46 => ?_)
    refine au ?_
    obtain ⟨z52, hx53, hF⟩ := bind_some hF
    replace hx53 := Option.some.inj hx53
    refine C_x1 (.cons .h .nil) (X_storeF (Ro := ow114) (i := c36) ty3.h.sz rfl (.tmp rfl rfl) (.tmp rfl rfl) hk46 hx51 rfl rfl fsf114_0 (sf114_0 (d := c35))) (fun _ => ?_)
    rw [hx53]
    iterate 9 refine au ?_
    obtain ⟨x57, hx58, hF⟩ := bind_some hF
    have hi56 := ix_chk hx58
    obtain ⟨hp59, hx60⟩ := ix_some hx58
    refine C_idxO sl40.h ty114.h.sz (.tmp rfl rfl) (.tmp rfl rfl) .h hi56 (fun k54 hk55 => ?_)
    refine au ?_
    refine C_ldOV ag22.h (.tmp rfl rfl) .h hk55 hx60 pt114_1 (fun w61 => ?_)
    refine au ?_
    obtain ⟨r62, hx63, hF⟩ := bind_some hF
    obtain ⟨z65, hx66, hF⟩ := bind_some hF
    replace hx66 := Option.some.inj hx66
    refine C_x1 (.cons .h .nil) (X_part hx60 pt114_1 (fun Fw => X_callS cf54.h (.cons (.tmp rfl rfl) (.cons (.tmp rfl rfl) .nil)) (l_markIntS_ok x57.Values w61 Fw (IntKind.i64.wrap (c35 + 1)) _ hx63)) rfl) (fun p64 => ?_)
    rw [hx66]
    iterate 7 refine au ?_
    exact ⟨m37, Nat.lt_succ_self _, _, _, _, _, p64.2, eqA, entA, hF⟩
  rw [if_neg (nt hb67)] at hF
  iterate 9 refine au ?_
  cases hF
  exact Er F34

/-! laws.markSource -/
def l_markSource (a_a : Source) (a_k : Int) : Option (Int × Source) :=
  (l_markFactS a_a.Facts a_k).bind fun r2 =>
  some (r2.1, ({ Facts := r2.2, Version := a_a.Version } : Source))
theorem l_markSource_ok (a_a : Source) (v0_0 : Sv) (F0_0 : List Nat) (a_k : Int) (R : Int × Source) (hF : l_markSource a_a a_k = some R) :
    Fw.Spec Tryz.prog 57 [(.agg [v0_0.v, (.int .i64 a_a.Version)].toArray), (.int .i64 a_k)] [cown (OwnS 114 ow114) F0_0 v0_0.v a_a.Facts] (fun _ : List Nat => (.int .i64 R.1)) (fun p => [cown (OwnS 114 ow114) p v0_0.v R.2.Facts]) := by
  refine Spec_enter (n := 10) Tryz.func57 rfl rfl (rs := [.tmp 4]) rfl rfl rfl ?_
  intro H0 F0
  unfold l_markSource at hF
  refine au ?_
  refine C_newR rfl (N_box (g := false) (v := (.agg [v0_0.v, (.int .i64 a_a.Version)].toArray)) ty42.h.sz (.tmp rfl rfl) rfl) (fun k1 => ?_)
  iterate 6 refine au ?_
  obtain ⟨r2, hx3, hF⟩ := bind_some hF
  refine C_x1 (.cons (.t .h) .nil) (X_callS cf120.h (.cons (.tmp rfl rfl) (.cons (.tmp rfl rfl) .nil)) (l_markFactS_ok a_a.Facts v0_0 F0_0 a_k _ hx3)) (fun p4 => ?_)
  iterate 7 refine au ?_
  obtain rfl := Option.some.inj hF
  exact End_ret p4 (.tmp rfl rfl .nil) rfl (.sel (.cons .h .nil))

/-! laws.markStoredS -/
def l_markStoredS_L1 : Nat → (List Stored) → Int → Int → Option (Int × (List Stored))
  | 0, _, _, _ => none
  | m59 + 1, c55, c57, c58 => if (decide ((c58 : Int) < (c55.length : Int))) then (
      (ix c55 c58).bind fun x70 =>
      (some (c55.set (c58).toNat { x70 with Access := { x70.Access with Method := c57 } })).bind fun z74 =>
      (ix z74 c58).bind fun x79 =>
      (l_markIntS x79.Access.Values (IntKind.i64.wrap (c57 + 1))).bind fun r84 =>
      (some (z74.set (c58).toNat { x79 with Access := { x79.Access with Values := r84.2 } })).bind fun z87 =>
      (ix z87 c58).bind fun x92 =>
      (l_markFactS x92.Facts r84.1).bind fun r97 =>
      (some (z87.set (c58).toNat { x92 with Facts := r97.2 })).bind fun z100 =>
      (ix z100 c58).bind fun x105 =>
      (some (z100.set (c58).toNat { x105 with At := r97.1 })).bind fun z109 =>
      l_markStoredS_L1 m59 z109 (IntKind.i64.wrap (r97.1 + 1)) (IntKind.i64.wrap (c58 + 1)))
    else (
      some (c57, c55))
def l_markStoredS (a_a : List Stored) (a_k : Int) : Option (Int × (List Stored)) :=
  l_markStoredS_L1 (((a_a.length : Int) - 0).toNat + 2) a_a a_k 0
theorem l_markStoredS_ok (a_a : List Stored) (v0_0 : Sv) (F0_0 : List Nat) (a_k : Int) (R : Int × (List Stored)) (hF : l_markStoredS a_a a_k = some R) :
    Fw.Spec Tryz.prog 121 [v0_0.v, (.int .i64 a_k)] [cown (OwnS 82 ow82) F0_0 v0_0.v a_a] (fun _ : List Nat => (.int .i64 R.1)) (fun p => [cown (OwnS 82 ow82) p v0_0.v R.2]) := by
  refine Spec_enter (n := 43) Tryz.func121 rfl rfl (rs := [.tmp 4]) rfl rfl rfl ?_
  intro H0 F0
  unfold l_markStoredS at hF
  iterate 7 refine au ?_
  refine CW_block (CW_loop (m := (((a_a.length : Int) - 0).toNat + 2)) (fun m59 f' cs' => ∃ (g : Fr) (c55 : List Stored) (c57 : Int) (c58 : Int) (F56 : List Nat), f' = updL g [(0, v0_0.v), (1, (.int .i64 c57)), (5, (.int .i64 c58))] ∧ Ent cs' [cown (OwnS 82 ow82) F56 v0_0.v c55] ∧ l_markStoredS_L1 m59 c55 c57 c58 = some R) ⟨_, _, _, _, F0_0, eqA, entA, hF⟩ ?_)
  clear hF
  rintro m59 _ _ ⟨g60, c55, c57, c58, F56, rfl, hE, hF⟩
  refine K_ent hE ?_
  clear hE
  rcases m59 with _ | m59
  · rw [l_markStoredS_L1] at hF
    exact absurd hF (by simp)
  rw [l_markStoredS_L1] at hF
  iterate 7 refine au ?_
  refine Cc (fun hb111 => ?_) (fun hb111 => ?_)
  · rw [if_pos hb111] at hF
    iterate 6 refine au ?_
    obtain ⟨x70, hx71, hF⟩ := bind_some hF
    have hi69 := ix_chk hx71
    obtain ⟨hp72, hx73⟩ := ix_some hx71
    refine C_idxO sl43.h ty82.h.sz (.tmp rfl rfl) (.tmp rfl rfl) .h hi69 (fun k67 hk68 => ?_)
    iterate 2 refine au ?_
    obtain ⟨z74, hx75, hF⟩ := bind_some hF
    replace hx75 := Option.some.inj hx75
    refine C_x1 (.cons .h .nil) (X_storeF (Ro := ow82) (i := c58) ty3.h.sz rfl (.tmp rfl rfl) (.tmp rfl rfl) hk68 hx73 rfl rfl fsf82_0 (sf82_0 (d := c57))) (fun _ => ?_)
    rw [hx75]
    iterate 9 refine au ?_
    obtain ⟨x79, hx80, hF⟩ := bind_some hF
    have hi78 := ix_chk hx80
    obtain ⟨hp81, hx82⟩ := ix_some hx80
    refine C_idxO sl43.h ty82.h.sz (.tmp rfl rfl) (.tmp rfl rfl) .h hi78 (fun k76 hk77 => ?_)
    iterate 2 refine au ?_
    refine C_ldOV ag22.h (.tmp rfl rfl) .h hk77 hx82 pt82_1 (fun w83 => ?_)
    refine au ?_
    obtain ⟨r84, hx85, hF⟩ := bind_some hF
    obtain ⟨z87, hx88, hF⟩ := bind_some hF
    replace hx88 := Option.some.inj hx88
    refine C_x1 (.cons .h .nil) (X_part hx82 pt82_1 (fun Fw => X_callS cf54.h (.cons (.tmp rfl rfl) (.cons (.tmp rfl rfl) .nil)) (l_markIntS_ok x79.Access.Values w83 Fw (IntKind.i64.wrap (c57 + 1)) _ hx85)) rfl) (fun p86 => ?_)
    rw [hx88]
    iterate 5 refine au ?_
    obtain ⟨x92, hx93, hF⟩ := bind_some hF
    have hi91 := ix_chk hx93
    obtain ⟨hp94, hx95⟩ := ix_some hx93
    refine C_idxO sl43.h ty82.h.sz (.tmp rfl rfl) (.tmp rfl rfl) .h hi91 (fun k89 hk90 => ?_)
    refine au ?_
    refine C_ldOV ag40.h (.tmp rfl rfl) .h hk90 hx95 pt82_2 (fun w96 => ?_)
    refine au ?_
    obtain ⟨r97, hx98, hF⟩ := bind_some hF
    obtain ⟨z100, hx101, hF⟩ := bind_some hF
    replace hx101 := Option.some.inj hx101
    refine C_x1 (.cons .h .nil) (X_part hx95 pt82_2 (fun Fw => X_callS cf120.h (.cons (.tmp rfl rfl) (.cons (.tmp rfl rfl) .nil)) (l_markFactS_ok x92.Facts w96 Fw r84.1 _ hx98)) rfl) (fun p99 => ?_)
    rw [hx101]
    iterate 6 refine au ?_
    obtain ⟨x105, hx106, hF⟩ := bind_some hF
    have hi104 := ix_chk hx106
    obtain ⟨hp107, hx108⟩ := ix_some hx106
    refine C_idxO sl43.h ty82.h.sz (.tmp rfl rfl) (.tmp rfl rfl) .h hi104 (fun k102 hk103 => ?_)
    refine au ?_
    obtain ⟨z109, hx110, hF⟩ := bind_some hF
    replace hx110 := Option.some.inj hx110
    refine C_x1 (.cons .h .nil) (X_storeF (Ro := ow82) (i := c58) ty3.h.sz rfl (.tmp rfl rfl) (.tmp rfl rfl) hk103 hx108 rfl rfl fsf82_3 (sf82_3 (d := r97.1))) (fun _ => ?_)
    rw [hx110]
    iterate 11 refine au ?_
    exact ⟨m59, Nat.lt_succ_self _, _, _, _, _, p99.2, eqA, entA, hF⟩
  rw [if_neg (nt hb111)] at hF
  iterate 9 refine au ?_
  cases hF
  exact Er F56

/-! laws.markCache -/
def l_markCache (a_a : Cache) (a_k : Int) : Option (Int × Cache) :=
  (l_markStoredS a_a.Entries a_k).bind fun r2 =>
  some (r2.1, ({ Entries := r2.2, Age := a_a.Age } : Cache))
theorem l_markCache_ok (a_a : Cache) (v0_0 : Sv) (F0_0 : List Nat) (a_k : Int) (R : Int × Cache) (hF : l_markCache a_a a_k = some R) :
    Fw.Spec Tryz.prog 58 [(.agg [v0_0.v, (.int .i64 a_a.Age)].toArray), (.int .i64 a_k)] [cown (OwnS 82 ow82) F0_0 v0_0.v a_a.Entries] (fun _ : List Nat => (.int .i64 R.1)) (fun p => [cown (OwnS 82 ow82) p v0_0.v R.2.Entries]) := by
  refine Spec_enter (n := 10) Tryz.func58 rfl rfl (rs := [.tmp 4]) rfl rfl rfl ?_
  intro H0 F0
  unfold l_markCache at hF
  refine au ?_
  refine C_newR rfl (N_box (g := false) (v := (.agg [v0_0.v, (.int .i64 a_a.Age)].toArray)) ty45.h.sz (.tmp rfl rfl) rfl) (fun k1 => ?_)
  iterate 6 refine au ?_
  obtain ⟨r2, hx3, hF⟩ := bind_some hF
  refine C_x1 (.cons (.t .h) .nil) (X_callS cf121.h (.cons (.tmp rfl rfl) (.cons (.tmp rfl rfl) .nil)) (l_markStoredS_ok a_a.Entries v0_0 F0_0 a_k _ hx3)) (fun p4 => ?_)
  iterate 7 refine au ?_
  obtain rfl := Option.some.inj hF
  exact End_ret p4 (.tmp rfl rfl .nil) rfl (.sel (.cons .h .nil))

/-! laws.markAccessS -/
def l_markAccessS_L1 : Nat → (List Access) → Int → Int → Option (Int × (List Access))
  | 0, _, _, _ => none
  | m37 + 1, c33, c35, c36 => if (decide ((c36 : Int) < (c33.length : Int))) then (
      (ix c33 c36).bind fun x48 =>
      (some (c33.set (c36).toNat { x48 with Method := c35 })).bind fun z52 =>
      (ix z52 c36).bind fun x57 =>
      (l_markIntS x57.Values (IntKind.i64.wrap (c35 + 1))).bind fun r62 =>
      (some (z52.set (c36).toNat { x57 with Values := r62.2 })).bind fun z65 =>
      l_markAccessS_L1 m37 z65 r62.1 (IntKind.i64.wrap (c36 + 1)))
    else (
      some (c35, c33))
def l_markAccessS (a_a : List Access) (a_k : Int) : Option (Int × (List Access)) :=
  l_markAccessS_L1 (((a_a.length : Int) - 0).toNat + 2) a_a a_k 0
theorem l_markAccessS_ok (a_a : List Access) (v0_0 : Sv) (F0_0 : List Nat) (a_k : Int) (R : Int × (List Access)) (hF : l_markAccessS a_a a_k = some R) :
    Fw.Spec Tryz.prog 59 [v0_0.v, (.int .i64 a_k)] [cown (OwnS 80 ow80) F0_0 v0_0.v a_a] (fun _ : List Nat => (.int .i64 R.1)) (fun p => [cown (OwnS 80 ow80) p v0_0.v R.2]) := by
  refine Spec_enter (n := 27) Tryz.func59 rfl rfl (rs := [.tmp 4]) rfl rfl rfl ?_
  intro H0 F0
  unfold l_markAccessS at hF
  iterate 7 refine au ?_
  refine CW_block (CW_loop (m := (((a_a.length : Int) - 0).toNat + 2)) (fun m37 f' cs' => ∃ (g : Fr) (c33 : List Access) (c35 : Int) (c36 : Int) (F34 : List Nat), f' = updL g [(0, v0_0.v), (1, (.int .i64 c35)), (5, (.int .i64 c36))] ∧ Ent cs' [cown (OwnS 80 ow80) F34 v0_0.v c33] ∧ l_markAccessS_L1 m37 c33 c35 c36 = some R) ⟨_, _, _, _, F0_0, eqA, entA, hF⟩ ?_)
  clear hF
  rintro m37 _ _ ⟨g38, c33, c35, c36, F34, rfl, hE, hF⟩
  refine K_ent hE ?_
  clear hE
  rcases m37 with _ | m37
  · rw [l_markAccessS_L1] at hF
    exact absurd hF (by simp)
  rw [l_markAccessS_L1] at hF
  iterate 7 refine au ?_
  refine Cc (fun hb67 => ?_) (fun hb67 => ?_)
  · rw [if_pos hb67] at hF
    iterate 6 refine au ?_
    obtain ⟨x48, hx49, hF⟩ := bind_some hF
    have hi47 := ix_chk hx49
    obtain ⟨hp50, hx51⟩ := ix_some hx49
    refine C_idxO sl46.h ty80.h.sz (.tmp rfl rfl) (.tmp rfl rfl) .h hi47 (fun k45 hk46 => ?_)
    refine au ?_
    obtain ⟨z52, hx53, hF⟩ := bind_some hF
    replace hx53 := Option.some.inj hx53
    refine C_x1 (.cons .h .nil) (X_storeF (Ro := ow80) (i := c36) ty3.h.sz rfl (.tmp rfl rfl) (.tmp rfl rfl) hk46 hx51 rfl rfl fsf80_0 (sf80_0 (d := c35))) (fun _ => ?_)
    rw [hx53]
    iterate 9 refine au ?_
    obtain ⟨x57, hx58, hF⟩ := bind_some hF
    have hi56 := ix_chk hx58
    obtain ⟨hp59, hx60⟩ := ix_some hx58
    refine C_idxO sl46.h ty80.h.sz (.tmp rfl rfl) (.tmp rfl rfl) .h hi56 (fun k54 hk55 => ?_)
    refine au ?_
    refine C_ldOV ag22.h (.tmp rfl rfl) .h hk55 hx60 pt80_1 (fun w61 => ?_)
    refine au ?_
    obtain ⟨r62, hx63, hF⟩ := bind_some hF
    obtain ⟨z65, hx66, hF⟩ := bind_some hF
    replace hx66 := Option.some.inj hx66
    refine C_x1 (.cons .h .nil) (X_part hx60 pt80_1 (fun Fw => X_callS cf54.h (.cons (.tmp rfl rfl) (.cons (.tmp rfl rfl) .nil)) (l_markIntS_ok x57.Values w61 Fw (IntKind.i64.wrap (c35 + 1)) _ hx63)) rfl) (fun p64 => ?_)
    rw [hx66]
    iterate 7 refine au ?_
    exact ⟨m37, Nat.lt_succ_self _, _, _, _, _, p64.2, eqA, entA, hF⟩
  rw [if_neg (nt hb67)] at hF
  iterate 9 refine au ?_
  cases hF
  exact Er F34

/-! laws.markIntSS -/
def l_markIntSS_L1 : Nat → (List (List Int)) → Int → Int → Option (Int × (List (List Int)))
  | 0, _, _, _ => none
  | m28 + 1, c24, c26, c27 => if (decide ((c27 : Int) < (c24.length : Int))) then (
      (ix c24 c27).bind fun x39 =>
      (l_markIntS x39 c26).bind fun r44 =>
      (some (c24.set (c27).toNat r44.2)).bind fun z47 =>
      l_markIntSS_L1 m28 z47 r44.1 (IntKind.i64.wrap (c27 + 1)))
    else (
      some (c26, c24))
def l_markIntSS (a_a : List (List Int)) (a_k : Int) : Option (Int × (List (List Int))) :=
  l_markIntSS_L1 (((a_a.length : Int) - 0).toNat + 2) a_a a_k 0
theorem l_markIntSS_ok (a_a : List (List Int)) (v0_0 : Sv) (F0_0 : List Nat) (a_k : Int) (R : Int × (List (List Int))) (hF : l_markIntSS a_a a_k = some R) :
    Fw.Spec Tryz.prog 122 [v0_0.v, (.int .i64 a_k)] [cown (OwnS 22 (OwnS 3 (roE rdInt))) F0_0 v0_0.v a_a] (fun _ : List Nat => (.int .i64 R.1)) (fun p => [cown (OwnS 22 (OwnS 3 (roE rdInt))) p v0_0.v R.2]) := by
  refine Spec_enter (n := 19) Tryz.func122 rfl rfl (rs := [.tmp 4]) rfl rfl rfl ?_
  intro H0 F0
  unfold l_markIntSS at hF
  iterate 7 refine au ?_
  refine CW_block (CW_loop (m := (((a_a.length : Int) - 0).toNat + 2)) (fun m28 f' cs' => ∃ (g : Fr) (c24 : List (List Int)) (c26 : Int) (c27 : Int) (F25 : List Nat), f' = updL g [(0, v0_0.v), (1, (.int .i64 c26)), (5, (.int .i64 c27))] ∧ Ent cs' [cown (OwnS 22 (OwnS 3 (roE rdInt))) F25 v0_0.v c24] ∧ l_markIntSS_L1 m28 c24 c26 c27 = some R) ⟨_, _, _, _, F0_0, eqA, entA, hF⟩ ?_)
  clear hF
  rintro m28 _ _ ⟨g29, c24, c26, c27, F25, rfl, hE, hF⟩
  refine K_ent hE ?_
  clear hE
  rcases m28 with _ | m28
  · rw [l_markIntSS_L1] at hF
    exact absurd hF (by simp)
  rw [l_markIntSS_L1] at hF
  iterate 7 refine au ?_
  refine Cc (fun hb49 => ?_) (fun hb49 => ?_)
  · rw [if_pos hb49] at hF
    iterate 5 refine au ?_
    obtain ⟨x39, hx40, hF⟩ := bind_some hF
    have hi38 := ix_chk hx40
    obtain ⟨hp41, hx42⟩ := ix_some hx40
    refine C_idxO sl139.h ty22.h.sz (.tmp rfl rfl) (.tmp rfl rfl) .h hi38 (fun k36 hk37 => ?_)
    refine C_ldOV ag22.h (.tmp rfl rfl) .h hk37 hx42 pt22_0 (fun w43 => ?_)
    refine au ?_
    obtain ⟨r44, hx45, hF⟩ := bind_some hF
    obtain ⟨z47, hx48, hF⟩ := bind_some hF
    replace hx48 := Option.some.inj hx48
    refine C_x1 (.cons .h .nil) (X_part hx42 pt22_0 (fun Fw => X_callS cf54.h (.cons (.tmp rfl rfl) (.cons (.tmp rfl rfl) .nil)) (l_markIntS_ok x39 w43 Fw c26 _ hx45)) rfl) (fun p46 => ?_)
    rw [hx48]
    iterate 7 refine au ?_
    exact ⟨m28, Nat.lt_succ_self _, _, _, _, _, p46.2, eqA, entA, hF⟩
  rw [if_neg (nt hb49)] at hF
  iterate 9 refine au ?_
  cases hF
  exact Er F25

/-! laws.markIntSSS -/
def l_markIntSSS_L1 : Nat → (List (List (List Int))) → Int → Int → Option (Int × (List (List (List Int))))
  | 0, _, _, _ => none
  | m28 + 1, c24, c26, c27 => if (decide ((c27 : Int) < (c24.length : Int))) then (
      (ix c24 c27).bind fun x39 =>
      (l_markIntSS x39 c26).bind fun r44 =>
      (some (c24.set (c27).toNat r44.2)).bind fun z47 =>
      l_markIntSSS_L1 m28 z47 r44.1 (IntKind.i64.wrap (c27 + 1)))
    else (
      some (c26, c24))
def l_markIntSSS (a_a : List (List (List Int))) (a_k : Int) : Option (Int × (List (List (List Int)))) :=
  l_markIntSSS_L1 (((a_a.length : Int) - 0).toNat + 2) a_a a_k 0
theorem l_markIntSSS_ok (a_a : List (List (List Int))) (v0_0 : Sv) (F0_0 : List Nat) (a_k : Int) (R : Int × (List (List (List Int)))) (hF : l_markIntSSS a_a a_k = some R) :
    Fw.Spec Tryz.prog 60 [v0_0.v, (.int .i64 a_k)] [cown (OwnS 139 (OwnS 22 (OwnS 3 (roE rdInt)))) F0_0 v0_0.v a_a] (fun _ : List Nat => (.int .i64 R.1)) (fun p => [cown (OwnS 139 (OwnS 22 (OwnS 3 (roE rdInt)))) p v0_0.v R.2]) := by
  refine Spec_enter (n := 19) Tryz.func60 rfl rfl (rs := [.tmp 4]) rfl rfl rfl ?_
  intro H0 F0
  unfold l_markIntSSS at hF
  iterate 7 refine au ?_
  refine CW_block (CW_loop (m := (((a_a.length : Int) - 0).toNat + 2)) (fun m28 f' cs' => ∃ (g : Fr) (c24 : List (List (List Int))) (c26 : Int) (c27 : Int) (F25 : List Nat), f' = updL g [(0, v0_0.v), (1, (.int .i64 c26)), (5, (.int .i64 c27))] ∧ Ent cs' [cown (OwnS 139 (OwnS 22 (OwnS 3 (roE rdInt)))) F25 v0_0.v c24] ∧ l_markIntSSS_L1 m28 c24 c26 c27 = some R) ⟨_, _, _, _, F0_0, eqA, entA, hF⟩ ?_)
  clear hF
  rintro m28 _ _ ⟨g29, c24, c26, c27, F25, rfl, hE, hF⟩
  refine K_ent hE ?_
  clear hE
  rcases m28 with _ | m28
  · rw [l_markIntSSS_L1] at hF
    exact absurd hF (by simp)
  rw [l_markIntSSS_L1] at hF
  iterate 7 refine au ?_
  refine Cc (fun hb49 => ?_) (fun hb49 => ?_)
  · rw [if_pos hb49] at hF
    iterate 5 refine au ?_
    obtain ⟨x39, hx40, hF⟩ := bind_some hF
    have hi38 := ix_chk hx40
    obtain ⟨hp41, hx42⟩ := ix_some hx40
    refine C_idxO sl32.h ty139.h.sz (.tmp rfl rfl) (.tmp rfl rfl) .h hi38 (fun k36 hk37 => ?_)
    refine C_ldOV ag139.h (.tmp rfl rfl) .h hk37 hx42 pt139_0 (fun w43 => ?_)
    refine au ?_
    obtain ⟨r44, hx45, hF⟩ := bind_some hF
    obtain ⟨z47, hx48, hF⟩ := bind_some hF
    replace hx48 := Option.some.inj hx48
    refine C_x1 (.cons .h .nil) (X_part hx42 pt139_0 (fun Fw => X_callS cf122.h (.cons (.tmp rfl rfl) (.cons (.tmp rfl rfl) .nil)) (l_markIntSS_ok x39 w43 Fw c26 _ hx45)) rfl) (fun p46 => ?_)
    rw [hx48]
    iterate 7 refine au ?_
    exact ⟨m28, Nat.lt_succ_self _, _, _, _, _, p46.2, eqA, entA, hF⟩
  rw [if_neg (nt hb49)] at hF
  iterate 9 refine au ?_
  cases hF
  exact Er F25

/-! laws.markMediator -/
def l_markMediator (a_a : Mediator) (a_k : Int) : Option (Int × Mediator) :=
  (l_markIntS a_a.Schema a_k).bind fun r2 =>
  (l_markMethodS a_a.Methods r2.1).bind fun r5 =>
  (l_markRuleS a_a.Rules r5.1).bind fun r8 =>
  (l_markSource a_a.Source r8.1).bind fun r11 =>
  (l_markCache a_a.Cache r11.1).bind fun r14 =>
  (l_markAccessS a_a.Log r14.1).bind fun r17 =>
  (l_markIntS a_a.Times r17.1).bind fun r20 =>
  (l_markIntSSS a_a.Results r20.1).bind fun r23 =>
  some (r23.1, ({ Schema := r2.2, Methods := r5.2, Rules := r8.2, Source := ({ Facts := r11.2.Facts, Version := a_a.Source.Version } : Source), Cache := ({ Entries := r14.2.Entries, Age := a_a.Cache.Age } : Cache), Now := a_a.Now, Log := r17.2, Times := r20.2, Spent := a_a.Spent, Results := r23.2 } : Mediator))
theorem l_markMediator_ok (a_a : Mediator) (v0_0 : Sv) (F0_0 : List Nat) (v0_1 : Sv) (F0_1 : List Nat) (v0_2 : Sv) (F0_2 : List Nat) (v0_3 : Sv) (F0_3 : List Nat) (v0_5 : Sv) (F0_5 : List Nat) (v0_8 : Sv) (F0_8 : List Nat) (v0_9 : Sv) (F0_9 : List Nat) (v0_11 : Sv) (F0_11 : List Nat) (a_k : Int) (R : Int × Mediator) (hF : l_markMediator a_a a_k = some R) :
    Fw.Spec Tryz.prog 12 [(.agg [v0_0.v, v0_1.v, v0_2.v, v0_3.v, (.int .i64 a_a.Source.Version), v0_5.v, (.int .i64 a_a.Cache.Age), (.int .i64 a_a.Now), v0_8.v, v0_9.v, (.int .i64 a_a.Spent), v0_11.v].toArray), (.int .i64 a_k)] [cown (OwnS 3 (roE rdInt)) F0_0 v0_0.v a_a.Schema, cown (OwnS 112 ow112) F0_1 v0_1.v a_a.Methods, cown (OwnS 148 ow148) F0_2 v0_2.v a_a.Rules, cown (OwnS 114 ow114) F0_3 v0_3.v a_a.Source.Facts, cown (OwnS 82 ow82) F0_5 v0_5.v a_a.Cache.Entries, cown (OwnS 80 ow80) F0_8 v0_8.v a_a.Log, cown (OwnS 3 (roE rdInt)) F0_9 v0_9.v a_a.Times, cown (OwnS 139 (OwnS 22 (OwnS 3 (roE rdInt)))) F0_11 v0_11.v a_a.Results] (fun _ : List Nat × List Nat × List Nat × List Nat × List Nat × List Nat × List Nat × List Nat => (.int .i64 R.1)) (fun p => [cown (OwnS 3 (roE rdInt)) p.1 v0_0.v R.2.Schema, cown (OwnS 112 ow112) p.2.1 v0_1.v R.2.Methods, cown (OwnS 148 ow148) p.2.2.1 v0_2.v R.2.Rules, cown (OwnS 114 ow114) p.2.2.2.1 v0_3.v R.2.Source.Facts, cown (OwnS 82 ow82) p.2.2.2.2.1 v0_5.v R.2.Cache.Entries, cown (OwnS 80 ow80) p.2.2.2.2.2.1 v0_8.v R.2.Log, cown (OwnS 3 (roE rdInt)) p.2.2.2.2.2.2.1 v0_9.v R.2.Times, cown (OwnS 139 (OwnS 22 (OwnS 3 (roE rdInt)))) p.2.2.2.2.2.2.2 v0_11.v R.2.Results]) := by
  refine Spec_enter (n := 38) Tryz.func12 rfl rfl (rs := [.tmp 4]) rfl rfl rfl ?_
  intro H0 F0
  unfold l_markMediator at hF
  refine au ?_
  refine C_newR rfl (N_box (g := false) (v := (.agg [v0_0.v, v0_1.v, v0_2.v, v0_3.v, (.int .i64 a_a.Source.Version), v0_5.v, (.int .i64 a_a.Cache.Age), (.int .i64 a_a.Now), v0_8.v, v0_9.v, (.int .i64 a_a.Spent), v0_11.v].toArray)) ty48.h.sz (.tmp rfl rfl) rfl) (fun k1 => ?_)
  iterate 6 refine au ?_
  obtain ⟨r2, hx3, hF⟩ := bind_some hF
  refine C_x1 (.cons (.t .h) .nil) (X_callS cf54.h (.cons (.tmp rfl rfl) (.cons (.tmp rfl rfl) .nil)) (l_markIntS_ok a_a.Schema v0_0 F0_0 a_k _ hx3)) (fun p4 => ?_)
  iterate 6 refine au ?_
  obtain ⟨r5, hx6, hF⟩ := bind_some hF
  refine C_x1 (.cons (.t (.t .h)) .nil) (X_callS cf55.h (.cons (.tmp rfl rfl) (.cons (.tmp rfl rfl) .nil)) (l_markMethodS_ok a_a.Methods v0_1 F0_1 r2.1 _ hx6)) (fun p7 => ?_)
  iterate 6 refine au ?_
  obtain ⟨r8, hx9, hF⟩ := bind_some hF
  refine C_x1 (.cons (.t (.t (.t .h))) .nil) (X_callS cf56.h (.cons (.tmp rfl rfl) (.cons (.tmp rfl rfl) .nil)) (l_markRuleS_ok a_a.Rules v0_2 F0_2 r5.1 _ hx9)) (fun p10 => ?_)
  iterate 4 refine au ?_
  refine C_at (.t (.t (.t .h))) (fun hp => V_loadA (s := 2) (l := [v0_3.v, (.int .i64 a_a.Source.Version)]) ag42.h ty42.h.sz (.tmp rfl rfl) hp.2 rfl (by decide) (Nat.le_of_ble_eq_true rfl) rfl) ?_
  refine au ?_
  obtain ⟨r11, hx12, hF⟩ := bind_some hF
  refine C_x1 (.cons (.t (.t (.t (.t .h)))) .nil) (X_callS cf57.h (.cons (.tmp rfl rfl) (.cons (.tmp rfl rfl) .nil)) (l_markSource_ok a_a.Source v0_3 F0_3 r8.1 _ hx12)) (fun p13 => ?_)
  iterate 4 refine au ?_
  refine C_at (.t (.t (.t (.t .h)))) (fun hp => V_loadA (s := 2) (l := [v0_5.v, (.int .i64 a_a.Cache.Age)]) ag45.h ty45.h.sz (.tmp rfl rfl) hp.2 rfl (by decide) (Nat.le_of_ble_eq_true rfl) rfl) ?_
  refine au ?_
  obtain ⟨r14, hx15, hF⟩ := bind_some hF
  refine C_x1 (.cons (.t (.t (.t (.t (.t .h))))) .nil) (X_callS cf58.h (.cons (.tmp rfl rfl) (.cons (.tmp rfl rfl) .nil)) (l_markCache_ok a_a.Cache v0_5 F0_5 r11.1 _ hx15)) (fun p16 => ?_)
  iterate 6 refine au ?_
  obtain ⟨r17, hx18, hF⟩ := bind_some hF
  refine C_x1 (.cons (.t (.t (.t (.t (.t (.t .h)))))) .nil) (X_callS cf59.h (.cons (.tmp rfl rfl) (.cons (.tmp rfl rfl) .nil)) (l_markAccessS_ok a_a.Log v0_8 F0_8 r14.1 _ hx18)) (fun p19 => ?_)
  iterate 6 refine au ?_
  obtain ⟨r20, hx21, hF⟩ := bind_some hF
  refine C_x1 (.cons (.t (.t (.t (.t (.t (.t (.t .h))))))) .nil) (X_callS cf54.h (.cons (.tmp rfl rfl) (.cons (.tmp rfl rfl) .nil)) (l_markIntS_ok a_a.Times v0_9 F0_9 r17.1 _ hx21)) (fun p22 => ?_)
  iterate 6 refine au ?_
  obtain ⟨r23, hx24, hF⟩ := bind_some hF
  refine C_x1 (.cons (.t (.t (.t (.t (.t (.t (.t (.t .h)))))))) .nil) (X_callS cf60.h (.cons (.tmp rfl rfl) (.cons (.tmp rfl rfl) .nil)) (l_markIntSSS_ok a_a.Results v0_11 F0_11 r20.1 _ hx24)) (fun p25 => ?_)
  iterate 7 refine au ?_
  obtain rfl := Option.some.inj hF
  exact End_ret (p4, p7, p10, p13, p16, p19, p22, p25) (.tmp rfl rfl .nil) rfl (.sel (.cons (.t (.t (.t (.t (.t (.t (.t .h))))))) (.cons (.t (.t (.t (.t (.t (.t .h)))))) (.cons (.t (.t (.t (.t (.t .h))))) (.cons (.t (.t (.t (.t .h)))) (.cons (.t (.t (.t .h))) (.cons (.t (.t .h)) (.cons (.t .h) (.cons .h .nil)))))))))

/-! laws.markText -/
def l_markText_L1 : Nat → Int → (List UInt8) → Option ((List UInt8))
  | 0, _, _ => none
  | m5 + 1, c3, c4 => if (decide ((0 : Int) < c3)) then (
      (cat [(u8of (IntKind.i64.wrap (48 + (Int.tmod c3 10))))] c4).bind fun x14 =>
      l_markText_L1 m5 (IntKind.i64.wrap (Int.tdiv c3 10)) x14)
    else (
      some c4)
def l_markText (a_k : Int) : Option ((List UInt8)) :=
  if (decide ((a_k : Int) ≤ 0)) then (
    some [109, 48])
  else (
    (l_markText_L1 ((a_k - 0).toNat + 2) a_k []).bind fun o1 =>
    match o1 with
    | c19 => (cat [109] c19).bind fun x20 =>
      some x20)
theorem l_markText_ok (a_k : Int) (R : (List UInt8)) (hF : l_markText a_k = some R) :
    Fw.Spec Tryz.prog 61 [(.int .i64 a_k)] [] (fun _ : Unit => (sv R)) (fun _ => []) := by
  refine Spec_enter (n := 20) Tryz.func61 rfl rfl (rs := [.tmp 2]) rfl rfl rfl ?_
  intro H0 F0
  unfold l_markText at hF
  iterate 8 refine au ?_
  refine Cc (fun hb25 => ?_) (fun hb25 => ?_)
  · rw [if_pos hb25] at hF
    iterate 4 refine au ?_
    cases hF
    exact Er ()
  rw [if_neg (nt hb25)] at hF
  iterate 4 refine au ?_
  obtain ⟨o1, hio1, hO2⟩ := bind_some hF
  refine K_cut (fun f' cs' => ∃ (c19 : List UInt8) (g : Fr), c19 = o1 ∧ f' = updL g [(3, (sv c19))] ∧ Ent cs' []) ?_ ?_
  · replace hF := hio1
    refine CW_block (CW_loop (m := ((a_k - 0).toNat + 2)) (fun m5 f' cs' => ∃ (g : Fr) (c3 : Int) (c4 : List UInt8), f' = updL g [(0, (.int .i64 c3)), (3, (sv c4))] ∧ Ent cs' [] ∧ l_markText_L1 m5 c3 c4 = some o1) ⟨_, _, _, eqA, entA, hF⟩ ?_)
    clear hF
    rintro m5 _ _ ⟨g6, c3, c4, rfl, hE, hF⟩
    refine K_ent hE ?_
    clear hE
    rcases m5 with _ | m5
    · rw [l_markText_L1] at hF
      exact absurd hF (by simp)
    rw [l_markText_L1] at hF
    iterate 5 refine au ?_
    refine Cc (fun hb18 => ?_) (fun hb18 => ?_)
    · rw [if_pos hb18] at hF
      refine au ?_
      refine CW_block (K_region (Cm (.int .i64 c3) rfl rfl ?_))
      refine C_val (V_rem (i := c3) (j := 10) (.tmp rfl rfl) (.int _ _) (by decide)) ?_
      refine au ?_
      refine C_val (V_convU8 (i := (IntKind.i64.wrap (48 + (Int.tmod c3 10)))) ik3 ik5 (.tmp rfl rfl)) ?_
      refine C_new rfl (N_buildSliceT (g := true) sl146.h ty5.h (.cons (.tmp rfl rfl) .nil) (vs := [(.int .u8 ((u8of (IntKind.i64.wrap (48 + (Int.tmod c3 10)))).toNat : Int))]) rfl rfl rfl (by intro v hv; simp at hv; rcases hv with rfl <;> rfl)) (fun k13 => ?_)
      refine Cv1 (.cons .h .nil) (own_lit (Ro := (roE rdU8)) (E := 5) (F := ([] ++ [])) (xs := ([(u8of (IntKind.i64.wrap (48 + (Int.tmod c3 10))))] : List UInt8)) (MkL_cons (Mk_pure (fun _ => rfl)) MkL_nil apps) rfl rfl) ?_
      refine C_at .h (fun hp => V_bytes1 (u := (u8of (IntKind.i64.wrap (48 + (Int.tmod c3 10))))) sl146.h ik5 str9 ty5.h.sz (.tmp rfl rfl) hp) ?_
      refine au ?_
      obtain ⟨x14, hx15, hF⟩ := bind_some hF
      obtain ⟨hq17, hz16⟩ := cat_some hx15
      refine C_val (V_concatN (s := [(u8of (IntKind.i64.wrap (48 + (Int.tmod c3 10))))]) (t := c4) (u := x14) (.tmp rfl rfl) (.tmp rfl rfl) hx15) ?_
      iterate 4 refine au ?_
      refine C_val (V_quo (i := c3) (j := 10) (.tmp rfl rfl) (.int _ _) (by decide)) ?_
      iterate 2 refine au ?_
      exact ⟨m5, Nat.lt_succ_self _, _, _, _, eqA, entA, hF⟩
    rw [if_neg (nt hb18)] at hF
    iterate 4 refine au ?_
    cases hF
    exact ⟨_, _, rfl, eqA, entA⟩
  rintro _ _ ⟨c19, g24, rfl, rfl, hE⟩
  replace hF := hO2
  clear hO2
  try dsimp only at hF
  refine K_ent hE ?_
  iterate 2 refine au ?_
  obtain ⟨x20, hx21, hF⟩ := bind_some hF
  obtain ⟨hq23, hz22⟩ := cat_some hx21
  refine C_val (V_concatN (s := [109]) (t := c19) (u := x20) (.sv _) (.tmp rfl rfl) hx21) ?_
  iterate 3 refine au ?_
  cases hF
  exact Er ()

/-! laws.markStringS -/
def l_markStringS_L1 : Nat → (List (List UInt8)) → Int → Int → Option (Int × (List (List UInt8)))
  | 0, _, _, _ => none
  | m26 + 1, c22, c24, c25 => if (decide ((c25 : Int) < (c22.length : Int))) then (
      (l_markText c24).bind fun r34 =>
      (chk (decide (0 ≤ c25) && decide (c25 < (c22.length : Int)))).bind fun u40 =>
      (some (c22.set (c25).toNat r34)).bind fun z42 =>
      l_markStringS_L1 m26 z42 (IntKind.i64.wrap (c24 + 1)) (IntKind.i64.wrap (c25 + 1)))
    else (
      some (c24, c22))
def l_markStringS (a_a : List (List UInt8)) (a_k : Int) : Option (Int × (List (List UInt8))) :=
  l_markStringS_L1 (((a_a.length : Int) - 0).toNat + 2) a_a a_k 0
theorem l_markStringS_ok (a_a : List (List UInt8)) (v0_0 : Sv) (F0_0 : List Nat) (a_k : Int) (R : Int × (List (List UInt8))) (hF : l_markStringS a_a a_k = some R) :
    Fw.Spec Tryz.prog 13 [v0_0.v, (.int .i64 a_k)] [cown (OwnS 9 (roE rdStr)) F0_0 v0_0.v a_a] (fun _ : List Nat => (.int .i64 R.1)) (fun p => [cown (OwnS 9 (roE rdStr)) p v0_0.v R.2]) := by
  refine Spec_enter (n := 20) Tryz.func13 rfl rfl (rs := [.tmp 4]) rfl rfl rfl ?_
  intro H0 F0
  unfold l_markStringS at hF
  iterate 7 refine au ?_
  refine CW_block (CW_loop (m := (((a_a.length : Int) - 0).toNat + 2)) (fun m26 f' cs' => ∃ (g : Fr) (c22 : List (List UInt8)) (c24 : Int) (c25 : Int) (F23 : List Nat), f' = updL g [(0, v0_0.v), (1, (.int .i64 c24)), (5, (.int .i64 c25))] ∧ Ent cs' [cown (OwnS 9 (roE rdStr)) F23 v0_0.v c22] ∧ l_markStringS_L1 m26 c22 c24 c25 = some R) ⟨_, _, _, _, F0_0, eqA, entA, hF⟩ ?_)
  clear hF
  rintro m26 _ _ ⟨g27, c22, c24, c25, F23, rfl, hE, hF⟩
  refine K_ent hE ?_
  clear hE
  rcases m26 with _ | m26
  · rw [l_markStringS_L1] at hF
    exact absurd hF (by simp)
  rw [l_markStringS_L1] at hF
  iterate 7 refine au ?_
  refine Cc (fun hb45 => ?_) (fun hb45 => ?_)
  · rw [if_pos hb45] at hF
    iterate 6 refine au ?_
    obtain ⟨r34, hx35, hF⟩ := bind_some hF
    refine Cx0 (l_markText_ok _ _ hx35) (fun _ => ?_)
    obtain ⟨u40, hx41, hF⟩ := bind_some hF
    have hi39 := chk_some hx41
    refine C_idxO sl36.h ty9.h.sz (.tmp rfl rfl) (.tmp rfl rfl) .h hi39 (fun k37 hk38 => ?_)
    obtain ⟨z42, hx43, hF⟩ := bind_some hF
    replace hx43 := Option.some.inj hx43
    refine C_x1 (.cons .h .nil) (X_storeO (Ro := (roE rdStr)) (a := r34) (i := c25) ty9.h.sz rfl (.tmp rfl rfl) (.tmp rfl rfl) hk38 hi39 (Mk_pure (fun _ => rfl)) (fun _ _ _ _ h => by obtain ⟨-, h⟩ := h; cases h; rfl)) (fun F44 => ?_)
    rw [hx43]
    iterate 11 refine au ?_
    exact ⟨m26, Nat.lt_succ_self _, _, _, _, _, F44, eqA, entA, hF⟩
  rw [if_neg (nt hb45)] at hF
  iterate 9 refine au ?_
  cases hF
  exact Er F23

/-! laws.heldStringS -/
def l_heldStringS_L1 : List (List UInt8) → Nat → Int → Option (Int)
  | [], k5, c1 => some c1
  | x7 :: rest6, k5, c1 => (l_markText c1).bind fun r16 =>
    if (!(x7 == r16)) then (
      some (-1))
    else (
      l_heldStringS_L1 rest6 (k5 + 1) (IntKind.i64.wrap (c1 + 1)))
def l_heldStringS (a_a : List (List UInt8)) (a_k : Int) : Option (Int) :=
  l_heldStringS_L1 a_a 0 a_k
theorem l_heldStringS_ok (a_a : List (List UInt8)) (v0_0 : Sv) (a_k : Int) (R : Int) (hF : l_heldStringS a_a a_k = some R) :
    Fw.Spec Tryz.prog 14 [v0_0.v, (.int .i64 a_k)] [crd (RdS 9 rdStr) v0_0.v a_a] (fun _ : Unit => (.int .i64 R)) (fun _ => []) := by
  refine Spec_enter (n := 22) Tryz.func14 rfl rfl (rs := [.tmp 4]) rfl rfl rfl ?_
  intro H0 F0
  unfold l_heldStringS at hF
  iterate 7 refine au ?_
  refine CW_block (CW_loop (m := a_a.length) (fun m3 f' cs' => ∃ (g : Fr) (k5 : Nat) (rest6 : List (List UInt8)) (c1 : Int), m3 = rest6.length ∧ f' = updL g [(0, v0_0.v), (1, (.int .i64 c1)), (5, (.int .i64 (k5 : Int)))] ∧ List.drop k5 a_a = rest6 ∧ Ent cs' [crd (RdS 9 rdStr) v0_0.v a_a] ∧ l_heldStringS_L1 rest6 k5 c1 = some R) ⟨_, 0, _, _, rfl, eqA, rfl, entA, hF⟩ ?_)
  clear hF
  rintro m3 _ _ ⟨g4, k5, rest6, c1, rfl, rfl, hd8, hE, hF⟩
  refine K_ent hE ?_
  clear hE
  refine K_pure (c := crd (RdS 9 rdStr) v0_0.v a_a) .h crd_bound (fun hbd13 => ?_)
  rcases rest6 with _ | ⟨x7, rest6⟩
  · have hk9 := List.drop_eq_nil_iff.1 hd8
    rw [l_heldStringS_L1] at hF
    iterate 7 refine au ?_
    refine CdF ?_
    iterate 9 refine au ?_
    cases hF
    exact Er ()
  obtain ⟨hk9, hx10, hd11⟩ := drop_cons hd8
  rw [l_heldStringS_L1] at hF
  iterate 7 refine au ?_
  refine CdT ?_
  iterate 3 refine au ?_
  refine K_draw [0, 1, 2, 3, 4, 5, 6] [0, 0, 3, 7, 0, 16, 63] [5] mixed (by decide +kernel) ?_
  iterate 2 refine du ?_
  refine Di hx10 (fun k14 j15 => ?_)
  refine Dl ls9_0 ?_
  refine du ?_
  obtain ⟨r16, hx17, hF⟩ := bind_some hF
  refine Dx0 (l_markText_ok _ _ hx17) (fun _ => ?_)
  refine D_val rfl .no (fun ha => V_neT (s := x7) (t := r16) (EN ha (.tmp rfl rfl) rfl) (EN ha (.tmp rfl rfl) rfl)) ?_
  refine du ?_
  refine Cc (fun hb20 => ?_) (fun hb20 => ?_)
  · rw [if_pos hb20] at hF
    iterate 4 refine au ?_
    cases hF
    exact Er ()
  rw [if_neg (nt hb20)] at hF
  iterate 11 refine au ?_
  rw [wk k5]
  exact ⟨_, Nat.lt_succ_self _, _, k5 + 1, rest6, _, rfl, eqA, hd11, entA, hF⟩

/-! laws.FnExactCacheLines -/
def l_FnExactCacheLines (fuel : Nat) (a_aM : Mediator) : Option (Bool) :=
  (l_szMediator a_aM 1048576).bind fun r2 =>
  if (decide ((r2 : Int) < 0)) then (
    some true)
  else (
    (l_toMediator a_aM).bind fun r5 =>
    (s_CacheLines fuel r5).bind fun r8 =>
    (l_toMediator a_aM).bind fun r11 =>
    (i_CacheLines r11).bind fun r15 =>
    (l_eqStringS r15 r8).bind fun r18 =>
    if (!r18) then (
      some false)
    else (
      (l_toMediator a_aM).bind fun r21 =>
      (l_eqMediator r11 r21).bind fun r24 =>
      if (!r24) then (
        some false)
      else (
        (l_markMediator r11 1).bind fun r27 =>
        (bif (decide ((r27.1 : Int) < 0)) then (some true)
          else ((l_eqStringS r15 r8).bind fun r33 =>
            some (!r33))).bind fun o30 =>
        match o30 with
        | c36 => if c36 then (
            some false)
          else (
            (l_markStringS r15 1).bind fun r37 =>
            (l_heldStringS r37.2 1).bind fun r40 =>
            if (decide ((r40 : Int) < 0)) then (
              some false)
            else (
              if ((r40 : Int) != r37.1) then (
                some false)
              else (
                (l_toMediator a_aM).bind fun r43 =>
                (i_CacheLines r43).bind fun r46 =>
                (l_eqStringS r46 r8).bind fun r49 =>
                if (!r49) then (
                  some false)
                else (
                  (l_heldStringS r37.2 1).bind fun r52 =>
                  if (decide ((r52 : Int) < 0)) then (
                    some false)
                  else (
                    if ((r52 : Int) != r37.1) then (
                      some false)
                    else (
                      some true)))))))))
theorem l_FnExactCacheLines_ok (fuel : Nat) (a_aM : Mediator) (v0_0 : Sv) (v0_1 : Sv) (v0_2 : Sv) (v0_3 : Sv) (v0_5 : Sv) (v0_8 : Sv) (v0_9 : Sv) (v0_11 : Sv) (R : Bool) (hF : l_FnExactCacheLines fuel a_aM = some R) :
    Fw.Spec Tryz.prog 3 [(.agg [v0_0.v, v0_1.v, v0_2.v, v0_3.v, (.int .i64 a_aM.Source.Version), v0_5.v, (.int .i64 a_aM.Cache.Age), (.int .i64 a_aM.Now), v0_8.v, v0_9.v, (.int .i64 a_aM.Spent), v0_11.v].toArray)] [crd (RdS 3 rdInt) v0_0.v a_aM.Schema, crd (RdS 103 rd103) v0_1.v a_aM.Methods, crd (RdS 135 rd135) v0_2.v a_aM.Rules, crd (RdS 106 rd106) v0_3.v a_aM.Source.Facts, crd (RdS 184 rd184) v0_5.v a_aM.Cache.Entries, crd (RdS 120 rd120) v0_8.v a_aM.Log, crd (RdS 3 rdInt) v0_9.v a_aM.Times, crd (RdS 139 (RdS 22 (RdS 3 rdInt))) v0_11.v a_aM.Results] (fun _ : Unit => (.bool R)) (fun _ => []) := by
  refine Spec_enter (n := 69) Tryz.func3 rfl rfl (rs := [.tmp 2]) rfl rfl rfl ?_
  intro H0 F0
  unfold l_FnExactCacheLines at hF
  refine K_region (C_newR rfl (N_box (g := false) (v := (.agg [v0_0.v, v0_1.v, v0_2.v, v0_3.v, (.int .i64 a_aM.Source.Version), v0_5.v, (.int .i64 a_aM.Cache.Age), (.int .i64 a_aM.Now), v0_8.v, v0_9.v, (.int .i64 a_aM.Spent), v0_11.v].toArray)) ty34.h.sz (.tmp rfl rfl) rfl) (fun k1 => ?_))
  refine C_val (V_assign (v := (.bool false)) (.bool _)) ?_
  refine C_nil (K_region (C_val (V_assign (v := (.int .i64 1048576)) (.int _ _)) ?_))
  refine C_nil (K_region (C_at .h (fun hp => V_loadBox ag34.h ty34.h.sz rfl (.tmp rfl rfl) hp.2 rfl) ?_))
  refine Cm (.int .i64 1048576) rfl rfl ?_
  obtain ⟨r2, hx3, hF⟩ := bind_some hF
  refine C_x0 (.rd (.t .h) rfl (.rd (.t (.t .h)) rfl (.rd (.t (.t (.t .h))) rfl (.rd (.t (.t (.t (.t .h)))) rfl (.rd (.t (.t (.t (.t (.t .h))))) rfl (.rd (.t (.t (.t (.t (.t (.t .h)))))) rfl (.rd (.t (.t (.t (.t (.t (.t (.t .h))))))) rfl (.rd (.t (.t (.t (.t (.t (.t (.t (.t .h)))))))) rfl .nil)))))))) (X_callS cf6.h (.cons (.tmp rfl rfl) (.cons (.tmp rfl rfl) .nil)) (l_szMediator_ok a_aM v0_0 v0_1 v0_2 v0_3 v0_5 v0_8 v0_9 v0_11 1048576 _ hx3)) (fun _ => ?_)
  refine Ca (.int .i64 r2) rfl rfl ?_
  refine C_nil (K_in (K_region (Cm (.int .i64 r2) rfl rfl ?_)))
  refine C_val (V_lss (i := r2) (j := 0) (.tmp rfl rfl) (.int _ _)) ?_
  refine C_nil (CW_cond (b := (decide ((r2 : Int) < 0))) (.tmp rfl rfl) (fun hb64 => ?_) (fun hb64 => ?_))
  · rw [if_pos hb64] at hF
    refine K_region (C_val (V_assign (v := (.bool true)) (.bool _)) ?_)
    refine C_nil (CW_ret ?_)
    obtain rfl := Option.some.inj hF
    exact End_ret () (.tmp rfl rfl .nil) rfl (.sel .nil)
  rw [if_neg (by rw [hb64]; exact Bool.false_ne_true)] at hF
  refine CW_skip (K_region (C_at .h (fun hp => V_loadBox ag34.h ty34.h.sz rfl (.tmp rfl rfl) hp.2 rfl) ?_))
  obtain ⟨r5, hx6, hF⟩ := bind_some hF
  refine C_x8 (.rd (.t .h) rfl (.rd (.t (.t .h)) rfl (.rd (.t (.t (.t .h))) rfl (.rd (.t (.t (.t (.t .h)))) rfl (.rd (.t (.t (.t (.t (.t .h))))) rfl (.rd (.t (.t (.t (.t (.t (.t .h)))))) rfl (.rd (.t (.t (.t (.t (.t (.t (.t .h))))))) rfl (.rd (.t (.t (.t (.t (.t (.t (.t (.t .h)))))))) rfl .nil)))))))) (X_callS cf8.h (.cons (.tmp rfl rfl) .nil) (l_toMediator_ok a_aM v0_0 v0_1 v0_2 v0_3 v0_5 v0_8 v0_9 v0_11 _ hx6)) (fun p7 => ?_)
  obtain ⟨r8, hx9, hF⟩ := bind_some hF
  refine C_x9 (.cons (.t (.t (.t (.t (.t (.t (.t .h))))))) (.cons (.t (.t (.t (.t (.t (.t .h)))))) (.cons (.t (.t (.t (.t (.t .h))))) (.cons (.t (.t (.t (.t .h)))) (.cons (.t (.t (.t .h))) (.cons (.t (.t .h)) (.cons (.t .h) (.cons .h .nil)))))))) (XC_borL (pre := []) (.cons frz_own (.cons frz_own (.cons frz_own (.cons frz_own (.cons frz_own (.cons frz_own (.cons frz_own (.cons frz_own .nil)))))))) (fun _ => (.cons .nil)) (X_callS cf7.h (.cons (.tmp rfl rfl) .nil) (s_CacheLines_ok fuel r5 p7.1 p7.2.2.1 p7.2.2.2.2.1 p7.2.2.2.2.2.2.1 p7.2.2.2.2.2.2.2.2.1 p7.2.2.2.2.2.2.2.2.2.2.1 p7.2.2.2.2.2.2.2.2.2.2.2.2.1 p7.2.2.2.2.2.2.2.2.2.2.2.2.2.2.1 _ hx9))) (fun p10 => ?_)
  refine Ca p10.1.v rfl rfl ?_
  refine C_nil (K_region (C_at (.t (.t (.t (.t (.t (.t (.t (.t (.t .h))))))))) (fun hp => V_loadBox ag34.h ty34.h.sz rfl (.tmp rfl rfl) hp.2 rfl) ?_))
  obtain ⟨r11, hx12, hF⟩ := bind_some hF
  refine C_x8 (.rd (.t (.t (.t (.t (.t (.t (.t (.t (.t (.t .h)))))))))) rfl (.rd (.t (.t (.t (.t (.t (.t (.t (.t (.t (.t (.t .h))))))))))) rfl (.rd (.t (.t (.t (.t (.t (.t (.t (.t (.t (.t (.t (.t .h)))))))))))) rfl (.rd (.t (.t (.t (.t (.t (.t (.t (.t (.t (.t (.t (.t (.t .h))))))))))))) rfl (.rd (.t (.t (.t (.t (.t (.t (.t (.t (.t (.t (.t (.t (.t (.t .h)))))))))))))) rfl (.rd (.t (.t (.t (.t (.t (.t (.t (.t (.t (.t (.t (.t (.t (.t (.t .h))))))))))))))) rfl (.rd (.t (.t (.t (.t (.t (.t (.t (.t (.t (.t (.t (.t (.t (.t (.t (.t .h)))))))))))))))) rfl (.rd (.t (.t (.t (.t (.t (.t (.t (.t (.t (.t (.t (.t (.t (.t (.t (.t (.t .h))))))))))))))))) rfl .nil)))))))) (X_callS cf8.h (.cons (.tmp rfl rfl) .nil) (l_toMediator_ok a_aM v0_0 v0_1 v0_2 v0_3 v0_5 v0_8 v0_9 v0_11 _ hx12)) (fun p13 => ?_)
  refine C_new rfl (N_allocT (g := true) ty48.h rfl rfl) (fun k14 => ?_)
  refine C_x1 (.cons .h .nil) (X_storeB (e' := (.agg [p13.1.v, p13.2.2.1.v, p13.2.2.2.2.1.v, p13.2.2.2.2.2.2.1.v, (.int .i64 r11.Source.Version), p13.2.2.2.2.2.2.2.2.1.v, (.int .i64 r11.Cache.Age), (.int .i64 r11.Now), p13.2.2.2.2.2.2.2.2.2.2.1.v, p13.2.2.2.2.2.2.2.2.2.2.2.2.1.v, (.int .i64 r11.Spent), p13.2.2.2.2.2.2.2.2.2.2.2.2.2.2.1.v].toArray)) (v := (.agg [p13.1.v, p13.2.2.1.v, p13.2.2.2.2.1.v, p13.2.2.2.2.2.2.1.v, (.int .i64 r11.Source.Version), p13.2.2.2.2.2.2.2.2.1.v, (.int .i64 r11.Cache.Age), (.int .i64 r11.Now), p13.2.2.2.2.2.2.2.2.2.2.1.v, p13.2.2.2.2.2.2.2.2.2.2.2.2.1.v, (.int .i64 r11.Spent), p13.2.2.2.2.2.2.2.2.2.2.2.2.2.2.1.v].toArray)) ty48.h.sz (.tmp rfl rfl) (.tmp rfl rfl) rfl rfl rfl rfl rfl) (fun _ => ?_)
  refine C_nil (K_region (C_at .h (fun hp => V_loadBox ag48.h ty48.h.sz rfl (.tmp rfl rfl) hp.2 rfl) ?_))
  obtain ⟨r15, hx16, hF⟩ := bind_some hF
  refine C_x9 (.cons (.t (.t (.t (.t (.t (.t (.t (.t .h)))))))) (.cons (.t (.t (.t (.t (.t (.t (.t .h))))))) (.cons (.t (.t (.t (.t (.t (.t .h)))))) (.cons (.t (.t (.t (.t (.t .h))))) (.cons (.t (.t (.t (.t .h)))) (.cons (.t (.t (.t .h))) (.cons (.t (.t .h)) (.cons (.t .h) .nil)))))))) (XC_borL (pre := []) (.cons frz_own (.cons frz_own (.cons frz_own (.cons frz_own (.cons frz_own (.cons frz_own (.cons frz_own (.cons frz_own .nil)))))))) (fun _ => (.cons .nil)) (X_callS cf9.h (.cons (.tmp rfl rfl) .nil) (i_CacheLines_ok r11 p13.1 p13.2.2.1 p13.2.2.2.2.1 p13.2.2.2.2.2.2.1 p13.2.2.2.2.2.2.2.2.1 p13.2.2.2.2.2.2.2.2.2.2.1 p13.2.2.2.2.2.2.2.2.2.2.2.2.1 p13.2.2.2.2.2.2.2.2.2.2.2.2.2.2.1 _ hx16))) (fun p17 => ?_)
  refine Ca p17.1.v rfl rfl ?_
  refine C_nil (K_in (K_region (Cm p17.1.v rfl rfl ?_)))
  refine Cm p10.1.v rfl rfl ?_
  obtain ⟨r18, hx19, hF⟩ := bind_some hF
  refine C_x2 (.cons (.t (.t (.t (.t (.t (.t (.t (.t (.t (.t (.t (.t (.t (.t (.t (.t (.t (.t .h)))))))))))))))))) (.cons (.t (.t (.t (.t (.t (.t (.t (.t .h)))))))) .nil)) (XC_borL (pre := []) (.cons frz_own (.cons frz_own .nil)) (fun _ => .nil) (X_callS cf10.h (.cons (.tmp rfl rfl) (.cons (.tmp rfl rfl) .nil)) (l_eqStringS_ok r15 p17.1 r8 p10.1 _ hx19))) (fun _ => ?_)
  refine C_val (V_not (b := r18) (.tmp rfl rfl)) ?_
  refine C_nil (CW_cond (b := (!r18)) (.tmp rfl rfl) (fun hb63 => ?_) (fun hb63 => ?_))
  · rw [if_pos hb63] at hF
    refine K_region (C_val (V_assign (v := (.bool false)) (.bool _)) ?_)
    refine C_nil (CW_ret ?_)
    obtain rfl := Option.some.inj hF
    exact End_ret () (.tmp rfl rfl .nil) rfl (.sel .nil)
  rw [if_neg (by rw [hb63]; exact Bool.false_ne_true)] at hF
  refine CW_skip (K_in (K_draw [0, 1, 2, 3, 4] [0, 0, 2, 7, 15] [2, 3] mixed (by decide +kernel) ?_))
  refine D_atO rfl .no (.t (.t (.t (.t (.t (.t (.t (.t (.t (.t .h)))))))))) (fun ha hp => V_loadBox ag48.h ty48.h.sz rfl (EN ha (.tmp rfl rfl) rfl) hp.2 rfl) ?_
  refine D_at rfl .no (.t (.t (.t (.t (.t (.t (.t (.t (.t (.t (.t (.t (.t (.t (.t (.t (.t (.t (.t .h))))))))))))))))))) rfl (fun ha hp => V_loadBox ag34.h ty34.h.sz rfl (EN ha (.tmp rfl rfl) rfl) hp.2 rfl) ?_
  obtain ⟨r21, hx22, hF⟩ := bind_some hF
  refine D_act8 rfl rfl .no (.rd (.t (.t (.t (.t (.t (.t (.t (.t (.t (.t (.t (.t (.t (.t (.t (.t (.t (.t (.t (.t .h)))))))))))))))))))) rfl (.rd (.t (.t (.t (.t (.t (.t (.t (.t (.t (.t (.t (.t (.t (.t (.t (.t (.t (.t (.t (.t (.t .h))))))))))))))))))))) rfl (.rd (.t (.t (.t (.t (.t (.t (.t (.t (.t (.t (.t (.t (.t (.t (.t (.t (.t (.t (.t (.t (.t (.t .h)))))))))))))))))))))) rfl (.rd (.t (.t (.t (.t (.t (.t (.t (.t (.t (.t (.t (.t (.t (.t (.t (.t (.t (.t (.t (.t (.t (.t (.t .h))))))))))))))))))))))) rfl (.rd (.t (.t (.t (.t (.t (.t (.t (.t (.t (.t (.t (.t (.t (.t (.t (.t (.t (.t (.t (.t (.t (.t (.t (.t .h)))))))))))))))))))))))) rfl (.rd (.t (.t (.t (.t (.t (.t (.t (.t (.t (.t (.t (.t (.t (.t (.t (.t (.t (.t (.t (.t (.t (.t (.t (.t (.t .h))))))))))))))))))))))))) rfl (.rd (.t (.t (.t (.t (.t (.t (.t (.t (.t (.t (.t (.t (.t (.t (.t (.t (.t (.t (.t (.t (.t (.t (.t (.t (.t (.t .h)))))))))))))))))))))))))) rfl (.rd (.t (.t (.t (.t (.t (.t (.t (.t (.t (.t (.t (.t (.t (.t (.t (.t (.t (.t (.t (.t (.t (.t (.t (.t (.t (.t (.t .h))))))))))))))))))))))))))) rfl .nil)))))))) (.own (.t (.t (.t (.t (.t (.t (.t (.t (.t (.t .h)))))))))) (fun _ h => h) .nil) (fun ha => X_callS cf8.h (.cons (EN ha (.tmp rfl rfl) rfl) .nil) (l_toMediator_ok a_aM v0_0 v0_1 v0_2 v0_3 v0_5 v0_8 v0_9 v0_11 _ hx22)) (fun p23 => ?_)
  obtain ⟨r24, hx25, hF⟩ := bind_some hF
  refine D_act16 rfl rfl .no (.cons (.t (.t (.t (.t (.t (.t (.t .h))))))) (.cons (.t (.t (.t (.t (.t (.t .h)))))) (.cons (.t (.t (.t (.t (.t .h))))) (.cons (.t (.t (.t (.t .h)))) (.cons (.t (.t (.t .h))) (.cons (.t (.t .h)) (.cons (.t .h) (.cons .h (.cons (.t (.t .h)) (.cons (.t (.t .h)) (.cons (.t (.t .h)) (.cons (.t (.t .h)) (.cons (.t (.t .h)) (.cons (.t (.t .h)) (.cons (.t (.t .h)) (.cons (.t (.t .h)) .nil)))))))))))))))) (.dep rfl .nil) (fun ha => XC_borL (pre := []) (.cons frz_own (.cons frz_own (.cons frz_own (.cons frz_own (.cons frz_own (.cons frz_own (.cons frz_own (.cons frz_own (.cons frz_own (.cons frz_own (.cons frz_own (.cons frz_own (.cons frz_own (.cons frz_own (.cons frz_own (.cons frz_own .nil)))))))))))))))) (fun _ => .nil) (X_callS cf11.h (.cons (EN ha (.tmp rfl rfl) rfl) (.cons (EN ha (.tmp rfl rfl) rfl) .nil)) (l_eqMediator_ok r11 p13.1 p13.2.2.1 p13.2.2.2.2.1 p13.2.2.2.2.2.2.1 p13.2.2.2.2.2.2.2.2.1 p13.2.2.2.2.2.2.2.2.2.2.1 p13.2.2.2.2.2.2.2.2.2.2.2.2.1 p13.2.2.2.2.2.2.2.2.2.2.2.2.2.2.1 r21 p23.1 p23.2.2.1 p23.2.2.2.2.1 p23.2.2.2.2.2.2.1 p23.2.2.2.2.2.2.2.2.1 p23.2.2.2.2.2.2.2.2.2.2.1 p23.2.2.2.2.2.2.2.2.2.2.2.2.1 p23.2.2.2.2.2.2.2.2.2.2.2.2.2.2.1 _ hx25))) (fun _ => ?_)
  refine D_val rfl .no (fun ha => V_not (b := r24) (EN ha (.tmp rfl rfl) rfl)) ?_
  refine D_nil (CW_cond (b := (!r24)) (.tmp rfl rfl) (fun hb62 => ?_) (fun hb62 => ?_))
  · rw [if_pos hb62] at hF
    refine K_region (C_val (V_assign (v := (.bool false)) (.bool _)) ?_)
    refine C_nil (CW_ret ?_)
    obtain rfl := Option.some.inj hF
    exact End_ret () (.tmp rfl rfl .nil) rfl (.sel .nil)
  rw [if_neg (by rw [hb62]; exact Bool.false_ne_true)] at hF
  refine CW_skip (K_region (C_val (V_assign (v := (.int .i64 1)) (.int _ _)) ?_))
  refine C_nil (K_region (C_at (.t (.t (.t (.t (.t (.t (.t (.t (.t (.t (.t (.t (.t (.t (.t (.t (.t (.t .h)))))))))))))))))) (fun hp => V_loadBox ag48.h ty48.h.sz rfl (.tmp rfl rfl) hp.2 rfl) ?_))
  refine Cm (.int .i64 1) rfl rfl ?_
  obtain ⟨r27, hx28, hF⟩ := bind_some hF
  refine C_x8 (.cons (.t (.t (.t (.t (.t (.t (.t (.t (.t (.t (.t (.t (.t (.t (.t .h))))))))))))))) (.cons (.t (.t (.t (.t (.t (.t (.t (.t (.t (.t (.t (.t (.t (.t .h)))))))))))))) (.cons (.t (.t (.t (.t (.t (.t (.t (.t (.t (.t (.t (.t (.t .h))))))))))))) (.cons (.t (.t (.t (.t (.t (.t (.t (.t (.t (.t (.t (.t .h)))))))))))) (.cons (.t (.t (.t (.t (.t (.t (.t (.t (.t (.t (.t .h))))))))))) (.cons (.t (.t (.t (.t (.t (.t (.t (.t (.t (.t .h)))))))))) (.cons (.t (.t (.t (.t (.t (.t (.t (.t (.t .h))))))))) (.cons (.t (.t (.t (.t (.t (.t (.t (.t .h)))))))) .nil)))))))) (X_callS cf12.h (.cons (.tmp rfl rfl) (.cons (.tmp rfl rfl) .nil)) (l_markMediator_ok r11 p13.1 p13.2.1 p13.2.2.1 p13.2.2.2.1 p13.2.2.2.2.1 p13.2.2.2.2.2.1 p13.2.2.2.2.2.2.1 p13.2.2.2.2.2.2.2.1 p13.2.2.2.2.2.2.2.2.1 p13.2.2.2.2.2.2.2.2.2.1 p13.2.2.2.2.2.2.2.2.2.2.1 p13.2.2.2.2.2.2.2.2.2.2.2.1 p13.2.2.2.2.2.2.2.2.2.2.2.2.1 p13.2.2.2.2.2.2.2.2.2.2.2.2.2.1 p13.2.2.2.2.2.2.2.2.2.2.2.2.2.2.1 p13.2.2.2.2.2.2.2.2.2.2.2.2.2.2.2 1 _ hx28)) (fun p29 => ?_)
  refine Ca (.int .i64 r27.1) rfl rfl ?_
  refine C_nil (K_in ?_)
  obtain ⟨o30, hio30, hO31⟩ := bind_some hF
  refine K_region (C_cut (fun f' cs' => ∃ (c36 : Bool) (g : Fr), c36 = o30 ∧ f' = updL g [(1, (.pointer (some ⟨k1, 0, some 0⟩))), (4, p10.1.v), (6, p17.1.v), (42, (.bool c36))] ∧ Ent cs' [cboR k1 34 (.agg [v0_0.v, v0_1.v, v0_2.v, v0_3.v, (.int .i64 a_aM.Source.Version), v0_5.v, (.int .i64 a_aM.Cache.Age), (.int .i64 a_aM.Now), v0_8.v, v0_9.v, (.int .i64 a_aM.Spent), v0_11.v].toArray), crd (RdS 3 rdInt) v0_0.v a_aM.Schema, crd (RdS 103 rd103) v0_1.v a_aM.Methods, crd (RdS 135 rd135) v0_2.v a_aM.Rules, crd (RdS 106 rd106) v0_3.v a_aM.Source.Facts, crd (RdS 184 rd184) v0_5.v a_aM.Cache.Entries, crd (RdS 120 rd120) v0_8.v a_aM.Log, crd (RdS 3 rdInt) v0_9.v a_aM.Times, crd (RdS 139 (RdS 22 (RdS 3 rdInt))) v0_11.v a_aM.Results, cown (OwnS 9 (roE rdStr)) p10.2 p10.1.v r8, cown (OwnS 9 (roE rdStr)) p17.2 p17.1.v r15]) ?_ ?_)
  · replace hF := hio30
    refine Cm (.int .i64 r27.1) rfl rfl ?_
    refine C_val (V_lss (i := r27.1) (j := 0) (.tmp rfl rfl) (.int _ _)) ?_
    refine Cm (.bool (decide ((r27.1 : Int) < 0))) rfl rfl ?_
    rcases Bool.eq_false_or_eq_true (decide ((r27.1 : Int) < 0)) with hg32 | hg32
    · rw [hg32]
      try rw [hg32] at hF; dsimp only [cond_true, cond_false] at hF
      iterate 4 refine C_off (t := 37) rfl rfl rfl ?_
      refine C_val (V_pick (b := true) (u := (.bool true)) (v := undef) (.tmp rfl rfl) (.bool _) (.tmp rfl rfl)) ?_
      refine C_nil ?_
      obtain rfl := Option.some.inj hF
      exact ⟨_, _, rfl, (EqL.cons rfl (EqL.cons rfl (EqL.cons rfl (EqL.cons rfl (EqL.nil))))).eq, (.sel (.rd (.t (.t (.t (.t (.t (.t (.t (.t (.t (.t (.t (.t (.t (.t (.t (.t (.t (.t (.t (.t (.t (.t (.t (.t (.t (.t (.t .h))))))))))))))))))))))))))) rfl (.rd (.t (.t (.t (.t (.t (.t (.t (.t (.t (.t (.t (.t (.t (.t (.t (.t (.t (.t (.t (.t (.t (.t (.t (.t (.t (.t (.t (.t .h)))))))))))))))))))))))))))) rfl (.rd (.t (.t (.t (.t (.t (.t (.t (.t (.t (.t (.t (.t (.t (.t (.t (.t (.t (.t (.t (.t (.t (.t (.t (.t (.t (.t (.t (.t (.t .h))))))))))))))))))))))))))))) rfl (.rd (.t (.t (.t (.t (.t (.t (.t (.t (.t (.t (.t (.t (.t (.t (.t (.t (.t (.t (.t (.t (.t (.t (.t (.t (.t (.t (.t (.t (.t (.t .h)))))))))))))))))))))))))))))) rfl (.rd (.t (.t (.t (.t (.t (.t (.t (.t (.t (.t (.t (.t (.t (.t (.t (.t (.t (.t (.t (.t (.t (.t (.t (.t (.t (.t (.t (.t (.t (.t (.t .h))))))))))))))))))))))))))))))) rfl (.rd (.t (.t (.t (.t (.t (.t (.t (.t (.t (.t (.t (.t (.t (.t (.t (.t (.t (.t (.t (.t (.t (.t (.t (.t (.t (.t (.t (.t (.t (.t (.t (.t .h)))))))))))))))))))))))))))))))) rfl (.rd (.t (.t (.t (.t (.t (.t (.t (.t (.t (.t (.t (.t (.t (.t (.t (.t (.t (.t (.t (.t (.t (.t (.t (.t (.t (.t (.t (.t (.t (.t (.t (.t (.t .h))))))))))))))))))))))))))))))))) rfl (.rd (.t (.t (.t (.t (.t (.t (.t (.t (.t (.t (.t (.t (.t (.t (.t (.t (.t (.t (.t (.t (.t (.t (.t (.t (.t (.t (.t (.t (.t (.t (.t (.t (.t (.t .h)))))))))))))))))))))))))))))))))) rfl (.rd (.t (.t (.t (.t (.t (.t (.t (.t (.t (.t (.t (.t (.t (.t (.t (.t (.t (.t (.t (.t (.t (.t (.t (.t (.t (.t (.t (.t (.t (.t (.t (.t (.t (.t (.t .h))))))))))))))))))))))))))))))))))) rfl (.cons (.t (.t (.t (.t (.t (.t (.t (.t (.t (.t (.t (.t (.t (.t (.t (.t .h)))))))))))))))) (.cons (.t (.t (.t (.t (.t (.t (.t (.t (.t (.t (.t (.t (.t (.t (.t (.t .h)))))))))))))))) .nil))))))))))))⟩
    rw [hg32]
    try rw [hg32] at hF; dsimp only [cond_true, cond_false] at hF
    refine C_on (t := 37) rfl rfl rfl ?_
    refine Cm p17.1.v rfl rfl ?_
    refine C_on (t := 37) rfl rfl rfl ?_
    refine Cm p10.1.v rfl rfl ?_
    refine C_on (t := 37) rfl rfl rfl ?_
    obtain ⟨r33, hx34, hF⟩ := bind_some hF
    refine C_x2 (.cons (.t (.t (.t (.t (.t (.t (.t (.t (.t (.t (.t (.t (.t (.t (.t (.t .h)))))))))))))))) (.cons (.t (.t (.t (.t (.t (.t (.t (.t (.t (.t (.t (.t (.t (.t (.t (.t .h)))))))))))))))) .nil)) (XC_borL (pre := []) (.cons frz_own (.cons frz_own .nil)) (fun _ => .nil) (X_callS cf10.h (.cons (.tmp rfl rfl) (.cons (.tmp rfl rfl) .nil)) (l_eqStringS_ok r15 p17.1 r8 p10.1 _ hx34))) (fun _ => ?_)
    refine C_on (t := 37) rfl rfl rfl ?_
    refine C_val (V_not (b := r33) (.tmp rfl rfl)) ?_
    refine C_val (V_pick (b := false) (u := (.bool true)) (v := (.bool (!r33))) (.tmp rfl rfl) (.bool _) (.tmp rfl rfl)) ?_
    refine C_nil ?_
    obtain rfl := Option.some.inj hF
    exact ⟨_, _, rfl, (EqL.cons rfl (EqL.cons rfl (EqL.cons rfl (EqL.cons rfl (EqL.nil))))).eq, (.sel (.rd (.t (.t (.t (.t (.t (.t (.t (.t (.t (.t (.t (.t (.t (.t (.t (.t (.t (.t (.t (.t (.t (.t (.t (.t (.t (.t (.t .h))))))))))))))))))))))))))) rfl (.rd (.t (.t (.t (.t (.t (.t (.t (.t (.t (.t (.t (.t (.t (.t (.t (.t (.t (.t (.t (.t (.t (.t (.t (.t (.t (.t (.t (.t .h)))))))))))))))))))))))))))) rfl (.rd (.t (.t (.t (.t (.t (.t (.t (.t (.t (.t (.t (.t (.t (.t (.t (.t (.t (.t (.t (.t (.t (.t (.t (.t (.t (.t (.t (.t (.t .h))))))))))))))))))))))))))))) rfl (.rd (.t (.t (.t (.t (.t (.t (.t (.t (.t (.t (.t (.t (.t (.t (.t (.t (.t (.t (.t (.t (.t (.t (.t (.t (.t (.t (.t (.t (.t (.t .h)))))))))))))))))))))))))))))) rfl (.rd (.t (.t (.t (.t (.t (.t (.t (.t (.t (.t (.t (.t (.t (.t (.t (.t (.t (.t (.t (.t (.t (.t (.t (.t (.t (.t (.t (.t (.t (.t (.t .h))))))))))))))))))))))))))))))) rfl (.rd (.t (.t (.t (.t (.t (.t (.t (.t (.t (.t (.t (.t (.t (.t (.t (.t (.t (.t (.t (.t (.t (.t (.t (.t (.t (.t (.t (.t (.t (.t (.t (.t .h)))))))))))))))))))))))))))))))) rfl (.rd (.t (.t (.t (.t (.t (.t (.t (.t (.t (.t (.t (.t (.t (.t (.t (.t (.t (.t (.t (.t (.t (.t (.t (.t (.t (.t (.t (.t (.t (.t (.t (.t (.t .h))))))))))))))))))))))))))))))))) rfl (.rd (.t (.t (.t (.t (.t (.t (.t (.t (.t (.t (.t (.t (.t (.t (.t (.t (.t (.t (.t (.t (.t (.t (.t (.t (.t (.t (.t (.t (.t (.t (.t (.t (.t (.t .h)))))))))))))))))))))))))))))))))) rfl (.rd (.t (.t (.t (.t (.t (.t (.t (.t (.t (.t (.t (.t (.t (.t (.t (.t (.t (.t (.t (.t (.t (.t (.t (.t (.t (.t (.t (.t (.t (.t (.t (.t (.t (.t (.t .h))))))))))))))))))))))))))))))))))) rfl (.cons .h (.cons .h .nil))))))))))))⟩
  rintro _ _ ⟨c36, g61, rfl, rfl, hE⟩
  replace hF := hO31
  clear hO31
  try dsimp only at hF
  refine K_ent hE ?_
  refine CW_cond (b := c36) (.tmp rfl rfl) (fun hb60 => ?_) (fun hb60 => ?_)
  · rw [if_pos hb60] at hF
    refine K_region (C_val (V_assign (v := (.bool false)) (.bool _)) ?_)
    refine C_nil (CW_ret ?_)
    obtain rfl := Option.some.inj hF
    exact End_ret () (.tmp rfl rfl .nil) rfl (.sel .nil)
  rw [if_neg (by rw [hb60]; exact Bool.false_ne_true)] at hF
  refine CW_skip (K_region (C_val (V_assign (v := (.int .i64 1)) (.int _ _)) ?_))
  refine C_nil (K_region (Cm p17.1.v rfl rfl ?_))
  refine Cm (.int .i64 1) rfl rfl ?_
  obtain ⟨r37, hx38, hF⟩ := bind_some hF
  refine C_x1 (.cons (.t (.t (.t (.t (.t (.t (.t (.t (.t (.t .h)))))))))) .nil) (X_callS cf13.h (.cons (.tmp rfl rfl) (.cons (.tmp rfl rfl) .nil)) (l_markStringS_ok r15 p17.1 p17.2 1 _ hx38)) (fun p39 => ?_)
  refine Ca (.int .i64 r37.1) rfl rfl ?_
  refine C_nil (K_region (C_val (V_assign (v := (.int .i64 1)) (.int _ _)) ?_))
  refine C_nil (K_region (Cm p17.1.v rfl rfl ?_))
  refine Cm (.int .i64 1) rfl rfl ?_
  obtain ⟨r40, hx41, hF⟩ := bind_some hF
  refine C_x1 (.cons .h .nil) (XC_bor frz_own (fun _ => .nil) (X_callS cf14.h (.cons (.tmp rfl rfl) (.cons (.tmp rfl rfl) .nil)) (l_heldStringS_ok r37.2 p17.1 1 _ hx41))) (fun _ => ?_)
  refine Ca (.int .i64 r40) rfl rfl ?_
  refine C_nil (K_in (K_region (Cm (.int .i64 r40) rfl rfl ?_)))
  refine C_val (V_lss (i := r40) (j := 0) (.tmp rfl rfl) (.int _ _)) ?_
  refine C_nil (CW_cond (b := (decide ((r40 : Int) < 0))) (.tmp rfl rfl) (fun hb59 => ?_) (fun hb59 => ?_))
  · rw [if_pos hb59] at hF
    refine K_region (C_val (V_assign (v := (.bool false)) (.bool _)) ?_)
    refine C_nil (CW_ret ?_)
    obtain rfl := Option.some.inj hF
    exact End_ret () (.tmp rfl rfl .nil) rfl (.sel .nil)
  rw [if_neg (by rw [hb59]; exact Bool.false_ne_true)] at hF
  refine CW_skip (K_in (K_region (Cm (.int .i64 r40) rfl rfl ?_)))
  refine Cm (.int .i64 r37.1) rfl rfl ?_
  refine C_val (V_neq (i := r40) (j := r37.1) (.tmp rfl rfl) (.tmp rfl rfl)) ?_
  refine C_nil (CW_cond (b := ((r40 : Int) != r37.1)) (.tmp rfl rfl) (fun hb58 => ?_) (fun hb58 => ?_))
  · rw [if_pos hb58] at hF
    refine K_region (C_val (V_assign (v := (.bool false)) (.bool _)) ?_)
    refine C_nil (CW_ret ?_)
    obtain rfl := Option.some.inj hF
    exact End_ret () (.tmp rfl rfl .nil) rfl (.sel .nil)
  rw [if_neg (by rw [hb58]; exact Bool.false_ne_true)] at hF
  refine CW_skip (K_region (C_at (.t .h) (fun hp => V_loadBox ag34.h ty34.h.sz rfl (.tmp rfl rfl) hp.2 rfl) ?_))
  obtain ⟨r43, hx44, hF⟩ := bind_some hF
  refine C_x8 (.rd (.t (.t .h)) rfl (.rd (.t (.t (.t .h))) rfl (.rd (.t (.t (.t (.t .h)))) rfl (.rd (.t (.t (.t (.t (.t .h))))) rfl (.rd (.t (.t (.t (.t (.t (.t .h)))))) rfl (.rd (.t (.t (.t (.t (.t (.t (.t .h))))))) rfl (.rd (.t (.t (.t (.t (.t (.t (.t (.t .h)))))))) rfl (.rd (.t (.t (.t (.t (.t (.t (.t (.t (.t .h))))))))) rfl .nil)))))))) (X_callS cf8.h (.cons (.tmp rfl rfl) .nil) (l_toMediator_ok a_aM v0_0 v0_1 v0_2 v0_3 v0_5 v0_8 v0_9 v0_11 _ hx44)) (fun p45 => ?_)
  obtain ⟨r46, hx47, hF⟩ := bind_some hF
  refine C_x9 (.cons (.t (.t (.t (.t (.t (.t (.t .h))))))) (.cons (.t (.t (.t (.t (.t (.t .h)))))) (.cons (.t (.t (.t (.t (.t .h))))) (.cons (.t (.t (.t (.t .h)))) (.cons (.t (.t (.t .h))) (.cons (.t (.t .h)) (.cons (.t .h) (.cons .h .nil)))))))) (XC_borL (pre := []) (.cons frz_own (.cons frz_own (.cons frz_own (.cons frz_own (.cons frz_own (.cons frz_own (.cons frz_own (.cons frz_own .nil)))))))) (fun _ => (.cons .nil)) (X_callS cf9.h (.cons (.tmp rfl rfl) .nil) (i_CacheLines_ok r43 p45.1 p45.2.2.1 p45.2.2.2.2.1 p45.2.2.2.2.2.2.1 p45.2.2.2.2.2.2.2.2.1 p45.2.2.2.2.2.2.2.2.2.2.1 p45.2.2.2.2.2.2.2.2.2.2.2.2.1 p45.2.2.2.2.2.2.2.2.2.2.2.2.2.2.1 _ hx47))) (fun p48 => ?_)
  refine Ca p48.1.v rfl rfl ?_
  refine C_nil (K_in (K_region (Cm p48.1.v rfl rfl ?_)))
  refine Cm p10.1.v rfl rfl ?_
  obtain ⟨r49, hx50, hF⟩ := bind_some hF
  refine C_x2 (.cons (.t (.t (.t (.t (.t (.t (.t (.t (.t (.t (.t (.t (.t (.t (.t (.t (.t (.t (.t .h))))))))))))))))))) (.cons (.t (.t (.t (.t (.t (.t (.t (.t .h)))))))) .nil)) (XC_borL (pre := []) (.cons frz_own (.cons frz_own .nil)) (fun _ => .nil) (X_callS cf10.h (.cons (.tmp rfl rfl) (.cons (.tmp rfl rfl) .nil)) (l_eqStringS_ok r46 p48.1 r8 p10.1 _ hx50))) (fun _ => ?_)
  refine C_val (V_not (b := r49) (.tmp rfl rfl)) ?_
  refine C_nil (CW_cond (b := (!r49)) (.tmp rfl rfl) (fun hb57 => ?_) (fun hb57 => ?_))
  · rw [if_pos hb57] at hF
    refine K_region (C_val (V_assign (v := (.bool false)) (.bool _)) ?_)
    refine C_nil (CW_ret ?_)
    obtain rfl := Option.some.inj hF
    exact End_ret () (.tmp rfl rfl .nil) rfl (.sel .nil)
  rw [if_neg (by rw [hb57]; exact Bool.false_ne_true)] at hF
  refine CW_skip (K_region (C_val (V_assign (v := (.int .i64 1)) (.int _ _)) ?_))
  refine C_nil (K_region (Cm p17.1.v rfl rfl ?_))
  refine Cm (.int .i64 1) rfl rfl ?_
  obtain ⟨r52, hx53, hF⟩ := bind_some hF
  refine C_x1 (.cons (.t (.t (.t (.t (.t (.t (.t (.t (.t (.t .h)))))))))) .nil) (XC_bor frz_own (fun _ => .nil) (X_callS cf14.h (.cons (.tmp rfl rfl) (.cons (.tmp rfl rfl) .nil)) (l_heldStringS_ok r37.2 p17.1 1 _ hx53))) (fun _ => ?_)
  refine Ca (.int .i64 r52) rfl rfl ?_
  refine C_nil (K_in (K_region (Cm (.int .i64 r52) rfl rfl ?_)))
  refine C_val (V_lss (i := r52) (j := 0) (.tmp rfl rfl) (.int _ _)) ?_
  refine C_nil (CW_cond (b := (decide ((r52 : Int) < 0))) (.tmp rfl rfl) (fun hb56 => ?_) (fun hb56 => ?_))
  · rw [if_pos hb56] at hF
    refine K_region (C_val (V_assign (v := (.bool false)) (.bool _)) ?_)
    refine C_nil (CW_ret ?_)
    obtain rfl := Option.some.inj hF
    exact End_ret () (.tmp rfl rfl .nil) rfl (.sel .nil)
  rw [if_neg (by rw [hb56]; exact Bool.false_ne_true)] at hF
  refine CW_skip (K_in (K_region (Cm (.int .i64 r52) rfl rfl ?_)))
  refine Cm (.int .i64 r37.1) rfl rfl ?_
  refine C_val (V_neq (i := r52) (j := r37.1) (.tmp rfl rfl) (.tmp rfl rfl)) ?_
  refine C_nil (CW_cond (b := ((r52 : Int) != r37.1)) (.tmp rfl rfl) (fun hb55 => ?_) (fun hb55 => ?_))
  · rw [if_pos hb55] at hF
    refine K_region (C_val (V_assign (v := (.bool false)) (.bool _)) ?_)
    refine C_nil (CW_ret ?_)
    obtain rfl := Option.some.inj hF
    exact End_ret () (.tmp rfl rfl .nil) rfl (.sel .nil)
  rw [if_neg (by rw [hb55]; exact Bool.false_ne_true)] at hF
  refine CW_skip (K_region (C_val (V_assign (v := (.bool true)) (.bool _)) ?_))
  refine C_nil (CW_ret ?_)
  obtain rfl := Option.some.inj hF
  exact End_ret () (.tmp rfl rfl .nil) rfl (.sel .nil)

end Go.Proofs.YtekdaagipplhhaaGreatDoor
