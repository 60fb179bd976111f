/-
  Functions of the program as Lean functions, and that the calls return what these say: part 4. No conditions.
-/
import Derived.Test.YtelpifelhmfdmaaGreatChangeFactG2
import Derived.KernelRfl
set_option maxRecDepth 100000
set_option maxHeartbeats 1000000
set_option linter.unusedVariables false
namespace Go.Proofs.YtelpifelhmfdmaaGreat
open Go Go.Fw

/-! laws.heldFactS -/
def l_heldFactS_L1 : List Fact → Nat → Int → Option (Int)
  | [], k5, c1 => some c1
  | x7 :: rest6, k5, c1 => if ((x7.Rel : Int) != c1) then (
      some (-1))
    else (
      (l_heldIntS x7.Values (IntKind.i64.wrap (c1 + 1))).bind fun r19 =>
      if (decide ((r19 : Int) < 0)) then (
        some (-1))
      else (
        l_heldFactS_L1 rest6 (k5 + 1) r19))
def l_heldFactS (a_a : List Fact) (a_k : Int) : Option (Int) :=
  l_heldFactS_L1 a_a 0 a_k
theorem l_heldFactS_ok (a_a : List Fact) (v0_0 : Sv) (a_k : Int) (R : Int) (hF : l_heldFactS a_a a_k = some R) :
    Fw.Spec Tryz.prog 122 [v0_0.v, (.int .i64 a_k)] [crd (RdS 55 rd55) v0_0.v a_a] (fun _ : Unit => (.int .i64 R)) (fun _ => []) := by
  refine Spec_enter (n := 31) Tryz.func122 rfl rfl (rs := [.tmp 4]) rfl rfl rfl ?_
  intro H0 F0
  unfold l_heldFactS at hF
  iterate 7 refine au ?_
  refine CW_block (CW_loop (m := a_a.length) (fun m3 f' cs' => ∃ (g : Fr) (k5 : Nat) (rest6 : List Fact) (c1 : Int), m3 = rest6.length ∧ f' = updL g [(0, v0_0.v), (1, (.int .i64 c1)), (5, (.int .i64 (k5 : Int)))] ∧ List.drop k5 a_a = rest6 ∧ Ent cs' [crd (RdS 55 rd55) v0_0.v a_a] ∧ l_heldFactS_L1 rest6 k5 c1 = some R) ⟨_, 0, _, _, rfl, eqA, rfl, entA, hF⟩ ?_)
  clear hF
  rintro m3 _ _ ⟨g4, k5, rest6, c1, rfl, rfl, hd8, hE, hF⟩
  refine K_ent hE ?_
  clear hE
  refine K_pure (c := crd (RdS 55 rd55) v0_0.v a_a) .h crd_bound (fun hbd13 => ?_)
  rcases rest6 with _ | ⟨x7, rest6⟩
  · have hk9 := List.drop_eq_nil_iff.1 hd8
    rw [l_heldFactS_L1] at hF
    iterate 7 refine au ?_
    refine CdF ?_
    iterate 9 refine au ?_
    cases hF
    exact Er ()
  obtain ⟨hk9, hx10, hd11⟩ := drop_cons hd8
  rw [l_heldFactS_L1] at hF
  iterate 7 refine au ?_
  refine CdT ?_
  iterate 6 refine au ?_
  refine Ai hx10 (fun k14 j15 => ?_)
  refine au ?_
  refine Al ls55_0 ?_
  iterate 3 refine au ?_
  refine Cc (fun hb24 => ?_) (fun hb24 => ?_)
  · rw [if_pos hb24] at hF
    iterate 4 refine au ?_
    cases hF
    exact Er ()
  rw [if_neg (nt hb24)] at hF
  iterate 9 refine au ?_
  refine Ai hx10 (fun k16 j17 => ?_)
  refine au ?_
  refine C_ldV (R' := (RdS 3 rdInt)) ag22.h (.tmp rfl rfl) .h lv55_1 (fun w18 => ?_)
  refine au ?_
  obtain ⟨r19, hx20, hF⟩ := bind_some hF
  refine Cx0 (l_heldIntS_ok _ _ _ _ hx20) (fun _ => ?_)
  iterate 6 refine au ?_
  refine Cc (fun hb23 => ?_) (fun hb23 => ?_)
  · rw [if_pos hb23] at hF
    iterate 4 refine au ?_
    cases hF
    exact Er ()
  rw [if_neg (nt hb23)] at hF
  iterate 6 refine au ?_
  rw [wk k5]
  exact ⟨_, Nat.lt_succ_self _, _, k5 + 1, rest6, _, rfl, eqA, hd11, entA, hF⟩

/-! laws.heldSource -/
def l_heldSource (a_a : Source) (a_k : Int) : Option (Int) :=
  (l_heldFactS a_a.Facts a_k).bind fun r2 =>
  if (decide ((r2 : Int) < 0)) then (
    some (-1))
  else (
    some r2)
theorem l_heldSource_ok (a_a : Source) (v0_0 : Sv) (a_k : Int) (R : Int) (hF : l_heldSource a_a a_k = some R) :
    Fw.Spec Tryz.prog 56 [(.agg [v0_0.v, (.int .i64 a_a.Version)].toArray), (.int .i64 a_k)] [crd (RdS 55 rd55) v0_0.v a_a.Facts] (fun _ : Unit => (.int .i64 R)) (fun _ => []) := by
  refine Spec_enter (n := 12) Tryz.func56 rfl rfl (rs := [.tmp 4]) rfl rfl rfl ?_
  intro H0 F0
  unfold l_heldSource at hF
  refine au ?_
  refine AbR (fun k1 => ?_)
  iterate 6 refine au ?_
  obtain ⟨r2, hx3, hF⟩ := bind_some hF
  refine Cx0 (l_heldFactS_ok _ _ _ _ hx3) (fun _ => ?_)
  iterate 7 refine au ?_
  refine Cc (fun hb5 => ?_) (fun hb5 => ?_)
  · rw [if_pos hb5] at hF
    iterate 4 refine au ?_
    cases hF
    exact Er ()
  rw [if_neg (nt hb5)] at hF
  iterate 6 refine au ?_
  cases hF
  exact Er ()

/-! laws.heldStoredS -/
def l_heldStoredS_L1 : List Stored → Nat → Int → Option (Int)
  | [], k5, c1 => some c1
  | x7 :: rest6, k5, c1 => if ((x7.Access.Method : Int) != c1) then (
      some (-1))
    else (
      (l_heldIntS x7.Access.Values (IntKind.i64.wrap (c1 + 1))).bind fun r19 =>
      if (decide ((r19 : Int) < 0)) then (
        some (-1))
      else (
        (l_heldFactS x7.Facts r19).bind fun r25 =>
        if (decide ((r25 : Int) < 0)) then (
          some (-1))
        else (
          if ((x7.At : Int) != r25) then (
            some (-1))
          else (
            l_heldStoredS_L1 rest6 (k5 + 1) (IntKind.i64.wrap (r25 + 1))))))
def l_heldStoredS (a_a : List Stored) (a_k : Int) : Option (Int) :=
  l_heldStoredS_L1 a_a 0 a_k
theorem l_heldStoredS_ok (a_a : List Stored) (v0_0 : Sv) (a_k : Int) (R : Int) (hF : l_heldStoredS a_a a_k = some R) :
    Fw.Spec Tryz.prog 123 [v0_0.v, (.int .i64 a_k)] [crd (RdS 156 rd156) v0_0.v a_a] (fun _ : Unit => (.int .i64 R)) (fun _ => []) := by
  refine Spec_enter (n := 51) Tryz.func123 rfl rfl (rs := [.tmp 4]) rfl rfl rfl ?_
  intro H0 F0
  unfold l_heldStoredS at hF
  iterate 7 refine au ?_
  refine CW_block (CW_loop (m := a_a.length) (fun m3 f' cs' => ∃ (g : Fr) (k5 : Nat) (rest6 : List Stored) (c1 : Int), m3 = rest6.length ∧ f' = updL g [(0, v0_0.v), (1, (.int .i64 c1)), (5, (.int .i64 (k5 : Int)))] ∧ List.drop k5 a_a = rest6 ∧ Ent cs' [crd (RdS 156 rd156) v0_0.v a_a] ∧ l_heldStoredS_L1 rest6 k5 c1 = some R) ⟨_, 0, _, _, rfl, eqA, rfl, entA, hF⟩ ?_)
  clear hF
  rintro m3 _ _ ⟨g4, k5, rest6, c1, rfl, rfl, hd8, hE, hF⟩
  refine K_ent hE ?_
  clear hE
  refine K_pure (c := crd (RdS 156 rd156) v0_0.v a_a) .h crd_bound (fun hbd13 => ?_)
  rcases rest6 with _ | ⟨x7, rest6⟩
  · have hk9 := List.drop_eq_nil_iff.1 hd8
    rw [l_heldStoredS_L1] at hF
    iterate 7 refine au ?_
    refine CdF ?_
    iterate 9 refine au ?_
    cases hF
    exact Er ()
  obtain ⟨hk9, hx10, hd11⟩ := drop_cons hd8
  rw [l_heldStoredS_L1] at hF
  iterate 7 refine au ?_
  refine CdT ?_
  iterate 6 refine au ?_
  refine Ai hx10 (fun k14 j15 => ?_)
  iterate 2 refine au ?_
  refine Al ls156_0 ?_
  iterate 3 refine au ?_
  refine Cc (fun hb34 => ?_) (fun hb34 => ?_)
  · rw [if_pos hb34] at hF
    iterate 4 refine au ?_
    cases hF
    exact Er ()
  rw [if_neg (nt hb34)] at hF
  iterate 9 refine au ?_
  refine Ai hx10 (fun k16 j17 => ?_)
  iterate 2 refine au ?_
  refine C_ldV (R' := (RdS 3 rdInt)) ag22.h (.tmp rfl rfl) .h lv156_1 (fun w18 => ?_)
  refine au ?_
  obtain ⟨r19, hx20, hF⟩ := bind_some hF
  refine Cx0 (l_heldIntS_ok _ _ _ _ hx20) (fun _ => ?_)
  iterate 7 refine au ?_
  refine Cc (fun hb33 => ?_) (fun hb33 => ?_)
  · rw [if_pos hb33] at hF
    iterate 4 refine au ?_
    cases hF
    exact Er ()
  rw [if_neg (nt hb33)] at hF
  iterate 4 refine au ?_
  refine Ai hx10 (fun k22 j23 => ?_)
  refine au ?_
  refine C_ldV (R' := (RdS 55 rd55)) ag43.h (.tmp rfl rfl) .h lv156_2 (fun w24 => ?_)
  refine au ?_
  obtain ⟨r25, hx26, hF⟩ := bind_some hF
  refine Cx0 (l_heldFactS_ok _ _ _ _ hx26) (fun _ => ?_)
  iterate 7 refine au ?_
  refine Cc (fun hb32 => ?_) (fun hb32 => ?_)
  · rw [if_pos hb32] at hF
    iterate 4 refine au ?_
    cases hF
    exact Er ()
  rw [if_neg (nt hb32)] at hF
  iterate 5 refine au ?_
  refine Ai hx10 (fun k28 j29 => ?_)
  refine au ?_
  refine Al ls156_3 ?_
  iterate 3 refine au ?_
  refine Cc (fun hb31 => ?_) (fun hb31 => ?_)
  · rw [if_pos hb31] at hF
    iterate 4 refine au ?_
    cases hF
    exact Er ()
  rw [if_neg (nt hb31)] at hF
  iterate 11 refine au ?_
  rw [wk k5]
  exact ⟨_, Nat.lt_succ_self _, _, k5 + 1, rest6, _, rfl, eqA, hd11, entA, hF⟩

/-! laws.heldCache -/
def l_heldCache (a_a : Cache) (a_k : Int) : Option (Int) :=
  (l_heldStoredS a_a.Entries a_k).bind fun r2 =>
  if (decide ((r2 : Int) < 0)) then (
    some (-1))
  else (
    some r2)
theorem l_heldCache_ok (a_a : Cache) (v0_0 : Sv) (a_k : Int) (R : Int) (hF : l_heldCache a_a a_k = some R) :
    Fw.Spec Tryz.prog 57 [(.agg [v0_0.v, (.int .i64 a_a.Age)].toArray), (.int .i64 a_k)] [crd (RdS 156 rd156) v0_0.v a_a.Entries] (fun _ : Unit => (.int .i64 R)) (fun _ => []) := by
  refine Spec_enter (n := 12) Tryz.func57 rfl rfl (rs := [.tmp 4]) rfl rfl rfl ?_
  intro H0 F0
  unfold l_heldCache at hF
  refine au ?_
  refine AbR (fun k1 => ?_)
  iterate 6 refine au ?_
  obtain ⟨r2, hx3, hF⟩ := bind_some hF
  refine Cx0 (l_heldStoredS_ok _ _ _ _ hx3) (fun _ => ?_)
  iterate 7 refine au ?_
  refine Cc (fun hb5 => ?_) (fun hb5 => ?_)
  · rw [if_pos hb5] at hF
    iterate 4 refine au ?_
    cases hF
    exact Er ()
  rw [if_neg (nt hb5)] at hF
  iterate 6 refine au ?_
  cases hF
  exact Er ()

/-! laws.heldAccessS -/
def l_heldAccessS_L1 : List Access → Nat → Int → Option (Int)
  | [], k5, c1 => some c1
  | x7 :: rest6, k5, c1 => if ((x7.Method : Int) != c1) then (
      some (-1))
    else (
      (l_heldIntS x7.Values (IntKind.i64.wrap (c1 + 1))).bind fun r19 =>
      if (decide ((r19 : Int) < 0)) then (
        some (-1))
      else (
        l_heldAccessS_L1 rest6 (k5 + 1) r19))
def l_heldAccessS (a_a : List Access) (a_k : Int) : Option (Int) :=
  l_heldAccessS_L1 a_a 0 a_k
theorem l_heldAccessS_ok (a_a : List Access) (v0_0 : Sv) (a_k : Int) (R : Int) (hF : l_heldAccessS a_a a_k = some R) :
    Fw.Spec Tryz.prog 58 [v0_0.v, (.int .i64 a_k)] [crd (RdS 124 rd124) v0_0.v a_a] (fun _ : Unit => (.int .i64 R)) (fun _ => []) := by
  refine Spec_enter (n := 31) Tryz.func58 rfl rfl (rs := [.tmp 4]) rfl rfl rfl ?_
  intro H0 F0
  unfold l_heldAccessS at hF
  iterate 7 refine au ?_
  refine CW_block (CW_loop (m := a_a.length) (fun m3 f' cs' => ∃ (g : Fr) (k5 : Nat) (rest6 : List Access) (c1 : Int), m3 = rest6.length ∧ f' = updL g [(0, v0_0.v), (1, (.int .i64 c1)), (5, (.int .i64 (k5 : Int)))] ∧ List.drop k5 a_a = rest6 ∧ Ent cs' [crd (RdS 124 rd124) v0_0.v a_a] ∧ l_heldAccessS_L1 rest6 k5 c1 = some R) ⟨_, 0, _, _, rfl, eqA, rfl, entA, hF⟩ ?_)
  clear hF
  rintro m3 _ _ ⟨g4, k5, rest6, c1, rfl, rfl, hd8, hE, hF⟩
  refine K_ent hE ?_
  clear hE
  refine K_pure (c := crd (RdS 124 rd124) v0_0.v a_a) .h crd_bound (fun hbd13 => ?_)
  rcases rest6 with _ | ⟨x7, rest6⟩
  · have hk9 := List.drop_eq_nil_iff.1 hd8
    rw [l_heldAccessS_L1] at hF
    iterate 7 refine au ?_
    refine CdF ?_
    iterate 9 refine au ?_
    cases hF
    exact Er ()
  obtain ⟨hk9, hx10, hd11⟩ := drop_cons hd8
  rw [l_heldAccessS_L1] at hF
  iterate 7 refine au ?_
  refine CdT ?_
  iterate 6 refine au ?_
  refine Ai hx10 (fun k14 j15 => ?_)
  refine au ?_
  refine Al ls124_0 ?_
  iterate 3 refine au ?_
  refine Cc (fun hb24 => ?_) (fun hb24 => ?_)
  · rw [if_pos hb24] at hF
    iterate 4 refine au ?_
    cases hF
    exact Er ()
  rw [if_neg (nt hb24)] at hF
  iterate 9 refine au ?_
  refine Ai hx10 (fun k16 j17 => ?_)
  refine au ?_
  refine C_ldV (R' := (RdS 3 rdInt)) ag22.h (.tmp rfl rfl) .h lv124_1 (fun w18 => ?_)
  refine au ?_
  obtain ⟨r19, hx20, hF⟩ := bind_some hF
  refine Cx0 (l_heldIntS_ok _ _ _ _ hx20) (fun _ => ?_)
  iterate 6 refine au ?_
  refine Cc (fun hb23 => ?_) (fun hb23 => ?_)
  · rw [if_pos hb23] at hF
    iterate 4 refine au ?_
    cases hF
    exact Er ()
  rw [if_neg (nt hb23)] at hF
  iterate 6 refine au ?_
  rw [wk k5]
  exact ⟨_, Nat.lt_succ_self _, _, k5 + 1, rest6, _, rfl, eqA, hd11, entA, hF⟩

/-! laws.heldIntSS -/
def l_heldIntSS_L1 : List (List Int) → Nat → Int → Option (Int)
  | [], k5, c1 => some c1
  | x7 :: rest6, k5, c1 => (l_heldIntS x7 c1).bind fun r17 =>
    if (decide ((r17 : Int) < 0)) then (
      some (-1))
    else (
      l_heldIntSS_L1 rest6 (k5 + 1) r17)
def l_heldIntSS (a_a : List (List Int)) (a_k : Int) : Option (Int) :=
  l_heldIntSS_L1 a_a 0 a_k
theorem l_heldIntSS_ok (a_a : List (List Int)) (v0_0 : Sv) (a_k : Int) (R : Int) (hF : l_heldIntSS a_a a_k = some R) :
    Fw.Spec Tryz.prog 124 [v0_0.v, (.int .i64 a_k)] [crd (RdS 22 (RdS 3 rdInt)) v0_0.v a_a] (fun _ : Unit => (.int .i64 R)) (fun _ => []) := by
  refine Spec_enter (n := 21) Tryz.func124 rfl rfl (rs := [.tmp 4]) rfl rfl rfl ?_
  intro H0 F0
  unfold l_heldIntSS at hF
  iterate 7 refine au ?_
  refine CW_block (CW_loop (m := a_a.length) (fun m3 f' cs' => ∃ (g : Fr) (k5 : Nat) (rest6 : List (List Int)) (c1 : Int), m3 = rest6.length ∧ f' = updL g [(0, v0_0.v), (1, (.int .i64 c1)), (5, (.int .i64 (k5 : Int)))] ∧ List.drop k5 a_a = rest6 ∧ Ent cs' [crd (RdS 22 (RdS 3 rdInt)) v0_0.v a_a] ∧ l_heldIntSS_L1 rest6 k5 c1 = some R) ⟨_, 0, _, _, rfl, eqA, rfl, entA, hF⟩ ?_)
  clear hF
  rintro m3 _ _ ⟨g4, k5, rest6, c1, rfl, rfl, hd8, hE, hF⟩
  refine K_ent hE ?_
  clear hE
  refine K_pure (c := crd (RdS 22 (RdS 3 rdInt)) v0_0.v a_a) .h crd_bound (fun hbd13 => ?_)
  rcases rest6 with _ | ⟨x7, rest6⟩
  · have hk9 := List.drop_eq_nil_iff.1 hd8
    rw [l_heldIntSS_L1] at hF
    iterate 7 refine au ?_
    refine CdF ?_
    iterate 9 refine au ?_
    cases hF
    exact Er ()
  obtain ⟨hk9, hx10, hd11⟩ := drop_cons hd8
  rw [l_heldIntSS_L1] at hF
  iterate 7 refine au ?_
  refine CdT ?_
  iterate 5 refine au ?_
  refine Ai hx10 (fun k14 j15 => ?_)
  refine C_ldV (R' := (RdS 3 rdInt)) ag22.h (.tmp rfl rfl) .h lv22_0 (fun w16 => ?_)
  refine au ?_
  obtain ⟨r17, hx18, hF⟩ := bind_some hF
  refine Cx0 (l_heldIntS_ok _ _ _ _ hx18) (fun _ => ?_)
  iterate 6 refine au ?_
  refine Cc (fun hb21 => ?_) (fun hb21 => ?_)
  · rw [if_pos hb21] at hF
    iterate 4 refine au ?_
    cases hF
    exact Er ()
  rw [if_neg (nt hb21)] at hF
  iterate 6 refine au ?_
  rw [wk k5]
  exact ⟨_, Nat.lt_succ_self _, _, k5 + 1, rest6, _, rfl, eqA, hd11, entA, hF⟩

/-! laws.heldIntSSS -/
def l_heldIntSSS_L1 : List (List (List Int)) → Nat → Int → Option (Int)
  | [], k5, c1 => some c1
  | x7 :: rest6, k5, c1 => (l_heldIntSS x7 c1).bind fun r17 =>
    if (decide ((r17 : Int) < 0)) then (
      some (-1))
    else (
      l_heldIntSSS_L1 rest6 (k5 + 1) r17)
def l_heldIntSSS (a_a : List (List (List Int))) (a_k : Int) : Option (Int) :=
  l_heldIntSSS_L1 a_a 0 a_k
theorem l_heldIntSSS_ok (a_a : List (List (List Int))) (v0_0 : Sv) (a_k : Int) (R : Int) (hF : l_heldIntSSS a_a a_k = some R) :
    Fw.Spec Tryz.prog 59 [v0_0.v, (.int .i64 a_k)] [crd (RdS 110 (RdS 22 (RdS 3 rdInt))) v0_0.v a_a] (fun _ : Unit => (.int .i64 R)) (fun _ => []) := by
  refine Spec_enter (n := 21) Tryz.func59 rfl rfl (rs := [.tmp 4]) rfl rfl rfl ?_
  intro H0 F0
  unfold l_heldIntSSS at hF
  iterate 7 refine au ?_
  refine CW_block (CW_loop (m := a_a.length) (fun m3 f' cs' => ∃ (g : Fr) (k5 : Nat) (rest6 : List (List (List Int))) (c1 : Int), m3 = rest6.length ∧ f' = updL g [(0, v0_0.v), (1, (.int .i64 c1)), (5, (.int .i64 (k5 : Int)))] ∧ List.drop k5 a_a = rest6 ∧ Ent cs' [crd (RdS 110 (RdS 22 (RdS 3 rdInt))) v0_0.v a_a] ∧ l_heldIntSSS_L1 rest6 k5 c1 = some R) ⟨_, 0, _, _, rfl, eqA, rfl, entA, hF⟩ ?_)
  clear hF
  rintro m3 _ _ ⟨g4, k5, rest6, c1, rfl, rfl, hd8, hE, hF⟩
  refine K_ent hE ?_
  clear hE
  refine K_pure (c := crd (RdS 110 (RdS 22 (RdS 3 rdInt))) v0_0.v a_a) .h crd_bound (fun hbd13 => ?_)
  rcases rest6 with _ | ⟨x7, rest6⟩
  · have hk9 := List.drop_eq_nil_iff.1 hd8
    rw [l_heldIntSSS_L1] at hF
    iterate 7 refine au ?_
    refine CdF ?_
    iterate 9 refine au ?_
    cases hF
    exact Er ()
  obtain ⟨hk9, hx10, hd11⟩ := drop_cons hd8
  rw [l_heldIntSSS_L1] at hF
  iterate 7 refine au ?_
  refine CdT ?_
  iterate 5 refine au ?_
  refine Ai hx10 (fun k14 j15 => ?_)
  refine C_ldV (R' := (RdS 22 (RdS 3 rdInt))) ag110.h (.tmp rfl rfl) .h lv110_0 (fun w16 => ?_)
  refine au ?_
  obtain ⟨r17, hx18, hF⟩ := bind_some hF
  refine Cx0 (l_heldIntSS_ok _ _ _ _ hx18) (fun _ => ?_)
  iterate 6 refine au ?_
  refine Cc (fun hb21 => ?_) (fun hb21 => ?_)
  · rw [if_pos hb21] at hF
    iterate 4 refine au ?_
    cases hF
    exact Er ()
  rw [if_neg (nt hb21)] at hF
  iterate 6 refine au ?_
  rw [wk k5]
  exact ⟨_, Nat.lt_succ_self _, _, k5 + 1, rest6, _, rfl, eqA, hd11, entA, hF⟩

/-! laws.heldMediator -/
def l_heldMediator (a_a : Mediator) (a_k : Int) : Option (Int) :=
  (l_heldIntS a_a.Schema a_k).bind fun r2 =>
  if (decide ((r2 : Int) < 0)) then (
    some (-1))
  else (
    (l_heldMethodS a_a.Methods r2).bind fun r5 =>
    if (decide ((r5 : Int) < 0)) then (
      some (-1))
    else (
      (l_heldRuleS a_a.Rules r5).bind fun r8 =>
      if (decide ((r8 : Int) < 0)) then (
        some (-1))
      else (
        (l_heldSource a_a.Source r8).bind fun r11 =>
        if (decide ((r11 : Int) < 0)) then (
          some (-1))
        else (
          (l_heldCache a_a.Cache r11).bind fun r14 =>
          if (decide ((r14 : Int) < 0)) then (
            some (-1))
          else (
            (l_heldAccessS a_a.Log r14).bind fun r17 =>
            if (decide ((r17 : Int) < 0)) then (
              some (-1))
            else (
              (l_heldIntS a_a.Times r17).bind fun r20 =>
              if (decide ((r20 : Int) < 0)) then (
                some (-1))
              else (
                (l_heldIntSSS a_a.Results r20).bind fun r23 =>
                if (decide ((r23 : Int) < 0)) then (
                  some (-1))
                else (
                  some r23))))))))
theorem l_heldMediator_ok (a_a : Mediator) (v0_0 : Sv) (v0_1 : Sv) (v0_2 : Sv) (v0_3 : Sv) (v0_5 : Sv) (v0_8 : Sv) (v0_9 : Sv) (v0_11 : Sv) (a_k : Int) (R : Int) (hF : l_heldMediator a_a a_k = some R) :
    Fw.Spec Tryz.prog 14 [(.agg [v0_0.v, v0_1.v, v0_2.v, v0_3.v, (.int .i64 a_a.Source.Version), v0_5.v, (.int .i64 a_a.Cache.Age), (.int .i64 a_a.Now), v0_8.v, v0_9.v, (.int .i64 a_a.Spent), v0_11.v].toArray), (.int .i64 a_k)] [crd (RdS 3 rdInt) v0_0.v a_a.Schema, crd (RdS 114 rd114) v0_1.v a_a.Methods, crd (RdS 116 rd116) v0_2.v a_a.Rules, crd (RdS 55 rd55) v0_3.v a_a.Source.Facts, crd (RdS 156 rd156) v0_5.v a_a.Cache.Entries, crd (RdS 124 rd124) v0_8.v a_a.Log, crd (RdS 3 rdInt) v0_9.v a_a.Times, crd (RdS 110 (RdS 22 (RdS 3 rdInt))) v0_11.v a_a.Results] (fun _ : Unit => (.int .i64 R)) (fun _ => []) := by
  refine Spec_enter (n := 54) Tryz.func14 rfl rfl (rs := [.tmp 4]) rfl rfl rfl ?_
  intro H0 F0
  unfold l_heldMediator at hF
  refine au ?_
  refine AbR (fun k1 => ?_)
  iterate 6 refine au ?_
  obtain ⟨r2, hx3, hF⟩ := bind_some hF
  refine Cx0 (l_heldIntS_ok _ _ _ _ hx3) (fun _ => ?_)
  iterate 7 refine au ?_
  refine Cc (fun hb33 => ?_) (fun hb33 => ?_)
  · rw [if_pos hb33] at hF
    iterate 4 refine au ?_
    cases hF
    exact Er ()
  rw [if_neg (nt hb33)] at hF
  iterate 5 refine au ?_
  obtain ⟨r5, hx6, hF⟩ := bind_some hF
  refine Cx0 (l_heldMethodS_ok _ _ _ _ hx6) (fun _ => ?_)
  iterate 7 refine au ?_
  refine Cc (fun hb32 => ?_) (fun hb32 => ?_)
  · rw [if_pos hb32] at hF
    iterate 4 refine au ?_
    cases hF
    exact Er ()
  rw [if_neg (nt hb32)] at hF
  iterate 5 refine au ?_
  obtain ⟨r8, hx9, hF⟩ := bind_some hF
  refine Cx0 (l_heldRuleS_ok _ _ _ _ hx9) (fun _ => ?_)
  iterate 7 refine au ?_
  refine Cc (fun hb31 => ?_) (fun hb31 => ?_)
  · rw [if_pos hb31] at hF
    iterate 4 refine au ?_
    cases hF
    exact Er ()
  rw [if_neg (nt hb31)] at hF
  iterate 3 refine au ?_
  refine C_at .h (fun hp => V_loadA (s := 2) (l := [v0_3.v, (.int .i64 a_a.Source.Version)]) ag45.h ty45.h.sz (.tmp rfl rfl) hp.2 rfl (by decide) (Nat.le_of_ble_eq_true rfl) rfl) ?_
  refine au ?_
  obtain ⟨r11, hx12, hF⟩ := bind_some hF
  refine Cx0 (l_heldSource_ok _ _ _ _ hx12) (fun _ => ?_)
  iterate 7 refine au ?_
  refine Cc (fun hb30 => ?_) (fun hb30 => ?_)
  · rw [if_pos hb30] at hF
    iterate 4 refine au ?_
    cases hF
    exact Er ()
  rw [if_neg (nt hb30)] at hF
  iterate 3 refine au ?_
  refine C_at .h (fun hp => V_loadA (s := 2) (l := [v0_5.v, (.int .i64 a_a.Cache.Age)]) ag48.h ty48.h.sz (.tmp rfl rfl) hp.2 rfl (by decide) (Nat.le_of_ble_eq_true rfl) rfl) ?_
  refine au ?_
  obtain ⟨r14, hx15, hF⟩ := bind_some hF
  refine Cx0 (l_heldCache_ok _ _ _ _ hx15) (fun _ => ?_)
  iterate 7 refine au ?_
  refine Cc (fun hb29 => ?_) (fun hb29 => ?_)
  · rw [if_pos hb29] at hF
    iterate 4 refine au ?_
    cases hF
    exact Er ()
  rw [if_neg (nt hb29)] at hF
  iterate 5 refine au ?_
  obtain ⟨r17, hx18, hF⟩ := bind_some hF
  refine Cx0 (l_heldAccessS_ok _ _ _ _ hx18) (fun _ => ?_)
  iterate 7 refine au ?_
  refine Cc (fun hb28 => ?_) (fun hb28 => ?_)
  · rw [if_pos hb28] at hF
    iterate 4 refine au ?_
    cases hF
    exact Er ()
  rw [if_neg (nt hb28)] at hF
  iterate 5 refine au ?_
  obtain ⟨r20, hx21, hF⟩ := bind_some hF
  refine Cx0 (l_heldIntS_ok _ _ _ _ hx21) (fun _ => ?_)
  iterate 7 refine au ?_
  refine Cc (fun hb27 => ?_) (fun hb27 => ?_)
  · rw [if_pos hb27] at hF
    iterate 4 refine au ?_
    cases hF
    exact Er ()
  rw [if_neg (nt hb27)] at hF
  iterate 5 refine au ?_
  obtain ⟨r23, hx24, hF⟩ := bind_some hF
  refine Cx0 (l_heldIntSSS_ok _ _ _ _ hx24) (fun _ => ?_)
  iterate 7 refine au ?_
  refine Cc (fun hb26 => ?_) (fun hb26 => ?_)
  · rw [if_pos hb26] at hF
    iterate 4 refine au ?_
    cases hF
    exact Er ()
  rw [if_neg (nt hb26)] at hF
  iterate 6 refine au ?_
  cases hF
  exact Er ()

/-! laws.FnExactChangeFact -/
def l_FnExactChangeFact (a_aM : Mediator) (a_aC : Change) : Option (Bool) :=
  (l_szMediator a_aM 1048576).bind fun r3 =>
  if (decide ((r3 : Int) < 0)) then (
    some true)
  else (
    (l_szChange a_aC r3).bind fun r6 =>
    if (decide ((r6 : Int) < 0)) then (
      some true)
    else (
      (l_toMediator a_aM).bind fun r10 =>
      (l_toChange a_aC).bind fun r13 =>
      (s_ChangeFact r10 r13).bind fun r16 =>
      (l_toMediator a_aM).bind fun r19 =>
      (l_toChange a_aC).bind fun r23 =>
      (i_ChangeFact r19 r23).bind fun r27 =>
      ((l_eqMediator r27.1 r16.1).bind fun r33 =>
        bif (!r33) then (some true)
        else (some (!(r27.2 == r16.2)))).bind fun o31 =>
      match o31 with
      | c37 => if c37 then (
          some false)
        else (
          (l_toMediator a_aM).bind fun r38 =>
          (l_eqMediator r19 r38).bind fun r41 =>
          if (!r41) then (
            some false)
          else (
            (l_toChange a_aC).bind fun r44 =>
            (l_eqChange r23 r44).bind fun r47 =>
            if (!r47) then (
              some false)
            else (
              (l_markMediator r19 1).bind fun r50 =>
              (l_markChange r23 r50.1).bind fun r53 =>
              (bif (decide ((r53.1 : Int) < 0)) then (some true)
                else ((l_eqMediator r27.1 r16.1).bind fun r59 =>
                  bif (!r59) then (some true)
                  else (some (!(r27.2 == r16.2))))).bind fun o56 =>
              match o56 with
              | c63 => if c63 then (
                  some false)
                else (
                  (l_markMediator r27.1 1).bind fun r64 =>
                  (l_heldMediator ({ Schema := r64.2.Schema, Methods := r64.2.Methods, Rules := r64.2.Rules, Source := ({ Facts := r64.2.Source.Facts, Version := r27.1.Source.Version } : Source), Cache := ({ Entries := r64.2.Cache.Entries, Age := r27.1.Cache.Age } : Cache), Now := r27.1.Now, Log := r64.2.Log, Times := r64.2.Times, Spent := r27.1.Spent, Results := r64.2.Results } : Mediator) 1).bind fun r67 =>
                  if (decide ((r67 : Int) < 0)) then (
                    some false)
                  else (
                    if ((r67 : Int) != r64.1) then (
                      some false)
                    else (
                      (l_toMediator a_aM).bind fun r71 =>
                      (l_toChange a_aC).bind fun r74 =>
                      (i_ChangeFact r71 r74).bind fun r77 =>
                      ((l_eqMediator r77.1 r16.1).bind fun r82 =>
                        bif (!r82) then (some true)
                        else (some (!(r77.2 == r16.2)))).bind fun o80 =>
                      match o80 with
                      | c86 => if c86 then (
                          some false)
                        else (
                          (l_heldMediator ({ Schema := r64.2.Schema, Methods := r64.2.Methods, Rules := r64.2.Rules, Source := ({ Facts := r64.2.Source.Facts, Version := r27.1.Source.Version } : Source), Cache := ({ Entries := r64.2.Cache.Entries, Age := r27.1.Cache.Age } : Cache), Now := r27.1.Now, Log := r64.2.Log, Times := r64.2.Times, Spent := r27.1.Spent, Results := r64.2.Results } : Mediator) 1).bind fun r87 =>
                          if (decide ((r87 : Int) < 0)) then (
                            some false)
                          else (
                            if ((r87 : Int) != r64.1) then (
                              some false)
                            else (
                              some true)))))))))))
theorem l_FnExactChangeFact_ok (a_aM : Mediator) (v0_0 : Sv) (v0_1 : Sv) (v0_2 : Sv) (v0_3 : Sv) (v0_5 : Sv) (v0_8 : Sv) (v0_9 : Sv) (v0_11 : Sv) (a_aC : Change) (v1_2 : Sv) (R : Bool) (hF : l_FnExactChangeFact a_aM a_aC = some R) :
    Fw.Spec Tryz.prog 3 [(.agg [v0_0.v, v0_1.v, v0_2.v, v0_3.v, (.int .i64 a_aM.Source.Version), v0_5.v, (.int .i64 a_aM.Cache.Age), (.int .i64 a_aM.Now), v0_8.v, v0_9.v, (.int .i64 a_aM.Spent), v0_11.v].toArray), (.agg [(.bool a_aC.Add), (.int .i64 a_aC.Fact.Rel), v1_2.v].toArray)] [crd (RdS 3 rdInt) v0_0.v a_aM.Schema, crd (RdS 100 rd100) v0_1.v a_aM.Methods, crd (RdS 103 rd103) v0_2.v a_aM.Rules, crd (RdS 36 rd36) v0_3.v a_aM.Source.Facts, crd (RdS 153 rd153) v0_5.v a_aM.Cache.Entries, crd (RdS 108 rd108) v0_8.v a_aM.Log, crd (RdS 3 rdInt) v0_9.v a_aM.Times, crd (RdS 110 (RdS 22 (RdS 3 rdInt))) v0_11.v a_aM.Results, crd (RdS 3 rdInt) v1_2.v a_aC.Fact.Values] (fun _ : Unit => (.bool R)) (fun _ => []) := by
  refine Spec_enter (n := 119) Tryz.func3 rfl rfl (rs := [.tmp 4]) rfl rfl rfl ?_
  intro H0 F0
  unfold l_FnExactChangeFact at hF
  refine K_region (C_newR rfl (N_box (g := false) (v := (.agg [v0_0.v, v0_1.v, v0_2.v, v0_3.v, (.int .i64 a_aM.Source.Version), v0_5.v, (.int .i64 a_aM.Cache.Age), (.int .i64 a_aM.Now), v0_8.v, v0_9.v, (.int .i64 a_aM.Spent), v0_11.v].toArray)) ty34.h.sz (.tmp rfl rfl) rfl) (fun k1 => ?_))
  refine C_newR rfl (N_box (g := false) (v := (.agg [(.bool a_aC.Add), (.int .i64 a_aC.Fact.Rel), v1_2.v].toArray)) ty38.h.sz (.tmp rfl rfl) rfl) (fun k2 => ?_)
  refine C_val (V_assign (v := (.bool false)) (.bool _)) ?_
  refine C_nil (K_region (C_val (V_assign (v := (.int .i64 1048576)) (.int _ _)) ?_))
  refine C_nil (K_region (C_at (.t .h) (fun hp => V_loadBox ag34.h ty34.h.sz rfl (.tmp rfl rfl) hp.2 rfl) ?_))
  refine Cm (.int .i64 1048576) rfl rfl ?_
  obtain ⟨r3, hx4, hF⟩ := bind_some hF
  refine C_x0 (.rd (.t (.t .h)) rfl (.rd (.t (.t (.t .h))) rfl (.rd (.t (.t (.t (.t .h)))) rfl (.rd (.t (.t (.t (.t (.t .h))))) rfl (.rd (.t (.t (.t (.t (.t (.t .h)))))) rfl (.rd (.t (.t (.t (.t (.t (.t (.t .h))))))) rfl (.rd (.t (.t (.t (.t (.t (.t (.t (.t .h)))))))) rfl (.rd (.t (.t (.t (.t (.t (.t (.t (.t (.t .h))))))))) rfl .nil)))))))) (X_callS cf4.h (.cons (.tmp rfl rfl) (.cons (.tmp rfl rfl) .nil)) (l_szMediator_ok a_aM v0_0 v0_1 v0_2 v0_3 v0_5 v0_8 v0_9 v0_11 1048576 _ hx4)) (fun _ => ?_)
  refine Ca (.int .i64 r3) rfl rfl ?_
  refine C_nil (K_in (K_region (Cm (.int .i64 r3) rfl rfl ?_)))
  refine C_val (V_lss (i := r3) (j := 0) (.tmp rfl rfl) (.int _ _)) ?_
  refine C_nil (CW_cond (b := (decide ((r3 : Int) < 0))) (.tmp rfl rfl) (fun hb103 => ?_) (fun hb103 => ?_))
  · rw [if_pos hb103] at hF
    refine K_region (C_val (V_assign (v := (.bool true)) (.bool _)) ?_)
    refine C_nil (CW_ret ?_)
    obtain rfl := Option.some.inj hF
    exact End_ret () (.tmp rfl rfl .nil) rfl (.sel .nil)
  rw [if_neg (by rw [hb103]; exact Bool.false_ne_true)] at hF
  refine CW_skip (K_region (C_at .h (fun hp => V_loadBox ag38.h ty38.h.sz rfl (.tmp rfl rfl) hp.2 rfl) ?_))
  refine Cm (.int .i64 r3) rfl rfl ?_
  obtain ⟨r6, hx7, hF⟩ := bind_some hF
  refine C_x0 (.rd (.t (.t (.t (.t (.t (.t (.t (.t (.t (.t .h)))))))))) rfl .nil) (X_callS cf5.h (.cons (.tmp rfl rfl) (.cons (.tmp rfl rfl) .nil)) (l_szChange_ok a_aC v1_2 r3 _ hx7)) (fun _ => ?_)
  refine Ca (.int .i64 r6) rfl rfl ?_
  refine C_nil (K_in (K_region (Cm (.int .i64 r6) rfl rfl ?_)))
  refine C_val (V_lss (i := r6) (j := 0) (.tmp rfl rfl) (.int _ _)) ?_
  refine C_nil (CW_cond (b := (decide ((r6 : Int) < 0))) (.tmp rfl rfl) (fun hb102 => ?_) (fun hb102 => ?_))
  · rw [if_pos hb102] at hF
    refine K_region (C_val (V_assign (v := (.bool true)) (.bool _)) ?_)
    refine C_nil (CW_ret ?_)
    obtain rfl := Option.some.inj hF
    exact End_ret () (.tmp rfl rfl .nil) rfl (.sel .nil)
  rw [if_neg (by rw [hb102]; exact Bool.false_ne_true)] at hF
  refine CW_skip (K_draw [0, 2, 8, 1, 3, 4, 5, 6, 7, 9, 10] [0, 1, 0, 7, 15, 31, 63, 63, 0, 383, 1023] [1, 3, 4, 9] mixed (by decide +kernel) ?_)
  refine D_at rfl .no (.t .h) rfl (fun ha hp => V_loadBox ag34.h ty34.h.sz rfl (EN ha (.tmp rfl rfl) rfl) hp.2 rfl) ?_
  refine D_at rfl .no .h rfl (fun ha hp => V_loadBox ag38.h ty38.h.sz rfl (EN ha (.tmp rfl rfl) rfl) hp.2 rfl) ?_
  refine D_new rfl .no rfl (fun ha => N_allocT (g := true) ty51.h rfl rfl) (fun k9 => ?_)
  obtain ⟨r10, hx11, hF⟩ := bind_some hF
  refine D_act8 rfl rfl .no (.rd (.t (.t (.t .h))) rfl (.rd (.t (.t (.t (.t .h)))) rfl (.rd (.t (.t (.t (.t (.t .h))))) rfl (.rd (.t (.t (.t (.t (.t (.t .h)))))) rfl (.rd (.t (.t (.t (.t (.t (.t (.t .h))))))) rfl (.rd (.t (.t (.t (.t (.t (.t (.t (.t .h)))))))) rfl (.rd (.t (.t (.t (.t (.t (.t (.t (.t (.t .h))))))))) rfl (.rd (.t (.t (.t (.t (.t (.t (.t (.t (.t (.t .h)))))))))) rfl .nil)))))))) (.own .h (fun _ h => h) .nil) (fun ha => X_callS cf7.h (.cons (EN ha (.tmp rfl rfl) rfl) .nil) (l_toMediator_ok a_aM v0_0 v0_1 v0_2 v0_3 v0_5 v0_8 v0_9 v0_11 _ hx11)) (fun p12 => ?_)
  obtain ⟨r13, hx14, hF⟩ := bind_some hF
  refine D_act1 rfl rfl .no (.rd (.t (.t (.t (.t (.t (.t (.t (.t (.t (.t (.t (.t (.t (.t (.t (.t (.t (.t (.t .h))))))))))))))))))) rfl .nil) (.own (.t (.t (.t (.t (.t (.t (.t (.t .h)))))))) (fun _ h => h) .nil) (fun ha => X_callS cf8.h (.cons (EN ha (.tmp rfl rfl) rfl) .nil) (l_toChange_ok a_aC v1_2 _ hx14)) (fun p15 => ?_)
  obtain ⟨r16, hx17, hF⟩ := bind_some hF
  refine D_act17 rfl rfl .no (.cons .h (.cons (.t (.t (.t (.t (.t (.t (.t .h))))))) (.cons (.t (.t (.t (.t (.t (.t .h)))))) (.cons (.t (.t (.t (.t (.t .h))))) (.cons (.t (.t (.t (.t .h)))) (.cons (.t (.t (.t .h))) (.cons (.t (.t .h)) (.cons (.t .h) (.cons .h .nil))))))))) (.own .h (fun _ h => h) .nil) (fun ha => XC_borL (pre := []) (.cons frz_own (.cons frz_own (.cons frz_own (.cons frz_own (.cons frz_own (.cons frz_own (.cons frz_own (.cons frz_own (.cons frz_own .nil))))))))) (fun _ => (.cons (.cons (.cons (.cons (.cons (.cons (.cons (.cons .nil))))))))) (X_callS cf6.h (.cons (EN ha (.tmp rfl rfl) rfl) (.cons (EN ha (.tmp rfl rfl) rfl) .nil)) (s_ChangeFact_ok r10 p12.1 p12.2.2.1 p12.2.2.2.2.1 p12.2.2.2.2.2.2.1 p12.2.2.2.2.2.2.2.2.1 p12.2.2.2.2.2.2.2.2.2.2.1 p12.2.2.2.2.2.2.2.2.2.2.2.2.1 p12.2.2.2.2.2.2.2.2.2.2.2.2.2.2.1 r13 p15.1 _ hx17))) (fun p18 => ?_)
  refine Dm (.tuple [(.agg [p18.1.v, p18.2.2.1.v, p18.2.2.2.2.1.v, p18.2.2.2.2.2.2.1.v, (.int .i64 r16.1.Source.Version), p18.2.2.2.2.2.2.2.2.1.v, (.int .i64 r16.1.Cache.Age), (.int .i64 r16.1.Now), p18.2.2.2.2.2.2.2.2.2.2.1.v, p18.2.2.2.2.2.2.2.2.2.2.2.2.1.v, (.int .i64 r16.1.Spent), p18.2.2.2.2.2.2.2.2.2.2.2.2.2.2.1.v].toArray), (.bool r16.2)].toArray) rfl rfl rfl rfl ?_
  refine D_val rfl .no (fun ha => V_extract (l := [(.agg [p18.1.v, p18.2.2.1.v, p18.2.2.2.2.1.v, p18.2.2.2.2.2.2.1.v, (.int .i64 r16.1.Source.Version), p18.2.2.2.2.2.2.2.2.1.v, (.int .i64 r16.1.Cache.Age), (.int .i64 r16.1.Now), p18.2.2.2.2.2.2.2.2.2.2.1.v, p18.2.2.2.2.2.2.2.2.2.2.2.2.1.v, (.int .i64 r16.1.Spent), p18.2.2.2.2.2.2.2.2.2.2.2.2.2.2.1.v].toArray), (.bool r16.2)]) (v := (.agg [p18.1.v, p18.2.2.1.v, p18.2.2.2.2.1.v, p18.2.2.2.2.2.2.1.v, (.int .i64 r16.1.Source.Version), p18.2.2.2.2.2.2.2.2.1.v, (.int .i64 r16.1.Cache.Age), (.int .i64 r16.1.Now), p18.2.2.2.2.2.2.2.2.2.2.1.v, p18.2.2.2.2.2.2.2.2.2.2.2.2.1.v, (.int .i64 r16.1.Spent), p18.2.2.2.2.2.2.2.2.2.2.2.2.2.2.1.v].toArray)) (EN ha (.tmp rfl rfl) rfl) rfl) ?_
  refine D_val rfl .no (fun ha => V_extract (l := [(.agg [p18.1.v, p18.2.2.1.v, p18.2.2.2.2.1.v, p18.2.2.2.2.2.2.1.v, (.int .i64 r16.1.Source.Version), p18.2.2.2.2.2.2.2.2.1.v, (.int .i64 r16.1.Cache.Age), (.int .i64 r16.1.Now), p18.2.2.2.2.2.2.2.2.2.2.1.v, p18.2.2.2.2.2.2.2.2.2.2.2.2.1.v, (.int .i64 r16.1.Spent), p18.2.2.2.2.2.2.2.2.2.2.2.2.2.2.1.v].toArray), (.bool r16.2)]) (v := (.bool r16.2)) (EN ha (.tmp rfl rfl) rfl) rfl) ?_
  refine D_act1 rfl rfl .no (.cons (.t (.t (.t (.t (.t (.t (.t (.t (.t (.t (.t (.t (.t (.t (.t (.t (.t .h))))))))))))))))) .nil) (.dep rfl .nil) (fun ha => X_storeB (e' := (.agg [p18.1.v, p18.2.2.1.v, p18.2.2.2.2.1.v, p18.2.2.2.2.2.2.1.v, (.int .i64 r16.1.Source.Version), p18.2.2.2.2.2.2.2.2.1.v, (.int .i64 r16.1.Cache.Age), (.int .i64 r16.1.Now), p18.2.2.2.2.2.2.2.2.2.2.1.v, p18.2.2.2.2.2.2.2.2.2.2.2.2.1.v, (.int .i64 r16.1.Spent), p18.2.2.2.2.2.2.2.2.2.2.2.2.2.2.1.v].toArray)) (v := (.agg [p18.1.v, p18.2.2.1.v, p18.2.2.2.2.1.v, p18.2.2.2.2.2.2.1.v, (.int .i64 r16.1.Source.Version), p18.2.2.2.2.2.2.2.2.1.v, (.int .i64 r16.1.Cache.Age), (.int .i64 r16.1.Now), p18.2.2.2.2.2.2.2.2.2.2.1.v, p18.2.2.2.2.2.2.2.2.2.2.2.2.1.v, (.int .i64 r16.1.Spent), p18.2.2.2.2.2.2.2.2.2.2.2.2.2.2.1.v].toArray)) ty51.h.sz (EN ha (.tmp rfl rfl) rfl) (EN ha (.tmp rfl rfl) rfl) rfl rfl rfl rfl rfl) (fun _ => ?_)
  refine Da (.bool r16.2) rfl rfl rfl rfl ?_
  refine D_nil (K_region (C_at (.t (.t (.t (.t (.t (.t (.t (.t (.t (.t (.t (.t (.t (.t (.t (.t (.t (.t (.t .h))))))))))))))))))) (fun hp => V_loadBox ag34.h ty34.h.sz rfl (.tmp rfl rfl) hp.2 rfl) ?_))
  obtain ⟨r19, hx20, hF⟩ := bind_some hF
  refine C_x8 (.rd (.t (.t (.t (.t (.t (.t (.t (.t (.t (.t (.t (.t (.t (.t (.t (.t (.t (.t (.t (.t .h)))))))))))))))))))) rfl (.rd (.t (.t (.t (.t (.t (.t (.t (.t (.t (.t (.t (.t (.t (.t (.t (.t (.t (.t (.t (.t (.t .h))))))))))))))))))))) rfl (.rd (.t (.t (.t (.t (.t (.t (.t (.t (.t (.t (.t (.t (.t (.t (.t (.t (.t (.t (.t (.t (.t (.t .h)))))))))))))))))))))) rfl (.rd (.t (.t (.t (.t (.t (.t (.t (.t (.t (.t (.t (.t (.t (.t (.t (.t (.t (.t (.t (.t (.t (.t (.t .h))))))))))))))))))))))) rfl (.rd (.t (.t (.t (.t (.t (.t (.t (.t (.t (.t (.t (.t (.t (.t (.t (.t (.t (.t (.t (.t (.t (.t (.t (.t .h)))))))))))))))))))))))) rfl (.rd (.t (.t (.t (.t (.t (.t (.t (.t (.t (.t (.t (.t (.t (.t (.t (.t (.t (.t (.t (.t (.t (.t (.t (.t (.t .h))))))))))))))))))))))))) rfl (.rd (.t (.t (.t (.t (.t (.t (.t (.t (.t (.t (.t (.t (.t (.t (.t (.t (.t (.t (.t (.t (.t (.t (.t (.t (.t (.t .h)))))))))))))))))))))))))) rfl (.rd (.t (.t (.t (.t (.t (.t (.t (.t (.t (.t (.t (.t (.t (.t (.t (.t (.t (.t (.t (.t (.t (.t (.t (.t (.t (.t (.t .h))))))))))))))))))))))))))) rfl .nil)))))))) (X_callS cf7.h (.cons (.tmp rfl rfl) .nil) (l_toMediator_ok a_aM v0_0 v0_1 v0_2 v0_3 v0_5 v0_8 v0_9 v0_11 _ hx20)) (fun p21 => ?_)
  refine C_new rfl (N_allocT (g := true) ty51.h rfl rfl) (fun k22 => ?_)
  refine C_x1 (.cons .h .nil) (X_storeB (e' := (.agg [p21.1.v, p21.2.2.1.v, p21.2.2.2.2.1.v, p21.2.2.2.2.2.2.1.v, (.int .i64 r19.Source.Version), p21.2.2.2.2.2.2.2.2.1.v, (.int .i64 r19.Cache.Age), (.int .i64 r19.Now), p21.2.2.2.2.2.2.2.2.2.2.1.v, p21.2.2.2.2.2.2.2.2.2.2.2.2.1.v, (.int .i64 r19.Spent), p21.2.2.2.2.2.2.2.2.2.2.2.2.2.2.1.v].toArray)) (v := (.agg [p21.1.v, p21.2.2.1.v, p21.2.2.2.2.1.v, p21.2.2.2.2.2.2.1.v, (.int .i64 r19.Source.Version), p21.2.2.2.2.2.2.2.2.1.v, (.int .i64 r19.Cache.Age), (.int .i64 r19.Now), p21.2.2.2.2.2.2.2.2.2.2.1.v, p21.2.2.2.2.2.2.2.2.2.2.2.2.1.v, (.int .i64 r19.Spent), p21.2.2.2.2.2.2.2.2.2.2.2.2.2.2.1.v].toArray)) ty51.h.sz (.tmp rfl rfl) (.tmp rfl rfl) rfl rfl rfl rfl rfl) (fun _ => ?_)
  refine C_nil (K_region (C_at (.t (.t (.t (.t (.t (.t (.t (.t (.t (.t (.t (.t (.t (.t (.t (.t (.t (.t (.t (.t (.t (.t (.t (.t (.t (.t (.t .h))))))))))))))))))))))))))) (fun hp => V_loadBox ag38.h ty38.h.sz rfl (.tmp rfl rfl) hp.2 rfl) ?_))
  obtain ⟨r23, hx24, hF⟩ := bind_some hF
  refine C_x1 (.rd (.t (.t (.t (.t (.t (.t (.t (.t (.t (.t (.t (.t (.t (.t (.t (.t (.t (.t (.t (.t (.t (.t (.t (.t (.t (.t (.t (.t (.t (.t (.t (.t (.t (.t (.t (.t (.t .h))))))))))))))))))))))))))))))))))))) rfl .nil) (X_callS cf8.h (.cons (.tmp rfl rfl) .nil) (l_toChange_ok a_aC v1_2 _ hx24)) (fun p25 => ?_)
  refine C_new rfl (N_allocT (g := true) ty57.h rfl rfl) (fun k26 => ?_)
  refine C_x1 (.cons .h .nil) (X_storeB (e' := (.agg [(.bool r23.Add), (.int .i64 r23.Fact.Rel), p25.1.v].toArray)) (v := (.agg [(.bool r23.Add), (.int .i64 r23.Fact.Rel), p25.1.v].toArray)) ty57.h.sz (.tmp rfl rfl) (.tmp rfl rfl) rfl rfl rfl rfl rfl) (fun _ => ?_)
  refine C_nil (K_region (C_at (.t (.t .h)) (fun hp => V_loadBox ag51.h ty51.h.sz rfl (.tmp rfl rfl) hp.2 rfl) ?_))
  refine C_at .h (fun hp => V_loadBox ag57.h ty57.h.sz rfl (.tmp rfl rfl) hp.2 rfl) ?_
  obtain ⟨r27, hx28, hF⟩ := bind_some hF
  refine C_x17 (.cons (.t .h) (.cons (.t (.t (.t (.t (.t (.t (.t (.t (.t .h))))))))) (.cons (.t (.t (.t (.t (.t (.t (.t (.t .h)))))))) (.cons (.t (.t (.t (.t (.t (.t (.t .h))))))) (.cons (.t (.t (.t (.t (.t (.t .h)))))) (.cons (.t (.t (.t (.t (.t .h))))) (.cons (.t (.t (.t (.t .h)))) (.cons (.t (.t (.t .h))) (.cons (.t (.t .h)) .nil))))))))) (XC_borL (pre := []) (.cons frz_own (.cons frz_own (.cons frz_own (.cons frz_own (.cons frz_own (.cons frz_own (.cons frz_own (.cons frz_own (.cons frz_own .nil))))))))) (fun _ => (.cons (.cons (.cons (.cons (.cons (.cons (.cons (.cons .nil))))))))) (X_callS cf9.h (.cons (.tmp rfl rfl) (.cons (.tmp rfl rfl) .nil)) (i_ChangeFact_ok r19 p21.1 p21.2.2.1 p21.2.2.2.2.1 p21.2.2.2.2.2.2.1 p21.2.2.2.2.2.2.2.2.1 p21.2.2.2.2.2.2.2.2.2.2.1 p21.2.2.2.2.2.2.2.2.2.2.2.2.1 p21.2.2.2.2.2.2.2.2.2.2.2.2.2.2.1 r23 p25.1 _ hx28))) (fun p29 => ?_)
  refine Cm (.tuple [(.agg [p29.1.v, p29.2.2.1.v, p29.2.2.2.2.1.v, p29.2.2.2.2.2.2.1.v, (.int .i64 r27.1.Source.Version), p29.2.2.2.2.2.2.2.2.1.v, (.int .i64 r27.1.Cache.Age), (.int .i64 r27.1.Now), p29.2.2.2.2.2.2.2.2.2.2.1.v, p29.2.2.2.2.2.2.2.2.2.2.2.2.1.v, (.int .i64 r27.1.Spent), p29.2.2.2.2.2.2.2.2.2.2.2.2.2.2.1.v].toArray), (.bool r27.2)].toArray) rfl rfl ?_
  refine C_val (V_extract (l := [(.agg [p29.1.v, p29.2.2.1.v, p29.2.2.2.2.1.v, p29.2.2.2.2.2.2.1.v, (.int .i64 r27.1.Source.Version), p29.2.2.2.2.2.2.2.2.1.v, (.int .i64 r27.1.Cache.Age), (.int .i64 r27.1.Now), p29.2.2.2.2.2.2.2.2.2.2.1.v, p29.2.2.2.2.2.2.2.2.2.2.2.2.1.v, (.int .i64 r27.1.Spent), p29.2.2.2.2.2.2.2.2.2.2.2.2.2.2.1.v].toArray), (.bool r27.2)]) (v := (.agg [p29.1.v, p29.2.2.1.v, p29.2.2.2.2.1.v, p29.2.2.2.2.2.2.1.v, (.int .i64 r27.1.Source.Version), p29.2.2.2.2.2.2.2.2.1.v, (.int .i64 r27.1.Cache.Age), (.int .i64 r27.1.Now), p29.2.2.2.2.2.2.2.2.2.2.1.v, p29.2.2.2.2.2.2.2.2.2.2.2.2.1.v, (.int .i64 r27.1.Spent), p29.2.2.2.2.2.2.2.2.2.2.2.2.2.2.1.v].toArray)) (.tmp rfl rfl) rfl) ?_
  refine C_val (V_extract (l := [(.agg [p29.1.v, p29.2.2.1.v, p29.2.2.2.2.1.v, p29.2.2.2.2.2.2.1.v, (.int .i64 r27.1.Source.Version), p29.2.2.2.2.2.2.2.2.1.v, (.int .i64 r27.1.Cache.Age), (.int .i64 r27.1.Now), p29.2.2.2.2.2.2.2.2.2.2.1.v, p29.2.2.2.2.2.2.2.2.2.2.2.2.1.v, (.int .i64 r27.1.Spent), p29.2.2.2.2.2.2.2.2.2.2.2.2.2.2.1.v].toArray), (.bool r27.2)]) (v := (.bool r27.2)) (.tmp rfl rfl) rfl) ?_
  refine C_new rfl (N_allocT (g := true) ty51.h rfl rfl) (fun k30 => ?_)
  refine C_x1 (.cons .h .nil) (X_storeB (e' := (.agg [p29.1.v, p29.2.2.1.v, p29.2.2.2.2.1.v, p29.2.2.2.2.2.2.1.v, (.int .i64 r27.1.Source.Version), p29.2.2.2.2.2.2.2.2.1.v, (.int .i64 r27.1.Cache.Age), (.int .i64 r27.1.Now), p29.2.2.2.2.2.2.2.2.2.2.1.v, p29.2.2.2.2.2.2.2.2.2.2.2.2.1.v, (.int .i64 r27.1.Spent), p29.2.2.2.2.2.2.2.2.2.2.2.2.2.2.1.v].toArray)) (v := (.agg [p29.1.v, p29.2.2.1.v, p29.2.2.2.2.1.v, p29.2.2.2.2.2.2.1.v, (.int .i64 r27.1.Source.Version), p29.2.2.2.2.2.2.2.2.1.v, (.int .i64 r27.1.Cache.Age), (.int .i64 r27.1.Now), p29.2.2.2.2.2.2.2.2.2.2.1.v, p29.2.2.2.2.2.2.2.2.2.2.2.2.1.v, (.int .i64 r27.1.Spent), p29.2.2.2.2.2.2.2.2.2.2.2.2.2.2.1.v].toArray)) ty51.h.sz (.tmp rfl rfl) (.tmp rfl rfl) rfl rfl rfl rfl rfl) (fun _ => ?_)
  refine Ca (.bool r27.2) rfl rfl ?_
  refine C_nil (K_in ?_)
  obtain ⟨o31, hio31, hO32⟩ := bind_some hF
  refine K_region (C_cut (fun f' cs' => ∃ (c37 : Bool) (g : Fr), c37 = o31 ∧ f' = updL g [(2, (.pointer (some ⟨k1, 0, some 0⟩))), (3, (.pointer (some ⟨k2, 0, some 0⟩))), (6, (.pointer (some ⟨k9, 0, some 0⟩))), (7, (.bool r16.2)), (8, (.pointer (some ⟨k22, 0, some 0⟩))), (9, (.pointer (some ⟨k26, 0, some 0⟩))), (10, (.pointer (some ⟨k30, 0, some 0⟩))), (11, (.bool r27.2)), (53, (.bool c37))] ∧ Ent cs' [cboR k1 34 (.agg [v0_0.v, v0_1.v, v0_2.v, v0_3.v, (.int .i64 a_aM.Source.Version), v0_5.v, (.int .i64 a_aM.Cache.Age), (.int .i64 a_aM.Now), v0_8.v, v0_9.v, (.int .i64 a_aM.Spent), v0_11.v].toArray), crd (RdS 3 rdInt) v0_0.v a_aM.Schema, crd (RdS 100 rd100) v0_1.v a_aM.Methods, crd (RdS 103 rd103) v0_2.v a_aM.Rules, crd (RdS 36 rd36) v0_3.v a_aM.Source.Facts, crd (RdS 153 rd153) v0_5.v a_aM.Cache.Entries, crd (RdS 108 rd108) v0_8.v a_aM.Log, crd (RdS 3 rdInt) v0_9.v a_aM.Times, crd (RdS 110 (RdS 22 (RdS 3 rdInt))) v0_11.v a_aM.Results, cboR k2 38 (.agg [(.bool a_aC.Add), (.int .i64 a_aC.Fact.Rel), v1_2.v].toArray), crd (RdS 3 rdInt) v1_2.v a_aC.Fact.Values, cbox k9 51 (.agg [p18.1.v, p18.2.2.1.v, p18.2.2.2.2.1.v, p18.2.2.2.2.2.2.1.v, (.int .i64 r16.1.Source.Version), p18.2.2.2.2.2.2.2.2.1.v, (.int .i64 r16.1.Cache.Age), (.int .i64 r16.1.Now), p18.2.2.2.2.2.2.2.2.2.2.1.v, p18.2.2.2.2.2.2.2.2.2.2.2.2.1.v, (.int .i64 r16.1.Spent), p18.2.2.2.2.2.2.2.2.2.2.2.2.2.2.1.v].toArray), cown (OwnS 3 (roE rdInt)) p18.2.1 p18.1.v r16.1.Schema, cown (OwnS 114 ow114) p18.2.2.2.1 p18.2.2.1.v r16.1.Methods, cown (OwnS 116 ow116) p18.2.2.2.2.2.1 p18.2.2.2.2.1.v r16.1.Rules, cown (OwnS 55 ow55) p18.2.2.2.2.2.2.2.1 p18.2.2.2.2.2.2.1.v r16.1.Source.Facts, cown (OwnS 156 ow156) p18.2.2.2.2.2.2.2.2.2.1 p18.2.2.2.2.2.2.2.2.1.v r16.1.Cache.Entries, cown (OwnS 124 ow124) p18.2.2.2.2.2.2.2.2.2.2.2.1 p18.2.2.2.2.2.2.2.2.2.2.1.v r16.1.Log, cown (OwnS 3 (roE rdInt)) p18.2.2.2.2.2.2.2.2.2.2.2.2.2.1 p18.2.2.2.2.2.2.2.2.2.2.2.2.1.v r16.1.Times, cown (OwnS 110 (OwnS 22 (OwnS 3 (roE rdInt)))) p18.2.2.2.2.2.2.2.2.2.2.2.2.2.2.2 p18.2.2.2.2.2.2.2.2.2.2.2.2.2.2.1.v r16.1.Results, cbox k22 51 (.agg [p21.1.v, p21.2.2.1.v, p21.2.2.2.2.1.v, p21.2.2.2.2.2.2.1.v, (.int .i64 r19.Source.Version), p21.2.2.2.2.2.2.2.2.1.v, (.int .i64 r19.Cache.Age), (.int .i64 r19.Now), p21.2.2.2.2.2.2.2.2.2.2.1.v, p21.2.2.2.2.2.2.2.2.2.2.2.2.1.v, (.int .i64 r19.Spent), p21.2.2.2.2.2.2.2.2.2.2.2.2.2.2.1.v].toArray), cown (OwnS 3 (roE rdInt)) p21.2.1 p21.1.v r19.Schema, cown (OwnS 114 ow114) p21.2.2.2.1 p21.2.2.1.v r19.Methods, cown (OwnS 116 ow116) p21.2.2.2.2.2.1 p21.2.2.2.2.1.v r19.Rules, cown (OwnS 55 ow55) p21.2.2.2.2.2.2.2.1 p21.2.2.2.2.2.2.1.v r19.Source.Facts, cown (OwnS 156 ow156) p21.2.2.2.2.2.2.2.2.2.1 p21.2.2.2.2.2.2.2.2.1.v r19.Cache.Entries, cown (OwnS 124 ow124) p21.2.2.2.2.2.2.2.2.2.2.2.1 p21.2.2.2.2.2.2.2.2.2.2.1.v r19.Log, cown (OwnS 3 (roE rdInt)) p21.2.2.2.2.2.2.2.2.2.2.2.2.2.1 p21.2.2.2.2.2.2.2.2.2.2.2.2.1.v r19.Times, cown (OwnS 110 (OwnS 22 (OwnS 3 (roE rdInt)))) p21.2.2.2.2.2.2.2.2.2.2.2.2.2.2.2 p21.2.2.2.2.2.2.2.2.2.2.2.2.2.2.1.v r19.Results, cbox k26 57 (.agg [(.bool r23.Add), (.int .i64 r23.Fact.Rel), p25.1.v].toArray), cown (OwnS 3 (roE rdInt)) p25.2 p25.1.v r23.Fact.Values, cbox k30 51 (.agg [p29.1.v, p29.2.2.1.v, p29.2.2.2.2.1.v, p29.2.2.2.2.2.2.1.v, (.int .i64 r27.1.Source.Version), p29.2.2.2.2.2.2.2.2.1.v, (.int .i64 r27.1.Cache.Age), (.int .i64 r27.1.Now), p29.2.2.2.2.2.2.2.2.2.2.1.v, p29.2.2.2.2.2.2.2.2.2.2.2.2.1.v, (.int .i64 r27.1.Spent), p29.2.2.2.2.2.2.2.2.2.2.2.2.2.2.1.v].toArray), cown (OwnS 3 (roE rdInt)) p29.2.1 p29.1.v r27.1.Schema, cown (OwnS 114 ow114) p29.2.2.2.1 p29.2.2.1.v r27.1.Methods, cown (OwnS 116 ow116) p29.2.2.2.2.2.1 p29.2.2.2.2.1.v r27.1.Rules, cown (OwnS 55 ow55) p29.2.2.2.2.2.2.2.1 p29.2.2.2.2.2.2.1.v r27.1.Source.Facts, cown (OwnS 156 ow156) p29.2.2.2.2.2.2.2.2.2.1 p29.2.2.2.2.2.2.2.2.1.v r27.1.Cache.Entries, cown (OwnS 124 ow124) p29.2.2.2.2.2.2.2.2.2.2.2.1 p29.2.2.2.2.2.2.2.2.2.2.1.v r27.1.Log, cown (OwnS 3 (roE rdInt)) p29.2.2.2.2.2.2.2.2.2.2.2.2.2.1 p29.2.2.2.2.2.2.2.2.2.2.2.2.1.v r27.1.Times, cown (OwnS 110 (OwnS 22 (OwnS 3 (roE rdInt)))) p29.2.2.2.2.2.2.2.2.2.2.2.2.2.2.2 p29.2.2.2.2.2.2.2.2.2.2.2.2.2.2.1.v r27.1.Results]) ?_ ?_)
  · replace hF := hio31
    refine C_at .h (fun hp => V_loadBox ag51.h ty51.h.sz rfl (.tmp rfl rfl) hp.2 rfl) ?_
    refine C_at (.t (.t (.t (.t (.t (.t (.t (.t (.t (.t (.t (.t (.t (.t (.t (.t (.t (.t (.t (.t .h)))))))))))))))))))) (fun hp => V_loadBox ag51.h ty51.h.sz rfl (.tmp rfl rfl) hp.2 rfl) ?_
    obtain ⟨r33, hx34, hF⟩ := bind_some hF
    refine C_x16 (.cons (.t (.t (.t (.t (.t (.t (.t (.t (.t (.t (.t (.t (.t (.t (.t (.t (.t (.t (.t (.t (.t (.t (.t (.t (.t (.t (.t (.t (.t (.t (.t (.t (.t (.t (.t (.t (.t .h))))))))))))))))))))))))))))))))))))) (.cons (.t (.t (.t (.t (.t (.t (.t (.t (.t (.t (.t (.t (.t (.t (.t (.t (.t (.t (.t (.t (.t (.t (.t (.t (.t (.t (.t (.t (.t (.t (.t (.t (.t (.t (.t (.t .h)))))))))))))))))))))))))))))))))))) (.cons (.t (.t (.t (.t (.t (.t (.t (.t (.t (.t (.t (.t (.t (.t (.t (.t (.t (.t (.t (.t (.t (.t (.t (.t (.t (.t (.t (.t (.t (.t (.t (.t (.t (.t (.t .h))))))))))))))))))))))))))))))))))) (.cons (.t (.t (.t (.t (.t (.t (.t (.t (.t (.t (.t (.t (.t (.t (.t (.t (.t (.t (.t (.t (.t (.t (.t (.t (.t (.t (.t (.t (.t (.t (.t (.t (.t (.t .h)))))))))))))))))))))))))))))))))) (.cons (.t (.t (.t (.t (.t (.t (.t (.t (.t (.t (.t (.t (.t (.t (.t (.t (.t (.t (.t (.t (.t (.t (.t (.t (.t (.t (.t (.t (.t (.t (.t (.t (.t .h))))))))))))))))))))))))))))))))) (.cons (.t (.t (.t (.t (.t (.t (.t (.t (.t (.t (.t (.t (.t (.t (.t (.t (.t (.t (.t (.t (.t (.t (.t (.t (.t (.t (.t (.t (.t (.t (.t (.t .h)))))))))))))))))))))))))))))))) (.cons (.t (.t (.t (.t (.t (.t (.t (.t (.t (.t (.t (.t (.t (.t (.t (.t (.t (.t (.t (.t (.t (.t (.t (.t (.t (.t (.t (.t (.t (.t (.t .h))))))))))))))))))))))))))))))) (.cons (.t (.t (.t (.t (.t (.t (.t (.t (.t (.t (.t (.t (.t (.t (.t (.t (.t (.t (.t (.t (.t (.t (.t (.t (.t (.t (.t (.t (.t (.t .h)))))))))))))))))))))))))))))) (.cons (.t (.t (.t (.t (.t (.t (.t (.t (.t (.t (.t (.t (.t (.t (.t (.t (.t .h))))))))))))))))) (.cons (.t (.t (.t (.t (.t (.t (.t (.t (.t (.t (.t (.t (.t (.t (.t (.t .h)))))))))))))))) (.cons (.t (.t (.t (.t (.t (.t (.t (.t (.t (.t (.t (.t (.t (.t (.t .h))))))))))))))) (.cons (.t (.t (.t (.t (.t (.t (.t (.t (.t (.t (.t (.t (.t (.t .h)))))))))))))) (.cons (.t (.t (.t (.t (.t (.t (.t (.t (.t (.t (.t (.t (.t .h))))))))))))) (.cons (.t (.t (.t (.t (.t (.t (.t (.t (.t (.t (.t (.t .h)))))))))))) (.cons (.t (.t (.t (.t (.t (.t (.t (.t (.t (.t (.t .h))))))))))) (.cons (.t (.t (.t (.t (.t (.t (.t (.t (.t (.t .h)))))))))) .nil)))))))))))))))) (XC_borL (pre := []) (.cons frz_own (.cons frz_own (.cons frz_own (.cons frz_own (.cons frz_own (.cons frz_own (.cons frz_own (.cons frz_own (.cons frz_own (.cons frz_own (.cons frz_own (.cons frz_own (.cons frz_own (.cons frz_own (.cons frz_own (.cons frz_own .nil)))))))))))))))) (fun _ => .nil) (X_callS cf10.h (.cons (.tmp rfl rfl) (.cons (.tmp rfl rfl) .nil)) (l_eqMediator_ok r27.1 p29.1 p29.2.2.1 p29.2.2.2.2.1 p29.2.2.2.2.2.2.1 p29.2.2.2.2.2.2.2.2.1 p29.2.2.2.2.2.2.2.2.2.2.1 p29.2.2.2.2.2.2.2.2.2.2.2.2.1 p29.2.2.2.2.2.2.2.2.2.2.2.2.2.2.1 r16.1 p18.1 p18.2.2.1 p18.2.2.2.2.1 p18.2.2.2.2.2.2.1 p18.2.2.2.2.2.2.2.2.1 p18.2.2.2.2.2.2.2.2.2.2.1 p18.2.2.2.2.2.2.2.2.2.2.2.2.1 p18.2.2.2.2.2.2.2.2.2.2.2.2.2.2.1 _ hx34))) (fun _ => ?_)
    refine C_val (V_not (b := r33) (.tmp rfl rfl)) ?_
    refine Cm (.bool (!r33)) rfl rfl ?_
    rcases Bool.eq_false_or_eq_true (!r33) with hg36 | hg36
    · rw [hg36]
      try rw [hg36] at hF; dsimp only [cond_true, cond_false] at hF
      iterate 3 refine C_off (t := 49) rfl rfl rfl ?_
      refine C_val (V_pick (b := true) (u := (.bool true)) (v := undef) (.tmp rfl rfl) (.bool _) (.tmp rfl rfl)) ?_
      refine C_nil ?_
      obtain rfl := Option.some.inj hF
      exact ⟨_, _, rfl, (EqL.cons rfl (EqL.cons rfl (EqL.cons rfl (EqL.cons rfl (EqL.cons rfl (EqL.cons rfl (EqL.cons rfl (EqL.cons rfl (EqL.cons rfl (EqL.nil)))))))))).eq, (.sel (.rd (.t (.t (.t (.t (.t (.t (.t (.t (.t (.t (.t (.t (.t (.t (.t (.t (.t (.t (.t (.t (.t (.t (.t (.t (.t (.t (.t (.t (.t (.t (.t (.t (.t (.t (.t (.t (.t (.t (.t .h))))))))))))))))))))))))))))))))))))))) rfl (.rd (.t (.t (.t (.t (.t (.t (.t (.t (.t (.t (.t (.t (.t (.t (.t (.t (.t (.t (.t (.t (.t (.t (.t (.t (.t (.t (.t (.t (.t (.t (.t (.t (.t (.t (.t (.t (.t (.t (.t (.t .h)))))))))))))))))))))))))))))))))))))))) rfl (.rd (.t (.t (.t (.t (.t (.t (.t (.t (.t (.t (.t (.t (.t (.t (.t (.t (.t (.t (.t (.t (.t (.t (.t (.t (.t (.t (.t (.t (.t (.t (.t (.t (.t (.t (.t (.t (.t (.t (.t (.t (.t .h))))))))))))))))))))))))))))))))))))))))) rfl (.rd (.t (.t (.t (.t (.t (.t (.t (.t (.t (.t (.t (.t (.t (.t (.t (.t (.t (.t (.t (.t (.t (.t (.t (.t (.t (.t (.t (.t (.t (.t (.t (.t (.t (.t (.t (.t (.t (.t (.t (.t (.t (.t .h)))))))))))))))))))))))))))))))))))))))))) rfl (.rd (.t (.t (.t (.t (.t (.t (.t (.t (.t (.t (.t (.t (.t (.t (.t (.t (.t (.t (.t (.t (.t (.t (.t (.t (.t (.t (.t (.t (.t (.t (.t (.t (.t (.t (.t (.t (.t (.t (.t (.t (.t (.t (.t .h))))))))))))))))))))))))))))))))))))))))))) rfl (.rd (.t (.t (.t (.t (.t (.t (.t (.t (.t (.t (.t (.t (.t (.t (.t (.t (.t (.t (.t (.t (.t (.t (.t (.t (.t (.t (.t (.t (.t (.t (.t (.t (.t (.t (.t (.t (.t (.t (.t (.t (.t (.t (.t (.t .h)))))))))))))))))))))))))))))))))))))))))))) rfl (.rd (.t (.t (.t (.t (.t (.t (.t (.t (.t (.t (.t (.t (.t (.t (.t (.t (.t (.t (.t (.t (.t (.t (.t (.t (.t (.t (.t (.t (.t (.t (.t (.t (.t (.t (.t (.t (.t (.t (.t (.t (.t (.t (.t (.t (.t .h))))))))))))))))))))))))))))))))))))))))))))) rfl (.rd (.t (.t (.t (.t (.t (.t (.t (.t (.t (.t (.t (.t (.t (.t (.t (.t (.t (.t (.t (.t (.t (.t (.t (.t (.t (.t (.t (.t (.t (.t (.t (.t (.t (.t (.t (.t (.t (.t (.t (.t (.t (.t (.t (.t (.t (.t .h)))))))))))))))))))))))))))))))))))))))))))))) rfl (.rd (.t (.t (.t (.t (.t (.t (.t (.t (.t (.t (.t (.t (.t (.t (.t (.t (.t (.t (.t (.t (.t (.t (.t (.t (.t (.t (.t (.t (.t (.t (.t (.t (.t (.t (.t (.t (.t (.t (.t (.t (.t (.t (.t (.t (.t (.t (.t .h))))))))))))))))))))))))))))))))))))))))))))))) rfl (.rd (.t (.t (.t (.t (.t (.t (.t (.t (.t (.t (.t (.t (.t (.t (.t (.t (.t (.t (.t (.t (.t (.t (.t (.t (.t (.t (.t (.t (.t (.t (.t (.t (.t (.t (.t (.t (.t (.t .h)))))))))))))))))))))))))))))))))))))) rfl (.rd (.t (.t (.t (.t (.t (.t (.t (.t (.t (.t (.t (.t (.t (.t (.t (.t (.t (.t (.t (.t (.t (.t (.t (.t (.t (.t (.t (.t (.t (.t (.t (.t (.t (.t (.t (.t (.t (.t (.t (.t (.t (.t (.t (.t (.t (.t (.t (.t .h)))))))))))))))))))))))))))))))))))))))))))))))) rfl (.cons (.t (.t (.t (.t (.t (.t (.t (.t (.t (.t (.t (.t (.t (.t (.t (.t (.t (.t (.t (.t (.t (.t (.t (.t (.t (.t (.t (.t .h)))))))))))))))))))))))))))) (.cons (.t (.t (.t (.t (.t (.t (.t .h))))))) (.cons (.t (.t (.t (.t (.t (.t .h)))))) (.cons (.t (.t (.t (.t (.t .h))))) (.cons (.t (.t (.t (.t .h)))) (.cons (.t (.t (.t .h))) (.cons (.t (.t .h)) (.cons (.t .h) (.cons .h (.cons (.t (.t (.t (.t (.t (.t (.t (.t (.t (.t (.t (.t (.t (.t (.t (.t (.t (.t (.t .h))))))))))))))))))) (.cons (.t (.t (.t (.t (.t (.t (.t (.t (.t (.t (.t (.t (.t (.t (.t (.t (.t .h))))))))))))))))) (.cons (.t (.t (.t (.t (.t (.t (.t (.t (.t (.t (.t (.t (.t (.t (.t (.t .h)))))))))))))))) (.cons (.t (.t (.t (.t (.t (.t (.t (.t (.t (.t (.t (.t (.t (.t (.t .h))))))))))))))) (.cons (.t (.t (.t (.t (.t (.t (.t (.t (.t (.t (.t (.t (.t (.t .h)))))))))))))) (.cons (.t (.t (.t (.t (.t (.t (.t (.t (.t (.t (.t (.t (.t .h))))))))))))) (.cons (.t (.t (.t (.t (.t (.t (.t (.t (.t (.t (.t (.t .h)))))))))))) (.cons (.t (.t (.t (.t (.t (.t (.t (.t (.t (.t (.t .h))))))))))) (.cons (.t (.t (.t (.t (.t (.t (.t (.t (.t (.t .h)))))))))) (.cons (.t (.t (.t (.t (.t (.t (.t (.t (.t (.t .h)))))))))) (.cons (.t (.t (.t (.t (.t (.t (.t (.t (.t .h))))))))) (.cons (.t (.t (.t (.t (.t (.t (.t (.t .h)))))))) (.cons (.t (.t (.t (.t (.t (.t (.t .h))))))) (.cons (.t (.t (.t (.t (.t (.t .h)))))) (.cons (.t (.t (.t (.t (.t .h))))) (.cons (.t (.t (.t (.t .h)))) (.cons (.t (.t (.t .h))) (.cons (.t (.t .h)) (.cons (.t .h) (.cons .h .nil)))))))))))))))))))))))))))))))))))))))))⟩
    rw [hg36]
    try rw [hg36] at hF; dsimp only [cond_true, cond_false] at hF
    refine C_on (t := 49) rfl rfl rfl ?_
    refine Cm (.bool r27.2) rfl rfl ?_
    refine C_on (t := 49) rfl rfl rfl ?_
    refine Cm (.bool r16.2) rfl rfl ?_
    refine C_on (t := 49) rfl rfl rfl ?_
    refine C_val (V_neB (a := r27.2) (b := r16.2) Tryz.underlying4 (.tmp rfl rfl) (.tmp rfl rfl)) ?_
    refine C_val (V_pick (b := false) (u := (.bool true)) (v := (.bool (!(r27.2 == r16.2)))) (.tmp rfl rfl) (.bool _) (.tmp rfl rfl)) ?_
    refine C_nil ?_
    obtain rfl := Option.some.inj hF
    exact ⟨_, _, rfl, (EqL.cons rfl (EqL.cons rfl (EqL.cons rfl (EqL.cons rfl (EqL.cons rfl (EqL.cons rfl (EqL.cons rfl (EqL.cons rfl (EqL.cons rfl (EqL.nil)))))))))).eq, (.sel (.rd (.t (.t (.t (.t (.t (.t (.t (.t (.t (.t (.t (.t (.t (.t (.t (.t (.t (.t (.t (.t (.t (.t (.t (.t (.t (.t (.t (.t (.t (.t (.t (.t (.t (.t (.t (.t (.t (.t (.t .h))))))))))))))))))))))))))))))))))))))) rfl (.rd (.t (.t (.t (.t (.t (.t (.t (.t (.t (.t (.t (.t (.t (.t (.t (.t (.t (.t (.t (.t (.t (.t (.t (.t (.t (.t (.t (.t (.t (.t (.t (.t (.t (.t (.t (.t (.t (.t (.t (.t .h)))))))))))))))))))))))))))))))))))))))) rfl (.rd (.t (.t (.t (.t (.t (.t (.t (.t (.t (.t (.t (.t (.t (.t (.t (.t (.t (.t (.t (.t (.t (.t (.t (.t (.t (.t (.t (.t (.t (.t (.t (.t (.t (.t (.t (.t (.t (.t (.t (.t (.t .h))))))))))))))))))))))))))))))))))))))))) rfl (.rd (.t (.t (.t (.t (.t (.t (.t (.t (.t (.t (.t (.t (.t (.t (.t (.t (.t (.t (.t (.t (.t (.t (.t (.t (.t (.t (.t (.t (.t (.t (.t (.t (.t (.t (.t (.t (.t (.t (.t (.t (.t (.t .h)))))))))))))))))))))))))))))))))))))))))) rfl (.rd (.t (.t (.t (.t (.t (.t (.t (.t (.t (.t (.t (.t (.t (.t (.t (.t (.t (.t (.t (.t (.t (.t (.t (.t (.t (.t (.t (.t (.t (.t (.t (.t (.t (.t (.t (.t (.t (.t (.t (.t (.t (.t (.t .h))))))))))))))))))))))))))))))))))))))))))) rfl (.rd (.t (.t (.t (.t (.t (.t (.t (.t (.t (.t (.t (.t (.t (.t (.t (.t (.t (.t (.t (.t (.t (.t (.t (.t (.t (.t (.t (.t (.t (.t (.t (.t (.t (.t (.t (.t (.t (.t (.t (.t (.t (.t (.t (.t .h)))))))))))))))))))))))))))))))))))))))))))) rfl (.rd (.t (.t (.t (.t (.t (.t (.t (.t (.t (.t (.t (.t (.t (.t (.t (.t (.t (.t (.t (.t (.t (.t (.t (.t (.t (.t (.t (.t (.t (.t (.t (.t (.t (.t (.t (.t (.t (.t (.t (.t (.t (.t (.t (.t (.t .h))))))))))))))))))))))))))))))))))))))))))))) rfl (.rd (.t (.t (.t (.t (.t (.t (.t (.t (.t (.t (.t (.t (.t (.t (.t (.t (.t (.t (.t (.t (.t (.t (.t (.t (.t (.t (.t (.t (.t (.t (.t (.t (.t (.t (.t (.t (.t (.t (.t (.t (.t (.t (.t (.t (.t (.t .h)))))))))))))))))))))))))))))))))))))))))))))) rfl (.rd (.t (.t (.t (.t (.t (.t (.t (.t (.t (.t (.t (.t (.t (.t (.t (.t (.t (.t (.t (.t (.t (.t (.t (.t (.t (.t (.t (.t (.t (.t (.t (.t (.t (.t (.t (.t (.t (.t (.t (.t (.t (.t (.t (.t (.t (.t (.t .h))))))))))))))))))))))))))))))))))))))))))))))) rfl (.rd (.t (.t (.t (.t (.t (.t (.t (.t (.t (.t (.t (.t (.t (.t (.t (.t (.t (.t (.t (.t (.t (.t (.t (.t (.t (.t (.t (.t (.t (.t (.t (.t (.t (.t (.t (.t (.t (.t .h)))))))))))))))))))))))))))))))))))))) rfl (.rd (.t (.t (.t (.t (.t (.t (.t (.t (.t (.t (.t (.t (.t (.t (.t (.t (.t (.t (.t (.t (.t (.t (.t (.t (.t (.t (.t (.t (.t (.t (.t (.t (.t (.t (.t (.t (.t (.t (.t (.t (.t (.t (.t (.t (.t (.t (.t (.t .h)))))))))))))))))))))))))))))))))))))))))))))))) rfl (.cons (.t (.t (.t (.t (.t (.t (.t (.t (.t (.t (.t (.t (.t (.t (.t (.t (.t (.t (.t (.t (.t (.t (.t (.t (.t (.t (.t (.t .h)))))))))))))))))))))))))))) (.cons (.t (.t (.t (.t (.t (.t (.t .h))))))) (.cons (.t (.t (.t (.t (.t (.t .h)))))) (.cons (.t (.t (.t (.t (.t .h))))) (.cons (.t (.t (.t (.t .h)))) (.cons (.t (.t (.t .h))) (.cons (.t (.t .h)) (.cons (.t .h) (.cons .h (.cons (.t (.t (.t (.t (.t (.t (.t (.t (.t (.t (.t (.t (.t (.t (.t (.t (.t (.t (.t .h))))))))))))))))))) (.cons (.t (.t (.t (.t (.t (.t (.t (.t (.t (.t (.t (.t (.t (.t (.t (.t (.t .h))))))))))))))))) (.cons (.t (.t (.t (.t (.t (.t (.t (.t (.t (.t (.t (.t (.t (.t (.t (.t .h)))))))))))))))) (.cons (.t (.t (.t (.t (.t (.t (.t (.t (.t (.t (.t (.t (.t (.t (.t .h))))))))))))))) (.cons (.t (.t (.t (.t (.t (.t (.t (.t (.t (.t (.t (.t (.t (.t .h)))))))))))))) (.cons (.t (.t (.t (.t (.t (.t (.t (.t (.t (.t (.t (.t (.t .h))))))))))))) (.cons (.t (.t (.t (.t (.t (.t (.t (.t (.t (.t (.t (.t .h)))))))))))) (.cons (.t (.t (.t (.t (.t (.t (.t (.t (.t (.t (.t .h))))))))))) (.cons (.t (.t (.t (.t (.t (.t (.t (.t (.t (.t .h)))))))))) (.cons (.t (.t (.t (.t (.t (.t (.t (.t (.t (.t .h)))))))))) (.cons (.t (.t (.t (.t (.t (.t (.t (.t (.t .h))))))))) (.cons (.t (.t (.t (.t (.t (.t (.t (.t .h)))))))) (.cons (.t (.t (.t (.t (.t (.t (.t .h))))))) (.cons (.t (.t (.t (.t (.t (.t .h)))))) (.cons (.t (.t (.t (.t (.t .h))))) (.cons (.t (.t (.t (.t .h)))) (.cons (.t (.t (.t .h))) (.cons (.t (.t .h)) (.cons (.t .h) (.cons .h .nil)))))))))))))))))))))))))))))))))))))))))⟩
  rintro _ _ ⟨c37, g101, rfl, rfl, hE⟩
  replace hF := hO32
  clear hO32
  try dsimp only at hF
  refine K_ent hE ?_
  refine CW_cond (b := c37) (.tmp rfl rfl) (fun hb100 => ?_) (fun hb100 => ?_)
  · rw [if_pos hb100] at hF
    refine K_region (C_val (V_assign (v := (.bool false)) (.bool _)) ?_)
    refine C_nil (CW_ret ?_)
    obtain rfl := Option.some.inj hF
    exact End_ret () (.tmp rfl rfl .nil) rfl (.sel .nil)
  rw [if_neg (by rw [hb100]; exact Bool.false_ne_true)] at hF
  refine CW_skip (K_in (K_draw [0, 1, 2, 3, 4] [0, 0, 2, 7, 15] [2, 3] mixed (by decide +kernel) ?_))
  refine D_atO rfl .no (.t (.t (.t (.t (.t (.t (.t (.t (.t (.t (.t (.t (.t (.t (.t (.t (.t (.t (.t (.t .h)))))))))))))))))))) (fun ha hp => V_loadBox ag51.h ty51.h.sz rfl (EN ha (.tmp rfl rfl) rfl) hp.2 rfl) ?_
  refine D_at rfl .no .h rfl (fun ha hp => V_loadBox ag34.h ty34.h.sz rfl (EN ha (.tmp rfl rfl) rfl) hp.2 rfl) ?_
  obtain ⟨r38, hx39, hF⟩ := bind_some hF
  refine D_act8 rfl rfl .no (.rd (.t .h) rfl (.rd (.t (.t .h)) rfl (.rd (.t (.t (.t .h))) rfl (.rd (.t (.t (.t (.t .h)))) rfl (.rd (.t (.t (.t (.t (.t .h))))) rfl (.rd (.t (.t (.t (.t (.t (.t .h)))))) rfl (.rd (.t (.t (.t (.t (.t (.t (.t .h))))))) rfl (.rd (.t (.t (.t (.t (.t (.t (.t (.t .h)))))))) rfl .nil)))))))) (.own (.t (.t (.t (.t (.t (.t (.t (.t (.t (.t (.t (.t (.t (.t (.t (.t (.t (.t (.t (.t .h)))))))))))))))))))) (fun _ h => h) .nil) (fun ha => X_callS cf7.h (.cons (EN ha (.tmp rfl rfl) rfl) .nil) (l_toMediator_ok a_aM v0_0 v0_1 v0_2 v0_3 v0_5 v0_8 v0_9 v0_11 _ hx39)) (fun p40 => ?_)
  obtain ⟨r41, hx42, hF⟩ := bind_some hF
  refine D_act16 rfl rfl .no (.cons (.t (.t (.t (.t (.t (.t (.t .h))))))) (.cons (.t (.t (.t (.t (.t (.t .h)))))) (.cons (.t (.t (.t (.t (.t .h))))) (.cons (.t (.t (.t (.t .h)))) (.cons (.t (.t (.t .h))) (.cons (.t (.t .h)) (.cons (.t .h) (.cons .h (.cons (.t (.t (.t (.t (.t (.t (.t (.t (.t (.t (.t (.t (.t (.t (.t (.t (.t (.t (.t (.t (.t (.t (.t (.t (.t (.t (.t (.t .h)))))))))))))))))))))))))))) (.cons (.t (.t (.t (.t (.t (.t (.t (.t (.t (.t (.t (.t (.t (.t (.t (.t (.t (.t (.t (.t (.t (.t (.t (.t (.t (.t (.t .h))))))))))))))))))))))))))) (.cons (.t (.t (.t (.t (.t (.t (.t (.t (.t (.t (.t (.t (.t (.t (.t (.t (.t (.t (.t (.t (.t (.t (.t (.t (.t (.t .h)))))))))))))))))))))))))) (.cons (.t (.t (.t (.t (.t (.t (.t (.t (.t (.t (.t (.t (.t (.t (.t (.t (.t (.t (.t (.t (.t (.t (.t (.t (.t .h))))))))))))))))))))))))) (.cons (.t (.t (.t (.t (.t (.t (.t (.t (.t (.t (.t (.t (.t (.t (.t (.t (.t (.t (.t (.t (.t (.t (.t (.t .h)))))))))))))))))))))))) (.cons (.t (.t (.t (.t (.t (.t (.t (.t (.t (.t (.t (.t (.t (.t (.t (.t (.t (.t (.t (.t (.t (.t (.t .h))))))))))))))))))))))) (.cons (.t (.t (.t (.t (.t (.t (.t (.t (.t (.t (.t (.t (.t (.t (.t (.t (.t (.t (.t (.t (.t (.t .h)))))))))))))))))))))) (.cons (.t (.t (.t (.t (.t (.t (.t (.t (.t (.t (.t (.t (.t (.t (.t (.t (.t (.t (.t (.t (.t .h))))))))))))))))))))) .nil)))))))))))))))) (.dep rfl .nil) (fun ha => XC_borL (pre := []) (.cons frz_own (.cons frz_own (.cons frz_own (.cons frz_own (.cons frz_own (.cons frz_own (.cons frz_own (.cons frz_own (.cons frz_own (.cons frz_own (.cons frz_own (.cons frz_own (.cons frz_own (.cons frz_own (.cons frz_own (.cons frz_own .nil)))))))))))))))) (fun _ => .nil) (X_callS cf10.h (.cons (EN ha (.tmp rfl rfl) rfl) (.cons (EN ha (.tmp rfl rfl) rfl) .nil)) (l_eqMediator_ok r19 p21.1 p21.2.2.1 p21.2.2.2.2.1 p21.2.2.2.2.2.2.1 p21.2.2.2.2.2.2.2.2.1 p21.2.2.2.2.2.2.2.2.2.2.1 p21.2.2.2.2.2.2.2.2.2.2.2.2.1 p21.2.2.2.2.2.2.2.2.2.2.2.2.2.2.1 r38 p40.1 p40.2.2.1 p40.2.2.2.2.1 p40.2.2.2.2.2.2.1 p40.2.2.2.2.2.2.2.2.1 p40.2.2.2.2.2.2.2.2.2.2.1 p40.2.2.2.2.2.2.2.2.2.2.2.2.1 p40.2.2.2.2.2.2.2.2.2.2.2.2.2.2.1 _ hx42))) (fun _ => ?_)
  refine D_val rfl .no (fun ha => V_not (b := r41) (EN ha (.tmp rfl rfl) rfl)) ?_
  refine D_nil (CW_cond (b := (!r41)) (.tmp rfl rfl) (fun hb99 => ?_) (fun hb99 => ?_))
  · rw [if_pos hb99] at hF
    refine K_region (C_val (V_assign (v := (.bool false)) (.bool _)) ?_)
    refine C_nil (CW_ret ?_)
    obtain rfl := Option.some.inj hF
    exact End_ret () (.tmp rfl rfl .nil) rfl (.sel .nil)
  rw [if_neg (by rw [hb99]; exact Bool.false_ne_true)] at hF
  refine CW_skip (K_in (K_draw [0, 1, 2, 3, 4] [0, 0, 2, 7, 15] [2, 3] mixed (by decide +kernel) ?_))
  refine D_atO rfl .no (.t (.t (.t (.t (.t (.t (.t (.t (.t (.t (.t (.t (.t (.t (.t (.t (.t (.t (.t (.t (.t (.t (.t (.t (.t (.t (.t (.t (.t (.t (.t (.t (.t (.t (.t (.t (.t .h))))))))))))))))))))))))))))))))))))) (fun ha hp => V_loadBox ag57.h ty57.h.sz rfl (EN ha (.tmp rfl rfl) rfl) hp.2 rfl) ?_
  refine D_at rfl .no (.t (.t (.t (.t (.t (.t (.t (.t (.t (.t (.t (.t (.t (.t (.t (.t (.t (.t (.t (.t (.t (.t (.t (.t (.t .h))))))))))))))))))))))))) rfl (fun ha hp => V_loadBox ag38.h ty38.h.sz rfl (EN ha (.tmp rfl rfl) rfl) hp.2 rfl) ?_
  obtain ⟨r44, hx45, hF⟩ := bind_some hF
  refine D_act1 rfl rfl .no (.rd (.t (.t (.t (.t (.t (.t (.t (.t (.t (.t (.t (.t (.t (.t (.t (.t (.t (.t (.t (.t (.t (.t (.t (.t (.t (.t .h)))))))))))))))))))))))))) rfl .nil) (.own (.t (.t (.t (.t (.t (.t (.t (.t (.t (.t (.t (.t (.t (.t (.t (.t (.t (.t (.t (.t (.t (.t (.t (.t (.t (.t (.t (.t (.t (.t (.t (.t (.t (.t (.t (.t (.t .h))))))))))))))))))))))))))))))))))))) (fun _ h => h) .nil) (fun ha => X_callS cf8.h (.cons (EN ha (.tmp rfl rfl) rfl) .nil) (l_toChange_ok a_aC v1_2 _ hx45)) (fun p46 => ?_)
  obtain ⟨r47, hx48, hF⟩ := bind_some hF
  refine D_act2 rfl rfl .no (.cons .h (.cons (.t (.t (.t (.t (.t (.t (.t (.t (.t (.t (.t (.t (.t (.t (.t (.t (.t (.t (.t (.t (.t (.t (.t (.t (.t (.t (.t (.t (.t (.t (.t (.t (.t (.t (.t (.t (.t (.t .h)))))))))))))))))))))))))))))))))))))) .nil)) (.dep rfl .nil) (fun ha => XC_borL (pre := []) (.cons frz_own (.cons frz_own .nil)) (fun _ => .nil) (X_callS cf11.h (.cons (EN ha (.tmp rfl rfl) rfl) (.cons (EN ha (.tmp rfl rfl) rfl) .nil)) (l_eqChange_ok r23 p25.1 r44 p46.1 _ hx48))) (fun _ => ?_)
  refine D_val rfl .no (fun ha => V_not (b := r47) (EN ha (.tmp rfl rfl) rfl)) ?_
  refine D_nil (CW_cond (b := (!r47)) (.tmp rfl rfl) (fun hb98 => ?_) (fun hb98 => ?_))
  · rw [if_pos hb98] at hF
    refine K_region (C_val (V_assign (v := (.bool false)) (.bool _)) ?_)
    refine C_nil (CW_ret ?_)
    obtain rfl := Option.some.inj hF
    exact End_ret () (.tmp rfl rfl .nil) rfl (.sel .nil)
  rw [if_neg (by rw [hb98]; exact Bool.false_ne_true)] at hF
  refine CW_skip (K_region (C_val (V_assign (v := (.int .i64 1)) (.int _ _)) ?_))
  refine C_nil (K_region (C_at (.t (.t (.t (.t (.t (.t (.t (.t (.t (.t (.t (.t (.t (.t (.t (.t (.t (.t (.t (.t (.t (.t (.t (.t (.t (.t (.t (.t (.t (.t (.t (.t (.t (.t (.t (.t (.t (.t .h)))))))))))))))))))))))))))))))))))))) (fun hp => V_loadBox ag51.h ty51.h.sz rfl (.tmp rfl rfl) hp.2 rfl) ?_))
  refine Cm (.int .i64 1) rfl rfl ?_
  obtain ⟨r50, hx51, hF⟩ := bind_some hF
  refine C_x8 (.cons (.t (.t (.t (.t (.t (.t (.t (.t (.t (.t (.t (.t (.t (.t (.t (.t (.t .h))))))))))))))))) (.cons (.t (.t (.t (.t (.t (.t (.t (.t (.t (.t (.t (.t (.t (.t (.t (.t .h)))))))))))))))) (.cons (.t (.t (.t (.t (.t (.t (.t (.t (.t (.t (.t (.t (.t (.t (.t .h))))))))))))))) (.cons (.t (.t (.t (.t (.t (.t (.t (.t (.t (.t (.t (.t (.t (.t .h)))))))))))))) (.cons (.t (.t (.t (.t (.t (.t (.t (.t (.t (.t (.t (.t (.t .h))))))))))))) (.cons (.t (.t (.t (.t (.t (.t (.t (.t (.t (.t (.t (.t .h)))))))))))) (.cons (.t (.t (.t (.t (.t (.t (.t (.t (.t (.t (.t .h))))))))))) (.cons (.t (.t (.t (.t (.t (.t (.t (.t (.t (.t .h)))))))))) .nil)))))))) (X_callS cf12.h (.cons (.tmp rfl rfl) (.cons (.tmp rfl rfl) .nil)) (l_markMediator_ok r19 p21.1 p21.2.1 p21.2.2.1 p21.2.2.2.1 p21.2.2.2.2.1 p21.2.2.2.2.2.1 p21.2.2.2.2.2.2.1 p21.2.2.2.2.2.2.2.1 p21.2.2.2.2.2.2.2.2.1 p21.2.2.2.2.2.2.2.2.2.1 p21.2.2.2.2.2.2.2.2.2.2.1 p21.2.2.2.2.2.2.2.2.2.2.2.1 p21.2.2.2.2.2.2.2.2.2.2.2.2.1 p21.2.2.2.2.2.2.2.2.2.2.2.2.2.1 p21.2.2.2.2.2.2.2.2.2.2.2.2.2.2.1 p21.2.2.2.2.2.2.2.2.2.2.2.2.2.2.2 1 _ hx51)) (fun p52 => ?_)
  refine Ca (.int .i64 r50.1) rfl rfl ?_
  refine C_nil (K_region (C_at (.t (.t (.t (.t (.t (.t (.t (.t (.t (.t (.t (.t (.t (.t (.t (.t (.t (.t (.t (.t (.t (.t (.t (.t (.t (.t (.t (.t (.t (.t (.t (.t (.t (.t (.t (.t (.t (.t (.t .h))))))))))))))))))))))))))))))))))))))) (fun hp => V_loadBox ag57.h ty57.h.sz rfl (.tmp rfl rfl) hp.2 rfl) ?_))
  refine Cm (.int .i64 r50.1) rfl rfl ?_
  obtain ⟨r53, hx54, hF⟩ := bind_some hF
  refine C_x1 (.cons (.t (.t (.t (.t (.t (.t (.t (.t (.t .h))))))))) .nil) (X_callS cf13.h (.cons (.tmp rfl rfl) (.cons (.tmp rfl rfl) .nil)) (l_markChange_ok r23 p25.1 p25.2 r50.1 _ hx54)) (fun p55 => ?_)
  refine Ca (.int .i64 r53.1) rfl rfl ?_
  refine C_nil (K_in ?_)
  obtain ⟨o56, hio56, hO57⟩ := bind_some hF
  refine K_region (C_cut (fun f' cs' => ∃ (c63 : Bool) (g : Fr), c63 = o56 ∧ f' = updL g [(2, (.pointer (some ⟨k1, 0, some 0⟩))), (3, (.pointer (some ⟨k2, 0, some 0⟩))), (6, (.pointer (some ⟨k9, 0, some 0⟩))), (7, (.bool r16.2)), (10, (.pointer (some ⟨k30, 0, some 0⟩))), (82, (.bool c63))] ∧ Ent cs' [cboR k1 34 (.agg [v0_0.v, v0_1.v, v0_2.v, v0_3.v, (.int .i64 a_aM.Source.Version), v0_5.v, (.int .i64 a_aM.Cache.Age), (.int .i64 a_aM.Now), v0_8.v, v0_9.v, (.int .i64 a_aM.Spent), v0_11.v].toArray), crd (RdS 3 rdInt) v0_0.v a_aM.Schema, crd (RdS 100 rd100) v0_1.v a_aM.Methods, crd (RdS 103 rd103) v0_2.v a_aM.Rules, crd (RdS 36 rd36) v0_3.v a_aM.Source.Facts, crd (RdS 153 rd153) v0_5.v a_aM.Cache.Entries, crd (RdS 108 rd108) v0_8.v a_aM.Log, crd (RdS 3 rdInt) v0_9.v a_aM.Times, crd (RdS 110 (RdS 22 (RdS 3 rdInt))) v0_11.v a_aM.Results, cboR k2 38 (.agg [(.bool a_aC.Add), (.int .i64 a_aC.Fact.Rel), v1_2.v].toArray), crd (RdS 3 rdInt) v1_2.v a_aC.Fact.Values, cbox k9 51 (.agg [p18.1.v, p18.2.2.1.v, p18.2.2.2.2.1.v, p18.2.2.2.2.2.2.1.v, (.int .i64 r16.1.Source.Version), p18.2.2.2.2.2.2.2.2.1.v, (.int .i64 r16.1.Cache.Age), (.int .i64 r16.1.Now), p18.2.2.2.2.2.2.2.2.2.2.1.v, p18.2.2.2.2.2.2.2.2.2.2.2.2.1.v, (.int .i64 r16.1.Spent), p18.2.2.2.2.2.2.2.2.2.2.2.2.2.2.1.v].toArray), cown (OwnS 3 (roE rdInt)) p18.2.1 p18.1.v r16.1.Schema, cown (OwnS 114 ow114) p18.2.2.2.1 p18.2.2.1.v r16.1.Methods, cown (OwnS 116 ow116) p18.2.2.2.2.2.1 p18.2.2.2.2.1.v r16.1.Rules, cown (OwnS 55 ow55) p18.2.2.2.2.2.2.2.1 p18.2.2.2.2.2.2.1.v r16.1.Source.Facts, cown (OwnS 156 ow156) p18.2.2.2.2.2.2.2.2.2.1 p18.2.2.2.2.2.2.2.2.1.v r16.1.Cache.Entries, cown (OwnS 124 ow124) p18.2.2.2.2.2.2.2.2.2.2.2.1 p18.2.2.2.2.2.2.2.2.2.2.1.v r16.1.Log, cown (OwnS 3 (roE rdInt)) p18.2.2.2.2.2.2.2.2.2.2.2.2.2.1 p18.2.2.2.2.2.2.2.2.2.2.2.2.1.v r16.1.Times, cown (OwnS 110 (OwnS 22 (OwnS 3 (roE rdInt)))) p18.2.2.2.2.2.2.2.2.2.2.2.2.2.2.2 p18.2.2.2.2.2.2.2.2.2.2.2.2.2.2.1.v r16.1.Results, cbox k30 51 (.agg [p29.1.v, p29.2.2.1.v, p29.2.2.2.2.1.v, p29.2.2.2.2.2.2.1.v, (.int .i64 r27.1.Source.Version), p29.2.2.2.2.2.2.2.2.1.v, (.int .i64 r27.1.Cache.Age), (.int .i64 r27.1.Now), p29.2.2.2.2.2.2.2.2.2.2.1.v, p29.2.2.2.2.2.2.2.2.2.2.2.2.1.v, (.int .i64 r27.1.Spent), p29.2.2.2.2.2.2.2.2.2.2.2.2.2.2.1.v].toArray), cown (OwnS 3 (roE rdInt)) p29.2.1 p29.1.v r27.1.Schema, cown (OwnS 114 ow114) p29.2.2.2.1 p29.2.2.1.v r27.1.Methods, cown (OwnS 116 ow116) p29.2.2.2.2.2.1 p29.2.2.2.2.1.v r27.1.Rules, cown (OwnS 55 ow55) p29.2.2.2.2.2.2.2.1 p29.2.2.2.2.2.2.1.v r27.1.Source.Facts, cown (OwnS 156 ow156) p29.2.2.2.2.2.2.2.2.2.1 p29.2.2.2.2.2.2.2.2.1.v r27.1.Cache.Entries, cown (OwnS 124 ow124) p29.2.2.2.2.2.2.2.2.2.2.2.1 p29.2.2.2.2.2.2.2.2.2.2.1.v r27.1.Log, cown (OwnS 3 (roE rdInt)) p29.2.2.2.2.2.2.2.2.2.2.2.2.2.1 p29.2.2.2.2.2.2.2.2.2.2.2.2.1.v r27.1.Times, cown (OwnS 110 (OwnS 22 (OwnS 3 (roE rdInt)))) p29.2.2.2.2.2.2.2.2.2.2.2.2.2.2.2 p29.2.2.2.2.2.2.2.2.2.2.2.2.2.2.1.v r27.1.Results]) ?_ ?_)
  · replace hF := hio56
    refine Cm (.int .i64 r53.1) rfl rfl ?_
    refine C_val (V_lss (i := r53.1) (j := 0) (.tmp rfl rfl) (.int _ _)) ?_
    refine Cm (.bool (decide ((r53.1 : Int) < 0))) rfl rfl ?_
    rcases Bool.eq_false_or_eq_true (decide ((r53.1 : Int) < 0)) with hg58 | hg58
    · rw [hg58]
      try rw [hg58] at hF; dsimp only [cond_true, cond_false] at hF
      iterate 4 refine C_off (t := 72) rfl rfl rfl ?_
      refine C_val (V_pick (b := true) (u := (.bool true)) (v := undef) (.tmp rfl rfl) (.bool _) (.tmp rfl rfl)) ?_
      refine Cm (.bool true) rfl rfl ?_
      iterate 3 refine C_off (t := 78) rfl rfl rfl ?_
      refine C_val (V_pick (b := true) (u := (.bool true)) (v := undef) (.tmp rfl rfl) (.bool _) (.tmp rfl rfl)) ?_
      refine C_nil ?_
      obtain rfl := Option.some.inj hF
      exact ⟨_, _, rfl, (EqL.cons rfl (EqL.cons rfl (EqL.cons rfl (EqL.cons rfl (EqL.cons rfl (EqL.cons rfl (EqL.nil))))))).eq, (.sel (.rd (.t (.t (.t (.t (.t (.t (.t (.t (.t (.t (.t (.t (.t (.t (.t (.t (.t (.t .h)))))))))))))))))) rfl (.rd (.t (.t (.t (.t (.t (.t (.t (.t (.t (.t (.t (.t (.t (.t (.t (.t (.t (.t (.t .h))))))))))))))))))) rfl (.rd (.t (.t (.t (.t (.t (.t (.t (.t (.t (.t (.t (.t (.t (.t (.t (.t (.t (.t (.t (.t .h)))))))))))))))))))) rfl (.rd (.t (.t (.t (.t (.t (.t (.t (.t (.t (.t (.t (.t (.t (.t (.t (.t (.t (.t (.t (.t (.t .h))))))))))))))))))))) rfl (.rd (.t (.t (.t (.t (.t (.t (.t (.t (.t (.t (.t (.t (.t (.t (.t (.t (.t (.t (.t (.t (.t (.t .h)))))))))))))))))))))) rfl (.rd (.t (.t (.t (.t (.t (.t (.t (.t (.t (.t (.t (.t (.t (.t (.t (.t (.t (.t (.t (.t (.t (.t (.t .h))))))))))))))))))))))) rfl (.rd (.t (.t (.t (.t (.t (.t (.t (.t (.t (.t (.t (.t (.t (.t (.t (.t (.t (.t (.t (.t (.t (.t (.t (.t .h)))))))))))))))))))))))) rfl (.rd (.t (.t (.t (.t (.t (.t (.t (.t (.t (.t (.t (.t (.t (.t (.t (.t (.t (.t (.t (.t (.t (.t (.t (.t (.t .h))))))))))))))))))))))))) rfl (.rd (.t (.t (.t (.t (.t (.t (.t (.t (.t (.t (.t (.t (.t (.t (.t (.t (.t (.t (.t (.t (.t (.t (.t (.t (.t (.t .h)))))))))))))))))))))))))) rfl (.rd (.t (.t (.t (.t (.t (.t (.t (.t (.t (.t (.t (.t (.t (.t (.t (.t (.t (.t (.t (.t (.t (.t (.t (.t (.t (.t (.t .h))))))))))))))))))))))))))) rfl (.rd (.t (.t (.t (.t (.t (.t (.t (.t (.t (.t (.t (.t (.t (.t (.t (.t (.t (.t (.t (.t (.t (.t (.t (.t (.t (.t (.t (.t .h)))))))))))))))))))))))))))) rfl (.cons (.t (.t (.t (.t (.t (.t (.t (.t (.t (.t (.t (.t (.t (.t (.t (.t (.t (.t (.t (.t (.t (.t (.t (.t (.t (.t (.t (.t (.t .h))))))))))))))))))))))))))))) (.cons (.t (.t (.t (.t (.t (.t (.t (.t (.t (.t (.t (.t (.t (.t (.t (.t (.t (.t (.t (.t (.t (.t (.t (.t (.t (.t (.t (.t (.t .h))))))))))))))))))))))))))))) (.cons (.t (.t (.t (.t (.t (.t (.t (.t (.t (.t (.t (.t (.t (.t (.t (.t (.t (.t (.t (.t (.t (.t (.t (.t (.t (.t (.t (.t (.t .h))))))))))))))))))))))))))))) (.cons (.t (.t (.t (.t (.t (.t (.t (.t (.t (.t (.t (.t (.t (.t (.t (.t (.t (.t (.t (.t (.t (.t (.t (.t (.t (.t (.t (.t (.t .h))))))))))))))))))))))))))))) (.cons (.t (.t (.t (.t (.t (.t (.t (.t (.t (.t (.t (.t (.t (.t (.t (.t (.t (.t (.t (.t (.t (.t (.t (.t (.t (.t (.t (.t (.t .h))))))))))))))))))))))))))))) (.cons (.t (.t (.t (.t (.t (.t (.t (.t (.t (.t (.t (.t (.t (.t (.t (.t (.t (.t (.t (.t (.t (.t (.t (.t (.t (.t (.t (.t (.t .h))))))))))))))))))))))))))))) (.cons (.t (.t (.t (.t (.t (.t (.t (.t (.t (.t (.t (.t (.t (.t (.t (.t (.t (.t (.t (.t (.t (.t (.t (.t (.t (.t (.t (.t (.t .h))))))))))))))))))))))))))))) (.cons (.t (.t (.t (.t (.t (.t (.t (.t (.t (.t (.t (.t (.t (.t (.t (.t (.t (.t (.t (.t (.t (.t (.t (.t (.t (.t (.t (.t (.t .h))))))))))))))))))))))))))))) (.cons (.t (.t (.t (.t (.t (.t (.t (.t (.t (.t (.t (.t (.t (.t (.t (.t (.t (.t (.t (.t (.t (.t (.t (.t (.t (.t (.t (.t (.t .h))))))))))))))))))))))))))))) (.cons (.t (.t (.t (.t (.t (.t (.t (.t (.t (.t (.t (.t (.t (.t (.t (.t (.t (.t (.t (.t (.t (.t (.t (.t (.t (.t (.t (.t (.t (.t (.t .h))))))))))))))))))))))))))))))) (.cons (.t (.t (.t (.t (.t (.t (.t (.t (.t (.t (.t (.t (.t (.t (.t (.t (.t (.t (.t (.t (.t (.t (.t (.t (.t (.t (.t (.t (.t (.t (.t .h))))))))))))))))))))))))))))))) (.cons (.t (.t (.t (.t (.t (.t (.t (.t (.t (.t (.t (.t (.t (.t (.t (.t (.t (.t (.t (.t (.t (.t (.t (.t (.t (.t (.t (.t (.t (.t (.t .h))))))))))))))))))))))))))))))) (.cons (.t (.t (.t (.t (.t (.t (.t (.t (.t (.t (.t (.t (.t (.t (.t (.t (.t (.t (.t (.t (.t (.t (.t (.t (.t (.t (.t (.t (.t (.t (.t .h))))))))))))))))))))))))))))))) (.cons (.t (.t (.t (.t (.t (.t (.t (.t (.t (.t (.t (.t (.t (.t (.t (.t (.t (.t (.t (.t (.t (.t (.t (.t (.t (.t (.t (.t (.t (.t (.t .h))))))))))))))))))))))))))))))) (.cons (.t (.t (.t (.t (.t (.t (.t (.t (.t (.t (.t (.t (.t (.t (.t (.t (.t (.t (.t (.t (.t (.t (.t (.t (.t (.t (.t (.t (.t (.t (.t .h))))))))))))))))))))))))))))))) (.cons (.t (.t (.t (.t (.t (.t (.t (.t (.t (.t (.t (.t (.t (.t (.t (.t (.t (.t (.t (.t (.t (.t (.t (.t (.t (.t (.t (.t (.t (.t (.t .h))))))))))))))))))))))))))))))) (.cons (.t (.t (.t (.t (.t (.t (.t (.t (.t (.t (.t (.t (.t (.t (.t (.t (.t (.t (.t (.t (.t (.t (.t (.t (.t (.t (.t (.t (.t (.t (.t .h))))))))))))))))))))))))))))))) (.cons (.t (.t (.t (.t (.t (.t (.t (.t (.t (.t (.t (.t (.t (.t (.t (.t (.t (.t (.t (.t (.t (.t (.t (.t (.t (.t (.t (.t (.t (.t (.t .h))))))))))))))))))))))))))))))) .nil))))))))))))))))))))))))))))))⟩
    rw [hg58]
    try rw [hg58] at hF; dsimp only [cond_true, cond_false] at hF
    refine C_on (t := 72) rfl rfl rfl ?_
    refine C_at (.t (.t (.t (.t (.t (.t (.t (.t (.t (.t (.t (.t (.t (.t (.t (.t (.t (.t (.t (.t (.t (.t (.t (.t (.t (.t (.t (.t (.t (.t (.t (.t (.t (.t (.t (.t (.t (.t (.t (.t .h)))))))))))))))))))))))))))))))))))))))) (fun hp => V_loadBox ag51.h ty51.h.sz rfl (.tmp rfl rfl) hp.2 rfl) ?_
    refine C_on (t := 72) rfl rfl rfl ?_
    refine C_at (.t (.t (.t (.t (.t (.t (.t (.t (.t (.t (.t (.t (.t (.t (.t (.t (.t (.t (.t (.t (.t (.t (.t (.t (.t (.t (.t (.t (.t .h))))))))))))))))))))))))))))) (fun hp => V_loadBox ag51.h ty51.h.sz rfl (.tmp rfl rfl) hp.2 rfl) ?_
    refine C_on (t := 72) rfl rfl rfl ?_
    obtain ⟨r59, hx60, hF⟩ := bind_some hF
    refine C_x16 (.cons (.t (.t (.t (.t (.t (.t (.t (.t (.t (.t (.t (.t (.t (.t (.t (.t (.t (.t (.t (.t (.t (.t (.t (.t (.t (.t (.t (.t (.t (.t (.t (.t (.t (.t (.t (.t (.t .h))))))))))))))))))))))))))))))))))))) (.cons (.t (.t (.t (.t (.t (.t (.t (.t (.t (.t (.t (.t (.t (.t (.t (.t (.t (.t (.t (.t (.t (.t (.t (.t (.t (.t (.t (.t (.t (.t (.t (.t (.t (.t (.t (.t .h)))))))))))))))))))))))))))))))))))) (.cons (.t (.t (.t (.t (.t (.t (.t (.t (.t (.t (.t (.t (.t (.t (.t (.t (.t (.t (.t (.t (.t (.t (.t (.t (.t (.t (.t (.t (.t (.t (.t (.t (.t (.t (.t .h))))))))))))))))))))))))))))))))))) (.cons (.t (.t (.t (.t (.t (.t (.t (.t (.t (.t (.t (.t (.t (.t (.t (.t (.t (.t (.t (.t (.t (.t (.t (.t (.t (.t (.t (.t (.t (.t (.t (.t (.t (.t .h)))))))))))))))))))))))))))))))))) (.cons (.t (.t (.t (.t (.t (.t (.t (.t (.t (.t (.t (.t (.t (.t (.t (.t (.t (.t (.t (.t (.t (.t (.t (.t (.t (.t (.t (.t (.t (.t (.t (.t (.t .h))))))))))))))))))))))))))))))))) (.cons (.t (.t (.t (.t (.t (.t (.t (.t (.t (.t (.t (.t (.t (.t (.t (.t (.t (.t (.t (.t (.t (.t (.t (.t (.t (.t (.t (.t (.t (.t (.t (.t .h)))))))))))))))))))))))))))))))) (.cons (.t (.t (.t (.t (.t (.t (.t (.t (.t (.t (.t (.t (.t (.t (.t (.t (.t (.t (.t (.t (.t (.t (.t (.t (.t (.t (.t (.t (.t (.t (.t .h))))))))))))))))))))))))))))))) (.cons (.t (.t (.t (.t (.t (.t (.t (.t (.t (.t (.t (.t (.t (.t (.t (.t (.t (.t (.t (.t (.t (.t (.t (.t (.t (.t (.t (.t (.t (.t .h)))))))))))))))))))))))))))))) (.cons (.t (.t (.t (.t (.t (.t (.t (.t (.t (.t (.t (.t (.t (.t (.t (.t (.t (.t (.t (.t (.t (.t (.t (.t (.t (.t (.t (.t (.t (.t (.t (.t (.t (.t (.t (.t (.t (.t (.t (.t .h)))))))))))))))))))))))))))))))))))))))) (.cons (.t (.t (.t (.t (.t (.t (.t (.t (.t (.t (.t (.t (.t (.t (.t (.t (.t (.t (.t (.t (.t (.t (.t (.t (.t (.t (.t (.t (.t (.t (.t (.t (.t (.t (.t (.t (.t (.t (.t .h))))))))))))))))))))))))))))))))))))))) (.cons (.t (.t (.t (.t (.t (.t (.t (.t (.t (.t (.t (.t (.t (.t (.t (.t (.t (.t (.t (.t (.t (.t (.t (.t (.t (.t (.t (.t (.t (.t (.t (.t (.t (.t (.t (.t (.t (.t .h)))))))))))))))))))))))))))))))))))))) (.cons (.t (.t (.t (.t (.t (.t (.t (.t (.t (.t (.t (.t (.t (.t (.t (.t (.t (.t (.t (.t (.t (.t (.t (.t (.t (.t (.t (.t (.t (.t (.t (.t (.t (.t (.t (.t (.t .h))))))))))))))))))))))))))))))))))))) (.cons (.t (.t (.t (.t (.t (.t (.t (.t (.t (.t (.t (.t (.t (.t (.t (.t (.t (.t (.t (.t (.t (.t (.t (.t (.t (.t (.t (.t (.t (.t (.t (.t (.t (.t (.t (.t .h)))))))))))))))))))))))))))))))))))) (.cons (.t (.t (.t (.t (.t (.t (.t (.t (.t (.t (.t (.t (.t (.t (.t (.t (.t (.t (.t (.t (.t (.t (.t (.t (.t (.t (.t (.t (.t (.t (.t (.t (.t (.t (.t .h))))))))))))))))))))))))))))))))))) (.cons (.t (.t (.t (.t (.t (.t (.t (.t (.t (.t (.t (.t (.t (.t (.t (.t (.t (.t (.t (.t (.t (.t (.t (.t (.t (.t (.t (.t (.t (.t (.t (.t (.t (.t .h)))))))))))))))))))))))))))))))))) (.cons (.t (.t (.t (.t (.t (.t (.t (.t (.t (.t (.t (.t (.t (.t (.t (.t (.t (.t (.t (.t (.t (.t (.t (.t (.t (.t (.t (.t (.t (.t (.t (.t (.t .h))))))))))))))))))))))))))))))))) .nil)))))))))))))))) (XC_borL (pre := []) (.cons frz_own (.cons frz_own (.cons frz_own (.cons frz_own (.cons frz_own (.cons frz_own (.cons frz_own (.cons frz_own (.cons frz_own (.cons frz_own (.cons frz_own (.cons frz_own (.cons frz_own (.cons frz_own (.cons frz_own (.cons frz_own .nil)))))))))))))))) (fun _ => .nil) (X_callS cf10.h (.cons (.tmp rfl rfl) (.cons (.tmp rfl rfl) .nil)) (l_eqMediator_ok r27.1 p29.1 p29.2.2.1 p29.2.2.2.2.1 p29.2.2.2.2.2.2.1 p29.2.2.2.2.2.2.2.2.1 p29.2.2.2.2.2.2.2.2.2.2.1 p29.2.2.2.2.2.2.2.2.2.2.2.2.1 p29.2.2.2.2.2.2.2.2.2.2.2.2.2.2.1 r16.1 p18.1 p18.2.2.1 p18.2.2.2.2.1 p18.2.2.2.2.2.2.1 p18.2.2.2.2.2.2.2.2.1 p18.2.2.2.2.2.2.2.2.2.2.1 p18.2.2.2.2.2.2.2.2.2.2.2.2.1 p18.2.2.2.2.2.2.2.2.2.2.2.2.2.2.1 _ hx60))) (fun _ => ?_)
    refine C_on (t := 72) rfl rfl rfl ?_
    refine C_val (V_not (b := r59) (.tmp rfl rfl)) ?_
    refine C_val (V_pick (b := false) (u := (.bool true)) (v := (.bool (!r59))) (.tmp rfl rfl) (.bool _) (.tmp rfl rfl)) ?_
    refine Cm (.bool (!r59)) rfl rfl ?_
    rcases Bool.eq_false_or_eq_true (!r59) with hg62 | hg62
    · rw [hg62]
      try rw [hg62] at hF; dsimp only [cond_true, cond_false] at hF
      iterate 3 refine C_off (t := 78) rfl rfl rfl ?_
      refine C_val (V_pick (b := true) (u := (.bool true)) (v := undef) (.tmp rfl rfl) (.bool _) (.tmp rfl rfl)) ?_
      refine C_nil ?_
      obtain rfl := Option.some.inj hF
      exact ⟨_, _, rfl, (EqL.cons rfl (EqL.cons rfl (EqL.cons rfl (EqL.cons rfl (EqL.cons rfl (EqL.cons rfl (EqL.nil))))))).eq, (.sel (.rd (.t (.t (.t (.t (.t (.t (.t (.t (.t (.t (.t (.t (.t (.t (.t (.t (.t (.t (.t (.t (.t (.t (.t (.t (.t (.t (.t (.t (.t (.t (.t (.t (.t (.t .h)))))))))))))))))))))))))))))))))) rfl (.rd (.t (.t (.t (.t (.t (.t (.t (.t (.t (.t (.t (.t (.t (.t (.t (.t (.t (.t (.t (.t (.t (.t (.t (.t (.t (.t (.t (.t (.t (.t (.t (.t (.t (.t (.t .h))))))))))))))))))))))))))))))))))) rfl (.rd (.t (.t (.t (.t (.t (.t (.t (.t (.t (.t (.t (.t (.t (.t (.t (.t (.t (.t (.t (.t (.t (.t (.t (.t (.t (.t (.t (.t (.t (.t (.t (.t (.t (.t (.t (.t .h)))))))))))))))))))))))))))))))))))) rfl (.rd (.t (.t (.t (.t (.t (.t (.t (.t (.t (.t (.t (.t (.t (.t (.t (.t (.t (.t (.t (.t (.t (.t (.t (.t (.t (.t (.t (.t (.t (.t (.t (.t (.t (.t (.t (.t (.t .h))))))))))))))))))))))))))))))))))))) rfl (.rd (.t (.t (.t (.t (.t (.t (.t (.t (.t (.t (.t (.t (.t (.t (.t (.t (.t (.t (.t (.t (.t (.t (.t (.t (.t (.t (.t (.t (.t (.t (.t (.t (.t (.t (.t (.t (.t (.t .h)))))))))))))))))))))))))))))))))))))) rfl (.rd (.t (.t (.t (.t (.t (.t (.t (.t (.t (.t (.t (.t (.t (.t (.t (.t (.t (.t (.t (.t (.t (.t (.t (.t (.t (.t (.t (.t (.t (.t (.t (.t (.t (.t (.t (.t (.t (.t (.t .h))))))))))))))))))))))))))))))))))))))) rfl (.rd (.t (.t (.t (.t (.t (.t (.t (.t (.t (.t (.t (.t (.t (.t (.t (.t (.t (.t (.t (.t (.t (.t (.t (.t (.t (.t (.t (.t (.t (.t (.t (.t (.t (.t (.t (.t (.t (.t (.t (.t .h)))))))))))))))))))))))))))))))))))))))) rfl (.rd (.t (.t (.t (.t (.t (.t (.t (.t (.t (.t (.t (.t (.t (.t (.t (.t (.t (.t (.t (.t (.t (.t (.t (.t (.t (.t (.t (.t (.t (.t (.t (.t (.t (.t (.t (.t (.t (.t (.t (.t (.t .h))))))))))))))))))))))))))))))))))))))))) rfl (.rd (.t (.t (.t (.t (.t (.t (.t (.t (.t (.t (.t (.t (.t (.t (.t (.t (.t (.t (.t (.t (.t (.t (.t (.t (.t (.t (.t (.t (.t (.t (.t (.t (.t (.t (.t (.t (.t (.t (.t (.t (.t (.t .h)))))))))))))))))))))))))))))))))))))))))) rfl (.rd (.t (.t (.t (.t (.t (.t (.t (.t (.t (.t (.t (.t (.t (.t (.t (.t (.t (.t (.t (.t (.t (.t (.t (.t (.t (.t (.t (.t (.t (.t (.t (.t (.t (.t (.t (.t (.t (.t (.t (.t (.t (.t (.t .h))))))))))))))))))))))))))))))))))))))))))) rfl (.rd (.t (.t (.t (.t (.t (.t (.t (.t (.t (.t (.t (.t (.t (.t (.t (.t (.t (.t (.t (.t (.t (.t (.t (.t (.t (.t (.t (.t (.t (.t (.t (.t (.t (.t (.t (.t (.t (.t (.t (.t (.t (.t (.t (.t .h)))))))))))))))))))))))))))))))))))))))))))) rfl (.cons (.t (.t (.t (.t (.t (.t (.t (.t (.t (.t (.t (.t (.t (.t (.t (.t (.t (.t (.t (.t (.t (.t (.t (.t (.t (.t (.t (.t (.t (.t (.t (.t (.t (.t (.t (.t (.t (.t (.t (.t (.t (.t (.t (.t (.t .h))))))))))))))))))))))))))))))))))))))))))))) (.cons (.t (.t (.t (.t (.t (.t (.t .h))))))) (.cons (.t (.t (.t (.t (.t (.t .h)))))) (.cons (.t (.t (.t (.t (.t .h))))) (.cons (.t (.t (.t (.t .h)))) (.cons (.t (.t (.t .h))) (.cons (.t (.t .h)) (.cons (.t .h) (.cons .h (.cons (.t (.t (.t (.t (.t (.t (.t (.t (.t (.t (.t (.t (.t (.t (.t (.t (.t (.t (.t (.t (.t (.t (.t (.t (.t (.t (.t (.t (.t (.t (.t (.t (.t (.t (.t (.t (.t (.t (.t .h))))))))))))))))))))))))))))))))))))))) (.cons (.t (.t (.t (.t (.t (.t (.t .h))))))) (.cons (.t (.t (.t (.t (.t (.t .h)))))) (.cons (.t (.t (.t (.t (.t .h))))) (.cons (.t (.t (.t (.t .h)))) (.cons (.t (.t (.t .h))) (.cons (.t (.t .h)) (.cons (.t .h) (.cons .h .nil))))))))))))))))))))))))))))))⟩
    rw [hg62]
    try rw [hg62] at hF; dsimp only [cond_true, cond_false] at hF
    refine C_on (t := 78) rfl rfl rfl ?_
    refine Cm (.bool r27.2) rfl rfl ?_
    refine C_on (t := 78) rfl rfl rfl ?_
    refine Cm (.bool r16.2) rfl rfl ?_
    refine C_on (t := 78) rfl rfl rfl ?_
    refine C_val (V_neB (a := r27.2) (b := r16.2) Tryz.underlying4 (.tmp rfl rfl) (.tmp rfl rfl)) ?_
    refine C_val (V_pick (b := false) (u := (.bool true)) (v := (.bool (!(r27.2 == r16.2)))) (.tmp rfl rfl) (.bool _) (.tmp rfl rfl)) ?_
    refine C_nil ?_
    obtain rfl := Option.some.inj hF
    exact ⟨_, _, rfl, (EqL.cons rfl (EqL.cons rfl (EqL.cons rfl (EqL.cons rfl (EqL.cons rfl (EqL.cons rfl (EqL.nil))))))).eq, (.sel (.rd (.t (.t (.t (.t (.t (.t (.t (.t (.t (.t (.t (.t (.t (.t (.t (.t (.t (.t (.t (.t (.t (.t (.t (.t (.t (.t (.t (.t (.t (.t (.t (.t (.t (.t .h)))))))))))))))))))))))))))))))))) rfl (.rd (.t (.t (.t (.t (.t (.t (.t (.t (.t (.t (.t (.t (.t (.t (.t (.t (.t (.t (.t (.t (.t (.t (.t (.t (.t (.t (.t (.t (.t (.t (.t (.t (.t (.t (.t .h))))))))))))))))))))))))))))))))))) rfl (.rd (.t (.t (.t (.t (.t (.t (.t (.t (.t (.t (.t (.t (.t (.t (.t (.t (.t (.t (.t (.t (.t (.t (.t (.t (.t (.t (.t (.t (.t (.t (.t (.t (.t (.t (.t (.t .h)))))))))))))))))))))))))))))))))))) rfl (.rd (.t (.t (.t (.t (.t (.t (.t (.t (.t (.t (.t (.t (.t (.t (.t (.t (.t (.t (.t (.t (.t (.t (.t (.t (.t (.t (.t (.t (.t (.t (.t (.t (.t (.t (.t (.t (.t .h))))))))))))))))))))))))))))))))))))) rfl (.rd (.t (.t (.t (.t (.t (.t (.t (.t (.t (.t (.t (.t (.t (.t (.t (.t (.t (.t (.t (.t (.t (.t (.t (.t (.t (.t (.t (.t (.t (.t (.t (.t (.t (.t (.t (.t (.t (.t .h)))))))))))))))))))))))))))))))))))))) rfl (.rd (.t (.t (.t (.t (.t (.t (.t (.t (.t (.t (.t (.t (.t (.t (.t (.t (.t (.t (.t (.t (.t (.t (.t (.t (.t (.t (.t (.t (.t (.t (.t (.t (.t (.t (.t (.t (.t (.t (.t .h))))))))))))))))))))))))))))))))))))))) rfl (.rd (.t (.t (.t (.t (.t (.t (.t (.t (.t (.t (.t (.t (.t (.t (.t (.t (.t (.t (.t (.t (.t (.t (.t (.t (.t (.t (.t (.t (.t (.t (.t (.t (.t (.t (.t (.t (.t (.t (.t (.t .h)))))))))))))))))))))))))))))))))))))))) rfl (.rd (.t (.t (.t (.t (.t (.t (.t (.t (.t (.t (.t (.t (.t (.t (.t (.t (.t (.t (.t (.t (.t (.t (.t (.t (.t (.t (.t (.t (.t (.t (.t (.t (.t (.t (.t (.t (.t (.t (.t (.t (.t .h))))))))))))))))))))))))))))))))))))))))) rfl (.rd (.t (.t (.t (.t (.t (.t (.t (.t (.t (.t (.t (.t (.t (.t (.t (.t (.t (.t (.t (.t (.t (.t (.t (.t (.t (.t (.t (.t (.t (.t (.t (.t (.t (.t (.t (.t (.t (.t (.t (.t (.t (.t .h)))))))))))))))))))))))))))))))))))))))))) rfl (.rd (.t (.t (.t (.t (.t (.t (.t (.t (.t (.t (.t (.t (.t (.t (.t (.t (.t (.t (.t (.t (.t (.t (.t (.t (.t (.t (.t (.t (.t (.t (.t (.t (.t (.t (.t (.t (.t (.t (.t (.t (.t (.t (.t .h))))))))))))))))))))))))))))))))))))))))))) rfl (.rd (.t (.t (.t (.t (.t (.t (.t (.t (.t (.t (.t (.t (.t (.t (.t (.t (.t (.t (.t (.t (.t (.t (.t (.t (.t (.t (.t (.t (.t (.t (.t (.t (.t (.t (.t (.t (.t (.t (.t (.t (.t (.t (.t (.t .h)))))))))))))))))))))))))))))))))))))))))))) rfl (.cons (.t (.t (.t (.t (.t (.t (.t (.t (.t (.t (.t (.t (.t (.t (.t (.t (.t (.t (.t (.t (.t (.t (.t (.t (.t (.t (.t (.t (.t (.t (.t (.t (.t (.t (.t (.t (.t (.t (.t (.t (.t (.t (.t (.t (.t .h))))))))))))))))))))))))))))))))))))))))))))) (.cons (.t (.t (.t (.t (.t (.t (.t .h))))))) (.cons (.t (.t (.t (.t (.t (.t .h)))))) (.cons (.t (.t (.t (.t (.t .h))))) (.cons (.t (.t (.t (.t .h)))) (.cons (.t (.t (.t .h))) (.cons (.t (.t .h)) (.cons (.t .h) (.cons .h (.cons (.t (.t (.t (.t (.t (.t (.t (.t (.t (.t (.t (.t (.t (.t (.t (.t (.t (.t (.t (.t (.t (.t (.t (.t (.t (.t (.t (.t (.t (.t (.t (.t (.t (.t (.t (.t (.t (.t (.t .h))))))))))))))))))))))))))))))))))))))) (.cons (.t (.t (.t (.t (.t (.t (.t .h))))))) (.cons (.t (.t (.t (.t (.t (.t .h)))))) (.cons (.t (.t (.t (.t (.t .h))))) (.cons (.t (.t (.t (.t .h)))) (.cons (.t (.t (.t .h))) (.cons (.t (.t .h)) (.cons (.t .h) (.cons .h .nil))))))))))))))))))))))))))))))⟩
  rintro _ _ ⟨c63, g97, rfl, rfl, hE⟩
  replace hF := hO57
  clear hO57
  try dsimp only at hF
  refine K_ent hE ?_
  refine CW_cond (b := c63) (.tmp rfl rfl) (fun hb96 => ?_) (fun hb96 => ?_)
  · rw [if_pos hb96] at hF
    refine K_region (C_val (V_assign (v := (.bool false)) (.bool _)) ?_)
    refine C_nil (CW_ret ?_)
    obtain rfl := Option.some.inj hF
    exact End_ret () (.tmp rfl rfl .nil) rfl (.sel .nil)
  rw [if_neg (by rw [hb96]; exact Bool.false_ne_true)] at hF
  refine CW_skip (K_region (C_val (V_assign (v := (.int .i64 1)) (.int _ _)) ?_))
  refine C_nil (K_region (C_at (.t (.t (.t (.t (.t (.t (.t (.t (.t (.t (.t (.t (.t (.t (.t (.t (.t (.t (.t (.t .h)))))))))))))))))))) (fun hp => V_loadBox ag51.h ty51.h.sz rfl (.tmp rfl rfl) hp.2 rfl) ?_))
  refine Cm (.int .i64 1) rfl rfl ?_
  obtain ⟨r64, hx65, hF⟩ := bind_some hF
  refine C_x8 (.cons (.t (.t (.t (.t (.t (.t (.t (.t (.t (.t (.t (.t (.t (.t (.t (.t (.t (.t (.t (.t (.t .h))))))))))))))))))))) (.cons (.t (.t (.t (.t (.t (.t (.t (.t (.t (.t (.t (.t (.t (.t (.t (.t (.t (.t (.t (.t (.t .h))))))))))))))))))))) (.cons (.t (.t (.t (.t (.t (.t (.t (.t (.t (.t (.t (.t (.t (.t (.t (.t (.t (.t (.t (.t (.t .h))))))))))))))))))))) (.cons (.t (.t (.t (.t (.t (.t (.t (.t (.t (.t (.t (.t (.t (.t (.t (.t (.t (.t (.t (.t (.t .h))))))))))))))))))))) (.cons (.t (.t (.t (.t (.t (.t (.t (.t (.t (.t (.t (.t (.t (.t (.t (.t (.t (.t (.t (.t (.t .h))))))))))))))))))))) (.cons (.t (.t (.t (.t (.t (.t (.t (.t (.t (.t (.t (.t (.t (.t (.t (.t (.t (.t (.t (.t (.t .h))))))))))))))))))))) (.cons (.t (.t (.t (.t (.t (.t (.t (.t (.t (.t (.t (.t (.t (.t (.t (.t (.t (.t (.t (.t (.t .h))))))))))))))))))))) (.cons (.t (.t (.t (.t (.t (.t (.t (.t (.t (.t (.t (.t (.t (.t (.t (.t (.t (.t (.t (.t (.t .h))))))))))))))))))))) .nil)))))))) (X_callS cf12.h (.cons (.tmp rfl rfl) (.cons (.tmp rfl rfl) .nil)) (l_markMediator_ok r27.1 p29.1 p29.2.1 p29.2.2.1 p29.2.2.2.1 p29.2.2.2.2.1 p29.2.2.2.2.2.1 p29.2.2.2.2.2.2.1 p29.2.2.2.2.2.2.2.1 p29.2.2.2.2.2.2.2.2.1 p29.2.2.2.2.2.2.2.2.2.1 p29.2.2.2.2.2.2.2.2.2.2.1 p29.2.2.2.2.2.2.2.2.2.2.2.1 p29.2.2.2.2.2.2.2.2.2.2.2.2.1 p29.2.2.2.2.2.2.2.2.2.2.2.2.2.1 p29.2.2.2.2.2.2.2.2.2.2.2.2.2.2.1 p29.2.2.2.2.2.2.2.2.2.2.2.2.2.2.2 1 _ hx65)) (fun p66 => ?_)
  refine Ca (.int .i64 r64.1) rfl rfl ?_
  refine C_nil (K_region (C_val (V_assign (v := (.int .i64 1)) (.int _ _)) ?_))
  refine C_nil (K_region (C_at (.t (.t (.t (.t (.t (.t (.t (.t (.t (.t (.t (.t (.t (.t (.t (.t (.t (.t (.t (.t (.t (.t (.t (.t (.t (.t (.t (.t .h)))))))))))))))))))))))))))) (fun hp => V_loadBox ag51.h ty51.h.sz rfl (.tmp rfl rfl) hp.2 rfl) ?_))
  refine Cm (.int .i64 1) rfl rfl ?_
  obtain ⟨r67, hx68, hF⟩ := bind_some hF
  refine C_x8 (.cons (.t (.t (.t (.t (.t (.t (.t .h))))))) (.cons (.t (.t (.t (.t (.t (.t .h)))))) (.cons (.t (.t (.t (.t (.t .h))))) (.cons (.t (.t (.t (.t .h)))) (.cons (.t (.t (.t .h))) (.cons (.t (.t .h)) (.cons (.t .h) (.cons .h .nil)))))))) (XC_borL (pre := []) (.cons frz_own (.cons frz_own (.cons frz_own (.cons frz_own (.cons frz_own (.cons frz_own (.cons frz_own (.cons frz_own .nil)))))))) (fun _ => .nil) (X_callS cf14.h (.cons (.tmp rfl rfl) (.cons (.tmp rfl rfl) .nil)) (l_heldMediator_ok ({ Schema := r64.2.Schema, Methods := r64.2.Methods, Rules := r64.2.Rules, Source := ({ Facts := r64.2.Source.Facts, Version := r27.1.Source.Version } : Source), Cache := ({ Entries := r64.2.Cache.Entries, Age := r27.1.Cache.Age } : Cache), Now := r27.1.Now, Log := r64.2.Log, Times := r64.2.Times, Spent := r27.1.Spent, Results := r64.2.Results } : Mediator) p29.1 p29.2.2.1 p29.2.2.2.2.1 p29.2.2.2.2.2.2.1 p29.2.2.2.2.2.2.2.2.1 p29.2.2.2.2.2.2.2.2.2.2.1 p29.2.2.2.2.2.2.2.2.2.2.2.2.1 p29.2.2.2.2.2.2.2.2.2.2.2.2.2.2.1 1 _ hx68))) (fun _ => ?_)
  refine Ca (.int .i64 r67) rfl rfl ?_
  refine C_nil (K_in (K_region (Cm (.int .i64 r67) rfl rfl ?_)))
  refine C_val (V_lss (i := r67) (j := 0) (.tmp rfl rfl) (.int _ _)) ?_
  refine C_nil (CW_cond (b := (decide ((r67 : Int) < 0))) (.tmp rfl rfl) (fun hb95 => ?_) (fun hb95 => ?_))
  · rw [if_pos hb95] at hF
    refine K_region (C_val (V_assign (v := (.bool false)) (.bool _)) ?_)
    refine C_nil (CW_ret ?_)
    obtain rfl := Option.some.inj hF
    exact End_ret () (.tmp rfl rfl .nil) rfl (.sel .nil)
  rw [if_neg (by rw [hb95]; exact Bool.false_ne_true)] at hF
  refine CW_skip (K_in (K_region (Cm (.int .i64 r67) rfl rfl ?_)))
  refine Cm (.int .i64 r64.1) rfl rfl ?_
  refine C_val (V_neq (i := r67) (j := r64.1) (.tmp rfl rfl) (.tmp rfl rfl)) ?_
  refine C_nil (CW_cond (b := ((r67 : Int) != r64.1)) (.tmp rfl rfl) (fun hb94 => ?_) (fun hb94 => ?_))
  · rw [if_pos hb94] at hF
    refine K_region (C_val (V_assign (v := (.bool false)) (.bool _)) ?_)
    refine C_nil (CW_ret ?_)
    obtain rfl := Option.some.inj hF
    exact End_ret () (.tmp rfl rfl .nil) rfl (.sel .nil)
  rw [if_neg (by rw [hb94]; exact Bool.false_ne_true)] at hF
  refine CW_skip (K_draw [0, 2, 8, 1, 3, 4, 5, 6, 7, 9, 10] [0, 1, 0, 7, 15, 31, 63, 63, 0, 383, 1023] [1, 3, 4, 9] mixed (by decide +kernel) ?_)
  refine D_at rfl .no (.t (.t (.t (.t (.t (.t (.t (.t .h)))))))) rfl (fun ha hp => V_loadBox ag34.h ty34.h.sz rfl (EN ha (.tmp rfl rfl) rfl) hp.2 rfl) ?_
  refine D_at rfl .no (.t (.t (.t (.t (.t (.t (.t (.t (.t (.t (.t (.t (.t (.t (.t (.t (.t .h))))))))))))))))) rfl (fun ha hp => V_loadBox ag38.h ty38.h.sz rfl (EN ha (.tmp rfl rfl) rfl) hp.2 rfl) ?_
  refine D_new rfl .no rfl (fun ha => N_allocT (g := true) ty51.h rfl rfl) (fun k70 => ?_)
  obtain ⟨r71, hx72, hF⟩ := bind_some hF
  refine D_act8 rfl rfl .no (.rd (.t (.t (.t (.t (.t (.t (.t (.t (.t (.t .h)))))))))) rfl (.rd (.t (.t (.t (.t (.t (.t (.t (.t (.t (.t (.t .h))))))))))) rfl (.rd (.t (.t (.t (.t (.t (.t (.t (.t (.t (.t (.t (.t .h)))))))))))) rfl (.rd (.t (.t (.t (.t (.t (.t (.t (.t (.t (.t (.t (.t (.t .h))))))))))))) rfl (.rd (.t (.t (.t (.t (.t (.t (.t (.t (.t (.t (.t (.t (.t (.t .h)))))))))))))) rfl (.rd (.t (.t (.t (.t (.t (.t (.t (.t (.t (.t (.t (.t (.t (.t (.t .h))))))))))))))) rfl (.rd (.t (.t (.t (.t (.t (.t (.t (.t (.t (.t (.t (.t (.t (.t (.t (.t .h)))))))))))))))) rfl (.rd (.t (.t (.t (.t (.t (.t (.t (.t (.t (.t (.t (.t (.t (.t (.t (.t (.t .h))))))))))))))))) rfl .nil)))))))) (.own .h (fun _ h => h) .nil) (fun ha => X_callS cf7.h (.cons (EN ha (.tmp rfl rfl) rfl) .nil) (l_toMediator_ok a_aM v0_0 v0_1 v0_2 v0_3 v0_5 v0_8 v0_9 v0_11 _ hx72)) (fun p73 => ?_)
  obtain ⟨r74, hx75, hF⟩ := bind_some hF
  refine D_act1 rfl rfl .no (.rd (.t (.t (.t (.t (.t (.t (.t (.t (.t (.t (.t (.t (.t (.t (.t (.t (.t (.t (.t (.t (.t (.t (.t (.t (.t (.t (.t .h))))))))))))))))))))))))))) rfl .nil) (.own (.t (.t (.t (.t (.t (.t (.t (.t .h)))))))) (fun _ h => h) .nil) (fun ha => X_callS cf8.h (.cons (EN ha (.tmp rfl rfl) rfl) .nil) (l_toChange_ok a_aC v1_2 _ hx75)) (fun p76 => ?_)
  obtain ⟨r77, hx78, hF⟩ := bind_some hF
  refine D_act17 rfl rfl .no (.cons .h (.cons (.t (.t (.t (.t (.t (.t (.t .h))))))) (.cons (.t (.t (.t (.t (.t (.t .h)))))) (.cons (.t (.t (.t (.t (.t .h))))) (.cons (.t (.t (.t (.t .h)))) (.cons (.t (.t (.t .h))) (.cons (.t (.t .h)) (.cons (.t .h) (.cons .h .nil))))))))) (.own .h (fun _ h => h) .nil) (fun ha => XC_borL (pre := []) (.cons frz_own (.cons frz_own (.cons frz_own (.cons frz_own (.cons frz_own (.cons frz_own (.cons frz_own (.cons frz_own (.cons frz_own .nil))))))))) (fun _ => (.cons (.cons (.cons (.cons (.cons (.cons (.cons (.cons .nil))))))))) (X_callS cf9.h (.cons (EN ha (.tmp rfl rfl) rfl) (.cons (EN ha (.tmp rfl rfl) rfl) .nil)) (i_ChangeFact_ok r71 p73.1 p73.2.2.1 p73.2.2.2.2.1 p73.2.2.2.2.2.2.1 p73.2.2.2.2.2.2.2.2.1 p73.2.2.2.2.2.2.2.2.2.2.1 p73.2.2.2.2.2.2.2.2.2.2.2.2.1 p73.2.2.2.2.2.2.2.2.2.2.2.2.2.2.1 r74 p76.1 _ hx78))) (fun p79 => ?_)
  refine Dm (.tuple [(.agg [p79.1.v, p79.2.2.1.v, p79.2.2.2.2.1.v, p79.2.2.2.2.2.2.1.v, (.int .i64 r77.1.Source.Version), p79.2.2.2.2.2.2.2.2.1.v, (.int .i64 r77.1.Cache.Age), (.int .i64 r77.1.Now), p79.2.2.2.2.2.2.2.2.2.2.1.v, p79.2.2.2.2.2.2.2.2.2.2.2.2.1.v, (.int .i64 r77.1.Spent), p79.2.2.2.2.2.2.2.2.2.2.2.2.2.2.1.v].toArray), (.bool r77.2)].toArray) rfl rfl rfl rfl ?_
  refine D_val rfl .no (fun ha => V_extract (l := [(.agg [p79.1.v, p79.2.2.1.v, p79.2.2.2.2.1.v, p79.2.2.2.2.2.2.1.v, (.int .i64 r77.1.Source.Version), p79.2.2.2.2.2.2.2.2.1.v, (.int .i64 r77.1.Cache.Age), (.int .i64 r77.1.Now), p79.2.2.2.2.2.2.2.2.2.2.1.v, p79.2.2.2.2.2.2.2.2.2.2.2.2.1.v, (.int .i64 r77.1.Spent), p79.2.2.2.2.2.2.2.2.2.2.2.2.2.2.1.v].toArray), (.bool r77.2)]) (v := (.agg [p79.1.v, p79.2.2.1.v, p79.2.2.2.2.1.v, p79.2.2.2.2.2.2.1.v, (.int .i64 r77.1.Source.Version), p79.2.2.2.2.2.2.2.2.1.v, (.int .i64 r77.1.Cache.Age), (.int .i64 r77.1.Now), p79.2.2.2.2.2.2.2.2.2.2.1.v, p79.2.2.2.2.2.2.2.2.2.2.2.2.1.v, (.int .i64 r77.1.Spent), p79.2.2.2.2.2.2.2.2.2.2.2.2.2.2.1.v].toArray)) (EN ha (.tmp rfl rfl) rfl) rfl) ?_
  refine D_val rfl .no (fun ha => V_extract (l := [(.agg [p79.1.v, p79.2.2.1.v, p79.2.2.2.2.1.v, p79.2.2.2.2.2.2.1.v, (.int .i64 r77.1.Source.Version), p79.2.2.2.2.2.2.2.2.1.v, (.int .i64 r77.1.Cache.Age), (.int .i64 r77.1.Now), p79.2.2.2.2.2.2.2.2.2.2.1.v, p79.2.2.2.2.2.2.2.2.2.2.2.2.1.v, (.int .i64 r77.1.Spent), p79.2.2.2.2.2.2.2.2.2.2.2.2.2.2.1.v].toArray), (.bool r77.2)]) (v := (.bool r77.2)) (EN ha (.tmp rfl rfl) rfl) rfl) ?_
  refine D_act1 rfl rfl .no (.cons (.t (.t (.t (.t (.t (.t (.t (.t (.t (.t (.t (.t (.t (.t (.t (.t (.t .h))))))))))))))))) .nil) (.dep rfl .nil) (fun ha => X_storeB (e' := (.agg [p79.1.v, p79.2.2.1.v, p79.2.2.2.2.1.v, p79.2.2.2.2.2.2.1.v, (.int .i64 r77.1.Source.Version), p79.2.2.2.2.2.2.2.2.1.v, (.int .i64 r77.1.Cache.Age), (.int .i64 r77.1.Now), p79.2.2.2.2.2.2.2.2.2.2.1.v, p79.2.2.2.2.2.2.2.2.2.2.2.2.1.v, (.int .i64 r77.1.Spent), p79.2.2.2.2.2.2.2.2.2.2.2.2.2.2.1.v].toArray)) (v := (.agg [p79.1.v, p79.2.2.1.v, p79.2.2.2.2.1.v, p79.2.2.2.2.2.2.1.v, (.int .i64 r77.1.Source.Version), p79.2.2.2.2.2.2.2.2.1.v, (.int .i64 r77.1.Cache.Age), (.int .i64 r77.1.Now), p79.2.2.2.2.2.2.2.2.2.2.1.v, p79.2.2.2.2.2.2.2.2.2.2.2.2.1.v, (.int .i64 r77.1.Spent), p79.2.2.2.2.2.2.2.2.2.2.2.2.2.2.1.v].toArray)) ty51.h.sz (EN ha (.tmp rfl rfl) rfl) (EN ha (.tmp rfl rfl) rfl) rfl rfl rfl rfl rfl) (fun _ => ?_)
  refine Da (.bool r77.2) rfl rfl rfl rfl ?_
  refine D_nil (K_in ?_)
  obtain ⟨o80, hio80, hO81⟩ := bind_some hF
  refine K_region (C_cut (fun f' cs' => ∃ (c86 : Bool) (g : Fr), c86 = o80 ∧ f' = updL g [(10, (.pointer (some ⟨k30, 0, some 0⟩))), (13, (.int .i64 r64.1)), (110, (.bool c86))] ∧ Ent cs' [cbox k30 51 (.agg [p29.1.v, p29.2.2.1.v, p29.2.2.2.2.1.v, p29.2.2.2.2.2.2.1.v, (.int .i64 r27.1.Source.Version), p29.2.2.2.2.2.2.2.2.1.v, (.int .i64 r27.1.Cache.Age), (.int .i64 r27.1.Now), p29.2.2.2.2.2.2.2.2.2.2.1.v, p29.2.2.2.2.2.2.2.2.2.2.2.2.1.v, (.int .i64 r27.1.Spent), p29.2.2.2.2.2.2.2.2.2.2.2.2.2.2.1.v].toArray), cown (OwnS 3 (roE rdInt)) p66.1 p29.1.v r64.2.Schema, cown (OwnS 114 ow114) p66.2.1 p29.2.2.1.v r64.2.Methods, cown (OwnS 116 ow116) p66.2.2.1 p29.2.2.2.2.1.v r64.2.Rules, cown (OwnS 55 ow55) p66.2.2.2.1 p29.2.2.2.2.2.2.1.v r64.2.Source.Facts, cown (OwnS 156 ow156) p66.2.2.2.2.1 p29.2.2.2.2.2.2.2.2.1.v r64.2.Cache.Entries, cown (OwnS 124 ow124) p66.2.2.2.2.2.1 p29.2.2.2.2.2.2.2.2.2.2.1.v r64.2.Log, cown (OwnS 3 (roE rdInt)) p66.2.2.2.2.2.2.1 p29.2.2.2.2.2.2.2.2.2.2.2.2.1.v r64.2.Times, cown (OwnS 110 (OwnS 22 (OwnS 3 (roE rdInt)))) p66.2.2.2.2.2.2.2 p29.2.2.2.2.2.2.2.2.2.2.2.2.2.2.1.v r64.2.Results]) ?_ ?_)
  · replace hF := hio80
    refine C_at .h (fun hp => V_loadBox ag51.h ty51.h.sz rfl (.tmp rfl rfl) hp.2 rfl) ?_
    refine C_at (.t (.t (.t (.t (.t (.t (.t (.t (.t (.t (.t (.t (.t (.t (.t (.t (.t (.t (.t (.t (.t (.t (.t (.t (.t (.t (.t (.t (.t (.t (.t (.t (.t (.t (.t (.t (.t .h))))))))))))))))))))))))))))))))))))) (fun hp => V_loadBox ag51.h ty51.h.sz rfl (.tmp rfl rfl) hp.2 rfl) ?_
    obtain ⟨r82, hx83, hF⟩ := bind_some hF
    refine C_x16 (.cons (.t (.t (.t (.t (.t (.t (.t (.t (.t (.t (.t (.t (.t (.t (.t (.t (.t (.t (.t (.t (.t (.t (.t (.t (.t (.t (.t (.t (.t (.t (.t (.t (.t (.t (.t (.t (.t (.t (.t (.t (.t (.t (.t (.t (.t .h))))))))))))))))))))))))))))))))))))))))))))) (.cons (.t (.t (.t (.t (.t (.t (.t (.t (.t (.t (.t (.t (.t (.t (.t (.t (.t (.t (.t (.t (.t (.t (.t (.t (.t (.t (.t (.t (.t (.t (.t (.t (.t (.t (.t (.t (.t (.t (.t (.t (.t (.t (.t (.t .h)))))))))))))))))))))))))))))))))))))))))))) (.cons (.t (.t (.t (.t (.t (.t (.t (.t (.t (.t (.t (.t (.t (.t (.t (.t (.t (.t (.t (.t (.t (.t (.t (.t (.t (.t (.t (.t (.t (.t (.t (.t (.t (.t (.t (.t (.t (.t (.t (.t (.t (.t (.t .h))))))))))))))))))))))))))))))))))))))))))) (.cons (.t (.t (.t (.t (.t (.t (.t (.t (.t (.t (.t (.t (.t (.t (.t (.t (.t (.t (.t (.t (.t (.t (.t (.t (.t (.t (.t (.t (.t (.t (.t (.t (.t (.t (.t (.t (.t (.t (.t (.t (.t (.t .h)))))))))))))))))))))))))))))))))))))))))) (.cons (.t (.t (.t (.t (.t (.t (.t (.t (.t (.t (.t (.t (.t (.t (.t (.t (.t (.t (.t (.t (.t (.t (.t (.t (.t (.t (.t (.t (.t (.t (.t (.t (.t (.t (.t (.t (.t (.t (.t (.t (.t .h))))))))))))))))))))))))))))))))))))))))) (.cons (.t (.t (.t (.t (.t (.t (.t (.t (.t (.t (.t (.t (.t (.t (.t (.t (.t (.t (.t (.t (.t (.t (.t (.t (.t (.t (.t (.t (.t (.t (.t (.t (.t (.t (.t (.t (.t (.t (.t (.t .h)))))))))))))))))))))))))))))))))))))))) (.cons (.t (.t (.t (.t (.t (.t (.t (.t (.t (.t (.t (.t (.t (.t (.t (.t (.t (.t (.t (.t (.t (.t (.t (.t (.t (.t (.t (.t (.t (.t (.t (.t (.t (.t (.t (.t (.t (.t (.t .h))))))))))))))))))))))))))))))))))))))) (.cons (.t (.t (.t (.t (.t (.t (.t (.t (.t (.t (.t (.t (.t (.t (.t (.t (.t (.t (.t (.t (.t (.t (.t (.t (.t (.t (.t (.t (.t (.t (.t (.t (.t (.t (.t (.t (.t (.t .h)))))))))))))))))))))))))))))))))))))) (.cons (.t (.t (.t (.t (.t (.t (.t (.t (.t (.t (.t (.t (.t (.t (.t (.t (.t .h))))))))))))))))) (.cons (.t (.t (.t (.t (.t (.t (.t (.t (.t (.t (.t (.t (.t (.t (.t (.t .h)))))))))))))))) (.cons (.t (.t (.t (.t (.t (.t (.t (.t (.t (.t (.t (.t (.t (.t (.t .h))))))))))))))) (.cons (.t (.t (.t (.t (.t (.t (.t (.t (.t (.t (.t (.t (.t (.t .h)))))))))))))) (.cons (.t (.t (.t (.t (.t (.t (.t (.t (.t (.t (.t (.t (.t .h))))))))))))) (.cons (.t (.t (.t (.t (.t (.t (.t (.t (.t (.t (.t (.t .h)))))))))))) (.cons (.t (.t (.t (.t (.t (.t (.t (.t (.t (.t (.t .h))))))))))) (.cons (.t (.t (.t (.t (.t (.t (.t (.t (.t (.t .h)))))))))) .nil)))))))))))))))) (XC_borL (pre := []) (.cons frz_own (.cons frz_own (.cons frz_own (.cons frz_own (.cons frz_own (.cons frz_own (.cons frz_own (.cons frz_own (.cons frz_own (.cons frz_own (.cons frz_own (.cons frz_own (.cons frz_own (.cons frz_own (.cons frz_own (.cons frz_own .nil)))))))))))))))) (fun _ => .nil) (X_callS cf10.h (.cons (.tmp rfl rfl) (.cons (.tmp rfl rfl) .nil)) (l_eqMediator_ok r77.1 p79.1 p79.2.2.1 p79.2.2.2.2.1 p79.2.2.2.2.2.2.1 p79.2.2.2.2.2.2.2.2.1 p79.2.2.2.2.2.2.2.2.2.2.1 p79.2.2.2.2.2.2.2.2.2.2.2.2.1 p79.2.2.2.2.2.2.2.2.2.2.2.2.2.2.1 r16.1 p18.1 p18.2.2.1 p18.2.2.2.2.1 p18.2.2.2.2.2.2.1 p18.2.2.2.2.2.2.2.2.1 p18.2.2.2.2.2.2.2.2.2.2.1 p18.2.2.2.2.2.2.2.2.2.2.2.2.1 p18.2.2.2.2.2.2.2.2.2.2.2.2.2.2.1 _ hx83))) (fun _ => ?_)
    refine C_val (V_not (b := r82) (.tmp rfl rfl)) ?_
    refine Cm (.bool (!r82)) rfl rfl ?_
    rcases Bool.eq_false_or_eq_true (!r82) with hg85 | hg85
    · rw [hg85]
      try rw [hg85] at hF; dsimp only [cond_true, cond_false] at hF
      iterate 3 refine C_off (t := 106) rfl rfl rfl ?_
      refine C_val (V_pick (b := true) (u := (.bool true)) (v := undef) (.tmp rfl rfl) (.bool _) (.tmp rfl rfl)) ?_
      refine C_nil ?_
      obtain rfl := Option.some.inj hF
      exact ⟨_, _, rfl, (EqL.cons rfl (EqL.cons rfl (EqL.cons rfl (EqL.nil)))).eq, (.sel (.cons (.t (.t (.t (.t (.t (.t (.t (.t (.t (.t (.t (.t (.t (.t (.t (.t (.t (.t (.t (.t (.t (.t (.t (.t (.t (.t (.t (.t (.t (.t (.t (.t (.t (.t (.t (.t (.t (.t (.t (.t (.t (.t (.t (.t (.t (.t .h)))))))))))))))))))))))))))))))))))))))))))))) (.cons (.t (.t (.t (.t (.t (.t (.t (.t (.t (.t (.t (.t (.t (.t (.t (.t (.t (.t (.t (.t (.t (.t (.t (.t (.t (.t (.t (.t (.t (.t (.t (.t (.t .h))))))))))))))))))))))))))))))))) (.cons (.t (.t (.t (.t (.t (.t (.t (.t (.t (.t (.t (.t (.t (.t (.t (.t (.t (.t (.t (.t (.t (.t (.t (.t (.t (.t (.t (.t (.t (.t (.t (.t .h)))))))))))))))))))))))))))))))) (.cons (.t (.t (.t (.t (.t (.t (.t (.t (.t (.t (.t (.t (.t (.t (.t (.t (.t (.t (.t (.t (.t (.t (.t (.t (.t (.t (.t (.t (.t (.t (.t .h))))))))))))))))))))))))))))))) (.cons (.t (.t (.t (.t (.t (.t (.t (.t (.t (.t (.t (.t (.t (.t (.t (.t (.t (.t (.t (.t (.t (.t (.t (.t (.t (.t (.t (.t (.t (.t .h)))))))))))))))))))))))))))))) (.cons (.t (.t (.t (.t (.t (.t (.t (.t (.t (.t (.t (.t (.t (.t (.t (.t (.t (.t (.t (.t (.t (.t (.t (.t (.t (.t (.t (.t (.t .h))))))))))))))))))))))))))))) (.cons (.t (.t (.t (.t (.t (.t (.t (.t (.t (.t (.t (.t (.t (.t (.t (.t (.t (.t (.t (.t (.t (.t (.t (.t (.t (.t (.t (.t .h)))))))))))))))))))))))))))) (.cons (.t (.t (.t (.t (.t (.t (.t (.t (.t (.t (.t (.t (.t (.t (.t (.t (.t (.t (.t (.t (.t (.t (.t (.t (.t (.t (.t .h))))))))))))))))))))))))))) (.cons (.t (.t (.t (.t (.t (.t (.t (.t (.t (.t (.t (.t (.t (.t (.t (.t (.t (.t (.t (.t (.t (.t (.t (.t (.t (.t .h)))))))))))))))))))))))))) .nil))))))))))⟩
    rw [hg85]
    try rw [hg85] at hF; dsimp only [cond_true, cond_false] at hF
    refine C_on (t := 106) rfl rfl rfl ?_
    refine Cm (.bool r77.2) rfl rfl ?_
    refine C_on (t := 106) rfl rfl rfl ?_
    refine Cm (.bool r16.2) rfl rfl ?_
    refine C_on (t := 106) rfl rfl rfl ?_
    refine C_val (V_neB (a := r77.2) (b := r16.2) Tryz.underlying4 (.tmp rfl rfl) (.tmp rfl rfl)) ?_
    refine C_val (V_pick (b := false) (u := (.bool true)) (v := (.bool (!(r77.2 == r16.2)))) (.tmp rfl rfl) (.bool _) (.tmp rfl rfl)) ?_
    refine C_nil ?_
    obtain rfl := Option.some.inj hF
    exact ⟨_, _, rfl, (EqL.cons rfl (EqL.cons rfl (EqL.cons rfl (EqL.nil)))).eq, (.sel (.cons (.t (.t (.t (.t (.t (.t (.t (.t (.t (.t (.t (.t (.t (.t (.t (.t (.t (.t (.t (.t (.t (.t (.t (.t (.t (.t (.t (.t (.t (.t (.t (.t (.t (.t (.t (.t (.t (.t (.t (.t (.t (.t (.t (.t (.t (.t .h)))))))))))))))))))))))))))))))))))))))))))))) (.cons (.t (.t (.t (.t (.t (.t (.t (.t (.t (.t (.t (.t (.t (.t (.t (.t (.t (.t (.t (.t (.t (.t (.t (.t (.t (.t (.t (.t (.t (.t (.t (.t (.t .h))))))))))))))))))))))))))))))))) (.cons (.t (.t (.t (.t (.t (.t (.t (.t (.t (.t (.t (.t (.t (.t (.t (.t (.t (.t (.t (.t (.t (.t (.t (.t (.t (.t (.t (.t (.t (.t (.t (.t .h)))))))))))))))))))))))))))))))) (.cons (.t (.t (.t (.t (.t (.t (.t (.t (.t (.t (.t (.t (.t (.t (.t (.t (.t (.t (.t (.t (.t (.t (.t (.t (.t (.t (.t (.t (.t (.t (.t .h))))))))))))))))))))))))))))))) (.cons (.t (.t (.t (.t (.t (.t (.t (.t (.t (.t (.t (.t (.t (.t (.t (.t (.t (.t (.t (.t (.t (.t (.t (.t (.t (.t (.t (.t (.t (.t .h)))))))))))))))))))))))))))))) (.cons (.t (.t (.t (.t (.t (.t (.t (.t (.t (.t (.t (.t (.t (.t (.t (.t (.t (.t (.t (.t (.t (.t (.t (.t (.t (.t (.t (.t (.t .h))))))))))))))))))))))))))))) (.cons (.t (.t (.t (.t (.t (.t (.t (.t (.t (.t (.t (.t (.t (.t (.t (.t (.t (.t (.t (.t (.t (.t (.t (.t (.t (.t (.t (.t .h)))))))))))))))))))))))))))) (.cons (.t (.t (.t (.t (.t (.t (.t (.t (.t (.t (.t (.t (.t (.t (.t (.t (.t (.t (.t (.t (.t (.t (.t (.t (.t (.t (.t .h))))))))))))))))))))))))))) (.cons (.t (.t (.t (.t (.t (.t (.t (.t (.t (.t (.t (.t (.t (.t (.t (.t (.t (.t (.t (.t (.t (.t (.t (.t (.t (.t .h)))))))))))))))))))))))))) .nil))))))))))⟩
  rintro _ _ ⟨c86, g93, rfl, rfl, hE⟩
  replace hF := hO81
  clear hO81
  try dsimp only at hF
  refine K_ent hE ?_
  refine CW_cond (b := c86) (.tmp rfl rfl) (fun hb92 => ?_) (fun hb92 => ?_)
  · rw [if_pos hb92] at hF
    refine K_region (C_val (V_assign (v := (.bool false)) (.bool _)) ?_)
    refine C_nil (CW_ret ?_)
    obtain rfl := Option.some.inj hF
    exact End_ret () (.tmp rfl rfl .nil) rfl (.sel .nil)
  rw [if_neg (by rw [hb92]; exact Bool.false_ne_true)] at hF
  refine CW_skip (K_region (C_val (V_assign (v := (.int .i64 1)) (.int _ _)) ?_))
  refine C_nil (K_region (C_at .h (fun hp => V_loadBox ag51.h ty51.h.sz rfl (.tmp rfl rfl) hp.2 rfl) ?_))
  refine Cm (.int .i64 1) rfl rfl ?_
  obtain ⟨r87, hx88, hF⟩ := bind_some hF
  refine C_x8 (.cons (.t (.t (.t (.t (.t (.t (.t (.t .h)))))))) (.cons (.t (.t (.t (.t (.t (.t (.t .h))))))) (.cons (.t (.t (.t (.t (.t (.t .h)))))) (.cons (.t (.t (.t (.t (.t .h))))) (.cons (.t (.t (.t (.t .h)))) (.cons (.t (.t (.t .h))) (.cons (.t (.t .h)) (.cons (.t .h) .nil)))))))) (XC_borL (pre := []) (.cons frz_own (.cons frz_own (.cons frz_own (.cons frz_own (.cons frz_own (.cons frz_own (.cons frz_own (.cons frz_own .nil)))))))) (fun _ => .nil) (X_callS cf14.h (.cons (.tmp rfl rfl) (.cons (.tmp rfl rfl) .nil)) (l_heldMediator_ok ({ Schema := r64.2.Schema, Methods := r64.2.Methods, Rules := r64.2.Rules, Source := ({ Facts := r64.2.Source.Facts, Version := r27.1.Source.Version } : Source), Cache := ({ Entries := r64.2.Cache.Entries, Age := r27.1.Cache.Age } : Cache), Now := r27.1.Now, Log := r64.2.Log, Times := r64.2.Times, Spent := r27.1.Spent, Results := r64.2.Results } : Mediator) p29.1 p29.2.2.1 p29.2.2.2.2.1 p29.2.2.2.2.2.2.1 p29.2.2.2.2.2.2.2.2.1 p29.2.2.2.2.2.2.2.2.2.2.1 p29.2.2.2.2.2.2.2.2.2.2.2.2.1 p29.2.2.2.2.2.2.2.2.2.2.2.2.2.2.1 1 _ hx88))) (fun _ => ?_)
  refine Ca (.int .i64 r87) rfl rfl ?_
  refine C_nil (K_in (K_region (Cm (.int .i64 r87) rfl rfl ?_)))
  refine C_val (V_lss (i := r87) (j := 0) (.tmp rfl rfl) (.int _ _)) ?_
  refine C_nil (CW_cond (b := (decide ((r87 : Int) < 0))) (.tmp rfl rfl) (fun hb91 => ?_) (fun hb91 => ?_))
  · rw [if_pos hb91] at hF
    refine K_region (C_val (V_assign (v := (.bool false)) (.bool _)) ?_)
    refine C_nil (CW_ret ?_)
    obtain rfl := Option.some.inj hF
    exact End_ret () (.tmp rfl rfl .nil) rfl (.sel .nil)
  rw [if_neg (by rw [hb91]; exact Bool.false_ne_true)] at hF
  refine CW_skip (K_in (K_region (Cm (.int .i64 r87) rfl rfl ?_)))
  refine Cm (.int .i64 r64.1) rfl rfl ?_
  refine C_val (V_neq (i := r87) (j := r64.1) (.tmp rfl rfl) (.tmp rfl rfl)) ?_
  refine C_nil (CW_cond (b := ((r87 : Int) != r64.1)) (.tmp rfl rfl) (fun hb90 => ?_) (fun hb90 => ?_))
  · rw [if_pos hb90] at hF
    refine K_region (C_val (V_assign (v := (.bool false)) (.bool _)) ?_)
    refine C_nil (CW_ret ?_)
    obtain rfl := Option.some.inj hF
    exact End_ret () (.tmp rfl rfl .nil) rfl (.sel .nil)
  rw [if_neg (by rw [hb90]; exact Bool.false_ne_true)] at hF
  refine CW_skip (K_region (C_val (V_assign (v := (.bool true)) (.bool _)) ?_))
  refine C_nil (CW_ret ?_)
  obtain rfl := Option.some.inj hF
  exact End_ret () (.tmp rfl rfl .nil) rfl (.sel .nil)

end Go.Proofs.YtelpifelhmfdmaaGreat
