/-
  Functions of the program as Lean functions, and that the calls return what these say: part 2. No conditions.
-/
import Derived.Test.YtelpifelhmfdmaaGreatChangeFactG0
import Derived.KernelRfl
set_option maxRecDepth 100000
set_option maxHeartbeats 1000000
set_option linter.unusedVariables false
namespace Go.Proofs.YtelpifelhmfdmaaGreat
open Go Go.Fw

/-! spec.AreFacts -/
def s_AreFacts_L1 (a_s : List Int) (a_l : List Fact) : List Fact → Nat → Option (Bool)
  | [], k4 => ((s_IsSchema a_s).bind fun r15 =>
      bif r15 then (some (decide (((a_l.length : Int) : Int) ≤ 24)))
      else (some false)).bind fun o13 =>
    match o13 with
    | c19 => some c19
  | x6 :: rest5, k4 => ((s_IsFact a_s x6).bind fun r26 =>
      bif (!r26) then (some true)
      else (bif (decide ((0 : Int) < (k4 : Int))) then ((ix a_l (IntKind.i64.wrap ((k4 : Int) - 1))).bind fun x31 =>
          (s_CompareFacts x31 x6).bind fun r41 =>
          some (decide ((0 : Int) ≤ r41)))
        else (some false))).bind fun o21 =>
    match o21 with
    | c44 => if c44 then (
        some false)
      else (
        s_AreFacts_L1 a_s a_l rest5 (k4 + 1))
def s_AreFacts (a_s : List Int) (a_l : List Fact) : Option (Bool) :=
  s_AreFacts_L1 a_s a_l a_l 0
theorem s_AreFacts_ok (a_s : List Int) (v0_0 : Sv) (a_l : List Fact) (v1_0 : Sv) (R : Bool) (hF : s_AreFacts a_s a_l = some R) :
    Fw.Spec Tryz.prog 131 [v0_0.v, v1_0.v] [crd (RdS 3 rdInt) v0_0.v a_s, crd (RdS 55 rd55) v1_0.v a_l] (fun _ : Unit => (.bool R)) (fun _ => []) := by
  refine Spec_enter (n := 43) Tryz.func131 rfl rfl (rs := [.tmp 4]) rfl rfl rfl ?_
  intro H0 F0
  unfold s_AreFacts at hF
  iterate 7 refine au ?_
  refine CW_block (CW_loop (m := a_l.length) (fun m2 f' cs' => ∃ (g : Fr) (k4 : Nat) (rest5 : List Fact), m2 = rest5.length ∧ f' = updL g [(0, v0_0.v), (1, v1_0.v), (5, (.int .i64 (k4 : Int)))] ∧ List.drop k4 a_l = rest5 ∧ Ent cs' [crd (RdS 3 rdInt) v0_0.v a_s, crd (RdS 55 rd55) v1_0.v a_l] ∧ s_AreFacts_L1 a_s a_l rest5 k4 = some R) ⟨_, 0, _, rfl, eqA, rfl, entA, hF⟩ ?_)
  clear hF
  rintro m2 _ _ ⟨g3, k4, rest5, rfl, rfl, hd7, hE, hF⟩
  refine K_ent hE ?_
  clear hE
  refine K_pure (c := crd (RdS 55 rd55) v1_0.v a_l) (.t .h) crd_bound (fun hbd12 => ?_)
  rcases rest5 with _ | ⟨x6, rest5⟩
  · have hk8 := List.drop_eq_nil_iff.1 hd7
    rw [s_AreFacts_L1] at hF
    iterate 7 refine au ?_
    refine CdF ?_
    iterate 4 refine au ?_
    obtain ⟨o13, hio13, hO14⟩ := bind_some hF
    refine au ?_
    refine C_cut (fun f' cs' => ∃ (c19 : Bool) (g : Fr), c19 = o13 ∧ f' = updL g [(4, (.bool c19))] ∧ Ent cs' []) ?_ ?_
    · replace hF := hio13
      refine au ?_
      obtain ⟨r15, hx16, hF⟩ := bind_some hF
      refine Cx0 (s_IsSchema_ok _ _ _ hx16) (fun _ => ?_)
      refine au ?_
      rcases Bool.eq_false_or_eq_true r15 with hg18 | hg18
      · rw [hg18]
        try rw [hg18] at hF; dsimp only [cond_true, cond_false] at hF
        iterate 9 refine au ?_
        cases hF
        exact ⟨_, _, rfl, eqA, entA⟩
      rw [hg18]
      try rw [hg18] at hF; dsimp only [cond_true, cond_false] at hF
      iterate 6 refine au ?_
      cases hF
      exact ⟨_, _, rfl, eqA, entA⟩
    rintro _ _ ⟨c19, g20, rfl, rfl, hE⟩
    replace hF := hO14
    clear hO14
    try dsimp only at hF
    refine K_ent hE ?_
    refine au ?_
    cases hF
    exact Er ()
  obtain ⟨hk8, hx9, hd10⟩ := drop_cons hd7
  rw [s_AreFacts_L1] at hF
  iterate 7 refine au ?_
  refine CdT ?_
  iterate 2 refine au ?_
  obtain ⟨o21, hio21, hO22⟩ := bind_some hF
  refine K_draw [0, 1, 2, 3, 4, 5, 6, 7, 8, 9, 10, 11, 12, 13, 14, 15, 16, 17, 18, 19, 20, 21, 22, 23] [0, 0, 0, 6, 14, 31, 63, 127, 255, 511, 1023, 2047, 2047, 6143, 16383, 32767, 2047, 2047, 198655, 460799, 1048575, 2097151, 4194303, 8388607] [5, 20] mixed (by decide +kernel) ?_
  refine D_cut (fun f' cs' => ∃ (c44 : Bool) (g : Fr), c44 = o21 ∧ f' = updL g [(0, v0_0.v), (1, v1_0.v), (5, (.int .i64 (k4 : Int))), (35, (.bool c44))] ∧ Ent cs' [crd (RdS 3 rdInt) v0_0.v a_s, crd (RdS 55 rd55) v1_0.v a_l]) ?_ ?_
  · replace hF := hio21
    iterate 3 refine du ?_
    refine Di hx9 (fun k23 j24 => ?_)
    refine DlA1 (ul55_0_55 x6) la55_0_55 (fun p25 => ?_)
    obtain ⟨r26, hx27, hF⟩ := bind_some hF
    refine Dx0 (s_IsFact_ok _ _ _ _ _ hx27) (fun _ => ?_)
    iterate 2 refine du ?_
    rcases Bool.eq_false_or_eq_true (!r26) with hg29 | hg29
    · rw [hg29]
      try rw [hg29] at hF; dsimp only [cond_true, cond_false] at hF
      iterate 17 refine du ?_
      cases hF
      exact ⟨_, _, rfl, eqA, entA⟩
    rw [hg29]
    try rw [hg29] at hF; dsimp only [cond_true, cond_false] at hF
    iterate 3 refine du ?_
    rcases Bool.eq_false_or_eq_true (decide ((0 : Int) < (k4 : Int))) with hg30 | hg30
    · rw [hg30]
      try rw [hg30] at hF; dsimp only [cond_true, cond_false] at hF
      iterate 3 refine du ?_
      obtain ⟨x31, hx32, hF⟩ := bind_some hF
      obtain ⟨hp33, hx34⟩ := ix_some hx32
      refine Di hx34 (fun k35 j36 => ?_)
      refine DlA1 (ul55_0_55 x31) la55_0_55 (fun p37 => ?_)
      iterate 2 refine du ?_
      refine Di hx9 (fun k38 j39 => ?_)
      refine DlA1 (ul55_0_55 x6) la55_0_55 (fun p40 => ?_)
      obtain ⟨r41, hx42, hF⟩ := bind_some hF
      refine Dx0 (s_CompareFacts_ok _ _ _ _ _ hx42) (fun _ => ?_)
      iterate 4 refine du ?_
      cases hF
      exact ⟨_, _, rfl, eqA, entA⟩
    rw [hg30]
    try rw [hg30] at hF; dsimp only [cond_true, cond_false] at hF
    iterate 14 refine du ?_
    cases hF
    exact ⟨_, _, rfl, eqA, entA⟩
  rintro _ _ ⟨c44, g47, rfl, rfl, hE⟩
  replace hF := hO22
  clear hO22
  try dsimp only at hF
  refine K_ent hE ?_
  refine Cc (fun hb46 => ?_) (fun hb46 => ?_)
  · rw [if_pos hb46] at hF
    iterate 4 refine au ?_
    cases hF
    exact Er ()
  rw [if_neg (nt hb46)] at hF
  iterate 6 refine au ?_
  rw [wk k4]
  exact ⟨_, Nat.lt_succ_self _, _, k4 + 1, rest5, rfl, eqA, hd10, entA, hF⟩

/-! spec.IsSource -/
def s_IsSource (a_s : List Int) (a_x : Source) : Option (Bool) :=
  ((s_AreFacts a_s a_x.Facts).bind fun r4 =>
    bif r4 then ((s_l1In a_x.Version 0 1000).bind fun r8 =>
      some r8)
    else (some false)).bind fun o2 =>
  match o2 with
  | c11 => some c11
theorem s_IsSource_ok (a_s : List Int) (v0_0 : Sv) (a_x : Source) (v1_0 : Sv) (R : Bool) (hF : s_IsSource a_s a_x = some R) :
    Fw.Spec Tryz.prog 74 [v0_0.v, (.agg [v1_0.v, (.int .i64 a_x.Version)].toArray)] [crd (RdS 3 rdInt) v0_0.v a_s, crd (RdS 55 rd55) v1_0.v a_x.Facts] (fun _ : Unit => (.bool R)) (fun _ => []) := by
  refine Spec_enter (n := 14) Tryz.func74 rfl rfl (rs := [.tmp 4]) rfl rfl rfl ?_
  intro H0 F0
  unfold s_IsSource at hF
  refine au ?_
  refine AbR (fun k1 => ?_)
  iterate 2 refine au ?_
  obtain ⟨o2, hio2, hO3⟩ := bind_some hF
  refine au ?_
  refine C_cut (fun f' cs' => ∃ (c11 : Bool) (g : Fr), c11 = o2 ∧ f' = updL g [(4, (.bool c11))] ∧ Ent cs' []) ?_ ?_
  · replace hF := hio2
    iterate 3 refine au ?_
    obtain ⟨r4, hx5, hF⟩ := bind_some hF
    refine Cx0 (s_AreFacts_ok _ _ _ _ _ hx5) (fun _ => ?_)
    refine au ?_
    rcases Bool.eq_false_or_eq_true r4 with hg7 | hg7
    · rw [hg7]
      try rw [hg7] at hF; dsimp only [cond_true, cond_false] at hF
      iterate 5 refine au ?_
      obtain ⟨r8, hx9, hF⟩ := bind_some hF
      refine Cx0 (s_l1In_ok _ _ _ _ hx9) (fun _ => ?_)
      iterate 3 refine au ?_
      cases hF
      exact ⟨_, _, rfl, eqA, entA⟩
    rw [hg7]
    try rw [hg7] at hF; dsimp only [cond_true, cond_false] at hF
    iterate 6 refine au ?_
    cases hF
    exact ⟨_, _, rfl, eqA, entA⟩
  rintro _ _ ⟨c11, g12, rfl, rfl, hE⟩
  replace hF := hO3
  clear hO3
  try dsimp only at hF
  refine K_ent hE ?_
  refine au ?_
  cases hF
  exact Er ()

/-! spec.IsAccess -/
def s_IsAccess_L1 : List Int → Nat → Option (Bool)
  | [], k23 => some true
  | x25 :: rest24, k23 => (s_l1In x25 0 9).bind fun r34 =>
    if (!r34) then (
      some false)
    else (
      s_IsAccess_L1 rest24 (k23 + 1))
def s_IsAccess (a_s : List Int) (a_l : List Method) (a_a : Access) : Option (Bool) :=
  ((s_AreMethods a_s a_l).bind fun r4 =>
    bif (!r4) then (some true)
    else ((s_l1In a_a.Method 0 (IntKind.i64.wrap ((a_l.length : Int) - 1))).bind fun r8 =>
      bif (!r8) then (some true)
      else ((ix a_l a_a.Method).bind fun x12 =>
        some (((a_a.Values.length : Int) : Int) != (x12.Inputs.length : Int))))).bind fun o2 =>
  match o2 with
  | c19 => if c19 then (
      some false)
    else (
      s_IsAccess_L1 a_a.Values 0)
theorem s_IsAccess_ok (a_s : List Int) (v0_0 : Sv) (a_l : List Method) (v1_0 : Sv) (a_a : Access) (v2_1 : Sv) (R : Bool) (hF : s_IsAccess a_s a_l a_a = some R) :
    Fw.Spec Tryz.prog 76 [v0_0.v, v1_0.v, (.agg [(.int .i64 a_a.Method), v2_1.v].toArray)] [crd (RdS 3 rdInt) v0_0.v a_s, crd (RdS 114 rd114) v1_0.v a_l, crd (RdS 3 rdInt) v2_1.v a_a.Values] (fun _ : Unit => (.bool R)) (fun _ => []) := by
  refine Spec_enter (n := 48) Tryz.func76 rfl rfl (rs := [.tmp 6]) rfl rfl rfl ?_
  intro H0 F0
  unfold s_IsAccess at hF
  refine au ?_
  refine AbR (fun k1 => ?_)
  iterate 3 refine au ?_
  obtain ⟨o2, hio2, hO3⟩ := bind_some hF
  refine K_draw [0, 1, 2, 3, 4, 5, 6, 7, 8, 9, 10, 11, 12, 13, 14, 15, 16, 17, 18, 19, 20, 21, 22, 23, 24, 25] [0, 0, 3, 7, 15, 31, 63, 31, 159, 415, 1023, 2047, 4095, 8191, 16383, 32767, 65535, 16383, 16383, 278527, 933887, 1982463, 4079615, 8273919, 16777215, 33554431] [2, 10] mixed (by decide +kernel) ?_
  refine D_cut (fun f' cs' => ∃ (c19 : Bool) (g : Fr), c19 = o2 ∧ f' = updL g [(5, (.pointer (some ⟨k1, 0, some 0⟩))), (33, (.bool c19))] ∧ Ent cs' [cboR k1 124 (.agg [(.int .i64 a_a.Method), v2_1.v].toArray), crd (RdS 3 rdInt) v2_1.v a_a.Values]) ?_ ?_
  · replace hF := hio2
    iterate 2 refine du ?_
    obtain ⟨r4, hx5, hF⟩ := bind_some hF
    refine Dx0 (s_AreMethods_ok _ _ _ _ _ hx5) (fun _ => ?_)
    iterate 2 refine du ?_
    rcases Bool.eq_false_or_eq_true (!r4) with hg7 | hg7
    · rw [hg7]
      try rw [hg7] at hF; dsimp only [cond_true, cond_false] at hF
      iterate 22 refine du ?_
      cases hF
      exact ⟨_, _, rfl, eqA, entA⟩
    rw [hg7]
    try rw [hg7] at hF; dsimp only [cond_true, cond_false] at hF
    iterate 5 refine du ?_
    obtain ⟨r8, hx9, hF⟩ := bind_some hF
    refine Dx0 (s_l1In_ok _ _ _ _ hx9) (fun _ => ?_)
    iterate 3 refine du ?_
    rcases Bool.eq_false_or_eq_true (!r8) with hg11 | hg11
    · rw [hg11]
      try rw [hg11] at hF; dsimp only [cond_true, cond_false] at hF
      iterate 13 refine du ?_
      cases hF
      exact ⟨_, _, rfl, eqA, entA⟩
    rw [hg11]
    try rw [hg11] at hF; dsimp only [cond_true, cond_false] at hF
    iterate 6 refine du ?_
    obtain ⟨x12, hx13, hF⟩ := bind_some hF
    obtain ⟨hp14, hx15⟩ := ix_some hx13
    refine Di hx15 (fun k16 j17 => ?_)
    refine du ?_
    refine D_ldV (R' := (RdS 3 rdInt)) ag22.h rfl (.on 21 rfl rfl rfl) (.tmp rfl rfl) rfl .h lv114_1 (fun w18 => ?_)
    iterate 4 refine du ?_
    cases hF
    exact ⟨_, _, rfl, eqA, entA⟩
  rintro _ _ ⟨c19, g40, rfl, rfl, hE⟩
  replace hF := hO3
  clear hO3
  try dsimp only at hF
  refine K_ent hE ?_
  refine Cc (fun hb39 => ?_) (fun hb39 => ?_)
  · rw [if_pos hb39] at hF
    iterate 4 refine au ?_
    cases hF
    exact Er ()
  rw [if_neg (nt hb39)] at hF
  iterate 5 refine au ?_
  refine CW_block (CW_loop (m := a_a.Values.length) (fun m21 f' cs' => ∃ (g : Fr) (k23 : Nat) (rest24 : List Int), m21 = rest24.length ∧ f' = updL g [(5, (.pointer (some ⟨k1, 0, some 0⟩))), (7, (.int .i64 (k23 : Int)))] ∧ List.drop k23 a_a.Values = rest24 ∧ Ent cs' [cboR k1 124 (.agg [(.int .i64 a_a.Method), v2_1.v].toArray), crd (RdS 3 rdInt) v2_1.v a_a.Values] ∧ s_IsAccess_L1 rest24 k23 = some R) ⟨_, 0, _, rfl, eqA, rfl, entA, hF⟩ ?_)
  clear hF
  rintro m21 _ _ ⟨g22, k23, rest24, rfl, rfl, hd26, hE, hF⟩
  refine K_ent hE ?_
  clear hE
  refine K_pure (c := crd (RdS 3 rdInt) v2_1.v a_a.Values) (.t .h) crd_bound (fun hbd31 => ?_)
  rcases rest24 with _ | ⟨x25, rest24⟩
  · have hk27 := List.drop_eq_nil_iff.1 hd26
    rw [s_IsAccess_L1] at hF
    iterate 8 refine au ?_
    refine CdF ?_
    iterate 8 refine au ?_
    cases hF
    exact Er ()
  obtain ⟨hk27, hx28, hd29⟩ := drop_cons hd26
  rw [s_IsAccess_L1] at hF
  iterate 8 refine au ?_
  refine CdT ?_
  iterate 6 refine au ?_
  refine Ai hx28 (fun k32 j33 => ?_)
  refine Al ls3_0 ?_
  obtain ⟨r34, hx35, hF⟩ := bind_some hF
  refine Cx0 (s_l1In_ok _ _ _ _ hx35) (fun _ => ?_)
  iterate 2 refine au ?_
  refine Cc (fun hb38 => ?_) (fun hb38 => ?_)
  · rw [if_pos hb38] at hF
    iterate 4 refine au ?_
    cases hF
    exact Er ()
  rw [if_neg (nt hb38)] at hF
  iterate 6 refine au ?_
  rw [wk k23]
  exact ⟨_, Nat.lt_succ_self _, _, k23 + 1, rest24, rfl, eqA, hd29, entA, hF⟩

/-! spec.l4Less -/
def s_l4Less_L1 (a_a : List Int) (a_b : List Int) : Nat → Int → Option (Bool)
  | 0, _ => none
  | m2 + 1, c1 => if ((decide ((c1 : Int) < (a_a.length : Int))) && (decide ((c1 : Int) < (a_b.length : Int)))) then (
      (ix a_a c1).bind fun x12 =>
      (ix a_b c1).bind fun x18 =>
      if ((x12 : Int) != x18) then (
        (ix a_a c1).bind fun x24 =>
        (ix a_b c1).bind fun x30 =>
        some (decide ((x24 : Int) < x30)))
      else (
        s_l4Less_L1 a_a a_b m2 (IntKind.i64.wrap (c1 + 1))))
    else (
      some (decide (((a_a.length : Int) : Int) < (a_b.length : Int))))
def s_l4Less (a_a : List Int) (a_b : List Int) : Option (Bool) :=
  s_l4Less_L1 a_a a_b (((a_a.length : Int) - 0).toNat + 2) 0
theorem s_l4Less_ok (a_a : List Int) (v0_0 : Sv) (a_b : List Int) (v1_0 : Sv) (R : Bool) (hF : s_l4Less a_a a_b = some R) :
    Fw.Spec Tryz.prog 165 [v0_0.v, v1_0.v] [crd (RdS 3 rdInt) v0_0.v a_a, crd (RdS 3 rdInt) v1_0.v a_b] (fun _ : Unit => (.bool R)) (fun _ => []) := by
  refine Spec_enter (n := 41) Tryz.func165 rfl rfl (rs := [.tmp 4]) rfl rfl rfl ?_
  intro H0 F0
  unfold s_l4Less at hF
  iterate 7 refine au ?_
  refine CW_block (CW_loop (m := (((a_a.length : Int) - 0).toNat + 2)) (fun m2 f' cs' => ∃ (g : Fr) (c1 : Int), f' = updL g [(0, v0_0.v), (1, v1_0.v), (5, (.int .i64 c1))] ∧ Ent cs' [crd (RdS 3 rdInt) v0_0.v a_a, crd (RdS 3 rdInt) v1_0.v a_b] ∧ s_l4Less_L1 a_a a_b m2 c1 = some R) ⟨_, _, eqA, entA, hF⟩ ?_)
  clear hF
  rintro m2 _ _ ⟨g3, c1, rfl, hE, hF⟩
  refine K_ent hE ?_
  clear hE
  rcases m2 with _ | m2
  · rw [s_l4Less_L1] at hF
    exact absurd hF (by simp)
  rw [s_l4Less_L1] at hF
  iterate 2 refine au ?_
  refine C_cut (fun f' cs' => ∃ (g : Fr), f' = updL g [(0, v0_0.v), (1, v1_0.v), (5, (.int .i64 c1)), (15, (.bool ((decide ((c1 : Int) < (a_a.length : Int))) && (decide ((c1 : Int) < (a_b.length : Int))))))] ∧ Ent cs' [crd (RdS 3 rdInt) v0_0.v a_a, crd (RdS 3 rdInt) v1_0.v a_b]) ?_ ?_
  · iterate 5 refine au ?_
    rcases Bool.eq_false_or_eq_true (decide ((c1 : Int) < (a_a.length : Int))) with hg10 | hg10
    · rw [hg10]
      try rw [hg10] at hF; dsimp only [cond_true, cond_false] at hF
      iterate 10 refine au ?_
      exact ⟨_, eqA, entA⟩
    rw [hg10]
    try rw [hg10] at hF; dsimp only [cond_true, cond_false] at hF
    iterate 6 refine au ?_
    exact ⟨_, eqA, entA⟩
  rintro _ _ ⟨g11, rfl, hE⟩
  refine K_ent hE ?_
  refine Cc (fun hb37 => ?_) (fun hb37 => ?_)
  · rw [if_pos hb37] at hF
    iterate 2 refine au ?_
    refine K_draw [0, 1, 2, 3, 4, 5, 6, 7, 8] [0, 0, 3, 7, 0, 0, 48, 112, 255] [] mixed (by decide +kernel) ?_
    iterate 2 refine du ?_
    obtain ⟨x12, hx13, hF⟩ := bind_some hF
    obtain ⟨hp14, hx15⟩ := ix_some hx13
    refine Di hx15 (fun k16 j17 => ?_)
    refine Dl ls3_0 ?_
    iterate 2 refine du ?_
    obtain ⟨x18, hx19, hF⟩ := bind_some hF
    obtain ⟨hp20, hx21⟩ := ix_some hx19
    refine Di hx21 (fun k22 j23 => ?_)
    refine Dl ls3_0 ?_
    iterate 2 refine du ?_
    refine Cc (fun hb36 => ?_) (fun hb36 => ?_)
    · rw [if_pos hb36] at hF
      refine K_draw [0, 1, 2, 3, 4, 5, 6, 7, 8, 9] [0, 0, 3, 7, 0, 0, 48, 112, 255, 511] [] mixed (by decide +kernel) ?_
      iterate 2 refine du ?_
      obtain ⟨x24, hx25, hF⟩ := bind_some hF
      obtain ⟨hp26, hx27⟩ := ix_some hx25
      refine Di hx27 (fun k28 j29 => ?_)
      refine Dl ls3_0 ?_
      iterate 2 refine du ?_
      obtain ⟨x30, hx31, hF⟩ := bind_some hF
      obtain ⟨hp32, hx33⟩ := ix_some hx31
      refine Di hx33 (fun k34 j35 => ?_)
      refine Dl ls3_0 ?_
      iterate 3 refine du ?_
      refine au ?_
      cases hF
      exact Er ()
    rw [if_neg (nt hb36)] at hF
    iterate 6 refine au ?_
    exact ⟨m2, Nat.lt_succ_self _, _, _, eqA, entA, hF⟩
  rw [if_neg (nt hb37)] at hF
  iterate 13 refine au ?_
  cases hF
  exact Er ()

/-! spec.l22Less -/
def s_l22Less (a_a : Access) (a_b : Access) : Option (Bool) :=
  if ((a_a.Method : Int) != a_b.Method) then (
    some (decide ((a_a.Method : Int) < a_b.Method)))
  else (
    (s_l4Less a_a.Values a_b.Values).bind fun r3 =>
    some r3)
theorem s_l22Less_ok (a_a : Access) (v0_1 : Sv) (a_b : Access) (v1_1 : Sv) (R : Bool) (hF : s_l22Less a_a a_b = some R) :
    Fw.Spec Tryz.prog 132 [(.agg [(.int .i64 a_a.Method), v0_1.v].toArray), (.agg [(.int .i64 a_b.Method), v1_1.v].toArray)] [crd (RdS 3 rdInt) v0_1.v a_a.Values, crd (RdS 3 rdInt) v1_1.v a_b.Values] (fun _ : Unit => (.bool R)) (fun _ => []) := by
  refine Spec_enter (n := 20) Tryz.func132 rfl rfl (rs := [.tmp 4]) rfl rfl rfl ?_
  intro H0 F0
  unfold s_l22Less at hF
  refine au ?_
  refine AbR (fun k1 => ?_)
  refine AbR (fun k2 => ?_)
  iterate 10 refine au ?_
  refine Cc (fun hb6 => ?_) (fun hb6 => ?_)
  · rw [if_pos hb6] at hF
    iterate 9 refine au ?_
    cases hF
    exact Er ()
  rw [if_neg (nt hb6)] at hF
  iterate 6 refine au ?_
  obtain ⟨r3, hx4, hF⟩ := bind_some hF
  refine Cx0 (s_l4Less_ok _ _ _ _ _ hx4) (fun _ => ?_)
  iterate 3 refine au ?_
  cases hF
  exact Er ()

/-! spec.l5Fits -/
def s_l5Fits_L1 (a_values : List Int) (a_f : Fact) : List Int → Nat → Option (Bool)
  | [], k6 => some true
  | x8 :: rest7, k6 => (ix a_f.Values x8).bind fun x17 =>
    (ix a_values (k6 : Int)).bind fun x23 =>
    if ((x17 : Int) != x23) then (
      some false)
    else (
      s_l5Fits_L1 a_values a_f rest7 (k6 + 1))
def s_l5Fits (a_m : Method) (a_values : List Int) (a_f : Fact) : Option (Bool) :=
  if ((a_f.Rel : Int) != a_m.Rel) then (
    some false)
  else (
    s_l5Fits_L1 a_values a_f a_m.Inputs 0)
theorem s_l5Fits_ok (a_m : Method) (v0_1 : Sv) (a_values : List Int) (v1_0 : Sv) (a_f : Fact) (v2_1 : Sv) (R : Bool) (hF : s_l5Fits a_m a_values a_f = some R) :
    Fw.Spec Tryz.prog 133 [(.agg [(.int .i64 a_m.Rel), v0_1.v, (.int .i64 a_m.Limit), (.int .i64 a_m.Cost), (.int .i64 a_m.Quota)].toArray), v1_0.v, (.agg [(.int .i64 a_f.Rel), v2_1.v].toArray)] [crd (RdS 3 rdInt) v0_1.v a_m.Inputs, crd (RdS 3 rdInt) v1_0.v a_values, crd (RdS 3 rdInt) v2_1.v a_f.Values] (fun _ : Unit => (.bool R)) (fun _ => []) := by
  refine Spec_enter (n := 34) Tryz.func133 rfl rfl (rs := [.tmp 6]) rfl rfl rfl ?_
  intro H0 F0
  unfold s_l5Fits at hF
  refine au ?_
  refine AbR (fun k1 => ?_)
  refine AbR (fun k2 => ?_)
  iterate 10 refine au ?_
  refine Cc (fun hb31 => ?_) (fun hb31 => ?_)
  · rw [if_pos hb31] at hF
    iterate 4 refine au ?_
    cases hF
    exact Er ()
  rw [if_neg (nt hb31)] at hF
  iterate 5 refine au ?_
  refine CW_block (CW_loop (m := a_m.Inputs.length) (fun m4 f' cs' => ∃ (g : Fr) (k6 : Nat) (rest7 : List Int), m4 = rest7.length ∧ f' = updL g [(1, v1_0.v), (3, (.pointer (some ⟨k1, 0, some 0⟩))), (5, (.pointer (some ⟨k2, 0, some 0⟩))), (7, (.int .i64 (k6 : Int)))] ∧ List.drop k6 a_m.Inputs = rest7 ∧ Ent cs' [crd (RdS 3 rdInt) v1_0.v a_values, cboR k1 114 (.agg [(.int .i64 a_m.Rel), v0_1.v, (.int .i64 a_m.Limit), (.int .i64 a_m.Cost), (.int .i64 a_m.Quota)].toArray), crd (RdS 3 rdInt) v0_1.v a_m.Inputs, cboR k2 55 (.agg [(.int .i64 a_f.Rel), v2_1.v].toArray), crd (RdS 3 rdInt) v2_1.v a_f.Values] ∧ s_l5Fits_L1 a_values a_f rest7 k6 = some R) ⟨_, 0, _, rfl, eqA, rfl, entA, hF⟩ ?_)
  clear hF
  rintro m4 _ _ ⟨g5, k6, rest7, rfl, rfl, hd9, hE, hF⟩
  refine K_ent hE ?_
  clear hE
  refine K_pure (c := crd (RdS 3 rdInt) v0_1.v a_m.Inputs) (.t (.t .h)) crd_bound (fun hbd14 => ?_)
  rcases rest7 with _ | ⟨x8, rest7⟩
  · have hk10 := List.drop_eq_nil_iff.1 hd9
    rw [s_l5Fits_L1] at hF
    iterate 8 refine au ?_
    refine CdF ?_
    iterate 8 refine au ?_
    cases hF
    exact Er ()
  obtain ⟨hk10, hx11, hd12⟩ := drop_cons hd9
  rw [s_l5Fits_L1] at hF
  iterate 8 refine au ?_
  refine CdT ?_
  iterate 2 refine au ?_
  refine K_draw [0, 1, 2, 3, 4, 5, 6, 7, 8, 9, 10, 11, 12, 13] [0, 1, 0, 4, 0, 28, 60, 127, 255, 0, 0, 1536, 3584, 8191] [] mixed (by decide +kernel) ?_
  iterate 5 refine du ?_
  refine Di hx11 (fun k15 j16 => ?_)
  refine Dl ls3_0 ?_
  obtain ⟨x17, hx18, hF⟩ := bind_some hF
  obtain ⟨hp19, hx20⟩ := ix_some hx18
  refine Di hx20 (fun k21 j22 => ?_)
  refine Dl ls3_0 ?_
  iterate 2 refine du ?_
  obtain ⟨x23, hx24, hF⟩ := bind_some hF
  obtain ⟨hp25, hx26⟩ := ix_some hx24
  refine Di hx26 (fun k27 j28 => ?_)
  refine Dl ls3_0 ?_
  iterate 2 refine du ?_
  refine Cc (fun hb30 => ?_) (fun hb30 => ?_)
  · rw [if_pos hb30] at hF
    iterate 4 refine au ?_
    cases hF
    exact Er ()
  rw [if_neg (nt hb30)] at hF
  iterate 6 refine au ?_
  rw [wk k6]
  exact ⟨_, Nat.lt_succ_self _, _, k6 + 1, rest7, rfl, eqA, hd12, entA, hF⟩

/-! spec.IsCache -/
def s_IsCache_L2 (a_l : List Method) (x18 : Stored) : List Fact → Nat → Option (Sum (Bool) (Unit))
  | [], k60 => some (.inr ())
  | x62 :: rest61, k60 => (ix a_l x18.Access.Method).bind fun x69 =>
    (s_l5Fits x69 x18.Access.Values x62).bind fun r79 =>
    if (!r79) then (
      some (.inl false))
    else (
      s_IsCache_L2 a_l x18 rest61 (k60 + 1))
def s_IsCache_L1 (a_s : List Int) (a_l : List Method) (a_c : Cache) : List Stored → Nat → Option (Bool)
  | [], k16 => some true
  | x18 :: rest17, k16 => (((s_IsAccess a_s a_l x18.Access).bind fun r33 =>
        bif (!r33) then (some true)
        else ((s_AreFacts a_s x18.Facts).bind fun r37 =>
          bif (!r37) then (some true)
          else ((s_l1In x18.At 0 10000).bind fun r41 =>
            bif (!r41) then (some true)
            else (bif (decide ((0 : Int) < (k16 : Int))) then ((ix a_c.Entries (IntKind.i64.wrap ((k16 : Int) - 1))).bind fun x46 =>
                (s_l22Less x46.Access x18.Access).bind fun r53 =>
                some (!r53))
              else (some false))))).bind fun o31 =>
      match o31 with
      | c56 => if c56 then (
          some (.inl false))
        else (
          s_IsCache_L2 a_l x18 x18.Facts 0)).bind fun o25 =>
    match o25 with
    | .inl r => some r
    | .inr _ => s_IsCache_L1 a_s a_l a_c rest17 (k16 + 1)
def s_IsCache (a_s : List Int) (a_l : List Method) (a_c : Cache) : Option (Bool) :=
  ((s_AreMethods a_s a_l).bind fun r4 =>
    bif (!r4) then (some true)
    else ((s_l1In a_c.Age 0 100).bind fun r8 =>
      bif (!r8) then (some true)
      else (some (decide ((100 : Int) < (a_c.Entries.length : Int)))))).bind fun o2 =>
  match o2 with
  | c12 => if c12 then (
      some false)
    else (
      s_IsCache_L1 a_s a_l a_c a_c.Entries 0)
theorem s_IsCache_ok (a_s : List Int) (v0_0 : Sv) (a_l : List Method) (v1_0 : Sv) (a_c : Cache) (v2_0 : Sv) (R : Bool) (hF : s_IsCache a_s a_l a_c = some R) :
    Fw.Spec Tryz.prog 75 [v0_0.v, v1_0.v, (.agg [v2_0.v, (.int .i64 a_c.Age)].toArray)] [crd (RdS 3 rdInt) v0_0.v a_s, crd (RdS 114 rd114) v1_0.v a_l, crd (RdS 156 rd156) v2_0.v a_c.Entries] (fun _ : Unit => (.bool R)) (fun _ => []) := by
  refine Spec_enter (n := 97) Tryz.func75 rfl rfl (rs := [.tmp 6]) rfl rfl rfl ?_
  intro H0 F0
  unfold s_IsCache at hF
  refine au ?_
  refine AbR (fun k1 => ?_)
  iterate 3 refine au ?_
  obtain ⟨o2, hio2, hO3⟩ := bind_some hF
  refine au ?_
  refine C_cut (fun f' cs' => ∃ (c12 : Bool) (g : Fr), c12 = o2 ∧ f' = updL g [(0, v0_0.v), (1, v1_0.v), (5, (.pointer (some ⟨k1, 0, some 0⟩))), (25, (.bool c12))] ∧ Ent cs' [crd (RdS 3 rdInt) v0_0.v a_s, crd (RdS 114 rd114) v1_0.v a_l, cboR k1 48 (.agg [v2_0.v, (.int .i64 a_c.Age)].toArray), crd (RdS 156 rd156) v2_0.v a_c.Entries]) ?_ ?_
  · replace hF := hio2
    iterate 2 refine au ?_
    obtain ⟨r4, hx5, hF⟩ := bind_some hF
    refine Cx0 (s_AreMethods_ok _ _ _ _ _ hx5) (fun _ => ?_)
    iterate 2 refine au ?_
    rcases Bool.eq_false_or_eq_true (!r4) with hg7 | hg7
    · rw [hg7]
      try rw [hg7] at hF; dsimp only [cond_true, cond_false] at hF
      iterate 12 refine au ?_
      cases hF
      exact ⟨_, _, rfl, eqA, entA⟩
    rw [hg7]
    try rw [hg7] at hF; dsimp only [cond_true, cond_false] at hF
    iterate 5 refine au ?_
    obtain ⟨r8, hx9, hF⟩ := bind_some hF
    refine Cx0 (s_l1In_ok _ _ _ _ hx9) (fun _ => ?_)
    iterate 4 refine au ?_
    rcases Bool.eq_false_or_eq_true (!r8) with hg11 | hg11
    · rw [hg11]
      try rw [hg11] at hF; dsimp only [cond_true, cond_false] at hF
      iterate 6 refine au ?_
      cases hF
      exact ⟨_, _, rfl, eqA, entA⟩
    rw [hg11]
    try rw [hg11] at hF; dsimp only [cond_true, cond_false] at hF
    iterate 10 refine au ?_
    cases hF
    exact ⟨_, _, rfl, eqA, entA⟩
  rintro _ _ ⟨c12, g89, rfl, rfl, hE⟩
  replace hF := hO3
  clear hO3
  try dsimp only at hF
  refine K_ent hE ?_
  refine Cc (fun hb88 => ?_) (fun hb88 => ?_)
  · rw [if_pos hb88] at hF
    iterate 4 refine au ?_
    cases hF
    exact Er ()
  rw [if_neg (nt hb88)] at hF
  iterate 5 refine au ?_
  refine CW_block (CW_loop (m := a_c.Entries.length) (fun m14 f' cs' => ∃ (g : Fr) (k16 : Nat) (rest17 : List Stored), m14 = rest17.length ∧ f' = updL g [(0, v0_0.v), (1, v1_0.v), (5, (.pointer (some ⟨k1, 0, some 0⟩))), (7, (.int .i64 (k16 : Int)))] ∧ List.drop k16 a_c.Entries = rest17 ∧ Ent cs' [crd (RdS 3 rdInt) v0_0.v a_s, crd (RdS 114 rd114) v1_0.v a_l, cboR k1 48 (.agg [v2_0.v, (.int .i64 a_c.Age)].toArray), crd (RdS 156 rd156) v2_0.v a_c.Entries] ∧ s_IsCache_L1 a_s a_l a_c rest17 k16 = some R) ⟨_, 0, _, rfl, eqA, rfl, entA, hF⟩ ?_)
  clear hF
  rintro m14 _ _ ⟨g15, k16, rest17, rfl, rfl, hd19, hE, hF⟩
  refine K_ent hE ?_
  clear hE
  refine K_pure (c := crd (RdS 156 rd156) v2_0.v a_c.Entries) (.t (.t (.t .h))) crd_bound (fun hbd24 => ?_)
  rcases rest17 with _ | ⟨x18, rest17⟩
  · have hk20 := List.drop_eq_nil_iff.1 hd19
    rw [s_IsCache_L1] at hF
    iterate 8 refine au ?_
    refine CdF ?_
    iterate 8 refine au ?_
    cases hF
    exact Er ()
  obtain ⟨hk20, hx21, hd22⟩ := drop_cons hd19
  rw [s_IsCache_L1] at hF
  iterate 8 refine au ?_
  refine CdT ?_
  refine au ?_
  obtain ⟨o25, hio25, hO26⟩ := bind_some hF
  refine K_cut (fun f' cs' => ∃ (g : Fr), o25 = .inr () ∧ f' = updL g [(0, v0_0.v), (1, v1_0.v), (5, (.pointer (some ⟨k1, 0, some 0⟩))), (7, (.int .i64 (k16 : Int)))] ∧ Ent cs' [crd (RdS 3 rdInt) v0_0.v a_s, crd (RdS 114 rd114) v1_0.v a_l, cboR k1 48 (.agg [v2_0.v, (.int .i64 a_c.Age)].toArray), crd (RdS 156 rd156) v2_0.v a_c.Entries]) ?_ ?_
  · replace hF := hio25
    refine CW_block (K_region (C_val (V_fieldAddr (off := 0) fd48_0.h (.tmp rfl rfl)) ?_))
    iterate 2 refine au ?_
    refine Ai hx21 (fun k27 j28 => ?_)
    refine AlA2 (ul156_0_156 x18) la156_0_156 (fun p29 => ?_)
    refine AnW (fun k30 => ?_)
    refine As (.agg [(.int .i64 x18.Access.Method), p29.1.v, p29.2.v, (.int .i64 x18.At)].toArray) ?_
    iterate 2 refine au ?_
    obtain ⟨o31, hio31, hO32⟩ := bind_some hF
    refine K_draw [0, 1, 2, 3, 4, 5, 6, 7, 8, 9, 10, 11, 12, 13, 14, 15, 16, 17, 18, 19, 20, 21, 22, 23, 24, 25, 26, 27, 28, 29, 30, 31, 32, 33, 34, 35] [0, 0, 0, 4, 15, 31, 63, 127, 127, 383, 1023, 2047, 4095, 8191, 16383, 32767, 65535, 131071, 262143, 524287, 1048575, 2097151, 4194303, 8388607, 16777215, 8388607, 41943039, 134217727, 268435455, 536870911, 8388607, 1082130431, 4294967295, 8589934591, 17179869183, 34359738367] [4, 10, 16, 32] mixed (by decide +kernel) ?_
    refine D_cut (fun f' cs' => ∃ (c56 : Bool) (g : Fr), c56 = o31 ∧ f' = updL g [(0, v0_0.v), (1, v1_0.v), (5, (.pointer (some ⟨k1, 0, some 0⟩))), (7, (.int .i64 (k16 : Int))), (8, (.pointer (some ⟨k30, 0, some 0⟩))), (73, (.bool c56))] ∧ Ent cs' [crd (RdS 3 rdInt) v0_0.v a_s, crd (RdS 114 rd114) v1_0.v a_l, cboR k1 48 (.agg [v2_0.v, (.int .i64 a_c.Age)].toArray), crd (RdS 156 rd156) v2_0.v a_c.Entries, cbox k30 156 (.agg [(.int .i64 x18.Access.Method), p29.1.v, p29.2.v, (.int .i64 x18.At)].toArray), crd (RdS 3 rdInt) p29.1.v x18.Access.Values, crd (RdS 55 rd55) p29.2.v x18.Facts]) ?_ ?_
    · replace hF := hio31
      iterate 3 refine du ?_
      refine D_atO rfl .no .h (fun ha hp => V_loadA (s := 2) (l := [(.int .i64 x18.Access.Method), p29.1.v]) ag124.h ty124.h.sz (EN ha (.tmp rfl rfl) rfl) hp.2 rfl (by decide) (Nat.le_of_ble_eq_true rfl) rfl) ?_
      obtain ⟨r33, hx34, hF⟩ := bind_some hF
      refine Dx0 (s_IsAccess_ok _ _ _ _ _ _ _ hx34) (fun _ => ?_)
      iterate 2 refine du ?_
      rcases Bool.eq_false_or_eq_true (!r33) with hg36 | hg36
      · rw [hg36]
        try rw [hg36] at hF; dsimp only [cond_true, cond_false] at hF
        iterate 30 refine du ?_
        cases hF
        exact ⟨_, _, rfl, eqA, entA⟩
      rw [hg36]
      try rw [hg36] at hF; dsimp only [cond_true, cond_false] at hF
      iterate 2 refine du ?_
      refine D_atO rfl (.on 44 rfl rfl rfl) .h (fun ha hp => V_load (v := p29.2.v) ag43.h (EN ha (.tmp rfl rfl) rfl) hp.2 rfl rfl) ?_
      obtain ⟨r37, hx38, hF⟩ := bind_some hF
      refine Dx0 (s_AreFacts_ok _ _ _ _ _ hx38) (fun _ => ?_)
      iterate 3 refine du ?_
      rcases Bool.eq_false_or_eq_true (!r37) with hg40 | hg40
      · rw [hg40]
        try rw [hg40] at hF; dsimp only [cond_true, cond_false] at hF
        iterate 23 refine du ?_
        cases hF
        exact ⟨_, _, rfl, eqA, entA⟩
      rw [hg40]
      try rw [hg40] at hF; dsimp only [cond_true, cond_false] at hF
      refine du ?_
      refine D_atO rfl (.on 51 rfl rfl rfl) .h (fun ha hp => V_load (v := (.int .i64 x18.At)) ag3.h (EN ha (.tmp rfl rfl) rfl) hp.2 rfl rfl) ?_
      obtain ⟨r41, hx42, hF⟩ := bind_some hF
      refine Dx0 (s_l1In_ok _ _ _ _ hx42) (fun _ => ?_)
      iterate 3 refine du ?_
      rcases Bool.eq_false_or_eq_true (!r41) with hg44 | hg44
      · rw [hg44]
        try rw [hg44] at hF; dsimp only [cond_true, cond_false] at hF
        iterate 17 refine du ?_
        cases hF
        exact ⟨_, _, rfl, eqA, entA⟩
      rw [hg44]
      try rw [hg44] at hF; dsimp only [cond_true, cond_false] at hF
      iterate 3 refine du ?_
      rcases Bool.eq_false_or_eq_true (decide ((0 : Int) < (k16 : Int))) with hg45 | hg45
      · rw [hg45]
        try rw [hg45] at hF; dsimp only [cond_true, cond_false] at hF
        iterate 4 refine du ?_
        obtain ⟨x46, hx47, hF⟩ := bind_some hF
        obtain ⟨hp48, hx49⟩ := ix_some hx47
        refine Di hx49 (fun k50 j51 => ?_)
        refine du ?_
        refine DlA1 (ul156_0_124 x46) la156_0_124 (fun p52 => ?_)
        refine du ?_
        refine D_atO rfl (.on 60 rfl rfl rfl) (.t (.t .h)) (fun ha hp => V_loadA (s := 2) (l := [(.int .i64 x18.Access.Method), p29.1.v]) ag124.h ty124.h.sz (EN ha (.tmp rfl rfl) rfl) hp.2 rfl (by decide) (Nat.le_of_ble_eq_true rfl) rfl) ?_
        obtain ⟨r53, hx54, hF⟩ := bind_some hF
        refine Dx0 (s_l22Less_ok _ _ _ _ _ hx54) (fun _ => ?_)
        iterate 4 refine du ?_
        cases hF
        exact ⟨_, _, rfl, eqA, entA⟩
      rw [hg45]
      try rw [hg45] at hF; dsimp only [cond_true, cond_false] at hF
      iterate 14 refine du ?_
      cases hF
      exact ⟨_, _, rfl, eqA, entA⟩
    rintro _ _ ⟨c56, g85, rfl, rfl, hE⟩
    replace hF := hO32
    clear hO32
    try dsimp only at hF
    refine K_ent hE ?_
    refine Cc (fun hb84 => ?_) (fun hb84 => ?_)
    · rw [if_pos hb84] at hF
      iterate 4 refine au ?_
      cases hF
      replace hF := hO26
      try dsimp only at hF
      cases hF
      exact Er ()
    rw [if_neg (nt hb84)] at hF
    iterate 4 refine au ?_
    refine CW_block (CW_loop (m := x18.Facts.length) (fun m58 f' cs' => ∃ (g : Fr) (k60 : Nat) (rest61 : List Fact), m58 = rest61.length ∧ f' = updL g [(0, v0_0.v), (1, v1_0.v), (5, (.pointer (some ⟨k1, 0, some 0⟩))), (7, (.int .i64 (k16 : Int))), (8, (.pointer (some ⟨k30, 0, some 0⟩))), (9, (.int .i64 (k60 : Int)))] ∧ List.drop k60 x18.Facts = rest61 ∧ Ent cs' [crd (RdS 3 rdInt) v0_0.v a_s, crd (RdS 114 rd114) v1_0.v a_l, cboR k1 48 (.agg [v2_0.v, (.int .i64 a_c.Age)].toArray), crd (RdS 156 rd156) v2_0.v a_c.Entries, cbox k30 156 (.agg [(.int .i64 x18.Access.Method), p29.1.v, p29.2.v, (.int .i64 x18.At)].toArray), crd (RdS 3 rdInt) p29.1.v x18.Access.Values, crd (RdS 55 rd55) p29.2.v x18.Facts] ∧ s_IsCache_L2 a_l x18 rest61 k60 = some o25) ⟨_, 0, _, rfl, eqA, rfl, entA, hF⟩ ?_)
    clear hF
    rintro m58 _ _ ⟨g59, k60, rest61, rfl, rfl, hd63, hE, hF⟩
    refine K_ent hE ?_
    clear hE
    refine K_pure (c := crd (RdS 55 rd55) p29.2.v x18.Facts) (.t (.t (.t (.t (.t (.t .h)))))) crd_bound (fun hbd68 => ?_)
    rcases rest61 with _ | ⟨x62, rest61⟩
    · have hk64 := List.drop_eq_nil_iff.1 hd63
      rw [s_IsCache_L2] at hF
      iterate 8 refine au ?_
      refine CdF ?_
      iterate 4 refine au ?_
      cases hF
      exact ⟨_, rfl, eqA, entA⟩
    obtain ⟨hk64, hx65, hd66⟩ := drop_cons hd63
    rw [s_IsCache_L2] at hF
    iterate 8 refine au ?_
    refine CdT ?_
    iterate 2 refine au ?_
    refine K_draw [0, 1, 2, 3, 4, 5, 6, 7, 8, 9, 10, 11, 12, 13, 14, 15] [0, 0, 2, 6, 15, 31, 0, 64, 192, 0, 512, 0, 3584, 7680, 16383, 32767] [14] mixed (by decide +kernel) ?_
    iterate 3 refine du ?_
    refine D_atO rfl .no (.t (.t (.t (.t .h)))) (fun ha hp => V_load (v := (.int .i64 x18.Access.Method)) ag3.h (EN ha (.tmp rfl rfl) rfl) hp.2 rfl rfl) ?_
    obtain ⟨x69, hx70, hF⟩ := bind_some hF
    obtain ⟨hp71, hx72⟩ := ix_some hx70
    refine Di hx72 (fun k73 j74 => ?_)
    refine DlA1 (ul114_0_114 x69) la114_0_114 (fun p75 => ?_)
    iterate 2 refine du ?_
    refine D_atO rfl .no (.t (.t (.t (.t (.t (.t .h)))))) (fun ha hp => V_load (v := p29.1.v) ag22.h (EN ha (.tmp rfl rfl) rfl) hp.2 rfl rfl) ?_
    refine du ?_
    refine D_atO rfl .no (.t (.t (.t (.t (.t (.t .h)))))) (fun ha hp => V_load (v := p29.2.v) ag43.h (EN ha (.tmp rfl rfl) rfl) hp.2 rfl rfl) ?_
    refine du ?_
    refine Di hx65 (fun k76 j77 => ?_)
    refine DlA1 (ul55_0_55 x62) la55_0_55 (fun p78 => ?_)
    obtain ⟨r79, hx80, hF⟩ := bind_some hF
    refine Dx0 (s_l5Fits_ok _ _ _ _ _ _ _ hx80) (fun _ => ?_)
    iterate 2 refine du ?_
    refine Cc (fun hb83 => ?_) (fun hb83 => ?_)
    · rw [if_pos hb83] at hF
      iterate 4 refine au ?_
      cases hF
      replace hF := hO26
      try dsimp only at hF
      cases hF
      exact Er ()
    rw [if_neg (nt hb83)] at hF
    iterate 6 refine au ?_
    rw [wk k60]
    exact ⟨_, Nat.lt_succ_self _, _, k60 + 1, rest61, rfl, eqA, hd66, entA, hF⟩
  rintro _ _ ⟨g87, rfl, rfl, hE⟩
  replace hF := hO26
  clear hO26
  try dsimp only at hF
  refine K_ent hE ?_
  iterate 5 refine au ?_
  rw [wk k16]
  exact ⟨_, Nat.lt_succ_self _, _, k16 + 1, rest17, rfl, eqA, hd22, entA, hF⟩

/-! spec.l18Times -/
def s_l18Times_L1 (a_times : List Int) : List Int → Nat → Option (Bool)
  | [], k4 => some (decide (((a_times.length : Int) : Int) ≤ 1000))
  | x6 :: rest5, k4 => ((s_l1In x6 0 10000).bind fun r17 =>
      bif (!r17) then (some true)
      else (bif (decide ((0 : Int) < (k4 : Int))) then ((ix a_times (IntKind.i64.wrap ((k4 : Int) - 1))).bind fun x24 =>
          some (decide ((x6 : Int) < x24)))
        else (some false))).bind fun o13 =>
    match o13 with
    | c30 => if c30 then (
        some false)
      else (
        s_l18Times_L1 a_times rest5 (k4 + 1))
def s_l18Times (a_times : List Int) : Option (Bool) :=
  s_l18Times_L1 a_times a_times 0
theorem s_l18Times_ok (a_times : List Int) (v0_0 : Sv) (R : Bool) (hF : s_l18Times a_times = some R) :
    Fw.Spec Tryz.prog 78 [v0_0.v] [crd (RdS 3 rdInt) v0_0.v a_times] (fun _ : Unit => (.bool R)) (fun _ => []) := by
  refine Spec_enter (n := 35) Tryz.func78 rfl rfl (rs := [.tmp 2]) rfl rfl rfl ?_
  intro H0 F0
  unfold s_l18Times at hF
  iterate 7 refine au ?_
  refine CW_block (CW_loop (m := a_times.length) (fun m2 f' cs' => ∃ (g : Fr) (k4 : Nat) (rest5 : List Int), m2 = rest5.length ∧ f' = updL g [(0, v0_0.v), (3, (.int .i64 (k4 : Int)))] ∧ List.drop k4 a_times = rest5 ∧ Ent cs' [crd (RdS 3 rdInt) v0_0.v a_times] ∧ s_l18Times_L1 a_times rest5 k4 = some R) ⟨_, 0, _, rfl, eqA, rfl, entA, hF⟩ ?_)
  clear hF
  rintro m2 _ _ ⟨g3, k4, rest5, rfl, rfl, hd7, hE, hF⟩
  refine K_ent hE ?_
  clear hE
  refine K_pure (c := crd (RdS 3 rdInt) v0_0.v a_times) .h crd_bound (fun hbd12 => ?_)
  rcases rest5 with _ | ⟨x6, rest5⟩
  · have hk8 := List.drop_eq_nil_iff.1 hd7
    rw [s_l18Times_L1] at hF
    iterate 7 refine au ?_
    refine CdF ?_
    iterate 11 refine au ?_
    cases hF
    exact Er ()
  obtain ⟨hk8, hx9, hd10⟩ := drop_cons hd7
  rw [s_l18Times_L1] at hF
  iterate 7 refine au ?_
  refine CdT ?_
  iterate 2 refine au ?_
  obtain ⟨o13, hio13, hO14⟩ := bind_some hF
  refine K_draw [0, 1, 2, 3, 4, 5, 6, 7, 8, 9, 10, 11, 12, 13, 14, 15, 16, 17, 18, 19, 20, 21] [0, 0, 3, 7, 15, 31, 63, 127, 255, 511, 1023, 1023, 4095, 8191, 1023, 1023, 33791, 115711, 246783, 524287, 1048575, 2097151] [4] mixed (by decide +kernel) ?_
  refine D_cut (fun f' cs' => ∃ (c30 : Bool) (g : Fr), c30 = o13 ∧ f' = updL g [(0, v0_0.v), (3, (.int .i64 (k4 : Int))), (31, (.bool c30))] ∧ Ent cs' [crd (RdS 3 rdInt) v0_0.v a_times]) ?_ ?_
  · replace hF := hio13
    iterate 2 refine du ?_
    refine Di hx9 (fun k15 j16 => ?_)
    refine Dl ls3_0 ?_
    obtain ⟨r17, hx18, hF⟩ := bind_some hF
    refine Dx0 (s_l1In_ok _ _ _ _ hx18) (fun _ => ?_)
    iterate 2 refine du ?_
    rcases Bool.eq_false_or_eq_true (!r17) with hg20 | hg20
    · rw [hg20]
      try rw [hg20] at hF; dsimp only [cond_true, cond_false] at hF
      iterate 16 refine du ?_
      cases hF
      exact ⟨_, _, rfl, eqA, entA⟩
    rw [hg20]
    try rw [hg20] at hF; dsimp only [cond_true, cond_false] at hF
    iterate 3 refine du ?_
    rcases Bool.eq_false_or_eq_true (decide ((0 : Int) < (k4 : Int))) with hg21 | hg21
    · rw [hg21]
      try rw [hg21] at hF; dsimp only [cond_true, cond_false] at hF
      iterate 2 refine du ?_
      refine Di hx9 (fun k22 j23 => ?_)
      refine Dl ls3_0 ?_
      iterate 3 refine du ?_
      obtain ⟨x24, hx25, hF⟩ := bind_some hF
      obtain ⟨hp26, hx27⟩ := ix_some hx25
      refine Di hx27 (fun k28 j29 => ?_)
      refine Dl ls3_0 ?_
      iterate 4 refine du ?_
      cases hF
      exact ⟨_, _, rfl, eqA, entA⟩
    rw [hg21]
    try rw [hg21] at hF; dsimp only [cond_true, cond_false] at hF
    iterate 13 refine du ?_
    cases hF
    exact ⟨_, _, rfl, eqA, entA⟩
  rintro _ _ ⟨c30, g33, rfl, rfl, hE⟩
  replace hF := hO14
  clear hO14
  try dsimp only at hF
  refine K_ent hE ?_
  refine Cc (fun hb32 => ?_) (fun hb32 => ?_)
  · rw [if_pos hb32] at hF
    iterate 4 refine au ?_
    cases hF
    exact Er ()
  rw [if_neg (nt hb32)] at hF
  iterate 6 refine au ?_
  rw [wk k4]
  exact ⟨_, Nat.lt_succ_self _, _, k4 + 1, rest5, rfl, eqA, hd10, entA, hF⟩

/-! spec.IsMediator -/
def s_IsMediator_L1 (a_m : Mediator) : List Access → Nat → Option (Bool)
  | [], k27 => ((s_l1In a_m.Now 0 10000).bind fun r38 =>
      bif r38 then (bif (decide (((a_m.Log.length : Int) : Int) ≤ 1000)) then (bif (((a_m.Times.length : Int) : Int) == (a_m.Log.length : Int)) then ((s_l18Times a_m.Times).bind fun r44 =>
            bif r44 then ((s_l1In a_m.Spent 0 1000000).bind fun r48 =>
              bif r48 then (some (decide (((a_m.Results.length : Int) : Int) ≤ 100)))
              else (some false))
            else (some false))
          else (some false))
        else (some false))
      else (some false)).bind fun o36 =>
    match o36 with
    | c52 => some c52
  | x29 :: rest28, k27 => (s_IsAccess a_m.Schema a_m.Methods x29).bind fun r57 =>
    if (!r57) then (
      some false)
    else (
      s_IsMediator_L1 a_m rest28 (k27 + 1))
def s_IsMediator (a_m : Mediator) : Option (Bool) :=
  ((s_IsSchema a_m.Schema).bind fun r4 =>
    bif (!r4) then (some true)
    else ((s_AreMethods a_m.Schema a_m.Methods).bind fun r8 =>
      bif (!r8) then (some true)
      else ((s_AreRules a_m.Schema a_m.Rules).bind fun r12 =>
        bif (!r12) then (some true)
        else ((s_IsSource a_m.Schema a_m.Source).bind fun r16 =>
          bif (!r16) then (some true)
          else ((s_IsCache a_m.Schema a_m.Methods a_m.Cache).bind fun r20 =>
            some (!r20)))))).bind fun o2 =>
  match o2 with
  | c23 => if c23 then (
      some false)
    else (
      s_IsMediator_L1 a_m a_m.Log 0)
theorem s_IsMediator_ok (a_m : Mediator) (v0_0 : Sv) (v0_1 : Sv) (v0_2 : Sv) (v0_3 : Sv) (v0_5 : Sv) (v0_8 : Sv) (v0_9 : Sv) (v0_11 : Sv) (R : Bool) (hF : s_IsMediator a_m = some R) :
    Fw.Spec Tryz.prog 24 [(.agg [v0_0.v, v0_1.v, v0_2.v, v0_3.v, (.int .i64 a_m.Source.Version), v0_5.v, (.int .i64 a_m.Cache.Age), (.int .i64 a_m.Now), v0_8.v, v0_9.v, (.int .i64 a_m.Spent), v0_11.v].toArray)] [crd (RdS 3 rdInt) v0_0.v a_m.Schema, crd (RdS 114 rd114) v0_1.v a_m.Methods, crd (RdS 116 rd116) v0_2.v a_m.Rules, crd (RdS 55 rd55) v0_3.v a_m.Source.Facts, crd (RdS 156 rd156) v0_5.v a_m.Cache.Entries, crd (RdS 124 rd124) v0_8.v a_m.Log, crd (RdS 3 rdInt) v0_9.v a_m.Times, crd (RdS 110 (RdS 22 (RdS 3 rdInt))) v0_11.v a_m.Results] (fun _ : Unit => (.bool R)) (fun _ => []) := by
  refine Spec_enter (n := 94) Tryz.func24 rfl rfl (rs := [.tmp 2]) rfl rfl rfl ?_
  intro H0 F0
  unfold s_IsMediator at hF
  refine au ?_
  refine AbR (fun k1 => ?_)
  iterate 3 refine au ?_
  obtain ⟨o2, hio2, hO3⟩ := bind_some hF
  refine au ?_
  refine C_cut (fun f' cs' => ∃ (c23 : Bool) (g : Fr), c23 = o2 ∧ f' = updL g [(1, (.pointer (some ⟨k1, 0, some 0⟩))), (41, (.bool c23))] ∧ Ent cs' [cboR k1 51 (.agg [v0_0.v, v0_1.v, v0_2.v, v0_3.v, (.int .i64 a_m.Source.Version), v0_5.v, (.int .i64 a_m.Cache.Age), (.int .i64 a_m.Now), v0_8.v, v0_9.v, (.int .i64 a_m.Spent), v0_11.v].toArray), crd (RdS 3 rdInt) v0_0.v a_m.Schema, crd (RdS 114 rd114) v0_1.v a_m.Methods, crd (RdS 116 rd116) v0_2.v a_m.Rules, crd (RdS 55 rd55) v0_3.v a_m.Source.Facts, crd (RdS 156 rd156) v0_5.v a_m.Cache.Entries, crd (RdS 124 rd124) v0_8.v a_m.Log, crd (RdS 3 rdInt) v0_9.v a_m.Times, crd (RdS 110 (RdS 22 (RdS 3 rdInt))) v0_11.v a_m.Results]) ?_ ?_
  · replace hF := hio2
    iterate 2 refine au ?_
    obtain ⟨r4, hx5, hF⟩ := bind_some hF
    refine Cx0 (s_IsSchema_ok _ _ _ hx5) (fun _ => ?_)
    iterate 2 refine au ?_
    rcases Bool.eq_false_or_eq_true (!r4) with hg7 | hg7
    · rw [hg7]
      try rw [hg7] at hF; dsimp only [cond_true, cond_false] at hF
      iterate 34 refine au ?_
      cases hF
      exact ⟨_, _, rfl, eqA, entA⟩
    rw [hg7]
    try rw [hg7] at hF; dsimp only [cond_true, cond_false] at hF
    iterate 9 refine au ?_
    obtain ⟨r8, hx9, hF⟩ := bind_some hF
    refine Cx0 (s_AreMethods_ok _ _ _ _ _ hx9) (fun _ => ?_)
    iterate 4 refine au ?_
    rcases Bool.eq_false_or_eq_true (!r8) with hg11 | hg11
    · rw [hg11]
      try rw [hg11] at hF; dsimp only [cond_true, cond_false] at hF
      iterate 26 refine au ?_
      cases hF
      exact ⟨_, _, rfl, eqA, entA⟩
    rw [hg11]
    try rw [hg11] at hF; dsimp only [cond_true, cond_false] at hF
    iterate 9 refine au ?_
    obtain ⟨r12, hx13, hF⟩ := bind_some hF
    refine Cx0 (s_AreRules_ok _ _ _ _ _ hx13) (fun _ => ?_)
    iterate 4 refine au ?_
    rcases Bool.eq_false_or_eq_true (!r12) with hg15 | hg15
    · rw [hg15]
      try rw [hg15] at hF; dsimp only [cond_true, cond_false] at hF
      iterate 18 refine au ?_
      cases hF
      exact ⟨_, _, rfl, eqA, entA⟩
    rw [hg15]
    try rw [hg15] at hF; dsimp only [cond_true, cond_false] at hF
    iterate 7 refine au ?_
    refine C_at .h (fun hp => V_loadA (s := 2) (l := [v0_3.v, (.int .i64 a_m.Source.Version)]) ag45.h ty45.h.sz (.tmp rfl rfl) hp.2 rfl (by decide) (Nat.le_of_ble_eq_true rfl) rfl) ?_
    refine au ?_
    obtain ⟨r16, hx17, hF⟩ := bind_some hF
    refine Cx0 (s_IsSource_ok _ _ _ _ _ hx17) (fun _ => ?_)
    iterate 4 refine au ?_
    rcases Bool.eq_false_or_eq_true (!r16) with hg19 | hg19
    · rw [hg19]
      try rw [hg19] at hF; dsimp only [cond_true, cond_false] at hF
      iterate 10 refine au ?_
      cases hF
      exact ⟨_, _, rfl, eqA, entA⟩
    rw [hg19]
    try rw [hg19] at hF; dsimp only [cond_true, cond_false] at hF
    iterate 11 refine au ?_
    refine C_at .h (fun hp => V_loadA (s := 2) (l := [v0_5.v, (.int .i64 a_m.Cache.Age)]) ag48.h ty48.h.sz (.tmp rfl rfl) hp.2 rfl (by decide) (Nat.le_of_ble_eq_true rfl) rfl) ?_
    refine au ?_
    obtain ⟨r20, hx21, hF⟩ := bind_some hF
    refine Cx0 (s_IsCache_ok _ _ _ _ _ _ _ hx21) (fun _ => ?_)
    iterate 4 refine au ?_
    cases hF
    exact ⟨_, _, rfl, eqA, entA⟩
  rintro _ _ ⟨c23, g63, rfl, rfl, hE⟩
  replace hF := hO3
  clear hO3
  try dsimp only at hF
  refine K_ent hE ?_
  refine Cc (fun hb62 => ?_) (fun hb62 => ?_)
  · rw [if_pos hb62] at hF
    iterate 4 refine au ?_
    cases hF
    exact Er ()
  rw [if_neg (nt hb62)] at hF
  iterate 5 refine au ?_
  refine CW_block (CW_loop (m := a_m.Log.length) (fun m25 f' cs' => ∃ (g : Fr) (k27 : Nat) (rest28 : List Access), m25 = rest28.length ∧ f' = updL g [(1, (.pointer (some ⟨k1, 0, some 0⟩))), (3, (.int .i64 (k27 : Int)))] ∧ List.drop k27 a_m.Log = rest28 ∧ Ent cs' [cboR k1 51 (.agg [v0_0.v, v0_1.v, v0_2.v, v0_3.v, (.int .i64 a_m.Source.Version), v0_5.v, (.int .i64 a_m.Cache.Age), (.int .i64 a_m.Now), v0_8.v, v0_9.v, (.int .i64 a_m.Spent), v0_11.v].toArray), crd (RdS 3 rdInt) v0_0.v a_m.Schema, crd (RdS 114 rd114) v0_1.v a_m.Methods, crd (RdS 116 rd116) v0_2.v a_m.Rules, crd (RdS 55 rd55) v0_3.v a_m.Source.Facts, crd (RdS 156 rd156) v0_5.v a_m.Cache.Entries, crd (RdS 124 rd124) v0_8.v a_m.Log, crd (RdS 3 rdInt) v0_9.v a_m.Times, crd (RdS 110 (RdS 22 (RdS 3 rdInt))) v0_11.v a_m.Results] ∧ s_IsMediator_L1 a_m rest28 k27 = some R) ⟨_, 0, _, rfl, eqA, rfl, entA, hF⟩ ?_)
  clear hF
  rintro m25 _ _ ⟨g26, k27, rest28, rfl, rfl, hd30, hE, hF⟩
  refine K_ent hE ?_
  clear hE
  refine K_pure (c := crd (RdS 124 rd124) v0_8.v a_m.Log) (.t (.t (.t (.t (.t (.t .h)))))) crd_bound (fun hbd35 => ?_)
  rcases rest28 with _ | ⟨x29, rest28⟩
  · have hk31 := List.drop_eq_nil_iff.1 hd30
    rw [s_IsMediator_L1] at hF
    iterate 8 refine au ?_
    refine CdF ?_
    iterate 4 refine au ?_
    obtain ⟨o36, hio36, hO37⟩ := bind_some hF
    refine au ?_
    refine C_cut (fun f' cs' => ∃ (c52 : Bool) (g : Fr), c52 = o36 ∧ f' = updL g [(2, (.bool c52))] ∧ Ent cs' []) ?_ ?_
    · replace hF := hio36
      iterate 2 refine au ?_
      obtain ⟨r38, hx39, hF⟩ := bind_some hF
      refine Cx0 (s_l1In_ok _ _ _ _ hx39) (fun _ => ?_)
      refine au ?_
      rcases Bool.eq_false_or_eq_true r38 with hg41 | hg41
      · rw [hg41]
        try rw [hg41] at hF; dsimp only [cond_true, cond_false] at hF
        iterate 10 refine au ?_
        rcases Bool.eq_false_or_eq_true (decide (((a_m.Log.length : Int) : Int) ≤ 1000)) with hg42 | hg42
        · rw [hg42]
          try rw [hg42] at hF; dsimp only [cond_true, cond_false] at hF
          iterate 16 refine au ?_
          rcases Bool.eq_false_or_eq_true (((a_m.Times.length : Int) : Int) == (a_m.Log.length : Int)) with hg43 | hg43
          · rw [hg43]
            try rw [hg43] at hF; dsimp only [cond_true, cond_false] at hF
            iterate 5 refine au ?_
            obtain ⟨r44, hx45, hF⟩ := bind_some hF
            refine Cx0 (s_l18Times_ok _ _ _ hx45) (fun _ => ?_)
            iterate 2 refine au ?_
            rcases Bool.eq_false_or_eq_true r44 with hg47 | hg47
            · rw [hg47]
              try rw [hg47] at hF; dsimp only [cond_true, cond_false] at hF
              iterate 5 refine au ?_
              obtain ⟨r48, hx49, hF⟩ := bind_some hF
              refine Cx0 (s_l1In_ok _ _ _ _ hx49) (fun _ => ?_)
              iterate 2 refine au ?_
              rcases Bool.eq_false_or_eq_true r48 with hg51 | hg51
              · rw [hg51]
                try rw [hg51] at hF; dsimp only [cond_true, cond_false] at hF
                iterate 11 refine au ?_
                cases hF
                exact ⟨_, _, rfl, eqA, entA⟩
              rw [hg51]
              try rw [hg51] at hF; dsimp only [cond_true, cond_false] at hF
              iterate 7 refine au ?_
              cases hF
              exact ⟨_, _, rfl, eqA, entA⟩
            rw [hg47]
            try rw [hg47] at hF; dsimp only [cond_true, cond_false] at hF
            iterate 12 refine au ?_
            cases hF
            exact ⟨_, _, rfl, eqA, entA⟩
          rw [hg43]
          try rw [hg43] at hF; dsimp only [cond_true, cond_false] at hF
          iterate 17 refine au ?_
          cases hF
          exact ⟨_, _, rfl, eqA, entA⟩
        rw [hg42]
        try rw [hg42] at hF; dsimp only [cond_true, cond_false] at hF
        iterate 26 refine au ?_
        cases hF
        exact ⟨_, _, rfl, eqA, entA⟩
      rw [hg41]
      try rw [hg41] at hF; dsimp only [cond_true, cond_false] at hF
      iterate 32 refine au ?_
      cases hF
      exact ⟨_, _, rfl, eqA, entA⟩
    rintro _ _ ⟨c52, g53, rfl, rfl, hE⟩
    replace hF := hO37
    clear hO37
    try dsimp only at hF
    refine K_ent hE ?_
    refine au ?_
    cases hF
    exact Er ()
  obtain ⟨hk31, hx32, hd33⟩ := drop_cons hd30
  rw [s_IsMediator_L1] at hF
  iterate 8 refine au ?_
  refine CdT ?_
  iterate 2 refine au ?_
  refine K_draw [0, 1, 2, 3, 4, 5, 6, 7, 8, 9, 10] [0, 1, 0, 4, 0, 16, 0, 112, 240, 511, 1023] [9] mixed (by decide +kernel) ?_
  iterate 7 refine du ?_
  refine Di hx32 (fun k54 j55 => ?_)
  refine DlA1 (ul124_0_124 x29) la124_0_124 (fun p56 => ?_)
  obtain ⟨r57, hx58, hF⟩ := bind_some hF
  refine Dx0 (s_IsAccess_ok _ _ _ _ _ _ _ hx58) (fun _ => ?_)
  iterate 2 refine du ?_
  refine Cc (fun hb61 => ?_) (fun hb61 => ?_)
  · rw [if_pos hb61] at hF
    iterate 4 refine au ?_
    cases hF
    exact Er ()
  rw [if_neg (nt hb61)] at hF
  iterate 6 refine au ?_
  rw [wk k27]
  exact ⟨_, Nat.lt_succ_self _, _, k27 + 1, rest28, rfl, eqA, hd33, entA, hF⟩

/-! spec.HasFact -/
def s_HasFact_L1 (a_f : Fact) : List Fact → Nat → Option (Bool)
  | [], k5 => some false
  | x7 :: rest6, k5 => (s_CompareFacts x7 a_f).bind fun r17 =>
    if ((r17 : Int) == 0) then (
      some true)
    else (
      s_HasFact_L1 a_f rest6 (k5 + 1))
def s_HasFact (a_l : List Fact) (a_f : Fact) : Option (Bool) :=
  s_HasFact_L1 a_f a_l 0
theorem s_HasFact_ok (a_l : List Fact) (v0_0 : Sv) (a_f : Fact) (v1_1 : Sv) (R : Bool) (hF : s_HasFact a_l a_f = some R) :
    Fw.Spec Tryz.prog 80 [v0_0.v, (.agg [(.int .i64 a_f.Rel), v1_1.v].toArray)] [crd (RdS 55 rd55) v0_0.v a_l, crd (RdS 3 rdInt) v1_1.v a_f.Values] (fun _ : Unit => (.bool R)) (fun _ => []) := by
  refine Spec_enter (n := 19) Tryz.func80 rfl rfl (rs := [.tmp 4]) rfl rfl rfl ?_
  intro H0 F0
  unfold s_HasFact at hF
  refine K_region (C_newR rfl (N_box (g := false) (v := (.agg [(.int .i64 a_f.Rel), v1_1.v].toArray)) ty55.h.sz (.tmp rfl rfl) rfl) (fun k1 => ?_))
  refine C_val (V_assign (v := (.bool false)) (.bool _)) ?_
  refine C_nil (K_in (K_region (C_val (V_assign (v := (.int .i64 0)) (.int _ _)) ?_)))
  refine C_nil (CW_block (CW_loop (m := a_l.length) (fun m3 f' cs' => ∃ (g : Fr) (k5 : Nat) (rest6 : List Fact), m3 = rest6.length ∧ f' = updL g [(0, v0_0.v), (3, (.pointer (some ⟨k1, 0, some 0⟩))), (5, (.int .i64 (k5 : Int)))] ∧ List.drop k5 a_l = rest6 ∧ Ent cs' [crd (RdS 55 rd55) v0_0.v a_l, cboR k1 55 (.agg [(.int .i64 a_f.Rel), v1_1.v].toArray), crd (RdS 3 rdInt) v1_1.v a_f.Values] ∧ s_HasFact_L1 a_f rest6 k5 = some R) ⟨_, 0, _, rfl, (EqL.cons rfl (EqL.cons rfl (EqL.cons rfl (EqL.nil)))).eq, rfl, (.sel (.rd (.t .h) rfl (.rd .h rfl (.rd (.t (.t .h)) rfl .nil)))), hF⟩ ?_))
  clear hF
  rintro m3 _ _ ⟨g4, k5, rest6, rfl, rfl, hd8, hE, hF⟩
  refine K_ent hE ?_
  clear hE
  refine K_pure (c := crd (RdS 55 rd55) v0_0.v a_l) .h crd_bound (fun hbd13 => ?_)
  rcases rest6 with _ | ⟨x7, rest6⟩
  · have hk9 := List.drop_eq_nil_iff.1 hd8
    have hfe12 : (decide (((k5 : Int) : Int) < (a_l.length : Int))) = false := decide_eq_false (by omega)
    rw [s_HasFact_L1] at hF
    refine K_in (K_region (Cm (.int .i64 (k5 : Int)) rfl rfl ?_))
    refine Cm v0_0.v rfl rfl ?_
    refine C_at .h (fun hp => V_lenR (l := a_l.length) sl43.h (.tmp rfl rfl) (crd_len hp)) ?_
    refine C_val (V_lss (i := (k5 : Int)) (j := (a_l.length : Int)) (.tmp rfl rfl) (.tmp rfl rfl)) ?_
    refine C_nil (CW_cond (b := (decide (((k5 : Int) : Int) < (a_l.length : Int)))) (.tmp rfl rfl) (fun hb => absurd (hfe12.symm.trans hb) (by decide)) (fun _ => ?_))
    refine CW_exit ?_
    iterate 2 refine CThen_exit ?_
    refine CIn_self (K_region (C_val (V_assign (v := (.bool false)) (.bool _)) ?_))
    refine C_nil (CW_ret ?_)
    obtain rfl := Option.some.inj hF
    exact End_ret () (.tmp rfl rfl .nil) rfl (.sel .nil)
  obtain ⟨hk9, hx10, hd11⟩ := drop_cons hd8
  have hfe12 : (decide (((k5 : Int) : Int) < (a_l.length : Int))) = true := decide_eq_true (by omega)
  rw [s_HasFact_L1] at hF
  refine K_in (K_region (Cm (.int .i64 (k5 : Int)) rfl rfl ?_))
  refine Cm v0_0.v rfl rfl ?_
  refine C_at .h (fun hp => V_lenR (l := a_l.length) sl43.h (.tmp rfl rfl) (crd_len hp)) ?_
  refine C_val (V_lss (i := (k5 : Int)) (j := (a_l.length : Int)) (.tmp rfl rfl) (.tmp rfl rfl)) ?_
  refine C_nil (CW_cond (b := (decide (((k5 : Int) : Int) < (a_l.length : Int)))) (.tmp rfl rfl) (fun _ => ?_) (fun hb => absurd (hfe12.symm.trans hb) (by decide)))
  refine CW_skip (K_block (K_draw [0, 1, 2, 3, 4, 5, 6] [0, 0, 3, 7, 0, 31, 63] [5] mixed (by decide +kernel) ?_))
  refine Dm v0_0.v rfl rfl rfl rfl ?_
  refine Dm (.int .i64 (k5 : Int)) rfl rfl rfl rfl ?_
  refine D_idx (a := x7) sl43.h ty55.h.sz rfl .no (.tmp rfl rfl) (.tmp rfl rfl) rfl rfl .h (Int.natCast_nonneg k5) hx10 (fun k14 j15 => ?_)
  refine D_ldA1 (ul55_0_55 x7) ag55.h ty55.h.sz rfl rfl .no (.tmp rfl rfl) rfl .h la55_0_55 (fun p16 => ?_)
  refine D_at rfl .no (.t (.t (.t .h))) rfl (fun ha hp => V_loadBox ag55.h ty55.h.sz rfl (EN ha (.tmp rfl rfl) rfl) hp.2 rfl) ?_
  obtain ⟨r17, hx18, hF⟩ := bind_some hF
  refine D_act0 rfl rfl .no (.rd .h rfl (.rd (.t (.t (.t (.t .h)))) rfl .nil)) .nil (fun ha => X_callS cf82.h (.cons (EN ha (.tmp rfl rfl) rfl) (.cons (EN ha (.tmp rfl rfl) rfl) .nil)) (s_CompareFacts_ok x7 p16 a_f v1_1 _ hx18)) (fun _ => ?_)
  refine D_val rfl .no (fun ha => V_eql (i := r17) (j := 0) (EN ha (.tmp rfl rfl) rfl) (EN ha (.int _ _) rfl)) ?_
  refine D_nil (CW_cond (b := ((r17 : Int) == 0)) (.tmp rfl rfl) (fun hb21 => ?_) (fun hb21 => ?_))
  · rw [if_pos hb21] at hF
    refine K_region (C_val (V_assign (v := (.bool true)) (.bool _)) ?_)
    refine C_nil (CW_ret ?_)
    obtain rfl := Option.some.inj hF
    exact End_ret () (.tmp rfl rfl .nil) rfl (.sel .nil)
  rw [if_neg (by rw [hb21]; exact Bool.false_ne_true)] at hF
  refine CW_skip (CW_region (Cm (.int .i64 (k5 : Int)) rfl rfl ?_))
  refine C_val (V_add (i := (k5 : Int)) (j := 1) (.tmp rfl rfl) (.int _ _)) ?_
  refine Ca (.int .i64 (IntKind.i64.wrap ((k5 : Int) + 1))) rfl rfl ?_
  refine C_nil ?_
  have hw20 : IntKind.i64.wrap ((k5 : Int) + 1) = ((k5 + 1 : Nat) : Int) := by rw [wrap_in (by omega) (by omega)]; rfl
  rw [hw20]
  exact ⟨_, Nat.lt_succ_self _, _, k5 + 1, rest6, rfl, (EqL.cons rfl (EqL.cons rfl (EqL.cons rfl (EqL.nil)))).eq, hd11, (.sel (.rd (.t (.t .h)) rfl (.rd (.t (.t (.t .h))) rfl (.rd (.t (.t (.t (.t .h)))) rfl .nil)))), hF⟩

/-! spec.AddFact -/
def s_AddFact_L1 (a_f : Fact) : List Fact → Nat → (List Fact) → Bool → Option ((List Fact))
  | [], k13, c6, c9 => if (!c9) then (
      (s_l2One a_f.Rel a_f.Values).bind fun r22 =>
      (app c6 ([r22] : List Fact)).bind fun z26 =>
      some z26)
    else (
      some c6)
  | x15 :: rest14, k13, c6, c9 => ((bif (!c9) then ((s_CompareFacts a_f x15).bind fun r38 =>
          some (decide ((r38 : Int) < 0)))
        else (some false)).bind fun o32 =>
      match o32 with
      | c41 => if c41 then (
          (s_l2One a_f.Rel a_f.Values).bind fun r42 =>
          (app c6 ([r42] : List Fact)).bind fun z46 =>
          (s_l2One x15.Rel x15.Values).bind fun r54 =>
          (app z46 ([r54] : List Fact)).bind fun z58 =>
          some (z58, true))
        else (
          (s_l2One x15.Rel x15.Values).bind fun r66 =>
          (app c6 ([r66] : List Fact)).bind fun z70 =>
          some (z70, c9))).bind fun o30 =>
    match o30 with
    | (c75, c78) => s_AddFact_L1 a_f rest14 (k13 + 1) c75 c78
def s_AddFact (a_l : List Fact) (a_f : Fact) : Option ((List Fact)) :=
  (s_HasFact a_l a_f).bind fun r3 =>
  s_AddFact_L1 a_f a_l 0 ([] : List Fact) r3
theorem s_AddFact_ok (a_l : List Fact) (v0_0 : Sv) (a_f : Fact) (v1_1 : Sv) (R : (List Fact)) (hF : s_AddFact a_l a_f = some R) :
    Fw.Spec Tryz.prog 81 [v0_0.v, (.agg [(.int .i64 a_f.Rel), v1_1.v].toArray)] [crd (RdS 55 rd55) v0_0.v a_l, crd (RdS 3 rdInt) v1_1.v a_f.Values] (fun p : Sv × List Nat => p.1.v) (fun p => [cown (OwnS 55 ow55) p.2 p.1.v R]) := by
  refine Spec_enter (n := 62) Tryz.func81 rfl rfl (rs := [.tmp 4]) rfl rfl rfl ?_
  intro H0 F0
  unfold s_AddFact at hF
  refine K_region (C_newR rfl (N_box (g := false) (v := (.agg [(.int .i64 a_f.Rel), v1_1.v].toArray)) ty55.h.sz (.tmp rfl rfl) rfl) (fun k1 => ?_))
  refine C_val (V_assign (v := (.slice none 0 0)) EV.nilSlice) ?_
  refine C_nil (K_region (C_new rfl (N_buildSliceT (g := true) sl43.h ty55.h .nil (vs := []) rfl rfl rfl (by simp)) (fun k2 => ?_)))
  refine C_conv (.cons .h .nil) (own_lit (Ro := ow55) (E := 55) (F := []) (xs := ([] : List Fact)) MkL_nil rfl rfl) apps ?_
  refine Ca (.slice (some ⟨k2, 0, none⟩) 0 1) rfl rfl ?_
  refine C_nil (K_region (Cm v0_0.v rfl rfl ?_))
  refine C_at (.t .h) (fun hp => V_loadBox ag55.h ty55.h.sz rfl (.tmp rfl rfl) hp.2 rfl) ?_
  obtain ⟨r3, hx4, hF⟩ := bind_some hF
  refine C_x0 (.rd (.t (.t .h)) rfl (.rd (.t (.t (.t .h))) rfl .nil)) (X_callS cf80.h (.cons (.tmp rfl rfl) (.cons (.tmp rfl rfl) .nil)) (s_HasFact_ok a_l v0_0 a_f v1_1 _ hx4)) (fun _ => ?_)
  refine Ca (.bool r3) rfl rfl ?_
  refine C_nil (K_in (K_region (C_val (V_assign (v := (.int .i64 0)) (.int _ _)) ?_)))
  refine C_nil (CW_block (CW_loop (m := a_l.length) (fun m11 f' cs' => ∃ (g : Fr) (k13 : Nat) (rest14 : List Fact) (c6 : List Fact) (c9 : Bool) (v7 : Sv) (F8 : List Nat), m11 = rest14.length ∧ f' = updL g [(0, v0_0.v), (3, (.pointer (some ⟨k1, 0, some 0⟩))), (5, v7.v), (6, (.bool c9)), (7, (.int .i64 (k13 : Int)))] ∧ List.drop k13 a_l = rest14 ∧ Ent cs' [crd (RdS 55 rd55) v0_0.v a_l, cboR k1 55 (.agg [(.int .i64 a_f.Rel), v1_1.v].toArray), crd (RdS 3 rdInt) v1_1.v a_f.Values, cown (OwnS 55 ow55) F8 v7.v c6] ∧ s_AddFact_L1 a_f rest14 k13 c6 c9 = some R) ⟨_, 0, _, _, _, ⟨(some ⟨k2, 0, none⟩), 0, 1⟩, (k2 :: []), rfl, (EqL.cons rfl (EqL.cons rfl (EqL.cons rfl (EqL.cons rfl (EqL.cons rfl (EqL.nil)))))).eq, rfl, (.sel (.rd (.t (.t .h)) rfl (.rd (.t .h) rfl (.rd (.t (.t (.t .h))) rfl (.cons .h .nil))))), hF⟩ ?_))
  clear hF
  rintro m11 _ _ ⟨g12, k13, rest14, c6, c9, v7, F8, rfl, rfl, hd16, hE, hF⟩
  refine K_ent hE ?_
  clear hE
  refine K_pure (c := crd (RdS 55 rd55) v0_0.v a_l) .h crd_bound (fun hbd21 => ?_)
  rcases rest14 with _ | ⟨x15, rest14⟩
  · have hk17 := List.drop_eq_nil_iff.1 hd16
    have hfe20 : (decide (((k13 : Int) : Int) < (a_l.length : Int))) = false := decide_eq_false (by omega)
    rw [s_AddFact_L1] at hF
    refine K_in (K_region (Cm (.int .i64 (k13 : Int)) rfl rfl ?_))
    refine Cm v0_0.v rfl rfl ?_
    refine C_at .h (fun hp => V_lenR (l := a_l.length) sl43.h (.tmp rfl rfl) (crd_len hp)) ?_
    refine C_val (V_lss (i := (k13 : Int)) (j := (a_l.length : Int)) (.tmp rfl rfl) (.tmp rfl rfl)) ?_
    refine C_nil (CW_cond (b := (decide (((k13 : Int) : Int) < (a_l.length : Int)))) (.tmp rfl rfl) (fun hb => absurd (hfe20.symm.trans hb) (by decide)) (fun _ => ?_))
    refine CW_exit ?_
    iterate 2 refine CThen_exit ?_
    refine CIn_self (K_in (K_region (Cm (.bool c9) rfl rfl ?_)))
    refine C_val (V_not (b := c9) (.tmp rfl rfl)) ?_
    refine C_nil (CW_cond (b := (!c9)) (.tmp rfl rfl) (fun hb29 => ?_) (fun hb29 => ?_))
    · rw [if_pos hb29] at hF
      refine CW_region (Cm v7.v rfl rfl ?_)
      refine C_val (V_fieldAddr (off := 0) fd55_0.h (.tmp rfl rfl)) ?_
      refine C_at (.t .h) (fun hp => V_load (v := (.int .i64 a_f.Rel)) ag3.h (.tmp rfl rfl) hp.2 rfl rfl) ?_
      refine C_val (V_fieldAddr (off := 1) fd55_1.h (.tmp rfl rfl)) ?_
      refine C_at (.t .h) (fun hp => V_load (v := v1_1.v) ag22.h (.tmp rfl rfl) hp.2 rfl rfl) ?_
      obtain ⟨r22, hx23, hF⟩ := bind_some hF
      refine C_x1 (.rd (.t (.t .h)) rfl .nil) (X_callS cf83.h (.cons (.tmp rfl rfl) (.cons (.tmp rfl rfl) .nil)) (s_l2One_ok a_f.Rel a_f.Values v1_1 _ hx23)) (fun p24 => ?_)
      refine C_new rfl (N_buildSliceT (g := true) sl43.h ty55.h (.cons (.tmp rfl rfl) .nil) (vs := [(.agg [(.int .i64 r22.Rel), p24.1.v].toArray)]) rfl rfl rfl (by intro v hv; simp at hv; rcases hv with rfl <;> rfl)) (fun k25 => ?_)
      refine C_conv (.cons .h (.cons .h .nil)) (own_lit (Ro := ow55) (E := 55) (F := (p24.2 ++ [])) (xs := ([r22] : List Fact)) (MkL_cons mk55 MkL_nil apps) rfl rfl) apps ?_
      obtain ⟨z26, hx27, hF⟩ := bind_some hF
      refine C_x1 (.cons (.t (.t (.t (.t .h)))) (.cons .h .nil)) (X_appendO (Ro := ow55) sl43.h ni43 ty55.h rfl rfl rfl (.tmp rfl rfl) (.tmp rfl rfl) hx27 src_own) (fun p28 => ?_)
      refine Ca p28.1.v rfl rfl ?_
      refine C_nil (K_region (Cm p28.1.v rfl rfl ?_))
      refine Ca p28.1.v rfl rfl ?_
      refine C_nil (CW_ret ?_)
      obtain rfl := Option.some.inj hF
      exact End_ret (p28.1, p28.2) (.tmp rfl rfl .nil) rfl (.sel (.cons .h .nil))
    rw [if_neg (by rw [hb29]; exact Bool.false_ne_true)] at hF
    refine CW_skip (K_region (Cm v7.v rfl rfl ?_))
    refine Ca v7.v rfl rfl ?_
    refine C_nil (CW_ret ?_)
    obtain rfl := Option.some.inj hF
    exact End_ret (v7, F8) (.tmp rfl rfl .nil) rfl (.sel (.cons (.t (.t (.t .h))) .nil))
  obtain ⟨hk17, hx18, hd19⟩ := drop_cons hd16
  have hfe20 : (decide (((k13 : Int) : Int) < (a_l.length : Int))) = true := decide_eq_true (by omega)
  rw [s_AddFact_L1] at hF
  refine K_in (K_region (Cm (.int .i64 (k13 : Int)) rfl rfl ?_))
  refine Cm v0_0.v rfl rfl ?_
  refine C_at .h (fun hp => V_lenR (l := a_l.length) sl43.h (.tmp rfl rfl) (crd_len hp)) ?_
  refine C_val (V_lss (i := (k13 : Int)) (j := (a_l.length : Int)) (.tmp rfl rfl) (.tmp rfl rfl)) ?_
  refine C_nil (CW_cond (b := (decide (((k13 : Int) : Int) < (a_l.length : Int)))) (.tmp rfl rfl) (fun _ => ?_) (fun hb => absurd (hfe20.symm.trans hb) (by decide)))
  refine CW_skip ?_
  obtain ⟨o30, hio30, hO31⟩ := bind_some hF
  refine K_cut (fun f' cs' => ∃ (c75 : List Fact) (c78 : Bool) (v76 : Sv) (F77 : List Nat) (g : Fr), o30 = (c75, c78) ∧ f' = updL g [(0, v0_0.v), (3, (.pointer (some ⟨k1, 0, some 0⟩))), (5, v76.v), (6, (.bool c78)), (7, (.int .i64 (k13 : Int)))] ∧ Ent cs' [crd (RdS 55 rd55) v0_0.v a_l, cboR k1 55 (.agg [(.int .i64 a_f.Rel), v1_1.v].toArray), crd (RdS 3 rdInt) v1_1.v a_f.Values, cown (OwnS 55 ow55) F77 v76.v c75]) ?_ ?_
  · replace hF := hio30
    refine CW_block (K_in ?_)
    obtain ⟨o32, hio32, hO33⟩ := bind_some hF
    refine K_draw [0, 1, 2, 3, 4, 5, 6, 7, 8, 9, 10] [0, 1, 3, 7, 7, 7, 55, 119, 255, 511, 1023] [8] mixed (by decide +kernel) ?_
    refine D_cut (fun f' cs' => ∃ (c41 : Bool) (g : Fr), c41 = o32 ∧ f' = updL g [(0, v0_0.v), (3, (.pointer (some ⟨k1, 0, some 0⟩))), (5, v7.v), (6, (.bool c9)), (7, (.int .i64 (k13 : Int))), (28, (.bool c41))] ∧ Ent cs' [crd (RdS 55 rd55) v0_0.v a_l, cboR k1 55 (.agg [(.int .i64 a_f.Rel), v1_1.v].toArray), crd (RdS 3 rdInt) v1_1.v a_f.Values, cown (OwnS 55 ow55) F8 v7.v c6]) ?_ ?_
    · replace hF := hio32
      refine Dm (.bool c9) rfl rfl rfl rfl ?_
      refine D_val rfl .no (fun ha => V_not (b := c9) (EN ha (.tmp rfl rfl) rfl)) ?_
      refine Dm (.bool (!c9)) rfl rfl rfl rfl ?_
      rcases Bool.eq_false_or_eq_true (!c9) with hg34 | hg34
      · rw [hg34]
        try rw [hg34] at hF; dsimp only [cond_true, cond_false] at hF
        refine D_at rfl (.on 20 rfl rfl rfl) (.t .h) rfl (fun ha hp => V_loadBox ag55.h ty55.h.sz rfl (EN ha (.tmp rfl rfl) rfl) hp.2 rfl) ?_
        refine D_val rfl (.on 20 rfl rfl rfl) (fun ha => V_move (v := v0_0.v) (EN ha (.tmp rfl rfl) rfl)) ?_
        refine D_val rfl (.on 20 rfl rfl rfl) (fun ha => V_move (v := (.int .i64 (k13 : Int))) (EN ha (.tmp rfl rfl) rfl)) ?_
        refine D_idx (a := x15) sl43.h ty55.h.sz rfl (.on 20 rfl rfl rfl) (.tmp rfl rfl) (.tmp rfl rfl) rfl rfl .h (Int.natCast_nonneg k13) hx18 (fun k35 j36 => ?_)
        refine D_ldA1 (ul55_0_55 x15) ag55.h ty55.h.sz rfl rfl (.on 20 rfl rfl rfl) (.tmp rfl rfl) rfl .h la55_0_55 (fun p37 => ?_)
        obtain ⟨r38, hx39, hF⟩ := bind_some hF
        refine D_act0 rfl rfl (.on 20 rfl rfl rfl) (.rd (.t (.t (.t (.t .h)))) rfl (.rd .h rfl .nil)) .nil (fun ha => X_callS cf82.h (.cons (EN ha (.tmp rfl rfl) rfl) (.cons (EN ha (.tmp rfl rfl) rfl) .nil)) (s_CompareFacts_ok a_f v1_1 x15 p37 _ hx39)) (fun _ => ?_)
        refine D_val rfl (.on 20 rfl rfl rfl) (fun ha => V_lss (i := r38) (j := 0) (EN ha (.tmp rfl rfl) rfl) (EN ha (.int _ _) rfl)) ?_
        refine D_val rfl .no (fun ha => V_pick (b := true) (u := (.bool (decide ((r38 : Int) < 0)))) (v := (.bool false)) (EN ha (.tmp rfl rfl) rfl) (EN ha (.tmp rfl rfl) rfl) (EN ha (.bool _) rfl)) ?_
        refine D_nil ?_
        obtain rfl := Option.some.inj hF
        exact ⟨_, _, rfl, (EqL.cons rfl (EqL.cons rfl (EqL.cons rfl (EqL.cons rfl (EqL.cons rfl (EqL.cons rfl (EqL.nil))))))).eq, (.sel (.rd (.t (.t .h)) rfl (.rd (.t (.t (.t .h))) rfl (.rd (.t (.t (.t (.t .h)))) rfl (.cons (.t (.t (.t (.t (.t .h))))) .nil)))))⟩
      rw [hg34]
      try rw [hg34] at hF; dsimp only [cond_true, cond_false] at hF
      iterate 7 refine D_off 20 rfl rfl rfl rfl ?_
      refine D_val rfl .no (fun ha => V_pick (b := false) (u := undef) (v := (.bool false)) (EN ha (.tmp rfl rfl) rfl) (EN ha (.tmp rfl rfl) rfl) (EN ha (.bool _) rfl)) ?_
      refine D_nil ?_
      obtain rfl := Option.some.inj hF
      exact ⟨_, _, rfl, (EqL.cons rfl (EqL.cons rfl (EqL.cons rfl (EqL.cons rfl (EqL.cons rfl (EqL.cons rfl (EqL.nil))))))).eq, (.sel (.rd .h rfl (.rd (.t .h) rfl (.rd (.t (.t .h)) rfl (.cons (.t (.t (.t .h))) .nil)))))⟩
    rintro _ _ ⟨c41, g74, rfl, rfl, hE⟩
    replace hF := hO33
    clear hO33
    try dsimp only at hF
    refine K_ent hE ?_
    refine CW_cond (b := c41) (.tmp rfl rfl) (fun hb73 => ?_) (fun hb73 => ?_)
    · rw [if_pos hb73] at hF
      refine K_region (Cm v7.v rfl rfl ?_)
      refine C_val (V_fieldAddr (off := 0) fd55_0.h (.tmp rfl rfl)) ?_
      refine C_at (.t .h) (fun hp => V_load (v := (.int .i64 a_f.Rel)) ag3.h (.tmp rfl rfl) hp.2 rfl rfl) ?_
      refine C_val (V_fieldAddr (off := 1) fd55_1.h (.tmp rfl rfl)) ?_
      refine C_at (.t .h) (fun hp => V_load (v := v1_1.v) ag22.h (.tmp rfl rfl) hp.2 rfl rfl) ?_
      obtain ⟨r42, hx43, hF⟩ := bind_some hF
      refine C_x1 (.rd (.t (.t .h)) rfl .nil) (X_callS cf83.h (.cons (.tmp rfl rfl) (.cons (.tmp rfl rfl) .nil)) (s_l2One_ok a_f.Rel a_f.Values v1_1 _ hx43)) (fun p44 => ?_)
      refine C_new rfl (N_buildSliceT (g := true) sl43.h ty55.h (.cons (.tmp rfl rfl) .nil) (vs := [(.agg [(.int .i64 r42.Rel), p44.1.v].toArray)]) rfl rfl rfl (by intro v hv; simp at hv; rcases hv with rfl <;> rfl)) (fun k45 => ?_)
      refine C_conv (.cons .h (.cons .h .nil)) (own_lit (Ro := ow55) (E := 55) (F := (p44.2 ++ [])) (xs := ([r42] : List Fact)) (MkL_cons mk55 MkL_nil apps) rfl rfl) apps ?_
      obtain ⟨z46, hx47, hF⟩ := bind_some hF
      refine C_x1 (.cons (.t (.t (.t (.t .h)))) (.cons .h .nil)) (X_appendO (Ro := ow55) sl43.h ni43 ty55.h rfl rfl rfl (.tmp rfl rfl) (.tmp rfl rfl) hx47 src_own) (fun p48 => ?_)
      refine Ca p48.1.v rfl rfl ?_
      refine C_nil (CW_region (C_val (V_assign (v := (.bool true)) (.bool _)) ?_))
      refine C_nil (CW_draw [0, 1, 2, 3, 4, 5, 6, 7, 8, 9, 10, 11, 12, 13, 14] [0, 0, 0, 6, 14, 30, 0, 0, 192, 448, 960, 2046, 4094, 8191, 16383] [11, 13] mixed (by decide +kernel) ?_)
      refine Dm p48.1.v rfl rfl rfl rfl ?_
      refine Dm v0_0.v rfl rfl rfl rfl ?_
      refine Dm (.int .i64 (k13 : Int)) rfl rfl rfl rfl ?_
      refine D_idx (a := x15) sl43.h ty55.h.sz rfl .no (.tmp rfl rfl) (.tmp rfl rfl) rfl rfl (.t .h) (Int.natCast_nonneg k13) hx18 (fun k49 j50 => ?_)
      refine D_val rfl .no (fun ha => V_fieldAddr (off := 0) fd55_0.h (EN ha (.tmp rfl rfl) rfl)) ?_
      refine D_ldS (w := (.int .i64 x15.Rel)) ag3.h rfl .no (.tmp rfl rfl) rfl .h ls55_0 ?_
      refine Dm v0_0.v rfl rfl rfl rfl ?_
      refine Dm (.int .i64 (k13 : Int)) rfl rfl rfl rfl ?_
      refine D_idx (a := x15) sl43.h ty55.h.sz rfl .no (.tmp rfl rfl) (.tmp rfl rfl) rfl rfl (.t (.t .h)) (Int.natCast_nonneg k13) hx18 (fun k51 j52 => ?_)
      refine D_val rfl .no (fun ha => V_fieldAddr (off := 1) fd55_1.h (EN ha (.tmp rfl rfl) rfl)) ?_
      refine D_ldV (R' := (RdS 3 rdInt)) ag22.h rfl .no (.tmp rfl rfl) rfl .h lv55_1 (fun w53 => ?_)
      obtain ⟨r54, hx55, hF⟩ := bind_some hF
      refine D_act1 rfl rfl .no (.rd .h rfl .nil) .nil (fun ha => X_callS cf83.h (.cons (EN ha (.tmp rfl rfl) rfl) (.cons (EN ha (.tmp rfl rfl) rfl) .nil)) (s_l2One_ok x15.Rel x15.Values w53 _ hx55)) (fun p56 => ?_)
      refine D_new rfl .no rfl (fun ha => N_buildSliceT (g := true) (len := 1) (parts := [(0, .tmp 48)]) sl43.h ty55.h (.cons (EN ha (.tmp rfl rfl) rfl) .nil) (vs := [(.agg [(.int .i64 r54.Rel), p56.1.v].toArray)]) rfl rfl rfl (by intro v hv; simp at hv; rcases hv with rfl <;> rfl)) (fun k57 => ?_)
      refine D_conv (.cons .h (.cons .h .nil)) (own_lit (Ro := ow55) (E := 55) (F := (p56.2 ++ [])) (xs := ([r54] : List Fact)) (MkL_cons mk55 MkL_nil apps) rfl rfl) apps ?_
      obtain ⟨z58, hx59, hF⟩ := bind_some hF
      refine D_act1 rfl rfl .no (.cons (.t (.t (.t (.t .h)))) (.cons .h .nil)) (.dep rfl .nil) (fun ha => X_appendO (Ro := ow55) sl43.h ni43 ty55.h rfl rfl rfl (EN ha (.tmp rfl rfl) rfl) (EN ha (.tmp rfl rfl) rfl) hx59 src_own) (fun p60 => ?_)
      refine Da p60.1.v rfl rfl rfl rfl ?_
      refine D_nil ?_
      obtain rfl := Option.some.inj hF
      exact ⟨_, _, p60.1, p60.2, _, rfl, (EqL.cons rfl (EqL.cons rfl (EqL.cons rfl (EqL.cons rfl (EqL.cons rfl (EqL.nil)))))).eq, (.sel (.rd (.t (.t (.t (.t .h)))) rfl (.rd (.t (.t (.t (.t (.t .h))))) rfl (.rd (.t (.t (.t (.t (.t (.t .h)))))) rfl (.cons .h .nil)))))⟩
    rw [if_neg (by rw [hb73]; exact Bool.false_ne_true)] at hF
    refine CW_skip (CW_draw [0, 1, 2, 3, 4, 5, 6, 7, 8, 9, 10, 11, 12, 13, 14] [0, 0, 0, 6, 14, 30, 0, 0, 192, 448, 960, 2046, 4094, 8191, 16383] [11, 13] mixed (by decide +kernel) ?_)
    refine Dm v7.v rfl rfl rfl rfl ?_
    refine Dm v0_0.v rfl rfl rfl rfl ?_
    refine Dm (.int .i64 (k13 : Int)) rfl rfl rfl rfl ?_
    refine D_idx (a := x15) sl43.h ty55.h.sz rfl .no (.tmp rfl rfl) (.tmp rfl rfl) rfl rfl .h (Int.natCast_nonneg k13) hx18 (fun k61 j62 => ?_)
    refine D_val rfl .no (fun ha => V_fieldAddr (off := 0) fd55_0.h (EN ha (.tmp rfl rfl) rfl)) ?_
    refine D_ldS (w := (.int .i64 x15.Rel)) ag3.h rfl .no (.tmp rfl rfl) rfl .h ls55_0 ?_
    refine Dm v0_0.v rfl rfl rfl rfl ?_
    refine Dm (.int .i64 (k13 : Int)) rfl rfl rfl rfl ?_
    refine D_idx (a := x15) sl43.h ty55.h.sz rfl .no (.tmp rfl rfl) (.tmp rfl rfl) rfl rfl (.t .h) (Int.natCast_nonneg k13) hx18 (fun k63 j64 => ?_)
    refine D_val rfl .no (fun ha => V_fieldAddr (off := 1) fd55_1.h (EN ha (.tmp rfl rfl) rfl)) ?_
    refine D_ldV (R' := (RdS 3 rdInt)) ag22.h rfl .no (.tmp rfl rfl) rfl .h lv55_1 (fun w65 => ?_)
    obtain ⟨r66, hx67, hF⟩ := bind_some hF
    refine D_act1 rfl rfl .no (.rd .h rfl .nil) .nil (fun ha => X_callS cf83.h (.cons (EN ha (.tmp rfl rfl) rfl) (.cons (EN ha (.tmp rfl rfl) rfl) .nil)) (s_l2One_ok x15.Rel x15.Values w65 _ hx67)) (fun p68 => ?_)
    refine D_new rfl .no rfl (fun ha => N_buildSliceT (g := true) (len := 1) (parts := [(0, .tmp 48)]) sl43.h ty55.h (.cons (EN ha (.tmp rfl rfl) rfl) .nil) (vs := [(.agg [(.int .i64 r66.Rel), p68.1.v].toArray)]) rfl rfl rfl (by intro v hv; simp at hv; rcases hv with rfl <;> rfl)) (fun k69 => ?_)
    refine D_conv (.cons .h (.cons .h .nil)) (own_lit (Ro := ow55) (E := 55) (F := (p68.2 ++ [])) (xs := ([r66] : List Fact)) (MkL_cons mk55 MkL_nil apps) rfl rfl) apps ?_
    obtain ⟨z70, hx71, hF⟩ := bind_some hF
    refine D_act1 rfl rfl .no (.cons (.t (.t (.t (.t (.t (.t (.t .h))))))) (.cons .h .nil)) (.dep rfl .nil) (fun ha => X_appendO (Ro := ow55) sl43.h ni43 ty55.h rfl rfl rfl (EN ha (.tmp rfl rfl) rfl) (EN ha (.tmp rfl rfl) rfl) hx71 src_own) (fun p72 => ?_)
    refine Da p72.1.v rfl rfl rfl rfl ?_
    refine D_nil ?_
    obtain rfl := Option.some.inj hF
    exact ⟨_, _, p72.1, p72.2, _, rfl, (EqL.cons rfl (EqL.cons rfl (EqL.cons rfl (EqL.cons rfl (EqL.cons rfl (EqL.nil)))))).eq, (.sel (.rd (.t (.t (.t (.t .h)))) rfl (.rd (.t (.t (.t (.t (.t .h))))) rfl (.rd (.t (.t (.t (.t (.t (.t .h)))))) rfl (.cons .h .nil)))))⟩
  rintro _ _ ⟨c75, c78, v76, F77, g80, rfl, rfl, hE⟩
  replace hF := hO31
  clear hO31
  try dsimp only at hF
  refine K_ent hE ?_
  refine CW_region (Cm (.int .i64 (k13 : Int)) rfl rfl ?_)
  refine C_val (V_add (i := (k13 : Int)) (j := 1) (.tmp rfl rfl) (.int _ _)) ?_
  refine Ca (.int .i64 (IntKind.i64.wrap ((k13 : Int) + 1))) rfl rfl ?_
  refine C_nil ?_
  have hw79 : IntKind.i64.wrap ((k13 : Int) + 1) = ((k13 + 1 : Nat) : Int) := by rw [wrap_in (by omega) (by omega)]; rfl
  rw [hw79]
  exact ⟨_, Nat.lt_succ_self _, _, k13 + 1, rest14, _, _, v76, F77, rfl, (EqL.cons rfl (EqL.cons rfl (EqL.cons rfl (EqL.cons rfl (EqL.cons rfl (EqL.nil)))))).eq, hd19, (.sel (.rd .h rfl (.rd (.t .h) rfl (.rd (.t (.t .h)) rfl (.cons (.t (.t (.t .h))) .nil))))), hF⟩

/-! spec.ApplyChange -/
def s_ApplyChange_L1 (a_x : Source) (a_c : Change) : List Fact → Nat → (List Fact) → Option (Source × Bool)
  | [], k71, c65 => some (({ Facts := c65, Version := (IntKind.i64.wrap (a_x.Version + 1)) } : Source), true)
  | x73 :: rest72, k71, c65 => ((s_CompareFacts x73 a_c.Fact).bind fun r85 =>
      if ((r85 : Int) != 0) then (
        (s_l2One x73.Rel x73.Values).bind fun r93 =>
        (app c65 ([r93] : List Fact)).bind fun z97 =>
        some z97)
      else (
        some c65)).bind fun o80 =>
    match o80 with
    | c101 => s_ApplyChange_L1 a_x a_c rest72 (k71 + 1) c101
def s_ApplyChange (a_s : List Int) (a_x : Source) (a_c : Change) : Option (Source × Bool) :=
  (s_l25Copy a_x).bind fun r4 =>
  ((s_IsSource a_s a_x).bind fun r10 =>
    bif (!r10) then (some true)
    else ((s_IsFact a_s a_c.Fact).bind fun r14 =>
      bif (!r14) then (some true)
      else (bif (decide ((1000 : Int) ≤ a_x.Version)) then (some true)
        else ((s_HasFact a_x.Facts a_c.Fact).bind fun r19 =>
          bif (r19 == a_c.Add) then (some true)
          else (bif a_c.Add then (some (decide ((24 : Int) ≤ (a_x.Facts.length : Int))))
            else (some false)))))).bind fun o8 =>
  match o8 with
  | c24 => if c24 then (
      some (r4, false))
    else (
      if a_c.Add then (
        (s_AddFact a_x.Facts a_c.Fact).bind fun r25 =>
        some (({ Facts := r25, Version := (IntKind.i64.wrap (a_x.Version + 1)) } : Source), true))
      else (
        s_ApplyChange_L1 a_x a_c a_x.Facts 0 ([] : List Fact)))
theorem s_ApplyChange_ok (a_s : List Int) (v0_0 : Sv) (a_x : Source) (v1_0 : Sv) (a_c : Change) (v2_2 : Sv) (R : Source × Bool) (hF : s_ApplyChange a_s a_x a_c = some R) :
    Fw.Spec Tryz.prog 25 [v0_0.v, (.agg [v1_0.v, (.int .i64 a_x.Version)].toArray), (.agg [(.bool a_c.Add), (.int .i64 a_c.Fact.Rel), v2_2.v].toArray)] [crd (RdS 3 rdInt) v0_0.v a_s, crd (RdS 55 rd55) v1_0.v a_x.Facts, crd (RdS 3 rdInt) v2_2.v a_c.Fact.Values] (fun p : Sv × List Nat => (.tuple [(.agg [p.1.v, (.int .i64 R.1.Version)].toArray), (.bool R.2)].toArray)) (fun p => [cown (OwnS 55 ow55) p.2 p.1.v R.1.Facts]) := by
  refine Spec_enter (n := 99) Tryz.func25 rfl rfl (rs := [.cell 6 45, .tmp 7]) rfl rfl rfl ?_
  intro H0 F0
  unfold s_ApplyChange at hF
  refine K_region (C_newR rfl (N_box (g := false) (v := (.agg [v1_0.v, (.int .i64 a_x.Version)].toArray)) ty45.h.sz (.tmp rfl rfl) rfl) (fun k1 => ?_))
  refine C_newR rfl (N_box (g := false) (v := (.agg [(.bool a_c.Add), (.int .i64 a_c.Fact.Rel), v2_2.v].toArray)) ty57.h.sz (.tmp rfl rfl) rfl) (fun k2 => ?_)
  refine C_new rfl (N_allocT (g := true) ty45.h rfl rfl) (fun k3 => ?_)
  refine C_val (V_assign (v := (.bool false)) (.bool _)) ?_
  refine C_nil (K_region (C_at (.t (.t .h)) (fun hp => V_loadBox ag45.h ty45.h.sz rfl (.tmp rfl rfl) hp.2 rfl) ?_))
  obtain ⟨r4, hx5, hF⟩ := bind_some hF
  refine C_x1 (.rd (.t (.t (.t (.t .h)))) rfl .nil) (X_callS cf66.h (.cons (.tmp rfl rfl) .nil) (s_l25Copy_ok a_x v1_0 _ hx5)) (fun p6 => ?_)
  refine C_new rfl (N_allocT (g := true) ty45.h rfl rfl) (fun k7 => ?_)
  refine C_x1 (.cons .h .nil) (X_storeB (e' := (.agg [p6.1.v, (.int .i64 r4.Version)].toArray)) (v := (.agg [p6.1.v, (.int .i64 r4.Version)].toArray)) ty45.h.sz (.tmp rfl rfl) (.tmp rfl rfl) rfl rfl rfl rfl rfl) (fun _ => ?_)
  refine C_nil (K_in ?_)
  obtain ⟨o8, hio8, hO9⟩ := bind_some hF
  refine K_draw [0, 1, 2, 3, 4, 5, 6, 7, 8, 9, 10, 11, 12, 13, 14, 15, 16, 17, 18, 19, 20, 22, 23, 21, 24, 25, 26, 27, 28, 29, 30, 31, 32, 33, 34, 35] [0, 0, 3, 7, 15, 31, 31, 95, 255, 511, 1023, 2047, 4095, 8191, 16383, 32767, 65535, 131071, 262143, 131071, 655359, 2097151, 131071, 4325375, 16777215, 33554431, 67108863, 134217727, 268435455, 536870911, 1073741823, 2147483647, 4294967295, 8589934591, 17179869183, 34359738367] [2, 8, 21] mixed (by decide +kernel) ?_
  refine D_cut (fun f' cs' => ∃ (c24 : Bool) (g : Fr), c24 = o8 ∧ f' = updL g [(4, (.pointer (some ⟨k1, 0, some 0⟩))), (5, (.pointer (some ⟨k2, 0, some 0⟩))), (6, (.pointer (some ⟨k3, 0, some 0⟩))), (8, (.pointer (some ⟨k7, 0, some 0⟩))), (47, (.bool c24))] ∧ Ent cs' [cboR k1 45 (.agg [v1_0.v, (.int .i64 a_x.Version)].toArray), crd (RdS 55 rd55) v1_0.v a_x.Facts, cboR k2 57 (.agg [(.bool a_c.Add), (.int .i64 a_c.Fact.Rel), v2_2.v].toArray), crd (RdS 3 rdInt) v2_2.v a_c.Fact.Values, cbox k3 45 (.agg [(.slice none 0 0), (.int .i64 0)].toArray), cbox k7 45 (.agg [p6.1.v, (.int .i64 r4.Version)].toArray), cown (OwnS 55 ow55) p6.2 p6.1.v r4.Facts]) ?_ ?_
  · replace hF := hio8
    refine Dm v0_0.v rfl rfl rfl rfl ?_
    refine D_at rfl .no (.t (.t (.t (.t .h)))) rfl (fun ha hp => V_loadBox ag45.h ty45.h.sz rfl (EN ha (.tmp rfl rfl) rfl) hp.2 rfl) ?_
    obtain ⟨r10, hx11, hF⟩ := bind_some hF
    refine D_act0 rfl rfl .no (.rd (.t (.t (.t (.t (.t .h))))) rfl (.rd (.t (.t (.t (.t (.t (.t .h)))))) rfl .nil)) .nil (fun ha => X_callS cf74.h (.cons (EN ha (.tmp rfl rfl) rfl) (.cons (EN ha (.tmp rfl rfl) rfl) .nil)) (s_IsSource_ok a_s v0_0 a_x v1_0 _ hx11)) (fun _ => ?_)
    refine D_val rfl .no (fun ha => V_not (b := r10) (EN ha (.tmp rfl rfl) rfl)) ?_
    refine Dm (.bool (!r10)) rfl rfl rfl rfl ?_
    rcases Bool.eq_false_or_eq_true (!r10) with hg13 | hg13
    · rw [hg13]
      try rw [hg13] at hF; dsimp only [cond_true, cond_false] at hF
      iterate 5 refine D_off 16 rfl rfl rfl rfl ?_
      refine D_val rfl .no (fun ha => V_pick (b := true) (u := (.bool true)) (v := undef) (EN ha (.tmp rfl rfl) rfl) (EN ha (.bool _) rfl) (EN ha (.tmp rfl rfl) rfl)) ?_
      refine Dm (.bool true) rfl rfl rfl rfl ?_
      iterate 3 refine D_off 23 rfl rfl rfl rfl ?_
      refine D_val rfl .no (fun ha => V_pick (b := true) (u := (.bool true)) (v := undef) (EN ha (.tmp rfl rfl) rfl) (EN ha (.bool _) rfl) (EN ha (.tmp rfl rfl) rfl)) ?_
      refine Dm (.bool true) rfl rfl rfl rfl ?_
      iterate 8 refine D_off 28 rfl rfl rfl rfl ?_
      refine D_val rfl .no (fun ha => V_pick (b := true) (u := (.bool true)) (v := undef) (EN ha (.tmp rfl rfl) rfl) (EN ha (.bool _) rfl) (EN ha (.tmp rfl rfl) rfl)) ?_
      refine Dm (.bool true) rfl rfl rfl rfl ?_
      iterate 3 refine D_off 38 rfl rfl rfl rfl ?_
      iterate 4 refine D_offU 41 rfl rfl rfl rfl ?_
      refine D_off 38 rfl rfl rfl rfl ?_
      refine D_val rfl .no (fun ha => V_pick (b := true) (u := (.bool true)) (v := undef) (EN ha (.tmp rfl rfl) rfl) (EN ha (.bool _) rfl) (EN ha (.tmp rfl rfl) rfl)) ?_
      refine D_nil ?_
      obtain rfl := Option.some.inj hF
      exact ⟨_, _, rfl, (EqL.cons rfl (EqL.cons rfl (EqL.cons rfl (EqL.cons rfl (EqL.cons rfl (EqL.nil)))))).eq, (.sel (.rd (.t (.t (.t (.t .h)))) rfl (.rd (.t (.t (.t (.t (.t (.t .h)))))) rfl (.rd (.t (.t (.t .h))) rfl (.rd (.t (.t (.t (.t (.t (.t (.t .h))))))) rfl (.cons (.t (.t .h)) (.cons .h (.cons .h .nil))))))))⟩
    rw [hg13]
    try rw [hg13] at hF; dsimp only [cond_true, cond_false] at hF
    refine D_val rfl (.on 16 rfl rfl rfl) (fun ha => V_move (v := v0_0.v) (EN ha (.tmp rfl rfl) rfl)) ?_
    refine D_val rfl (.on 16 rfl rfl rfl) (fun ha => V_fieldAddr (off := 1) fd57_1.h (EN ha (.tmp rfl rfl) rfl)) ?_
    refine D_at rfl (.on 16 rfl rfl rfl) (.t (.t (.t .h))) rfl (fun ha hp => V_loadA (s := 2) (l := [(.int .i64 a_c.Fact.Rel), v2_2.v]) ag55.h ty55.h.sz (EN ha (.tmp rfl rfl) rfl) hp.2 rfl (by decide) (Nat.le_of_ble_eq_true rfl) rfl) ?_
    obtain ⟨r14, hx15, hF⟩ := bind_some hF
    refine D_act0 rfl rfl (.on 16 rfl rfl rfl) (.rd (.t (.t (.t (.t (.t .h))))) rfl (.rd (.t (.t (.t (.t (.t (.t (.t .h))))))) rfl .nil)) .nil (fun ha => X_callS cf79.h (.cons (EN ha (.tmp rfl rfl) rfl) (.cons (EN ha (.tmp rfl rfl) rfl) .nil)) (s_IsFact_ok a_s v0_0 a_c.Fact v2_2 _ hx15)) (fun _ => ?_)
    refine D_val rfl (.on 16 rfl rfl rfl) (fun ha => V_not (b := r14) (EN ha (.tmp rfl rfl) rfl)) ?_
    refine D_val rfl .no (fun ha => V_pick (b := false) (u := (.bool true)) (v := (.bool (!r14))) (EN ha (.tmp rfl rfl) rfl) (EN ha (.bool _) rfl) (EN ha (.tmp rfl rfl) rfl)) ?_
    refine Dm (.bool (!r14)) rfl rfl rfl rfl ?_
    rcases Bool.eq_false_or_eq_true (!r14) with hg17 | hg17
    · rw [hg17]
      try rw [hg17] at hF; dsimp only [cond_true, cond_false] at hF
      iterate 3 refine D_off 23 rfl rfl rfl rfl ?_
      refine D_val rfl .no (fun ha => V_pick (b := true) (u := (.bool true)) (v := undef) (EN ha (.tmp rfl rfl) rfl) (EN ha (.bool _) rfl) (EN ha (.tmp rfl rfl) rfl)) ?_
      refine Dm (.bool true) rfl rfl rfl rfl ?_
      iterate 8 refine D_off 28 rfl rfl rfl rfl ?_
      refine D_val rfl .no (fun ha => V_pick (b := true) (u := (.bool true)) (v := undef) (EN ha (.tmp rfl rfl) rfl) (EN ha (.bool _) rfl) (EN ha (.tmp rfl rfl) rfl)) ?_
      refine Dm (.bool true) rfl rfl rfl rfl ?_
      iterate 3 refine D_off 38 rfl rfl rfl rfl ?_
      iterate 4 refine D_offU 41 rfl rfl rfl rfl ?_
      refine D_off 38 rfl rfl rfl rfl ?_
      refine D_val rfl .no (fun ha => V_pick (b := true) (u := (.bool true)) (v := undef) (EN ha (.tmp rfl rfl) rfl) (EN ha (.bool _) rfl) (EN ha (.tmp rfl rfl) rfl)) ?_
      refine D_nil ?_
      obtain rfl := Option.some.inj hF
      exact ⟨_, _, rfl, (EqL.cons rfl (EqL.cons rfl (EqL.cons rfl (EqL.cons rfl (EqL.cons rfl (EqL.nil)))))).eq, (.sel (.rd (.t (.t (.t (.t .h)))) rfl (.rd (.t (.t (.t (.t (.t (.t .h)))))) rfl (.rd (.t (.t (.t .h))) rfl (.rd (.t (.t (.t (.t (.t (.t (.t .h))))))) rfl (.cons (.t (.t .h)) (.cons .h (.cons .h .nil))))))))⟩
    rw [hg17]
    try rw [hg17] at hF; dsimp only [cond_true, cond_false] at hF
    refine D_val rfl (.on 23 rfl rfl rfl) (fun ha => V_fieldAddr (off := 1) fd45_1.h (EN ha (.tmp rfl rfl) rfl)) ?_
    refine D_at rfl (.on 23 rfl rfl rfl) (.t (.t (.t (.t .h)))) rfl (fun ha hp => V_load (v := (.int .i64 a_x.Version)) ag3.h (EN ha (.tmp rfl rfl) rfl) hp.2 rfl rfl) ?_
    refine D_val rfl (.on 23 rfl rfl rfl) (fun ha => V_geq (i := a_x.Version) (j := 1000) (EN ha (.tmp rfl rfl) rfl) (EN ha (.int _ _) rfl)) ?_
    refine D_val rfl .no (fun ha => V_pick (b := false) (u := (.bool true)) (v := (.bool (decide ((1000 : Int) ≤ a_x.Version)))) (EN ha (.tmp rfl rfl) rfl) (EN ha (.bool _) rfl) (EN ha (.tmp rfl rfl) rfl)) ?_
    refine Dm (.bool (decide ((1000 : Int) ≤ a_x.Version))) rfl rfl rfl rfl ?_
    rcases Bool.eq_false_or_eq_true (decide ((1000 : Int) ≤ a_x.Version)) with hg18 | hg18
    · rw [hg18]
      try rw [hg18] at hF; dsimp only [cond_true, cond_false] at hF
      iterate 8 refine D_off 28 rfl rfl rfl rfl ?_
      refine D_val rfl .no (fun ha => V_pick (b := true) (u := (.bool true)) (v := undef) (EN ha (.tmp rfl rfl) rfl) (EN ha (.bool _) rfl) (EN ha (.tmp rfl rfl) rfl)) ?_
      refine Dm (.bool true) rfl rfl rfl rfl ?_
      iterate 3 refine D_off 38 rfl rfl rfl rfl ?_
      iterate 4 refine D_offU 41 rfl rfl rfl rfl ?_
      refine D_off 38 rfl rfl rfl rfl ?_
      refine D_val rfl .no (fun ha => V_pick (b := true) (u := (.bool true)) (v := undef) (EN ha (.tmp rfl rfl) rfl) (EN ha (.bool _) rfl) (EN ha (.tmp rfl rfl) rfl)) ?_
      refine D_nil ?_
      obtain rfl := Option.some.inj hF
      exact ⟨_, _, rfl, (EqL.cons rfl (EqL.cons rfl (EqL.cons rfl (EqL.cons rfl (EqL.cons rfl (EqL.nil)))))).eq, (.sel (.rd (.t (.t (.t (.t .h)))) rfl (.rd (.t (.t (.t (.t (.t (.t .h)))))) rfl (.rd (.t (.t (.t .h))) rfl (.rd (.t (.t (.t (.t (.t (.t (.t .h))))))) rfl (.cons (.t (.t .h)) (.cons .h (.cons .h .nil))))))))⟩
    rw [hg18]
    try rw [hg18] at hF; dsimp only [cond_true, cond_false] at hF
    refine D_val rfl (.on 28 rfl rfl rfl) (fun ha => V_fieldAddr (off := 0) fd45_0.h (EN ha (.tmp rfl rfl) rfl)) ?_
    refine D_at rfl (.on 28 rfl rfl rfl) (.t (.t (.t (.t .h)))) rfl (fun ha hp => V_load (v := v1_0.v) ag43.h (EN ha (.tmp rfl rfl) rfl) hp.2 rfl rfl) ?_
    refine D_val rfl (.on 28 rfl rfl rfl) (fun ha => V_fieldAddr (off := 1) fd57_1.h (EN ha (.tmp rfl rfl) rfl)) ?_
    refine D_at rfl (.on 28 rfl rfl rfl) (.t (.t (.t .h))) rfl (fun ha hp => V_loadA (s := 2) (l := [(.int .i64 a_c.Fact.Rel), v2_2.v]) ag55.h ty55.h.sz (EN ha (.tmp rfl rfl) rfl) hp.2 rfl (by decide) (Nat.le_of_ble_eq_true rfl) rfl) ?_
    refine D_val rfl (.on 28 rfl rfl rfl) (fun ha => V_fieldAddr (off := 0) fd57_0.h (EN ha (.tmp rfl rfl) rfl)) ?_
    refine D_at rfl (.on 28 rfl rfl rfl) (.t (.t (.t .h))) rfl (fun ha hp => V_load (v := (.bool a_c.Add)) ag4.h (EN ha (.tmp rfl rfl) rfl) hp.2 rfl rfl) ?_
    obtain ⟨r19, hx20, hF⟩ := bind_some hF
    refine D_act0 rfl rfl (.on 28 rfl rfl rfl) (.rd (.t (.t (.t (.t (.t (.t .h)))))) rfl (.rd (.t (.t (.t (.t (.t (.t (.t .h))))))) rfl .nil)) .nil (fun ha => X_callS cf80.h (.cons (EN ha (.tmp rfl rfl) rfl) (.cons (EN ha (.tmp rfl rfl) rfl) .nil)) (s_HasFact_ok a_x.Facts v1_0 a_c.Fact v2_2 _ hx20)) (fun _ => ?_)
    refine D_val rfl (.on 28 rfl rfl rfl) (fun ha => V_eqB (a := r19) (b := a_c.Add) Tryz.underlying4 (EN ha (.tmp rfl rfl) rfl) (EN ha (.tmp rfl rfl) rfl)) ?_
    refine D_val rfl .no (fun ha => V_pick (b := false) (u := (.bool true)) (v := (.bool (r19 == a_c.Add))) (EN ha (.tmp rfl rfl) rfl) (EN ha (.bool _) rfl) (EN ha (.tmp rfl rfl) rfl)) ?_
    refine Dm (.bool (r19 == a_c.Add)) rfl rfl rfl rfl ?_
    rcases Bool.eq_false_or_eq_true (r19 == a_c.Add) with hg22 | hg22
    · rw [hg22]
      try rw [hg22] at hF; dsimp only [cond_true, cond_false] at hF
      iterate 3 refine D_off 38 rfl rfl rfl rfl ?_
      iterate 4 refine D_offU 41 rfl rfl rfl rfl ?_
      refine D_off 38 rfl rfl rfl rfl ?_
      refine D_val rfl .no (fun ha => V_pick (b := true) (u := (.bool true)) (v := undef) (EN ha (.tmp rfl rfl) rfl) (EN ha (.bool _) rfl) (EN ha (.tmp rfl rfl) rfl)) ?_
      refine D_nil ?_
      obtain rfl := Option.some.inj hF
      exact ⟨_, _, rfl, (EqL.cons rfl (EqL.cons rfl (EqL.cons rfl (EqL.cons rfl (EqL.cons rfl (EqL.nil)))))).eq, (.sel (.rd (.t (.t (.t (.t .h)))) rfl (.rd (.t (.t (.t (.t (.t (.t .h)))))) rfl (.rd (.t (.t (.t .h))) rfl (.rd (.t (.t (.t (.t (.t (.t (.t .h))))))) rfl (.cons (.t (.t .h)) (.cons .h (.cons .h .nil))))))))⟩
    rw [hg22]
    try rw [hg22] at hF; dsimp only [cond_true, cond_false] at hF
    refine D_val rfl (.on 38 rfl rfl rfl) (fun ha => V_fieldAddr (off := 0) fd57_0.h (EN ha (.tmp rfl rfl) rfl)) ?_
    refine D_at rfl (.on 38 rfl rfl rfl) (.t (.t (.t .h))) rfl (fun ha hp => V_load (v := (.bool a_c.Add)) ag4.h (EN ha (.tmp rfl rfl) rfl) hp.2 rfl rfl) ?_
    refine D_val rfl (.on 38 rfl rfl rfl) (fun ha => V_move (v := (.bool a_c.Add)) (EN ha (.tmp rfl rfl) rfl)) ?_
    rcases Bool.eq_false_or_eq_true a_c.Add with hg23 | hg23
    · rw [hg23]
      try rw [hg23] at hF; dsimp only [cond_true, cond_false] at hF
      refine D_val rfl (.on 41 rfl rfl rfl) (fun ha => V_fieldAddr (off := 0) fd45_0.h (EN ha (.tmp rfl rfl) rfl)) ?_
      refine D_at rfl (.on 41 rfl rfl rfl) (.t (.t (.t (.t .h)))) rfl (fun ha hp => V_load (v := v1_0.v) ag43.h (EN ha (.tmp rfl rfl) rfl) hp.2 rfl rfl) ?_
      refine D_at rfl (.on 41 rfl rfl rfl) (.t (.t (.t (.t (.t (.t .h)))))) rfl (fun ha hp => V_lenR (l := a_x.Facts.length) sl43.h (EN ha (.tmp rfl rfl) rfl) (crd_len hp)) ?_
      refine D_val rfl (.on 41 rfl rfl rfl) (fun ha => V_geq (i := (a_x.Facts.length : Int)) (j := 24) (EN ha (.tmp rfl rfl) rfl) (EN ha (.int _ _) rfl)) ?_
      refine D_val rfl (.on 38 rfl rfl rfl) (fun ha => V_pick (b := true) (u := (.bool (decide ((24 : Int) ≤ (a_x.Facts.length : Int))))) (v := (.bool false)) (EN ha (.tmp rfl rfl) rfl) (EN ha (.tmp rfl rfl) rfl) (EN ha (.bool _) rfl)) ?_
      refine D_val rfl .no (fun ha => V_pick (b := false) (u := (.bool true)) (v := (.bool (decide ((24 : Int) ≤ (a_x.Facts.length : Int))))) (EN ha (.tmp rfl rfl) rfl) (EN ha (.bool _) rfl) (EN ha (.tmp rfl rfl) rfl)) ?_
      refine D_nil ?_
      obtain rfl := Option.some.inj hF
      exact ⟨_, _, rfl, (EqL.cons rfl (EqL.cons rfl (EqL.cons rfl (EqL.cons rfl (EqL.cons rfl (EqL.nil)))))).eq, (.sel (.rd (.t (.t (.t (.t .h)))) rfl (.rd (.t (.t (.t (.t (.t (.t .h)))))) rfl (.rd (.t (.t (.t .h))) rfl (.rd (.t (.t (.t (.t (.t (.t (.t .h))))))) rfl (.cons (.t (.t .h)) (.cons .h (.cons .h .nil))))))))⟩
    rw [hg23]
    try rw [hg23] at hF; dsimp only [cond_true, cond_false] at hF
    iterate 4 refine D_off 41 rfl rfl rfl rfl ?_
    refine D_val rfl (.on 38 rfl rfl rfl) (fun ha => V_pick (b := false) (u := undef) (v := (.bool false)) (EN ha (.tmp rfl rfl) rfl) (EN ha (.tmp rfl rfl) rfl) (EN ha (.bool _) rfl)) ?_
    refine D_val rfl .no (fun ha => V_pick (b := false) (u := (.bool true)) (v := (.bool false)) (EN ha (.tmp rfl rfl) rfl) (EN ha (.bool _) rfl) (EN ha (.tmp rfl rfl) rfl)) ?_
    refine D_nil ?_
    obtain rfl := Option.some.inj hF
    exact ⟨_, _, rfl, (EqL.cons rfl (EqL.cons rfl (EqL.cons rfl (EqL.cons rfl (EqL.cons rfl (EqL.nil)))))).eq, (.sel (.rd (.t (.t (.t (.t .h)))) rfl (.rd (.t (.t (.t (.t (.t (.t .h)))))) rfl (.rd (.t (.t (.t .h))) rfl (.rd (.t (.t (.t (.t (.t (.t (.t .h))))))) rfl (.cons (.t (.t .h)) (.cons .h (.cons .h .nil))))))))⟩
  rintro _ _ ⟨c24, g108, rfl, rfl, hE⟩
  replace hF := hO9
  clear hO9
  try dsimp only at hF
  refine K_ent hE ?_
  refine CW_cond (b := c24) (.tmp rfl rfl) (fun hb107 => ?_) (fun hb107 => ?_)
  · rw [if_pos hb107] at hF
    refine K_region (C_at (.t (.t (.t (.t (.t .h))))) (fun hp => V_loadBox ag45.h ty45.h.sz rfl (.tmp rfl rfl) hp.2 rfl) ?_)
    refine C_x1 (.cons (.t (.t (.t (.t .h)))) .nil) (X_storeB (e' := (.agg [p6.1.v, (.int .i64 r4.Version)].toArray)) (v := (.agg [p6.1.v, (.int .i64 r4.Version)].toArray)) ty45.h.sz (.tmp rfl rfl) (.tmp rfl rfl) rfl rfl rfl rfl rfl) (fun _ => ?_)
    refine C_val (V_assign (v := (.bool false)) (.bool _)) ?_
    refine C_nil (CW_ret ?_)
    obtain rfl := Option.some.inj hF
    exact End_ret (p6.1, p6.2) (.cellA rfl rfl .h rfl ag45.h ty45.h.sz rfl rfl (.tmp rfl rfl .nil)) rfl (.sel (.cons (.t (.t (.t (.t (.t (.t .h)))))) .nil))
  rw [if_neg (by rw [hb107]; exact Bool.false_ne_true)] at hF
  refine CW_skip (K_region (C_val (V_fieldAddr (off := 1) fd45_1.h (.tmp rfl rfl)) ?_))
  refine C_at .h (fun hp => V_load (v := (.int .i64 a_x.Version)) ag3.h (.tmp rfl rfl) hp.2 rfl rfl) ?_
  refine C_val (V_add (i := a_x.Version) (j := 1) (.tmp rfl rfl) (.int _ _)) ?_
  refine C_val (V_fieldAddr (off := 1) fd45_1.h (.tmp rfl rfl)) ?_
  refine C_x1 (.cons (.t (.t (.t (.t (.t .h))))) .nil) (X_storeB (e' := (.agg [p6.1.v, (.int .i64 (IntKind.i64.wrap (a_x.Version + 1)))].toArray)) (v := (.int .i64 (IntKind.i64.wrap (a_x.Version + 1)))) ty3.h.sz (.tmp rfl rfl) (.tmp rfl rfl) rfl rfl rfl rfl rfl) (fun _ => ?_)
  refine C_nil (K_in (K_region (C_val (V_fieldAddr (off := 0) fd57_0.h (.tmp rfl rfl)) ?_)))
  refine C_at (.t (.t (.t .h))) (fun hp => V_load (v := (.bool a_c.Add)) ag4.h (.tmp rfl rfl) hp.2 rfl rfl) ?_
  refine C_nil (CW_cond (b := a_c.Add) (.tmp rfl rfl) (fun hb106 => ?_) (fun hb106 => ?_))
  · rw [if_pos hb106] at hF
    refine K_region (C_val (V_fieldAddr (off := 0) fd45_0.h (.tmp rfl rfl)) ?_)
    refine C_at (.t .h) (fun hp => V_load (v := v1_0.v) ag43.h (.tmp rfl rfl) hp.2 rfl rfl) ?_
    refine C_val (V_fieldAddr (off := 1) fd57_1.h (.tmp rfl rfl)) ?_
    refine C_at (.t (.t (.t .h))) (fun hp => V_loadA (s := 2) (l := [(.int .i64 a_c.Fact.Rel), v2_2.v]) ag55.h ty55.h.sz (.tmp rfl rfl) hp.2 rfl (by decide) (Nat.le_of_ble_eq_true rfl) rfl) ?_
    obtain ⟨r25, hx26, hF⟩ := bind_some hF
    refine C_x1 (.rd (.t (.t .h)) rfl (.rd (.t (.t (.t (.t .h)))) rfl .nil)) (X_callS cf81.h (.cons (.tmp rfl rfl) (.cons (.tmp rfl rfl) .nil)) (s_AddFact_ok a_x.Facts v1_0 a_c.Fact v2_2 _ hx26)) (fun p27 => ?_)
    refine C_val (V_fieldAddr (off := 0) fd45_0.h (.tmp rfl rfl)) ?_
    refine C_x1 (.cons (.t .h) .nil) (X_storeB (e' := (.agg [p27.1.v, (.int .i64 (IntKind.i64.wrap (a_x.Version + 1)))].toArray)) ty43.h.sz (.tmp rfl rfl) (.tmp rfl rfl) rfl rfl rfl rfl rfl) (fun _ => ?_)
    refine C_nil (K_region (C_at .h (fun hp => V_loadBox ag45.h ty45.h.sz rfl (.tmp rfl rfl) hp.2 rfl) ?_))
    refine C_x1 (.cons (.t (.t (.t (.t (.t (.t .h)))))) .nil) (X_storeB (e' := (.agg [p27.1.v, (.int .i64 (IntKind.i64.wrap (a_x.Version + 1)))].toArray)) (v := (.agg [p27.1.v, (.int .i64 (IntKind.i64.wrap (a_x.Version + 1)))].toArray)) ty45.h.sz (.tmp rfl rfl) (.tmp rfl rfl) rfl rfl rfl rfl rfl) (fun _ => ?_)
    refine C_val (V_assign (v := (.bool true)) (.bool _)) ?_
    refine C_nil (CW_ret ?_)
    obtain rfl := Option.some.inj hF
    exact End_ret (p27.1, p27.2) (.cellA rfl rfl .h rfl ag45.h ty45.h.sz rfl rfl (.tmp rfl rfl .nil)) rfl (.sel (.cons (.t (.t .h)) .nil))
  rw [if_neg (by rw [hb106]; exact Bool.false_ne_true)] at hF
  refine CW_skip (K_region (C_new rfl (N_buildSliceT (g := true) sl43.h ty55.h .nil (vs := []) rfl rfl rfl (by simp)) (fun k28 => ?_)))
  refine C_conv (.cons .h .nil) (own_lit (Ro := ow55) (E := 55) (F := []) (xs := ([] : List Fact)) MkL_nil rfl rfl) apps ?_
  refine C_val (V_fieldAddr (off := 0) fd45_0.h (.tmp rfl rfl)) ?_
  refine C_x1 (.cons (.t .h) .nil) (X_storeB (e' := (.agg [(.slice (some ⟨k28, 0, none⟩) 0 1), (.int .i64 (IntKind.i64.wrap (a_x.Version + 1)))].toArray)) ty43.h.sz (.tmp rfl rfl) (.tmp rfl rfl) rfl rfl rfl rfl rfl) (fun _ => ?_)
  refine C_nil (K_in (K_region (C_val (V_assign (v := (.int .i64 0)) (.int _ _)) ?_)))
  refine C_nil (CW_block (CW_loop (m := a_x.Facts.length) (fun m69 f' cs' => ∃ (g : Fr) (k71 : Nat) (rest72 : List Fact) (c65 : List Fact) (v66 : Sv) (F67 : List Nat), m69 = rest72.length ∧ f' = updL g [(4, (.pointer (some ⟨k1, 0, some 0⟩))), (5, (.pointer (some ⟨k2, 0, some 0⟩))), (6, (.pointer (some ⟨k3, 0, some 0⟩))), (8, (.pointer (some ⟨k7, 0, some 0⟩))), (9, (.int .i64 (k71 : Int)))] ∧ List.drop k71 a_x.Facts = rest72 ∧ Ent cs' [cboR k1 45 (.agg [v1_0.v, (.int .i64 a_x.Version)].toArray), crd (RdS 55 rd55) v1_0.v a_x.Facts, cboR k2 57 (.agg [(.bool a_c.Add), (.int .i64 a_c.Fact.Rel), v2_2.v].toArray), crd (RdS 3 rdInt) v2_2.v a_c.Fact.Values, cbox k3 45 (.agg [(.slice none 0 0), (.int .i64 0)].toArray), cbox k7 45 (.agg [v66.v, (.int .i64 (IntKind.i64.wrap (a_x.Version + 1)))].toArray), cown (OwnS 55 ow55) F67 v66.v c65] ∧ s_ApplyChange_L1 a_x a_c rest72 k71 c65 = some R) ⟨_, 0, _, _, ⟨(some ⟨k28, 0, none⟩), 0, 1⟩, (k28 :: []), rfl, (EqL.cons rfl (EqL.cons rfl (EqL.cons rfl (EqL.cons rfl (EqL.cons rfl (EqL.nil)))))).eq, rfl, (.sel (.rd (.t (.t .h)) rfl (.rd (.t (.t (.t .h))) rfl (.rd (.t (.t (.t (.t .h)))) rfl (.rd (.t (.t (.t (.t (.t .h))))) rfl (.cons (.t (.t (.t (.t (.t (.t .h)))))) (.cons .h (.cons .h .nil)))))))), hF⟩ ?_))
  clear hF
  rintro m69 _ _ ⟨g70, k71, rest72, c65, v66, F67, rfl, rfl, hd74, hE, hF⟩
  refine K_ent hE ?_
  clear hE
  refine K_pure (c := crd (RdS 55 rd55) v1_0.v a_x.Facts) (.t .h) crd_bound (fun hbd79 => ?_)
  rcases rest72 with _ | ⟨x73, rest72⟩
  · have hk75 := List.drop_eq_nil_iff.1 hd74
    have hfe78 : (decide (((k71 : Int) : Int) < (a_x.Facts.length : Int))) = false := decide_eq_false (by omega)
    rw [s_ApplyChange_L1] at hF
    refine K_in (K_region (Cm (.int .i64 (k71 : Int)) rfl rfl ?_))
    refine C_val (V_fieldAddr (off := 0) fd45_0.h (.tmp rfl rfl)) ?_
    refine C_at .h (fun hp => V_load (v := v1_0.v) ag43.h (.tmp rfl rfl) hp.2 rfl rfl) ?_
    refine C_at (.t .h) (fun hp => V_lenR (l := a_x.Facts.length) sl43.h (.tmp rfl rfl) (crd_len hp)) ?_
    refine C_val (V_lss (i := (k71 : Int)) (j := (a_x.Facts.length : Int)) (.tmp rfl rfl) (.tmp rfl rfl)) ?_
    refine C_nil (CW_cond (b := (decide (((k71 : Int) : Int) < (a_x.Facts.length : Int)))) (.tmp rfl rfl) (fun hb => absurd (hfe78.symm.trans hb) (by decide)) (fun _ => ?_))
    refine CW_exit ?_
    iterate 2 refine CThen_exit ?_
    refine CIn_self (K_region (C_at (.t (.t (.t (.t (.t .h))))) (fun hp => V_loadBox ag45.h ty45.h.sz rfl (.tmp rfl rfl) hp.2 rfl) ?_))
    refine C_x1 (.cons (.t (.t (.t (.t .h)))) .nil) (X_storeB (e' := (.agg [v66.v, (.int .i64 (IntKind.i64.wrap (a_x.Version + 1)))].toArray)) (v := (.agg [v66.v, (.int .i64 (IntKind.i64.wrap (a_x.Version + 1)))].toArray)) ty45.h.sz (.tmp rfl rfl) (.tmp rfl rfl) rfl rfl rfl rfl rfl) (fun _ => ?_)
    refine C_val (V_assign (v := (.bool true)) (.bool _)) ?_
    refine C_nil (CW_ret ?_)
    obtain rfl := Option.some.inj hF
    exact End_ret (v66, F67) (.cellA rfl rfl .h rfl ag45.h ty45.h.sz rfl rfl (.tmp rfl rfl .nil)) rfl (.sel (.cons (.t (.t (.t (.t (.t (.t .h)))))) .nil))
  obtain ⟨hk75, hx76, hd77⟩ := drop_cons hd74
  have hfe78 : (decide (((k71 : Int) : Int) < (a_x.Facts.length : Int))) = true := decide_eq_true (by omega)
  rw [s_ApplyChange_L1] at hF
  refine K_in (K_region (Cm (.int .i64 (k71 : Int)) rfl rfl ?_))
  refine C_val (V_fieldAddr (off := 0) fd45_0.h (.tmp rfl rfl)) ?_
  refine C_at .h (fun hp => V_load (v := v1_0.v) ag43.h (.tmp rfl rfl) hp.2 rfl rfl) ?_
  refine C_at (.t .h) (fun hp => V_lenR (l := a_x.Facts.length) sl43.h (.tmp rfl rfl) (crd_len hp)) ?_
  refine C_val (V_lss (i := (k71 : Int)) (j := (a_x.Facts.length : Int)) (.tmp rfl rfl) (.tmp rfl rfl)) ?_
  refine C_nil (CW_cond (b := (decide (((k71 : Int) : Int) < (a_x.Facts.length : Int)))) (.tmp rfl rfl) (fun _ => ?_) (fun hb => absurd (hfe78.symm.trans hb) (by decide)))
  refine CW_skip ?_
  obtain ⟨o80, hio80, hO81⟩ := bind_some hF
  refine K_cut (fun f' cs' => ∃ (c101 : List Fact) (v102 : Sv) (F103 : List Nat) (g : Fr), c101 = o80 ∧ f' = updL g [(4, (.pointer (some ⟨k1, 0, some 0⟩))), (5, (.pointer (some ⟨k2, 0, some 0⟩))), (6, (.pointer (some ⟨k3, 0, some 0⟩))), (8, (.pointer (some ⟨k7, 0, some 0⟩))), (9, (.int .i64 (k71 : Int)))] ∧ Ent cs' [cboR k1 45 (.agg [v1_0.v, (.int .i64 a_x.Version)].toArray), crd (RdS 55 rd55) v1_0.v a_x.Facts, cboR k2 57 (.agg [(.bool a_c.Add), (.int .i64 a_c.Fact.Rel), v2_2.v].toArray), crd (RdS 3 rdInt) v2_2.v a_c.Fact.Values, cbox k3 45 (.agg [(.slice none 0 0), (.int .i64 0)].toArray), cbox k7 45 (.agg [v102.v, (.int .i64 (IntKind.i64.wrap (a_x.Version + 1)))].toArray), cown (OwnS 55 ow55) F103 v102.v c101]) ?_ ?_
  · replace hF := hio80
    refine CW_block (K_draw [0, 1, 2, 3, 4, 5, 6, 7, 8] [0, 1, 0, 7, 15, 0, 32, 127, 255] [7] mixed (by decide +kernel) ?_)
    refine D_val rfl .no (fun ha => V_fieldAddr (off := 0) fd45_0.h (EN ha (.tmp rfl rfl) rfl)) ?_
    refine D_at rfl .no .h rfl (fun ha hp => V_load (v := v1_0.v) ag43.h (EN ha (.tmp rfl rfl) rfl) hp.2 rfl rfl) ?_
    refine Dm (.int .i64 (k71 : Int)) rfl rfl rfl rfl ?_
    refine D_idx (a := x73) sl43.h ty55.h.sz rfl .no (.tmp rfl rfl) (.tmp rfl rfl) rfl rfl (.t .h) (Int.natCast_nonneg k71) hx76 (fun k82 j83 => ?_)
    refine D_ldA1 (ul55_0_55 x73) ag55.h ty55.h.sz rfl rfl .no (.tmp rfl rfl) rfl .h la55_0_55 (fun p84 => ?_)
    refine D_val rfl .no (fun ha => V_fieldAddr (off := 1) fd57_1.h (EN ha (.tmp rfl rfl) rfl)) ?_
    refine D_at rfl .no (.t (.t (.t (.t .h)))) rfl (fun ha hp => V_loadA (s := 2) (l := [(.int .i64 a_c.Fact.Rel), v2_2.v]) ag55.h ty55.h.sz (EN ha (.tmp rfl rfl) rfl) hp.2 rfl (by decide) (Nat.le_of_ble_eq_true rfl) rfl) ?_
    obtain ⟨r85, hx86, hF⟩ := bind_some hF
    refine D_act0 rfl rfl .no (.rd .h rfl (.rd (.t (.t (.t (.t (.t .h))))) rfl .nil)) .nil (fun ha => X_callS cf82.h (.cons (EN ha (.tmp rfl rfl) rfl) (.cons (EN ha (.tmp rfl rfl) rfl) .nil)) (s_CompareFacts_ok x73 p84 a_c.Fact v2_2 _ hx86)) (fun _ => ?_)
    refine D_val rfl .no (fun ha => V_neq (i := r85) (j := 0) (EN ha (.tmp rfl rfl) rfl) (EN ha (.int _ _) rfl)) ?_
    refine D_nil (CW_cond (b := ((r85 : Int) != 0)) (.tmp rfl rfl) (fun hb100 => ?_) (fun hb100 => ?_))
    · rw [if_pos hb100] at hF
      refine CW_draw [0, 1, 2, 3, 4, 5, 6, 7, 8, 9, 10, 11, 12, 13, 14, 15, 16, 17, 18] [0, 1, 0, 4, 0, 28, 60, 124, 0, 256, 0, 1792, 3840, 7936, 16380, 32764, 65535, 131071, 262143] [14, 16, 18] mixed (by decide +kernel) ?_
      refine D_val rfl .no (fun ha => V_fieldAddr (off := 0) fd45_0.h (EN ha (.tmp rfl rfl) rfl)) ?_
      refine D_atO rfl .no (.t (.t (.t (.t (.t (.t (.t .h))))))) (fun ha hp => V_load (v := v66.v) ag43.h (EN ha (.tmp rfl rfl) rfl) hp.2 rfl rfl) ?_
      refine D_val rfl .no (fun ha => V_fieldAddr (off := 0) fd45_0.h (EN ha (.tmp rfl rfl) rfl)) ?_
      refine D_at rfl .no (.t (.t .h)) rfl (fun ha hp => V_load (v := v1_0.v) ag43.h (EN ha (.tmp rfl rfl) rfl) hp.2 rfl rfl) ?_
      refine Dm (.int .i64 (k71 : Int)) rfl rfl rfl rfl ?_
      refine D_idx (a := x73) sl43.h ty55.h.sz rfl .no (.tmp rfl rfl) (.tmp rfl rfl) rfl rfl (.t (.t (.t .h))) (Int.natCast_nonneg k71) hx76 (fun k88 j89 => ?_)
      refine D_val rfl .no (fun ha => V_fieldAddr (off := 0) fd55_0.h (EN ha (.tmp rfl rfl) rfl)) ?_
      refine D_ldS (w := (.int .i64 x73.Rel)) ag3.h rfl .no (.tmp rfl rfl) rfl .h ls55_0 ?_
      refine D_val rfl .no (fun ha => V_fieldAddr (off := 0) fd45_0.h (EN ha (.tmp rfl rfl) rfl)) ?_
      refine D_at rfl .no (.t (.t (.t .h))) rfl (fun ha hp => V_load (v := v1_0.v) ag43.h (EN ha (.tmp rfl rfl) rfl) hp.2 rfl rfl) ?_
      refine Dm (.int .i64 (k71 : Int)) rfl rfl rfl rfl ?_
      refine D_idx (a := x73) sl43.h ty55.h.sz rfl .no (.tmp rfl rfl) (.tmp rfl rfl) rfl rfl (.t (.t (.t (.t .h)))) (Int.natCast_nonneg k71) hx76 (fun k90 j91 => ?_)
      refine D_val rfl .no (fun ha => V_fieldAddr (off := 1) fd55_1.h (EN ha (.tmp rfl rfl) rfl)) ?_
      refine D_ldV (R' := (RdS 3 rdInt)) ag22.h rfl .no (.tmp rfl rfl) rfl .h lv55_1 (fun w92 => ?_)
      obtain ⟨r93, hx94, hF⟩ := bind_some hF
      refine D_act1 rfl rfl .no (.rd .h rfl .nil) (.own (.t (.t (.t (.t (.t (.t (.t (.t (.t (.t .h)))))))))) (fun _ h => h) .nil) (fun ha => X_callS cf83.h (.cons (EN ha (.tmp rfl rfl) rfl) (.cons (EN ha (.tmp rfl rfl) rfl) .nil)) (s_l2One_ok x73.Rel x73.Values w92 _ hx94)) (fun p95 => ?_)
      refine D_new rfl .no rfl (fun ha => N_buildSliceT (g := true) (len := 1) (parts := [(0, .tmp 94)]) sl43.h ty55.h (.cons (EN ha (.tmp rfl rfl) rfl) .nil) (vs := [(.agg [(.int .i64 r93.Rel), p95.1.v].toArray)]) rfl rfl rfl (by intro v hv; simp at hv; rcases hv with rfl <;> rfl)) (fun k96 => ?_)
      refine D_conv (.cons .h (.cons .h .nil)) (own_lit (Ro := ow55) (E := 55) (F := (p95.2 ++ [])) (xs := ([r93] : List Fact)) (MkL_cons mk55 MkL_nil apps) rfl rfl) apps ?_
      obtain ⟨z97, hx98, hF⟩ := bind_some hF
      refine D_act1 rfl rfl .no (.cons (.t (.t (.t (.t (.t (.t (.t (.t (.t (.t (.t (.t .h)))))))))))) (.cons .h .nil)) (.dep rfl (.dep rfl .nil)) (fun ha => X_appendO (Ro := ow55) sl43.h ni43 ty55.h rfl rfl rfl (EN ha (.tmp rfl rfl) rfl) (EN ha (.tmp rfl rfl) rfl) hx98 src_own) (fun p99 => ?_)
      refine D_val rfl .no (fun ha => V_fieldAddr (off := 0) fd45_0.h (EN ha (.tmp rfl rfl) rfl)) ?_
      refine D_act1 rfl rfl .no (.cons (.t (.t (.t (.t (.t (.t (.t (.t (.t (.t (.t .h))))))))))) .nil) (.dep rfl (.dep rfl .nil)) (fun ha => X_storeB (e' := (.agg [p99.1.v, (.int .i64 (IntKind.i64.wrap (a_x.Version + 1)))].toArray)) ty43.h.sz (EN ha (.tmp rfl rfl) rfl) (EN ha (.tmp rfl rfl) rfl) rfl rfl rfl rfl rfl) (fun _ => ?_)
      refine D_nil ?_
      obtain rfl := Option.some.inj hF
      exact ⟨_, p99.1, p99.2, _, rfl, (EqL.cons rfl (EqL.cons rfl (EqL.cons rfl (EqL.cons rfl (EqL.cons rfl (EqL.nil)))))).eq, (.sel (.rd (.t (.t (.t (.t (.t (.t (.t .h))))))) rfl (.rd (.t (.t (.t (.t (.t (.t (.t (.t .h)))))))) rfl (.rd (.t (.t (.t (.t (.t (.t (.t (.t (.t .h))))))))) rfl (.rd (.t (.t (.t (.t (.t (.t (.t (.t (.t (.t .h)))))))))) rfl (.cons (.t (.t (.t (.t (.t (.t (.t (.t (.t (.t (.t .h))))))))))) (.cons .h (.cons .h .nil))))))))⟩
    rw [if_neg (by rw [hb100]; exact Bool.false_ne_true)] at hF
    refine CW_skip ?_
    obtain rfl := Option.some.inj hF
    exact ⟨_, v66, F67, _, rfl, (EqL.cons rfl (EqL.cons rfl (EqL.cons rfl (EqL.cons rfl (EqL.cons rfl (EqL.nil)))))).eq, (.sel (.rd (.t (.t .h)) rfl (.rd (.t (.t (.t .h))) rfl (.rd (.t (.t (.t (.t .h)))) rfl (.rd (.t (.t (.t (.t (.t .h))))) rfl (.cons (.t (.t (.t (.t (.t (.t .h)))))) (.cons (.t (.t (.t (.t (.t (.t .h)))))) (.cons (.t (.t (.t (.t (.t (.t .h)))))) .nil))))))))⟩
  rintro _ _ ⟨c101, v102, F103, g105, rfl, rfl, hE⟩
  replace hF := hO81
  clear hO81
  try dsimp only at hF
  refine K_ent hE ?_
  refine CW_region (Cm (.int .i64 (k71 : Int)) rfl rfl ?_)
  refine C_val (V_add (i := (k71 : Int)) (j := 1) (.tmp rfl rfl) (.int _ _)) ?_
  refine Ca (.int .i64 (IntKind.i64.wrap ((k71 : Int) + 1))) rfl rfl ?_
  refine C_nil ?_
  have hw104 : IntKind.i64.wrap ((k71 : Int) + 1) = ((k71 + 1 : Nat) : Int) := by rw [wrap_in (by omega) (by omega)]; rfl
  rw [hw104]
  exact ⟨_, Nat.lt_succ_self _, _, k71 + 1, rest72, _, v102, F103, rfl, (EqL.cons rfl (EqL.cons rfl (EqL.cons rfl (EqL.cons rfl (EqL.cons rfl (EqL.nil)))))).eq, hd77, (.sel (.rd .h rfl (.rd (.t .h) rfl (.rd (.t (.t .h)) rfl (.rd (.t (.t (.t .h))) rfl (.cons (.t (.t (.t (.t .h)))) (.cons (.t (.t (.t (.t .h)))) (.cons (.t (.t (.t (.t .h)))) .nil)))))))), hF⟩

/-! spec.ChangeFact -/
def s_ChangeFact (a_m : Mediator) (a_c : Change) : Option (Mediator × Bool) :=
  (s_l32Copy a_m).bind fun r4 =>
  (s_IsMediator a_m).bind fun r8 =>
  if (!r8) then (
    some (r4, false))
  else (
    (s_ApplyChange a_m.Schema a_m.Source a_c).bind fun r11 =>
    if (!r11.2) then (
      some (r4, false))
    else (
      some (({ Schema := r4.Schema, Methods := r4.Methods, Rules := r4.Rules, Source := r11.1, Cache := r4.Cache, Now := r4.Now, Log := r4.Log, Times := r4.Times, Spent := r4.Spent, Results := r4.Results } : Mediator), true)))
theorem s_ChangeFact_ok (a_m : Mediator) (v0_0 : Sv) (v0_1 : Sv) (v0_2 : Sv) (v0_3 : Sv) (v0_5 : Sv) (v0_8 : Sv) (v0_9 : Sv) (v0_11 : Sv) (a_c : Change) (v1_2 : Sv) (R : Mediator × Bool) (hF : s_ChangeFact a_m a_c = some R) :
    Fw.Spec Tryz.prog 6 [(.agg [v0_0.v, v0_1.v, v0_2.v, v0_3.v, (.int .i64 a_m.Source.Version), v0_5.v, (.int .i64 a_m.Cache.Age), (.int .i64 a_m.Now), v0_8.v, v0_9.v, (.int .i64 a_m.Spent), v0_11.v].toArray), (.agg [(.bool a_c.Add), (.int .i64 a_c.Fact.Rel), v1_2.v].toArray)] [crd (RdS 3 rdInt) v0_0.v a_m.Schema, crd (RdS 114 rd114) v0_1.v a_m.Methods, crd (RdS 116 rd116) v0_2.v a_m.Rules, crd (RdS 55 rd55) v0_3.v a_m.Source.Facts, crd (RdS 156 rd156) v0_5.v a_m.Cache.Entries, crd (RdS 124 rd124) v0_8.v a_m.Log, crd (RdS 3 rdInt) v0_9.v a_m.Times, crd (RdS 110 (RdS 22 (RdS 3 rdInt))) v0_11.v a_m.Results, crd (RdS 3 rdInt) v1_2.v a_c.Fact.Values] (fun p : Sv × List Nat × Sv × List Nat × Sv × List Nat × Sv × List Nat × Sv × List Nat × Sv × List Nat × Sv × List Nat × Sv × List Nat => (.tuple [(.agg [p.1.v, p.2.2.1.v, p.2.2.2.2.1.v, p.2.2.2.2.2.2.1.v, (.int .i64 R.1.Source.Version), p.2.2.2.2.2.2.2.2.1.v, (.int .i64 R.1.Cache.Age), (.int .i64 R.1.Now), p.2.2.2.2.2.2.2.2.2.2.1.v, p.2.2.2.2.2.2.2.2.2.2.2.2.1.v, (.int .i64 R.1.Spent), p.2.2.2.2.2.2.2.2.2.2.2.2.2.2.1.v].toArray), (.bool R.2)].toArray)) (fun p => [cown (OwnS 3 (roE rdInt)) p.2.1 p.1.v R.1.Schema, cown (OwnS 114 ow114) p.2.2.2.1 p.2.2.1.v R.1.Methods, cown (OwnS 116 ow116) p.2.2.2.2.2.1 p.2.2.2.2.1.v R.1.Rules, cown (OwnS 55 ow55) p.2.2.2.2.2.2.2.1 p.2.2.2.2.2.2.1.v R.1.Source.Facts, cown (OwnS 156 ow156) p.2.2.2.2.2.2.2.2.2.1 p.2.2.2.2.2.2.2.2.1.v R.1.Cache.Entries, cown (OwnS 124 ow124) p.2.2.2.2.2.2.2.2.2.2.2.1 p.2.2.2.2.2.2.2.2.2.2.1.v R.1.Log, cown (OwnS 3 (roE rdInt)) p.2.2.2.2.2.2.2.2.2.2.2.2.2.1 p.2.2.2.2.2.2.2.2.2.2.2.2.1.v R.1.Times, cown (OwnS 110 (OwnS 22 (OwnS 3 (roE rdInt)))) p.2.2.2.2.2.2.2.2.2.2.2.2.2.2.2 p.2.2.2.2.2.2.2.2.2.2.2.2.2.2.1.v R.1.Results]) := by
  refine Spec_enter (n := 30) Tryz.func6 rfl rfl (rs := [.cell 4 51, .tmp 5]) rfl rfl rfl ?_
  intro H0 F0
  unfold s_ChangeFact at hF
  refine au ?_
  refine AbR (fun k1 => ?_)
  refine AbR (fun k2 => ?_)
  refine AnW (fun k3 => ?_)
  iterate 4 refine au ?_
  obtain ⟨r4, hx5, hF⟩ := bind_some hF
  refine Cx8 (s_l32Copy_ok _ _ _ _ _ _ _ _ _ _ hx5) (fun p6 => ?_)
  refine AnW (fun k7 => ?_)
  refine As (.agg [p6.1.v, p6.2.2.1.v, p6.2.2.2.2.1.v, p6.2.2.2.2.2.2.1.v, (.int .i64 r4.Source.Version), p6.2.2.2.2.2.2.2.2.1.v, (.int .i64 r4.Cache.Age), (.int .i64 r4.Now), p6.2.2.2.2.2.2.2.2.2.2.1.v, p6.2.2.2.2.2.2.2.2.2.2.2.2.1.v, (.int .i64 r4.Spent), p6.2.2.2.2.2.2.2.2.2.2.2.2.2.2.1.v].toArray) ?_
  iterate 4 refine au ?_
  obtain ⟨r8, hx9, hF⟩ := bind_some hF
  refine Cx0 (s_IsMediator_ok _ _ _ _ _ _ _ _ _ _ hx9) (fun _ => ?_)
  iterate 2 refine au ?_
  refine Cc (fun hb16 => ?_) (fun hb16 => ?_)
  · rw [if_pos hb16] at hF
    iterate 2 refine au ?_
    refine As (.agg [p6.1.v, p6.2.2.1.v, p6.2.2.2.2.1.v, p6.2.2.2.2.2.2.1.v, (.int .i64 r4.Source.Version), p6.2.2.2.2.2.2.2.2.1.v, (.int .i64 r4.Cache.Age), (.int .i64 r4.Now), p6.2.2.2.2.2.2.2.2.2.2.1.v, p6.2.2.2.2.2.2.2.2.2.2.2.2.1.v, (.int .i64 r4.Spent), p6.2.2.2.2.2.2.2.2.2.2.2.2.2.2.1.v].toArray) ?_
    iterate 3 refine au ?_
    cases hF
    exact End_ret (p6.1, p6.2.1, p6.2.2.1, p6.2.2.2.1, p6.2.2.2.2.1, p6.2.2.2.2.2.1, p6.2.2.2.2.2.2.1, p6.2.2.2.2.2.2.2.1, p6.2.2.2.2.2.2.2.2.1, p6.2.2.2.2.2.2.2.2.2.1, p6.2.2.2.2.2.2.2.2.2.2.1, p6.2.2.2.2.2.2.2.2.2.2.2.1, p6.2.2.2.2.2.2.2.2.2.2.2.2.1, p6.2.2.2.2.2.2.2.2.2.2.2.2.2.1, p6.2.2.2.2.2.2.2.2.2.2.2.2.2.2.1, p6.2.2.2.2.2.2.2.2.2.2.2.2.2.2.2) (.cellA rfl rfl .h rfl ag51.h ty51.h.sz rfl rfl (.tmp rfl rfl .nil)) rfl (.sel (.cons (.t (.t .h)) (.cons (.t (.t .h)) (.cons (.t (.t .h)) (.cons (.t (.t .h)) (.cons (.t (.t .h)) (.cons (.t (.t .h)) (.cons (.t (.t .h)) (.cons (.t (.t .h)) .nil)))))))))
  rw [if_neg (nt hb16)] at hF
  iterate 5 refine au ?_
  refine C_at (.t (.t (.t (.t (.t (.t (.t (.t (.t (.t (.t .h))))))))))) (fun hp => V_loadA (s := 2) (l := [v0_3.v, (.int .i64 a_m.Source.Version)]) ag45.h ty45.h.sz (.tmp rfl rfl) hp.2 rfl (by decide) (Nat.le_of_ble_eq_true rfl) rfl) ?_
  refine au ?_
  obtain ⟨r11, hx12, hF⟩ := bind_some hF
  refine Cx1 (s_ApplyChange_ok _ _ _ _ _ _ _ hx12) (fun p13 => ?_)
  refine au ?_
  refine C_val (V_extract (l := [(.agg [p13.1.v, (.int .i64 r11.1.Version)].toArray), (.bool r11.2)]) (v := (.agg [p13.1.v, (.int .i64 r11.1.Version)].toArray)) (.tmp rfl rfl) rfl) ?_
  refine C_val (V_extract (l := [(.agg [p13.1.v, (.int .i64 r11.1.Version)].toArray), (.bool r11.2)]) (v := (.bool r11.2)) (.tmp rfl rfl) rfl) ?_
  refine AnW (fun k14 => ?_)
  refine As (.agg [p13.1.v, (.int .i64 r11.1.Version)].toArray) ?_
  iterate 7 refine au ?_
  refine Cc (fun hb15 => ?_) (fun hb15 => ?_)
  · rw [if_pos hb15] at hF
    iterate 2 refine au ?_
    refine As (.agg [p6.1.v, p6.2.2.1.v, p6.2.2.2.2.1.v, p6.2.2.2.2.2.2.1.v, (.int .i64 r4.Source.Version), p6.2.2.2.2.2.2.2.2.1.v, (.int .i64 r4.Cache.Age), (.int .i64 r4.Now), p6.2.2.2.2.2.2.2.2.2.2.1.v, p6.2.2.2.2.2.2.2.2.2.2.2.2.1.v, (.int .i64 r4.Spent), p6.2.2.2.2.2.2.2.2.2.2.2.2.2.2.1.v].toArray) ?_
    iterate 3 refine au ?_
    cases hF
    exact End_ret (p6.1, p6.2.1, p6.2.2.1, p6.2.2.2.1, p6.2.2.2.2.1, p6.2.2.2.2.2.1, p6.2.2.2.2.2.2.1, p6.2.2.2.2.2.2.2.1, p6.2.2.2.2.2.2.2.2.1, p6.2.2.2.2.2.2.2.2.2.1, p6.2.2.2.2.2.2.2.2.2.2.1, p6.2.2.2.2.2.2.2.2.2.2.2.1, p6.2.2.2.2.2.2.2.2.2.2.2.2.1, p6.2.2.2.2.2.2.2.2.2.2.2.2.2.1, p6.2.2.2.2.2.2.2.2.2.2.2.2.2.2.1, p6.2.2.2.2.2.2.2.2.2.2.2.2.2.2.2) (.cellA rfl rfl .h rfl ag51.h ty51.h.sz rfl rfl (.tmp rfl rfl .nil)) rfl (.sel (.cons (.t (.t (.t (.t .h)))) (.cons (.t (.t (.t (.t .h)))) (.cons (.t (.t (.t (.t .h)))) (.cons (.t (.t (.t (.t .h)))) (.cons (.t (.t (.t (.t .h)))) (.cons (.t (.t (.t (.t .h)))) (.cons (.t (.t (.t (.t .h)))) (.cons (.t (.t (.t (.t .h)))) .nil)))))))))
  rw [if_neg (nt hb15)] at hF
  iterate 4 refine au ?_
  refine As (.agg [p6.1.v, p6.2.2.1.v, p6.2.2.2.2.1.v, p13.1.v, (.int .i64 r11.1.Version), p6.2.2.2.2.2.2.2.2.1.v, (.int .i64 r4.Cache.Age), (.int .i64 r4.Now), p6.2.2.2.2.2.2.2.2.2.2.1.v, p6.2.2.2.2.2.2.2.2.2.2.2.2.1.v, (.int .i64 r4.Spent), p6.2.2.2.2.2.2.2.2.2.2.2.2.2.2.1.v].toArray) ?_
  iterate 3 refine au ?_
  refine As (.agg [p6.1.v, p6.2.2.1.v, p6.2.2.2.2.1.v, p13.1.v, (.int .i64 r11.1.Version), p6.2.2.2.2.2.2.2.2.1.v, (.int .i64 r4.Cache.Age), (.int .i64 r4.Now), p6.2.2.2.2.2.2.2.2.2.2.1.v, p6.2.2.2.2.2.2.2.2.2.2.2.2.1.v, (.int .i64 r4.Spent), p6.2.2.2.2.2.2.2.2.2.2.2.2.2.2.1.v].toArray) ?_
  iterate 3 refine au ?_
  cases hF
  exact End_ret (p6.1, p6.2.1, p6.2.2.1, p6.2.2.2.1, p6.2.2.2.2.1, p6.2.2.2.2.2.1, p13.1, p13.2, p6.2.2.2.2.2.2.2.2.1, p6.2.2.2.2.2.2.2.2.2.1, p6.2.2.2.2.2.2.2.2.2.2.1, p6.2.2.2.2.2.2.2.2.2.2.2.1, p6.2.2.2.2.2.2.2.2.2.2.2.2.1, p6.2.2.2.2.2.2.2.2.2.2.2.2.2.1, p6.2.2.2.2.2.2.2.2.2.2.2.2.2.2.1, p6.2.2.2.2.2.2.2.2.2.2.2.2.2.2.2) (.cellA rfl rfl .h rfl ag51.h ty51.h.sz rfl rfl (.tmp rfl rfl .nil)) rfl (.sel (.cons (.t (.t (.t (.t .h)))) (.cons (.t (.t (.t (.t .h)))) (.cons (.t (.t (.t (.t .h)))) (.cons (.t (.t (.t .h))) (.cons (.t (.t (.t (.t .h)))) (.cons (.t (.t (.t (.t .h)))) (.cons (.t (.t (.t (.t .h)))) (.cons (.t (.t (.t (.t .h)))) .nil)))))))))

/-! slices.Clone[[]int,int] -/
def g_slices_Clone_int_int (a_s : List Int) : Option ((List Int)) :=
  (app ([] : List Int) a_s).bind fun z5 =>
  some z5
theorem g_slices_Clone_int_int_ok (a_s : List Int) (v0_0 : Sv) (R : (List Int)) (hF : g_slices_Clone_int_int a_s = some R) :
    Fw.Spec Tryz.prog 90 [v0_0.v] [crd (RdS 3 rdInt) v0_0.v a_s] (fun p : Sv × List Nat => p.1.v) (fun p => [cown (OwnS 3 (roE rdInt)) p.2 p.1.v R]) := by
  refine Spec_enter (n := 8) Tryz.func90 rfl rfl (rs := [.tmp 2]) rfl rfl rfl ?_
  intro H0 F0
  unfold g_slices_Clone_int_int at hF
  iterate 6 refine au ?_
  refine C_eqNil (xs := a_s) sl22.h (.tmp rfl rfl) .h crd_nilc (fun bn1 hn2 => ?_)
  refine au ?_
  refine Cc (fun hb3 => ?_) (fun hb3 => ?_)
  · have hnil := hn2 hb3
    replace hF : some [] = some R := by rw [hnil] at hF; simpa [app] using hF
    iterate 4 refine au ?_
    cases hF
    exact End_ret (⟨none, 0, 0⟩, []) (.tmp rfl rfl .nil) rfl (.conv .nil (own_nil (Ro := (roE rdInt)) (E := 3)) (.cons .nil) (.sel (.cons .h .nil)))
  iterate 2 refine au ?_
  refine C_new rfl (N_buildSliceT (g := true) sl22.h ty3.h .nil (vs := []) rfl rfl rfl (by simp)) (fun k4 => ?_)
  refine Cv1 (.cons .h .nil) (own_lit (Ro := (roE rdInt)) (E := 3) (F := []) (xs := ([] : List Int)) MkL_nil rfl rfl) ?_
  refine au ?_
  obtain ⟨z5, hx6, hF⟩ := bind_some hF
  refine C_x1 (.cons .h (.rd .h rfl .nil)) (X_appendO (Ro := (roE rdInt)) sl22.h ni22 ty3.h rfl rfl rfl (.tmp rfl rfl) (.tmp rfl rfl) hx6 src_rd) (fun p7 => ?_)
  iterate 3 refine au ?_
  cases hF
  exact Er (p7.1, p7.2)

/-! impl.copyMethods -/
def i_copyMethods_L1 : List Method → Nat → (List Method) → Option ((List Method))
  | [], k8, c2 => some c2
  | x10 :: rest9, k8, c2 => (g_slices_Clone_int_int x10.Inputs).bind fun r21 =>
    (app c2 ([({ Rel := x10.Rel, Inputs := r21, Limit := x10.Limit, Cost := x10.Cost, Quota := x10.Quota } : Method)] : List Method)).bind fun z25 =>
    i_copyMethods_L1 rest9 (k8 + 1) z25
def i_copyMethods (a_l : List Method) : Option ((List Method)) :=
  i_copyMethods_L1 a_l 0 ([] : List Method)
theorem i_copyMethods_ok (a_l : List Method) (v0_0 : Sv) (R : (List Method)) (hF : i_copyMethods a_l = some R) :
    Fw.Spec Tryz.prog 91 [v0_0.v] [crd (RdS 114 rd114) v0_0.v a_l] (fun p : Sv × List Nat => p.1.v) (fun p => [cown (OwnS 114 ow114) p.2 p.1.v R]) := by
  refine Spec_enter (n := 23) Tryz.func91 rfl rfl (rs := [.tmp 2]) rfl rfl rfl ?_
  intro H0 F0
  unfold i_copyMethods at hF
  iterate 4 refine au ?_
  refine C_new rfl (N_buildSliceT (g := true) sl41.h ty114.h .nil (vs := []) rfl rfl rfl (by simp)) (fun k1 => ?_)
  refine Cv1 (.cons .h .nil) (own_lit (Ro := ow114) (E := 114) (F := []) (xs := ([] : List Method)) MkL_nil rfl rfl) ?_
  iterate 8 refine au ?_
  refine CW_block (CW_loop (m := a_l.length) (fun m6 f' cs' => ∃ (g : Fr) (k8 : Nat) (rest9 : List Method) (c2 : List Method) (v3 : Sv) (F4 : List Nat), m6 = rest9.length ∧ f' = updL g [(3, v3.v), (7, v0_0.v), (8, (.int .i64 (a_l.length : Int))), (9, (.int .i64 (k8 : Int)))] ∧ List.drop k8 a_l = rest9 ∧ Ent cs' [cown (OwnS 114 ow114) F4 v3.v c2, crd (RdS 114 rd114) v0_0.v a_l] ∧ i_copyMethods_L1 rest9 k8 c2 = some R) ⟨_, 0, _, _, ⟨(some ⟨k1, 0, none⟩), 0, 1⟩, (k1 :: []), rfl, eqA, rfl, entA, hF⟩ ?_)
  clear hF
  rintro m6 _ _ ⟨g7, k8, rest9, c2, v3, F4, rfl, rfl, hd11, hE, hF⟩
  refine K_ent hE ?_
  clear hE
  refine K_pure (c := crd (RdS 114 rd114) v0_0.v a_l) (.t .h) crd_bound (fun hbd16 => ?_)
  rcases rest9 with _ | ⟨x10, rest9⟩
  · have hk12 := List.drop_eq_nil_iff.1 hd11
    rw [i_copyMethods_L1] at hF
    iterate 4 refine au ?_
    refine CdF ?_
    iterate 9 refine au ?_
    cases hF
    exact Er (v3, F4)
  obtain ⟨hk12, hx13, hd14⟩ := drop_cons hd11
  rw [i_copyMethods_L1] at hF
  iterate 4 refine au ?_
  refine CdT ?_
  iterate 3 refine au ?_
  refine Ai hx13 (fun k17 j18 => ?_)
  refine AlA1 (ul114_0_114 x10) la114_0_114 (fun p19 => ?_)
  refine AnW (fun k20 => ?_)
  refine As (.agg [(.int .i64 x10.Rel), p19.v, (.int .i64 x10.Limit), (.int .i64 x10.Cost), (.int .i64 x10.Quota)].toArray) ?_
  iterate 4 refine au ?_
  obtain ⟨r21, hx22, hF⟩ := bind_some hF
  refine Cx1 (g_slices_Clone_int_int_ok _ _ _ hx22) (fun p23 => ?_)
  refine au ?_
  refine As (.agg [(.int .i64 x10.Rel), p23.1.v, (.int .i64 x10.Limit), (.int .i64 x10.Cost), (.int .i64 x10.Quota)].toArray) ?_
  iterate 4 refine au ?_
  refine C_new rfl (N_buildSliceT (g := true) sl41.h ty114.h (.cons (.tmp rfl rfl) .nil) (vs := [(.agg [(.int .i64 x10.Rel), p23.1.v, (.int .i64 x10.Limit), (.int .i64 x10.Cost), (.int .i64 x10.Quota)].toArray)]) rfl rfl rfl (by intro v hv; simp at hv; rcases hv with rfl <;> rfl)) (fun k24 => ?_)
  refine Cv1 (.cons .h (.cons (.t .h) .nil)) (own_lit (Ro := ow114) (E := 114) (F := (p23.2 ++ [])) (xs := ([({ Rel := x10.Rel, Inputs := r21, Limit := x10.Limit, Cost := x10.Cost, Quota := x10.Quota } : Method)] : List Method)) (MkL_cons (mk114 (a := ({ Rel := x10.Rel, Inputs := r21, Limit := x10.Limit, Cost := x10.Cost, Quota := x10.Quota } : Method))) MkL_nil apps) rfl rfl) ?_
  obtain ⟨z25, hx26, hF⟩ := bind_some hF
  refine C_x1 (.cons (.t (.t (.t (.t .h)))) (.cons .h .nil)) (X_appendO (Ro := ow114) sl41.h ni41 ty114.h rfl rfl rfl (.tmp rfl rfl) (.tmp rfl rfl) hx26 src_own) (fun p27 => ?_)
  iterate 6 refine au ?_
  rw [wk k8]
  exact ⟨_, Nat.lt_succ_self _, _, k8 + 1, rest9, _, p27.1, p27.2, rfl, eqA, hd14, entA, hF⟩

/-! impl.copyFact -/
def i_copyFact (a_f : Fact) : Option (Fact) :=
  (g_slices_Clone_int_int a_f.Values).bind fun r3 =>
  some ({ Rel := a_f.Rel, Values := r3 } : Fact)
theorem i_copyFact_ok (a_f : Fact) (v0_1 : Sv) (R : Fact) (hF : i_copyFact a_f = some R) :
    Fw.Spec Tryz.prog 160 [(.agg [(.int .i64 a_f.Rel), v0_1.v].toArray)] [crd (RdS 3 rdInt) v0_1.v a_f.Values] (fun p : Sv × List Nat => (.agg [(.int .i64 R.Rel), p.1.v].toArray)) (fun p => [cown (OwnS 3 (roE rdInt)) p.2 p.1.v R.Values]) := by
  refine Spec_enter (n := 9) Tryz.func160 rfl rfl (rs := [.cell 2 55]) rfl rfl rfl ?_
  intro H0 F0
  unfold i_copyFact at hF
  refine au ?_
  refine AbR (fun k1 => ?_)
  refine AnW (fun k2 => ?_)
  refine au ?_
  refine K_draw [0, 1, 2, 3, 4, 5, 6] [0, 1, 0, 4, 12, 31, 63] [4, 6] mixed (by decide +kernel) ?_
  iterate 4 refine du ?_
  obtain ⟨r3, hx4, hF⟩ := bind_some hF
  refine Dx1 (g_slices_Clone_int_int_ok _ _ _ hx4) (fun p5 => ?_)
  refine D_val rfl .no (fun ha => V_build ty55.h rfl (vs := [(.int .i64 a_f.Rel), p5.1.v]) (.cons (EN ha (.tmp rfl rfl) rfl) (.cons (EN ha (.tmp rfl rfl) rfl) .nil)) (cells := [(.int .i64 a_f.Rel), p5.1.v]) rfl) ?_
  refine D_act1 rfl rfl .no (.cons (.t .h) .nil) .nil (fun ha => X_storeB (e' := (.agg [(.int .i64 a_f.Rel), p5.1.v].toArray)) (v := (.agg [(.int .i64 a_f.Rel), p5.1.v].toArray)) ty55.h.sz (EN ha (.tmp rfl rfl) rfl) (EN ha (.tmp rfl rfl) rfl) rfl rfl rfl rfl rfl) (fun _ => ?_)
  refine du ?_
  refine au ?_
  cases hF
  exact Er (p5.1, p5.2)

/-! impl.copyFacts -/
def i_copyFacts_L1 : List Fact → Nat → (List Fact) → Option ((List Fact))
  | [], k8, c2 => some c2
  | x10 :: rest9, k8, c2 => (i_copyFact x10).bind fun r21 =>
    (app c2 ([r21] : List Fact)).bind fun z25 =>
    i_copyFacts_L1 rest9 (k8 + 1) z25
def i_copyFacts (a_l : List Fact) : Option ((List Fact)) :=
  i_copyFacts_L1 a_l 0 ([] : List Fact)
theorem i_copyFacts_ok (a_l : List Fact) (v0_0 : Sv) (R : (List Fact)) (hF : i_copyFacts a_l = some R) :
    Fw.Spec Tryz.prog 135 [v0_0.v] [crd (RdS 55 rd55) v0_0.v a_l] (fun p : Sv × List Nat => p.1.v) (fun p => [cown (OwnS 55 ow55) p.2 p.1.v R]) := by
  refine Spec_enter (n := 20) Tryz.func135 rfl rfl (rs := [.tmp 2]) rfl rfl rfl ?_
  intro H0 F0
  unfold i_copyFacts at hF
  iterate 4 refine au ?_
  refine C_new rfl (N_buildSliceT (g := true) sl43.h ty55.h .nil (vs := []) rfl rfl rfl (by simp)) (fun k1 => ?_)
  refine Cv1 (.cons .h .nil) (own_lit (Ro := ow55) (E := 55) (F := []) (xs := ([] : List Fact)) MkL_nil rfl rfl) ?_
  iterate 8 refine au ?_
  refine CW_block (CW_loop (m := a_l.length) (fun m6 f' cs' => ∃ (g : Fr) (k8 : Nat) (rest9 : List Fact) (c2 : List Fact) (v3 : Sv) (F4 : List Nat), m6 = rest9.length ∧ f' = updL g [(3, v3.v), (7, v0_0.v), (8, (.int .i64 (a_l.length : Int))), (9, (.int .i64 (k8 : Int)))] ∧ List.drop k8 a_l = rest9 ∧ Ent cs' [cown (OwnS 55 ow55) F4 v3.v c2, crd (RdS 55 rd55) v0_0.v a_l] ∧ i_copyFacts_L1 rest9 k8 c2 = some R) ⟨_, 0, _, _, ⟨(some ⟨k1, 0, none⟩), 0, 1⟩, (k1 :: []), rfl, eqA, rfl, entA, hF⟩ ?_)
  clear hF
  rintro m6 _ _ ⟨g7, k8, rest9, c2, v3, F4, rfl, rfl, hd11, hE, hF⟩
  refine K_ent hE ?_
  clear hE
  refine K_pure (c := crd (RdS 55 rd55) v0_0.v a_l) (.t .h) crd_bound (fun hbd16 => ?_)
  rcases rest9 with _ | ⟨x10, rest9⟩
  · have hk12 := List.drop_eq_nil_iff.1 hd11
    rw [i_copyFacts_L1] at hF
    iterate 4 refine au ?_
    refine CdF ?_
    iterate 9 refine au ?_
    cases hF
    exact Er (v3, F4)
  obtain ⟨hk12, hx13, hd14⟩ := drop_cons hd11
  rw [i_copyFacts_L1] at hF
  iterate 4 refine au ?_
  refine CdT ?_
  iterate 3 refine au ?_
  refine Ai hx13 (fun k17 j18 => ?_)
  refine AlA1 (ul55_0_55 x10) la55_0_55 (fun p19 => ?_)
  refine AnW (fun k20 => ?_)
  refine As (.agg [(.int .i64 x10.Rel), p19.v].toArray) ?_
  iterate 4 refine au ?_
  obtain ⟨r21, hx22, hF⟩ := bind_some hF
  refine Cx1 (i_copyFact_ok _ _ _ hx22) (fun p23 => ?_)
  refine C_new rfl (N_buildSliceT (g := true) sl43.h ty55.h (.cons (.tmp rfl rfl) .nil) (vs := [(.agg [(.int .i64 r21.Rel), p23.1.v].toArray)]) rfl rfl rfl (by intro v hv; simp at hv; rcases hv with rfl <;> rfl)) (fun k24 => ?_)
  refine Cv1 (.cons .h (.cons .h .nil)) (own_lit (Ro := ow55) (E := 55) (F := (p23.2 ++ [])) (xs := ([r21] : List Fact)) (MkL_cons mk55 MkL_nil apps) rfl rfl) ?_
  obtain ⟨z25, hx26, hF⟩ := bind_some hF
  refine C_x1 (.cons (.t (.t (.t (.t .h)))) (.cons .h .nil)) (X_appendO (Ro := ow55) sl43.h ni43 ty55.h rfl rfl rfl (.tmp rfl rfl) (.tmp rfl rfl) hx26 src_own) (fun p27 => ?_)
  iterate 6 refine au ?_
  rw [wk k8]
  exact ⟨_, Nat.lt_succ_self _, _, k8 + 1, rest9, _, p27.1, p27.2, rfl, eqA, hd14, entA, hF⟩

/-! impl.copySource -/
def i_copySource (a_x : Source) : Option (Source) :=
  (i_copyFacts a_x.Facts).bind fun r3 =>
  some ({ Facts := r3, Version := a_x.Version } : Source)
theorem i_copySource_ok (a_x : Source) (v0_0 : Sv) (R : Source) (hF : i_copySource a_x = some R) :
    Fw.Spec Tryz.prog 92 [(.agg [v0_0.v, (.int .i64 a_x.Version)].toArray)] [crd (RdS 55 rd55) v0_0.v a_x.Facts] (fun p : Sv × List Nat => (.agg [p.1.v, (.int .i64 R.Version)].toArray)) (fun p => [cown (OwnS 55 ow55) p.2 p.1.v R.Facts]) := by
  refine Spec_enter (n := 9) Tryz.func92 rfl rfl (rs := [.cell 2 45]) rfl rfl rfl ?_
  intro H0 F0
  unfold i_copySource at hF
  refine au ?_
  refine AbR (fun k1 => ?_)
  refine AnW (fun k2 => ?_)
  refine au ?_
  refine K_draw [0, 1, 3, 4, 2, 5, 6] [0, 1, 3, 0, 8, 31, 63] [2, 6] mixed (by decide +kernel) ?_
  iterate 4 refine du ?_
  obtain ⟨r3, hx4, hF⟩ := bind_some hF
  refine Dx1 (i_copyFacts_ok _ _ _ hx4) (fun p5 => ?_)
  refine D_val rfl .no (fun ha => V_build ty45.h rfl (vs := [p5.1.v, (.int .i64 a_x.Version)]) (.cons (EN ha (.tmp rfl rfl) rfl) (.cons (EN ha (.tmp rfl rfl) rfl) .nil)) (cells := [p5.1.v, (.int .i64 a_x.Version)]) rfl) ?_
  refine D_act1 rfl rfl .no (.cons (.t .h) .nil) .nil (fun ha => X_storeB (e' := (.agg [p5.1.v, (.int .i64 a_x.Version)].toArray)) (v := (.agg [p5.1.v, (.int .i64 a_x.Version)].toArray)) ty45.h.sz (EN ha (.tmp rfl rfl) rfl) (EN ha (.tmp rfl rfl) rfl) rfl rfl rfl rfl rfl) (fun _ => ?_)
  refine du ?_
  refine au ?_
  cases hF
  exact Er (p5.1, p5.2)

/-! impl.copyCache$1 -/
def i_copyCache_1 (a_x : Stored) : Option (Bool) :=
  some true
theorem i_copyCache_1_ok (a_x : Stored) (v0_1 : Sv) (v0_2 : Sv) (R : Bool) (hF : i_copyCache_1 a_x = some R) :
    Fw.Spec Tryz.prog 137 [(.agg [(.int .i64 a_x.Access.Method), v0_1.v, v0_2.v, (.int .i64 a_x.At)].toArray)] [crd (RdS 3 rdInt) v0_1.v a_x.Access.Values, crd (RdS 55 rd55) v0_2.v a_x.Facts] (fun _ : Unit => (.bool R)) (fun _ => []) := by
  refine Spec_enter (n := 3) Tryz.func137 rfl rfl (rs := [.tmp 2]) rfl rfl rfl ?_
  intro H0 F0
  unfold i_copyCache_1 at hF
  refine au ?_
  refine AbR (fun k1 => ?_)
  iterate 6 refine au ?_
  cases hF
  exact Er ()

/-! impl.copyAccess -/
def i_copyAccess (a_a : Access) : Option (Access) :=
  (g_slices_Clone_int_int a_a.Values).bind fun r3 =>
  some ({ Method := a_a.Method, Values := r3 } : Access)
theorem i_copyAccess_ok (a_a : Access) (v0_1 : Sv) (R : Access) (hF : i_copyAccess a_a = some R) :
    Fw.Spec Tryz.prog 138 [(.agg [(.int .i64 a_a.Method), v0_1.v].toArray)] [crd (RdS 3 rdInt) v0_1.v a_a.Values] (fun p : Sv × List Nat => (.agg [(.int .i64 R.Method), p.1.v].toArray)) (fun p => [cown (OwnS 3 (roE rdInt)) p.2 p.1.v R.Values]) := by
  refine Spec_enter (n := 9) Tryz.func138 rfl rfl (rs := [.cell 2 124]) rfl rfl rfl ?_
  intro H0 F0
  unfold i_copyAccess at hF
  refine au ?_
  refine AbR (fun k1 => ?_)
  refine AnW (fun k2 => ?_)
  refine au ?_
  refine K_draw [0, 1, 2, 3, 4, 5, 6] [0, 1, 0, 4, 12, 31, 63] [4, 6] mixed (by decide +kernel) ?_
  iterate 4 refine du ?_
  obtain ⟨r3, hx4, hF⟩ := bind_some hF
  refine Dx1 (g_slices_Clone_int_int_ok _ _ _ hx4) (fun p5 => ?_)
  refine D_val rfl .no (fun ha => V_build ty124.h rfl (vs := [(.int .i64 a_a.Method), p5.1.v]) (.cons (EN ha (.tmp rfl rfl) rfl) (.cons (EN ha (.tmp rfl rfl) rfl) .nil)) (cells := [(.int .i64 a_a.Method), p5.1.v]) rfl) ?_
  refine D_act1 rfl rfl .no (.cons (.t .h) .nil) .nil (fun ha => X_storeB (e' := (.agg [(.int .i64 a_a.Method), p5.1.v].toArray)) (v := (.agg [(.int .i64 a_a.Method), p5.1.v].toArray)) ty124.h.sz (EN ha (.tmp rfl rfl) rfl) (EN ha (.tmp rfl rfl) rfl) rfl rfl rfl rfl rfl) (fun _ => ?_)
  refine du ?_
  refine au ?_
  cases hF
  exact Er (p5.1, p5.2)

/-! impl.copyStored -/
def i_copyStored (a_x : Stored) : Option (Stored) :=
  (i_copyAccess a_x.Access).bind fun r3 =>
  (i_copyFacts a_x.Facts).bind fun r6 =>
  some ({ Access := r3, Facts := r6, At := a_x.At } : Stored)
theorem i_copyStored_ok (a_x : Stored) (v0_1 : Sv) (v0_2 : Sv) (R : Stored) (hF : i_copyStored a_x = some R) :
    Fw.Spec Tryz.prog 166 [(.agg [(.int .i64 a_x.Access.Method), v0_1.v, v0_2.v, (.int .i64 a_x.At)].toArray)] [crd (RdS 3 rdInt) v0_1.v a_x.Access.Values, crd (RdS 55 rd55) v0_2.v a_x.Facts] (fun p : Sv × List Nat × Sv × List Nat => (.agg [(.int .i64 R.Access.Method), p.1.v, p.2.2.1.v, (.int .i64 R.At)].toArray)) (fun p => [cown (OwnS 3 (roE rdInt)) p.2.1 p.1.v R.Access.Values, cown (OwnS 55 ow55) p.2.2.2 p.2.2.1.v R.Facts]) := by
  refine Spec_enter (n := 12) Tryz.func166 rfl rfl (rs := [.cell 2 156]) rfl rfl rfl ?_
  intro H0 F0
  unfold i_copyStored at hF
  refine au ?_
  refine AbR (fun k1 => ?_)
  refine AnW (fun k2 => ?_)
  refine au ?_
  refine K_draw [0, 1, 3, 4, 6, 7, 2, 5, 8, 9] [0, 1, 3, 0, 8, 31, 0, 64, 255, 511] [2, 5, 9] mixed (by decide +kernel) ?_
  refine du ?_
  refine D_at rfl .no (.t .h) rfl (fun ha hp => V_loadA (s := 2) (l := [(.int .i64 a_x.Access.Method), v0_1.v]) ag124.h ty124.h.sz (EN ha (.tmp rfl rfl) rfl) hp.2 rfl (by decide) (Nat.le_of_ble_eq_true rfl) rfl) ?_
  iterate 4 refine du ?_
  obtain ⟨r3, hx4, hF⟩ := bind_some hF
  refine Dx1 (i_copyAccess_ok _ _ _ hx4) (fun p5 => ?_)
  obtain ⟨r6, hx7, hF⟩ := bind_some hF
  refine Dx1 (i_copyFacts_ok _ _ _ hx7) (fun p8 => ?_)
  refine D_val rfl .no (fun ha => V_build ty156.h rfl (vs := [(.agg [(.int .i64 r3.Method), p5.1.v].toArray), p8.1.v, (.int .i64 a_x.At)]) (.cons (EN ha (.tmp rfl rfl) rfl) (.cons (EN ha (.tmp rfl rfl) rfl) (.cons (EN ha (.tmp rfl rfl) rfl) .nil))) (cells := [(.int .i64 r3.Method), p5.1.v, p8.1.v, (.int .i64 a_x.At)]) rfl) ?_
  refine D_act1 rfl rfl .no (.cons (.t (.t .h)) .nil) .nil (fun ha => X_storeB (e' := (.agg [(.int .i64 r3.Method), p5.1.v, p8.1.v, (.int .i64 a_x.At)].toArray)) (v := (.agg [(.int .i64 r3.Method), p5.1.v, p8.1.v, (.int .i64 a_x.At)].toArray)) ty156.h.sz (EN ha (.tmp rfl rfl) rfl) (EN ha (.tmp rfl rfl) rfl) rfl rfl rfl rfl rfl) (fun _ => ?_)
  refine du ?_
  refine au ?_
  cases hF
  exact Er (p5.1, p5.2, p8.1, p8.2)

/-! impl.Cache).kept -/
def i_Cache_kept_icopyCache1_L1 (a_c : Cache) : List Stored → Nat → (List Stored) → Option (Cache)
  | [], k42, c36 => some ({ Entries := c36, Age := a_c.Age } : Cache)
  | x44 :: rest43, k42, c36 => ((i_copyCache_1 x44).bind fun r57 =>
      if r57 then (
        (i_copyStored x44).bind fun r60 =>
        (app c36 ([r60] : List Stored)).bind fun z64 =>
        some z64)
      else (
        some c36)).bind fun o51 =>
    match o51 with
    | c68 => i_Cache_kept_icopyCache1_L1 a_c rest43 (k42 + 1) c68
def i_Cache_kept_icopyCache1 (a_c : Cache) : Option (Cache) :=
  i_Cache_kept_icopyCache1_L1 a_c a_c.Entries 0 ([] : List Stored)
theorem i_Cache_kept_icopyCache1_ok (a_c : Cache) (v0_0 : Sv) (R : Cache) (hF : i_Cache_kept_icopyCache1 a_c = some R) :
    Fw.Spec Tryz.prog 136 [(.agg [v0_0.v, (.int .i64 a_c.Age)].toArray), (.func (.func 137) [].toArray [].toArray)] [crd (RdS 156 rd156) v0_0.v a_c.Entries] (fun p : Sv × List Nat => (.agg [p.1.v, (.int .i64 R.Age)].toArray)) (fun p => [cown (OwnS 156 ow156) p.2 p.1.v R.Entries]) := by
  refine Spec_enter (n := 30) Tryz.func136 rfl rfl (rs := [.cell 4 48]) rfl rfl rfl ?_
  intro H0 F0
  unfold i_Cache_kept_icopyCache1 at hF
  refine au ?_
  refine AbR (fun k1 => ?_)
  refine AnW (fun k2 => ?_)
  iterate 4 refine au ?_
  refine C_val (V_build ty48.h rfl (vs := [(.int .i64 a_c.Age)]) (.cons (.tmp rfl rfl) .nil) (cells := [(.slice none 0 0), (.int .i64 a_c.Age)]) rfl) ?_
  refine AnW (fun k3 => ?_)
  refine As (.agg [(.slice none 0 0), (.int .i64 a_c.Age)].toArray) ?_
  iterate 8 refine au ?_
  refine CW_block (CW_loop (m := a_c.Entries.length) (fun m40 f' cs' => ∃ (g : Fr) (k42 : Nat) (rest43 : List Stored) (c36 : List Stored) (v37 : Sv) (F38 : List Nat), m40 = rest43.length ∧ f' = updL g [(1, (.func (.func 137) [].toArray [].toArray)), (4, (.pointer (some ⟨k2, 0, some 0⟩))), (5, (.pointer (some ⟨k3, 0, some 0⟩))), (12, v0_0.v), (13, (.int .i64 (a_c.Entries.length : Int))), (14, (.int .i64 (k42 : Int)))] ∧ List.drop k42 a_c.Entries = rest43 ∧ Ent cs' [cbox k2 48 (.agg [(.slice none 0 0), (.int .i64 0)].toArray), cbox k3 48 (.agg [v37.v, (.int .i64 a_c.Age)].toArray), cown (OwnS 156 ow156) F38 v37.v c36, crd (RdS 156 rd156) v0_0.v a_c.Entries] ∧ i_Cache_kept_icopyCache1_L1 a_c rest43 k42 c36 = some R) ⟨_, 0, _, _, ⟨none, 0, 0⟩, [], rfl, eqA, rfl, (.conv .nil (own_nil (Ro := ow156) (E := 156)) (.cons .nil) entA), hF⟩ ?_)
  clear hF
  rintro m40 _ _ ⟨g41, k42, rest43, c36, v37, F38, rfl, rfl, hd45, hE, hF⟩
  refine K_ent hE ?_
  clear hE
  refine K_pure (c := crd (RdS 156 rd156) v0_0.v a_c.Entries) (.t (.t (.t .h))) crd_bound (fun hbd50 => ?_)
  rcases rest43 with _ | ⟨x44, rest43⟩
  · have hk46 := List.drop_eq_nil_iff.1 hd45
    rw [i_Cache_kept_icopyCache1_L1] at hF
    iterate 4 refine au ?_
    refine CdF ?_
    iterate 6 refine au ?_
    refine As (.agg [v37.v, (.int .i64 a_c.Age)].toArray) ?_
    iterate 2 refine au ?_
    cases hF
    exact Er (v37, F38)
  obtain ⟨hk46, hx47, hd48⟩ := drop_cons hd45
  rw [i_Cache_kept_icopyCache1_L1] at hF
  iterate 4 refine au ?_
  refine CdT ?_
  refine au ?_
  obtain ⟨o51, hio51, hO52⟩ := bind_some hF
  refine K_cut (fun f' cs' => ∃ (c68 : List Stored) (v69 : Sv) (F70 : List Nat) (g : Fr), c68 = o51 ∧ f' = updL g [(1, (.func (.func 137) [].toArray [].toArray)), (4, (.pointer (some ⟨k2, 0, some 0⟩))), (5, (.pointer (some ⟨k3, 0, some 0⟩))), (12, v0_0.v), (13, (.int .i64 (a_c.Entries.length : Int))), (14, (.int .i64 (k42 : Int)))] ∧ Ent cs' [cbox k2 48 (.agg [(.slice none 0 0), (.int .i64 0)].toArray), cbox k3 48 (.agg [v69.v, (.int .i64 a_c.Age)].toArray), cown (OwnS 156 ow156) F70 v69.v c68, crd (RdS 156 rd156) v0_0.v a_c.Entries]) ?_ ?_
  · replace hF := hio51
    refine CW_block (K_region (C_idx (a := x44) sl46.h ty156.h.sz (.tmp rfl rfl) (.tmp rfl rfl) (.t (.t (.t .h))) (Int.natCast_nonneg k42) hx47 (fun k53 j54 => ?_)))
    refine AlA2 (ul156_0_156 x44) la156_0_156 (fun p55 => ?_)
    refine AnW (fun k56 => ?_)
    refine As (.agg [(.int .i64 x44.Access.Method), p55.1.v, p55.2.v, (.int .i64 x44.At)].toArray) ?_
    iterate 4 refine au ?_
    obtain ⟨r57, hx58, hF⟩ := bind_some hF
    refine C_x0 (.rd (.t .h) rfl (.rd (.t (.t .h)) rfl .nil)) (X_callCS cf137.h (.tmp rfl rfl) (.cons (.tmp rfl rfl) .nil) (i_copyCache_1_ok x44 p55.1 p55.2 _ hx58)) (fun _ => ?_)
    refine au ?_
    refine Cc (fun hb67 => ?_) (fun hb67 => ?_)
    · rw [if_pos hb67] at hF
      refine CW_draw [0, 1, 2, 3, 4, 5, 6, 7] [0, 1, 0, 4, 12, 31, 63, 127] [3, 5, 7] mixed (by decide +kernel) ?_
      refine du ?_
      refine D_atO rfl .no (.t (.t (.t (.t (.t .h))))) (fun ha hp => V_load (v := v37.v) ag46.h (EN ha (.tmp rfl rfl) rfl) hp.2 rfl rfl) ?_
      refine D_atO rfl .no .h (fun ha hp => V_loadBox ag156.h ty156.h.sz rfl (EN ha (.tmp rfl rfl) rfl) hp.2 rfl) ?_
      obtain ⟨r60, hx61, hF⟩ := bind_some hF
      refine D_act2 rfl rfl .no (.rd (.t .h) rfl (.rd (.t (.t .h)) rfl .nil)) (.dep rfl (.own (.t (.t (.t (.t (.t .h))))) (fun _ h => h) .nil)) (fun ha => X_callS cf166.h (.cons (EN ha (.tmp rfl rfl) rfl) .nil) (i_copyStored_ok x44 p55.1 p55.2 _ hx61)) (fun p62 => ?_)
      refine D_new rfl .no rfl (fun ha => N_buildSliceT (g := true) (len := 1) (parts := [(0, .tmp 24)]) sl46.h ty156.h (.cons (EN ha (.tmp rfl rfl) rfl) .nil) (vs := [(.agg [(.int .i64 r60.Access.Method), p62.1.v, p62.2.2.1.v, (.int .i64 r60.At)].toArray)]) rfl rfl rfl (by intro v hv; simp at hv; rcases hv with rfl <;> rfl)) (fun k63 => ?_)
      refine Dv1 (.cons .h (.cons .h (.cons .h .nil))) (own_lit (Ro := ow156) (E := 156) (F := ((p62.2.1 ++ p62.2.2.2) ++ [])) (xs := ([r60] : List Stored)) (MkL_cons mk156 MkL_nil apps) rfl rfl) ?_
      obtain ⟨z64, hx65, hF⟩ := bind_some hF
      refine D_act1 rfl rfl .no (.cons (.t (.t (.t (.t (.t (.t (.t .h))))))) (.cons .h .nil)) (.dep rfl (.dep rfl (.dep rfl .nil))) (fun ha => X_appendO (Ro := ow156) sl46.h ni46 ty156.h rfl rfl rfl (EN ha (.tmp rfl rfl) rfl) (EN ha (.tmp rfl rfl) rfl) hx65 src_own) (fun p66 => ?_)
      refine du ?_
      refine D_act1 rfl rfl .no (.cons (.t (.t (.t (.t (.t (.t .h)))))) .nil) (.dep rfl (.dep rfl (.dep rfl .nil))) (fun ha => X_storeB (e' := (.agg [p66.1.v, (.int .i64 a_c.Age)].toArray)) ty46.h.sz (EN ha (.tmp rfl rfl) rfl) (EN ha (.tmp rfl rfl) rfl) rfl rfl rfl rfl rfl) (fun _ => ?_)
      refine du ?_
      cases hF
      exact ⟨_, p66.1, p66.2, _, rfl, eqA, entA⟩
    rw [if_neg (nt hb67)] at hF
    refine au ?_
    cases hF
    exact ⟨_, v37, F38, _, rfl, eqA, entA⟩
  rintro _ _ ⟨c68, v69, F70, g72, rfl, rfl, hE⟩
  replace hF := hO52
  clear hO52
  try dsimp only at hF
  refine K_ent hE ?_
  iterate 4 refine au ?_
  rw [wk k42]
  exact ⟨_, Nat.lt_succ_self _, _, k42 + 1, rest43, _, v69, F70, rfl, eqA, hd48, entA, hF⟩

/-! impl.copyCache -/
def i_copyCache (a_c : Cache) : Option (Cache) :=
  (i_Cache_kept_icopyCache1 a_c).bind fun r3 =>
  some r3
theorem i_copyCache_ok (a_c : Cache) (v0_0 : Sv) (R : Cache) (hF : i_copyCache a_c = some R) :
    Fw.Spec Tryz.prog 93 [(.agg [v0_0.v, (.int .i64 a_c.Age)].toArray)] [crd (RdS 156 rd156) v0_0.v a_c.Entries] (fun p : Sv × List Nat => (.agg [p.1.v, (.int .i64 R.Age)].toArray)) (fun p => [cown (OwnS 156 ow156) p.2 p.1.v R.Entries]) := by
  refine Spec_enter (n := 5) Tryz.func93 rfl rfl (rs := [.cell 2 48]) rfl rfl rfl ?_
  intro H0 F0
  unfold i_copyCache at hF
  refine au ?_
  refine AbR (fun k1 => ?_)
  refine AnW (fun k2 => ?_)
  iterate 3 refine au ?_
  obtain ⟨r3, hx4, hF⟩ := bind_some hF
  refine Cx1 (i_Cache_kept_icopyCache1_ok _ _ _ hx4) (fun p5 => ?_)
  refine As (.agg [p5.1.v, (.int .i64 r3.Age)].toArray) ?_
  iterate 2 refine au ?_
  cases hF
  exact Er (p5.1, p5.2)

/-! impl.copyAccesses -/
def i_copyAccesses_L1 : List Access → Nat → (List Access) → Option ((List Access))
  | [], k8, c2 => some c2
  | x10 :: rest9, k8, c2 => (i_copyAccess x10).bind fun r21 =>
    (app c2 ([r21] : List Access)).bind fun z25 =>
    i_copyAccesses_L1 rest9 (k8 + 1) z25
def i_copyAccesses (a_l : List Access) : Option ((List Access)) :=
  i_copyAccesses_L1 a_l 0 ([] : List Access)
theorem i_copyAccesses_ok (a_l : List Access) (v0_0 : Sv) (R : (List Access)) (hF : i_copyAccesses a_l = some R) :
    Fw.Spec Tryz.prog 94 [v0_0.v] [crd (RdS 124 rd124) v0_0.v a_l] (fun p : Sv × List Nat => p.1.v) (fun p => [cown (OwnS 124 ow124) p.2 p.1.v R]) := by
  refine Spec_enter (n := 20) Tryz.func94 rfl rfl (rs := [.tmp 2]) rfl rfl rfl ?_
  intro H0 F0
  unfold i_copyAccesses at hF
  iterate 4 refine au ?_
  refine C_new rfl (N_buildSliceT (g := true) sl49.h ty124.h .nil (vs := []) rfl rfl rfl (by simp)) (fun k1 => ?_)
  refine Cv1 (.cons .h .nil) (own_lit (Ro := ow124) (E := 124) (F := []) (xs := ([] : List Access)) MkL_nil rfl rfl) ?_
  iterate 8 refine au ?_
  refine CW_block (CW_loop (m := a_l.length) (fun m6 f' cs' => ∃ (g : Fr) (k8 : Nat) (rest9 : List Access) (c2 : List Access) (v3 : Sv) (F4 : List Nat), m6 = rest9.length ∧ f' = updL g [(3, v3.v), (7, v0_0.v), (8, (.int .i64 (a_l.length : Int))), (9, (.int .i64 (k8 : Int)))] ∧ List.drop k8 a_l = rest9 ∧ Ent cs' [cown (OwnS 124 ow124) F4 v3.v c2, crd (RdS 124 rd124) v0_0.v a_l] ∧ i_copyAccesses_L1 rest9 k8 c2 = some R) ⟨_, 0, _, _, ⟨(some ⟨k1, 0, none⟩), 0, 1⟩, (k1 :: []), rfl, eqA, rfl, entA, hF⟩ ?_)
  clear hF
  rintro m6 _ _ ⟨g7, k8, rest9, c2, v3, F4, rfl, rfl, hd11, hE, hF⟩
  refine K_ent hE ?_
  clear hE
  refine K_pure (c := crd (RdS 124 rd124) v0_0.v a_l) (.t .h) crd_bound (fun hbd16 => ?_)
  rcases rest9 with _ | ⟨x10, rest9⟩
  · have hk12 := List.drop_eq_nil_iff.1 hd11
    rw [i_copyAccesses_L1] at hF
    iterate 4 refine au ?_
    refine CdF ?_
    iterate 9 refine au ?_
    cases hF
    exact Er (v3, F4)
  obtain ⟨hk12, hx13, hd14⟩ := drop_cons hd11
  rw [i_copyAccesses_L1] at hF
  iterate 4 refine au ?_
  refine CdT ?_
  iterate 3 refine au ?_
  refine Ai hx13 (fun k17 j18 => ?_)
  refine AlA1 (ul124_0_124 x10) la124_0_124 (fun p19 => ?_)
  refine AnW (fun k20 => ?_)
  refine As (.agg [(.int .i64 x10.Method), p19.v].toArray) ?_
  iterate 4 refine au ?_
  obtain ⟨r21, hx22, hF⟩ := bind_some hF
  refine Cx1 (i_copyAccess_ok _ _ _ hx22) (fun p23 => ?_)
  refine C_new rfl (N_buildSliceT (g := true) sl49.h ty124.h (.cons (.tmp rfl rfl) .nil) (vs := [(.agg [(.int .i64 r21.Method), p23.1.v].toArray)]) rfl rfl rfl (by intro v hv; simp at hv; rcases hv with rfl <;> rfl)) (fun k24 => ?_)
  refine Cv1 (.cons .h (.cons .h .nil)) (own_lit (Ro := ow124) (E := 124) (F := (p23.2 ++ [])) (xs := ([r21] : List Access)) (MkL_cons mk124 MkL_nil apps) rfl rfl) ?_
  obtain ⟨z25, hx26, hF⟩ := bind_some hF
  refine C_x1 (.cons (.t (.t (.t (.t .h)))) (.cons .h .nil)) (X_appendO (Ro := ow124) sl49.h ni49 ty124.h rfl rfl rfl (.tmp rfl rfl) (.tmp rfl rfl) hx26 src_own) (fun p27 => ?_)
  iterate 6 refine au ?_
  rw [wk k8]
  exact ⟨_, Nat.lt_succ_self _, _, k8 + 1, rest9, _, p27.1, p27.2, rfl, eqA, hd14, entA, hF⟩

/-! impl.copyTuples -/
def i_copyTuples_L1 : List (List Int) → Nat → (List (List Int)) → Option ((List (List Int)))
  | [], k8, c2 => some c2
  | x10 :: rest9, k8, c2 => (g_slices_Clone_int_int x10).bind fun r20 =>
    (app c2 ([r20] : List (List Int))).bind fun z24 =>
    i_copyTuples_L1 rest9 (k8 + 1) z24
def i_copyTuples (a_l : List (List Int)) : Option ((List (List Int))) :=
  i_copyTuples_L1 a_l 0 ([] : List (List Int))
theorem i_copyTuples_ok (a_l : List (List Int)) (v0_0 : Sv) (R : (List (List Int))) (hF : i_copyTuples a_l = some R) :
    Fw.Spec Tryz.prog 96 [v0_0.v] [crd (RdS 22 (RdS 3 rdInt)) v0_0.v a_l] (fun p : Sv × List Nat => p.1.v) (fun p => [cown (OwnS 22 (OwnS 3 (roE rdInt))) p.2 p.1.v R]) := by
  refine Spec_enter (n := 20) Tryz.func96 rfl rfl (rs := [.tmp 2]) rfl rfl rfl ?_
  intro H0 F0
  unfold i_copyTuples at hF
  iterate 4 refine au ?_
  refine C_new rfl (N_buildSliceT (g := true) sl110.h ty22.h .nil (vs := []) rfl rfl rfl (by simp)) (fun k1 => ?_)
  refine Cv1 (.cons .h .nil) (own_lit (Ro := (OwnS 3 (roE rdInt))) (E := 22) (F := []) (xs := ([] : List (List Int))) MkL_nil rfl rfl) ?_
  iterate 8 refine au ?_
  refine CW_block (CW_loop (m := a_l.length) (fun m6 f' cs' => ∃ (g : Fr) (k8 : Nat) (rest9 : List (List Int)) (c2 : List (List Int)) (v3 : Sv) (F4 : List Nat), m6 = rest9.length ∧ f' = updL g [(3, v3.v), (7, v0_0.v), (8, (.int .i64 (a_l.length : Int))), (9, (.int .i64 (k8 : Int)))] ∧ List.drop k8 a_l = rest9 ∧ Ent cs' [cown (OwnS 22 (OwnS 3 (roE rdInt))) F4 v3.v c2, crd (RdS 22 (RdS 3 rdInt)) v0_0.v a_l] ∧ i_copyTuples_L1 rest9 k8 c2 = some R) ⟨_, 0, _, _, ⟨(some ⟨k1, 0, none⟩), 0, 1⟩, (k1 :: []), rfl, eqA, rfl, entA, hF⟩ ?_)
  clear hF
  rintro m6 _ _ ⟨g7, k8, rest9, c2, v3, F4, rfl, rfl, hd11, hE, hF⟩
  refine K_ent hE ?_
  clear hE
  refine K_pure (c := crd (RdS 22 (RdS 3 rdInt)) v0_0.v a_l) (.t .h) crd_bound (fun hbd16 => ?_)
  rcases rest9 with _ | ⟨x10, rest9⟩
  · have hk12 := List.drop_eq_nil_iff.1 hd11
    rw [i_copyTuples_L1] at hF
    iterate 4 refine au ?_
    refine CdF ?_
    iterate 9 refine au ?_
    cases hF
    exact Er (v3, F4)
  obtain ⟨hk12, hx13, hd14⟩ := drop_cons hd11
  rw [i_copyTuples_L1] at hF
  iterate 4 refine au ?_
  refine CdT ?_
  iterate 3 refine au ?_
  refine Ai hx13 (fun k17 j18 => ?_)
  refine C_ldV (R' := (RdS 3 rdInt)) ag22.h (.tmp rfl rfl) .h lv22_0 (fun w19 => ?_)
  iterate 5 refine au ?_
  obtain ⟨r20, hx21, hF⟩ := bind_some hF
  refine Cx1 (g_slices_Clone_int_int_ok _ _ _ hx21) (fun p22 => ?_)
  refine C_new rfl (N_buildSliceT (g := true) sl110.h ty22.h (.cons (.tmp rfl rfl) .nil) (vs := [p22.1.v]) rfl rfl rfl (by intro v hv; simp at hv; rcases hv with rfl <;> rfl)) (fun k23 => ?_)
  refine Cv1 (.cons .h (.cons .h .nil)) (own_lit (Ro := (OwnS 3 (roE rdInt))) (E := 22) (F := (p22.2 ++ [])) (xs := ([r20] : List (List Int))) (MkL_cons Mk_own MkL_nil apps) rfl rfl) ?_
  obtain ⟨z24, hx25, hF⟩ := bind_some hF
  refine C_x1 (.cons (.t (.t (.t .h))) (.cons .h .nil)) (X_appendO (Ro := (OwnS 3 (roE rdInt))) sl110.h ni110 ty22.h rfl rfl rfl (.tmp rfl rfl) (.tmp rfl rfl) hx25 src_own) (fun p26 => ?_)
  iterate 6 refine au ?_
  rw [wk k8]
  exact ⟨_, Nat.lt_succ_self _, _, k8 + 1, rest9, _, p26.1, p26.2, rfl, eqA, hd14, entA, hF⟩

/-! impl.copyRule -/
def i_copyRule (a_r : Rule) : Option (Rule) :=
  (g_slices_Clone_int_int a_r.Map).bind fun r3 =>
  some ({ From := a_r.From, To := a_r.To, Map := r3 } : Rule)
theorem i_copyRule_ok (a_r : Rule) (v0_2 : Sv) (R : Rule) (hF : i_copyRule a_r = some R) :
    Fw.Spec Tryz.prog 95 [(.agg [(.int .i64 a_r.From), (.int .i64 a_r.To), v0_2.v].toArray)] [crd (RdS 3 rdInt) v0_2.v a_r.Map] (fun p : Sv × List Nat => (.agg [(.int .i64 R.From), (.int .i64 R.To), p.1.v].toArray)) (fun p => [cown (OwnS 3 (roE rdInt)) p.2 p.1.v R.Map]) := by
  refine Spec_enter (n := 11) Tryz.func95 rfl rfl (rs := [.cell 2 116]) rfl rfl rfl ?_
  intro H0 F0
  unfold i_copyRule at hF
  refine au ?_
  refine AbR (fun k1 => ?_)
  refine AnW (fun k2 => ?_)
  refine au ?_
  refine K_draw [0, 1, 2, 3, 4, 5, 6, 7, 8] [0, 1, 0, 4, 0, 16, 48, 127, 255] [6, 8] mixed (by decide +kernel) ?_
  iterate 6 refine du ?_
  obtain ⟨r3, hx4, hF⟩ := bind_some hF
  refine Dx1 (g_slices_Clone_int_int_ok _ _ _ hx4) (fun p5 => ?_)
  refine D_val rfl .no (fun ha => V_build ty116.h rfl (vs := [(.int .i64 a_r.From), (.int .i64 a_r.To), p5.1.v]) (.cons (EN ha (.tmp rfl rfl) rfl) (.cons (EN ha (.tmp rfl rfl) rfl) (.cons (EN ha (.tmp rfl rfl) rfl) .nil))) (cells := [(.int .i64 a_r.From), (.int .i64 a_r.To), p5.1.v]) rfl) ?_
  refine D_act1 rfl rfl .no (.cons (.t .h) .nil) .nil (fun ha => X_storeB (e' := (.agg [(.int .i64 a_r.From), (.int .i64 a_r.To), p5.1.v].toArray)) (v := (.agg [(.int .i64 a_r.From), (.int .i64 a_r.To), p5.1.v].toArray)) ty116.h.sz (EN ha (.tmp rfl rfl) rfl) (EN ha (.tmp rfl rfl) rfl) rfl rfl rfl rfl rfl) (fun _ => ?_)
  refine du ?_
  refine au ?_
  cases hF
  exact Er (p5.1, p5.2)

/-! impl.copyMediator -/
def i_copyMediator_L3 (a_m : Mediator) (r4 : (List Int)) (r7 : (List Method)) (r10 : Source) (r13 : Cache) (r16 : (List Access)) (r19 : (List Int)) (c93 : List Rule) : List (List (List Int)) → Nat → (List (List (List Int))) → Option (Mediator)
  | [], k136, c130 => some ({ Schema := r4, Methods := r7, Rules := c93, Source := r10, Cache := r13, Now := a_m.Now, Log := r16, Times := r19, Spent := a_m.Spent, Results := c130 } : Mediator)
  | x138 :: rest137, k136, c130 => (i_copyTuples x138).bind fun r148 =>
    (app c130 ([r148] : List (List (List Int)))).bind fun z152 =>
    i_copyMediator_L3 a_m r4 r7 r10 r13 r16 r19 c93 rest137 (k136 + 1) z152
def i_copyMediator_L1 (a_m : Mediator) (r4 : (List Int)) (r7 : (List Method)) (r10 : Source) (r13 : Cache) (r16 : (List Access)) (r19 : (List Int)) : List Rule → Nat → (List Rule) → Option (Mediator)
  | [], k99, c93 => i_copyMediator_L3 a_m r4 r7 r10 r13 r16 r19 c93 a_m.Results 0 ([] : List (List (List Int)))
  | x101 :: rest100, k99, c93 => (i_copyRule x101).bind fun r160 =>
    (app c93 ([r160] : List Rule)).bind fun z164 =>
    i_copyMediator_L1 a_m r4 r7 r10 r13 r16 r19 rest100 (k99 + 1) z164
def i_copyMediator (a_m : Mediator) : Option (Mediator) :=
  (g_slices_Clone_int_int a_m.Schema).bind fun r4 =>
  (i_copyMethods a_m.Methods).bind fun r7 =>
  (i_copySource a_m.Source).bind fun r10 =>
  (i_copyCache a_m.Cache).bind fun r13 =>
  (i_copyAccesses a_m.Log).bind fun r16 =>
  (g_slices_Clone_int_int a_m.Times).bind fun r19 =>
  i_copyMediator_L1 a_m r4 r7 r10 r13 r16 r19 a_m.Rules 0 ([] : List Rule)
theorem i_copyMediator_ok (a_m : Mediator) (v0_0 : Sv) (v0_1 : Sv) (v0_2 : Sv) (v0_3 : Sv) (v0_5 : Sv) (v0_8 : Sv) (v0_9 : Sv) (v0_11 : Sv) (R : Mediator) (hF : i_copyMediator a_m = some R) :
    Fw.Spec Tryz.prog 34 [(.agg [v0_0.v, v0_1.v, v0_2.v, v0_3.v, (.int .i64 a_m.Source.Version), v0_5.v, (.int .i64 a_m.Cache.Age), (.int .i64 a_m.Now), v0_8.v, v0_9.v, (.int .i64 a_m.Spent), v0_11.v].toArray)] [crd (RdS 3 rdInt) v0_0.v a_m.Schema, crd (RdS 114 rd114) v0_1.v a_m.Methods, crd (RdS 116 rd116) v0_2.v a_m.Rules, crd (RdS 55 rd55) v0_3.v a_m.Source.Facts, crd (RdS 156 rd156) v0_5.v a_m.Cache.Entries, crd (RdS 124 rd124) v0_8.v a_m.Log, crd (RdS 3 rdInt) v0_9.v a_m.Times, crd (RdS 110 (RdS 22 (RdS 3 rdInt))) v0_11.v a_m.Results] (fun p : Sv × List Nat × Sv × List Nat × Sv × List Nat × Sv × List Nat × Sv × List Nat × Sv × List Nat × Sv × List Nat × Sv × List Nat => (.agg [p.1.v, p.2.2.1.v, p.2.2.2.2.1.v, p.2.2.2.2.2.2.1.v, (.int .i64 R.Source.Version), p.2.2.2.2.2.2.2.2.1.v, (.int .i64 R.Cache.Age), (.int .i64 R.Now), p.2.2.2.2.2.2.2.2.2.2.1.v, p.2.2.2.2.2.2.2.2.2.2.2.2.1.v, (.int .i64 R.Spent), p.2.2.2.2.2.2.2.2.2.2.2.2.2.2.1.v].toArray)) (fun p => [cown (OwnS 3 (roE rdInt)) p.2.1 p.1.v R.Schema, cown (OwnS 114 ow114) p.2.2.2.1 p.2.2.1.v R.Methods, cown (OwnS 116 ow116) p.2.2.2.2.2.1 p.2.2.2.2.1.v R.Rules, cown (OwnS 55 ow55) p.2.2.2.2.2.2.2.1 p.2.2.2.2.2.2.1.v R.Source.Facts, cown (OwnS 156 ow156) p.2.2.2.2.2.2.2.2.2.1 p.2.2.2.2.2.2.2.2.1.v R.Cache.Entries, cown (OwnS 124 ow124) p.2.2.2.2.2.2.2.2.2.2.2.1 p.2.2.2.2.2.2.2.2.2.2.1.v R.Log, cown (OwnS 3 (roE rdInt)) p.2.2.2.2.2.2.2.2.2.2.2.2.2.1 p.2.2.2.2.2.2.2.2.2.2.2.2.1.v R.Times, cown (OwnS 110 (OwnS 22 (OwnS 3 (roE rdInt)))) p.2.2.2.2.2.2.2.2.2.2.2.2.2.2.2 p.2.2.2.2.2.2.2.2.2.2.2.2.2.2.1.v R.Results]) := by
  refine Spec_enter (n := 62) Tryz.func34 rfl rfl (rs := [.cell 2 51]) rfl rfl rfl ?_
  intro H0 F0
  unfold i_copyMediator at hF
  refine au ?_
  refine AbR (fun k1 => ?_)
  refine AnW (fun k2 => ?_)
  refine au ?_
  refine K_draw [0, 1, 3, 4, 6, 7, 9, 10, 12, 13, 14, 15, 17, 18, 20, 21, 23, 2, 5, 8, 11, 16, 19, 22, 24] [0, 1, 3, 0, 8, 31, 0, 64, 255, 0, 512, 2047, 0, 4096, 0, 16384, 53247, 0, 131072, 511999, 0, 1048576, 4194303, 0, 16777215] [2, 5, 8, 11, 16, 19, 24] mixed (by decide +kernel) ?_
  iterate 5 refine du ?_
  refine D_at rfl .no (.t .h) rfl (fun ha hp => V_loadA (s := 2) (l := [v0_3.v, (.int .i64 a_m.Source.Version)]) ag45.h ty45.h.sz (EN ha (.tmp rfl rfl) rfl) hp.2 rfl (by decide) (Nat.le_of_ble_eq_true rfl) rfl) ?_
  refine du ?_
  refine D_at rfl .no (.t .h) rfl (fun ha hp => V_loadA (s := 2) (l := [v0_5.v, (.int .i64 a_m.Cache.Age)]) ag48.h ty48.h.sz (EN ha (.tmp rfl rfl) rfl) hp.2 rfl (by decide) (Nat.le_of_ble_eq_true rfl) rfl) ?_
  iterate 8 refine du ?_
  refine D_new rfl .no rfl (fun ha => N_allocT (g := true) ty51.h rfl rfl) (fun k3 => ?_)
  obtain ⟨r4, hx5, hF⟩ := bind_some hF
  refine D_act1 rfl rfl .no (.rd (.t (.t (.t .h))) rfl .nil) (.own .h (fun _ h => h) .nil) (fun ha => X_callS cf90.h (.cons (EN ha (.tmp rfl rfl) rfl) .nil) (g_slices_Clone_int_int_ok a_m.Schema v0_0 _ hx5)) (fun p6 => ?_)
  obtain ⟨r7, hx8, hF⟩ := bind_some hF
  refine D_act1 rfl rfl .no (.rd (.t (.t (.t (.t (.t .h))))) rfl .nil) (.own (.t .h) (fun _ h => h) .nil) (fun ha => X_callS cf91.h (.cons (EN ha (.tmp rfl rfl) rfl) .nil) (i_copyMethods_ok a_m.Methods v0_1 _ hx8)) (fun p9 => ?_)
  obtain ⟨r10, hx11, hF⟩ := bind_some hF
  refine D_act1 rfl rfl .no (.rd (.t (.t (.t (.t (.t (.t (.t (.t .h)))))))) rfl .nil) (.own (.t (.t .h)) (fun _ h => h) .nil) (fun ha => X_callS cf92.h (.cons (EN ha (.tmp rfl rfl) rfl) .nil) (i_copySource_ok a_m.Source v0_3 _ hx11)) (fun p12 => ?_)
  obtain ⟨r13, hx14, hF⟩ := bind_some hF
  refine D_act1 rfl rfl .no (.rd (.t (.t (.t (.t (.t (.t (.t (.t (.t (.t .h)))))))))) rfl .nil) (.own (.t (.t (.t .h))) (fun _ h => h) .nil) (fun ha => X_callS cf93.h (.cons (EN ha (.tmp rfl rfl) rfl) .nil) (i_copyCache_ok a_m.Cache v0_5 _ hx14)) (fun p15 => ?_)
  obtain ⟨r16, hx17, hF⟩ := bind_some hF
  refine D_act1 rfl rfl .no (.rd (.t (.t (.t (.t (.t (.t (.t (.t (.t (.t (.t (.t .h)))))))))))) rfl .nil) (.own (.t (.t (.t (.t .h)))) (fun _ h => h) .nil) (fun ha => X_callS cf94.h (.cons (EN ha (.tmp rfl rfl) rfl) .nil) (i_copyAccesses_ok a_m.Log v0_8 _ hx17)) (fun p18 => ?_)
  obtain ⟨r19, hx20, hF⟩ := bind_some hF
  refine D_act1 rfl rfl .no (.rd (.t (.t (.t (.t (.t (.t (.t (.t (.t (.t (.t (.t (.t (.t .h)))))))))))))) rfl .nil) (.own (.t (.t (.t (.t (.t .h))))) (fun _ h => h) .nil) (fun ha => X_callS cf90.h (.cons (EN ha (.tmp rfl rfl) rfl) .nil) (g_slices_Clone_int_int_ok a_m.Times v0_9 _ hx20)) (fun p21 => ?_)
  refine D_val rfl .no (fun ha => V_build ty51.h rfl (vs := [p6.1.v, p9.1.v, (.agg [p12.1.v, (.int .i64 r10.Version)].toArray), (.agg [p15.1.v, (.int .i64 r13.Age)].toArray), (.int .i64 a_m.Now), p18.1.v, p21.1.v, (.int .i64 a_m.Spent)]) (.cons (EN ha (.tmp rfl rfl) rfl) (.cons (EN ha (.tmp rfl rfl) rfl) (.cons (EN ha (.tmp rfl rfl) rfl) (.cons (EN ha (.tmp rfl rfl) rfl) (.cons (EN ha (.tmp rfl rfl) rfl) (.cons (EN ha (.tmp rfl rfl) rfl) (.cons (EN ha (.tmp rfl rfl) rfl) (.cons (EN ha (.tmp rfl rfl) rfl) .nil)))))))) (cells := [p6.1.v, p9.1.v, (.slice none 0 0), p12.1.v, (.int .i64 r10.Version), p15.1.v, (.int .i64 r13.Age), (.int .i64 a_m.Now), p18.1.v, p21.1.v, (.int .i64 a_m.Spent), (.slice none 0 0)]) (by kernel_rfl)) ?_
  refine D_act1 rfl rfl .no (.cons (.t (.t (.t (.t (.t (.t .h)))))) .nil) (.dep rfl .nil) (fun ha => X_storeB (e' := (.agg [p6.1.v, p9.1.v, (.slice none 0 0), p12.1.v, (.int .i64 r10.Version), p15.1.v, (.int .i64 r13.Age), (.int .i64 a_m.Now), p18.1.v, p21.1.v, (.int .i64 a_m.Spent), (.slice none 0 0)].toArray)) (v := (.agg [p6.1.v, p9.1.v, (.slice none 0 0), p12.1.v, (.int .i64 r10.Version), p15.1.v, (.int .i64 r13.Age), (.int .i64 a_m.Now), p18.1.v, p21.1.v, (.int .i64 a_m.Spent), (.slice none 0 0)].toArray)) ty51.h.sz (EN ha (.tmp rfl rfl) rfl) (EN ha (.tmp rfl rfl) rfl) rfl rfl rfl rfl rfl) (fun _ => ?_)
  refine du ?_
  iterate 7 refine au ?_
  refine CW_block (CW_loop (m := a_m.Rules.length) (fun m97 f' cs' => ∃ (g : Fr) (k99 : Nat) (rest100 : List Rule) (c93 : List Rule) (v94 : Sv) (F95 : List Nat), m97 = rest100.length ∧ f' = updL g [(1, (.pointer (some ⟨k1, 0, some 0⟩))), (2, (.pointer (some ⟨k2, 0, some 0⟩))), (3, (.pointer (some ⟨k3, 0, some 0⟩))), (32, v0_2.v), (33, (.int .i64 (a_m.Rules.length : Int))), (34, (.int .i64 (k99 : Int)))] ∧ List.drop k99 a_m.Rules = rest100 ∧ Ent cs' [cboR k1 51 (.agg [v0_0.v, v0_1.v, v0_2.v, v0_3.v, (.int .i64 a_m.Source.Version), v0_5.v, (.int .i64 a_m.Cache.Age), (.int .i64 a_m.Now), v0_8.v, v0_9.v, (.int .i64 a_m.Spent), v0_11.v].toArray), crd (RdS 3 rdInt) v0_0.v a_m.Schema, crd (RdS 114 rd114) v0_1.v a_m.Methods, crd (RdS 116 rd116) v0_2.v a_m.Rules, crd (RdS 55 rd55) v0_3.v a_m.Source.Facts, crd (RdS 156 rd156) v0_5.v a_m.Cache.Entries, crd (RdS 124 rd124) v0_8.v a_m.Log, crd (RdS 3 rdInt) v0_9.v a_m.Times, crd (RdS 110 (RdS 22 (RdS 3 rdInt))) v0_11.v a_m.Results, cbox k2 51 (.agg ([(.slice none 0 0), (.slice none 0 0), (.slice none 0 0), (.slice none 0 0), (.int .i64 0), (.slice none 0 0), (.int .i64 0), (.int .i64 0), (.slice none 0 0), (.slice none 0 0), (.int .i64 0), (.slice none 0 0)] : List Value).toArray), cbox k3 51 (.agg [p6.1.v, p9.1.v, v94.v, p12.1.v, (.int .i64 r10.Version), p15.1.v, (.int .i64 r13.Age), (.int .i64 a_m.Now), p18.1.v, p21.1.v, (.int .i64 a_m.Spent), (.slice none 0 0)].toArray), cown (OwnS 3 (roE rdInt)) p6.2 p6.1.v r4, cown (OwnS 114 ow114) p9.2 p9.1.v r7, cown (OwnS 116 ow116) F95 v94.v c93, cown (OwnS 55 ow55) p12.2 p12.1.v r10.Facts, cown (OwnS 156 ow156) p15.2 p15.1.v r13.Entries, cown (OwnS 124 ow124) p18.2 p18.1.v r16, cown (OwnS 3 (roE rdInt)) p21.2 p21.1.v r19] ∧ i_copyMediator_L1 a_m r4 r7 r10 r13 r16 r19 rest100 k99 c93 = some R) ⟨_, 0, _, _, ⟨none, 0, 0⟩, [], rfl, eqA, rfl, (.conv .nil (own_nil (Ro := ow116) (E := 116)) (.cons .nil) entA), hF⟩ ?_)
  clear hF
  rintro m97 _ _ ⟨g98, k99, rest100, c93, v94, F95, rfl, rfl, hd102, hE, hF⟩
  refine K_ent hE ?_
  clear hE
  refine K_pure (c := crd (RdS 116 rd116) v0_2.v a_m.Rules) (.t (.t (.t .h))) crd_bound (fun hbd107 => ?_)
  rcases rest100 with _ | ⟨x101, rest100⟩
  · have hk103 := List.drop_eq_nil_iff.1 hd102
    rw [i_copyMediator_L1] at hF
    iterate 4 refine au ?_
    refine CdF ?_
    iterate 11 refine au ?_
    refine CW_block (CW_loop (m := a_m.Results.length) (fun m134 f' cs' => ∃ (g : Fr) (k136 : Nat) (rest137 : List (List (List Int))) (c130 : List (List (List Int))) (v131 : Sv) (F132 : List Nat), m134 = rest137.length ∧ f' = updL g [(2, (.pointer (some ⟨k2, 0, some 0⟩))), (3, (.pointer (some ⟨k3, 0, some 0⟩))), (47, v0_11.v), (48, (.int .i64 (a_m.Results.length : Int))), (49, (.int .i64 (k136 : Int)))] ∧ List.drop k136 a_m.Results = rest137 ∧ Ent cs' [cbox k2 51 (.agg ([(.slice none 0 0), (.slice none 0 0), (.slice none 0 0), (.slice none 0 0), (.int .i64 0), (.slice none 0 0), (.int .i64 0), (.int .i64 0), (.slice none 0 0), (.slice none 0 0), (.int .i64 0), (.slice none 0 0)] : List Value).toArray), cbox k3 51 (.agg [p6.1.v, p9.1.v, v94.v, p12.1.v, (.int .i64 r10.Version), p15.1.v, (.int .i64 r13.Age), (.int .i64 a_m.Now), p18.1.v, p21.1.v, (.int .i64 a_m.Spent), v131.v].toArray), cown (OwnS 3 (roE rdInt)) p6.2 p6.1.v r4, cown (OwnS 114 ow114) p9.2 p9.1.v r7, cown (OwnS 116 ow116) F95 v94.v c93, cown (OwnS 55 ow55) p12.2 p12.1.v r10.Facts, cown (OwnS 156 ow156) p15.2 p15.1.v r13.Entries, cown (OwnS 124 ow124) p18.2 p18.1.v r16, cown (OwnS 3 (roE rdInt)) p21.2 p21.1.v r19, cown (OwnS 110 (OwnS 22 (OwnS 3 (roE rdInt)))) F132 v131.v c130, crd (RdS 110 (RdS 22 (RdS 3 rdInt))) v0_11.v a_m.Results] ∧ i_copyMediator_L3 a_m r4 r7 r10 r13 r16 r19 c93 rest137 k136 c130 = some R) ⟨_, 0, _, _, ⟨none, 0, 0⟩, [], rfl, eqA, rfl, (.conv .nil (own_nil (Ro := (OwnS 22 (OwnS 3 (roE rdInt)))) (E := 110)) (.cons .nil) entA), hF⟩ ?_)
    clear hF
    rintro m134 _ _ ⟨g135, k136, rest137, c130, v131, F132, rfl, rfl, hd139, hE, hF⟩
    refine K_ent hE ?_
    clear hE
    refine K_pure (c := crd (RdS 110 (RdS 22 (RdS 3 rdInt))) v0_11.v a_m.Results) (.t (.t (.t (.t (.t (.t (.t (.t (.t (.t .h)))))))))) crd_bound (fun hbd144 => ?_)
    rcases rest137 with _ | ⟨x138, rest137⟩
    · have hk140 := List.drop_eq_nil_iff.1 hd139
      rw [i_copyMediator_L3] at hF
      iterate 4 refine au ?_
      refine CdF ?_
      iterate 6 refine au ?_
      refine As (.agg [p6.1.v, p9.1.v, v94.v, p12.1.v, (.int .i64 r10.Version), p15.1.v, (.int .i64 r13.Age), (.int .i64 a_m.Now), p18.1.v, p21.1.v, (.int .i64 a_m.Spent), v131.v].toArray) ?_
      iterate 2 refine au ?_
      cases hF
      exact Er (p6.1, p6.2, p9.1, p9.2, v94, F95, p12.1, p12.2, p15.1, p15.2, p18.1, p18.2, p21.1, p21.2, v131, F132)
    obtain ⟨hk140, hx141, hd142⟩ := drop_cons hd139
    rw [i_copyMediator_L3] at hF
    iterate 4 refine au ?_
    refine CdT ?_
    iterate 3 refine au ?_
    refine Ai hx141 (fun k145 j146 => ?_)
    refine C_ldV (R' := (RdS 22 (RdS 3 rdInt))) ag110.h (.tmp rfl rfl) .h lv110_0 (fun w147 => ?_)
    iterate 2 refine au ?_
    refine CW_draw [0, 1, 2, 3, 4, 5, 6, 7] [0, 1, 0, 4, 12, 31, 63, 127] [3, 5, 7] mixed (by decide +kernel) ?_
    refine du ?_
    refine D_atO rfl .no (.t (.t (.t .h))) (fun ha hp => V_load (v := v131.v) ag32.h (EN ha (.tmp rfl rfl) rfl) hp.2 rfl rfl) ?_
    refine du ?_
    obtain ⟨r148, hx149, hF⟩ := bind_some hF
    refine D_act1 rfl rfl .no (.rd .h rfl .nil) (.own (.t (.t (.t .h))) (fun _ h => h) .nil) (fun ha => X_callS cf96.h (.cons (EN ha (.tmp rfl rfl) rfl) .nil) (i_copyTuples_ok x138 w147 _ hx149)) (fun p150 => ?_)
    refine D_new rfl .no rfl (fun ha => N_buildSliceT (g := true) (len := 1) (parts := [(0, .tmp 56)]) sl32.h ty110.h (.cons (EN ha (.tmp rfl rfl) rfl) .nil) (vs := [p150.1.v]) rfl rfl rfl (by intro v hv; simp at hv; rcases hv with rfl <;> rfl)) (fun k151 => ?_)
    refine Dv1 (.cons .h (.cons .h .nil)) (own_lit (Ro := (OwnS 22 (OwnS 3 (roE rdInt)))) (E := 110) (F := (p150.2 ++ [])) (xs := ([r148] : List (List (List Int)))) (MkL_cons Mk_own MkL_nil apps) rfl rfl) ?_
    obtain ⟨z152, hx153, hF⟩ := bind_some hF
    refine D_act1 rfl rfl .no (.cons (.t (.t (.t (.t (.t (.t (.t (.t (.t (.t (.t (.t .h)))))))))))) (.cons .h .nil)) (.dep rfl (.dep rfl .nil)) (fun ha => X_appendO (Ro := (OwnS 22 (OwnS 3 (roE rdInt)))) sl32.h ni32 ty110.h rfl rfl rfl (EN ha (.tmp rfl rfl) rfl) (EN ha (.tmp rfl rfl) rfl) hx153 src_own) (fun p154 => ?_)
    refine du ?_
    refine D_act1 rfl rfl .no (.cons (.t (.t (.t (.t .h)))) .nil) (.dep rfl (.dep rfl .nil)) (fun ha => X_storeB (e' := (.agg [p6.1.v, p9.1.v, v94.v, p12.1.v, (.int .i64 r10.Version), p15.1.v, (.int .i64 r13.Age), (.int .i64 a_m.Now), p18.1.v, p21.1.v, (.int .i64 a_m.Spent), p154.1.v].toArray)) ty32.h.sz (EN ha (.tmp rfl rfl) rfl) (EN ha (.tmp rfl rfl) rfl) rfl rfl rfl rfl rfl) (fun _ => ?_)
    refine du ?_
    iterate 4 refine au ?_
    rw [wk k136]
    exact ⟨_, Nat.lt_succ_self _, _, k136 + 1, rest137, _, p154.1, p154.2, rfl, eqA, hd142, entA, hF⟩
  obtain ⟨hk103, hx104, hd105⟩ := drop_cons hd102
  rw [i_copyMediator_L1] at hF
  iterate 4 refine au ?_
  refine CdT ?_
  iterate 3 refine au ?_
  refine Ai hx104 (fun k156 j157 => ?_)
  refine AlA1 (ul116_0_116 x101) la116_0_116 (fun p158 => ?_)
  refine AnW (fun k159 => ?_)
  refine As (.agg [(.int .i64 x101.From), (.int .i64 x101.To), p158.v].toArray) ?_
  refine au ?_
  refine CW_draw [0, 1, 2, 3, 4, 5, 6, 7] [0, 1, 0, 4, 12, 31, 63, 127] [3, 5, 7] mixed (by decide +kernel) ?_
  refine du ?_
  refine D_atO rfl .no (.t (.t (.t (.t (.t (.t (.t (.t (.t (.t (.t (.t (.t .h))))))))))))) (fun ha hp => V_load (v := v94.v) ag42.h (EN ha (.tmp rfl rfl) rfl) hp.2 rfl rfl) ?_
  refine D_atO rfl .no .h (fun ha hp => V_loadBox ag116.h ty116.h.sz rfl (EN ha (.tmp rfl rfl) rfl) hp.2 rfl) ?_
  obtain ⟨r160, hx161, hF⟩ := bind_some hF
  refine D_act1 rfl rfl .no (.rd (.t .h) rfl .nil) (.dep rfl (.own (.t (.t (.t (.t (.t (.t (.t (.t (.t (.t (.t (.t (.t .h))))))))))))) (fun _ h => h) .nil)) (fun ha => X_callS cf95.h (.cons (EN ha (.tmp rfl rfl) rfl) .nil) (i_copyRule_ok x101 p158 _ hx161)) (fun p162 => ?_)
  refine D_new rfl .no rfl (fun ha => N_buildSliceT (g := true) (len := 1) (parts := [(0, .tmp 41)]) sl42.h ty116.h (.cons (EN ha (.tmp rfl rfl) rfl) .nil) (vs := [(.agg [(.int .i64 r160.From), (.int .i64 r160.To), p162.1.v].toArray)]) rfl rfl rfl (by intro v hv; simp at hv; rcases hv with rfl <;> rfl)) (fun k163 => ?_)
  refine Dv1 (.cons .h (.cons .h .nil)) (own_lit (Ro := ow116) (E := 116) (F := (p162.2 ++ [])) (xs := ([r160] : List Rule)) (MkL_cons mk116 MkL_nil apps) rfl rfl) ?_
  obtain ⟨z164, hx165, hF⟩ := bind_some hF
  refine D_act1 rfl rfl .no (.cons (.t (.t (.t (.t (.t (.t (.t (.t (.t (.t (.t (.t (.t (.t (.t (.t (.t .h))))))))))))))))) (.cons .h .nil)) (.dep rfl (.dep rfl (.dep rfl .nil))) (fun ha => X_appendO (Ro := ow116) sl42.h ni42 ty116.h rfl rfl rfl (EN ha (.tmp rfl rfl) rfl) (EN ha (.tmp rfl rfl) rfl) hx165 src_own) (fun p166 => ?_)
  refine du ?_
  refine D_act1 rfl rfl .no (.cons (.t (.t (.t (.t (.t (.t (.t (.t (.t (.t (.t (.t (.t (.t .h)))))))))))))) .nil) (.dep rfl (.dep rfl (.dep rfl .nil))) (fun ha => X_storeB (e' := (.agg [p6.1.v, p9.1.v, p166.1.v, p12.1.v, (.int .i64 r10.Version), p15.1.v, (.int .i64 r13.Age), (.int .i64 a_m.Now), p18.1.v, p21.1.v, (.int .i64 a_m.Spent), (.slice none 0 0)].toArray)) ty42.h.sz (EN ha (.tmp rfl rfl) rfl) (EN ha (.tmp rfl rfl) rfl) rfl rfl rfl rfl rfl) (fun _ => ?_)
  refine du ?_
  iterate 4 refine au ?_
  rw [wk k99]
  exact ⟨_, Nat.lt_succ_self _, _, k99 + 1, rest100, _, p166.1, p166.2, rfl, eqA, hd105, entA, hF⟩

/-! impl.within -/
def i_within (a_n : Int) (a_low : Int) (a_high : Int) : Option (Bool) :=
  some ((decide ((a_low : Int) ≤ a_n)) && (decide ((a_n : Int) ≤ a_high)))
theorem i_within_ok (a_n : Int) (a_low : Int) (a_high : Int) (R : Bool) (hF : i_within a_n a_low a_high = some R) :
    Fw.Spec Tryz.prog 106 [(.int .i64 a_n), (.int .i64 a_low), (.int .i64 a_high)] [] (fun _ : Unit => (.bool R)) (fun _ => []) := by
  refine Spec_enter (n := 15) Tryz.func106 rfl rfl (rs := [.tmp 6]) rfl rfl rfl ?_
  intro H0 F0
  unfold i_within at hF
  iterate 4 refine au ?_
  refine C_cut (fun f' cs' => ∃ (g : Fr), f' = updL g [(6, (.bool ((decide ((a_low : Int) ≤ a_n)) && (decide ((a_n : Int) ≤ a_high)))))] ∧ Ent cs' []) ?_ ?_
  · iterate 4 refine au ?_
    rcases Bool.eq_false_or_eq_true (decide ((a_low : Int) ≤ a_n)) with hg1 | hg1
    · rw [hg1]
      try rw [hg1] at hF; dsimp only [cond_true, cond_false] at hF
      iterate 9 refine au ?_
      exact ⟨_, eqA, entA⟩
    rw [hg1]
    try rw [hg1] at hF; dsimp only [cond_true, cond_false] at hF
    iterate 6 refine au ?_
    exact ⟨_, eqA, entA⟩
  rintro _ _ ⟨g2, rfl, hE⟩
  refine K_ent hE ?_
  refine au ?_
  cases hF
  exact Er ()

/-! impl.IsSchema$1 -/
def i_IsSchema_1 (a_n : Int) : Option (Bool) :=
  (i_within a_n 1 3).bind fun r1 =>
  some (!r1)
theorem i_IsSchema_1_ok (a_n : Int) (R : Bool) (hF : i_IsSchema_1 a_n = some R) :
    Fw.Spec Tryz.prog 167 [(.int .i64 a_n)] [] (fun _ : Unit => (.bool R)) (fun _ => []) := by
  refine Spec_enter (n := 6) Tryz.func167 rfl rfl (rs := [.tmp 2]) rfl rfl rfl ?_
  intro H0 F0
  unfold i_IsSchema_1 at hF
  iterate 5 refine au ?_
  obtain ⟨r1, hx2, hF⟩ := bind_some hF
  refine Cx0 (i_within_ok _ _ _ _ hx2) (fun _ => ?_)
  iterate 4 refine au ?_
  cases hF
  exact Er ()

/-! slices.IndexFunc[[]int,int] -/
def g_slices_IndexFunc_int_int_iIsSchema1_L1 : List Int → Nat → Option (Int)
  | [], k4 => some (-1)
  | x6 :: rest5, k4 => (i_IsSchema_1 x6).bind fun r15 =>
    if r15 then (
      some (k4 : Int))
    else (
      g_slices_IndexFunc_int_int_iIsSchema1_L1 rest5 (k4 + 1))
def g_slices_IndexFunc_int_int_iIsSchema1 (a_s : List Int) : Option (Int) :=
  g_slices_IndexFunc_int_int_iIsSchema1_L1 a_s 0
theorem g_slices_IndexFunc_int_int_iIsSchema1_ok (a_s : List Int) (v0_0 : Sv) (R : Int) (hF : g_slices_IndexFunc_int_int_iIsSchema1 a_s = some R) :
    Fw.Spec Tryz.prog 176 [v0_0.v, (.func (.func 167) [].toArray [].toArray)] [crd (RdS 3 rdInt) v0_0.v a_s] (fun _ : Unit => (.int .i64 R)) (fun _ => []) := by
  refine Spec_enter (n := 19) Tryz.func176 rfl rfl (rs := [.tmp 4]) rfl rfl rfl ?_
  intro H0 F0
  unfold g_slices_IndexFunc_int_int_iIsSchema1 at hF
  iterate 9 refine au ?_
  refine CW_block (CW_loop (m := a_s.length) (fun m2 f' cs' => ∃ (g : Fr) (k4 : Nat) (rest5 : List Int), m2 = rest5.length ∧ f' = updL g [(0, v0_0.v), (1, (.func (.func 167) [].toArray [].toArray)), (7, (.int .i64 (a_s.length : Int))), (8, (.int .i64 (k4 : Int)))] ∧ List.drop k4 a_s = rest5 ∧ Ent cs' [crd (RdS 3 rdInt) v0_0.v a_s] ∧ g_slices_IndexFunc_int_int_iIsSchema1_L1 rest5 k4 = some R) ⟨_, 0, _, rfl, eqA, rfl, entA, hF⟩ ?_)
  clear hF
  rintro m2 _ _ ⟨g3, k4, rest5, rfl, rfl, hd7, hE, hF⟩
  refine K_ent hE ?_
  clear hE
  refine K_pure (c := crd (RdS 3 rdInt) v0_0.v a_s) .h crd_bound (fun hbd12 => ?_)
  rcases rest5 with _ | ⟨x6, rest5⟩
  · have hk8 := List.drop_eq_nil_iff.1 hd7
    rw [g_slices_IndexFunc_int_int_iIsSchema1_L1] at hF
    iterate 4 refine au ?_
    refine CdF ?_
    iterate 8 refine au ?_
    cases hF
    exact Er ()
  obtain ⟨hk8, hx9, hd10⟩ := drop_cons hd7
  rw [g_slices_IndexFunc_int_int_iIsSchema1_L1] at hF
  iterate 4 refine au ?_
  refine CdT ?_
  iterate 10 refine au ?_
  refine Ai hx9 (fun k13 j14 => ?_)
  refine Al ls3_0 ?_
  obtain ⟨r15, hx16, hF⟩ := bind_some hF
  refine C_x0 .nil (X_callCS cf167.h (.tmp rfl rfl) (.cons (.tmp rfl rfl) .nil) (i_IsSchema_1_ok x6 _ hx16)) (fun _ => ?_)
  refine au ?_
  refine Cc (fun hb19 => ?_) (fun hb19 => ?_)
  · rw [if_pos hb19] at hF
    iterate 5 refine au ?_
    cases hF
    exact Er ()
  rw [if_neg (nt hb19)] at hF
  iterate 5 refine au ?_
  rw [wk k4]
  exact ⟨_, Nat.lt_succ_self _, _, k4 + 1, rest5, rfl, eqA, hd10, entA, hF⟩

/-! slices.ContainsFunc[[]int,int] -/
def g_slices_ContainsFunc_int_int_iIsSchema1 (a_s : List Int) : Option (Bool) :=
  (g_slices_IndexFunc_int_int_iIsSchema1 a_s).bind fun r1 =>
  some (decide ((0 : Int) ≤ r1))
theorem g_slices_ContainsFunc_int_int_iIsSchema1_ok (a_s : List Int) (v0_0 : Sv) (R : Bool) (hF : g_slices_ContainsFunc_int_int_iIsSchema1 a_s = some R) :
    Fw.Spec Tryz.prog 152 [v0_0.v, (.func (.func 167) [].toArray [].toArray)] [crd (RdS 3 rdInt) v0_0.v a_s] (fun _ : Unit => (.bool R)) (fun _ => []) := by
  refine Spec_enter (n := 9) Tryz.func152 rfl rfl (rs := [.tmp 4]) rfl rfl rfl ?_
  intro H0 F0
  unfold g_slices_ContainsFunc_int_int_iIsSchema1 at hF
  iterate 6 refine au ?_
  obtain ⟨r1, hx2, hF⟩ := bind_some hF
  refine Cx0 (g_slices_IndexFunc_int_int_iIsSchema1_ok _ _ _ hx2) (fun _ => ?_)
  iterate 4 refine au ?_
  cases hF
  exact Er ()

/-! impl.IsSchema -/
def i_IsSchema (a_s : List Int) : Option (Bool) :=
  ((i_within (a_s.length : Int) 1 3).bind fun r3 =>
    bif r3 then ((g_slices_ContainsFunc_int_int_iIsSchema1 a_s).bind fun r7 =>
      some (!r7))
    else (some false)).bind fun o1 =>
  match o1 with
  | c10 => some c10
theorem i_IsSchema_ok (a_s : List Int) (v0_0 : Sv) (R : Bool) (hF : i_IsSchema a_s = some R) :
    Fw.Spec Tryz.prog 139 [v0_0.v] [crd (RdS 3 rdInt) v0_0.v a_s] (fun _ : Unit => (.bool R)) (fun _ => []) := by
  refine Spec_enter (n := 11) Tryz.func139 rfl rfl (rs := [.tmp 2]) rfl rfl rfl ?_
  intro H0 F0
  unfold i_IsSchema at hF
  iterate 3 refine au ?_
  obtain ⟨o1, hio1, hO2⟩ := bind_some hF
  refine au ?_
  refine C_cut (fun f' cs' => ∃ (c10 : Bool) (g : Fr), c10 = o1 ∧ f' = updL g [(2, (.bool c10))] ∧ Ent cs' []) ?_ ?_
  · replace hF := hio1
    iterate 2 refine au ?_
    obtain ⟨r3, hx4, hF⟩ := bind_some hF
    refine Cx0 (i_within_ok _ _ _ _ hx4) (fun _ => ?_)
    refine au ?_
    rcases Bool.eq_false_or_eq_true r3 with hg6 | hg6
    · rw [hg6]
      try rw [hg6] at hF; dsimp only [cond_true, cond_false] at hF
      iterate 3 refine au ?_
      obtain ⟨r7, hx8, hF⟩ := bind_some hF
      refine Cx0 (g_slices_ContainsFunc_int_int_iIsSchema1_ok _ _ _ hx8) (fun _ => ?_)
      iterate 5 refine au ?_
      cases hF
      exact ⟨_, _, rfl, eqA, entA⟩
    rw [hg6]
    try rw [hg6] at hF; dsimp only [cond_true, cond_false] at hF
    iterate 6 refine au ?_
    cases hF
    exact ⟨_, _, rfl, eqA, entA⟩
  rintro _ _ ⟨c10, g11, rfl, rfl, hE⟩
  replace hF := hO2
  clear hO2
  try dsimp only at hF
  refine K_ent hE ?_
  refine au ?_
  cases hF
  exact Er ()

/-! impl.hasRel -/
def i_hasRel (a_s : List Int) (a_rel : Int) : Option (Bool) :=
  ((i_IsSchema a_s).bind fun r3 =>
    bif r3 then ((i_within a_rel 0 (IntKind.i64.wrap ((a_s.length : Int) - 1))).bind fun r7 =>
      some r7)
    else (some false)).bind fun o1 =>
  match o1 with
  | c10 => some c10
theorem i_hasRel_ok (a_s : List Int) (v0_0 : Sv) (a_rel : Int) (R : Bool) (hF : i_hasRel a_s a_rel = some R) :
    Fw.Spec Tryz.prog 156 [v0_0.v, (.int .i64 a_rel)] [crd (RdS 3 rdInt) v0_0.v a_s] (fun _ : Unit => (.bool R)) (fun _ => []) := by
  refine Spec_enter (n := 14) Tryz.func156 rfl rfl (rs := [.tmp 4]) rfl rfl rfl ?_
  intro H0 F0
  unfold i_hasRel at hF
  iterate 3 refine au ?_
  obtain ⟨o1, hio1, hO2⟩ := bind_some hF
  refine au ?_
  refine C_cut (fun f' cs' => ∃ (c10 : Bool) (g : Fr), c10 = o1 ∧ f' = updL g [(4, (.bool c10))] ∧ Ent cs' []) ?_ ?_
  · replace hF := hio1
    refine au ?_
    obtain ⟨r3, hx4, hF⟩ := bind_some hF
    refine Cx0 (i_IsSchema_ok _ _ _ hx4) (fun _ => ?_)
    refine au ?_
    rcases Bool.eq_false_or_eq_true r3 with hg6 | hg6
    · rw [hg6]
      try rw [hg6] at hF; dsimp only [cond_true, cond_false] at hF
      iterate 9 refine au ?_
      obtain ⟨r7, hx8, hF⟩ := bind_some hF
      refine Cx0 (i_within_ok _ _ _ _ hx8) (fun _ => ?_)
      iterate 3 refine au ?_
      cases hF
      exact ⟨_, _, rfl, eqA, entA⟩
    rw [hg6]
    try rw [hg6] at hF; dsimp only [cond_true, cond_false] at hF
    iterate 8 refine au ?_
    cases hF
    exact ⟨_, _, rfl, eqA, entA⟩
  rintro _ _ ⟨c10, g11, rfl, rfl, hE⟩
  replace hF := hO2
  clear hO2
  try dsimp only at hF
  refine K_ent hE ?_
  refine au ?_
  cases hF
  exact Er ()

/-! impl.ascending -/
def i_ascending_L1 (a_l : List Int) : List Int → Nat → Option (Bool)
  | [], k4 => some true
  | x6 :: rest5, k4 => (bif (decide ((0 : Int) < (k4 : Int))) then ((ix a_l (IntKind.i64.wrap ((k4 : Int) - 1))).bind fun x18 =>
        some (decide ((x6 : Int) ≤ x18)))
      else (some false)).bind fun o13 =>
    match o13 with
    | c24 => if c24 then (
        some false)
      else (
        i_ascending_L1 a_l rest5 (k4 + 1))
def i_ascending (a_l : List Int) : Option (Bool) :=
  i_ascending_L1 a_l a_l 0
theorem i_ascending_ok (a_l : List Int) (v0_0 : Sv) (R : Bool) (hF : i_ascending a_l = some R) :
    Fw.Spec Tryz.prog 180 [v0_0.v] [crd (RdS 3 rdInt) v0_0.v a_l] (fun _ : Unit => (.bool R)) (fun _ => []) := by
  refine Spec_enter (n := 24) Tryz.func180 rfl rfl (rs := [.tmp 2]) rfl rfl rfl ?_
  intro H0 F0
  unfold i_ascending at hF
  iterate 9 refine au ?_
  refine CW_block (CW_loop (m := a_l.length) (fun m2 f' cs' => ∃ (g : Fr) (k4 : Nat) (rest5 : List Int), m2 = rest5.length ∧ f' = updL g [(0, v0_0.v), (5, (.int .i64 (a_l.length : Int))), (6, (.int .i64 (k4 : Int)))] ∧ List.drop k4 a_l = rest5 ∧ Ent cs' [crd (RdS 3 rdInt) v0_0.v a_l] ∧ i_ascending_L1 a_l rest5 k4 = some R) ⟨_, 0, _, rfl, eqA, rfl, entA, hF⟩ ?_)
  clear hF
  rintro m2 _ _ ⟨g3, k4, rest5, rfl, rfl, hd7, hE, hF⟩
  refine K_ent hE ?_
  clear hE
  refine K_pure (c := crd (RdS 3 rdInt) v0_0.v a_l) .h crd_bound (fun hbd12 => ?_)
  rcases rest5 with _ | ⟨x6, rest5⟩
  · have hk8 := List.drop_eq_nil_iff.1 hd7
    rw [i_ascending_L1] at hF
    iterate 4 refine au ?_
    refine CdF ?_
    iterate 8 refine au ?_
    cases hF
    exact Er ()
  obtain ⟨hk8, hx9, hd10⟩ := drop_cons hd7
  rw [i_ascending_L1] at hF
  iterate 4 refine au ?_
  refine CdT ?_
  iterate 6 refine au ?_
  obtain ⟨o13, hio13, hO14⟩ := bind_some hF
  refine K_draw [0, 1, 2, 3, 4, 5, 6, 7, 8, 9, 10, 11, 12, 13] [0, 1, 3, 7, 7, 31, 63, 7, 7, 263, 903, 1927, 4095, 8191] [] mixed (by decide +kernel) ?_
  refine D_cut (fun f' cs' => ∃ (c24 : Bool) (g : Fr), c24 = o13 ∧ f' = updL g [(0, v0_0.v), (5, (.int .i64 (a_l.length : Int))), (6, (.int .i64 (k4 : Int))), (22, (.bool c24))] ∧ Ent cs' [crd (RdS 3 rdInt) v0_0.v a_l]) ?_ ?_
  · replace hF := hio13
    iterate 3 refine du ?_
    rcases Bool.eq_false_or_eq_true (decide ((0 : Int) < (k4 : Int))) with hg15 | hg15
    · rw [hg15]
      try rw [hg15] at hF; dsimp only [cond_true, cond_false] at hF
      iterate 2 refine du ?_
      refine Di hx9 (fun k16 j17 => ?_)
      refine Dl ls3_0 ?_
      iterate 3 refine du ?_
      obtain ⟨x18, hx19, hF⟩ := bind_some hF
      obtain ⟨hp20, hx21⟩ := ix_some hx19
      refine Di hx21 (fun k22 j23 => ?_)
      refine Dl ls3_0 ?_
      iterate 3 refine du ?_
      cases hF
      exact ⟨_, _, rfl, eqA, entA⟩
    rw [hg15]
    try rw [hg15] at hF; dsimp only [cond_true, cond_false] at hF
    iterate 12 refine du ?_
    cases hF
    exact ⟨_, _, rfl, eqA, entA⟩
  rintro _ _ ⟨c24, g27, rfl, rfl, hE⟩
  replace hF := hO14
  clear hO14
  try dsimp only at hF
  refine K_ent hE ?_
  refine Cc (fun hb26 => ?_) (fun hb26 => ?_)
  · rw [if_pos hb26] at hF
    iterate 4 refine au ?_
    cases hF
    exact Er ()
  rw [if_neg (nt hb26)] at hF
  iterate 5 refine au ?_
  rw [wk k4]
  exact ⟨_, Nat.lt_succ_self _, _, k4 + 1, rest5, rfl, eqA, hd10, entA, hF⟩

/-! impl.Method).fits$1 -/
def i_Method_fits_1 (a_i : Int) (a_e1 : Int) : Option (Bool) :=
  (i_within a_i 0 (IntKind.i64.wrap (a_e1 - 1))).bind fun r1 =>
  some (!r1)
theorem i_Method_fits_1_ok (a_i : Int) (kc1 : Nat) (a_e1 : Int) (R : Bool) (hF : i_Method_fits_1 a_i a_e1 = some R) :
    Fw.Spec Tryz.prog 181 [(.int .i64 a_i), (.pointer (some ⟨kc1, 0, some 0⟩))] [cboR kc1 3 (.int .i64 a_e1)] (fun _ : Unit => (.bool R)) (fun _ => []) := by
  refine Spec_enter (n := 9) Tryz.func181 rfl rfl (rs := [.tmp 3]) rfl rfl rfl ?_
  intro H0 F0
  unfold i_Method_fits_1 at hF
  iterate 7 refine au ?_
  obtain ⟨r1, hx2, hF⟩ := bind_some hF
  refine Cx0 (i_within_ok _ _ _ _ hx2) (fun _ => ?_)
  iterate 4 refine au ?_
  cases hF
  exact Er ()

/-! slices.IndexFunc[[]int,int] -/
def g_slices_IndexFunc_int_int_iMethodfits1_L1 (a_e1 : Int) : List Int → Nat → Option (Int)
  | [], k4 => some (-1)
  | x6 :: rest5, k4 => (i_Method_fits_1 x6 a_e1).bind fun r15 =>
    if r15 then (
      some (k4 : Int))
    else (
      g_slices_IndexFunc_int_int_iMethodfits1_L1 a_e1 rest5 (k4 + 1))
def g_slices_IndexFunc_int_int_iMethodfits1 (a_s : List Int) (a_e1 : Int) : Option (Int) :=
  g_slices_IndexFunc_int_int_iMethodfits1_L1 a_e1 a_s 0
theorem g_slices_IndexFunc_int_int_iMethodfits1_ok (a_s : List Int) (v0_0 : Sv) (kc1 : Nat) (a_e1 : Int) (R : Int) (hF : g_slices_IndexFunc_int_int_iMethodfits1 a_s a_e1 = some R) :
    Fw.Spec Tryz.prog 176 [v0_0.v, (.func (.func 181) [].toArray [(.pointer (some ⟨kc1, 0, some 0⟩))].toArray)] [crd (RdS 3 rdInt) v0_0.v a_s, cboR kc1 3 (.int .i64 a_e1)] (fun _ : Unit => (.int .i64 R)) (fun _ => []) := by
  refine Spec_enter (n := 19) Tryz.func176 rfl rfl (rs := [.tmp 4]) rfl rfl rfl ?_
  intro H0 F0
  unfold g_slices_IndexFunc_int_int_iMethodfits1 at hF
  iterate 9 refine au ?_
  refine CW_block (CW_loop (m := a_s.length) (fun m2 f' cs' => ∃ (g : Fr) (k4 : Nat) (rest5 : List Int), m2 = rest5.length ∧ f' = updL g [(0, v0_0.v), (1, (.func (.func 181) [].toArray [(.pointer (some ⟨kc1, 0, some 0⟩))].toArray)), (7, (.int .i64 (a_s.length : Int))), (8, (.int .i64 (k4 : Int)))] ∧ List.drop k4 a_s = rest5 ∧ Ent cs' [crd (RdS 3 rdInt) v0_0.v a_s, cboR kc1 3 (.int .i64 a_e1)] ∧ g_slices_IndexFunc_int_int_iMethodfits1_L1 a_e1 rest5 k4 = some R) ⟨_, 0, _, rfl, eqA, rfl, entA, hF⟩ ?_)
  clear hF
  rintro m2 _ _ ⟨g3, k4, rest5, rfl, rfl, hd7, hE, hF⟩
  refine K_ent hE ?_
  clear hE
  refine K_pure (c := crd (RdS 3 rdInt) v0_0.v a_s) .h crd_bound (fun hbd12 => ?_)
  rcases rest5 with _ | ⟨x6, rest5⟩
  · have hk8 := List.drop_eq_nil_iff.1 hd7
    rw [g_slices_IndexFunc_int_int_iMethodfits1_L1] at hF
    iterate 4 refine au ?_
    refine CdF ?_
    iterate 8 refine au ?_
    cases hF
    exact Er ()
  obtain ⟨hk8, hx9, hd10⟩ := drop_cons hd7
  rw [g_slices_IndexFunc_int_int_iMethodfits1_L1] at hF
  iterate 4 refine au ?_
  refine CdT ?_
  iterate 10 refine au ?_
  refine Ai hx9 (fun k13 j14 => ?_)
  refine Al ls3_0 ?_
  obtain ⟨r15, hx16, hF⟩ := bind_some hF
  refine C_x0 (.rd (.t (.t .h)) rfl .nil) (X_callCS cf181.h (.tmp rfl rfl) (.cons (.tmp rfl rfl) .nil) (i_Method_fits_1_ok x6 kc1 a_e1 _ hx16)) (fun _ => ?_)
  refine au ?_
  refine Cc (fun hb19 => ?_) (fun hb19 => ?_)
  · rw [if_pos hb19] at hF
    iterate 5 refine au ?_
    cases hF
    exact Er ()
  rw [if_neg (nt hb19)] at hF
  iterate 5 refine au ?_
  rw [wk k4]
  exact ⟨_, Nat.lt_succ_self _, _, k4 + 1, rest5, rfl, eqA, hd10, entA, hF⟩

/-! slices.ContainsFunc[[]int,int] -/
def g_slices_ContainsFunc_int_int_iMethodfits1 (a_s : List Int) (a_e1 : Int) : Option (Bool) :=
  (g_slices_IndexFunc_int_int_iMethodfits1 a_s a_e1).bind fun r1 =>
  some (decide ((0 : Int) ≤ r1))
theorem g_slices_ContainsFunc_int_int_iMethodfits1_ok (a_s : List Int) (v0_0 : Sv) (kc1 : Nat) (a_e1 : Int) (R : Bool) (hF : g_slices_ContainsFunc_int_int_iMethodfits1 a_s a_e1 = some R) :
    Fw.Spec Tryz.prog 152 [v0_0.v, (.func (.func 181) [].toArray [(.pointer (some ⟨kc1, 0, some 0⟩))].toArray)] [crd (RdS 3 rdInt) v0_0.v a_s, cboR kc1 3 (.int .i64 a_e1)] (fun _ : Unit => (.bool R)) (fun _ => []) := by
  refine Spec_enter (n := 9) Tryz.func152 rfl rfl (rs := [.tmp 4]) rfl rfl rfl ?_
  intro H0 F0
  unfold g_slices_ContainsFunc_int_int_iMethodfits1 at hF
  iterate 6 refine au ?_
  obtain ⟨r1, hx2, hF⟩ := bind_some hF
  refine Cx0 (g_slices_IndexFunc_int_int_iMethodfits1_ok _ _ _ _ _ hx2) (fun _ => ?_)
  iterate 4 refine au ?_
  cases hF
  exact Er ()

/-! impl.isCost -/
def i_isCost (a_n : Int) : Option (Bool) :=
  (i_within a_n 0 99).bind fun r1 =>
  some r1
theorem i_isCost_ok (a_n : Int) (R : Bool) (hF : i_isCost a_n = some R) :
    Fw.Spec Tryz.prog 182 [(.int .i64 a_n)] [] (fun _ : Unit => (.bool R)) (fun _ => []) := by
  refine Spec_enter (n := 5) Tryz.func182 rfl rfl (rs := [.tmp 2]) rfl rfl rfl ?_
  intro H0 F0
  unfold i_isCost at hF
  iterate 5 refine au ?_
  obtain ⟨r1, hx2, hF⟩ := bind_some hF
  refine Cx0 (i_within_ok _ _ _ _ hx2) (fun _ => ?_)
  iterate 3 refine au ?_
  cases hF
  exact Er ()

/-! impl.Method).fits -/
def i_Method_fits (a_m : Method) (a_arity : Int) : Option (Bool) :=
  ((i_ascending a_m.Inputs).bind fun r5 =>
    bif r5 then ((g_slices_ContainsFunc_int_int_iMethodfits1 a_m.Inputs a_arity).bind fun r9 =>
      bif (!r9) then ((i_within a_m.Limit 0 9).bind fun r13 =>
        bif r13 then ((i_isCost a_m.Cost).bind fun r17 =>
          bif r17 then ((i_within a_m.Quota 1 99).bind fun r21 =>
            some r21)
          else (some false))
        else (some false))
      else (some false))
    else (some false)).bind fun o3 =>
  match o3 with
  | c24 => some c24
theorem i_Method_fits_ok (a_m : Method) (v0_1 : Sv) (a_arity : Int) (R : Bool) (hF : i_Method_fits a_m a_arity = some R) :
    Fw.Spec Tryz.prog 169 [(.agg [(.int .i64 a_m.Rel), v0_1.v, (.int .i64 a_m.Limit), (.int .i64 a_m.Cost), (.int .i64 a_m.Quota)].toArray), (.int .i64 a_arity)] [crd (RdS 3 rdInt) v0_1.v a_m.Inputs] (fun _ : Unit => (.bool R)) (fun _ => []) := by
  refine Spec_enter (n := 30) Tryz.func169 rfl rfl (rs := [.tmp 4]) rfl rfl rfl ?_
  intro H0 F0
  unfold i_Method_fits at hF
  refine au ?_
  refine AbR (fun k1 => ?_)
  refine AbR (fun k2 => ?_)
  iterate 2 refine au ?_
  obtain ⟨o3, hio3, hO4⟩ := bind_some hF
  refine au ?_
  refine C_cut (fun f' cs' => ∃ (c24 : Bool) (g : Fr), c24 = o3 ∧ f' = updL g [(4, (.bool c24))] ∧ Ent cs' []) ?_ ?_
  · replace hF := hio3
    iterate 2 refine au ?_
    obtain ⟨r5, hx6, hF⟩ := bind_some hF
    refine Cx0 (i_ascending_ok _ _ _ hx6) (fun _ => ?_)
    refine au ?_
    rcases Bool.eq_false_or_eq_true r5 with hg8 | hg8
    · rw [hg8]
      try rw [hg8] at hF; dsimp only [cond_true, cond_false] at hF
      iterate 5 refine au ?_
      refine C_val (V_makeFunc (fn := .func 181) (vs := []) (us := [(.pointer (some ⟨k2, 0, some 0⟩))]) .nil (.cons (.tmp rfl rfl) .nil)) ?_
      refine au ?_
      obtain ⟨r9, hx10, hF⟩ := bind_some hF
      refine Cx0 (g_slices_ContainsFunc_int_int_iMethodfits1_ok _ _ _ _ _ hx10) (fun _ => ?_)
      iterate 4 refine au ?_
      rcases Bool.eq_false_or_eq_true (!r9) with hg12 | hg12
      · rw [hg12]
        try rw [hg12] at hF; dsimp only [cond_true, cond_false] at hF
        iterate 5 refine au ?_
        obtain ⟨r13, hx14, hF⟩ := bind_some hF
        refine Cx0 (i_within_ok _ _ _ _ hx14) (fun _ => ?_)
        iterate 2 refine au ?_
        rcases Bool.eq_false_or_eq_true r13 with hg16 | hg16
        · rw [hg16]
          try rw [hg16] at hF; dsimp only [cond_true, cond_false] at hF
          iterate 5 refine au ?_
          obtain ⟨r17, hx18, hF⟩ := bind_some hF
          refine Cx0 (i_isCost_ok _ _ hx18) (fun _ => ?_)
          iterate 2 refine au ?_
          rcases Bool.eq_false_or_eq_true r17 with hg20 | hg20
          · rw [hg20]
            try rw [hg20] at hF; dsimp only [cond_true, cond_false] at hF
            iterate 5 refine au ?_
            obtain ⟨r21, hx22, hF⟩ := bind_some hF
            refine Cx0 (i_within_ok _ _ _ _ hx22) (fun _ => ?_)
            iterate 3 refine au ?_
            cases hF
            exact ⟨_, _, rfl, eqA, entA⟩
          rw [hg20]
          try rw [hg20] at hF; dsimp only [cond_true, cond_false] at hF
          iterate 6 refine au ?_
          cases hF
          exact ⟨_, _, rfl, eqA, entA⟩
        rw [hg16]
        try rw [hg16] at hF; dsimp only [cond_true, cond_false] at hF
        iterate 11 refine au ?_
        cases hF
        exact ⟨_, _, rfl, eqA, entA⟩
      rw [hg12]
      try rw [hg12] at hF; dsimp only [cond_true, cond_false] at hF
      iterate 16 refine au ?_
      cases hF
      exact ⟨_, _, rfl, eqA, entA⟩
    rw [hg8]
    try rw [hg8] at hF; dsimp only [cond_true, cond_false] at hF
    iterate 23 refine au ?_
    cases hF
    exact ⟨_, _, rfl, eqA, entA⟩
  rintro _ _ ⟨c24, g25, rfl, rfl, hE⟩
  replace hF := hO4
  clear hO4
  try dsimp only at hF
  refine K_ent hE ?_
  refine au ?_
  cases hF
  exact Er ()

/-! impl.IsMethod -/
def i_IsMethod (a_s : List Int) (a_m : Method) : Option (Bool) :=
  ((i_hasRel a_s a_m.Rel).bind fun r4 =>
    bif r4 then ((ix a_s a_m.Rel).bind fun x8 =>
      (i_Method_fits a_m x8).bind fun r14 =>
      some r14)
    else (some false)).bind fun o2 =>
  match o2 with
  | c17 => some c17
theorem i_IsMethod_ok (a_s : List Int) (v0_0 : Sv) (a_m : Method) (v1_1 : Sv) (R : Bool) (hF : i_IsMethod a_s a_m = some R) :
    Fw.Spec Tryz.prog 142 [v0_0.v, (.agg [(.int .i64 a_m.Rel), v1_1.v, (.int .i64 a_m.Limit), (.int .i64 a_m.Cost), (.int .i64 a_m.Quota)].toArray)] [crd (RdS 3 rdInt) v0_0.v a_s, crd (RdS 3 rdInt) v1_1.v a_m.Inputs] (fun _ : Unit => (.bool R)) (fun _ => []) := by
  refine Spec_enter (n := 18) Tryz.func142 rfl rfl (rs := [.tmp 4]) rfl rfl rfl ?_
  intro H0 F0
  unfold i_IsMethod at hF
  refine K_region (C_newR rfl (N_box (g := false) (v := (.agg [(.int .i64 a_m.Rel), v1_1.v, (.int .i64 a_m.Limit), (.int .i64 a_m.Cost), (.int .i64 a_m.Quota)].toArray)) ty114.h.sz (.tmp rfl rfl) rfl) (fun k1 => ?_))
  refine C_val (V_assign (v := (.bool false)) (.bool _)) ?_
  refine C_nil ?_
  obtain ⟨o2, hio2, hO3⟩ := bind_some hF
  refine K_draw [0, 1, 2, 3, 4, 5, 6, 7, 8, 9, 10, 11, 12, 13] [0, 0, 2, 7, 15, 31, 31, 31, 159, 479, 991, 2047, 4095, 8191] [3, 11] mixed (by decide +kernel) ?_
  refine D_cut (fun f' cs' => ∃ (c17 : Bool) (g : Fr), c17 = o2 ∧ f' = updL g [(4, (.bool c17))] ∧ Ent cs' []) ?_ ?_
  · replace hF := hio2
    refine Dm v0_0.v rfl rfl rfl rfl ?_
    refine D_val rfl .no (fun ha => V_fieldAddr (off := 0) fd114_0.h (EN ha (.tmp rfl rfl) rfl)) ?_
    refine D_at rfl .no .h rfl (fun ha hp => V_load (v := (.int .i64 a_m.Rel)) ag3.h (EN ha (.tmp rfl rfl) rfl) hp.2 rfl rfl) ?_
    obtain ⟨r4, hx5, hF⟩ := bind_some hF
    refine D_act0 rfl rfl .no (.rd (.t .h) rfl .nil) .nil (fun ha => X_callS cf156.h (.cons (EN ha (.tmp rfl rfl) rfl) (.cons (EN ha (.tmp rfl rfl) rfl) .nil)) (i_hasRel_ok a_s v0_0 a_m.Rel _ hx5)) (fun _ => ?_)
    refine Dm (.bool r4) rfl rfl rfl rfl ?_
    rcases Bool.eq_false_or_eq_true r4 with hg7 | hg7
    · rw [hg7]
      try rw [hg7] at hF; dsimp only [cond_true, cond_false] at hF
      refine D_at rfl (.on 9 rfl rfl rfl) .h rfl (fun ha hp => V_loadBox ag114.h ty114.h.sz rfl (EN ha (.tmp rfl rfl) rfl) hp.2 rfl) ?_
      refine D_val rfl (.on 9 rfl rfl rfl) (fun ha => V_move (v := v0_0.v) (EN ha (.tmp rfl rfl) rfl)) ?_
      refine D_val rfl (.on 9 rfl rfl rfl) (fun ha => V_fieldAddr (off := 0) fd114_0.h (EN ha (.tmp rfl rfl) rfl)) ?_
      refine D_at rfl (.on 9 rfl rfl rfl) .h rfl (fun ha hp => V_load (v := (.int .i64 a_m.Rel)) ag3.h (EN ha (.tmp rfl rfl) rfl) hp.2 rfl rfl) ?_
      obtain ⟨x8, hx9, hF⟩ := bind_some hF
      obtain ⟨hp10, hx11⟩ := ix_some hx9
      refine D_idx (a := x8) sl22.h ty3.h.sz rfl (.on 9 rfl rfl rfl) (.tmp rfl rfl) (.tmp rfl rfl) rfl rfl (.t .h) hp10 hx11 (fun k12 j13 => ?_)
      refine D_ldS (w := (.int .i64 x8)) ag3.h rfl (.on 9 rfl rfl rfl) (.tmp rfl rfl) rfl .h ls3_0 ?_
      obtain ⟨r14, hx15, hF⟩ := bind_some hF
      refine D_act0 rfl rfl (.on 9 rfl rfl rfl) (.rd (.t (.t (.t .h))) rfl .nil) .nil (fun ha => X_callS cf169.h (.cons (EN ha (.tmp rfl rfl) rfl) (.cons (EN ha (.tmp rfl rfl) rfl) .nil)) (i_Method_fits_ok a_m v1_1 x8 _ hx15)) (fun _ => ?_)
      refine D_val rfl .no (fun ha => V_pick (b := true) (u := (.bool r14)) (v := (.bool false)) (EN ha (.tmp rfl rfl) rfl) (EN ha (.tmp rfl rfl) rfl) (EN ha (.bool _) rfl)) ?_
      refine Da (.bool r14) rfl rfl rfl rfl ?_
      refine D_nil ?_
      obtain rfl := Option.some.inj hF
      exact ⟨_, _, rfl, (EqL.cons rfl (EqL.nil)).eq, (.sel .nil)⟩
    rw [hg7]
    try rw [hg7] at hF; dsimp only [cond_true, cond_false] at hF
    iterate 7 refine D_off 9 rfl rfl rfl rfl ?_
    refine D_val rfl .no (fun ha => V_pick (b := false) (u := undef) (v := (.bool false)) (EN ha (.tmp rfl rfl) rfl) (EN ha (.tmp rfl rfl) rfl) (EN ha (.bool _) rfl)) ?_
    refine Da (.bool false) rfl rfl rfl rfl ?_
    refine D_nil ?_
    obtain rfl := Option.some.inj hF
    exact ⟨_, _, rfl, (EqL.cons rfl (EqL.nil)).eq, (.sel .nil)⟩
  rintro _ _ ⟨c17, g18, rfl, rfl, hE⟩
  replace hF := hO3
  clear hO3
  try dsimp only at hF
  refine K_ent hE ?_
  refine CW_ret ?_
  obtain rfl := Option.some.inj hF
  exact End_ret () (.tmp rfl rfl .nil) rfl (.sel .nil)

/-! impl.AreMethods$1 -/
def i_AreMethods_1 (a_m : Method) (a_e1 : List Int) : Option (Bool) :=
  (i_IsMethod a_e1 a_m).bind fun r2 =>
  some (!r2)
theorem i_AreMethods_1_ok (a_m : Method) (v0_1 : Sv) (kc1 : Nat) (a_e1 : List Int) (vc1_0 : Sv) (R : Bool) (hF : i_AreMethods_1 a_m a_e1 = some R) :
    Fw.Spec Tryz.prog 141 [(.agg [(.int .i64 a_m.Rel), v0_1.v, (.int .i64 a_m.Limit), (.int .i64 a_m.Cost), (.int .i64 a_m.Quota)].toArray), (.pointer (some ⟨kc1, 0, some 0⟩))] [crd (RdS 3 rdInt) v0_1.v a_m.Inputs, cboR kc1 22 vc1_0.v, crd (RdS 3 rdInt) vc1_0.v a_e1] (fun _ : Unit => (.bool R)) (fun _ => []) := by
  refine Spec_enter (n := 8) Tryz.func141 rfl rfl (rs := [.tmp 3]) rfl rfl rfl ?_
  intro H0 F0
  unfold i_AreMethods_1 at hF
  refine au ?_
  refine AbR (fun k1 => ?_)
  iterate 5 refine au ?_
  obtain ⟨r2, hx3, hF⟩ := bind_some hF
  refine Cx0 (i_IsMethod_ok _ _ _ _ _ hx3) (fun _ => ?_)
  iterate 4 refine au ?_
  cases hF
  exact Er ()

/-! impl.Method] -/
def g_slices_IndexFunc_impl_Method_impl_Method_iAreMethods1_L1 (a_e1 : List Int) : List Method → Nat → Option (Int)
  | [], k4 => some (-1)
  | x6 :: rest5, k4 => (i_AreMethods_1 x6 a_e1).bind fun r16 =>
    if r16 then (
      some (k4 : Int))
    else (
      g_slices_IndexFunc_impl_Method_impl_Method_iAreMethods1_L1 a_e1 rest5 (k4 + 1))
def g_slices_IndexFunc_impl_Method_impl_Method_iAreMethods1 (a_s : List Method) (a_e1 : List Int) : Option (Int) :=
  g_slices_IndexFunc_impl_Method_impl_Method_iAreMethods1_L1 a_e1 a_s 0
theorem g_slices_IndexFunc_impl_Method_impl_Method_iAreMethods1_ok (a_s : List Method) (v0_0 : Sv) (kc1 : Nat) (a_e1 : List Int) (vc1_0 : Sv) (R : Int) (hF : g_slices_IndexFunc_impl_Method_impl_Method_iAreMethods1 a_s a_e1 = some R) :
    Fw.Spec Tryz.prog 168 [v0_0.v, (.func (.func 141) [].toArray [(.pointer (some ⟨kc1, 0, some 0⟩))].toArray)] [crd (RdS 114 rd114) v0_0.v a_s, cboR kc1 22 vc1_0.v, crd (RdS 3 rdInt) vc1_0.v a_e1] (fun _ : Unit => (.int .i64 R)) (fun _ => []) := by
  refine Spec_enter (n := 19) Tryz.func168 rfl rfl (rs := [.tmp 4]) rfl rfl rfl ?_
  intro H0 F0
  unfold g_slices_IndexFunc_impl_Method_impl_Method_iAreMethods1 at hF
  iterate 9 refine au ?_
  refine CW_block (CW_loop (m := a_s.length) (fun m2 f' cs' => ∃ (g : Fr) (k4 : Nat) (rest5 : List Method), m2 = rest5.length ∧ f' = updL g [(0, v0_0.v), (1, (.func (.func 141) [].toArray [(.pointer (some ⟨kc1, 0, some 0⟩))].toArray)), (7, (.int .i64 (a_s.length : Int))), (8, (.int .i64 (k4 : Int)))] ∧ List.drop k4 a_s = rest5 ∧ Ent cs' [crd (RdS 114 rd114) v0_0.v a_s, cboR kc1 22 vc1_0.v, crd (RdS 3 rdInt) vc1_0.v a_e1] ∧ g_slices_IndexFunc_impl_Method_impl_Method_iAreMethods1_L1 a_e1 rest5 k4 = some R) ⟨_, 0, _, rfl, eqA, rfl, entA, hF⟩ ?_)
  clear hF
  rintro m2 _ _ ⟨g3, k4, rest5, rfl, rfl, hd7, hE, hF⟩
  refine K_ent hE ?_
  clear hE
  refine K_pure (c := crd (RdS 114 rd114) v0_0.v a_s) .h crd_bound (fun hbd12 => ?_)
  rcases rest5 with _ | ⟨x6, rest5⟩
  · have hk8 := List.drop_eq_nil_iff.1 hd7
    rw [g_slices_IndexFunc_impl_Method_impl_Method_iAreMethods1_L1] at hF
    iterate 4 refine au ?_
    refine CdF ?_
    iterate 8 refine au ?_
    cases hF
    exact Er ()
  obtain ⟨hk8, hx9, hd10⟩ := drop_cons hd7
  rw [g_slices_IndexFunc_impl_Method_impl_Method_iAreMethods1_L1] at hF
  iterate 4 refine au ?_
  refine CdT ?_
  iterate 10 refine au ?_
  refine Ai hx9 (fun k13 j14 => ?_)
  refine AlA1 (ul114_0_114 x6) la114_0_114 (fun p15 => ?_)
  obtain ⟨r16, hx17, hF⟩ := bind_some hF
  refine C_x0 (.rd .h rfl (.rd (.t (.t (.t .h))) rfl (.rd (.t (.t (.t (.t .h)))) rfl .nil))) (X_callCS cf141.h (.tmp rfl rfl) (.cons (.tmp rfl rfl) .nil) (i_AreMethods_1_ok x6 p15 kc1 a_e1 vc1_0 _ hx17)) (fun _ => ?_)
  refine au ?_
  refine Cc (fun hb20 => ?_) (fun hb20 => ?_)
  · rw [if_pos hb20] at hF
    iterate 5 refine au ?_
    cases hF
    exact Er ()
  rw [if_neg (nt hb20)] at hF
  iterate 5 refine au ?_
  rw [wk k4]
  exact ⟨_, Nat.lt_succ_self _, _, k4 + 1, rest5, rfl, eqA, hd10, entA, hF⟩

/-! impl.Method] -/
def g_slices_ContainsFunc_impl_Method_impl_Method_iAreMethods1 (a_s : List Method) (a_e1 : List Int) : Option (Bool) :=
  (g_slices_IndexFunc_impl_Method_impl_Method_iAreMethods1 a_s a_e1).bind fun r1 =>
  some (decide ((0 : Int) ≤ r1))
theorem g_slices_ContainsFunc_impl_Method_impl_Method_iAreMethods1_ok (a_s : List Method) (v0_0 : Sv) (kc1 : Nat) (a_e1 : List Int) (vc1_0 : Sv) (R : Bool) (hF : g_slices_ContainsFunc_impl_Method_impl_Method_iAreMethods1 a_s a_e1 = some R) :
    Fw.Spec Tryz.prog 140 [v0_0.v, (.func (.func 141) [].toArray [(.pointer (some ⟨kc1, 0, some 0⟩))].toArray)] [crd (RdS 114 rd114) v0_0.v a_s, cboR kc1 22 vc1_0.v, crd (RdS 3 rdInt) vc1_0.v a_e1] (fun _ : Unit => (.bool R)) (fun _ => []) := by
  refine Spec_enter (n := 9) Tryz.func140 rfl rfl (rs := [.tmp 4]) rfl rfl rfl ?_
  intro H0 F0
  unfold g_slices_ContainsFunc_impl_Method_impl_Method_iAreMethods1 at hF
  iterate 6 refine au ?_
  obtain ⟨r1, hx2, hF⟩ := bind_some hF
  refine Cx0 (g_slices_IndexFunc_impl_Method_impl_Method_iAreMethods1_ok _ _ _ _ _ _ hx2) (fun _ => ?_)
  iterate 4 refine au ?_
  cases hF
  exact Er ()

/-! impl.AreMethods -/
def i_AreMethods (a_s : List Int) (a_l : List Method) : Option (Bool) :=
  ((i_IsSchema a_s).bind fun r4 =>
    bif r4 then (bif (decide (((a_l.length : Int) : Int) ≤ 5)) then ((g_slices_ContainsFunc_impl_Method_impl_Method_iAreMethods1 a_l a_s).bind fun r9 =>
        some (!r9))
      else (some false))
    else (some false)).bind fun o2 =>
  match o2 with
  | c12 => some c12
theorem i_AreMethods_ok (a_s : List Int) (v0_0 : Sv) (a_l : List Method) (v1_0 : Sv) (R : Bool) (hF : i_AreMethods a_s a_l = some R) :
    Fw.Spec Tryz.prog 97 [v0_0.v, v1_0.v] [crd (RdS 3 rdInt) v0_0.v a_s, crd (RdS 114 rd114) v1_0.v a_l] (fun _ : Unit => (.bool R)) (fun _ => []) := by
  refine Spec_enter (n := 18) Tryz.func97 rfl rfl (rs := [.tmp 4]) rfl rfl rfl ?_
  intro H0 F0
  unfold i_AreMethods at hF
  refine au ?_
  refine AbR (fun k1 => ?_)
  iterate 2 refine au ?_
  obtain ⟨o2, hio2, hO3⟩ := bind_some hF
  refine au ?_
  refine C_cut (fun f' cs' => ∃ (c12 : Bool) (g : Fr), c12 = o2 ∧ f' = updL g [(4, (.bool c12))] ∧ Ent cs' []) ?_ ?_
  · replace hF := hio2
    refine au ?_
    obtain ⟨r4, hx5, hF⟩ := bind_some hF
    refine Cx0 (i_IsSchema_ok _ _ _ hx5) (fun _ => ?_)
    refine au ?_
    rcases Bool.eq_false_or_eq_true r4 with hg7 | hg7
    · rw [hg7]
      try rw [hg7] at hF; dsimp only [cond_true, cond_false] at hF
      iterate 8 refine au ?_
      rcases Bool.eq_false_or_eq_true (decide (((a_l.length : Int) : Int) ≤ 5)) with hg8 | hg8
      · rw [hg8]
        try rw [hg8] at hF; dsimp only [cond_true, cond_false] at hF
        iterate 3 refine au ?_
        refine C_val (V_makeFunc (fn := .func 141) (vs := []) (us := [(.pointer (some ⟨k1, 0, some 0⟩))]) .nil (.cons (.tmp rfl rfl) .nil)) ?_
        refine au ?_
        obtain ⟨r9, hx10, hF⟩ := bind_some hF
        refine Cx0 (g_slices_ContainsFunc_impl_Method_impl_Method_iAreMethods1_ok _ _ _ _ _ _ hx10) (fun _ => ?_)
        iterate 5 refine au ?_
        cases hF
        exact ⟨_, _, rfl, eqA, entA⟩
      rw [hg8]
      try rw [hg8] at hF; dsimp only [cond_true, cond_false] at hF
      iterate 7 refine au ?_
      cases hF
      exact ⟨_, _, rfl, eqA, entA⟩
    rw [hg7]
    try rw [hg7] at hF; dsimp only [cond_true, cond_false] at hF
    iterate 12 refine au ?_
    cases hF
    exact ⟨_, _, rfl, eqA, entA⟩
  rintro _ _ ⟨c12, g13, rfl, rfl, hE⟩
  replace hF := hO3
  clear hO3
  try dsimp only at hF
  refine K_ent hE ?_
  refine au ?_
  cases hF
  exact Er ()

/-! impl.arePositions$1 -/
def i_arePositions_1 (a_i : Int) (a_e1 : Int) : Option (Bool) :=
  (i_within a_i 0 (IntKind.i64.wrap (a_e1 - 1))).bind fun r1 =>
  some (!r1)
theorem i_arePositions_1_ok (a_i : Int) (kc1 : Nat) (a_e1 : Int) (R : Bool) (hF : i_arePositions_1 a_i a_e1 = some R) :
    Fw.Spec Tryz.prog 183 [(.int .i64 a_i), (.pointer (some ⟨kc1, 0, some 0⟩))] [cboR kc1 3 (.int .i64 a_e1)] (fun _ : Unit => (.bool R)) (fun _ => []) := by
  refine Spec_enter (n := 9) Tryz.func183 rfl rfl (rs := [.tmp 3]) rfl rfl rfl ?_
  intro H0 F0
  unfold i_arePositions_1 at hF
  iterate 7 refine au ?_
  obtain ⟨r1, hx2, hF⟩ := bind_some hF
  refine Cx0 (i_within_ok _ _ _ _ hx2) (fun _ => ?_)
  iterate 4 refine au ?_
  cases hF
  exact Er ()

/-! slices.IndexFunc[[]int,int] -/
def g_slices_IndexFunc_int_int_iarePositions1_L1 (a_e1 : Int) : List Int → Nat → Option (Int)
  | [], k4 => some (-1)
  | x6 :: rest5, k4 => (i_arePositions_1 x6 a_e1).bind fun r15 =>
    if r15 then (
      some (k4 : Int))
    else (
      g_slices_IndexFunc_int_int_iarePositions1_L1 a_e1 rest5 (k4 + 1))
def g_slices_IndexFunc_int_int_iarePositions1 (a_s : List Int) (a_e1 : Int) : Option (Int) :=
  g_slices_IndexFunc_int_int_iarePositions1_L1 a_e1 a_s 0
theorem g_slices_IndexFunc_int_int_iarePositions1_ok (a_s : List Int) (v0_0 : Sv) (kc1 : Nat) (a_e1 : Int) (R : Int) (hF : g_slices_IndexFunc_int_int_iarePositions1 a_s a_e1 = some R) :
    Fw.Spec Tryz.prog 176 [v0_0.v, (.func (.func 183) [].toArray [(.pointer (some ⟨kc1, 0, some 0⟩))].toArray)] [crd (RdS 3 rdInt) v0_0.v a_s, cboR kc1 3 (.int .i64 a_e1)] (fun _ : Unit => (.int .i64 R)) (fun _ => []) := by
  refine Spec_enter (n := 19) Tryz.func176 rfl rfl (rs := [.tmp 4]) rfl rfl rfl ?_
  intro H0 F0
  unfold g_slices_IndexFunc_int_int_iarePositions1 at hF
  iterate 9 refine au ?_
  refine CW_block (CW_loop (m := a_s.length) (fun m2 f' cs' => ∃ (g : Fr) (k4 : Nat) (rest5 : List Int), m2 = rest5.length ∧ f' = updL g [(0, v0_0.v), (1, (.func (.func 183) [].toArray [(.pointer (some ⟨kc1, 0, some 0⟩))].toArray)), (7, (.int .i64 (a_s.length : Int))), (8, (.int .i64 (k4 : Int)))] ∧ List.drop k4 a_s = rest5 ∧ Ent cs' [crd (RdS 3 rdInt) v0_0.v a_s, cboR kc1 3 (.int .i64 a_e1)] ∧ g_slices_IndexFunc_int_int_iarePositions1_L1 a_e1 rest5 k4 = some R) ⟨_, 0, _, rfl, eqA, rfl, entA, hF⟩ ?_)
  clear hF
  rintro m2 _ _ ⟨g3, k4, rest5, rfl, rfl, hd7, hE, hF⟩
  refine K_ent hE ?_
  clear hE
  refine K_pure (c := crd (RdS 3 rdInt) v0_0.v a_s) .h crd_bound (fun hbd12 => ?_)
  rcases rest5 with _ | ⟨x6, rest5⟩
  · have hk8 := List.drop_eq_nil_iff.1 hd7
    rw [g_slices_IndexFunc_int_int_iarePositions1_L1] at hF
    iterate 4 refine au ?_
    refine CdF ?_
    iterate 8 refine au ?_
    cases hF
    exact Er ()
  obtain ⟨hk8, hx9, hd10⟩ := drop_cons hd7
  rw [g_slices_IndexFunc_int_int_iarePositions1_L1] at hF
  iterate 4 refine au ?_
  refine CdT ?_
  iterate 10 refine au ?_
  refine Ai hx9 (fun k13 j14 => ?_)
  refine Al ls3_0 ?_
  obtain ⟨r15, hx16, hF⟩ := bind_some hF
  refine C_x0 (.rd (.t (.t .h)) rfl .nil) (X_callCS cf183.h (.tmp rfl rfl) (.cons (.tmp rfl rfl) .nil) (i_arePositions_1_ok x6 kc1 a_e1 _ hx16)) (fun _ => ?_)
  refine au ?_
  refine Cc (fun hb19 => ?_) (fun hb19 => ?_)
  · rw [if_pos hb19] at hF
    iterate 5 refine au ?_
    cases hF
    exact Er ()
  rw [if_neg (nt hb19)] at hF
  iterate 5 refine au ?_
  rw [wk k4]
  exact ⟨_, Nat.lt_succ_self _, _, k4 + 1, rest5, rfl, eqA, hd10, entA, hF⟩

/-! slices.ContainsFunc[[]int,int] -/
def g_slices_ContainsFunc_int_int_iarePositions1 (a_s : List Int) (a_e1 : Int) : Option (Bool) :=
  (g_slices_IndexFunc_int_int_iarePositions1 a_s a_e1).bind fun r1 =>
  some (decide ((0 : Int) ≤ r1))
theorem g_slices_ContainsFunc_int_int_iarePositions1_ok (a_s : List Int) (v0_0 : Sv) (kc1 : Nat) (a_e1 : Int) (R : Bool) (hF : g_slices_ContainsFunc_int_int_iarePositions1 a_s a_e1 = some R) :
    Fw.Spec Tryz.prog 152 [v0_0.v, (.func (.func 183) [].toArray [(.pointer (some ⟨kc1, 0, some 0⟩))].toArray)] [crd (RdS 3 rdInt) v0_0.v a_s, cboR kc1 3 (.int .i64 a_e1)] (fun _ : Unit => (.bool R)) (fun _ => []) := by
  refine Spec_enter (n := 9) Tryz.func152 rfl rfl (rs := [.tmp 4]) rfl rfl rfl ?_
  intro H0 F0
  unfold g_slices_ContainsFunc_int_int_iarePositions1 at hF
  iterate 6 refine au ?_
  obtain ⟨r1, hx2, hF⟩ := bind_some hF
  refine Cx0 (g_slices_IndexFunc_int_int_iarePositions1_ok _ _ _ _ _ hx2) (fun _ => ?_)
  iterate 4 refine au ?_
  cases hF
  exact Er ()

/-! impl.arePositions -/
def i_arePositions (a_l : List Int) (a_arity : Int) : Option (Bool) :=
  (g_slices_ContainsFunc_int_int_iarePositions1 a_l a_arity).bind fun r2 =>
  some (!r2)
theorem i_arePositions_ok (a_l : List Int) (v0_0 : Sv) (a_arity : Int) (R : Bool) (hF : i_arePositions a_l a_arity = some R) :
    Fw.Spec Tryz.prog 171 [v0_0.v, (.int .i64 a_arity)] [crd (RdS 3 rdInt) v0_0.v a_l] (fun _ : Unit => (.bool R)) (fun _ => []) := by
  refine Spec_enter (n := 9) Tryz.func171 rfl rfl (rs := [.tmp 4]) rfl rfl rfl ?_
  intro H0 F0
  unfold i_arePositions at hF
  refine au ?_
  refine AbR (fun k1 => ?_)
  iterate 4 refine au ?_
  refine C_val (V_makeFunc (fn := .func 183) (vs := []) (us := [(.pointer (some ⟨k1, 0, some 0⟩))]) .nil (.cons (.tmp rfl rfl) .nil)) ?_
  obtain ⟨r2, hx3, hF⟩ := bind_some hF
  refine Cx0 (g_slices_ContainsFunc_int_int_iarePositions1_ok _ _ _ _ _ hx3) (fun _ => ?_)
  iterate 4 refine au ?_
  cases hF
  exact Er ()

/-! impl.IsRule -/
def i_IsRule (a_s : List Int) (a_r : Rule) : Option (Bool) :=
  ((i_hasRel a_s a_r.From).bind fun r4 =>
    bif r4 then ((i_hasRel a_s a_r.To).bind fun r8 =>
      bif r8 then ((ix a_s a_r.To).bind fun x12 =>
        bif (((a_r.Map.length : Int) : Int) == x12) then ((ix a_s a_r.From).bind fun x19 =>
          (i_arePositions a_r.Map x19).bind fun r25 =>
          some r25)
        else (some false))
      else (some false))
    else (some false)).bind fun o2 =>
  match o2 with
  | c28 => some c28
theorem i_IsRule_ok (a_s : List Int) (v0_0 : Sv) (a_r : Rule) (v1_2 : Sv) (R : Bool) (hF : i_IsRule a_s a_r = some R) :
    Fw.Spec Tryz.prog 145 [v0_0.v, (.agg [(.int .i64 a_r.From), (.int .i64 a_r.To), v1_2.v].toArray)] [crd (RdS 3 rdInt) v0_0.v a_s, crd (RdS 3 rdInt) v1_2.v a_r.Map] (fun _ : Unit => (.bool R)) (fun _ => []) := by
  refine Spec_enter (n := 36) Tryz.func145 rfl rfl (rs := [.tmp 4]) rfl rfl rfl ?_
  intro H0 F0
  unfold i_IsRule at hF
  refine au ?_
  refine AbR (fun k1 => ?_)
  iterate 2 refine au ?_
  obtain ⟨o2, hio2, hO3⟩ := bind_some hF
  refine K_draw [0, 1, 2, 3, 4, 5, 6, 7, 8, 9, 10, 11, 12, 13, 14, 15, 16, 17, 18, 19, 20, 21, 22, 23, 24, 25, 26, 27, 28, 29, 30, 31] [0, 0, 2, 7, 15, 31, 31, 95, 255, 511, 1023, 2047, 4095, 8191, 2047, 2047, 34815, 116735, 247807, 524287, 1048575, 2097151, 4194303, 8388607, 4194303, 4194303, 37748735, 121634815, 255852543, 536870911, 1073741823, 2147483647] [3, 8, 29] mixed (by decide +kernel) ?_
  refine D_cut (fun f' cs' => ∃ (c28 : Bool) (g : Fr), c28 = o2 ∧ f' = updL g [(4, (.bool c28))] ∧ Ent cs' []) ?_ ?_
  · replace hF := hio2
    iterate 3 refine du ?_
    obtain ⟨r4, hx5, hF⟩ := bind_some hF
    refine Dx0 (i_hasRel_ok _ _ _ _ hx5) (fun _ => ?_)
    refine du ?_
    rcases Bool.eq_false_or_eq_true r4 with hg7 | hg7
    · rw [hg7]
      try rw [hg7] at hF; dsimp only [cond_true, cond_false] at hF
      iterate 3 refine du ?_
      obtain ⟨r8, hx9, hF⟩ := bind_some hF
      refine Dx0 (i_hasRel_ok _ _ _ _ hx9) (fun _ => ?_)
      iterate 2 refine du ?_
      rcases Bool.eq_false_or_eq_true r8 with hg11 | hg11
      · rw [hg11]
        try rw [hg11] at hF; dsimp only [cond_true, cond_false] at hF
        iterate 6 refine du ?_
        obtain ⟨x12, hx13, hF⟩ := bind_some hF
        obtain ⟨hp14, hx15⟩ := ix_some hx13
        refine Di hx15 (fun k16 j17 => ?_)
        refine Dl ls3_0 ?_
        iterate 3 refine du ?_
        rcases Bool.eq_false_or_eq_true (((a_r.Map.length : Int) : Int) == x12) with hg18 | hg18
        · rw [hg18]
          try rw [hg18] at hF; dsimp only [cond_true, cond_false] at hF
          iterate 5 refine du ?_
          obtain ⟨x19, hx20, hF⟩ := bind_some hF
          obtain ⟨hp21, hx22⟩ := ix_some hx20
          refine Di hx22 (fun k23 j24 => ?_)
          refine Dl ls3_0 ?_
          obtain ⟨r25, hx26, hF⟩ := bind_some hF
          refine Dx0 (i_arePositions_ok _ _ _ _ hx26) (fun _ => ?_)
          iterate 3 refine du ?_
          cases hF
          exact ⟨_, _, rfl, eqA, entA⟩
        rw [hg18]
        try rw [hg18] at hF; dsimp only [cond_true, cond_false] at hF
        iterate 11 refine du ?_
        cases hF
        exact ⟨_, _, rfl, eqA, entA⟩
      rw [hg11]
      try rw [hg11] at hF; dsimp only [cond_true, cond_false] at hF
      iterate 22 refine du ?_
      cases hF
      exact ⟨_, _, rfl, eqA, entA⟩
    rw [hg7]
    try rw [hg7] at hF; dsimp only [cond_true, cond_false] at hF
    iterate 28 refine du ?_
    cases hF
    exact ⟨_, _, rfl, eqA, entA⟩
  rintro _ _ ⟨c28, g29, rfl, rfl, hE⟩
  replace hF := hO3
  clear hO3
  try dsimp only at hF
  refine K_ent hE ?_
  refine au ?_
  cases hF
  exact Er ()

/-! impl.AreRules$1 -/
def i_AreRules_1 (a_r : Rule) (a_e1 : List Int) : Option (Bool) :=
  (i_IsRule a_e1 a_r).bind fun r2 =>
  some (!r2)
theorem i_AreRules_1_ok (a_r : Rule) (v0_2 : Sv) (kc1 : Nat) (a_e1 : List Int) (vc1_0 : Sv) (R : Bool) (hF : i_AreRules_1 a_r a_e1 = some R) :
    Fw.Spec Tryz.prog 144 [(.agg [(.int .i64 a_r.From), (.int .i64 a_r.To), v0_2.v].toArray), (.pointer (some ⟨kc1, 0, some 0⟩))] [crd (RdS 3 rdInt) v0_2.v a_r.Map, cboR kc1 22 vc1_0.v, crd (RdS 3 rdInt) vc1_0.v a_e1] (fun _ : Unit => (.bool R)) (fun _ => []) := by
  refine Spec_enter (n := 8) Tryz.func144 rfl rfl (rs := [.tmp 3]) rfl rfl rfl ?_
  intro H0 F0
  unfold i_AreRules_1 at hF
  refine au ?_
  refine AbR (fun k1 => ?_)
  iterate 5 refine au ?_
  obtain ⟨r2, hx3, hF⟩ := bind_some hF
  refine Cx0 (i_IsRule_ok _ _ _ _ _ hx3) (fun _ => ?_)
  iterate 4 refine au ?_
  cases hF
  exact Er ()

/-! impl.Rule] -/
def g_slices_IndexFunc_impl_Rule_impl_Rule_iAreRules1_L1 (a_e1 : List Int) : List Rule → Nat → Option (Int)
  | [], k4 => some (-1)
  | x6 :: rest5, k4 => (i_AreRules_1 x6 a_e1).bind fun r16 =>
    if r16 then (
      some (k4 : Int))
    else (
      g_slices_IndexFunc_impl_Rule_impl_Rule_iAreRules1_L1 a_e1 rest5 (k4 + 1))
def g_slices_IndexFunc_impl_Rule_impl_Rule_iAreRules1 (a_s : List Rule) (a_e1 : List Int) : Option (Int) :=
  g_slices_IndexFunc_impl_Rule_impl_Rule_iAreRules1_L1 a_e1 a_s 0
theorem g_slices_IndexFunc_impl_Rule_impl_Rule_iAreRules1_ok (a_s : List Rule) (v0_0 : Sv) (kc1 : Nat) (a_e1 : List Int) (vc1_0 : Sv) (R : Int) (hF : g_slices_IndexFunc_impl_Rule_impl_Rule_iAreRules1 a_s a_e1 = some R) :
    Fw.Spec Tryz.prog 170 [v0_0.v, (.func (.func 144) [].toArray [(.pointer (some ⟨kc1, 0, some 0⟩))].toArray)] [crd (RdS 116 rd116) v0_0.v a_s, cboR kc1 22 vc1_0.v, crd (RdS 3 rdInt) vc1_0.v a_e1] (fun _ : Unit => (.int .i64 R)) (fun _ => []) := by
  refine Spec_enter (n := 19) Tryz.func170 rfl rfl (rs := [.tmp 4]) rfl rfl rfl ?_
  intro H0 F0
  unfold g_slices_IndexFunc_impl_Rule_impl_Rule_iAreRules1 at hF
  iterate 9 refine au ?_
  refine CW_block (CW_loop (m := a_s.length) (fun m2 f' cs' => ∃ (g : Fr) (k4 : Nat) (rest5 : List Rule), m2 = rest5.length ∧ f' = updL g [(0, v0_0.v), (1, (.func (.func 144) [].toArray [(.pointer (some ⟨kc1, 0, some 0⟩))].toArray)), (7, (.int .i64 (a_s.length : Int))), (8, (.int .i64 (k4 : Int)))] ∧ List.drop k4 a_s = rest5 ∧ Ent cs' [crd (RdS 116 rd116) v0_0.v a_s, cboR kc1 22 vc1_0.v, crd (RdS 3 rdInt) vc1_0.v a_e1] ∧ g_slices_IndexFunc_impl_Rule_impl_Rule_iAreRules1_L1 a_e1 rest5 k4 = some R) ⟨_, 0, _, rfl, eqA, rfl, entA, hF⟩ ?_)
  clear hF
  rintro m2 _ _ ⟨g3, k4, rest5, rfl, rfl, hd7, hE, hF⟩
  refine K_ent hE ?_
  clear hE
  refine K_pure (c := crd (RdS 116 rd116) v0_0.v a_s) .h crd_bound (fun hbd12 => ?_)
  rcases rest5 with _ | ⟨x6, rest5⟩
  · have hk8 := List.drop_eq_nil_iff.1 hd7
    rw [g_slices_IndexFunc_impl_Rule_impl_Rule_iAreRules1_L1] at hF
    iterate 4 refine au ?_
    refine CdF ?_
    iterate 8 refine au ?_
    cases hF
    exact Er ()
  obtain ⟨hk8, hx9, hd10⟩ := drop_cons hd7
  rw [g_slices_IndexFunc_impl_Rule_impl_Rule_iAreRules1_L1] at hF
  iterate 4 refine au ?_
  refine CdT ?_
  iterate 10 refine au ?_
  refine Ai hx9 (fun k13 j14 => ?_)
  refine AlA1 (ul116_0_116 x6) la116_0_116 (fun p15 => ?_)
  obtain ⟨r16, hx17, hF⟩ := bind_some hF
  refine C_x0 (.rd .h rfl (.rd (.t (.t (.t .h))) rfl (.rd (.t (.t (.t (.t .h)))) rfl .nil))) (X_callCS cf144.h (.tmp rfl rfl) (.cons (.tmp rfl rfl) .nil) (i_AreRules_1_ok x6 p15 kc1 a_e1 vc1_0 _ hx17)) (fun _ => ?_)
  refine au ?_
  refine Cc (fun hb20 => ?_) (fun hb20 => ?_)
  · rw [if_pos hb20] at hF
    iterate 5 refine au ?_
    cases hF
    exact Er ()
  rw [if_neg (nt hb20)] at hF
  iterate 5 refine au ?_
  rw [wk k4]
  exact ⟨_, Nat.lt_succ_self _, _, k4 + 1, rest5, rfl, eqA, hd10, entA, hF⟩

/-! impl.Rule] -/
def g_slices_ContainsFunc_impl_Rule_impl_Rule_iAreRules1 (a_s : List Rule) (a_e1 : List Int) : Option (Bool) :=
  (g_slices_IndexFunc_impl_Rule_impl_Rule_iAreRules1 a_s a_e1).bind fun r1 =>
  some (decide ((0 : Int) ≤ r1))
theorem g_slices_ContainsFunc_impl_Rule_impl_Rule_iAreRules1_ok (a_s : List Rule) (v0_0 : Sv) (kc1 : Nat) (a_e1 : List Int) (vc1_0 : Sv) (R : Bool) (hF : g_slices_ContainsFunc_impl_Rule_impl_Rule_iAreRules1 a_s a_e1 = some R) :
    Fw.Spec Tryz.prog 143 [v0_0.v, (.func (.func 144) [].toArray [(.pointer (some ⟨kc1, 0, some 0⟩))].toArray)] [crd (RdS 116 rd116) v0_0.v a_s, cboR kc1 22 vc1_0.v, crd (RdS 3 rdInt) vc1_0.v a_e1] (fun _ : Unit => (.bool R)) (fun _ => []) := by
  refine Spec_enter (n := 9) Tryz.func143 rfl rfl (rs := [.tmp 4]) rfl rfl rfl ?_
  intro H0 F0
  unfold g_slices_ContainsFunc_impl_Rule_impl_Rule_iAreRules1 at hF
  iterate 6 refine au ?_
  obtain ⟨r1, hx2, hF⟩ := bind_some hF
  refine Cx0 (g_slices_IndexFunc_impl_Rule_impl_Rule_iAreRules1_ok _ _ _ _ _ _ hx2) (fun _ => ?_)
  iterate 4 refine au ?_
  cases hF
  exact Er ()

/-! impl.AreRules -/
def i_AreRules (a_s : List Int) (a_l : List Rule) : Option (Bool) :=
  ((i_IsSchema a_s).bind fun r4 =>
    bif r4 then (bif (decide (((a_l.length : Int) : Int) ≤ 4)) then ((g_slices_ContainsFunc_impl_Rule_impl_Rule_iAreRules1 a_l a_s).bind fun r9 =>
        some (!r9))
      else (some false))
    else (some false)).bind fun o2 =>
  match o2 with
  | c12 => some c12
theorem i_AreRules_ok (a_s : List Int) (v0_0 : Sv) (a_l : List Rule) (v1_0 : Sv) (R : Bool) (hF : i_AreRules a_s a_l = some R) :
    Fw.Spec Tryz.prog 98 [v0_0.v, v1_0.v] [crd (RdS 3 rdInt) v0_0.v a_s, crd (RdS 116 rd116) v1_0.v a_l] (fun _ : Unit => (.bool R)) (fun _ => []) := by
  refine Spec_enter (n := 18) Tryz.func98 rfl rfl (rs := [.tmp 4]) rfl rfl rfl ?_
  intro H0 F0
  unfold i_AreRules at hF
  refine au ?_
  refine AbR (fun k1 => ?_)
  iterate 2 refine au ?_
  obtain ⟨o2, hio2, hO3⟩ := bind_some hF
  refine au ?_
  refine C_cut (fun f' cs' => ∃ (c12 : Bool) (g : Fr), c12 = o2 ∧ f' = updL g [(4, (.bool c12))] ∧ Ent cs' []) ?_ ?_
  · replace hF := hio2
    refine au ?_
    obtain ⟨r4, hx5, hF⟩ := bind_some hF
    refine Cx0 (i_IsSchema_ok _ _ _ hx5) (fun _ => ?_)
    refine au ?_
    rcases Bool.eq_false_or_eq_true r4 with hg7 | hg7
    · rw [hg7]
      try rw [hg7] at hF; dsimp only [cond_true, cond_false] at hF
      iterate 8 refine au ?_
      rcases Bool.eq_false_or_eq_true (decide (((a_l.length : Int) : Int) ≤ 4)) with hg8 | hg8
      · rw [hg8]
        try rw [hg8] at hF; dsimp only [cond_true, cond_false] at hF
        iterate 3 refine au ?_
        refine C_val (V_makeFunc (fn := .func 144) (vs := []) (us := [(.pointer (some ⟨k1, 0, some 0⟩))]) .nil (.cons (.tmp rfl rfl) .nil)) ?_
        refine au ?_
        obtain ⟨r9, hx10, hF⟩ := bind_some hF
        refine Cx0 (g_slices_ContainsFunc_impl_Rule_impl_Rule_iAreRules1_ok _ _ _ _ _ _ hx10) (fun _ => ?_)
        iterate 5 refine au ?_
        cases hF
        exact ⟨_, _, rfl, eqA, entA⟩
      rw [hg8]
      try rw [hg8] at hF; dsimp only [cond_true, cond_false] at hF
      iterate 7 refine au ?_
      cases hF
      exact ⟨_, _, rfl, eqA, entA⟩
    rw [hg7]
    try rw [hg7] at hF; dsimp only [cond_true, cond_false] at hF
    iterate 12 refine au ?_
    cases hF
    exact ⟨_, _, rfl, eqA, entA⟩
  rintro _ _ ⟨c12, g13, rfl, rfl, hE⟩
  replace hF := hO3
  clear hO3
  try dsimp only at hF
  refine K_ent hE ?_
  refine au ?_
  cases hF
  exact Er ()

/-! impl.isValue -/
def i_isValue (a_n : Int) : Option (Bool) :=
  (i_within a_n 0 9).bind fun r1 =>
  some r1
theorem i_isValue_ok (a_n : Int) (R : Bool) (hF : i_isValue a_n = some R) :
    Fw.Spec Tryz.prog 174 [(.int .i64 a_n)] [] (fun _ : Unit => (.bool R)) (fun _ => []) := by
  refine Spec_enter (n := 5) Tryz.func174 rfl rfl (rs := [.tmp 2]) rfl rfl rfl ?_
  intro H0 F0
  unfold i_isValue at hF
  iterate 5 refine au ?_
  obtain ⟨r1, hx2, hF⟩ := bind_some hF
  refine Cx0 (i_within_ok _ _ _ _ hx2) (fun _ => ?_)
  iterate 3 refine au ?_
  cases hF
  exact Er ()

/-! impl.areValues$1 -/
def i_areValues_1 (a_n : Int) : Option (Bool) :=
  (i_isValue a_n).bind fun r1 =>
  some (!r1)
theorem i_areValues_1_ok (a_n : Int) (R : Bool) (hF : i_areValues_1 a_n = some R) :
    Fw.Spec Tryz.prog 173 [(.int .i64 a_n)] [] (fun _ : Unit => (.bool R)) (fun _ => []) := by
  refine Spec_enter (n := 6) Tryz.func173 rfl rfl (rs := [.tmp 2]) rfl rfl rfl ?_
  intro H0 F0
  unfold i_areValues_1 at hF
  iterate 5 refine au ?_
  obtain ⟨r1, hx2, hF⟩ := bind_some hF
  refine Cx0 (i_isValue_ok _ _ hx2) (fun _ => ?_)
  iterate 4 refine au ?_
  cases hF
  exact Er ()

/-! slices.IndexFunc[[]int,int] -/
def g_slices_IndexFunc_int_int_iareValues1_L1 : List Int → Nat → Option (Int)
  | [], k4 => some (-1)
  | x6 :: rest5, k4 => (i_areValues_1 x6).bind fun r15 =>
    if r15 then (
      some (k4 : Int))
    else (
      g_slices_IndexFunc_int_int_iareValues1_L1 rest5 (k4 + 1))
def g_slices_IndexFunc_int_int_iareValues1 (a_s : List Int) : Option (Int) :=
  g_slices_IndexFunc_int_int_iareValues1_L1 a_s 0
theorem g_slices_IndexFunc_int_int_iareValues1_ok (a_s : List Int) (v0_0 : Sv) (R : Int) (hF : g_slices_IndexFunc_int_int_iareValues1 a_s = some R) :
    Fw.Spec Tryz.prog 176 [v0_0.v, (.func (.func 173) [].toArray [].toArray)] [crd (RdS 3 rdInt) v0_0.v a_s] (fun _ : Unit => (.int .i64 R)) (fun _ => []) := by
  refine Spec_enter (n := 19) Tryz.func176 rfl rfl (rs := [.tmp 4]) rfl rfl rfl ?_
  intro H0 F0
  unfold g_slices_IndexFunc_int_int_iareValues1 at hF
  iterate 9 refine au ?_
  refine CW_block (CW_loop (m := a_s.length) (fun m2 f' cs' => ∃ (g : Fr) (k4 : Nat) (rest5 : List Int), m2 = rest5.length ∧ f' = updL g [(0, v0_0.v), (1, (.func (.func 173) [].toArray [].toArray)), (7, (.int .i64 (a_s.length : Int))), (8, (.int .i64 (k4 : Int)))] ∧ List.drop k4 a_s = rest5 ∧ Ent cs' [crd (RdS 3 rdInt) v0_0.v a_s] ∧ g_slices_IndexFunc_int_int_iareValues1_L1 rest5 k4 = some R) ⟨_, 0, _, rfl, eqA, rfl, entA, hF⟩ ?_)
  clear hF
  rintro m2 _ _ ⟨g3, k4, rest5, rfl, rfl, hd7, hE, hF⟩
  refine K_ent hE ?_
  clear hE
  refine K_pure (c := crd (RdS 3 rdInt) v0_0.v a_s) .h crd_bound (fun hbd12 => ?_)
  rcases rest5 with _ | ⟨x6, rest5⟩
  · have hk8 := List.drop_eq_nil_iff.1 hd7
    rw [g_slices_IndexFunc_int_int_iareValues1_L1] at hF
    iterate 4 refine au ?_
    refine CdF ?_
    iterate 8 refine au ?_
    cases hF
    exact Er ()
  obtain ⟨hk8, hx9, hd10⟩ := drop_cons hd7
  rw [g_slices_IndexFunc_int_int_iareValues1_L1] at hF
  iterate 4 refine au ?_
  refine CdT ?_
  iterate 10 refine au ?_
  refine Ai hx9 (fun k13 j14 => ?_)
  refine Al ls3_0 ?_
  obtain ⟨r15, hx16, hF⟩ := bind_some hF
  refine C_x0 .nil (X_callCS cf173.h (.tmp rfl rfl) (.cons (.tmp rfl rfl) .nil) (i_areValues_1_ok x6 _ hx16)) (fun _ => ?_)
  refine au ?_
  refine Cc (fun hb19 => ?_) (fun hb19 => ?_)
  · rw [if_pos hb19] at hF
    iterate 5 refine au ?_
    cases hF
    exact Er ()
  rw [if_neg (nt hb19)] at hF
  iterate 5 refine au ?_
  rw [wk k4]
  exact ⟨_, Nat.lt_succ_self _, _, k4 + 1, rest5, rfl, eqA, hd10, entA, hF⟩

/-! slices.ContainsFunc[[]int,int] -/
def g_slices_ContainsFunc_int_int_iareValues1 (a_s : List Int) : Option (Bool) :=
  (g_slices_IndexFunc_int_int_iareValues1 a_s).bind fun r1 =>
  some (decide ((0 : Int) ≤ r1))
theorem g_slices_ContainsFunc_int_int_iareValues1_ok (a_s : List Int) (v0_0 : Sv) (R : Bool) (hF : g_slices_ContainsFunc_int_int_iareValues1 a_s = some R) :
    Fw.Spec Tryz.prog 152 [v0_0.v, (.func (.func 173) [].toArray [].toArray)] [crd (RdS 3 rdInt) v0_0.v a_s] (fun _ : Unit => (.bool R)) (fun _ => []) := by
  refine Spec_enter (n := 9) Tryz.func152 rfl rfl (rs := [.tmp 4]) rfl rfl rfl ?_
  intro H0 F0
  unfold g_slices_ContainsFunc_int_int_iareValues1 at hF
  iterate 6 refine au ?_
  obtain ⟨r1, hx2, hF⟩ := bind_some hF
  refine Cx0 (g_slices_IndexFunc_int_int_iareValues1_ok _ _ _ hx2) (fun _ => ?_)
  iterate 4 refine au ?_
  cases hF
  exact Er ()

/-! impl.areValues -/
def i_areValues (a_l : List Int) : Option (Bool) :=
  (g_slices_ContainsFunc_int_int_iareValues1 a_l).bind fun r1 =>
  some (!r1)
theorem i_areValues_ok (a_l : List Int) (v0_0 : Sv) (R : Bool) (hF : i_areValues a_l = some R) :
    Fw.Spec Tryz.prog 150 [v0_0.v] [crd (RdS 3 rdInt) v0_0.v a_l] (fun _ : Unit => (.bool R)) (fun _ => []) := by
  refine Spec_enter (n := 6) Tryz.func150 rfl rfl (rs := [.tmp 2]) rfl rfl rfl ?_
  intro H0 F0
  unfold i_areValues at hF
  iterate 5 refine au ?_
  obtain ⟨r1, hx2, hF⟩ := bind_some hF
  refine Cx0 (g_slices_ContainsFunc_int_int_iareValues1_ok _ _ _ hx2) (fun _ => ?_)
  iterate 4 refine au ?_
  cases hF
  exact Er ()

/-! impl.IsFact -/
def i_IsFact (a_s : List Int) (a_f : Fact) : Option (Bool) :=
  ((i_hasRel a_s a_f.Rel).bind fun r4 =>
    bif r4 then ((ix a_s a_f.Rel).bind fun x8 =>
      bif (((a_f.Values.length : Int) : Int) == x8) then ((i_areValues a_f.Values).bind fun r15 =>
        some r15)
      else (some false))
    else (some false)).bind fun o2 =>
  match o2 with
  | c18 => some c18
theorem i_IsFact_ok (a_s : List Int) (v0_0 : Sv) (a_f : Fact) (v1_1 : Sv) (R : Bool) (hF : i_IsFact a_s a_f = some R) :
    Fw.Spec Tryz.prog 108 [v0_0.v, (.agg [(.int .i64 a_f.Rel), v1_1.v].toArray)] [crd (RdS 3 rdInt) v0_0.v a_s, crd (RdS 3 rdInt) v1_1.v a_f.Values] (fun _ : Unit => (.bool R)) (fun _ => []) := by
  refine Spec_enter (n := 25) Tryz.func108 rfl rfl (rs := [.tmp 4]) rfl rfl rfl ?_
  intro H0 F0
  unfold i_IsFact at hF
  refine au ?_
  refine AbR (fun k1 => ?_)
  iterate 2 refine au ?_
  obtain ⟨o2, hio2, hO3⟩ := bind_some hF
  refine K_draw [0, 1, 2, 3, 4, 5, 6, 7, 8, 9, 10, 11, 12, 13, 14, 15, 16, 17, 18, 19, 20] [0, 0, 2, 7, 15, 31, 63, 127, 31, 31, 543, 1823, 3871, 8191, 16383, 32767, 65535, 131071, 262143, 524287, 1048575] [3, 18] mixed (by decide +kernel) ?_
  refine D_cut (fun f' cs' => ∃ (c18 : Bool) (g : Fr), c18 = o2 ∧ f' = updL g [(4, (.bool c18))] ∧ Ent cs' []) ?_ ?_
  · replace hF := hio2
    iterate 3 refine du ?_
    obtain ⟨r4, hx5, hF⟩ := bind_some hF
    refine Dx0 (i_hasRel_ok _ _ _ _ hx5) (fun _ => ?_)
    refine du ?_
    rcases Bool.eq_false_or_eq_true r4 with hg7 | hg7
    · rw [hg7]
      try rw [hg7] at hF; dsimp only [cond_true, cond_false] at hF
      iterate 6 refine du ?_
      obtain ⟨x8, hx9, hF⟩ := bind_some hF
      obtain ⟨hp10, hx11⟩ := ix_some hx9
      refine Di hx11 (fun k12 j13 => ?_)
      refine Dl ls3_0 ?_
      iterate 3 refine du ?_
      rcases Bool.eq_false_or_eq_true (((a_f.Values.length : Int) : Int) == x8) with hg14 | hg14
      · rw [hg14]
        try rw [hg14] at hF; dsimp only [cond_true, cond_false] at hF
        iterate 2 refine du ?_
        obtain ⟨r15, hx16, hF⟩ := bind_some hF
        refine Dx0 (i_areValues_ok _ _ _ hx16) (fun _ => ?_)
        iterate 3 refine du ?_
        cases hF
        exact ⟨_, _, rfl, eqA, entA⟩
      rw [hg14]
      try rw [hg14] at hF; dsimp only [cond_true, cond_false] at hF
      iterate 6 refine du ?_
      cases hF
      exact ⟨_, _, rfl, eqA, entA⟩
    rw [hg7]
    try rw [hg7] at hF; dsimp only [cond_true, cond_false] at hF
    iterate 17 refine du ?_
    cases hF
    exact ⟨_, _, rfl, eqA, entA⟩
  rintro _ _ ⟨c18, g19, rfl, rfl, hE⟩
  replace hF := hO3
  clear hO3
  try dsimp only at hF
  refine K_ent hE ?_
  refine au ?_
  cases hF
  exact Er ()

/-! cmp.isNaN[int] -/
def g_cmp_isNaN_int (a_x : Int) : Option (Bool) :=
  some ((a_x : Int) != a_x)
theorem g_cmp_isNaN_int_ok (a_x : Int) (R : Bool) (hF : g_cmp_isNaN_int a_x = some R) :
    Fw.Spec Tryz.prog 179 [(.int .i64 a_x)] [] (fun _ : Unit => (.bool R)) (fun _ => []) := by
  refine Spec_enter (n := 6) Tryz.func179 rfl rfl (rs := [.tmp 2]) rfl rfl rfl ?_
  intro H0 F0
  unfold g_cmp_isNaN_int at hF
  iterate 10 refine au ?_
  cases hF
  exact Er ()

/-! cmp.Compare[int] -/
def g_cmp_Compare_int (a_x : Int) (a_y : Int) : Option (Int) :=
  (g_cmp_isNaN_int a_x).bind fun r1 =>
  (g_cmp_isNaN_int a_y).bind fun r4 =>
  if r1 then (
    if r4 then (
      some 0)
    else (
      some (-1)))
  else (
    if r4 then (
      some 1)
    else (
      if (decide ((a_x : Int) < a_y)) then (
        some (-1))
      else (
        if (decide ((a_y : Int) < a_x)) then (
          some 1)
        else (
          some 0))))
theorem g_cmp_Compare_int_ok (a_x : Int) (a_y : Int) (R : Int) (hF : g_cmp_Compare_int a_x a_y = some R) :
    Fw.Spec Tryz.prog 162 [(.int .i64 a_x), (.int .i64 a_y)] [] (fun _ : Unit => (.int .i64 R)) (fun _ => []) := by
  refine Spec_enter (n := 20) Tryz.func162 rfl rfl (rs := [.tmp 4]) rfl rfl rfl ?_
  intro H0 F0
  unfold g_cmp_Compare_int at hF
  iterate 5 refine au ?_
  obtain ⟨r1, hx2, hF⟩ := bind_some hF
  refine Cx0 (g_cmp_isNaN_int_ok _ _ hx2) (fun _ => ?_)
  iterate 4 refine au ?_
  obtain ⟨r4, hx5, hF⟩ := bind_some hF
  refine Cx0 (g_cmp_isNaN_int_ok _ _ hx5) (fun _ => ?_)
  iterate 6 refine au ?_
  refine Cc (fun hb11 => ?_) (fun hb11 => ?_)
  · rw [if_pos hb11] at hF
    iterate 4 refine au ?_
    refine Cc (fun hb7 => ?_) (fun hb7 => ?_)
    · rw [if_pos hb7] at hF
      iterate 4 refine au ?_
      cases hF
      exact Er ()
    rw [if_neg (nt hb7)] at hF
    iterate 5 refine au ?_
    cases hF
    exact Er ()
  rw [if_neg (nt hb11)] at hF
  iterate 5 refine au ?_
  refine Cc (fun hb10 => ?_) (fun hb10 => ?_)
  · rw [if_pos hb10] at hF
    iterate 4 refine au ?_
    cases hF
    exact Er ()
  rw [if_neg (nt hb10)] at hF
  iterate 7 refine au ?_
  refine Cc (fun hb9 => ?_) (fun hb9 => ?_)
  · rw [if_pos hb9] at hF
    iterate 4 refine au ?_
    cases hF
    exact Er ()
  rw [if_neg (nt hb9)] at hF
  iterate 7 refine au ?_
  refine Cc (fun hb8 => ?_) (fun hb8 => ?_)
  · rw [if_pos hb8] at hF
    iterate 4 refine au ?_
    cases hF
    exact Er ()
  rw [if_neg (nt hb8)] at hF
  iterate 5 refine au ?_
  cases hF
  exact Er ()

/-! slices.Compare[[]int,int] -/
def g_slices_Compare_int_int_L1 (a_s1 : List Int) (a_s2 : List Int) : List Int → Nat → Option (Int)
  | [], k4 => if (decide (((a_s1.length : Int) : Int) < (a_s2.length : Int))) then (
      some (-1))
    else (
      some 0)
  | x6 :: rest5, k4 => if (decide (((a_s2.length : Int) : Int) ≤ (k4 : Int))) then (
      some 1)
    else (
      (ix a_s2 (k4 : Int)).bind fun x16 =>
      (g_cmp_Compare_int x6 x16).bind fun r22 =>
      if ((r22 : Int) != 0) then (
        some r22)
      else (
        g_slices_Compare_int_int_L1 a_s1 a_s2 rest5 (k4 + 1)))
def g_slices_Compare_int_int (a_s1 : List Int) (a_s2 : List Int) : Option (Int) :=
  g_slices_Compare_int_int_L1 a_s1 a_s2 a_s1 0
theorem g_slices_Compare_int_int_ok (a_s1 : List Int) (v0_0 : Sv) (a_s2 : List Int) (v1_0 : Sv) (R : Int) (hF : g_slices_Compare_int_int a_s1 a_s2 = some R) :
    Fw.Spec Tryz.prog 163 [v0_0.v, v1_0.v] [crd (RdS 3 rdInt) v0_0.v a_s1, crd (RdS 3 rdInt) v1_0.v a_s2] (fun _ : Unit => (.int .i64 R)) (fun _ => []) := by
  refine Spec_enter (n := 36) Tryz.func163 rfl rfl (rs := [.tmp 4]) rfl rfl rfl ?_
  intro H0 F0
  unfold g_slices_Compare_int_int at hF
  iterate 9 refine au ?_
  refine CW_block (CW_loop (m := a_s1.length) (fun m2 f' cs' => ∃ (g : Fr) (k4 : Nat) (rest5 : List Int), m2 = rest5.length ∧ f' = updL g [(0, v0_0.v), (1, v1_0.v), (9, v0_0.v), (10, (.int .i64 (a_s1.length : Int))), (11, (.int .i64 (k4 : Int)))] ∧ List.drop k4 a_s1 = rest5 ∧ Ent cs' [crd (RdS 3 rdInt) v0_0.v a_s1, crd (RdS 3 rdInt) v1_0.v a_s2] ∧ g_slices_Compare_int_int_L1 a_s1 a_s2 rest5 k4 = some R) ⟨_, 0, _, rfl, eqA, rfl, entA, hF⟩ ?_)
  clear hF
  rintro m2 _ _ ⟨g3, k4, rest5, rfl, rfl, hd7, hE, hF⟩
  refine K_ent hE ?_
  clear hE
  refine K_pure (c := crd (RdS 3 rdInt) v0_0.v a_s1) .h crd_bound (fun hbd12 => ?_)
  rcases rest5 with _ | ⟨x6, rest5⟩
  · have hk8 := List.drop_eq_nil_iff.1 hd7
    rw [g_slices_Compare_int_int_L1] at hF
    iterate 4 refine au ?_
    refine CdF ?_
    iterate 12 refine au ?_
    refine Cc (fun hb13 => ?_) (fun hb13 => ?_)
    · rw [if_pos hb13] at hF
      iterate 4 refine au ?_
      cases hF
      exact Er ()
    rw [if_neg (nt hb13)] at hF
    iterate 5 refine au ?_
    cases hF
    exact Er ()
  obtain ⟨hk8, hx9, hd10⟩ := drop_cons hd7
  rw [g_slices_Compare_int_int_L1] at hF
  iterate 4 refine au ?_
  refine CdT ?_
  iterate 4 refine au ?_
  refine Ai hx9 (fun k14 j15 => ?_)
  refine Al ls3_0 ?_
  iterate 10 refine au ?_
  refine Cc (fun hb27 => ?_) (fun hb27 => ?_)
  · rw [if_pos hb27] at hF
    iterate 4 refine au ?_
    cases hF
    exact Er ()
  rw [if_neg (nt hb27)] at hF
  iterate 4 refine au ?_
  obtain ⟨x16, hx17, hF⟩ := bind_some hF
  obtain ⟨hp18, hx19⟩ := ix_some hx17
  refine Ai hx19 (fun k20 j21 => ?_)
  refine Al ls3_0 ?_
  iterate 5 refine au ?_
  obtain ⟨r22, hx23, hF⟩ := bind_some hF
  refine Cx0 (g_cmp_Compare_int_ok _ _ _ hx23) (fun _ => ?_)
  iterate 6 refine au ?_
  refine Cc (fun hb26 => ?_) (fun hb26 => ?_)
  · rw [if_pos hb26] at hF
    iterate 5 refine au ?_
    cases hF
    exact Er ()
  rw [if_neg (nt hb26)] at hF
  iterate 5 refine au ?_
  rw [wk k4]
  exact ⟨_, Nat.lt_succ_self _, _, k4 + 1, rest5, rfl, eqA, hd10, entA, hF⟩

/-! cmp.Or[int] -/
def g_cmp_Or_int_L1 : List Int → Nat → Option (Int)
  | [], k4 => some 0
  | x6 :: rest5, k4 => if ((x6 : Int) != 0) then (
      some x6)
    else (
      g_cmp_Or_int_L1 rest5 (k4 + 1))
def g_cmp_Or_int (a_vals : List Int) : Option (Int) :=
  g_cmp_Or_int_L1 a_vals 0
theorem g_cmp_Or_int_ok (a_vals : List Int) (v0_0 : Sv) (R : Int) (hF : g_cmp_Or_int a_vals = some R) :
    Fw.Spec Tryz.prog 161 [v0_0.v] [crd (RdS 3 rdInt) v0_0.v a_vals] (fun _ : Unit => (.int .i64 R)) (fun _ => []) := by
  refine Spec_enter (n := 18) Tryz.func161 rfl rfl (rs := [.tmp 2]) rfl rfl rfl ?_
  intro H0 F0
  unfold g_cmp_Or_int at hF
  iterate 12 refine au ?_
  refine CW_block (CW_loop (m := a_vals.length) (fun m2 f' cs' => ∃ (g : Fr) (k4 : Nat) (rest5 : List Int), m2 = rest5.length ∧ f' = updL g [(3, (.int .i64 0)), (6, v0_0.v), (7, (.int .i64 (a_vals.length : Int))), (8, (.int .i64 (k4 : Int)))] ∧ List.drop k4 a_vals = rest5 ∧ Ent cs' [crd (RdS 3 rdInt) v0_0.v a_vals] ∧ g_cmp_Or_int_L1 rest5 k4 = some R) ⟨_, 0, _, rfl, eqA, rfl, entA, hF⟩ ?_)
  clear hF
  rintro m2 _ _ ⟨g3, k4, rest5, rfl, rfl, hd7, hE, hF⟩
  refine K_ent hE ?_
  clear hE
  refine K_pure (c := crd (RdS 3 rdInt) v0_0.v a_vals) .h crd_bound (fun hbd12 => ?_)
  rcases rest5 with _ | ⟨x6, rest5⟩
  · have hk8 := List.drop_eq_nil_iff.1 hd7
    rw [g_cmp_Or_int_L1] at hF
    iterate 4 refine au ?_
    refine CdF ?_
    iterate 9 refine au ?_
    cases hF
    exact Er ()
  obtain ⟨hk8, hx9, hd10⟩ := drop_cons hd7
  rw [g_cmp_Or_int_L1] at hF
  iterate 4 refine au ?_
  refine CdT ?_
  iterate 3 refine au ?_
  refine Ai hx9 (fun k13 j14 => ?_)
  refine Al ls3_0 ?_
  iterate 7 refine au ?_
  refine Cc (fun hb16 => ?_) (fun hb16 => ?_)
  · rw [if_pos hb16] at hF
    iterate 5 refine au ?_
    cases hF
    exact Er ()
  rw [if_neg (nt hb16)] at hF
  iterate 5 refine au ?_
  rw [wk k4]
  exact ⟨_, Nat.lt_succ_self _, _, k4 + 1, rest5, rfl, eqA, hd10, entA, hF⟩

/-! impl.CompareFacts -/
def i_CompareFacts (a_a : Fact) (a_b : Fact) : Option (Int) :=
  (g_cmp_Compare_int a_a.Rel a_b.Rel).bind fun r3 =>
  (g_slices_Compare_int_int a_a.Values a_b.Values).bind fun r6 =>
  (g_cmp_Or_int ([r3, r6] : List Int)).bind fun r10 =>
  some r10
theorem i_CompareFacts_ok (a_a : Fact) (v0_1 : Sv) (a_b : Fact) (v1_1 : Sv) (R : Int) (hF : i_CompareFacts a_a a_b = some R) :
    Fw.Spec Tryz.prog 112 [(.agg [(.int .i64 a_a.Rel), v0_1.v].toArray), (.agg [(.int .i64 a_b.Rel), v1_1.v].toArray)] [crd (RdS 3 rdInt) v0_1.v a_a.Values, crd (RdS 3 rdInt) v1_1.v a_b.Values] (fun _ : Unit => (.int .i64 R)) (fun _ => []) := by
  refine Spec_enter (n := 17) Tryz.func112 rfl rfl (rs := [.tmp 4]) rfl rfl rfl ?_
  intro H0 F0
  unfold i_CompareFacts at hF
  refine au ?_
  refine AbR (fun k1 => ?_)
  refine AbR (fun k2 => ?_)
  iterate 2 refine au ?_
  refine K_draw [0, 1, 2, 3, 5, 6, 7, 8, 4, 9, 10, 11, 12] [0, 1, 0, 4, 15, 0, 32, 0, 128, 511, 1023, 2047, 4095] [4, 9, 11] mixed (by decide +kernel) ?_
  iterate 8 refine du ?_
  obtain ⟨r3, hx4, hF⟩ := bind_some hF
  refine Dx0 (g_cmp_Compare_int_ok _ _ _ hx4) (fun _ => ?_)
  obtain ⟨r6, hx7, hF⟩ := bind_some hF
  refine Dx0 (g_slices_Compare_int_int_ok _ _ _ _ _ hx7) (fun _ => ?_)
  refine D_new rfl .no rfl (fun ha => N_buildSliceT (g := true) (len := 2) (parts := [(0, .tmp 9), (1, .tmp 14)]) sl22.h ty3.h (.cons (EN ha (.tmp rfl rfl) rfl) (.cons (EN ha (.tmp rfl rfl) rfl) .nil)) (vs := [(.int .i64 r3), (.int .i64 r6)]) rfl rfl rfl (by intro v hv; simp at hv; rcases hv with rfl | rfl <;> rfl)) (fun k9 => ?_)
  refine Dv1 (.cons .h .nil) (own_lit (Ro := (roE rdInt)) (E := 3) (F := ([] ++ ([] ++ []))) (xs := ([r3, r6] : List Int)) (MkL_cons (Mk_pure (fun _ => rfl)) (MkL_cons (Mk_pure (fun _ => rfl)) MkL_nil apps) apps) rfl rfl) ?_
  obtain ⟨r10, hx11, hF⟩ := bind_some hF
  refine D_act1 rfl rfl .no (.cons .h .nil) (.dep rfl .nil) (fun ha => XC_borL (pre := []) (.cons frz_own .nil) (fun _ => .nil) (X_callS cf161.h (.cons (EN ha (.tmp rfl rfl) rfl) .nil) (g_cmp_Or_int_ok ([r3, r6] : List Int) (⟨(some ⟨k9, 0, none⟩), 2, 1⟩) _ hx11))) (fun _ => ?_)
  iterate 2 refine du ?_
  refine au ?_
  cases hF
  exact Er ()

/-! impl.AreFacts -/
def i_AreFacts_L1 (a_s : List Int) (a_l : List Fact) : List Fact → Nat → Option (Bool)
  | [], k4 => ((i_IsSchema a_s).bind fun r15 =>
      bif r15 then (some (decide (((a_l.length : Int) : Int) ≤ 24)))
      else (some false)).bind fun o13 =>
    match o13 with
    | c19 => some c19
  | x6 :: rest5, k4 => ((i_IsFact a_s x6).bind fun r27 =>
      bif (!r27) then (some true)
      else (bif (decide ((0 : Int) < (k4 : Int))) then ((ix a_l (IntKind.i64.wrap ((k4 : Int) - 1))).bind fun x32 =>
          (i_CompareFacts x32 x6).bind fun r39 =>
          some (decide ((0 : Int) ≤ r39)))
        else (some false))).bind fun o25 =>
    match o25 with
    | c42 => if c42 then (
        some false)
      else (
        i_AreFacts_L1 a_s a_l rest5 (k4 + 1))
def i_AreFacts (a_s : List Int) (a_l : List Fact) : Option (Bool) :=
  i_AreFacts_L1 a_s a_l a_l 0
theorem i_AreFacts_ok (a_s : List Int) (v0_0 : Sv) (a_l : List Fact) (v1_0 : Sv) (R : Bool) (hF : i_AreFacts a_s a_l = some R) :
    Fw.Spec Tryz.prog 146 [v0_0.v, v1_0.v] [crd (RdS 3 rdInt) v0_0.v a_s, crd (RdS 55 rd55) v1_0.v a_l] (fun _ : Unit => (.bool R)) (fun _ => []) := by
  refine Spec_enter (n := 40) Tryz.func146 rfl rfl (rs := [.tmp 4]) rfl rfl rfl ?_
  intro H0 F0
  unfold i_AreFacts at hF
  iterate 9 refine au ?_
  refine CW_block (CW_loop (m := a_l.length) (fun m2 f' cs' => ∃ (g : Fr) (k4 : Nat) (rest5 : List Fact), m2 = rest5.length ∧ f' = updL g [(0, v0_0.v), (1, v1_0.v), (7, v1_0.v), (8, (.int .i64 (a_l.length : Int))), (9, (.int .i64 (k4 : Int)))] ∧ List.drop k4 a_l = rest5 ∧ Ent cs' [crd (RdS 3 rdInt) v0_0.v a_s, crd (RdS 55 rd55) v1_0.v a_l] ∧ i_AreFacts_L1 a_s a_l rest5 k4 = some R) ⟨_, 0, _, rfl, eqA, rfl, entA, hF⟩ ?_)
  clear hF
  rintro m2 _ _ ⟨g3, k4, rest5, rfl, rfl, hd7, hE, hF⟩
  refine K_ent hE ?_
  clear hE
  refine K_pure (c := crd (RdS 55 rd55) v1_0.v a_l) (.t .h) crd_bound (fun hbd12 => ?_)
  rcases rest5 with _ | ⟨x6, rest5⟩
  · have hk8 := List.drop_eq_nil_iff.1 hd7
    rw [i_AreFacts_L1] at hF
    iterate 4 refine au ?_
    refine CdF ?_
    iterate 4 refine au ?_
    obtain ⟨o13, hio13, hO14⟩ := bind_some hF
    refine au ?_
    refine C_cut (fun f' cs' => ∃ (c19 : Bool) (g : Fr), c19 = o13 ∧ f' = updL g [(4, (.bool c19))] ∧ Ent cs' []) ?_ ?_
    · replace hF := hio13
      refine au ?_
      obtain ⟨r15, hx16, hF⟩ := bind_some hF
      refine Cx0 (i_IsSchema_ok _ _ _ hx16) (fun _ => ?_)
      refine au ?_
      rcases Bool.eq_false_or_eq_true r15 with hg18 | hg18
      · rw [hg18]
        try rw [hg18] at hF; dsimp only [cond_true, cond_false] at hF
        iterate 9 refine au ?_
        cases hF
        exact ⟨_, _, rfl, eqA, entA⟩
      rw [hg18]
      try rw [hg18] at hF; dsimp only [cond_true, cond_false] at hF
      iterate 6 refine au ?_
      cases hF
      exact ⟨_, _, rfl, eqA, entA⟩
    rintro _ _ ⟨c19, g20, rfl, rfl, hE⟩
    replace hF := hO14
    clear hO14
    try dsimp only at hF
    refine K_ent hE ?_
    refine au ?_
    cases hF
    exact Er ()
  obtain ⟨hk8, hx9, hd10⟩ := drop_cons hd7
  rw [i_AreFacts_L1] at hF
  iterate 4 refine au ?_
  refine CdT ?_
  iterate 4 refine au ?_
  refine Ai hx9 (fun k21 j22 => ?_)
  refine AlA1 (ul55_0_55 x6) la55_0_55 (fun p23 => ?_)
  refine AnW (fun k24 => ?_)
  refine au ?_
  refine As (.agg [(.int .i64 x6.Rel), p23.v].toArray) ?_
  refine au ?_
  obtain ⟨o25, hio25, hO26⟩ := bind_some hF
  refine K_draw [0, 1, 2, 3, 4, 5, 6, 7, 8, 9, 10, 11, 12, 13, 14, 15, 16, 17] [0, 0, 3, 7, 15, 31, 63, 127, 255, 255, 767, 2047, 4095, 255, 16383, 32767, 65535, 131071] [2, 14] mixed (by decide +kernel) ?_
  refine D_cut (fun f' cs' => ∃ (c42 : Bool) (g : Fr), c42 = o25 ∧ f' = updL g [(0, v0_0.v), (1, v1_0.v), (7, v1_0.v), (8, (.int .i64 (a_l.length : Int))), (9, (.int .i64 (k4 : Int))), (31, (.bool c42))] ∧ Ent cs' [crd (RdS 3 rdInt) v0_0.v a_s, crd (RdS 55 rd55) v1_0.v a_l]) ?_ ?_
  · replace hF := hio25
    refine du ?_
    refine D_atO rfl .no .h (fun ha hp => V_loadBox ag55.h ty55.h.sz rfl (EN ha (.tmp rfl rfl) rfl) hp.2 rfl) ?_
    obtain ⟨r27, hx28, hF⟩ := bind_some hF
    refine Dx0 (i_IsFact_ok _ _ _ _ _ hx28) (fun _ => ?_)
    iterate 2 refine du ?_
    rcases Bool.eq_false_or_eq_true (!r27) with hg30 | hg30
    · rw [hg30]
      try rw [hg30] at hF; dsimp only [cond_true, cond_false] at hF
      iterate 14 refine du ?_
      cases hF
      exact ⟨_, _, rfl, eqA, entA⟩
    rw [hg30]
    try rw [hg30] at hF; dsimp only [cond_true, cond_false] at hF
    iterate 3 refine du ?_
    rcases Bool.eq_false_or_eq_true (decide ((0 : Int) < (k4 : Int))) with hg31 | hg31
    · rw [hg31]
      try rw [hg31] at hF; dsimp only [cond_true, cond_false] at hF
      iterate 3 refine du ?_
      obtain ⟨x32, hx33, hF⟩ := bind_some hF
      obtain ⟨hp34, hx35⟩ := ix_some hx33
      refine Di hx35 (fun k36 j37 => ?_)
      refine DlA1 (ul55_0_55 x32) la55_0_55 (fun p38 => ?_)
      refine D_atO rfl (.on 21 rfl rfl rfl) (.t (.t .h)) (fun ha hp => V_loadBox ag55.h ty55.h.sz rfl (EN ha (.tmp rfl rfl) rfl) hp.2 rfl) ?_
      obtain ⟨r39, hx40, hF⟩ := bind_some hF
      refine Dx0 (i_CompareFacts_ok _ _ _ _ _ hx40) (fun _ => ?_)
      iterate 4 refine du ?_
      cases hF
      exact ⟨_, _, rfl, eqA, entA⟩
    rw [hg31]
    try rw [hg31] at hF; dsimp only [cond_true, cond_false] at hF
    iterate 11 refine du ?_
    cases hF
    exact ⟨_, _, rfl, eqA, entA⟩
  rintro _ _ ⟨c42, g45, rfl, rfl, hE⟩
  replace hF := hO26
  clear hO26
  try dsimp only at hF
  refine K_ent hE ?_
  refine Cc (fun hb44 => ?_) (fun hb44 => ?_)
  · rw [if_pos hb44] at hF
    iterate 4 refine au ?_
    cases hF
    exact Er ()
  rw [if_neg (nt hb44)] at hF
  iterate 5 refine au ?_
  rw [wk k4]
  exact ⟨_, Nat.lt_succ_self _, _, k4 + 1, rest5, rfl, eqA, hd10, entA, hF⟩

/-! impl.IsSource -/
def i_IsSource (a_s : List Int) (a_x : Source) : Option (Bool) :=
  ((i_AreFacts a_s a_x.Facts).bind fun r4 =>
    bif r4 then ((i_within a_x.Version 0 1000).bind fun r8 =>
      some r8)
    else (some false)).bind fun o2 =>
  match o2 with
  | c11 => some c11
theorem i_IsSource_ok (a_s : List Int) (v0_0 : Sv) (a_x : Source) (v1_0 : Sv) (R : Bool) (hF : i_IsSource a_s a_x = some R) :
    Fw.Spec Tryz.prog 99 [v0_0.v, (.agg [v1_0.v, (.int .i64 a_x.Version)].toArray)] [crd (RdS 3 rdInt) v0_0.v a_s, crd (RdS 55 rd55) v1_0.v a_x.Facts] (fun _ : Unit => (.bool R)) (fun _ => []) := by
  refine Spec_enter (n := 14) Tryz.func99 rfl rfl (rs := [.tmp 4]) rfl rfl rfl ?_
  intro H0 F0
  unfold i_IsSource at hF
  refine au ?_
  refine AbR (fun k1 => ?_)
  iterate 2 refine au ?_
  obtain ⟨o2, hio2, hO3⟩ := bind_some hF
  refine au ?_
  refine C_cut (fun f' cs' => ∃ (c11 : Bool) (g : Fr), c11 = o2 ∧ f' = updL g [(4, (.bool c11))] ∧ Ent cs' []) ?_ ?_
  · replace hF := hio2
    iterate 3 refine au ?_
    obtain ⟨r4, hx5, hF⟩ := bind_some hF
    refine Cx0 (i_AreFacts_ok _ _ _ _ _ hx5) (fun _ => ?_)
    refine au ?_
    rcases Bool.eq_false_or_eq_true r4 with hg7 | hg7
    · rw [hg7]
      try rw [hg7] at hF; dsimp only [cond_true, cond_false] at hF
      iterate 5 refine au ?_
      obtain ⟨r8, hx9, hF⟩ := bind_some hF
      refine Cx0 (i_within_ok _ _ _ _ hx9) (fun _ => ?_)
      iterate 3 refine au ?_
      cases hF
      exact ⟨_, _, rfl, eqA, entA⟩
    rw [hg7]
    try rw [hg7] at hF; dsimp only [cond_true, cond_false] at hF
    iterate 6 refine au ?_
    cases hF
    exact ⟨_, _, rfl, eqA, entA⟩
  rintro _ _ ⟨c11, g12, rfl, rfl, hE⟩
  replace hF := hO3
  clear hO3
  try dsimp only at hF
  refine K_ent hE ?_
  refine au ?_
  cases hF
  exact Er ()

/-! impl.IsAccess -/
def i_IsAccess (a_s : List Int) (a_l : List Method) (a_a : Access) : Option (Bool) :=
  ((i_AreMethods a_s a_l).bind fun r4 =>
    bif r4 then ((i_within a_a.Method 0 (IntKind.i64.wrap ((a_l.length : Int) - 1))).bind fun r8 =>
      bif r8 then ((ix a_l a_a.Method).bind fun x12 =>
        bif (((a_a.Values.length : Int) : Int) == (x12.Inputs.length : Int)) then ((i_areValues a_a.Values).bind fun r20 =>
          some r20)
        else (some false))
      else (some false))
    else (some false)).bind fun o2 =>
  match o2 with
  | c23 => some c23
theorem i_IsAccess_ok (a_s : List Int) (v0_0 : Sv) (a_l : List Method) (v1_0 : Sv) (a_a : Access) (v2_1 : Sv) (R : Bool) (hF : i_IsAccess a_s a_l a_a = some R) :
    Fw.Spec Tryz.prog 104 [v0_0.v, v1_0.v, (.agg [(.int .i64 a_a.Method), v2_1.v].toArray)] [crd (RdS 3 rdInt) v0_0.v a_s, crd (RdS 114 rd114) v1_0.v a_l, crd (RdS 3 rdInt) v2_1.v a_a.Values] (fun _ : Unit => (.bool R)) (fun _ => []) := by
  refine Spec_enter (n := 36) Tryz.func104 rfl rfl (rs := [.tmp 6]) rfl rfl rfl ?_
  intro H0 F0
  unfold i_IsAccess at hF
  refine au ?_
  refine AbR (fun k1 => ?_)
  iterate 2 refine au ?_
  obtain ⟨o2, hio2, hO3⟩ := bind_some hF
  refine K_draw [0, 1, 2, 3, 4, 5, 6, 7, 8, 9, 10, 11, 12, 13, 14, 15, 16, 17, 18, 19, 20, 21, 22, 23, 24, 25, 26, 27, 28, 29] [0, 0, 3, 7, 15, 31, 15, 79, 207, 511, 1023, 2047, 4095, 8191, 16383, 4095, 4095, 69631, 233471, 495615, 1019903, 2068479, 4194303, 8388607, 16777215, 33554431, 67108863, 134217727, 268435455, 536870911] [2, 9, 27] mixed (by decide +kernel) ?_
  refine D_cut (fun f' cs' => ∃ (c23 : Bool) (g : Fr), c23 = o2 ∧ f' = updL g [(6, (.bool c23))] ∧ Ent cs' []) ?_ ?_
  · replace hF := hio2
    iterate 2 refine du ?_
    obtain ⟨r4, hx5, hF⟩ := bind_some hF
    refine Dx0 (i_AreMethods_ok _ _ _ _ _ hx5) (fun _ => ?_)
    refine du ?_
    rcases Bool.eq_false_or_eq_true r4 with hg7 | hg7
    · rw [hg7]
      try rw [hg7] at hF; dsimp only [cond_true, cond_false] at hF
      iterate 5 refine du ?_
      obtain ⟨r8, hx9, hF⟩ := bind_some hF
      refine Dx0 (i_within_ok _ _ _ _ hx9) (fun _ => ?_)
      iterate 2 refine du ?_
      rcases Bool.eq_false_or_eq_true r8 with hg11 | hg11
      · rw [hg11]
        try rw [hg11] at hF; dsimp only [cond_true, cond_false] at hF
        iterate 6 refine du ?_
        obtain ⟨x12, hx13, hF⟩ := bind_some hF
        obtain ⟨hp14, hx15⟩ := ix_some hx13
        refine Di hx15 (fun k16 j17 => ?_)
        refine du ?_
        refine D_ldV (R' := (RdS 3 rdInt)) ag22.h rfl (.on 18 rfl rfl rfl) (.tmp rfl rfl) rfl .h lv114_1 (fun w18 => ?_)
        iterate 4 refine du ?_
        rcases Bool.eq_false_or_eq_true (((a_a.Values.length : Int) : Int) == (x12.Inputs.length : Int)) with hg19 | hg19
        · rw [hg19]
          try rw [hg19] at hF; dsimp only [cond_true, cond_false] at hF
          iterate 2 refine du ?_
          obtain ⟨r20, hx21, hF⟩ := bind_some hF
          refine Dx0 (i_areValues_ok _ _ _ hx21) (fun _ => ?_)
          iterate 3 refine du ?_
          cases hF
          exact ⟨_, _, rfl, eqA, entA⟩
        rw [hg19]
        try rw [hg19] at hF; dsimp only [cond_true, cond_false] at hF
        iterate 6 refine du ?_
        cases hF
        exact ⟨_, _, rfl, eqA, entA⟩
      rw [hg11]
      try rw [hg11] at hF; dsimp only [cond_true, cond_false] at hF
      iterate 19 refine du ?_
      cases hF
      exact ⟨_, _, rfl, eqA, entA⟩
    rw [hg7]
    try rw [hg7] at hF; dsimp only [cond_true, cond_false] at hF
    iterate 27 refine du ?_
    cases hF
    exact ⟨_, _, rfl, eqA, entA⟩
  rintro _ _ ⟨c23, g24, rfl, rfl, hE⟩
  replace hF := hO3
  clear hO3
  try dsimp only at hF
  refine K_ent hE ?_
  refine au ?_
  cases hF
  exact Er ()

/-! impl.matches$1 -/
def i_matches_1_L1 (a_f : Fact) (a_e2 : Access) : List Int → Nat → Option (Bool)
  | [], k5 => some false
  | x7 :: rest6, k5 => (ix a_f.Values x7).bind fun x16 =>
    (ix a_e2.Values (k5 : Int)).bind fun x22 =>
    if ((x16 : Int) != x22) then (
      some true)
    else (
      i_matches_1_L1 a_f a_e2 rest6 (k5 + 1))
def i_matches_1 (a_f : Fact) (a_e1 : Method) (a_e2 : Access) : Option (Bool) :=
  if ((a_f.Rel : Int) != a_e1.Rel) then (
    some true)
  else (
    i_matches_1_L1 a_f a_e2 a_e1.Inputs 0)
theorem i_matches_1_ok (a_f : Fact) (v0_1 : Sv) (kc1 : Nat) (a_e1 : Method) (vc1_1 : Sv) (kc2 : Nat) (a_e2 : Access) (vc2_1 : Sv) (R : Bool) (hF : i_matches_1 a_f a_e1 a_e2 = some R) :
    Fw.Spec Tryz.prog 184 [(.agg [(.int .i64 a_f.Rel), v0_1.v].toArray), (.pointer (some ⟨kc1, 0, some 0⟩)), (.pointer (some ⟨kc2, 0, some 0⟩))] [crd (RdS 3 rdInt) v0_1.v a_f.Values, cboR kc1 114 (.agg [(.int .i64 a_e1.Rel), vc1_1.v, (.int .i64 a_e1.Limit), (.int .i64 a_e1.Cost), (.int .i64 a_e1.Quota)].toArray), crd (RdS 3 rdInt) vc1_1.v a_e1.Inputs, cboR kc2 124 (.agg [(.int .i64 a_e2.Method), vc2_1.v].toArray), crd (RdS 3 rdInt) vc2_1.v a_e2.Values] (fun _ : Unit => (.bool R)) (fun _ => []) := by
  refine Spec_enter (n := 32) Tryz.func184 rfl rfl (rs := [.tmp 4]) rfl rfl rfl ?_
  intro H0 F0
  unfold i_matches_1 at hF
  refine au ?_
  refine AbR (fun k1 => ?_)
  iterate 10 refine au ?_
  refine Cc (fun hb30 => ?_) (fun hb30 => ?_)
  · rw [if_pos hb30] at hF
    iterate 4 refine au ?_
    cases hF
    exact Er ()
  rw [if_neg (nt hb30)] at hF
  iterate 8 refine au ?_
  refine CW_block (CW_loop (m := a_e1.Inputs.length) (fun m3 f' cs' => ∃ (g : Fr) (k5 : Nat) (rest6 : List Int), m3 = rest6.length ∧ f' = updL g [(2, (.pointer (some ⟨kc2, 0, some 0⟩))), (3, (.pointer (some ⟨k1, 0, some 0⟩))), (13, vc1_1.v), (14, (.int .i64 (a_e1.Inputs.length : Int))), (15, (.int .i64 (k5 : Int)))] ∧ List.drop k5 a_e1.Inputs = rest6 ∧ Ent cs' [cboR kc2 124 (.agg [(.int .i64 a_e2.Method), vc2_1.v].toArray), crd (RdS 3 rdInt) vc2_1.v a_e2.Values, cboR k1 55 (.agg [(.int .i64 a_f.Rel), v0_1.v].toArray), crd (RdS 3 rdInt) v0_1.v a_f.Values, crd (RdS 3 rdInt) vc1_1.v a_e1.Inputs] ∧ i_matches_1_L1 a_f a_e2 rest6 k5 = some R) ⟨_, 0, _, rfl, eqA, rfl, entA, hF⟩ ?_)
  clear hF
  rintro m3 _ _ ⟨g4, k5, rest6, rfl, rfl, hd8, hE, hF⟩
  refine K_ent hE ?_
  clear hE
  refine K_pure (c := crd (RdS 3 rdInt) vc1_1.v a_e1.Inputs) (.t (.t (.t (.t .h)))) crd_bound (fun hbd13 => ?_)
  rcases rest6 with _ | ⟨x7, rest6⟩
  · have hk9 := List.drop_eq_nil_iff.1 hd8
    rw [i_matches_1_L1] at hF
    iterate 4 refine au ?_
    refine CdF ?_
    iterate 8 refine au ?_
    cases hF
    exact Er ()
  obtain ⟨hk9, hx10, hd11⟩ := drop_cons hd8
  rw [i_matches_1_L1] at hF
  iterate 4 refine au ?_
  refine CdT ?_
  iterate 4 refine au ?_
  refine Ai hx10 (fun k14 j15 => ?_)
  refine Al ls3_0 ?_
  iterate 3 refine au ?_
  refine K_draw [0, 1, 2, 3, 4, 5, 6, 7, 8, 9, 10] [0, 1, 0, 7, 15, 0, 32, 0, 224, 480, 1023] [] mixed (by decide +kernel) ?_
  iterate 3 refine du ?_
  obtain ⟨x16, hx17, hF⟩ := bind_some hF
  obtain ⟨hp18, hx19⟩ := ix_some hx17
  refine Di hx19 (fun k20 j21 => ?_)
  refine Dl ls3_0 ?_
  iterate 3 refine du ?_
  obtain ⟨x22, hx23, hF⟩ := bind_some hF
  obtain ⟨hp24, hx25⟩ := ix_some hx23
  refine Di hx25 (fun k26 j27 => ?_)
  refine Dl ls3_0 ?_
  iterate 2 refine du ?_
  refine Cc (fun hb29 => ?_) (fun hb29 => ?_)
  · rw [if_pos hb29] at hF
    iterate 4 refine au ?_
    cases hF
    exact Er ()
  rw [if_neg (nt hb29)] at hF
  iterate 5 refine au ?_
  rw [wk k5]
  exact ⟨_, Nat.lt_succ_self _, _, k5 + 1, rest6, rfl, eqA, hd11, entA, hF⟩

/-! impl.Fact] -/
def g_slices_IndexFunc_impl_Fact_impl_Fact_imatches1_L1 (a_e1 : Method) (a_e2 : Access) : List Fact → Nat → Option (Int)
  | [], k4 => some (-1)
  | x6 :: rest5, k4 => (i_matches_1 x6 a_e1 a_e2).bind fun r16 =>
    if r16 then (
      some (k4 : Int))
    else (
      g_slices_IndexFunc_impl_Fact_impl_Fact_imatches1_L1 a_e1 a_e2 rest5 (k4 + 1))
def g_slices_IndexFunc_impl_Fact_impl_Fact_imatches1 (a_s : List Fact) (a_e1 : Method) (a_e2 : Access) : Option (Int) :=
  g_slices_IndexFunc_impl_Fact_impl_Fact_imatches1_L1 a_e1 a_e2 a_s 0
theorem g_slices_IndexFunc_impl_Fact_impl_Fact_imatches1_ok (a_s : List Fact) (v0_0 : Sv) (kc1 : Nat) (a_e1 : Method) (vc1_1 : Sv) (kc2 : Nat) (a_e2 : Access) (vc2_1 : Sv) (R : Int) (hF : g_slices_IndexFunc_impl_Fact_impl_Fact_imatches1 a_s a_e1 a_e2 = some R) :
    Fw.Spec Tryz.prog 157 [v0_0.v, (.func (.func 184) [].toArray [(.pointer (some ⟨kc1, 0, some 0⟩)), (.pointer (some ⟨kc2, 0, some 0⟩))].toArray)] [crd (RdS 55 rd55) v0_0.v a_s, cboR kc1 114 (.agg [(.int .i64 a_e1.Rel), vc1_1.v, (.int .i64 a_e1.Limit), (.int .i64 a_e1.Cost), (.int .i64 a_e1.Quota)].toArray), crd (RdS 3 rdInt) vc1_1.v a_e1.Inputs, cboR kc2 124 (.agg [(.int .i64 a_e2.Method), vc2_1.v].toArray), crd (RdS 3 rdInt) vc2_1.v a_e2.Values] (fun _ : Unit => (.int .i64 R)) (fun _ => []) := by
  refine Spec_enter (n := 19) Tryz.func157 rfl rfl (rs := [.tmp 4]) rfl rfl rfl ?_
  intro H0 F0
  unfold g_slices_IndexFunc_impl_Fact_impl_Fact_imatches1 at hF
  refine K_region (C_val (V_assign (v := (.int .i64 0)) (.int _ _)) ?_)
  refine C_nil (K_in (K_region (Cm v0_0.v rfl rfl ?_)))
  refine C_at .h (fun hp => V_lenR (l := a_s.length) sl43.h (.tmp rfl rfl) (crd_len hp)) ?_
  refine C_val (V_move (v := (.int .i64 0)) (.int _ _)) ?_
  refine C_nil (CW_block (CW_loop (m := a_s.length) (fun m2 f' cs' => ∃ (g : Fr) (k4 : Nat) (rest5 : List Fact), m2 = rest5.length ∧ f' = updL g [(0, v0_0.v), (1, (.func (.func 184) [].toArray [(.pointer (some ⟨kc1, 0, some 0⟩)), (.pointer (some ⟨kc2, 0, some 0⟩))].toArray)), (7, (.int .i64 (a_s.length : Int))), (8, (.int .i64 (k4 : Int)))] ∧ List.drop k4 a_s = rest5 ∧ Ent cs' [crd (RdS 55 rd55) v0_0.v a_s, cboR kc1 114 (.agg [(.int .i64 a_e1.Rel), vc1_1.v, (.int .i64 a_e1.Limit), (.int .i64 a_e1.Cost), (.int .i64 a_e1.Quota)].toArray), crd (RdS 3 rdInt) vc1_1.v a_e1.Inputs, cboR kc2 124 (.agg [(.int .i64 a_e2.Method), vc2_1.v].toArray), crd (RdS 3 rdInt) vc2_1.v a_e2.Values] ∧ g_slices_IndexFunc_impl_Fact_impl_Fact_imatches1_L1 a_e1 a_e2 rest5 k4 = some R) ⟨_, 0, _, rfl, (EqL.cons rfl (EqL.cons rfl (EqL.cons rfl (EqL.cons rfl (EqL.nil))))).eq, rfl, (.sel (.rd .h rfl (.rd (.t .h) rfl (.rd (.t (.t .h)) rfl (.rd (.t (.t (.t .h))) rfl (.rd (.t (.t (.t (.t .h)))) rfl .nil)))))), hF⟩ ?_))
  clear hF
  rintro m2 _ _ ⟨g3, k4, rest5, rfl, rfl, hd7, hE, hF⟩
  refine K_ent hE ?_
  clear hE
  refine K_pure (c := crd (RdS 55 rd55) v0_0.v a_s) .h crd_bound (fun hbd12 => ?_)
  rcases rest5 with _ | ⟨x6, rest5⟩
  · have hk8 := List.drop_eq_nil_iff.1 hd7
    have hfe11 : (decide (((k4 : Int) : Int) < (a_s.length : Int))) = false := decide_eq_false (by omega)
    rw [g_slices_IndexFunc_impl_Fact_impl_Fact_imatches1_L1] at hF
    refine K_region (C_val (V_lss (i := (k4 : Int)) (j := (a_s.length : Int)) (.tmp rfl rfl) (.tmp rfl rfl)) ?_)
    refine C_nil (K_in (CW_cond (b := (decide (((k4 : Int) : Int) < (a_s.length : Int)))) (.tmp rfl rfl) (fun hb => absurd (hfe11.symm.trans hb) (by decide)) (fun _ => ?_)))
    refine CW_exit ?_
    iterate 2 refine CThen_exit ?_
    refine CIn_self (K_region (C_val (V_assign (v := (.int .i64 (-1))) (.int _ _)) ?_))
    refine C_nil (CW_ret ?_)
    obtain rfl := Option.some.inj hF
    exact End_ret () (.tmp rfl rfl .nil) rfl (.sel .nil)
  obtain ⟨hk8, hx9, hd10⟩ := drop_cons hd7
  have hfe11 : (decide (((k4 : Int) : Int) < (a_s.length : Int))) = true := decide_eq_true (by omega)
  rw [g_slices_IndexFunc_impl_Fact_impl_Fact_imatches1_L1] at hF
  refine K_region (C_val (V_lss (i := (k4 : Int)) (j := (a_s.length : Int)) (.tmp rfl rfl) (.tmp rfl rfl)) ?_)
  refine C_nil (K_in (CW_cond (b := (decide (((k4 : Int) : Int) < (a_s.length : Int)))) (.tmp rfl rfl) (fun _ => ?_) (fun hb => absurd (hfe11.symm.trans hb) (by decide))))
  refine CW_skip (K_block (K_region (Cm (.int .i64 (k4 : Int)) rfl rfl ?_)))
  refine Ca (.int .i64 (k4 : Int)) rfl rfl ?_
  refine C_nil (K_region (Cm (.func (.func 184) [].toArray [(.pointer (some ⟨kc1, 0, some 0⟩)), (.pointer (some ⟨kc2, 0, some 0⟩))].toArray) rfl rfl ?_))
  refine Cm v0_0.v rfl rfl ?_
  refine Cm (.int .i64 (k4 : Int)) rfl rfl ?_
  refine C_idx (a := x6) sl43.h ty55.h.sz (.tmp rfl rfl) (.tmp rfl rfl) .h (Int.natCast_nonneg k4) hx9 (fun k13 j14 => ?_)
  refine C_ldA1 (ul55_0_55 x6) ag55.h ty55.h.sz rfl (.tmp rfl rfl) .h la55_0_55 (fun p15 => ?_)
  obtain ⟨r16, hx17, hF⟩ := bind_some hF
  refine C_x0 (.rd .h rfl (.rd (.t (.t (.t .h))) rfl (.rd (.t (.t (.t (.t .h)))) rfl (.rd (.t (.t (.t (.t (.t .h))))) rfl (.rd (.t (.t (.t (.t (.t (.t .h)))))) rfl .nil))))) (X_callCS cf184.h (.tmp rfl rfl) (.cons (.tmp rfl rfl) .nil) (i_matches_1_ok x6 p15 kc1 a_e1 vc1_1 kc2 a_e2 vc2_1 _ hx17)) (fun _ => ?_)
  refine C_nil (CW_cond (b := r16) (.tmp rfl rfl) (fun hb20 => ?_) (fun hb20 => ?_))
  · rw [if_pos hb20] at hF
    refine K_region (Cm (.int .i64 (k4 : Int)) rfl rfl ?_)
    refine Ca (.int .i64 (k4 : Int)) rfl rfl ?_
    refine C_nil (CW_ret ?_)
    obtain rfl := Option.some.inj hF
    exact End_ret () (.tmp rfl rfl .nil) rfl (.sel .nil)
  rw [if_neg (by rw [hb20]; exact Bool.false_ne_true)] at hF
  refine CW_skip (CW_region (C_val (V_add (i := (k4 : Int)) (j := 1) (.tmp rfl rfl) (.int _ _)) ?_))
  refine Cm (.int .i64 (IntKind.i64.wrap ((k4 : Int) + 1))) rfl rfl ?_
  refine C_nil ?_
  have hw19 : IntKind.i64.wrap ((k4 : Int) + 1) = ((k4 + 1 : Nat) : Int) := by rw [wrap_in (by omega) (by omega)]; rfl
  rw [hw19]
  exact ⟨_, Nat.lt_succ_self _, _, k4 + 1, rest5, rfl, (EqL.cons rfl (EqL.cons rfl (EqL.cons rfl (EqL.cons rfl (EqL.nil))))).eq, hd10, (.sel (.rd (.t (.t .h)) rfl (.rd (.t (.t (.t .h))) rfl (.rd (.t (.t (.t (.t .h)))) rfl (.rd (.t (.t (.t (.t (.t .h))))) rfl (.rd (.t (.t (.t (.t (.t (.t .h)))))) rfl .nil)))))), hF⟩

end Go.Proofs.YtelpifelhmfdmaaGreat
