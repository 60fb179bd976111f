/-
  FnExactViewDigest: the plain law and the row: for all arguments.
-/
import Derived.Test.YtfkhlplpbhadhaaDoorViewDigestG0
import Derived.Test.YtfkhlplpbhadhaaDoorFcViewDigest
import Derived.Test.YtfkhlplpbhadhaaDoorRows
import Derived.Test.YtfkhlplpbhadhaaDoorTie
import Derived.Test.YtfkhlplpbhadhaaDoorCards
import Derived.LaidMore
import Derived.OpenShut
import Derived.Stop.Joined
import Derived.Stop.LaidErr
import Derived.SevenTiedAt
import Derived.Lib.LaidTab
import Derived.WalkKit
import Derived.KernelRfl
/-
  Plain laws of the helpers. Written by a program.
-/
set_option maxRecDepth 100000
set_option maxHeartbeats 4000000
set_option linter.unusedVariables false
namespace Go.Proofs.YtfkhlplpbhadhaaDoor
open Go Go.Fw
theorem sz_IntS : Sz l_szIntS (fun a : List Int => a.length) (wfSl wfInt) := sz_flat (fun _ _ => rfl)
def tot_Access (a : Access) : Nat := a.Values.length
theorem sz_Access : Sz l_szAccess tot_Access wf33 := by
  intro a ⟨w_Method, w_Values⟩ left hl hm
  unfold l_szAccess
  have ht : tot_Access a = a.Values.length := rfl
  obtain ⟨n1, e1, h1⟩ := sz_IntS a.Values w_Values _ hl hm
  rw [e1, Option.bind_some]
  try dsimp only at h1
  rcases h1 with ⟨rfl, p1⟩ | p1
  rotate_left
  · rw [if_pos (by simpa using p1)]; exact ⟨-1, rfl, .inr (by omega)⟩
  rw [if_neg (by simp only [decide_eq_true_eq]; omega)]
  exact ⟨_, rfl, .inl ⟨by rw [ht] <;> omega, p1⟩⟩
theorem sz_AccessS : Sz l_szAccessS (totL tot_Access) (wfSl wf33) := sz_slice sz_Access (fun _ _ => rfl) (fun _ _ _ _ => rfl) (fun _ _ => rfl)
theorem to_IntS : ∀ (a : List Int), (bdL bdAny) a → l_toIntS a = some a :=
  to_slice (fun _ => rfl) (fun _ _ => rfl) (fun x r k c hx hk => by
    rw [l_toIntS_L1]
    simp [chk, hk])
def bd_Access (a : Access) : Prop := (bdL bdAny) a.Values
theorem to_Access (a : Access) (h : bd_Access a) : l_toAccess a = some a := by
  have b_a_Values : (bdL bdAny) a.Values := h
  simp (disch := assumption) only [l_toAccess, to_IntS, Option.bind_some]
theorem to_AccessS : ∀ (a : List Access), (bdL bd_Access) a → l_toAccessS a = some a :=
  to_slice (fun _ => rfl) (fun _ _ => rfl) (fun x r k c hx hk => by
    rw [l_toAccessS_L1]
    rw [to_Access _ hx]
    simp [chk, hk])
theorem eq_IntS : ∀ (a : List Int), l_eqIntS a a = some true :=
  eq_slice (fun _ _ => rfl) (fun _ _ => rfl) (fun b x r k h => by
    rw [l_eqIntS_L1, ix_nat, h]
    simp)
theorem eq_Access (a : Access) : l_eqAccess a a = some true := by simp [l_eqAccess, eq_IntS]
theorem eq_AccessS : ∀ (a : List Access), l_eqAccessS a a = some true :=
  eq_slice (fun _ _ => rfl) (fun _ _ => rfl) (fun b x r k h => by
    rw [l_eqAccessS_L1, ix_nat, h]
    simp [eq_Access])
end Go.Proofs.YtfkhlplpbhadhaaDoor

/-
  Plain laws.
-/
set_option maxRecDepth 100000
set_option linter.unusedVariables false
namespace Go.Proofs.YtfkhlplpbhadhaaDoor
open Go Go.Fw

theorem bd_AccessS (a : List Access) (h : totL tot_Access a < 4294967296) : bdL bd_Access a := bdL_of (f := tot_Access) (fun x hx => bdL_flat _ hx) _ h
theorem s_l1In_eq (x lo hi : Int) : s_l1In x lo hi = some (pIn lo hi x) := rfl
theorem i_within_eq (x lo hi : Int) : i_within x lo hi = some (pIn lo hi x) := rfl
theorem g_slices_ContainsFunc_int_int_iareValues1_eq (l : List Int) : g_slices_ContainsFunc_int_int_iareValues1 l = some (l.any fun x => !pIn 0 9 x) := by
  unfold g_slices_ContainsFunc_int_int_iareValues1 g_slices_IndexFunc_int_int_iareValues1
  rw [index_loop (L := g_slices_IndexFunc_int_int_iareValues1_L1) (f := fun x => i_areValues_1 x) (p := fun x => !pIn 0 9 x) (fun k => rfl) (fun x r k => rfl) l 0 (fun x hx => rfl), Option.bind_some, ixF_neg]
theorem i_areValues_eq (l : List Int) : i_areValues l = some (l.all (pIn 0 9)) := by
  simp only [i_areValues, g_slices_ContainsFunc_int_int_iareValues1_eq, Option.bind_some, List.all_eq_not_any_not]
def pDig (n : Int) : List UInt8 := [UInt8.ofNat (48 + n.toNat)]
theorem s_FormatInt_eq (n : Int) (h : 0 ≤ n ∧ n ≤ 9) : s_FormatInt 2 n = some (pDig n) := by
  obtain ⟨h0, h1⟩ := h
  have : n = 0 ∨ n = 1 ∨ n = 2 ∨ n = 3 ∨ n = 4 ∨ n = 5 ∨ n = 6 ∨ n = 7 ∨ n = 8 ∨ n = 9 := by omega
  rcases this with rfl | rfl | rfl | rfl | rfl | rfl | rfl | rfl | rfl | rfl <;> decide
theorem itoa_dig (n : Int) (h : 0 ≤ n ∧ n ≤ 9) : Lib.itoa n = pDig n := by
  unfold Lib.itoa pDig
  rw [if_neg (by omega), Lib.decDigits, dif_pos (by omega)]
theorem i_FormatInt_eq (n : Int) (h : 0 ≤ n ∧ n ≤ 9) : i_FormatInt n = some (pDig n) := by
  rw [i_FormatInt, g_strconv_Itoa, if_pos (by omega), itoa_dig n h]; rfl
theorem join_cons2 (x y : List UInt8) (l : List (List UInt8)) (sep : List UInt8) : Lib.join (x :: y :: l) sep = x ++ (sep ++ Lib.join (y :: l) sep) := by
  simp [Lib.join, List.intercalate, List.intersperse]
theorem join_one (x : List UInt8) (sep : List UInt8) : Lib.join [x] sep = x := by
  simp [Lib.join, List.intercalate, List.intersperse]
def pTail (sep : List UInt8) (l : List (List UInt8)) : List UInt8 := l.flatMap fun x => sep ++ x
theorem join_tail (x : List UInt8) (sep : List UInt8) : ∀ l : List (List UInt8), Lib.join (x :: l) sep = x ++ pTail sep l
  | [] => by rw [join_one]; simp [pTail]
  | y :: l => by rw [join_cons2, join_tail y sep l]; simp [pTail]
theorem pTail_len (sep : List UInt8) (n : Nat) : ∀ l : List (List UInt8), (∀ x ∈ l, x.length ≤ n) → (pTail sep l).length ≤ (sep.length + n) * l.length
  | [], _ => by simp [pTail]
  | x :: l, h => by
    have h1 := pTail_len sep n l fun y hy => h y (by simp [hy])
    have h2 := h x (by simp)
    simp only [pTail, List.flatMap_cons, List.length_append, List.length_cons, Nat.mul_succ] at *
    omega
theorem s_l2List_L1_eq : ∀ (l : List Int) (k : Nat) (c : List UInt8), 0 < k → (∀ x ∈ l, 0 ≤ x ∧ x ≤ 9) → c.length + 2 * l.length < 4294967296 → s_l2List_L1 2 l k c = some (c ++ pTail [44] (l.map pDig))
  | [], k, c, _, _, _ => by simp [s_l2List_L1, pTail]
  | x :: l, k, c, hk, h, hl => by
    simp only [List.length_cons] at hl
    have e1 : cat c [44] = some (c ++ [44]) := by unfold cat; rw [if_pos (by simp; omega)]
    have e2 : cat (c ++ [44]) (pDig x) = some (c ++ [44] ++ pDig x) := by unfold cat; rw [if_pos (by simp [pDig]; omega)]
    unfold s_l2List_L1
    rw [if_pos (by simpa using hk), e1, Option.bind_some, s_FormatInt_eq x (h x (by simp)), Option.bind_some, e2, Option.bind_some, Option.bind_some]
    dsimp only
    rw [s_l2List_L1_eq l _ _ (by omega) (fun y hy => h y (by simp [hy])) (by simp [pDig]; omega)]
    simp [pTail]
theorem s_l2List_eq (l : List Int) (h : ∀ x ∈ l, 0 ≤ x ∧ x ≤ 9) (hl : l.length ≤ 3) : s_l2List 2 l = some (Lib.join (l.map pDig) [44]) := by
  unfold s_l2List
  cases l with
  | nil => rfl
  | cons x l =>
    simp only [List.length_cons] at hl
    have e2 : cat [] (pDig x) = some (pDig x) := by unfold cat; rw [if_pos (by simp [pDig])]; rfl
    unfold s_l2List_L1
    rw [if_neg (by simp), s_FormatInt_eq x (h x (by simp)), Option.bind_some, e2, Option.bind_some, Option.bind_some]
    dsimp only
    rw [s_l2List_L1_eq l _ _ (by omega) (fun y hy => h y (by simp [hy])) (by simp [pDig]; omega), List.map_cons, join_tail]
theorem i_joined_L1_eq : ∀ (l : List Int) (k : Nat) (c : List (List UInt8)), (∀ x ∈ l, 0 ≤ x ∧ x ≤ 9) → c.length + l.length ≤ 3 → (∀ x ∈ c, x.length ≤ 1) → i_joined_L1 [44] l k c = some (Lib.join (c ++ l.map pDig) [44])
  | [], k, c, _, hl, hc => by
    have hj : (Lib.join c [44]).length ≤ 10 := by
      cases c with
      | nil => simp [Lib.join, List.intercalate]
      | cons x c =>
        rw [join_tail, List.length_append]
        have h1 := pTail_len [44] 1 c fun y hy => hc y (by simp [hy])
        have h2 := hc x (by simp)
        simp only [List.length_cons, List.length_nil] at h1 hl
        omega
    simp only [List.length_nil, Nat.add_zero] at hl
    unfold i_joined_L1
    rw [g_strings_Join, if_pos ⟨by omega, by omega⟩]
    simp
  | x :: l, k, c, h, hl, hc => by
    simp only [List.length_cons] at hl
    unfold i_joined_L1
    rw [i_FormatInt_eq x (h x (by simp)), Option.bind_some, app_ok (by simp; omega), Option.bind_some, i_joined_L1_eq l _ _ (fun y hy => h y (by simp [hy])) (by simp; omega) (fun y hy => by
      rcases List.mem_append.1 hy with hy | hy
      · exact hc y hy
      · rw [List.mem_singleton.1 hy]; simp [pDig])]
    simp
theorem i_joined_eq (l : List Int) (h : ∀ x ∈ l, 0 ≤ x ∧ x ≤ 9) (hl : l.length ≤ 3) : i_joined l [44] = some (Lib.join (l.map pDig) [44]) := by
  rw [i_joined, i_joined_L1_eq l 0 [] h (by simpa using hl) (by simp)]; rfl
def pAccOK (a : Access) : Bool := pIn 0 4 a.Method && (!decide ((3 : Int) < (a.Values.length : Int)) && a.Values.all (pIn 0 9))
def pFmtA (a : Access) : List UInt8 := if pAccOK a then [109] ++ pDig a.Method ++ [40] ++ Lib.join (a.Values.map pDig) [44] ++ [41] else []
theorem join_digs (l : List Int) (hl : l.length ≤ 3) : (Lib.join (l.map pDig) [44]).length ≤ 7 := by
  cases l with
  | nil => simp [Lib.join, List.intercalate]
  | cons x l =>
    rw [List.map_cons, join_tail, List.length_append]
    have h1 := pTail_len [44] 1 (l.map pDig) fun y hy => by
      obtain ⟨z, -, rfl⟩ := List.mem_map.1 hy
      simp [pDig]
    simp only [List.length_cons, List.length_nil, List.length_map] at h1 hl
    have : (pDig x).length = 1 := rfl
    omega
theorem pAccOK_vals {a : Access} (h : pAccOK a = true) : (0 ≤ a.Method ∧ a.Method ≤ 4) ∧ a.Values.length ≤ 3 ∧ ∀ x ∈ a.Values, 0 ≤ x ∧ x ≤ 9 := by
  simp only [pAccOK, Bool.and_eq_true, Bool.not_eq_true', decide_eq_false_iff_not, List.all_eq_true, pIn, decide_eq_true_eq] at h
  exact ⟨h.1, by omega, h.2.2⟩
theorem pFmtA_cats {m v : List UInt8} (hm : m.length ≤ 1) (hv : v.length ≤ 7) : (((cat [109] m).bind fun x => (cat x [40]).bind fun y => (cat y v).bind fun z => cat z [41]) : Option (List UInt8)) = some ([109] ++ m ++ [40] ++ v ++ [41]) := by
  have e1 : cat [109] m = some ([109] ++ m) := by unfold cat; rw [if_pos (by simp; omega)]
  have e2 : cat ([109] ++ m) [40] = some ([109] ++ m ++ [40]) := by unfold cat; rw [if_pos (by simp; omega)]
  have e3 : cat ([109] ++ m ++ [40]) v = some ([109] ++ m ++ [40] ++ v) := by unfold cat; rw [if_pos (by simp; omega)]
  have e4 : cat ([109] ++ m ++ [40] ++ v) [41] = some ([109] ++ m ++ [40] ++ v ++ [41]) := by unfold cat; rw [if_pos (by simp; omega)]
  rw [e1, Option.bind_some, e2, Option.bind_some, e3, Option.bind_some, e4]
theorem s_FormatAccess_L1_eq (a : Access) (hm : 0 ≤ a.Method ∧ a.Method ≤ 4) (hl : a.Values.length ≤ 3) : ∀ (l : List Int) (k : Nat), (l.all (pIn 0 9) = true → ∀ x ∈ a.Values, 0 ≤ x ∧ x ≤ 9) → s_FormatAccess_L1 a 2 l k = some (if l.all (pIn 0 9) then [109] ++ pDig a.Method ++ [40] ++ Lib.join (a.Values.map pDig) [44] ++ [41] else [])
  | [], k, hv => by
    have hv' := hv rfl
    have hj := join_digs a.Values hl
    have := pFmtA_cats (m := pDig a.Method) (v := Lib.join (a.Values.map pDig) [44]) (by simp [pDig]) hj
    unfold s_FormatAccess_L1
    rw [s_FormatInt_eq _ (by omega), Option.bind_some, s_l2List_eq a.Values hv' hl]
    simp only [Option.bind_some] at this ⊢
    rw [if_pos (by rfl), ← this]
    cases cat [109] (pDig a.Method) with
    | none => rfl
    | some x =>
      simp only [Option.bind_some]
      cases cat x [40] with
      | none => rfl
      | some y =>
        simp only [Option.bind_some]
        cases cat y (Lib.join (a.Values.map pDig) [44]) with
        | none => rfl
        | some z =>
          simp only [Option.bind_some]
          cases cat z [41] <;> rfl
  | x :: l, k, hv => by
    unfold s_FormatAccess_L1
    rw [s_l1In_eq, Option.bind_some]
    cases h : pIn 0 9 x
    · simp [h]
    · rw [if_neg (by simp), s_FormatAccess_L1_eq a hm hl l _ (fun h' => hv (by simp [h, h']))]; simp [h]
theorem pIn9_vals {l : List Int} (h : l.all (pIn 0 9) = true) : ∀ x ∈ l, 0 ≤ x ∧ x ≤ 9 := by
  simpa only [List.all_eq_true, pIn, Bool.and_eq_true, decide_eq_true_eq] using h
theorem s_FormatAccess_eq (a : Access) : s_FormatAccess 2 a = some (pFmtA a) := by
  unfold s_FormatAccess pFmtA pAccOK
  rw [s_l1In_eq, Option.bind_some]
  cases h1 : pIn 0 4 a.Method
  · rfl
  by_cases h2 : (3 : Int) < (a.Values.length : Int)
  · simp [h2]
  · have hm : 0 ≤ a.Method ∧ a.Method ≤ 4 := by simpa only [pIn, Bool.and_eq_true, decide_eq_true_eq] using h1
    simp only [h2, Bool.not_true, cond_false, decide_false, Option.bind_some, Bool.false_eq_true, if_false, Bool.not_false, Bool.true_and]
    exact s_FormatAccess_L1_eq a hm (by omega) a.Values 0 pIn9_vals
theorem i_FormatAccess_eq (a : Access) : i_FormatAccess a = some (pFmtA a) := by
  unfold i_FormatAccess pFmtA pAccOK
  rw [i_within_eq, Option.bind_some]
  cases h1 : pIn 0 4 a.Method
  · rfl
  by_cases h2 : (3 : Int) < (a.Values.length : Int)
  · simp [h2]
  · have hm : 0 ≤ a.Method ∧ a.Method ≤ 4 := by simpa only [pIn, Bool.and_eq_true, decide_eq_true_eq] using h1
    simp only [h2, Bool.not_true, cond_false, decide_false, i_areValues_eq, Option.bind_some, Bool.not_false, Bool.true_and]
    cases h3 : a.Values.all (pIn 0 9)
    · rfl
    · have hl : a.Values.length ≤ 3 := by omega
      have := pFmtA_cats (m := pDig a.Method) (v := Lib.join (a.Values.map pDig) [44]) (by simp [pDig]) (join_digs a.Values hl)
      simp only [Bool.not_true, Bool.false_eq_true, if_false, if_true]
      rw [i_FormatInt_eq _ (by omega), Option.bind_some, i_joined_eq a.Values (pIn9_vals h3) hl]
      simp only [Option.bind_some] at this ⊢
      rw [← this]
      cases cat [109] (pDig a.Method) with
      | none => rfl
      | some x =>
        simp only [Option.bind_some]
        cases cat x [40] with
        | none => rfl
        | some y =>
          simp only [Option.bind_some]
          cases cat y (Lib.join (a.Values.map pDig) [44]) with
          | none => rfl
          | some z =>
            simp only [Option.bind_some]
            cases cat z [41] <;> rfl
theorem pFmtA_len (a : Access) : (pFmtA a).length ≤ 11 := by
  unfold pFmtA
  split
  · rename_i h
    have := join_digs a.Values (pAccOK_vals h).2.1
    simp [pDig]; omega
  · simp
def pLog (log : List Access) : List UInt8 := if log = [] then [110, 111, 110, 101] else if log.any (fun a => pFmtA a == []) then [] else Lib.join (log.map pFmtA) [32]
theorem s_FormatLog_L1_eq : ∀ (l : List Access) (k : Nat) (c : List UInt8), 0 < k → c ≠ [] → c.length + 12 * l.length < 4611686018427387904 → s_FormatLog_L1 2 l k c = some (if l.any (fun a => pFmtA a == []) then [] else c ++ pTail [32] (l.map pFmtA))
  | [], k, c, _, hc, _ => by
    unfold s_FormatLog_L1
    rw [if_neg (by simpa using hc)]; simp [pTail]
  | a :: l, k, c, hk, hc, hl => by
    simp only [List.length_cons] at hl
    have h11 := pFmtA_len a
    unfold s_FormatLog_L1
    rw [s_FormatAccess_eq, Option.bind_some]
    cases he : pFmtA a == []
    · have e1 : cat c [32] = some (c ++ [32]) := by unfold cat; rw [if_pos (by simp; omega)]
      have e2 : cat (c ++ [32]) (pFmtA a) = some (c ++ [32] ++ pFmtA a) := by unfold cat; rw [if_pos (by simp; omega)]
      rw [if_neg (by simp), if_pos (by simpa using hk), e1, Option.bind_some, e2, Option.bind_some, Option.bind_some]
      dsimp only
      rw [s_FormatLog_L1_eq l _ _ (by omega) (by simp) (by simp; omega)]
      have hne : pFmtA a ≠ [] := by simpa using he
      simp [hne, pTail]
    · rw [if_pos rfl, Option.bind_some]
      have hE : pFmtA a = [] := by simpa using he
      simp [hE]
theorem s_FormatLog_eq (log : List Access) (h : log.length ≤ 1048576) : s_FormatLog 2 log = some (pLog log) := by
  unfold s_FormatLog pLog
  cases log with
  | nil => rfl
  | cons a l =>
    simp only [List.length_cons] at h
    have h11 := pFmtA_len a
    rw [if_neg (by simp)]
    unfold s_FormatLog_L1
    rw [s_FormatAccess_eq, Option.bind_some]
    cases he : pFmtA a == []
    · have e2 : cat [] (pFmtA a) = some (pFmtA a) := by unfold cat; rw [if_pos (by simp; omega)]; rfl
      have hne : pFmtA a ≠ [] := by simpa using he
      rw [if_neg (by simp), if_neg (by simp), e2, Option.bind_some, Option.bind_some]
      dsimp only
      rw [s_FormatLog_L1_eq l _ _ (by omega) hne (by omega)]
      simp only [List.any_cons, he, Bool.false_or, List.map_cons]
      rw [join_tail]
    · rw [if_pos rfl, Option.bind_some]
      have hE : pFmtA a = [] := by simpa using he
      simp [hE]
theorem i_FormatLog_L1_eq : ∀ (l : List Access) (k : Nat) (c : List (List UInt8)), c.length + l.length ≤ 1048576 → (∀ x ∈ c, x.length ≤ 11) → i_FormatLog_L1 l k c = some (if l.any (fun a => pFmtA a == []) then [] else Lib.join (c ++ l.map pFmtA) [32])
  | [], k, c, hl, hc => by
    have hj : (Lib.join c [32]).length ≤ 12 * c.length := by
      cases c with
      | nil => simp [Lib.join, List.intercalate]
      | cons x c =>
        rw [join_tail, List.length_append]
        have h1 := pTail_len [32] 11 c fun y hy => hc y (by simp [hy])
        have h2 := hc x (by simp)
        simp only [List.length_cons, List.length_nil] at h1 hl ⊢
        omega
    simp only [List.length_nil, Nat.add_zero] at hl
    unfold i_FormatLog_L1
    rw [g_strings_Join, if_pos ⟨by omega, by omega⟩]
    simp
  | a :: l, k, c, hl, hc => by
    simp only [List.length_cons] at hl
    unfold i_FormatLog_L1
    rw [i_FormatAccess_eq, Option.bind_some]
    cases he : pFmtA a == []
    · rw [if_neg (by simp), app_ok (by simp; omega), Option.bind_some, i_FormatLog_L1_eq l _ _ (by simp; omega) (fun y hy => by
        rcases List.mem_append.1 hy with hy | hy
        · exact hc y hy
        · rw [List.mem_singleton.1 hy]; exact pFmtA_len a)]
      have hne : pFmtA a ≠ [] := by simpa using he
      simp [hne]
    · have hE : pFmtA a = [] := by simpa using he
      rw [if_pos rfl]; simp [hE]
theorem i_FormatLog_eq (log : List Access) (h : log.length ≤ 1048576) : i_FormatLog log = some (pLog log) := by
  unfold i_FormatLog pLog
  cases log with
  | nil => rfl
  | cons a l =>
    rw [if_neg (by simp only [List.length_cons, beq_iff_eq]; omega), if_neg (by simp), i_FormatLog_L1_eq (a :: l) 0 [] (by simpa using h) (by simp), List.nil_append]
theorem pLog_len (log : List Access) (h : log.length ≤ 1048576) : (pLog log).length < 4294967296 := by
  unfold pLog
  split
  · simp
  split
  · simp
  · cases log with
    | nil => simp [Lib.join, List.intercalate]
    | cons a l =>
      simp only [List.length_cons] at h
      rw [List.map_cons, join_tail, List.length_append]
      have h1 := pTail_len [32] 11 (l.map pFmtA) fun y hy => by
        obtain ⟨z, -, rfl⟩ := List.mem_map.1 hy
        exact pFmtA_len z
      have h2 := pFmtA_len a
      simp only [List.length_cons, List.length_nil, List.length_map] at h1
      omega
theorem viewDigest_eq (r : List UInt8) (hr : r.length < 4294967296) : ∀ (m i : Nat) (c : Int), i ≤ r.length → r.length - i < m → ∃ d, s_ViewDigest_L1 r m c (i : Int) = some d ∧ i_ViewDigest_L1 r m c (i : Int) = some d := by
  intro m
  induction m with
  | zero => intro i c _ h; omega
  | succ m ih =>
    intro i c hi hm
    unfold s_ViewDigest_L1 i_ViewDigest_L1
    by_cases hlt : i < r.length
    · rw [if_pos (by simpa using hlt), if_pos (by simpa using hlt), ix_nat, List.getElem?_eq_getElem hlt, Option.bind_some, Option.bind_some, show IntKind.i64.wrap ((i : Int) + 1) = ((i + 1 : Nat) : Int) from by rw [wrap_in (by omega) (by omega)]; rfl, Int.mul_comm c 257]
      exact ih (i + 1) _ (by omega) (by omega)
    · rw [if_neg (by simpa using hlt), if_neg (by simpa using hlt)]
      exact ⟨c, rfl, rfl⟩

theorem law_fnExactViewDigest {log : List Access} (wo : wfSl wf33 log) : ∃ fuel, l_FnExactViewDigest fuel log = some true := by
  refine ⟨2, ?_⟩
  unfold l_FnExactViewDigest
  obtain ⟨n1, e1, h1⟩ := sz_AccessS log wo 1048576 (by omega) (by omega)
  rw [e1, Option.bind_some]
  try dsimp only at h1
  rcases h1 with ⟨rfl, p1⟩ | p1
  rotate_left
  · rw [if_pos (by simpa using p1)]
  rw [if_neg (by simp only [decide_eq_true_eq]; omega)]
  have b1 := bd_AccessS log (by omega)
  have hl : log.length ≤ 1048576 := by
    have : log.length ≤ totL tot_Access log := by unfold totL; omega
    omega
  have hr := pLog_len log hl
  obtain ⟨d, d1, d2⟩ := viewDigest_eq (pLog log) hr ((((pLog log).length : Int) - 0).toNat + 2) 0 1 (by omega) (by omega)
  have e2 : s_ViewDigest 2 log = some d := by rw [s_ViewDigest, s_FormatLog_eq log hl, Option.bind_some]; exact d1
  have e3 : i_ViewDigest log = some d := by rw [i_ViewDigest, i_FormatLog_eq log hl, Option.bind_some]; exact d2
  simp only [to_AccessS log b1, e2, e3, eq_AccessS, Option.bind_some, bne_self_eq_false, Bool.not_true, Bool.false_eq_true, if_false]

end Go.Proofs.YtfkhlplpbhadhaaDoor

/-
  The row FnExactViewDigest.
-/
set_option maxRecDepth 100000
namespace Go.Proofs.YtfkhlplpbhadhaaDoor.fnExactViewDigest
open Go Go.Fw Go.ChangeShapes Go.WideShapes Go.ChangeAt Go.RowKit

theorem own : ownKnob Tryd.prog.godebug = none := by kernel_rfl
theorem door_met (os : Os) (args : Array Value) : laidMetH Tryd.prog Rows.fnExactViewDigestRow.laid ((World.doorLaid Tryd.prog 400 os).forCall (fun _ _ => 0) ⟨#[], args, []⟩).memory :=
  laidMetH_of_parts3 (fuel := 8) (laidMet_of_run' 8 (by kernel_rfl) (by kernel_rfl)) (by kernel_rfl) (by kernel_rfl)
theorem gTab : Tryd.prog.globalNamed "internal/strconv.uint64pow10" = some 1 := by kernel_rfl
theorem gTabT : (Tryd.prog.globals[1]?).map (·.type) = some 74 := by kernel_rfl
theorem laidOut : laidOutB Tryd.prog = true := by kernel_rfl

set_option maxRecDepth 100000 in
theorem lifted (os : Os) (started : os.Started) (H : Type) (enc : TypeId × Value → H) :
    ReturnsInHanded {} Tryd.checked os 4 .any (fun w args => (Rows.fnExactViewDigestSpec.pre enc Tryd.prog Tryd.f4 [] false w args ∧ laidMetH Tryd.prog Rows.fnExactViewDigestRow.laid w) ∧ sizedMet enc Tryd.prog Tryd.f4 (OpenSpec.ofChange Rows.fnExactViewDigestSpec) false w args) (Rows.fnExactViewDigestSpec.post enc Tryd.prog Tryd.f4 false true false false) := by
  refine returnsInHanded_of_change_and (C := Tryd.checked) (X := fun w _ => laidMetH Tryd.prog Rows.fnExactViewDigestRow.laid w) (fun _ _ _ hh h => h.of_heap hh) own started (by kernel_rfl) Tryd.func4
    (ChangeSpec.witness_shaped (enc := enc) (C := Tryd.checked) (os := os) (X := fun w _ => laidMetH Tryd.prog Rows.fnExactViewDigestRow.laid w) false (World.doorLaid Tryd.prog 400 os) #[.slice none 0 0] 16 rfl (World.shaped_of_RefB (by kernel_rfl) (by kernel_rfl)) (by kernel_rfl) (by kernel_rfl) (by kernel_rfl) (door_met os _)) ?_
  intro W base args ds gs before hval hW _ hwt hL _
  rw [MakeChecks.laidMetH_plain _ _ _ (by kernel_rfl)] at hL
  have htab : Lib.TabIs Tryd.prog W "internal/strconv.uint64pow10" .u64 Lib.pow10Tab := Lib.tabIs_of_head gTab gTabT (show Tryd.prog.underlying 74 = some (.array 20 67) by kernel_rfl) (show Tryd.prog.underlying 67 = some (.int .u64) by kernel_rfl) (by kernel_rfl) (by kernel_rfl) (laidMet.tail (laidMet.tail hL))
  have hW' := hW
  obtain ⟨p, q, hA0, hV, rfl, hfz, hnd⟩ := hW
  obtain ⟨rfl, rfl⟩ := trodVars_none hV
  have hA : DataW.TrodAll enc Tryd.prog W 0 (fun _ => true) true [22] args.toList ds p := hA0
  have hw : ∀ n ∈ DataW.weightsEach Tryd.prog [22] ds, n ≤ reachBytes := fun n hn => by
    have := List.all_eq_true.1 hwt n (by rw [List.append_nil]; exact hn)
    simpa using this
  obtain ⟨v0, vs0, d0, ds0, p0, ρ0, H0, av0, a0, e0, rfl, hA0, hw0, r0, f0, u0, i0, rv0, q0, w0⟩ := opn_arg hA hw (Opn.slice (s := 2) (by kernel_rfl) (by kernel_rfl) (by decide) (Nat.lt_of_lt_of_le (by decide) (Nat.le_of_eq (show 32 = _ from by kernel_rfl))) op33) (fun H v a h => by obtain ⟨_, _, rfl⟩ := RdS.len h; kernel_rfl) (r := .any) (base := base) (fun v h => hval 0 22 v rfl (arg_at h)) (Rel.nil _ W htab) Frn.nil
  obtain ⟨en, rfl⟩ := opn_none hA0
  subst en
  obtain ⟨sa0, sm0, rfl⟩ := RdS.len q0
  have hargs : RelVs ρ0 [(.slice sa0 a0.length sm0)] args.toList := by
    rw [e0]
    exact (.cons _ _ _ _ rv0 .nil)
  obtain ⟨fuel, hlaw⟩ := law_fnExactViewDigest w0
  refine ((l_FnExactViewDigest_ok fuel a0 ⟨sa0, _, sm0⟩ true hlaw) H0 [] (Ctx.dup (Ctx.start _) q0 rfl) ρ0 W args r0 hargs).mono ?_
  rintro e w' ⟨v, r, ρ', H', rfl, h1, h2, h3, x, h5, -⟩
  have h6 : r = .bool true := h5
  subst h6
  refine ⟨_, rfl, ?_⟩
  rw [h1.bool_inv]
  refine law_post hW' rfl laidOut (by kernel_rfl) rfl (by kernel_rfl) (fun d => ?_) (h3.below f0)
  by_cases hd : d = [d0]
  · subst hd; exact .inl ⟨rfl, rfl, rfl⟩
  · exact .inr (by simpa using hd)

theorem named : Tryd.pinned.checked.prog.funcNamed Rows.fnExactViewDigestRow.func = some 4 := by kernel_rfl
set_option maxHeartbeats 10000000 in
theorem closed : joinedFacts Tryd.pinned.checked.prog 4 Tryd.f4 Rows.fnExactViewDigestSpec Rows.fnExactViewDigestRow = true := by
  simp only [joinedFacts, Bool.and_eq_true]
  repeat' refine And.intro ?_ ?_
  all_goals (as_aux_lemma => kernel_rfl)
theorem over : Rows.fnExactViewDigestRow.holds Tryd.pinned (OpenSpec.ofChange Rows.fnExactViewDigestSpec) :=
  OpenClaim.holds_of_wide 4 Tryd.f4 rfl rfl rfl rfl rfl rfl rfl ⟨rfl, rfl, rfl, rfl, rfl⟩ rfl rfl rfl rfl rfl named Tryd.func4 closed
    (of_decide_eq_true (by kernel_rfl)) (by unfold Func.isWrapper; first | (rw [if_pos (by decide +kernel)]; kernel_rfl) | (rw [if_neg (by decide +kernel)]; exact ⟨rfl, rfl⟩))
    (fun os started H enc _ => lifted os started H enc)

theorem proved : Rows.FnExactViewDigestCardSaid :=
  Claim7.holds_tied_plain_at .later [] [.data, .data, .data] true (true, "f7d13ddc249da236125777ee81acf158ed78c822bca762e428f7a7372bf6ec76") false
    over (fun _ h => by cases h) (by kernel_rfl) (fun _ h => by cases h) fnExactViewDigest_row_tie rfl ⟨rfl, rfl⟩ (by kernel_rfl) rfl
    (fun f fn hf hfn => by
      obtain rfl : f = 4 := Option.some.inj ((show Tryd.prog.funcNamed "loop.example/g01989/laws.FnExactViewDigest" = some 4 by kernel_rfl).symm.trans hf) |>.symm
      obtain rfl : fn = Tryd.f4 := (Option.some.inj (Tryd.func4.symm.trans hfn)).symm
      exact ⟨by kernel_rfl, fun j t ht => by
        have hm : t ∈ [22] := by simpa using (Array.mem_of_getElem? ht : t ∈ (#[22] : Array TypeId))
        have hall : ([22].all fun u => !Tryd.prog.wantsStandIn u) = true := by kernel_rfl
        exact (show Tryd.prog.wantsStandIn t = false by simpa using List.all_eq_true.1 hall t hm)⟩)
    (by kernel_rfl)
end Go.Proofs.YtfkhlplpbhadhaaDoor.fnExactViewDigest
