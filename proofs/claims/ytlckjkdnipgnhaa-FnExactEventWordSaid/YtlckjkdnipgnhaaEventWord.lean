/-
  FnExactEventWord returns true for every argument, and leaves what was there before as it was. No conditions.
-/
import Derived.Test.YtlckjkdnipgnhaaFw
import Derived.Test.YtlckjkdnipgnhaaProg
import Derived.KernelRfl
import Derived.Test.YtlckjkdnipgnhaaRows
import Derived.WalkKit
namespace Go.Proofs.Ytlckjkdnipgnhaa
open Go Go.Fw

theorem sz9 : SZ Try.prog 9 1 := by unfold SZ; kernel_rfl
theorem sl41 : SL Try.prog 41 9 := by unfold SL; kernel_rfl
theorem ag9 : AG Try.prog 9 false := by unfold AG; kernel_rfl
theorem cf20 : CF Try.prog 20 := fun _ _ => Try.call20 _ _
theorem cf21 : CF Try.prog 21 := fun _ _ => Try.call21 _ _
theorem cf22 : CF Try.prog 22 := fun _ _ => Try.call22 _ _
theorem cf7 : CF Try.prog 7 := fun _ _ => Try.call7 _ _
theorem cf8 : CF Try.prog 8 := fun _ _ => Try.call8 _ _

theorem l1In_c (a lo hi : Int) (H : AHeap) : AC Try.prog 20 [.int .i64 a, .int .i64 lo, .int .i64 hi] H (fun r H' => H' = H ∧ r = .bool (decide (lo ≤ a) && decide (a ≤ hi))) := by
  refine AC_enter (n := 15) Try.func20 rfl rfl (ts := [6]) rfl rfl rfl rfl ?_
  refine S_region (AOps_val (V_assign (EV.bool _)) (AOps_nil ?_))
  refine S_region ?_
  refine AOps_val (V_move (v := .int .i64 a) (EV.tmp rfl rfl)) ?_
  refine AOps_val (V_move (v := .int .i64 lo) (EV.tmp rfl rfl)) ?_
  refine AOps_val (V_geq (i := a) (j := lo) (EV.tmp rfl rfl) (EV.tmp rfl rfl)) ?_
  refine AOps_val (V_move (v := .bool (decide (lo ≤ a))) (EV.tmp rfl rfl)) ?_
  by_cases h1 : lo ≤ a
  · rw [decide_eq_true h1]
    refine R_onT (t := 10) rfl rfl rfl (AOps_val (V_move (v := .int .i64 a) (EV.tmp rfl rfl)) ?_)
    refine R_onT (t := 10) rfl rfl rfl (AOps_val (V_move (v := .int .i64 hi) (EV.tmp rfl rfl)) ?_)
    refine R_onT (t := 10) rfl rfl rfl (AOps_val (V_leq (i := a) (j := hi) (EV.tmp rfl rfl) (EV.tmp rfl rfl)) ?_)
    refine AOps_val (V_pick (b := true) (u := .bool (decide (a ≤ hi))) (v := .bool false) (EV.tmp rfl rfl) (EV.tmp rfl rfl) (EV.bool _)) ?_
    refine AOps_val (V_assign (v := .bool (decide (a ≤ hi))) (EV.tmp rfl rfl)) (AOps_nil ?_)
    refine AW_ret ?_
    exact ⟨rfl, rfl⟩
  · rw [decide_eq_false h1]
    refine R_offT (t := 10) rfl rfl rfl ?_
    refine R_offT (t := 10) rfl rfl rfl ?_
    refine R_offT (t := 10) rfl rfl rfl ?_
    refine AOps_val (V_pick (b := false) (u := undef) (v := .bool false) (EV.tmp rfl rfl) (EV.tmp rfl rfl) (EV.bool _)) ?_
    refine AOps_val (V_assign (v := .bool false) (EV.tmp rfl rfl)) (AOps_nil ?_)
    refine AW_ret ?_
    exact ⟨rfl, rfl⟩

def words : List (List UInt8) := [[109, 101, 116, 104, 111, 100], [114, 117, 108, 101], [97, 100, 100], [100, 114, 111, 112], [119, 97, 105, 116], [97, 115, 107]]
def evWord (k : Int) : List UInt8 := if 1 ≤ k ∧ k ≤ 6 then words.getD (k - 1).toNat [] else []

theorem sEventWord_c (k : Int) (H : AHeap) : AC Try.prog 7 [.int .i64 k] H (fun r H' => Sub H H' ∧ r = sv (evWord k)) := by
  refine AC_enter (n := 11) Try.func7 rfl rfl (ts := [2]) rfl rfl rfl rfl ?_
  refine S_region (AOps_val (V_assign (EV.sv [])) (AOps_nil ?_))
  refine S_in (S_region ?_)
  refine AOps_val (V_move (v := .int .i64 k) (EV.tmp rfl rfl)) ?_
  refine R_call (vs := [.int .i64 k, .int .i64 1, .int .i64 6]) cf20 (.cons (EV.tmp rfl rfl) (.cons (EV.int _ _) (.cons (EV.int _ _) .nil))) (l1In_c _ _ _ _) ?_
  rintro r H1 ⟨rfl, rfl⟩
  refine AOps_val (V_not (b := (decide (1 ≤ k) && decide (k ≤ 6))) (EV.tmp rfl rfl)) (AOps_nil ?_)
  refine AW_cond (t := !(decide (1 ≤ k) && decide (k ≤ 6))) (EV.tmp rfl rfl) (fun hb => ?_) (fun hb => ?_)
  · refine S_region (AOps_val (V_assign (EV.sv [])) (AOps_nil ?_))
    refine AW_ret ?_
    refine ⟨Sub.refl _, ?_⟩
    have : ¬ (1 ≤ k ∧ k ≤ 6) := by simp at hb; omega
    rw [evWord, if_neg this]; rfl
  · refine AW_skip ?_
    have hk : 1 ≤ k ∧ k ≤ 6 := by simpa using hb
    refine S_region ?_
    refine R_buildSlice (vs := words.map sv) sl41 sz9 (iE := Try.t9) rfl rfl (.cons (EV.sv _) (.cons (EV.sv _) (.cons (EV.sv _) (.cons (EV.sv _) (.cons (EV.sv _) (.cons (EV.sv _) .nil)))))) rfl rfl rfl (by simp [words, sv, Value.cells]) ?_
    refine AOps_val (V_move (v := .int .i64 k) (EV.tmp rfl rfl)) ?_
    refine AOps_val (V_sub (i := k) (j := 1) (EV.tmp rfl rfl) (EV.int _ _)) ?_
    have hw : IntKind.i64.wrap (k - 1) = k - 1 := wrap_in (by omega) (by omega)
    rw [hw]
    refine AOps_val (V_indexAddr (i := k - 1) (len := 6) (i0 := 0) (k := H1.length) (b := ⟨words.map sv, 9, true, true⟩) sl41 sz9 (EV.tmp rfl rfl) (EV.tmp rfl rfl) (by simp) rfl (by omega) (by omega)) ?_
    have hlt : (k - 1).toNat < words.length := by show _ < 6; omega
    refine AOps_val (V_load (e := sv (words[(k - 1).toNat]'hlt)) (v := sv (words[(k - 1).toNat]'hlt)) (i := 0 + (k - 1).toNat) (j := 0) (k := H1.length) (b := ⟨words.map sv, 9, true, true⟩) ag9 (EV.tmp rfl rfl) (by simp) (by rw [Nat.zero_add, List.getElem?_map, List.getElem?_eq_getElem hlt]; rfl) rfl) ?_
    refine AOps_val (V_assign (v := sv (words[(k - 1).toNat]'hlt)) (EV.tmp rfl rfl)) (AOps_nil ?_)
    refine AW_ret ⟨Sub.app _ _, ?_⟩
    show sv _ = sv _
    rw [evWord, if_pos hk, List.getD_eq_getElem?_getD, List.getElem?_eq_getElem hlt]; rfl

theorem within_c (a lo hi : Int) (H : AHeap) : AC Try.prog 21 [.int .i64 a, .int .i64 lo, .int .i64 hi] H (fun r H' => H' = H ∧ r = .bool (decide (lo ≤ a) && decide (a ≤ hi))) := by
  refine AC_enter (n := 15) Try.func21 rfl rfl (ts := [6]) rfl rfl rfl rfl ?_
  refine S_region (AOps_val (V_assign (EV.bool _)) (AOps_nil ?_))
  refine S_region ?_
  refine AOps_val (V_move (v := .int .i64 a) (EV.tmp rfl rfl)) ?_
  refine AOps_val (V_move (v := .int .i64 lo) (EV.tmp rfl rfl)) ?_
  refine AOps_val (V_geq (i := a) (j := lo) (EV.tmp rfl rfl) (EV.tmp rfl rfl)) ?_
  refine AOps_val (V_move (v := .bool (decide (lo ≤ a))) (EV.tmp rfl rfl)) ?_
  by_cases h1 : lo ≤ a
  · rw [decide_eq_true h1]
    refine R_onT (t := 10) rfl rfl rfl (AOps_val (V_move (v := .int .i64 a) (EV.tmp rfl rfl)) ?_)
    refine R_onT (t := 10) rfl rfl rfl (AOps_val (V_move (v := .int .i64 hi) (EV.tmp rfl rfl)) ?_)
    refine R_onT (t := 10) rfl rfl rfl (AOps_val (V_leq (i := a) (j := hi) (EV.tmp rfl rfl) (EV.tmp rfl rfl)) ?_)
    refine AOps_val (V_pick (b := true) (u := .bool (decide (a ≤ hi))) (v := .bool false) (EV.tmp rfl rfl) (EV.tmp rfl rfl) (EV.bool _)) ?_
    refine AOps_val (V_assign (v := .bool (decide (a ≤ hi))) (EV.tmp rfl rfl)) (AOps_nil ?_)
    refine AW_ret ?_
    exact ⟨rfl, rfl⟩
  · rw [decide_eq_false h1]
    refine R_offT (t := 10) rfl rfl rfl ?_
    refine R_offT (t := 10) rfl rfl rfl ?_
    refine R_offT (t := 10) rfl rfl rfl ?_
    refine AOps_val (V_pick (b := false) (u := undef) (v := .bool false) (EV.tmp rfl rfl) (EV.tmp rfl rfl) (EV.bool _)) ?_
    refine AOps_val (V_assign (v := .bool false) (EV.tmp rfl rfl)) (AOps_nil ?_)
    refine AW_ret ?_
    exact ⟨rfl, rfl⟩

theorem eventWords_c (H : AHeap) : AC Try.prog 22 [] H (fun r H' => r = .slice (some ⟨H.length, 0, none⟩) 7 1 ∧ H' = H ++ [some ⟨([] :: words).map sv, 9, true, true⟩]) := by
  refine AC_enter (n := 2) Try.func22 rfl rfl (ts := [0]) rfl rfl rfl rfl ?_
  refine S_region (AOps_val (V_assign EV.nilSlice) (AOps_nil ?_))
  refine S_region ?_
  refine R_buildSlice (vs := ([] :: words).map sv) sl41 sz9 (iE := Try.t9) rfl rfl (.cons (EV.sv _) (.cons (EV.sv _) (.cons (EV.sv _) (.cons (EV.sv _) (.cons (EV.sv _) (.cons (EV.sv _) (.cons (EV.sv _) .nil))))))) rfl rfl rfl (by simp [words, sv, Value.cells]) ?_
  refine AOps_val (V_assign (v := .slice (some ⟨H.length, 0, none⟩) 7 1) (EV.tmp rfl rfl)) (AOps_nil ?_)
  exact AW_ret ⟨rfl, rfl⟩

theorem iEventWord_c (k : Int) (H : AHeap) : AC Try.prog 8 [.int .i64 k] H (fun r H' => Fw.Sub H H' ∧ r = sv (evWord k)) := by
  refine AC_enter (n := 10) Try.func8 rfl rfl (ts := [2]) rfl rfl rfl rfl ?_
  refine S_region (AOps_val (V_assign (EV.sv [])) (AOps_nil ?_))
  refine S_in (S_region ?_)
  refine AOps_val (V_move (v := .int .i64 k) (EV.tmp rfl rfl)) ?_
  refine R_call (vs := [.int .i64 k, .int .i64 1, .int .i64 6]) cf21 (.cons (EV.tmp rfl rfl) (.cons (EV.int _ _) (.cons (EV.int _ _) .nil))) (within_c _ _ _ _) ?_
  rintro r H1 ⟨rfl, rfl⟩
  refine AOps_val (V_not (b := (decide (1 ≤ k) && decide (k ≤ 6))) (EV.tmp rfl rfl)) (AOps_nil ?_)
  refine AW_cond (t := !(decide (1 ≤ k) && decide (k ≤ 6))) (EV.tmp rfl rfl) (fun hb => ?_) (fun hb => ?_)
  · refine S_region (AOps_val (V_assign (EV.sv [])) (AOps_nil ?_))
    refine AW_ret ?_
    refine ⟨Sub.refl _, ?_⟩
    have : ¬ (1 ≤ k ∧ k ≤ 6) := by simp at hb; omega
    rw [evWord, if_neg this]; rfl
  · refine AW_skip ?_
    have hk : 1 ≤ k ∧ k ≤ 6 := by simpa using hb
    refine S_region ?_
    refine R_call (vs := []) cf22 .nil (eventWords_c _) ?_
    rintro r H2 ⟨rfl, rfl⟩
    refine AOps_val (V_move (v := .int .i64 k) (EV.tmp rfl rfl)) ?_
    refine AOps_val (V_indexAddr (i := k) (len := 7) (i0 := 0) (k := H1.length) (b := ⟨([] :: words).map sv, 9, true, true⟩) sl41 sz9 (EV.tmp rfl rfl) (EV.tmp rfl rfl) (by simp) rfl (by omega) (by omega)) ?_
    have hlt : (k - 1).toNat < words.length := by show _ < 6; omega
    refine AOps_val (V_load (e := sv (words[(k - 1).toNat]'hlt)) (v := sv (words[(k - 1).toNat]'hlt)) (i := 0 + k.toNat) (j := 0) (k := H1.length) (b := ⟨([] :: words).map sv, 9, true, true⟩) ag9 (EV.tmp rfl rfl) (by simp)
      (by rw [Nat.zero_add, show k.toNat = (k - 1).toNat + 1 by omega, List.map_cons, List.getElem?_cons_succ, List.getElem?_map, List.getElem?_eq_getElem hlt]; rfl) rfl) ?_
    refine AOps_val (V_assign (v := sv (words[(k - 1).toNat]'hlt)) (EV.tmp rfl rfl)) (AOps_nil ?_)
    refine AW_ret ⟨Sub.app _ _, ?_⟩
    show sv _ = sv _
    rw [evWord, if_pos hk, List.getD_eq_getElem?_getD, List.getElem?_eq_getElem hlt]; rfl

theorem law_c (k : Int) (H : AHeap) : AC Try.prog 3 [.int .i64 k] H (fun r _ => r = .bool true) := by
  refine AC_enter (n := 12) Try.func3 rfl rfl (ts := [2]) rfl rfl rfl rfl ?_
  refine S_region (AOps_val (V_assign (EV.bool _)) (AOps_nil ?_))
  refine S_region ?_
  refine AOps_val (V_move (v := .int .i64 k) (EV.tmp rfl rfl)) ?_
  refine R_call (vs := [.int .i64 k]) cf7 (.cons (EV.tmp rfl rfl) .nil) (sEventWord_c _ _) ?_
  rintro r H1 ⟨-, rfl⟩
  refine AOps_val (V_assign (v := sv (evWord k)) (EV.tmp rfl rfl)) (AOps_nil ?_)
  refine S_region ?_
  refine AOps_val (V_move (v := .int .i64 k) (EV.tmp rfl rfl)) ?_
  refine R_call (vs := [.int .i64 k]) cf8 (.cons (EV.tmp rfl rfl) .nil) (iEventWord_c _ _) ?_
  rintro r H2 ⟨-, rfl⟩
  refine AOps_val (V_assign (v := sv (evWord k)) (EV.tmp rfl rfl)) (AOps_nil ?_)
  refine S_in (S_region ?_)
  refine AOps_val (V_move (v := sv (evWord k)) (EV.tmp rfl rfl)) ?_
  refine AOps_val (V_move (v := sv (evWord k)) (EV.tmp rfl rfl)) ?_
  refine AOps_val (V_neT (s := evWord k) (t := evWord k) (EV.tmp rfl rfl) (EV.tmp rfl rfl)) (AOps_nil ?_)
  refine AW_cond (t := !(evWord k == evWord k)) (EV.tmp rfl rfl) (fun hb => by simp at hb) (fun hb => ?_)
  refine AW_skip ?_
  refine S_region (AOps_val (V_assign (EV.bool _)) (AOps_nil ?_))
  exact AW_ret rfl

end Go.Proofs.Ytlckjkdnipgnhaa

namespace Go.Proofs.Ytlckjkdnipgnhaa.fnExactEventWord
open Go Go.Fw Go.ChangeShapes Go.WideShapes Go.ChangeAt Go.RowKit

theorem own : ownKnob Try.prog.godebug = none := by kernel_rfl
theorem laidOut : laidOutB Try.prog = true := by kernel_rfl

theorem walk (a0 : Int) (w : World) : Calls Try.prog 3 #[.int .i64 a0] w fun e w' => e = .returned (.bool true) ∧ Below w.heap.size w w' := by
  refine (law_c a0 [] (fun _ => none) w #[.int .i64 a0] ⟨by simp, by simp, by simp, by simp⟩ (.cons _ _ _ _ (.int _ _) .nil)).mono ?_
  rintro e w' ⟨v, r, ρ', H', rfl, h1, h2, h3, rfl⟩
  exact ⟨by rw [h1.bool_inv], h3.below (by simp)⟩

set_option maxRecDepth 100000 in
theorem lifted (os : Os) (started : os.Started) (H : Type) (enc : TypeId × Value → H) :
    ReturnsInHanded {} Try.checked os 3 .any (Rows.fnExactEventWordSpec.pre6 enc Try.prog Try.f3 Rows.fnExactEventWordRow.domain false) (Rows.fnExactEventWordSpec.post enc Try.prog Try.f3 false true false false) := by
  refine returnsInHanded_of_change (C := Try.checked) own started (by kernel_rfl) Try.func3
    (ChangeSpec.witness6 (enc := enc) (C := Try.checked) false ⟨#[], #[.int .i64 0], []⟩ 8 (by kernel_rfl) (by kernel_rfl) (by kernel_rfl) (by kernel_rfl)) ?_
  intro W base args ds gs before hval0 hW _ _
  have hval : ∀ (j : Nat) t v, Try.f3.params[j]? = some t → args[j]? = some v → Value.okWide Try.prog W .any base t v := hval0
  have hW' := hW
  obtain ⟨p, q, hA0, hV, rfl, hfz, hnd⟩ := hW
  have hA : DataW.TrodAll enc Try.prog W 0 (fun _ => true) true Try.f3.params.toList args.toList ds p := hA0
  rw [Try.params3] at hA hval
  obtain ⟨v0, vs0, d0, ds0, p0, q0, hargs, rfl, rfl, h0, r0⟩ := trodAll_cons hA
  obtain ⟨rfl, rfl, rfl⟩ := trodAll_nil r0
  obtain rfl : args = #[v0] := by cases args; simp_all
  obtain ⟨a0, rfl, hd, -, -⟩ := open_int Try.underlying3 (hval 0 3 v0 rfl rfl) h0
  subst hd
  refine (walk a0 W).mono fun e W' ⟨he, hg⟩ => ?_
  subst he
  refine ⟨_, rfl, law_post hW' rfl laidOut (by kernel_rfl) rfl Try.underlying4 (fun d => ?_) hg⟩
  obtain ⟨rfl, rfl⟩ := trodVars_none hV
  by_cases hd : d = [.lit (.int .i64 a0)]
  · subst hd; exact .inl ⟨rfl, rfl, rfl⟩
  · exact .inr (by simpa using hd)

theorem over : Rows.fnExactEventWordRow.holds Try.pinned (OpenSpec.ofChange Rows.fnExactEventWordSpec) :=
  OpenClaim.holds_of_wide 3 Try.f3 rfl rfl rfl rfl rfl rfl rfl ⟨rfl, rfl, rfl, rfl, rfl⟩ rfl rfl rfl rfl rfl (by kernel_rfl) Try.func3 (by kernel_rfl)
    (of_decide_eq_true (by kernel_rfl)) (by unfold Func.isWrapper; first | (rw [if_pos (by decide +kernel)]; kernel_rfl) | (rw [if_neg (by decide +kernel)]; exact ⟨rfl, rfl⟩))
    (fun os started H enc _ => lifted os started H enc)

theorem proved : Rows.FnExactEventWordSaid := over
#print axioms proved
end Go.Proofs.Ytlckjkdnipgnhaa.fnExactEventWord
