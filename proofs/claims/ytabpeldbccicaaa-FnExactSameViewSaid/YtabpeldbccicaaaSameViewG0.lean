/-
  Functions of the program as Lean functions, and that the calls return what these say: part 1. No conditions.
-/
import Derived.Test.YtabpeldbccicaaaFc
import Derived.Test.YtabpeldbccicaaaProg
import Derived.KernelRfl
set_option maxRecDepth 100000
set_option linter.unusedVariables false
namespace Go.Proofs.Ytabpeldbccicaaa
open Go Go.Fw

instance : LaidP Try.prog := ⟨fun _ => True⟩

structure Method where
  Rel : Int
  Inputs : List Int
  Limit : Int
  Cost : Int
  Quota : Int
structure Access where
  Method : Int
  Values : List Int
theorem cf14 : CF Try.prog 14 := fun _ _ => Try.call14 _ _
theorem sl29 : SL Try.prog 29 95 := by unfold SL; kernel_rfl
def rd95 (H : AHeap) (v : Value) (a : Method) : Prop := ∃ v0 : Sv, v = .agg [(.int .i64 a.Rel), v0.v, (.int .i64 a.Limit), (.int .i64 a.Cost), (.int .i64 a.Quota)].toArray ∧ (RdS 3 rdInt) H v0.v a.Inputs
instance : Mono rd95 := ⟨fun h hi => by
  obtain ⟨v0, h, h0⟩ := h
  exact ⟨v0, h, Mono.up h0 hi⟩⟩
instance : Cells rd95 5 := ⟨fun h => by
  obtain ⟨v0, rfl, h0⟩ := h
  exact ⟨rfl, rfl⟩⟩
theorem ty95 : TY Try.prog 95 5 56 (.agg [(.int .i64 0), (.slice none 0 0), (.int .i64 0), (.int .i64 0), (.int .i64 0)].toArray) := by unfold TY; kernel_rfl
def ul95_0_95 (a : Method) (p : Sv) : List Value := [(.int .i64 a.Rel), p.v, (.int .i64 a.Limit), (.int .i64 a.Cost), (.int .i64 a.Quota)]
theorem la95_0_95 {a : Method} : ∀ H e, rd95 H e a → ∃ i : Sv, 0 + 5 ≤ e.cells.size ∧ (e.cells.toList.drop 0).take 5 = ul95_0_95 a i ∧ ∀ c ∈ ([crd (RdS 3 rdInt) i.v a.Inputs] : List Comp), c.P H ∧ c.F = [] := by
  intro H e h
  obtain ⟨v0, rfl, h0⟩ := h
  refine ⟨v0, Nat.le_of_ble_eq_true rfl, rfl, fun c hc => by
    simp only [List.mem_cons, List.not_mem_nil, or_false] at hc
    rcases hc with rfl
    · exact ⟨h0, rfl⟩
⟩
theorem ag95 : AG Try.prog 95 true := by unfold AG; kernel_rfl
theorem cf49 : CF Try.prog 49 := fun _ _ => Try.call49 _ _
theorem fd95_1 : FD Try.prog 95 1 1 := by unfold FD; kernel_rfl
theorem ag45 : AG Try.prog 45 false := by unfold AG; kernel_rfl
theorem cf82 : CF Try.prog 82 := fun _ _ => Try.call82 _ _
theorem sl45 : SL Try.prog 45 3 := by unfold SL; kernel_rfl
theorem cf15 : CF Try.prog 15 := fun _ _ => Try.call15 _ _
theorem sl30 : SL Try.prog 30 98 := by unfold SL; kernel_rfl
def rd98 (H : AHeap) (v : Value) (a : Access) : Prop := ∃ v0 : Sv, v = .agg [(.int .i64 a.Method), v0.v].toArray ∧ (RdS 3 rdInt) H v0.v a.Values
instance : Mono rd98 := ⟨fun h hi => by
  obtain ⟨v0, h, h0⟩ := h
  exact ⟨v0, h, Mono.up h0 hi⟩⟩
instance : Cells rd98 2 := ⟨fun h => by
  obtain ⟨v0, rfl, h0⟩ := h
  exact ⟨rfl, rfl⟩⟩
theorem ty98 : TY Try.prog 98 2 32 (.agg [(.int .i64 0), (.slice none 0 0)].toArray) := by unfold TY; kernel_rfl
def ul98_0_98 (a : Access) (p : Sv) : List Value := [(.int .i64 a.Method), p.v]
theorem la98_0_98 {a : Access} : ∀ H e, rd98 H e a → ∃ i : Sv, 0 + 2 ≤ e.cells.size ∧ (e.cells.toList.drop 0).take 2 = ul98_0_98 a i ∧ ∀ c ∈ ([crd (RdS 3 rdInt) i.v a.Values] : List Comp), c.P H ∧ c.F = [] := by
  intro H e h
  obtain ⟨v0, rfl, h0⟩ := h
  refine ⟨v0, Nat.le_of_ble_eq_true rfl, rfl, fun c hc => by
    simp only [List.mem_cons, List.not_mem_nil, or_false] at hc
    rcases hc with rfl
    · exact ⟨h0, rfl⟩
⟩
theorem ag98 : AG Try.prog 98 true := by unfold AG; kernel_rfl
theorem cf50 : CF Try.prog 50 := fun _ _ => Try.call50 _ _
theorem fd98_1 : FD Try.prog 98 1 1 := by unfold FD; kernel_rfl
theorem cf17 : CF Try.prog 17 := fun _ _ => Try.call17 _ _
theorem sl35 : SL Try.prog 35 101 := by unfold SL; kernel_rfl
theorem ty101 : TY Try.prog 101 5 56 (.agg [(.int .i64 0), (.slice none 0 0), (.int .i64 0), (.int .i64 0), (.int .i64 0)].toArray) := by unfold TY; kernel_rfl
def rd101 (H : AHeap) (v : Value) (a : Method) : Prop := ∃ v0 : Sv, v = .agg [(.int .i64 a.Rel), v0.v, (.int .i64 a.Limit), (.int .i64 a.Cost), (.int .i64 a.Quota)].toArray ∧ (RdS 3 rdInt) H v0.v a.Inputs
instance : Mono rd101 := ⟨fun h hi => by
  obtain ⟨v0, h, h0⟩ := h
  exact ⟨v0, h, Mono.up h0 hi⟩⟩
instance : Cells rd101 5 := ⟨fun h => by
  obtain ⟨v0, rfl, h0⟩ := h
  exact ⟨rfl, rfl⟩⟩
def ow101 : ORel Method := fun F H v a => ∃ (v0 : Sv) (F0 : List Nat), v = .agg [(.int .i64 a.Rel), v0.v, (.int .i64 a.Limit), (.int .i64 a.Cost), (.int .i64 a.Quota)].toArray ∧ F0 = F ∧ (OwnS 3 (roE rdInt)) F0 H v0.v a.Inputs
instance : Keep ow101 := ⟨fun h hi hg => by
  obtain ⟨v0, F0, rfl, rfl, h0⟩ := h
  exact ⟨v0, F0, rfl, rfl, Keep.keep h0 hi (fun k hk => hg k (by simp [hk]))⟩⟩
instance : Local ow101 := ⟨fun h hg => by
  obtain ⟨v0, F0, rfl, rfl, h0⟩ := h
  exact ⟨v0, F0, rfl, rfl, Local.keep h0 (fun k hk => hg k (by simp [hk]))⟩⟩
instance : Owns ow101 := ⟨fun h k hk => by
  obtain ⟨v0, F0, rfl, rfl, h0⟩ := h
  exact Owns.owns h0 k hk
⟩
instance : OCells ow101 5 := ⟨fun h => by
  obtain ⟨v0, F0, rfl, rfl, h0⟩ := h
  exact ⟨rfl, rfl⟩⟩
instance : Frz ow101 rd101 := ⟨fun h hg => by
  obtain ⟨v0, F0, rfl, rfl, h0⟩ := h
  exact ⟨v0, rfl, Frz.frz h0 (fun k hk => hg k (by simp [hk]))⟩⟩
theorem cf53 : CF Try.prog 53 := fun _ _ => Try.call53 _ _
theorem fd95_0 : FD Try.prog 95 0 0 := by unfold FD; kernel_rfl
theorem ag3 : AG Try.prog 3 false := by unfold AG; kernel_rfl
theorem fd101_0 : FD Try.prog 101 0 0 := by unfold FD; kernel_rfl
theorem ty3 : TY Try.prog 3 1 8 (.int .i64 0) := by unfold TY; kernel_rfl
theorem cf28 : CF Try.prog 28 := fun _ _ => Try.call28 _ _
theorem ls3_0 {a : Int} : ∀ H e, rdInt H e a → e.cells.toList[0]? = some (.int .i64 a) := by
  intro H e h
  subst h
  rfl
theorem fd101_1 : FD Try.prog 101 1 1 := by unfold FD; kernel_rfl
theorem ty45 : TY Try.prog 45 1 24 (.slice none 0 0) := by unfold TY; kernel_rfl
theorem fd95_2 : FD Try.prog 95 2 2 := by unfold FD; kernel_rfl
theorem fd101_2 : FD Try.prog 101 2 2 := by unfold FD; kernel_rfl
theorem fd95_3 : FD Try.prog 95 3 3 := by unfold FD; kernel_rfl
theorem fd101_3 : FD Try.prog 101 3 3 := by unfold FD; kernel_rfl
theorem fd95_4 : FD Try.prog 95 4 4 := by unfold FD; kernel_rfl
theorem fd101_4 : FD Try.prog 101 4 4 := by unfold FD; kernel_rfl
theorem ag101 : AG Try.prog 101 true := by unfold AG; kernel_rfl
theorem mk101 {a : Method} {v0 : Sv} {F0 : List Nat} : Mk ow101 F0 (.agg [(.int .i64 a.Rel), v0.v, (.int .i64 a.Limit), (.int .i64 a.Cost), (.int .i64 a.Quota)].toArray) a [cown (OwnS 3 (roE rdInt)) F0 v0.v a.Inputs] :=
  ⟨fun H h => ⟨v0, F0, rfl, rfl, h (cown (OwnS 3 (roE rdInt)) F0 v0.v a.Inputs) (by simp)⟩, by simp [cown]⟩
theorem cf18 : CF Try.prog 18 := fun _ _ => Try.call18 _ _
theorem sl33 : SL Try.prog 33 100 := by unfold SL; kernel_rfl
theorem ty100 : TY Try.prog 100 2 32 (.agg [(.int .i64 0), (.slice none 0 0)].toArray) := by unfold TY; kernel_rfl
def rd100 (H : AHeap) (v : Value) (a : Access) : Prop := ∃ v0 : Sv, v = .agg [(.int .i64 a.Method), v0.v].toArray ∧ (RdS 3 rdInt) H v0.v a.Values
instance : Mono rd100 := ⟨fun h hi => by
  obtain ⟨v0, h, h0⟩ := h
  exact ⟨v0, h, Mono.up h0 hi⟩⟩
instance : Cells rd100 2 := ⟨fun h => by
  obtain ⟨v0, rfl, h0⟩ := h
  exact ⟨rfl, rfl⟩⟩
def ow100 : ORel Access := fun F H v a => ∃ (v0 : Sv) (F0 : List Nat), v = .agg [(.int .i64 a.Method), v0.v].toArray ∧ F0 = F ∧ (OwnS 3 (roE rdInt)) F0 H v0.v a.Values
instance : Keep ow100 := ⟨fun h hi hg => by
  obtain ⟨v0, F0, rfl, rfl, h0⟩ := h
  exact ⟨v0, F0, rfl, rfl, Keep.keep h0 hi (fun k hk => hg k (by simp [hk]))⟩⟩
instance : Local ow100 := ⟨fun h hg => by
  obtain ⟨v0, F0, rfl, rfl, h0⟩ := h
  exact ⟨v0, F0, rfl, rfl, Local.keep h0 (fun k hk => hg k (by simp [hk]))⟩⟩
instance : Owns ow100 := ⟨fun h k hk => by
  obtain ⟨v0, F0, rfl, rfl, h0⟩ := h
  exact Owns.owns h0 k hk
⟩
instance : OCells ow100 2 := ⟨fun h => by
  obtain ⟨v0, F0, rfl, rfl, h0⟩ := h
  exact ⟨rfl, rfl⟩⟩
instance : Frz ow100 rd100 := ⟨fun h hg => by
  obtain ⟨v0, F0, rfl, rfl, h0⟩ := h
  exact ⟨v0, rfl, Frz.frz h0 (fun k hk => hg k (by simp [hk]))⟩⟩
theorem cf54 : CF Try.prog 54 := fun _ _ => Try.call54 _ _
theorem fd98_0 : FD Try.prog 98 0 0 := by unfold FD; kernel_rfl
theorem fd100_0 : FD Try.prog 100 0 0 := by unfold FD; kernel_rfl
theorem fd100_1 : FD Try.prog 100 1 1 := by unfold FD; kernel_rfl
theorem ag100 : AG Try.prog 100 true := by unfold AG; kernel_rfl
theorem mk100 {a : Access} {v0 : Sv} {F0 : List Nat} : Mk ow100 F0 (.agg [(.int .i64 a.Method), v0.v].toArray) a [cown (OwnS 3 (roE rdInt)) F0 v0.v a.Values] :=
  ⟨fun H h => ⟨v0, F0, rfl, rfl, h (cown (OwnS 3 (roE rdInt)) F0 v0.v a.Values) (by simp)⟩, by simp [cown]⟩
theorem cf25 : CF Try.prog 25 := fun _ _ => Try.call25 _ _
theorem cf16 : CF Try.prog 16 := fun _ _ => Try.call16 _ _
theorem ls100_0 {a : Access} : ∀ H e, rd100 H e a → e.cells.toList[0]? = some (.int .i64 a.Method) := by
  intro H e h
  obtain ⟨_, rfl, _⟩ := h
  rfl
theorem cf51 : CF Try.prog 51 := fun _ _ => Try.call51 _ _
theorem ls101_0 {a : Method} : ∀ H e, rd101 H e a → e.cells.toList[0]? = some (.int .i64 a.Rel) := by
  intro H e h
  obtain ⟨_, rfl, _⟩ := h
  rfl
theorem mixed : Try.prog.follows .mixedOrders = true := by kernel_rfl
theorem lv100_1 {a : Access} : ∀ H e, rd100 H e a → ∃ w : Sv, e.cells.toList[1]? = some w.v ∧ (RdS 3 rdInt) H w.v a.Values := by
  intro H e h
  obtain ⟨v0, rfl, h0⟩ := h
  exact ⟨v0, rfl, h0⟩
theorem cf52 : CF Try.prog 52 := fun _ _ => Try.call52 _ _
theorem ni45 : NotInt Try.prog 45 := .inr ⟨3, by kernel_rfl⟩
theorem ni33 : NotInt Try.prog 33 := .inr ⟨100, by kernel_rfl⟩
theorem cf61 : CF Try.prog 61 := fun _ _ => Try.call61 _ _
def ul100_0_100 (a : Access) (p : Sv) : List Value := [(.int .i64 a.Method), p.v]
theorem la100_0_100 {a : Access} : ∀ H e, rd100 H e a → ∃ i : Sv, 0 + 2 ≤ e.cells.size ∧ (e.cells.toList.drop 0).take 2 = ul100_0_100 a i ∧ ∀ c ∈ ([crd (RdS 3 rdInt) i.v a.Values] : List Comp), c.P H ∧ c.F = [] := by
  intro H e h
  obtain ⟨v0, rfl, h0⟩ := h
  refine ⟨v0, Nat.le_of_ble_eq_true rfl, rfl, fun c hc => by
    simp only [List.mem_cons, List.not_mem_nil, or_false] at hc
    rcases hc with rfl
    · exact ⟨h0, rfl⟩
⟩
theorem cf110 : CF Try.prog 110 := fun _ _ => Try.call110 _ _
theorem cf87 : CF Try.prog 87 := fun _ _ => Try.call87 _ _
theorem cf26 : CF Try.prog 26 := fun _ _ => Try.call26 _ _
theorem cf19 : CF Try.prog 19 := fun _ _ => Try.call19 _ _
theorem ty35 : TY Try.prog 35 1 24 (.slice none 0 0) := by unfold TY; kernel_rfl
theorem cf56 : CF Try.prog 56 := fun _ _ => Try.call56 _ _
theorem cf109 : CF Try.prog 109 := fun _ _ => Try.call109 _ _
theorem cf65 : CF Try.prog 65 := fun _ _ => Try.call65 _ _
theorem cf55 : CF Try.prog 55 := fun _ _ => Try.call55 _ _
theorem cf57 : CF Try.prog 57 := fun _ _ => Try.call57 _ _
theorem ag35 : AG Try.prog 35 false := by unfold AG; kernel_rfl
theorem cf58 : CF Try.prog 58 := fun _ _ => Try.call58 _ _
theorem cf108 : CF Try.prog 108 := fun _ _ => Try.call108 _ _
theorem cf62 : CF Try.prog 62 := fun _ _ => Try.call62 _ _
theorem cf111 : CF Try.prog 111 := fun _ _ => Try.call111 _ _
theorem cf112 : CF Try.prog 112 := fun _ _ => Try.call112 _ _
theorem cf96 : CF Try.prog 96 := fun _ _ => Try.call96 _ _
theorem cf21 : CF Try.prog 21 := fun _ _ => Try.call21 _ _
def ul101_0_101 (a : Method) (p : Sv) : List Value := [(.int .i64 a.Rel), p.v, (.int .i64 a.Limit), (.int .i64 a.Cost), (.int .i64 a.Quota)]
theorem la101_0_101 {a : Method} : ∀ H e, rd101 H e a → ∃ i : Sv, 0 + 5 ≤ e.cells.size ∧ (e.cells.toList.drop 0).take 5 = ul101_0_101 a i ∧ ∀ c ∈ ([crd (RdS 3 rdInt) i.v a.Inputs] : List Comp), c.P H ∧ c.F = [] := by
  intro H e h
  obtain ⟨v0, rfl, h0⟩ := h
  refine ⟨v0, Nat.le_of_ble_eq_true rfl, rfl, fun c hc => by
    simp only [List.mem_cons, List.not_mem_nil, or_false] at hc
    rcases hc with rfl
    · exact ⟨h0, rfl⟩
⟩
theorem cf60 : CF Try.prog 60 := fun _ _ => Try.call60 _ _
theorem cf31 : CF Try.prog 31 := fun _ _ => Try.call31 _ _
theorem cf20 : CF Try.prog 20 := fun _ _ => Try.call20 _ _
theorem cf59 : CF Try.prog 59 := fun _ _ => Try.call59 _ _
theorem fa95_0 : fieldAt Try.prog 95 0 = some (3, 0, 1) := by kernel_rfl
theorem fa95_1 : fieldAt Try.prog 95 1 = some (45, 1, 1) := by kernel_rfl
theorem fa95_2 : fieldAt Try.prog 95 2 = some (3, 2, 1) := by kernel_rfl
theorem fa95_3 : fieldAt Try.prog 95 3 = some (3, 3, 1) := by kernel_rfl
theorem fa95_4 : fieldAt Try.prog 95 4 = some (3, 4, 1) := by kernel_rfl
def wf95 (a : Method) : Prop := wfInt a.Rel ∧ (wfSl wfInt) a.Inputs ∧ wfInt a.Limit ∧ wfInt a.Cost ∧ wfInt a.Quota
theorem sh95 : ∀ H v a, rd95 H v a → isAgV v = aggT Try.prog 95 := by
  intro H v a h
  obtain ⟨v1, rfl, _⟩ := h
  kernel_rfl
theorem op95 : Opn Try.prog 95 rd95 wf95 := by
  intro T enc w fuel cs x h hw ρ H hr hF
  have hl := opn_len fa95_0 h (n := 5) ty95.sz.cells
  obtain ⟨ρ0, H0, av0, a0, r0, f0, u0, i0, v0, q0, w0⟩ := opn_field fa95_0 h hw (Opn.int (by kernel_rfl)) hr hF
  obtain ⟨ρ1, H1, av1, a1, r1, f1, u1, i1, v1, q1, w1⟩ := opn_field fa95_1 h hw (Opn.slice (s := 1) (by kernel_rfl) (by kernel_rfl) (by decide) (Nat.lt_of_lt_of_le (by decide) (Nat.le_of_eq (show 8 = _ from by kernel_rfl))) (Opn.int (by kernel_rfl))) r0 f0
  obtain ⟨ρ2, H2, av2, a2, r2, f2, u2, i2, v2, q2, w2⟩ := opn_field fa95_2 h hw (Opn.int (by kernel_rfl)) r1 f1
  obtain ⟨ρ3, H3, av3, a3, r3, f3, u3, i3, v3, q3, w3⟩ := opn_field fa95_3 h hw (Opn.int (by kernel_rfl)) r2 f2
  obtain ⟨ρ4, H4, av4, a4, r4, f4, u4, i4, v4, q4, w4⟩ := opn_field fa95_4 h hw (Opn.int (by kernel_rfl)) r3 f3
  obtain rfl : av0 = (.int .i64 a0) := q0
  replace v0 := v0.up (((u1.trans u2).trans u3).trans u4)
  obtain ⟨sa1, sm1, rfl⟩ := RdS.len q1
  replace v1 := v1.one rfl
  replace v1 := v1.up ((u2.trans u3).trans u4)
  obtain rfl : av2 = (.int .i64 a2) := q2
  replace v2 := v2.up (u3.trans u4)
  obtain rfl : av3 = (.int .i64 a3) := q3
  replace v3 := v3.up u4
  obtain rfl : av4 = (.int .i64 a4) := q4
  have hv := RelVs.field (o := 0) v0 (RelVs.field (o := 1) v1 (RelVs.field (o := 2) v2 (RelVs.field (o := 3) v3 (RelVs.field (o := 4) v4 (RelVs.end hl)))))
  rw [List.drop_zero] at hv
  refine ⟨ρ4, H4, (.agg [(.int .i64 a0), (.slice sa1 a1.length sm1), (.int .i64 a2), (.int .i64 a3), (.int .i64 a4)].toArray : Value), ({ Rel := a0, Inputs := a1, Limit := a2, Cost := a3, Quota := a4 } : Method), r4, f4, ((((u0.trans u1).trans u2).trans u3).trans u4), ((((i0.trans i1).trans i2).trans i3).trans i4), ?_, ?_, w0, w1, w2, w3, w4⟩
  · exact hv
  · exact ⟨⟨sa1, _, sm1⟩, rfl, (Mono.up q1 ((i2.trans i3).trans i4))⟩
theorem fa98_0 : fieldAt Try.prog 98 0 = some (3, 0, 1) := by kernel_rfl
theorem fa98_1 : fieldAt Try.prog 98 1 = some (45, 1, 1) := by kernel_rfl
def wf98 (a : Access) : Prop := wfInt a.Method ∧ (wfSl wfInt) a.Values
theorem sh98 : ∀ H v a, rd98 H v a → isAgV v = aggT Try.prog 98 := by
  intro H v a h
  obtain ⟨v1, rfl, _⟩ := h
  kernel_rfl
theorem op98 : Opn Try.prog 98 rd98 wf98 := by
  intro T enc w fuel cs x h hw ρ H hr hF
  have hl := opn_len fa98_0 h (n := 2) ty98.sz.cells
  obtain ⟨ρ0, H0, av0, a0, r0, f0, u0, i0, v0, q0, w0⟩ := opn_field fa98_0 h hw (Opn.int (by kernel_rfl)) hr hF
  obtain ⟨ρ1, H1, av1, a1, r1, f1, u1, i1, v1, q1, w1⟩ := opn_field fa98_1 h hw (Opn.slice (s := 1) (by kernel_rfl) (by kernel_rfl) (by decide) (Nat.lt_of_lt_of_le (by decide) (Nat.le_of_eq (show 8 = _ from by kernel_rfl))) (Opn.int (by kernel_rfl))) r0 f0
  obtain rfl : av0 = (.int .i64 a0) := q0
  replace v0 := v0.up u1
  obtain ⟨sa1, sm1, rfl⟩ := RdS.len q1
  replace v1 := v1.one rfl
  have hv := RelVs.field (o := 0) v0 (RelVs.field (o := 1) v1 (RelVs.end hl))
  rw [List.drop_zero] at hv
  refine ⟨ρ1, H1, (.agg [(.int .i64 a0), (.slice sa1 a1.length sm1)].toArray : Value), ({ Method := a0, Values := a1 } : Access), r1, f1, (u0.trans u1), (i0.trans i1), ?_, ?_, w0, w1⟩
  · exact hv
  · exact ⟨⟨sa1, _, sm1⟩, rfl, q1⟩

/-! laws.szIntS -/
def l_szIntS (a_a : List Int) (a_left : Int) : Option (Int) :=
  if (decide (((IntKind.i64.wrap (a_left - (a_a.length : Int))) : Int) < 0)) then (
    some (-1))
  else (
    some (IntKind.i64.wrap (a_left - (a_a.length : Int))))
theorem l_szIntS_ok (a_a : List Int) (v0_0 : Sv) (a_left : Int) (R : Int) (hF : l_szIntS a_a a_left = some R) :
    Fw.Spec Try.prog 82 [v0_0.v, (.int .i64 a_left)] [crd (RdS 3 rdInt) v0_0.v a_a] (fun _ : Unit => (.int .i64 R)) (fun _ => []) := by
  refine Spec_enter (n := 12) Try.func82 rfl rfl (rs := [.tmp 4]) rfl rfl rfl ?_
  intro H0 F0
  unfold l_szIntS at hF
  refine K_region ?_
  refine C_val (V_assign (v := (.int .i64 0)) (.int _ _)) ?_
  refine C_nil ?_
  refine K_region ?_
  refine C_val (V_move (v := (.int .i64 a_left)) (.tmp rfl rfl)) ?_
  refine C_val (V_move (v := v0_0.v) (.tmp rfl rfl)) ?_
  refine C_at .h (fun hp => V_lenR (l := a_a.length) sl45 (.tmp rfl rfl) (crd_len hp)) ?_
  refine C_val (V_sub (i := a_left) (j := (a_a.length : Int)) (.tmp rfl rfl) (.tmp rfl rfl)) ?_
  refine C_val (V_assign (v := (.int .i64 (IntKind.i64.wrap (a_left - (a_a.length : Int))))) (.tmp rfl rfl)) ?_
  refine C_nil ?_
  refine K_in ?_
  refine K_region ?_
  refine C_val (V_move (v := (.int .i64 (IntKind.i64.wrap (a_left - (a_a.length : Int))))) (.tmp rfl rfl)) ?_
  refine C_val (V_lss (i := (IntKind.i64.wrap (a_left - (a_a.length : Int)))) (j := 0) (.tmp rfl rfl) (.int _ _)) ?_
  refine C_nil ?_
  refine CW_cond (b := (decide (((IntKind.i64.wrap (a_left - (a_a.length : Int))) : Int) < 0))) (.tmp rfl rfl) (fun hb1 => ?_) (fun hb1 => ?_)
  · rw [if_pos hb1] at hF
    refine K_region ?_
    refine C_val (V_assign (v := (.int .i64 (-1))) (.int _ _)) ?_
    refine C_nil ?_
    refine CW_ret ?_
    obtain rfl := Option.some.inj hF
    exact End_ret () (.tmp rfl rfl .nil) rfl (.sel .nil)
  rw [if_neg (by rw [hb1]; exact Bool.false_ne_true)] at hF
  refine CW_skip ?_
  refine K_region ?_
  refine C_val (V_move (v := (.int .i64 (IntKind.i64.wrap (a_left - (a_a.length : Int))))) (.tmp rfl rfl)) ?_
  refine C_val (V_assign (v := (.int .i64 (IntKind.i64.wrap (a_left - (a_a.length : Int))))) (.tmp rfl rfl)) ?_
  refine C_nil ?_
  refine CW_ret ?_
  obtain rfl := Option.some.inj hF
  exact End_ret () (.tmp rfl rfl .nil) rfl (.sel .nil)

/-! laws.szMethod -/
def l_szMethod (a_a : Method) (a_left : Int) : Option (Int) :=
  (l_szIntS a_a.Inputs a_left).bind fun r2 =>
  if (decide ((r2 : Int) < 0)) then (
    some (-1))
  else (
    some r2)
theorem l_szMethod_ok (a_a : Method) (v0_1 : Sv) (a_left : Int) (R : Int) (hF : l_szMethod a_a a_left = some R) :
    Fw.Spec Try.prog 49 [(.agg [(.int .i64 a_a.Rel), v0_1.v, (.int .i64 a_a.Limit), (.int .i64 a_a.Cost), (.int .i64 a_a.Quota)].toArray), (.int .i64 a_left)] [crd (RdS 3 rdInt) v0_1.v a_a.Inputs] (fun _ : Unit => (.int .i64 R)) (fun _ => []) := by
  refine Spec_enter (n := 12) Try.func49 rfl rfl (rs := [.tmp 4]) rfl rfl rfl ?_
  intro H0 F0
  unfold l_szMethod at hF
  refine K_region ?_
  refine C_newR rfl (N_box (g := false) (v := (.agg [(.int .i64 a_a.Rel), v0_1.v, (.int .i64 a_a.Limit), (.int .i64 a_a.Cost), (.int .i64 a_a.Quota)].toArray)) ty95.sz (.tmp rfl rfl) rfl) (fun k1 => ?_)
  refine C_val (V_assign (v := (.int .i64 0)) (.int _ _)) ?_
  refine C_nil ?_
  refine K_region ?_
  refine C_val (V_fieldAddr (off := 1) fd95_1 (.tmp rfl rfl)) ?_
  refine C_at .h (fun hp => V_load (v := v0_1.v) ag45 (.tmp rfl rfl) hp.2 rfl rfl) ?_
  refine C_val (V_move (v := (.int .i64 a_left)) (.tmp rfl rfl)) ?_
  obtain ⟨r2, hx3, hF⟩ := bind_some hF
  refine C_x0 (.rd (.t .h) rfl .nil) (X_callS cf82 (.cons (.tmp rfl rfl) (.cons (.tmp rfl rfl) .nil)) (l_szIntS_ok a_a.Inputs v0_1 a_left _ hx3)) (fun _ => ?_)
  refine C_val (V_assign (v := (.int .i64 r2)) (.tmp rfl rfl)) ?_
  refine C_nil ?_
  refine K_in ?_
  refine K_region ?_
  refine C_val (V_move (v := (.int .i64 r2)) (.tmp rfl rfl)) ?_
  refine C_val (V_lss (i := r2) (j := 0) (.tmp rfl rfl) (.int _ _)) ?_
  refine C_nil ?_
  refine CW_cond (b := (decide ((r2 : Int) < 0))) (.tmp rfl rfl) (fun hb5 => ?_) (fun hb5 => ?_)
  · rw [if_pos hb5] at hF
    refine K_region ?_
    refine C_val (V_assign (v := (.int .i64 (-1))) (.int _ _)) ?_
    refine C_nil ?_
    refine CW_ret ?_
    obtain rfl := Option.some.inj hF
    exact End_ret () (.tmp rfl rfl .nil) rfl (.sel .nil)
  rw [if_neg (by rw [hb5]; exact Bool.false_ne_true)] at hF
  refine CW_skip ?_
  refine K_region ?_
  refine C_val (V_move (v := (.int .i64 r2)) (.tmp rfl rfl)) ?_
  refine C_val (V_assign (v := (.int .i64 r2)) (.tmp rfl rfl)) ?_
  refine C_nil ?_
  refine CW_ret ?_
  obtain rfl := Option.some.inj hF
  exact End_ret () (.tmp rfl rfl .nil) rfl (.sel .nil)

/-! laws.szMethodS -/
def l_szMethodS_L1 : List Method → Nat → Int → Option (Int)
  | [], k5, c1 => some c1
  | x7 :: rest6, k5, c1 => (l_szMethod x7 c1).bind fun r17 =>
    if (decide ((r17 : Int) < 0)) then (
      some (-1))
    else (
      l_szMethodS_L1 rest6 (k5 + 1) r17)
def l_szMethodS (a_a : List Method) (a_left : Int) : Option (Int) :=
  if (decide (((IntKind.i64.wrap (a_left - (a_a.length : Int))) : Int) < 0)) then (
    some (-1))
  else (
    l_szMethodS_L1 a_a 0 (IntKind.i64.wrap (a_left - (a_a.length : Int))))
theorem l_szMethodS_ok (a_a : List Method) (v0_0 : Sv) (a_left : Int) (R : Int) (hF : l_szMethodS a_a a_left = some R) :
    Fw.Spec Try.prog 14 [v0_0.v, (.int .i64 a_left)] [crd (RdS 95 rd95) v0_0.v a_a] (fun _ : Unit => (.int .i64 R)) (fun _ => []) := by
  refine Spec_enter (n := 27) Try.func14 rfl rfl (rs := [.tmp 4]) rfl rfl rfl ?_
  intro H0 F0
  unfold l_szMethodS at hF
  refine K_region ?_
  refine C_val (V_assign (v := (.int .i64 0)) (.int _ _)) ?_
  refine C_nil ?_
  refine K_region ?_
  refine C_val (V_move (v := (.int .i64 a_left)) (.tmp rfl rfl)) ?_
  refine C_val (V_move (v := v0_0.v) (.tmp rfl rfl)) ?_
  refine C_at .h (fun hp => V_lenR (l := a_a.length) sl29 (.tmp rfl rfl) (crd_len hp)) ?_
  refine C_val (V_sub (i := a_left) (j := (a_a.length : Int)) (.tmp rfl rfl) (.tmp rfl rfl)) ?_
  refine C_val (V_assign (v := (.int .i64 (IntKind.i64.wrap (a_left - (a_a.length : Int))))) (.tmp rfl rfl)) ?_
  refine C_nil ?_
  refine K_in ?_
  refine K_region ?_
  refine C_val (V_move (v := (.int .i64 (IntKind.i64.wrap (a_left - (a_a.length : Int))))) (.tmp rfl rfl)) ?_
  refine C_val (V_lss (i := (IntKind.i64.wrap (a_left - (a_a.length : Int)))) (j := 0) (.tmp rfl rfl) (.int _ _)) ?_
  refine C_nil ?_
  refine CW_cond (b := (decide (((IntKind.i64.wrap (a_left - (a_a.length : Int))) : Int) < 0))) (.tmp rfl rfl) (fun hb22 => ?_) (fun hb22 => ?_)
  · rw [if_pos hb22] at hF
    refine K_region ?_
    refine C_val (V_assign (v := (.int .i64 (-1))) (.int _ _)) ?_
    refine C_nil ?_
    refine CW_ret ?_
    obtain rfl := Option.some.inj hF
    exact End_ret () (.tmp rfl rfl .nil) rfl (.sel .nil)
  rw [if_neg (by rw [hb22]; exact Bool.false_ne_true)] at hF
  refine CW_skip ?_
  refine K_in ?_
  refine K_region ?_
  refine C_val (V_assign (v := (.int .i64 0)) (.int _ _)) ?_
  refine C_nil ?_
  refine CW_block ?_
  refine CW_loop (m := a_a.length) (fun m3 f' cs' => ∃ (g : Fr) (k5 : Nat) (rest6 : List Method) (c1 : Int), m3 = rest6.length ∧ f' = updL g [(0, v0_0.v), (1, (.int .i64 c1)), (5, (.int .i64 (k5 : Int)))] ∧ List.drop k5 a_a = rest6 ∧ Ent cs' [crd (RdS 95 rd95) v0_0.v a_a] ∧ l_szMethodS_L1 rest6 k5 c1 = some R) ⟨_, 0, _, _, rfl, (EqL.cons rfl (EqL.cons rfl (EqL.cons rfl (EqL.nil)))).eq, rfl, (.sel (.rd .h rfl .nil)), hF⟩ ?_
  clear hF
  rintro m3 _ _ ⟨g4, k5, rest6, c1, rfl, rfl, hd8, hE, hF⟩
  refine K_ent hE ?_
  clear hE
  refine K_pure (c := crd (RdS 95 rd95) v0_0.v a_a) .h crd_bound (fun hbd13 => ?_)
  rcases rest6 with _ | ⟨x7, rest6⟩
  · have hk9 := List.drop_eq_nil_iff.1 hd8
    have hfe12 : (decide (((k5 : Int) : Int) < (a_a.length : Int))) = false := decide_eq_false (by omega)
    rw [l_szMethodS_L1] at hF
    refine K_in ?_
    refine K_region ?_
    refine C_val (V_move (v := (.int .i64 (k5 : Int))) (.tmp rfl rfl)) ?_
    refine C_val (V_move (v := v0_0.v) (.tmp rfl rfl)) ?_
    refine C_at .h (fun hp => V_lenR (l := a_a.length) sl29 (.tmp rfl rfl) (crd_len hp)) ?_
    refine C_val (V_lss (i := (k5 : Int)) (j := (a_a.length : Int)) (.tmp rfl rfl) (.tmp rfl rfl)) ?_
    refine C_nil ?_
    refine CW_cond (b := (decide (((k5 : Int) : Int) < (a_a.length : Int)))) (.tmp rfl rfl) (fun hb => absurd (hfe12.symm.trans hb) (by decide)) (fun _ => ?_)
    refine CW_exit ?_
    refine CThen_exit ?_
    refine CThen_exit ?_
    refine CIn_self ?_
    refine K_region ?_
    refine C_val (V_move (v := (.int .i64 c1)) (.tmp rfl rfl)) ?_
    refine C_val (V_assign (v := (.int .i64 c1)) (.tmp rfl rfl)) ?_
    refine C_nil ?_
    refine CW_ret ?_
    obtain rfl := Option.some.inj hF
    exact End_ret () (.tmp rfl rfl .nil) rfl (.sel .nil)
  obtain ⟨hk9, hx10, hd11⟩ := drop_cons hd8
  have hfe12 : (decide (((k5 : Int) : Int) < (a_a.length : Int))) = true := decide_eq_true (by omega)
  rw [l_szMethodS_L1] at hF
  refine K_in ?_
  refine K_region ?_
  refine C_val (V_move (v := (.int .i64 (k5 : Int))) (.tmp rfl rfl)) ?_
  refine C_val (V_move (v := v0_0.v) (.tmp rfl rfl)) ?_
  refine C_at .h (fun hp => V_lenR (l := a_a.length) sl29 (.tmp rfl rfl) (crd_len hp)) ?_
  refine C_val (V_lss (i := (k5 : Int)) (j := (a_a.length : Int)) (.tmp rfl rfl) (.tmp rfl rfl)) ?_
  refine C_nil ?_
  refine CW_cond (b := (decide (((k5 : Int) : Int) < (a_a.length : Int)))) (.tmp rfl rfl) (fun _ => ?_) (fun hb => absurd (hfe12.symm.trans hb) (by decide))
  refine CW_skip ?_
  refine K_block ?_
  refine K_region ?_
  refine C_val (V_move (v := v0_0.v) (.tmp rfl rfl)) ?_
  refine C_val (V_move (v := (.int .i64 (k5 : Int))) (.tmp rfl rfl)) ?_
  refine C_idx (a := x7) sl29 ty95.sz (.tmp rfl rfl) (.tmp rfl rfl) .h (Int.natCast_nonneg k5) hx10 (fun k14 j15 => ?_)
  refine C_ldA1 (ul95_0_95 x7) ag95 ty95.sz rfl (.tmp rfl rfl) .h la95_0_95 (fun p16 => ?_)
  refine C_val (V_move (v := (.int .i64 c1)) (.tmp rfl rfl)) ?_
  obtain ⟨r17, hx18, hF⟩ := bind_some hF
  refine C_x0 (.rd .h rfl .nil) (X_callS cf49 (.cons (.tmp rfl rfl) (.cons (.tmp rfl rfl) .nil)) (l_szMethod_ok x7 p16 c1 _ hx18)) (fun _ => ?_)
  refine C_val (V_assign (v := (.int .i64 r17)) (.tmp rfl rfl)) ?_
  refine C_nil ?_
  refine K_region ?_
  refine C_val (V_move (v := (.int .i64 r17)) (.tmp rfl rfl)) ?_
  refine C_val (V_lss (i := r17) (j := 0) (.tmp rfl rfl) (.int _ _)) ?_
  refine C_nil ?_
  refine CW_cond (b := (decide ((r17 : Int) < 0))) (.tmp rfl rfl) (fun hb21 => ?_) (fun hb21 => ?_)
  · rw [if_pos hb21] at hF
    refine K_region ?_
    refine C_val (V_assign (v := (.int .i64 (-1))) (.int _ _)) ?_
    refine C_nil ?_
    refine CW_ret ?_
    obtain rfl := Option.some.inj hF
    exact End_ret () (.tmp rfl rfl .nil) rfl (.sel .nil)
  rw [if_neg (by rw [hb21]; exact Bool.false_ne_true)] at hF
  refine CW_skip ?_
  refine CW_region ?_
  refine C_val (V_move (v := (.int .i64 (k5 : Int))) (.tmp rfl rfl)) ?_
  refine C_val (V_add (i := (k5 : Int)) (j := 1) (.tmp rfl rfl) (.int _ _)) ?_
  refine C_val (V_assign (v := (.int .i64 (IntKind.i64.wrap ((k5 : Int) + 1)))) (.tmp rfl rfl)) ?_
  refine C_nil ?_
  have hw20 : IntKind.i64.wrap ((k5 : Int) + 1) = ((k5 + 1 : Nat) : Int) := by rw [wrap_in (by omega) (by omega)]; rfl
  rw [hw20]
  exact ⟨_, Nat.lt_succ_self _, _, k5 + 1, rest6, _, rfl, (EqL.cons rfl (EqL.cons rfl (EqL.cons rfl (EqL.nil)))).eq, hd11, (.sel (.rd (.t (.t .h)) rfl .nil)), hF⟩

/-! laws.szAccess -/
def l_szAccess (a_a : Access) (a_left : Int) : Option (Int) :=
  (l_szIntS a_a.Values a_left).bind fun r2 =>
  if (decide ((r2 : Int) < 0)) then (
    some (-1))
  else (
    some r2)
theorem l_szAccess_ok (a_a : Access) (v0_1 : Sv) (a_left : Int) (R : Int) (hF : l_szAccess a_a a_left = some R) :
    Fw.Spec Try.prog 50 [(.agg [(.int .i64 a_a.Method), v0_1.v].toArray), (.int .i64 a_left)] [crd (RdS 3 rdInt) v0_1.v a_a.Values] (fun _ : Unit => (.int .i64 R)) (fun _ => []) := by
  refine Spec_enter (n := 12) Try.func50 rfl rfl (rs := [.tmp 4]) rfl rfl rfl ?_
  intro H0 F0
  unfold l_szAccess at hF
  refine K_region ?_
  refine C_newR rfl (N_box (g := false) (v := (.agg [(.int .i64 a_a.Method), v0_1.v].toArray)) ty98.sz (.tmp rfl rfl) rfl) (fun k1 => ?_)
  refine C_val (V_assign (v := (.int .i64 0)) (.int _ _)) ?_
  refine C_nil ?_
  refine K_region ?_
  refine C_val (V_fieldAddr (off := 1) fd98_1 (.tmp rfl rfl)) ?_
  refine C_at .h (fun hp => V_load (v := v0_1.v) ag45 (.tmp rfl rfl) hp.2 rfl rfl) ?_
  refine C_val (V_move (v := (.int .i64 a_left)) (.tmp rfl rfl)) ?_
  obtain ⟨r2, hx3, hF⟩ := bind_some hF
  refine C_x0 (.rd (.t .h) rfl .nil) (X_callS cf82 (.cons (.tmp rfl rfl) (.cons (.tmp rfl rfl) .nil)) (l_szIntS_ok a_a.Values v0_1 a_left _ hx3)) (fun _ => ?_)
  refine C_val (V_assign (v := (.int .i64 r2)) (.tmp rfl rfl)) ?_
  refine C_nil ?_
  refine K_in ?_
  refine K_region ?_
  refine C_val (V_move (v := (.int .i64 r2)) (.tmp rfl rfl)) ?_
  refine C_val (V_lss (i := r2) (j := 0) (.tmp rfl rfl) (.int _ _)) ?_
  refine C_nil ?_
  refine CW_cond (b := (decide ((r2 : Int) < 0))) (.tmp rfl rfl) (fun hb5 => ?_) (fun hb5 => ?_)
  · rw [if_pos hb5] at hF
    refine K_region ?_
    refine C_val (V_assign (v := (.int .i64 (-1))) (.int _ _)) ?_
    refine C_nil ?_
    refine CW_ret ?_
    obtain rfl := Option.some.inj hF
    exact End_ret () (.tmp rfl rfl .nil) rfl (.sel .nil)
  rw [if_neg (by rw [hb5]; exact Bool.false_ne_true)] at hF
  refine CW_skip ?_
  refine K_region ?_
  refine C_val (V_move (v := (.int .i64 r2)) (.tmp rfl rfl)) ?_
  refine C_val (V_assign (v := (.int .i64 r2)) (.tmp rfl rfl)) ?_
  refine C_nil ?_
  refine CW_ret ?_
  obtain rfl := Option.some.inj hF
  exact End_ret () (.tmp rfl rfl .nil) rfl (.sel .nil)

/-! laws.szAccessS -/
def l_szAccessS_L1 : List Access → Nat → Int → Option (Int)
  | [], k5, c1 => some c1
  | x7 :: rest6, k5, c1 => (l_szAccess x7 c1).bind fun r17 =>
    if (decide ((r17 : Int) < 0)) then (
      some (-1))
    else (
      l_szAccessS_L1 rest6 (k5 + 1) r17)
def l_szAccessS (a_a : List Access) (a_left : Int) : Option (Int) :=
  if (decide (((IntKind.i64.wrap (a_left - (a_a.length : Int))) : Int) < 0)) then (
    some (-1))
  else (
    l_szAccessS_L1 a_a 0 (IntKind.i64.wrap (a_left - (a_a.length : Int))))
theorem l_szAccessS_ok (a_a : List Access) (v0_0 : Sv) (a_left : Int) (R : Int) (hF : l_szAccessS a_a a_left = some R) :
    Fw.Spec Try.prog 15 [v0_0.v, (.int .i64 a_left)] [crd (RdS 98 rd98) v0_0.v a_a] (fun _ : Unit => (.int .i64 R)) (fun _ => []) := by
  refine Spec_enter (n := 27) Try.func15 rfl rfl (rs := [.tmp 4]) rfl rfl rfl ?_
  intro H0 F0
  unfold l_szAccessS at hF
  refine K_region ?_
  refine C_val (V_assign (v := (.int .i64 0)) (.int _ _)) ?_
  refine C_nil ?_
  refine K_region ?_
  refine C_val (V_move (v := (.int .i64 a_left)) (.tmp rfl rfl)) ?_
  refine C_val (V_move (v := v0_0.v) (.tmp rfl rfl)) ?_
  refine C_at .h (fun hp => V_lenR (l := a_a.length) sl30 (.tmp rfl rfl) (crd_len hp)) ?_
  refine C_val (V_sub (i := a_left) (j := (a_a.length : Int)) (.tmp rfl rfl) (.tmp rfl rfl)) ?_
  refine C_val (V_assign (v := (.int .i64 (IntKind.i64.wrap (a_left - (a_a.length : Int))))) (.tmp rfl rfl)) ?_
  refine C_nil ?_
  refine K_in ?_
  refine K_region ?_
  refine C_val (V_move (v := (.int .i64 (IntKind.i64.wrap (a_left - (a_a.length : Int))))) (.tmp rfl rfl)) ?_
  refine C_val (V_lss (i := (IntKind.i64.wrap (a_left - (a_a.length : Int)))) (j := 0) (.tmp rfl rfl) (.int _ _)) ?_
  refine C_nil ?_
  refine CW_cond (b := (decide (((IntKind.i64.wrap (a_left - (a_a.length : Int))) : Int) < 0))) (.tmp rfl rfl) (fun hb22 => ?_) (fun hb22 => ?_)
  · rw [if_pos hb22] at hF
    refine K_region ?_
    refine C_val (V_assign (v := (.int .i64 (-1))) (.int _ _)) ?_
    refine C_nil ?_
    refine CW_ret ?_
    obtain rfl := Option.some.inj hF
    exact End_ret () (.tmp rfl rfl .nil) rfl (.sel .nil)
  rw [if_neg (by rw [hb22]; exact Bool.false_ne_true)] at hF
  refine CW_skip ?_
  refine K_in ?_
  refine K_region ?_
  refine C_val (V_assign (v := (.int .i64 0)) (.int _ _)) ?_
  refine C_nil ?_
  refine CW_block ?_
  refine CW_loop (m := a_a.length) (fun m3 f' cs' => ∃ (g : Fr) (k5 : Nat) (rest6 : List Access) (c1 : Int), m3 = rest6.length ∧ f' = updL g [(0, v0_0.v), (1, (.int .i64 c1)), (5, (.int .i64 (k5 : Int)))] ∧ List.drop k5 a_a = rest6 ∧ Ent cs' [crd (RdS 98 rd98) v0_0.v a_a] ∧ l_szAccessS_L1 rest6 k5 c1 = some R) ⟨_, 0, _, _, rfl, (EqL.cons rfl (EqL.cons rfl (EqL.cons rfl (EqL.nil)))).eq, rfl, (.sel (.rd .h rfl .nil)), hF⟩ ?_
  clear hF
  rintro m3 _ _ ⟨g4, k5, rest6, c1, rfl, rfl, hd8, hE, hF⟩
  refine K_ent hE ?_
  clear hE
  refine K_pure (c := crd (RdS 98 rd98) v0_0.v a_a) .h crd_bound (fun hbd13 => ?_)
  rcases rest6 with _ | ⟨x7, rest6⟩
  · have hk9 := List.drop_eq_nil_iff.1 hd8
    have hfe12 : (decide (((k5 : Int) : Int) < (a_a.length : Int))) = false := decide_eq_false (by omega)
    rw [l_szAccessS_L1] at hF
    refine K_in ?_
    refine K_region ?_
    refine C_val (V_move (v := (.int .i64 (k5 : Int))) (.tmp rfl rfl)) ?_
    refine C_val (V_move (v := v0_0.v) (.tmp rfl rfl)) ?_
    refine C_at .h (fun hp => V_lenR (l := a_a.length) sl30 (.tmp rfl rfl) (crd_len hp)) ?_
    refine C_val (V_lss (i := (k5 : Int)) (j := (a_a.length : Int)) (.tmp rfl rfl) (.tmp rfl rfl)) ?_
    refine C_nil ?_
    refine CW_cond (b := (decide (((k5 : Int) : Int) < (a_a.length : Int)))) (.tmp rfl rfl) (fun hb => absurd (hfe12.symm.trans hb) (by decide)) (fun _ => ?_)
    refine CW_exit ?_
    refine CThen_exit ?_
    refine CThen_exit ?_
    refine CIn_self ?_
    refine K_region ?_
    refine C_val (V_move (v := (.int .i64 c1)) (.tmp rfl rfl)) ?_
    refine C_val (V_assign (v := (.int .i64 c1)) (.tmp rfl rfl)) ?_
    refine C_nil ?_
    refine CW_ret ?_
    obtain rfl := Option.some.inj hF
    exact End_ret () (.tmp rfl rfl .nil) rfl (.sel .nil)
  obtain ⟨hk9, hx10, hd11⟩ := drop_cons hd8
  have hfe12 : (decide (((k5 : Int) : Int) < (a_a.length : Int))) = true := decide_eq_true (by omega)
  rw [l_szAccessS_L1] at hF
  refine K_in ?_
  refine K_region ?_
  refine C_val (V_move (v := (.int .i64 (k5 : Int))) (.tmp rfl rfl)) ?_
  refine C_val (V_move (v := v0_0.v) (.tmp rfl rfl)) ?_
  refine C_at .h (fun hp => V_lenR (l := a_a.length) sl30 (.tmp rfl rfl) (crd_len hp)) ?_
  refine C_val (V_lss (i := (k5 : Int)) (j := (a_a.length : Int)) (.tmp rfl rfl) (.tmp rfl rfl)) ?_
  refine C_nil ?_
  refine CW_cond (b := (decide (((k5 : Int) : Int) < (a_a.length : Int)))) (.tmp rfl rfl) (fun _ => ?_) (fun hb => absurd (hfe12.symm.trans hb) (by decide))
  refine CW_skip ?_
  refine K_block ?_
  refine K_region ?_
  refine C_val (V_move (v := v0_0.v) (.tmp rfl rfl)) ?_
  refine C_val (V_move (v := (.int .i64 (k5 : Int))) (.tmp rfl rfl)) ?_
  refine C_idx (a := x7) sl30 ty98.sz (.tmp rfl rfl) (.tmp rfl rfl) .h (Int.natCast_nonneg k5) hx10 (fun k14 j15 => ?_)
  refine C_ldA1 (ul98_0_98 x7) ag98 ty98.sz rfl (.tmp rfl rfl) .h la98_0_98 (fun p16 => ?_)
  refine C_val (V_move (v := (.int .i64 c1)) (.tmp rfl rfl)) ?_
  obtain ⟨r17, hx18, hF⟩ := bind_some hF
  refine C_x0 (.rd .h rfl .nil) (X_callS cf50 (.cons (.tmp rfl rfl) (.cons (.tmp rfl rfl) .nil)) (l_szAccess_ok x7 p16 c1 _ hx18)) (fun _ => ?_)
  refine C_val (V_assign (v := (.int .i64 r17)) (.tmp rfl rfl)) ?_
  refine C_nil ?_
  refine K_region ?_
  refine C_val (V_move (v := (.int .i64 r17)) (.tmp rfl rfl)) ?_
  refine C_val (V_lss (i := r17) (j := 0) (.tmp rfl rfl) (.int _ _)) ?_
  refine C_nil ?_
  refine CW_cond (b := (decide ((r17 : Int) < 0))) (.tmp rfl rfl) (fun hb21 => ?_) (fun hb21 => ?_)
  · rw [if_pos hb21] at hF
    refine K_region ?_
    refine C_val (V_assign (v := (.int .i64 (-1))) (.int _ _)) ?_
    refine C_nil ?_
    refine CW_ret ?_
    obtain rfl := Option.some.inj hF
    exact End_ret () (.tmp rfl rfl .nil) rfl (.sel .nil)
  rw [if_neg (by rw [hb21]; exact Bool.false_ne_true)] at hF
  refine CW_skip ?_
  refine CW_region ?_
  refine C_val (V_move (v := (.int .i64 (k5 : Int))) (.tmp rfl rfl)) ?_
  refine C_val (V_add (i := (k5 : Int)) (j := 1) (.tmp rfl rfl) (.int _ _)) ?_
  refine C_val (V_assign (v := (.int .i64 (IntKind.i64.wrap ((k5 : Int) + 1)))) (.tmp rfl rfl)) ?_
  refine C_nil ?_
  have hw20 : IntKind.i64.wrap ((k5 : Int) + 1) = ((k5 + 1 : Nat) : Int) := by rw [wrap_in (by omega) (by omega)]; rfl
  rw [hw20]
  exact ⟨_, Nat.lt_succ_self _, _, k5 + 1, rest6, _, rfl, (EqL.cons rfl (EqL.cons rfl (EqL.cons rfl (EqL.nil)))).eq, hd11, (.sel (.rd (.t (.t .h)) rfl .nil)), hF⟩

/-! laws.toIntS -/
def l_toIntS_L1 : List Int → Nat → (List Int) → Option ((List Int))
  | [], k32, c27 => some c27
  | x34 :: rest33, k32, c27 => (chk (decide (0 ≤ (k32 : Int)) && decide ((k32 : Int) < (c27.length : Int)))).bind fun u46 =>
    (some (c27.set ((k32 : Int)).toNat x34)).bind fun z48 =>
    l_toIntS_L1 rest33 (k32 + 1) z48
def l_toIntS (a_a : List Int) : Option ((List Int)) :=
  (mkz (a_a.length : Int) (0 : Int)).bind fun z1 =>
  l_toIntS_L1 a_a 0 z1
theorem l_toIntS_ok (a_a : List Int) (v0_0 : Sv) (R : (List Int)) (hF : l_toIntS a_a = some R) :
    Fw.Spec Try.prog 28 [v0_0.v] [crd (RdS 3 rdInt) v0_0.v a_a] (fun p : Sv × List Nat => p.1.v) (fun p => [cown (OwnS 3 (roE rdInt)) p.2 p.1.v R]) := by
  refine Spec_enter (n := 22) Try.func28 rfl rfl (rs := [.tmp 2]) rfl rfl rfl ?_
  intro H0 F0
  unfold l_toIntS at hF
  refine K_region ?_
  refine C_val (V_assign (v := (.slice none 0 0)) EV.nilSlice) ?_
  refine C_nil ?_
  refine K_region ?_
  refine C_val (V_move (v := v0_0.v) (.tmp rfl rfl)) ?_
  refine C_at .h (fun hp => V_lenR (l := a_a.length) sl45 (.tmp rfl rfl) (crd_len hp)) ?_
  obtain ⟨z1, hx2, hF⟩ := bind_some hF
  have hm3 := mkz_some hx2
  refine C_new rfl (N_makeSlice (g := true) (c := (a_a.length : Int)) sl45 ty3 rfl rfl (by decide) (.tmp rfl rfl) hm3.2.1 hm3.2.2) (fun k4 => ?_)
  refine C_conv (.cons .h .nil) (own_make (Ro := (roE rdInt)) (E := 3) (a := (0 : Int)) hx2 (fun _ => ⟨rfl, rfl⟩)) apps ?_
  refine C_val (V_assign (v := (.slice (some ⟨k4, 0, none⟩) (a_a.length : Int).toNat 1)) (.tmp rfl rfl)) ?_
  refine C_nil ?_
  refine K_in ?_
  refine K_region ?_
  refine C_val (V_assign (v := (.int .i64 0)) (.int _ _)) ?_
  refine C_nil ?_
  refine CW_block ?_
  refine CW_loop (m := a_a.length) (fun m30 f' cs' => ∃ (g : Fr) (k32 : Nat) (rest33 : List Int) (c27 : List Int) (F28 : List Nat), m30 = rest33.length ∧ f' = updL g [(0, v0_0.v), (3, (.slice (some ⟨k4, 0, none⟩) (a_a.length : Int).toNat 1)), (4, (.int .i64 (k32 : Int)))] ∧ List.drop k32 a_a = rest33 ∧ Ent cs' [crd (RdS 3 rdInt) v0_0.v a_a, cown (OwnS 3 (roE rdInt)) F28 (.slice (some ⟨k4, 0, none⟩) (a_a.length : Int).toNat 1) c27] ∧ l_toIntS_L1 rest33 k32 c27 = some R) ⟨_, 0, _, _, [k4], rfl, (EqL.cons rfl (EqL.cons rfl (EqL.cons rfl (EqL.nil)))).eq, rfl, (.sel (.rd (.t .h) rfl (.cons .h .nil))), hF⟩ ?_
  clear hF
  rintro m30 _ _ ⟨g31, k32, rest33, c27, F28, rfl, rfl, hd35, hE, hF⟩
  refine K_ent hE ?_
  clear hE
  refine K_pure (c := crd (RdS 3 rdInt) v0_0.v a_a) .h crd_bound (fun hbd40 => ?_)
  rcases rest33 with _ | ⟨x34, rest33⟩
  · have hk36 := List.drop_eq_nil_iff.1 hd35
    have hfe39 : (decide (((k32 : Int) : Int) < (a_a.length : Int))) = false := decide_eq_false (by omega)
    rw [l_toIntS_L1] at hF
    refine K_in ?_
    refine K_region ?_
    refine C_val (V_move (v := (.int .i64 (k32 : Int))) (.tmp rfl rfl)) ?_
    refine C_val (V_move (v := v0_0.v) (.tmp rfl rfl)) ?_
    refine C_at .h (fun hp => V_lenR (l := a_a.length) sl45 (.tmp rfl rfl) (crd_len hp)) ?_
    refine C_val (V_lss (i := (k32 : Int)) (j := (a_a.length : Int)) (.tmp rfl rfl) (.tmp rfl rfl)) ?_
    refine C_nil ?_
    refine CW_cond (b := (decide (((k32 : Int) : Int) < (a_a.length : Int)))) (.tmp rfl rfl) (fun hb => absurd (hfe39.symm.trans hb) (by decide)) (fun _ => ?_)
    refine CW_exit ?_
    refine CThen_exit ?_
    refine CThen_exit ?_
    refine CIn_self ?_
    refine K_region ?_
    refine C_val (V_move (v := (.slice (some ⟨k4, 0, none⟩) (a_a.length : Int).toNat 1)) (.tmp rfl rfl)) ?_
    refine C_val (V_assign (v := (.slice (some ⟨k4, 0, none⟩) (a_a.length : Int).toNat 1)) (.tmp rfl rfl)) ?_
    refine C_nil ?_
    refine CW_ret ?_
    obtain rfl := Option.some.inj hF
    exact End_ret (⟨(some ⟨k4, 0, none⟩), (a_a.length : Int).toNat, 1⟩, F28) (.tmp rfl rfl .nil) rfl (.sel (.cons (.t .h) .nil))
  obtain ⟨hk36, hx37, hd38⟩ := drop_cons hd35
  have hfe39 : (decide (((k32 : Int) : Int) < (a_a.length : Int))) = true := decide_eq_true (by omega)
  rw [l_toIntS_L1] at hF
  refine K_in ?_
  refine K_region ?_
  refine C_val (V_move (v := (.int .i64 (k32 : Int))) (.tmp rfl rfl)) ?_
  refine C_val (V_move (v := v0_0.v) (.tmp rfl rfl)) ?_
  refine C_at .h (fun hp => V_lenR (l := a_a.length) sl45 (.tmp rfl rfl) (crd_len hp)) ?_
  refine C_val (V_lss (i := (k32 : Int)) (j := (a_a.length : Int)) (.tmp rfl rfl) (.tmp rfl rfl)) ?_
  refine C_nil ?_
  refine CW_cond (b := (decide (((k32 : Int) : Int) < (a_a.length : Int)))) (.tmp rfl rfl) (fun _ => ?_) (fun hb => absurd (hfe39.symm.trans hb) (by decide))
  refine CW_skip ?_
  refine K_block ?_
  refine CW_region ?_
  refine C_val (V_move (v := (.slice (some ⟨k4, 0, none⟩) (a_a.length : Int).toNat 1)) (.tmp rfl rfl)) ?_
  refine C_val (V_move (v := (.int .i64 (k32 : Int))) (.tmp rfl rfl)) ?_
  refine C_val (V_move (v := v0_0.v) (.tmp rfl rfl)) ?_
  refine C_val (V_move (v := (.int .i64 (k32 : Int))) (.tmp rfl rfl)) ?_
  refine C_idx (a := x34) sl45 ty3.sz (.tmp rfl rfl) (.tmp rfl rfl) .h (Int.natCast_nonneg k32) hx37 (fun k41 j42 => ?_)
  refine C_ldS (w := (.int .i64 x34)) ag3 (.tmp rfl rfl) .h ls3_0 ?_
  obtain ⟨u46, hx47, hF⟩ := bind_some hF
  have hi45 := chk_some hx47
  refine C_idxO sl45 ty3.sz (.tmp rfl rfl) (.tmp rfl rfl) (.t (.t .h)) hi45 (fun k43 hk44 => ?_)
  obtain ⟨z48, hx49, hF⟩ := bind_some hF
  replace hx49 := Option.some.inj hx49
  refine C_x1 (.cons (.t (.t .h)) .nil) (X_storeO (Ro := (roE rdInt)) (a := x34) (i := (k32 : Int)) ty3.sz rfl (.tmp rfl rfl) (.tmp rfl rfl) hk44 hi45 (Mk_pure (fun _ => rfl)) (fun _ _ _ _ h => by obtain ⟨-, h⟩ := h; cases h; rfl)) (fun F50 => ?_)
  rw [hx49]
  refine C_nil ?_
  refine CW_region ?_
  refine C_val (V_move (v := (.int .i64 (k32 : Int))) (.tmp rfl rfl)) ?_
  refine C_val (V_add (i := (k32 : Int)) (j := 1) (.tmp rfl rfl) (.int _ _)) ?_
  refine C_val (V_assign (v := (.int .i64 (IntKind.i64.wrap ((k32 : Int) + 1)))) (.tmp rfl rfl)) ?_
  refine C_nil ?_
  have hw51 : IntKind.i64.wrap ((k32 : Int) + 1) = ((k32 + 1 : Nat) : Int) := by rw [wrap_in (by omega) (by omega)]; rfl
  rw [hw51]
  exact ⟨_, Nat.lt_succ_self _, _, k32 + 1, rest33, _, F50, rfl, (EqL.cons rfl (EqL.cons rfl (EqL.cons rfl (EqL.nil)))).eq, hd38, (.sel (.rd (.t (.t .h)) rfl (.cons .h .nil))), hF⟩

/-! laws.toMethod -/
def l_toMethod (a_a : Method) : Option (Method) :=
  (l_toIntS a_a.Inputs).bind fun r4 =>
  some ({ Rel := a_a.Rel, Inputs := r4, Limit := a_a.Limit, Cost := a_a.Cost, Quota := a_a.Quota } : Method)
theorem l_toMethod_ok (a_a : Method) (v0_1 : Sv) (R : Method) (hF : l_toMethod a_a = some R) :
    Fw.Spec Try.prog 53 [(.agg [(.int .i64 a_a.Rel), v0_1.v, (.int .i64 a_a.Limit), (.int .i64 a_a.Cost), (.int .i64 a_a.Quota)].toArray)] [crd (RdS 3 rdInt) v0_1.v a_a.Inputs] (fun p : Sv × List Nat => (.agg [(.int .i64 R.Rel), p.1.v, (.int .i64 R.Limit), (.int .i64 R.Cost), (.int .i64 R.Quota)].toArray)) (fun p => [cown (OwnS 3 (roE rdInt)) p.2 p.1.v R.Inputs]) := by
  refine Spec_enter (n := 21) Try.func53 rfl rfl (rs := [.cell 2 101]) rfl rfl rfl ?_
  intro H0 F0
  unfold l_toMethod at hF
  refine K_region ?_
  refine C_newR rfl (N_box (g := false) (v := (.agg [(.int .i64 a_a.Rel), v0_1.v, (.int .i64 a_a.Limit), (.int .i64 a_a.Cost), (.int .i64 a_a.Quota)].toArray)) ty95.sz (.tmp rfl rfl) rfl) (fun k1 => ?_)
  refine C_new rfl (N_allocT (g := true) ty101 rfl rfl) (fun k2 => ?_)
  refine C_nil ?_
  refine K_region ?_
  refine C_new rfl (N_allocT (g := true) ty101 rfl rfl) (fun k3 => ?_)
  refine C_nil ?_
  refine K_region ?_
  refine C_val (V_fieldAddr (off := 0) fd95_0 (.tmp rfl rfl)) ?_
  refine C_at (.t (.t .h)) (fun hp => V_load (v := (.int .i64 a_a.Rel)) ag3 (.tmp rfl rfl) hp.2 rfl rfl) ?_
  refine C_val (V_fieldAddr (off := 0) fd101_0 (.tmp rfl rfl)) ?_
  refine C_x1 (.cons .h .nil) (X_storeB (e := (.agg [(.int .i64 0), (.slice none 0 0), (.int .i64 0), (.int .i64 0), (.int .i64 0)].toArray)) (e' := (.agg [(.int .i64 a_a.Rel), (.slice none 0 0), (.int .i64 0), (.int .i64 0), (.int .i64 0)].toArray)) (v := (.int .i64 a_a.Rel)) ty3.sz (.tmp rfl rfl) (.tmp rfl rfl) rfl rfl rfl rfl rfl) (fun _ => ?_)
  refine C_nil ?_
  refine K_region ?_
  refine C_val (V_fieldAddr (off := 1) fd95_1 (.tmp rfl rfl)) ?_
  refine C_at (.t (.t .h)) (fun hp => V_load (v := v0_1.v) ag45 (.tmp rfl rfl) hp.2 rfl rfl) ?_
  obtain ⟨r4, hx5, hF⟩ := bind_some hF
  refine C_x1 (.rd (.t (.t (.t .h))) rfl .nil) (X_callS cf28 (.cons (.tmp rfl rfl) .nil) (l_toIntS_ok a_a.Inputs v0_1 _ hx5)) (fun p6 => ?_)
  refine C_val (V_fieldAddr (off := 1) fd101_1 (.tmp rfl rfl)) ?_
  refine C_x1 (.cons (.t .h) .nil) (X_storeB (e := (.agg [(.int .i64 a_a.Rel), (.slice none 0 0), (.int .i64 0), (.int .i64 0), (.int .i64 0)].toArray)) (e' := (.agg [(.int .i64 a_a.Rel), p6.1.v, (.int .i64 0), (.int .i64 0), (.int .i64 0)].toArray)) ty45.sz (.tmp rfl rfl) (.tmp rfl rfl) rfl rfl rfl rfl rfl) (fun _ => ?_)
  refine C_nil ?_
  refine K_region ?_
  refine C_val (V_fieldAddr (off := 2) fd95_2 (.tmp rfl rfl)) ?_
  refine C_at (.t (.t (.t .h))) (fun hp => V_load (v := (.int .i64 a_a.Limit)) ag3 (.tmp rfl rfl) hp.2 rfl rfl) ?_
  refine C_val (V_fieldAddr (off := 2) fd101_2 (.tmp rfl rfl)) ?_
  refine C_x1 (.cons .h .nil) (X_storeB (e := (.agg [(.int .i64 a_a.Rel), p6.1.v, (.int .i64 0), (.int .i64 0), (.int .i64 0)].toArray)) (e' := (.agg [(.int .i64 a_a.Rel), p6.1.v, (.int .i64 a_a.Limit), (.int .i64 0), (.int .i64 0)].toArray)) (v := (.int .i64 a_a.Limit)) ty3.sz (.tmp rfl rfl) (.tmp rfl rfl) rfl rfl rfl rfl rfl) (fun _ => ?_)
  refine C_nil ?_
  refine K_region ?_
  refine C_val (V_fieldAddr (off := 3) fd95_3 (.tmp rfl rfl)) ?_
  refine C_at (.t (.t (.t .h))) (fun hp => V_load (v := (.int .i64 a_a.Cost)) ag3 (.tmp rfl rfl) hp.2 rfl rfl) ?_
  refine C_val (V_fieldAddr (off := 3) fd101_3 (.tmp rfl rfl)) ?_
  refine C_x1 (.cons .h .nil) (X_storeB (e := (.agg [(.int .i64 a_a.Rel), p6.1.v, (.int .i64 a_a.Limit), (.int .i64 0), (.int .i64 0)].toArray)) (e' := (.agg [(.int .i64 a_a.Rel), p6.1.v, (.int .i64 a_a.Limit), (.int .i64 a_a.Cost), (.int .i64 0)].toArray)) (v := (.int .i64 a_a.Cost)) ty3.sz (.tmp rfl rfl) (.tmp rfl rfl) rfl rfl rfl rfl rfl) (fun _ => ?_)
  refine C_nil ?_
  refine K_region ?_
  refine C_val (V_fieldAddr (off := 4) fd95_4 (.tmp rfl rfl)) ?_
  refine C_at (.t (.t (.t .h))) (fun hp => V_load (v := (.int .i64 a_a.Quota)) ag3 (.tmp rfl rfl) hp.2 rfl rfl) ?_
  refine C_val (V_fieldAddr (off := 4) fd101_4 (.tmp rfl rfl)) ?_
  refine C_x1 (.cons .h .nil) (X_storeB (e := (.agg [(.int .i64 a_a.Rel), p6.1.v, (.int .i64 a_a.Limit), (.int .i64 a_a.Cost), (.int .i64 0)].toArray)) (e' := (.agg [(.int .i64 a_a.Rel), p6.1.v, (.int .i64 a_a.Limit), (.int .i64 a_a.Cost), (.int .i64 a_a.Quota)].toArray)) (v := (.int .i64 a_a.Quota)) ty3.sz (.tmp rfl rfl) (.tmp rfl rfl) rfl rfl rfl rfl rfl) (fun _ => ?_)
  refine C_nil ?_
  refine K_region ?_
  refine C_at .h (fun hp => V_loadBox ag101 ty101.sz rfl (.tmp rfl rfl) hp.2 rfl) ?_
  refine C_x1 (.cons (.t (.t .h)) .nil) (X_storeB (e := (.agg [(.int .i64 0), (.slice none 0 0), (.int .i64 0), (.int .i64 0), (.int .i64 0)].toArray)) (e' := (.agg [(.int .i64 a_a.Rel), p6.1.v, (.int .i64 a_a.Limit), (.int .i64 a_a.Cost), (.int .i64 a_a.Quota)].toArray)) (v := (.agg [(.int .i64 a_a.Rel), p6.1.v, (.int .i64 a_a.Limit), (.int .i64 a_a.Cost), (.int .i64 a_a.Quota)].toArray)) ty101.sz (.tmp rfl rfl) (.tmp rfl rfl) rfl rfl rfl rfl rfl) (fun _ => ?_)
  refine C_nil ?_
  refine CW_ret ?_
  obtain rfl := Option.some.inj hF
  exact End_ret (p6.1, p6.2) (.cellA rfl rfl .h rfl ag101 ty101.sz rfl rfl .nil) rfl (.sel (.cons (.t (.t .h)) .nil))

/-! laws.toMethodS -/
def l_toMethodS_L1 : List Method → Nat → (List Method) → Option ((List Method))
  | [], k36, c31 => some c31
  | x38 :: rest37, k36, c31 => (l_toMethod x38).bind fun r48 =>
    (chk (decide (0 ≤ (k36 : Int)) && decide ((k36 : Int) < (c31.length : Int)))).bind fun u54 =>
    (some (c31.set ((k36 : Int)).toNat r48)).bind fun z56 =>
    l_toMethodS_L1 rest37 (k36 + 1) z56
def l_toMethodS (a_a : List Method) : Option ((List Method)) :=
  (mkz (a_a.length : Int) (({ Rel := 0, Inputs := [], Limit := 0, Cost := 0, Quota := 0 } : Method) : Method)).bind fun z1 =>
  l_toMethodS_L1 a_a 0 z1
theorem l_toMethodS_ok (a_a : List Method) (v0_0 : Sv) (R : (List Method)) (hF : l_toMethodS a_a = some R) :
    Fw.Spec Try.prog 17 [v0_0.v] [crd (RdS 95 rd95) v0_0.v a_a] (fun p : Sv × List Nat => p.1.v) (fun p => [cown (OwnS 101 ow101) p.2 p.1.v R]) := by
  refine Spec_enter (n := 23) Try.func17 rfl rfl (rs := [.tmp 2]) rfl rfl rfl ?_
  intro H0 F0
  unfold l_toMethodS at hF
  refine K_region ?_
  refine C_val (V_assign (v := (.slice none 0 0)) EV.nilSlice) ?_
  refine C_nil ?_
  refine K_region ?_
  refine C_val (V_move (v := v0_0.v) (.tmp rfl rfl)) ?_
  refine C_at .h (fun hp => V_lenR (l := a_a.length) sl29 (.tmp rfl rfl) (crd_len hp)) ?_
  obtain ⟨z1, hx2, hF⟩ := bind_some hF
  have hm3 := mkz_some hx2
  refine C_new rfl (N_makeSlice (g := true) (c := (a_a.length : Int)) sl35 ty101 rfl rfl (by decide) (.tmp rfl rfl) hm3.2.1 hm3.2.2) (fun k4 => ?_)
  refine C_conv (.cons .h .nil) (own_make (Ro := ow101) (E := 101) (a := (({ Rel := 0, Inputs := [], Limit := 0, Cost := 0, Quota := 0 } : Method) : Method)) hx2 (fun _ => ⟨⟨none, 0, 0⟩, [], rfl, rfl, .inl ⟨rfl, rfl, rfl⟩⟩)) apps ?_
  refine C_val (V_assign (v := (.slice (some ⟨k4, 0, none⟩) (a_a.length : Int).toNat 1)) (.tmp rfl rfl)) ?_
  refine C_nil ?_
  refine K_in ?_
  refine K_region ?_
  refine C_val (V_assign (v := (.int .i64 0)) (.int _ _)) ?_
  refine C_nil ?_
  refine CW_block ?_
  refine CW_loop (m := a_a.length) (fun m34 f' cs' => ∃ (g : Fr) (k36 : Nat) (rest37 : List Method) (c31 : List Method) (F32 : List Nat), m34 = rest37.length ∧ f' = updL g [(0, v0_0.v), (3, (.slice (some ⟨k4, 0, none⟩) (a_a.length : Int).toNat 1)), (4, (.int .i64 (k36 : Int)))] ∧ List.drop k36 a_a = rest37 ∧ Ent cs' [crd (RdS 95 rd95) v0_0.v a_a, cown (OwnS 101 ow101) F32 (.slice (some ⟨k4, 0, none⟩) (a_a.length : Int).toNat 1) c31] ∧ l_toMethodS_L1 rest37 k36 c31 = some R) ⟨_, 0, _, _, [k4], rfl, (EqL.cons rfl (EqL.cons rfl (EqL.cons rfl (EqL.nil)))).eq, rfl, (.sel (.rd (.t .h) rfl (.cons .h .nil))), hF⟩ ?_
  clear hF
  rintro m34 _ _ ⟨g35, k36, rest37, c31, F32, rfl, rfl, hd39, hE, hF⟩
  refine K_ent hE ?_
  clear hE
  refine K_pure (c := crd (RdS 95 rd95) v0_0.v a_a) .h crd_bound (fun hbd44 => ?_)
  rcases rest37 with _ | ⟨x38, rest37⟩
  · have hk40 := List.drop_eq_nil_iff.1 hd39
    have hfe43 : (decide (((k36 : Int) : Int) < (a_a.length : Int))) = false := decide_eq_false (by omega)
    rw [l_toMethodS_L1] at hF
    refine K_in ?_
    refine K_region ?_
    refine C_val (V_move (v := (.int .i64 (k36 : Int))) (.tmp rfl rfl)) ?_
    refine C_val (V_move (v := v0_0.v) (.tmp rfl rfl)) ?_
    refine C_at .h (fun hp => V_lenR (l := a_a.length) sl29 (.tmp rfl rfl) (crd_len hp)) ?_
    refine C_val (V_lss (i := (k36 : Int)) (j := (a_a.length : Int)) (.tmp rfl rfl) (.tmp rfl rfl)) ?_
    refine C_nil ?_
    refine CW_cond (b := (decide (((k36 : Int) : Int) < (a_a.length : Int)))) (.tmp rfl rfl) (fun hb => absurd (hfe43.symm.trans hb) (by decide)) (fun _ => ?_)
    refine CW_exit ?_
    refine CThen_exit ?_
    refine CThen_exit ?_
    refine CIn_self ?_
    refine K_region ?_
    refine C_val (V_move (v := (.slice (some ⟨k4, 0, none⟩) (a_a.length : Int).toNat 1)) (.tmp rfl rfl)) ?_
    refine C_val (V_assign (v := (.slice (some ⟨k4, 0, none⟩) (a_a.length : Int).toNat 1)) (.tmp rfl rfl)) ?_
    refine C_nil ?_
    refine CW_ret ?_
    obtain rfl := Option.some.inj hF
    exact End_ret (⟨(some ⟨k4, 0, none⟩), (a_a.length : Int).toNat, 1⟩, F32) (.tmp rfl rfl .nil) rfl (.sel (.cons (.t .h) .nil))
  obtain ⟨hk40, hx41, hd42⟩ := drop_cons hd39
  have hfe43 : (decide (((k36 : Int) : Int) < (a_a.length : Int))) = true := decide_eq_true (by omega)
  rw [l_toMethodS_L1] at hF
  refine K_in ?_
  refine K_region ?_
  refine C_val (V_move (v := (.int .i64 (k36 : Int))) (.tmp rfl rfl)) ?_
  refine C_val (V_move (v := v0_0.v) (.tmp rfl rfl)) ?_
  refine C_at .h (fun hp => V_lenR (l := a_a.length) sl29 (.tmp rfl rfl) (crd_len hp)) ?_
  refine C_val (V_lss (i := (k36 : Int)) (j := (a_a.length : Int)) (.tmp rfl rfl) (.tmp rfl rfl)) ?_
  refine C_nil ?_
  refine CW_cond (b := (decide (((k36 : Int) : Int) < (a_a.length : Int)))) (.tmp rfl rfl) (fun _ => ?_) (fun hb => absurd (hfe43.symm.trans hb) (by decide))
  refine CW_skip ?_
  refine K_block ?_
  refine CW_region ?_
  refine C_val (V_move (v := (.slice (some ⟨k4, 0, none⟩) (a_a.length : Int).toNat 1)) (.tmp rfl rfl)) ?_
  refine C_val (V_move (v := (.int .i64 (k36 : Int))) (.tmp rfl rfl)) ?_
  refine C_val (V_move (v := v0_0.v) (.tmp rfl rfl)) ?_
  refine C_val (V_move (v := (.int .i64 (k36 : Int))) (.tmp rfl rfl)) ?_
  refine C_idx (a := x38) sl29 ty95.sz (.tmp rfl rfl) (.tmp rfl rfl) .h (Int.natCast_nonneg k36) hx41 (fun k45 j46 => ?_)
  refine C_ldA1 (ul95_0_95 x38) ag95 ty95.sz rfl (.tmp rfl rfl) .h la95_0_95 (fun p47 => ?_)
  obtain ⟨r48, hx49, hF⟩ := bind_some hF
  refine C_x1 (.rd .h rfl .nil) (X_callS cf53 (.cons (.tmp rfl rfl) .nil) (l_toMethod_ok x38 p47 _ hx49)) (fun p50 => ?_)
  obtain ⟨u54, hx55, hF⟩ := bind_some hF
  have hi53 := chk_some hx55
  refine C_idxO sl35 ty101.sz (.tmp rfl rfl) (.tmp rfl rfl) (.t (.t (.t (.t .h)))) hi53 (fun k51 hk52 => ?_)
  obtain ⟨z56, hx57, hF⟩ := bind_some hF
  replace hx57 := Option.some.inj hx57
  refine C_x1 (.cons (.t (.t (.t (.t .h)))) (.cons .h .nil)) (X_storeO (Ro := ow101) (a := r48) (i := (k36 : Int)) ty101.sz rfl (.tmp rfl rfl) (.tmp rfl rfl) hk52 hi53 mk101 (fun _ _ _ _ h => by obtain ⟨_, _, rfl, rfl, _⟩ := h; rfl)) (fun F58 => ?_)
  rw [hx57]
  refine C_nil ?_
  refine CW_region ?_
  refine C_val (V_move (v := (.int .i64 (k36 : Int))) (.tmp rfl rfl)) ?_
  refine C_val (V_add (i := (k36 : Int)) (j := 1) (.tmp rfl rfl) (.int _ _)) ?_
  refine C_val (V_assign (v := (.int .i64 (IntKind.i64.wrap ((k36 : Int) + 1)))) (.tmp rfl rfl)) ?_
  refine C_nil ?_
  have hw59 : IntKind.i64.wrap ((k36 : Int) + 1) = ((k36 + 1 : Nat) : Int) := by rw [wrap_in (by omega) (by omega)]; rfl
  rw [hw59]
  exact ⟨_, Nat.lt_succ_self _, _, k36 + 1, rest37, _, F58, rfl, (EqL.cons rfl (EqL.cons rfl (EqL.cons rfl (EqL.nil)))).eq, hd42, (.sel (.rd (.t (.t (.t .h))) rfl (.cons .h .nil))), hF⟩

/-! laws.toAccess -/
def l_toAccess (a_a : Access) : Option (Access) :=
  (l_toIntS a_a.Values).bind fun r4 =>
  some ({ Method := a_a.Method, Values := r4 } : Access)
theorem l_toAccess_ok (a_a : Access) (v0_1 : Sv) (R : Access) (hF : l_toAccess a_a = some R) :
    Fw.Spec Try.prog 54 [(.agg [(.int .i64 a_a.Method), v0_1.v].toArray)] [crd (RdS 3 rdInt) v0_1.v a_a.Values] (fun p : Sv × List Nat => (.agg [(.int .i64 R.Method), p.1.v].toArray)) (fun p => [cown (OwnS 3 (roE rdInt)) p.2 p.1.v R.Values]) := by
  refine Spec_enter (n := 12) Try.func54 rfl rfl (rs := [.cell 2 100]) rfl rfl rfl ?_
  intro H0 F0
  unfold l_toAccess at hF
  refine K_region ?_
  refine C_newR rfl (N_box (g := false) (v := (.agg [(.int .i64 a_a.Method), v0_1.v].toArray)) ty98.sz (.tmp rfl rfl) rfl) (fun k1 => ?_)
  refine C_new rfl (N_allocT (g := true) ty100 rfl rfl) (fun k2 => ?_)
  refine C_nil ?_
  refine K_region ?_
  refine C_new rfl (N_allocT (g := true) ty100 rfl rfl) (fun k3 => ?_)
  refine C_nil ?_
  refine K_region ?_
  refine C_val (V_fieldAddr (off := 0) fd98_0 (.tmp rfl rfl)) ?_
  refine C_at (.t (.t .h)) (fun hp => V_load (v := (.int .i64 a_a.Method)) ag3 (.tmp rfl rfl) hp.2 rfl rfl) ?_
  refine C_val (V_fieldAddr (off := 0) fd100_0 (.tmp rfl rfl)) ?_
  refine C_x1 (.cons .h .nil) (X_storeB (e := (.agg [(.int .i64 0), (.slice none 0 0)].toArray)) (e' := (.agg [(.int .i64 a_a.Method), (.slice none 0 0)].toArray)) (v := (.int .i64 a_a.Method)) ty3.sz (.tmp rfl rfl) (.tmp rfl rfl) rfl rfl rfl rfl rfl) (fun _ => ?_)
  refine C_nil ?_
  refine K_region ?_
  refine C_val (V_fieldAddr (off := 1) fd98_1 (.tmp rfl rfl)) ?_
  refine C_at (.t (.t .h)) (fun hp => V_load (v := v0_1.v) ag45 (.tmp rfl rfl) hp.2 rfl rfl) ?_
  obtain ⟨r4, hx5, hF⟩ := bind_some hF
  refine C_x1 (.rd (.t (.t (.t .h))) rfl .nil) (X_callS cf28 (.cons (.tmp rfl rfl) .nil) (l_toIntS_ok a_a.Values v0_1 _ hx5)) (fun p6 => ?_)
  refine C_val (V_fieldAddr (off := 1) fd100_1 (.tmp rfl rfl)) ?_
  refine C_x1 (.cons (.t .h) .nil) (X_storeB (e := (.agg [(.int .i64 a_a.Method), (.slice none 0 0)].toArray)) (e' := (.agg [(.int .i64 a_a.Method), p6.1.v].toArray)) ty45.sz (.tmp rfl rfl) (.tmp rfl rfl) rfl rfl rfl rfl rfl) (fun _ => ?_)
  refine C_nil ?_
  refine K_region ?_
  refine C_at .h (fun hp => V_loadBox ag100 ty100.sz rfl (.tmp rfl rfl) hp.2 rfl) ?_
  refine C_x1 (.cons (.t (.t .h)) .nil) (X_storeB (e := (.agg [(.int .i64 0), (.slice none 0 0)].toArray)) (e' := (.agg [(.int .i64 a_a.Method), p6.1.v].toArray)) (v := (.agg [(.int .i64 a_a.Method), p6.1.v].toArray)) ty100.sz (.tmp rfl rfl) (.tmp rfl rfl) rfl rfl rfl rfl rfl) (fun _ => ?_)
  refine C_nil ?_
  refine CW_ret ?_
  obtain rfl := Option.some.inj hF
  exact End_ret (p6.1, p6.2) (.cellA rfl rfl .h rfl ag100 ty100.sz rfl rfl .nil) rfl (.sel (.cons (.t (.t .h)) .nil))

/-! laws.toAccessS -/
def l_toAccessS_L1 : List Access → Nat → (List Access) → Option ((List Access))
  | [], k36, c31 => some c31
  | x38 :: rest37, k36, c31 => (l_toAccess x38).bind fun r48 =>
    (chk (decide (0 ≤ (k36 : Int)) && decide ((k36 : Int) < (c31.length : Int)))).bind fun u54 =>
    (some (c31.set ((k36 : Int)).toNat r48)).bind fun z56 =>
    l_toAccessS_L1 rest37 (k36 + 1) z56
def l_toAccessS (a_a : List Access) : Option ((List Access)) :=
  (mkz (a_a.length : Int) (({ Method := 0, Values := [] } : Access) : Access)).bind fun z1 =>
  l_toAccessS_L1 a_a 0 z1
theorem l_toAccessS_ok (a_a : List Access) (v0_0 : Sv) (R : (List Access)) (hF : l_toAccessS a_a = some R) :
    Fw.Spec Try.prog 18 [v0_0.v] [crd (RdS 98 rd98) v0_0.v a_a] (fun p : Sv × List Nat => p.1.v) (fun p => [cown (OwnS 100 ow100) p.2 p.1.v R]) := by
  refine Spec_enter (n := 23) Try.func18 rfl rfl (rs := [.tmp 2]) rfl rfl rfl ?_
  intro H0 F0
  unfold l_toAccessS at hF
  refine K_region ?_
  refine C_val (V_assign (v := (.slice none 0 0)) EV.nilSlice) ?_
  refine C_nil ?_
  refine K_region ?_
  refine C_val (V_move (v := v0_0.v) (.tmp rfl rfl)) ?_
  refine C_at .h (fun hp => V_lenR (l := a_a.length) sl30 (.tmp rfl rfl) (crd_len hp)) ?_
  obtain ⟨z1, hx2, hF⟩ := bind_some hF
  have hm3 := mkz_some hx2
  refine C_new rfl (N_makeSlice (g := true) (c := (a_a.length : Int)) sl33 ty100 rfl rfl (by decide) (.tmp rfl rfl) hm3.2.1 hm3.2.2) (fun k4 => ?_)
  refine C_conv (.cons .h .nil) (own_make (Ro := ow100) (E := 100) (a := (({ Method := 0, Values := [] } : Access) : Access)) hx2 (fun _ => ⟨⟨none, 0, 0⟩, [], rfl, rfl, .inl ⟨rfl, rfl, rfl⟩⟩)) apps ?_
  refine C_val (V_assign (v := (.slice (some ⟨k4, 0, none⟩) (a_a.length : Int).toNat 1)) (.tmp rfl rfl)) ?_
  refine C_nil ?_
  refine K_in ?_
  refine K_region ?_
  refine C_val (V_assign (v := (.int .i64 0)) (.int _ _)) ?_
  refine C_nil ?_
  refine CW_block ?_
  refine CW_loop (m := a_a.length) (fun m34 f' cs' => ∃ (g : Fr) (k36 : Nat) (rest37 : List Access) (c31 : List Access) (F32 : List Nat), m34 = rest37.length ∧ f' = updL g [(0, v0_0.v), (3, (.slice (some ⟨k4, 0, none⟩) (a_a.length : Int).toNat 1)), (4, (.int .i64 (k36 : Int)))] ∧ List.drop k36 a_a = rest37 ∧ Ent cs' [crd (RdS 98 rd98) v0_0.v a_a, cown (OwnS 100 ow100) F32 (.slice (some ⟨k4, 0, none⟩) (a_a.length : Int).toNat 1) c31] ∧ l_toAccessS_L1 rest37 k36 c31 = some R) ⟨_, 0, _, _, [k4], rfl, (EqL.cons rfl (EqL.cons rfl (EqL.cons rfl (EqL.nil)))).eq, rfl, (.sel (.rd (.t .h) rfl (.cons .h .nil))), hF⟩ ?_
  clear hF
  rintro m34 _ _ ⟨g35, k36, rest37, c31, F32, rfl, rfl, hd39, hE, hF⟩
  refine K_ent hE ?_
  clear hE
  refine K_pure (c := crd (RdS 98 rd98) v0_0.v a_a) .h crd_bound (fun hbd44 => ?_)
  rcases rest37 with _ | ⟨x38, rest37⟩
  · have hk40 := List.drop_eq_nil_iff.1 hd39
    have hfe43 : (decide (((k36 : Int) : Int) < (a_a.length : Int))) = false := decide_eq_false (by omega)
    rw [l_toAccessS_L1] at hF
    refine K_in ?_
    refine K_region ?_
    refine C_val (V_move (v := (.int .i64 (k36 : Int))) (.tmp rfl rfl)) ?_
    refine C_val (V_move (v := v0_0.v) (.tmp rfl rfl)) ?_
    refine C_at .h (fun hp => V_lenR (l := a_a.length) sl30 (.tmp rfl rfl) (crd_len hp)) ?_
    refine C_val (V_lss (i := (k36 : Int)) (j := (a_a.length : Int)) (.tmp rfl rfl) (.tmp rfl rfl)) ?_
    refine C_nil ?_
    refine CW_cond (b := (decide (((k36 : Int) : Int) < (a_a.length : Int)))) (.tmp rfl rfl) (fun hb => absurd (hfe43.symm.trans hb) (by decide)) (fun _ => ?_)
    refine CW_exit ?_
    refine CThen_exit ?_
    refine CThen_exit ?_
    refine CIn_self ?_
    refine K_region ?_
    refine C_val (V_move (v := (.slice (some ⟨k4, 0, none⟩) (a_a.length : Int).toNat 1)) (.tmp rfl rfl)) ?_
    refine C_val (V_assign (v := (.slice (some ⟨k4, 0, none⟩) (a_a.length : Int).toNat 1)) (.tmp rfl rfl)) ?_
    refine C_nil ?_
    refine CW_ret ?_
    obtain rfl := Option.some.inj hF
    exact End_ret (⟨(some ⟨k4, 0, none⟩), (a_a.length : Int).toNat, 1⟩, F32) (.tmp rfl rfl .nil) rfl (.sel (.cons (.t .h) .nil))
  obtain ⟨hk40, hx41, hd42⟩ := drop_cons hd39
  have hfe43 : (decide (((k36 : Int) : Int) < (a_a.length : Int))) = true := decide_eq_true (by omega)
  rw [l_toAccessS_L1] at hF
  refine K_in ?_
  refine K_region ?_
  refine C_val (V_move (v := (.int .i64 (k36 : Int))) (.tmp rfl rfl)) ?_
  refine C_val (V_move (v := v0_0.v) (.tmp rfl rfl)) ?_
  refine C_at .h (fun hp => V_lenR (l := a_a.length) sl30 (.tmp rfl rfl) (crd_len hp)) ?_
  refine C_val (V_lss (i := (k36 : Int)) (j := (a_a.length : Int)) (.tmp rfl rfl) (.tmp rfl rfl)) ?_
  refine C_nil ?_
  refine CW_cond (b := (decide (((k36 : Int) : Int) < (a_a.length : Int)))) (.tmp rfl rfl) (fun _ => ?_) (fun hb => absurd (hfe43.symm.trans hb) (by decide))
  refine CW_skip ?_
  refine K_block ?_
  refine CW_region ?_
  refine C_val (V_move (v := (.slice (some ⟨k4, 0, none⟩) (a_a.length : Int).toNat 1)) (.tmp rfl rfl)) ?_
  refine C_val (V_move (v := (.int .i64 (k36 : Int))) (.tmp rfl rfl)) ?_
  refine C_val (V_move (v := v0_0.v) (.tmp rfl rfl)) ?_
  refine C_val (V_move (v := (.int .i64 (k36 : Int))) (.tmp rfl rfl)) ?_
  refine C_idx (a := x38) sl30 ty98.sz (.tmp rfl rfl) (.tmp rfl rfl) .h (Int.natCast_nonneg k36) hx41 (fun k45 j46 => ?_)
  refine C_ldA1 (ul98_0_98 x38) ag98 ty98.sz rfl (.tmp rfl rfl) .h la98_0_98 (fun p47 => ?_)
  obtain ⟨r48, hx49, hF⟩ := bind_some hF
  refine C_x1 (.rd .h rfl .nil) (X_callS cf54 (.cons (.tmp rfl rfl) .nil) (l_toAccess_ok x38 p47 _ hx49)) (fun p50 => ?_)
  obtain ⟨u54, hx55, hF⟩ := bind_some hF
  have hi53 := chk_some hx55
  refine C_idxO sl33 ty100.sz (.tmp rfl rfl) (.tmp rfl rfl) (.t (.t (.t (.t .h)))) hi53 (fun k51 hk52 => ?_)
  obtain ⟨z56, hx57, hF⟩ := bind_some hF
  replace hx57 := Option.some.inj hx57
  refine C_x1 (.cons (.t (.t (.t (.t .h)))) (.cons .h .nil)) (X_storeO (Ro := ow100) (a := r48) (i := (k36 : Int)) ty100.sz rfl (.tmp rfl rfl) (.tmp rfl rfl) hk52 hi53 mk100 (fun _ _ _ _ h => by obtain ⟨_, _, rfl, rfl, _⟩ := h; rfl)) (fun F58 => ?_)
  rw [hx57]
  refine C_nil ?_
  refine CW_region ?_
  refine C_val (V_move (v := (.int .i64 (k36 : Int))) (.tmp rfl rfl)) ?_
  refine C_val (V_add (i := (k36 : Int)) (j := 1) (.tmp rfl rfl) (.int _ _)) ?_
  refine C_val (V_assign (v := (.int .i64 (IntKind.i64.wrap ((k36 : Int) + 1)))) (.tmp rfl rfl)) ?_
  refine C_nil ?_
  have hw59 : IntKind.i64.wrap ((k36 : Int) + 1) = ((k36 + 1 : Nat) : Int) := by rw [wrap_in (by omega) (by omega)]; rfl
  rw [hw59]
  exact ⟨_, Nat.lt_succ_self _, _, k36 + 1, rest37, _, F58, rfl, (EqL.cons rfl (EqL.cons rfl (EqL.cons rfl (EqL.nil)))).eq, hd42, (.sel (.rd (.t (.t (.t .h))) rfl (.cons .h .nil))), hF⟩

/-! spec.l1In -/
def s_l1In (a_x : Int) (a_low : Int) (a_high : Int) : Option (Bool) :=
  some ((decide ((a_low : Int) ≤ a_x)) && (decide ((a_x : Int) ≤ a_high)))
theorem s_l1In_ok (a_x : Int) (a_low : Int) (a_high : Int) (R : Bool) (hF : s_l1In a_x a_low a_high = some R) :
    Fw.Spec Try.prog 51 [(.int .i64 a_x), (.int .i64 a_low), (.int .i64 a_high)] [] (fun _ : Unit => (.bool R)) (fun _ => []) := by
  refine Spec_enter (n := 15) Try.func51 rfl rfl (rs := [.tmp 6]) rfl rfl rfl ?_
  intro H0 F0
  unfold s_l1In at hF
  refine K_region ?_
  refine C_val (V_assign (v := (.bool false)) (.bool _)) ?_
  refine C_nil ?_
  refine K_region ?_
  refine C_cut (fun f' cs' => ∃ (g : Fr), f' = updL g [(6, (.bool ((decide ((a_low : Int) ≤ a_x)) && (decide ((a_x : Int) ≤ a_high)))))] ∧ Ent cs' []) ?_ ?_
  · refine C_val (V_move (v := (.int .i64 a_x)) (.tmp rfl rfl)) ?_
    refine C_val (V_move (v := (.int .i64 a_low)) (.tmp rfl rfl)) ?_
    refine C_val (V_geq (i := a_x) (j := a_low) (.tmp rfl rfl) (.tmp rfl rfl)) ?_
    refine C_val (V_move (v := (.bool (decide ((a_low : Int) ≤ a_x)))) (.tmp rfl rfl)) ?_
    rcases Bool.eq_false_or_eq_true (decide ((a_low : Int) ≤ a_x)) with hg1 | hg1
    · rw [hg1]
      try rw [hg1] at hF; dsimp only [cond_true, cond_false] at hF
      refine C_on (t := 10) rfl rfl rfl ?_
      refine C_val (V_move (v := (.int .i64 a_x)) (.tmp rfl rfl)) ?_
      refine C_on (t := 10) rfl rfl rfl ?_
      refine C_val (V_move (v := (.int .i64 a_high)) (.tmp rfl rfl)) ?_
      refine C_on (t := 10) rfl rfl rfl ?_
      refine C_val (V_leq (i := a_x) (j := a_high) (.tmp rfl rfl) (.tmp rfl rfl)) ?_
      refine C_val (V_pick (b := true) (u := (.bool (decide ((a_x : Int) ≤ a_high)))) (v := (.bool false)) (.tmp rfl rfl) (.tmp rfl rfl) (.bool _)) ?_
      refine C_val (V_assign (v := (.bool (decide ((a_x : Int) ≤ a_high)))) (.tmp rfl rfl)) ?_
      refine C_nil ?_
      exact ⟨_, (EqL.cons rfl (EqL.nil)).eq, (.sel .nil)⟩
    rw [hg1]
    try rw [hg1] at hF; dsimp only [cond_true, cond_false] at hF
    refine C_off (t := 10) rfl rfl rfl ?_
    refine C_off (t := 10) rfl rfl rfl ?_
    refine C_off (t := 10) rfl rfl rfl ?_
    refine C_val (V_pick (b := false) (u := undef) (v := (.bool false)) (.tmp rfl rfl) (.tmp rfl rfl) (.bool _)) ?_
    refine C_val (V_assign (v := (.bool false)) (.tmp rfl rfl)) ?_
    refine C_nil ?_
    exact ⟨_, (EqL.cons rfl (EqL.nil)).eq, (.sel .nil)⟩
  rintro _ _ ⟨g2, rfl, hE⟩
  refine K_ent hE ?_
  refine CW_ret ?_
  obtain rfl := Option.some.inj hF
  exact End_ret () (.tmp rfl rfl .nil) rfl (.sel .nil)

/-! spec.l8Access -/
def s_l8Access (a_m : Int) (a_values : List Int) : Option (Access) :=
  (app ([] : List Int) a_values).bind fun z3 =>
  some ({ Method := a_m, Values := z3 } : Access)
theorem s_l8Access_ok (a_m : Int) (a_values : List Int) (v1_0 : Sv) (R : Access) (hF : s_l8Access a_m a_values = some R) :
    Fw.Spec Try.prog 52 [(.int .i64 a_m), v1_0.v] [crd (RdS 3 rdInt) v1_0.v a_values] (fun p : Sv × List Nat => (.agg [(.int .i64 R.Method), p.1.v].toArray)) (fun p => [cown (OwnS 3 (roE rdInt)) p.2 p.1.v R.Values]) := by
  refine Spec_enter (n := 10) Try.func52 rfl rfl (rs := [.cell 4 100]) rfl rfl rfl ?_
  intro H0 F0
  unfold s_l8Access at hF
  refine K_region ?_
  refine C_new rfl (N_allocT (g := true) ty100 rfl rfl) (fun k1 => ?_)
  refine C_nil ?_
  refine K_region ?_
  refine C_val (V_move (v := (.int .i64 a_m)) (.tmp rfl rfl)) ?_
  refine C_new rfl (N_buildSliceT (g := true) sl45 ty3 .nil (vs := []) rfl rfl rfl (by simp)) (fun k2 => ?_)
  refine C_conv (.cons .h .nil) (own_lit (Ro := (roE rdInt)) (E := 3) (F := []) (xs := ([] : List Int)) MkL_nil rfl rfl) apps ?_
  refine C_val (V_move (v := v1_0.v) (.tmp rfl rfl)) ?_
  obtain ⟨z3, hx4, hF⟩ := bind_some hF
  refine C_x1 (.cons .h (.rd (.t .h) rfl .nil)) (X_appendO (Ro := (roE rdInt)) sl45 ni45 ty3 rfl rfl rfl (.tmp rfl rfl) (.tmp rfl rfl) hx4 src_rd) (fun p5 => ?_)
  refine C_val (V_build ty100 rfl (vs := [(.int .i64 a_m), p5.1.v]) (.cons (.tmp rfl rfl) (.cons (.tmp rfl rfl) .nil)) (cells := [(.int .i64 a_m), p5.1.v]) rfl) ?_
  refine C_x1 (.cons (.t .h) .nil) (X_storeB (e := (.agg [(.int .i64 0), (.slice none 0 0)].toArray)) (e' := (.agg [(.int .i64 a_m), p5.1.v].toArray)) (v := (.agg [(.int .i64 a_m), p5.1.v].toArray)) ty100.sz (.tmp rfl rfl) (.tmp rfl rfl) rfl rfl rfl rfl rfl) (fun _ => ?_)
  refine C_nil ?_
  refine CW_ret ?_
  obtain rfl := Option.some.inj hF
  exact End_ret (p5.1, p5.2) (.cellA rfl rfl .h rfl ag100 ty100.sz rfl rfl .nil) rfl (.sel (.cons (.t .h) .nil))

/-! spec.ViewOf -/
def s_ViewOf_L1 (a_l : List Method) (a_rel : Int) : List Access → Nat → (List Access) → Option ((List Access))
  | [], k8, c2 => some c2
  | x10 :: rest9, k8, c2 => (((s_l1In x10.Method 0 (IntKind.i64.wrap ((a_l.length : Int) - 1))).bind fun r23 =>
        bif r23 then ((ix a_l x10.Method).bind fun x29 =>
          some ((x29.Rel : Int) == a_rel))
        else (some false)).bind fun o19 =>
      match o19 with
      | c35 => if c35 then (
          (s_l8Access x10.Method x10.Values).bind fun r41 =>
          (app c2 ([r41] : List Access)).bind fun z45 =>
          some z45)
        else (
          some c2)).bind fun o17 =>
    match o17 with
    | c50 => s_ViewOf_L1 a_l a_rel rest9 (k8 + 1) c50
def s_ViewOf (a_l : List Method) (a_log : List Access) (a_rel : Int) : Option ((List Access)) :=
  s_ViewOf_L1 a_l a_rel a_log 0 ([] : List Access)
theorem s_ViewOf_ok (a_l : List Method) (v0_0 : Sv) (a_log : List Access) (v1_0 : Sv) (a_rel : Int) (R : (List Access)) (hF : s_ViewOf a_l a_log a_rel = some R) :
    Fw.Spec Try.prog 16 [v0_0.v, v1_0.v, (.int .i64 a_rel)] [crd (RdS 101 rd101) v0_0.v a_l, crd (RdS 100 rd100) v1_0.v a_log] (fun p : Sv × List Nat => p.1.v) (fun p => [cown (OwnS 100 ow100) p.2 p.1.v R]) := by
  refine Spec_enter (n := 53) Try.func16 rfl rfl (rs := [.tmp 6]) rfl rfl rfl ?_
  intro H0 F0
  unfold s_ViewOf at hF
  refine K_region ?_
  refine C_val (V_assign (v := (.slice none 0 0)) EV.nilSlice) ?_
  refine C_nil ?_
  refine K_region ?_
  refine C_new rfl (N_buildSliceT (g := true) sl33 ty100 .nil (vs := []) rfl rfl rfl (by simp)) (fun k1 => ?_)
  refine C_conv (.cons .h .nil) (own_lit (Ro := ow100) (E := 100) (F := []) (xs := ([] : List Access)) MkL_nil rfl rfl) apps ?_
  refine C_val (V_assign (v := (.slice (some ⟨k1, 0, none⟩) 0 1)) (.tmp rfl rfl)) ?_
  refine C_nil ?_
  refine K_in ?_
  refine K_region ?_
  refine C_val (V_assign (v := (.int .i64 0)) (.int _ _)) ?_
  refine C_nil ?_
  refine CW_block ?_
  refine CW_loop (m := a_log.length) (fun m6 f' cs' => ∃ (g : Fr) (k8 : Nat) (rest9 : List Access) (c2 : List Access) (v3 : Sv) (F4 : List Nat), m6 = rest9.length ∧ f' = updL g [(0, v0_0.v), (1, v1_0.v), (2, (.int .i64 a_rel)), (7, v3.v), (8, (.int .i64 (k8 : Int)))] ∧ List.drop k8 a_log = rest9 ∧ Ent cs' [crd (RdS 101 rd101) v0_0.v a_l, crd (RdS 100 rd100) v1_0.v a_log, cown (OwnS 100 ow100) F4 v3.v c2] ∧ s_ViewOf_L1 a_l a_rel rest9 k8 c2 = some R) ⟨_, 0, _, _, ⟨(some ⟨k1, 0, none⟩), 0, 1⟩, (k1 :: []), rfl, (EqL.cons rfl (EqL.cons rfl (EqL.cons rfl (EqL.cons rfl (EqL.cons rfl (EqL.nil)))))).eq, rfl, (.sel (.rd (.t .h) rfl (.rd (.t (.t .h)) rfl (.cons .h .nil)))), hF⟩ ?_
  clear hF
  rintro m6 _ _ ⟨g7, k8, rest9, c2, v3, F4, rfl, rfl, hd11, hE, hF⟩
  refine K_ent hE ?_
  clear hE
  refine K_pure (c := crd (RdS 100 rd100) v1_0.v a_log) (.t .h) crd_bound (fun hbd16 => ?_)
  rcases rest9 with _ | ⟨x10, rest9⟩
  · have hk12 := List.drop_eq_nil_iff.1 hd11
    have hfe15 : (decide (((k8 : Int) : Int) < (a_log.length : Int))) = false := decide_eq_false (by omega)
    rw [s_ViewOf_L1] at hF
    refine K_in ?_
    refine K_region ?_
    refine C_val (V_move (v := (.int .i64 (k8 : Int))) (.tmp rfl rfl)) ?_
    refine C_val (V_move (v := v1_0.v) (.tmp rfl rfl)) ?_
    refine C_at (.t .h) (fun hp => V_lenR (l := a_log.length) sl33 (.tmp rfl rfl) (crd_len hp)) ?_
    refine C_val (V_lss (i := (k8 : Int)) (j := (a_log.length : Int)) (.tmp rfl rfl) (.tmp rfl rfl)) ?_
    refine C_nil ?_
    refine CW_cond (b := (decide (((k8 : Int) : Int) < (a_log.length : Int)))) (.tmp rfl rfl) (fun hb => absurd (hfe15.symm.trans hb) (by decide)) (fun _ => ?_)
    refine CW_exit ?_
    refine CThen_exit ?_
    refine CThen_exit ?_
    refine CIn_self ?_
    refine K_region ?_
    refine C_val (V_move (v := v3.v) (.tmp rfl rfl)) ?_
    refine C_val (V_assign (v := v3.v) (.tmp rfl rfl)) ?_
    refine C_nil ?_
    refine CW_ret ?_
    obtain rfl := Option.some.inj hF
    exact End_ret (v3, F4) (.tmp rfl rfl .nil) rfl (.sel (.cons (.t (.t .h)) .nil))
  obtain ⟨hk12, hx13, hd14⟩ := drop_cons hd11
  have hfe15 : (decide (((k8 : Int) : Int) < (a_log.length : Int))) = true := decide_eq_true (by omega)
  rw [s_ViewOf_L1] at hF
  refine K_in ?_
  refine K_region ?_
  refine C_val (V_move (v := (.int .i64 (k8 : Int))) (.tmp rfl rfl)) ?_
  refine C_val (V_move (v := v1_0.v) (.tmp rfl rfl)) ?_
  refine C_at (.t .h) (fun hp => V_lenR (l := a_log.length) sl33 (.tmp rfl rfl) (crd_len hp)) ?_
  refine C_val (V_lss (i := (k8 : Int)) (j := (a_log.length : Int)) (.tmp rfl rfl) (.tmp rfl rfl)) ?_
  refine C_nil ?_
  refine CW_cond (b := (decide (((k8 : Int) : Int) < (a_log.length : Int)))) (.tmp rfl rfl) (fun _ => ?_) (fun hb => absurd (hfe15.symm.trans hb) (by decide))
  refine CW_skip ?_
  obtain ⟨o17, hio17, hO18⟩ := bind_some hF
  refine K_cut (fun f' cs' => ∃ (c50 : List Access) (v51 : Sv) (F52 : List Nat) (g : Fr), c50 = o17 ∧ f' = updL g [(0, v0_0.v), (1, v1_0.v), (2, (.int .i64 a_rel)), (7, v51.v), (8, (.int .i64 (k8 : Int)))] ∧ Ent cs' [crd (RdS 101 rd101) v0_0.v a_l, crd (RdS 100 rd100) v1_0.v a_log, cown (OwnS 100 ow100) F52 v51.v c50]) ?_ ?_
  · replace hF := hio17
    refine CW_block ?_
    obtain ⟨o19, hio19, hO20⟩ := bind_some hF
    refine K_region ?_
    refine C_cut (fun f' cs' => ∃ (c35 : Bool) (g : Fr), c35 = o19 ∧ f' = updL g [(0, v0_0.v), (1, v1_0.v), (2, (.int .i64 a_rel)), (7, v3.v), (8, (.int .i64 (k8 : Int))), (37, (.bool c35))] ∧ Ent cs' [crd (RdS 101 rd101) v0_0.v a_l, crd (RdS 100 rd100) v1_0.v a_log, cown (OwnS 100 ow100) F4 v3.v c2]) ?_ ?_
    · replace hF := hio19
      refine C_val (V_move (v := v1_0.v) (.tmp rfl rfl)) ?_
      refine C_val (V_move (v := (.int .i64 (k8 : Int))) (.tmp rfl rfl)) ?_
      refine C_idx (a := x10) sl33 ty100.sz (.tmp rfl rfl) (.tmp rfl rfl) (.t .h) (Int.natCast_nonneg k8) hx13 (fun k21 j22 => ?_)
      refine C_val (V_fieldAddr (off := 0) fd100_0 (.tmp rfl rfl)) ?_
      refine C_ldS (w := (.int .i64 x10.Method)) ag3 (.tmp rfl rfl) .h ls100_0 ?_
      refine C_val (V_move (v := v0_0.v) (.tmp rfl rfl)) ?_
      refine C_at (.t .h) (fun hp => V_lenR (l := a_l.length) sl35 (.tmp rfl rfl) (crd_len hp)) ?_
      refine C_val (V_sub (i := (a_l.length : Int)) (j := 1) (.tmp rfl rfl) (.int _ _)) ?_
      obtain ⟨r23, hx24, hF⟩ := bind_some hF
      refine C_x0 .nil (X_callS cf51 (.cons (.tmp rfl rfl) (.cons (.int _ _) (.cons (.tmp rfl rfl) .nil))) (s_l1In_ok x10.Method 0 (IntKind.i64.wrap ((a_l.length : Int) - 1)) _ hx24)) (fun _ => ?_)
      refine C_val (V_move (v := (.bool r23)) (.tmp rfl rfl)) ?_
      rcases Bool.eq_false_or_eq_true r23 with hg26 | hg26
      · rw [hg26]
        try rw [hg26] at hF; dsimp only [cond_true, cond_false] at hF
        refine C_on (t := 25) rfl rfl rfl ?_
        refine C_val (V_move (v := v0_0.v) (.tmp rfl rfl)) ?_
        refine C_on (t := 25) rfl rfl rfl ?_
        refine C_val (V_move (v := v1_0.v) (.tmp rfl rfl)) ?_
        refine C_on (t := 25) rfl rfl rfl ?_
        refine C_val (V_move (v := (.int .i64 (k8 : Int))) (.tmp rfl rfl)) ?_
        refine C_on (t := 25) rfl rfl rfl ?_
        refine C_idx (a := x10) sl33 ty100.sz (.tmp rfl rfl) (.tmp rfl rfl) (.t (.t .h)) (Int.natCast_nonneg k8) hx13 (fun k27 j28 => ?_)
        refine C_on (t := 25) rfl rfl rfl ?_
        refine C_val (V_fieldAddr (off := 0) fd100_0 (.tmp rfl rfl)) ?_
        refine C_on (t := 25) rfl rfl rfl ?_
        refine C_ldS (w := (.int .i64 x10.Method)) ag3 (.tmp rfl rfl) .h ls100_0 ?_
        refine C_on (t := 25) rfl rfl rfl ?_
        obtain ⟨x29, hx30, hF⟩ := bind_some hF
        obtain ⟨hp31, hx32⟩ := ix_some hx30
        refine C_idx (a := x29) sl35 ty101.sz (.tmp rfl rfl) (.tmp rfl rfl) (.t (.t .h)) hp31 hx32 (fun k33 j34 => ?_)
        refine C_on (t := 25) rfl rfl rfl ?_
        refine C_val (V_fieldAddr (off := 0) fd101_0 (.tmp rfl rfl)) ?_
        refine C_on (t := 25) rfl rfl rfl ?_
        refine C_ldS (w := (.int .i64 x29.Rel)) ag3 (.tmp rfl rfl) .h ls101_0 ?_
        refine C_on (t := 25) rfl rfl rfl ?_
        refine C_val (V_move (v := (.int .i64 a_rel)) (.tmp rfl rfl)) ?_
        refine C_on (t := 25) rfl rfl rfl ?_
        refine C_val (V_eql (i := x29.Rel) (j := a_rel) (.tmp rfl rfl) (.tmp rfl rfl)) ?_
        refine C_val (V_pick (b := true) (u := (.bool ((x29.Rel : Int) == a_rel))) (v := (.bool false)) (.tmp rfl rfl) (.tmp rfl rfl) (.bool _)) ?_
        refine C_nil ?_
        obtain rfl := Option.some.inj hF
        exact ⟨_, _, rfl, (EqL.cons rfl (EqL.cons rfl (EqL.cons rfl (EqL.cons rfl (EqL.cons rfl (EqL.cons rfl (EqL.nil))))))).eq, (.sel (.rd (.t (.t (.t .h))) rfl (.rd (.t (.t (.t (.t .h)))) rfl (.cons (.t (.t (.t (.t (.t .h))))) .nil))))⟩
      rw [hg26]
      try rw [hg26] at hF; dsimp only [cond_true, cond_false] at hF
      refine C_off (t := 25) rfl rfl rfl ?_
      refine C_off (t := 25) rfl rfl rfl ?_
      refine C_off (t := 25) rfl rfl rfl ?_
      refine C_off (t := 25) rfl rfl rfl ?_
      refine C_off (t := 25) rfl rfl rfl ?_
      refine C_off (t := 25) rfl rfl rfl ?_
      refine C_off (t := 25) rfl rfl rfl ?_
      refine C_off (t := 25) rfl rfl rfl ?_
      refine C_off (t := 25) rfl rfl rfl ?_
      refine C_off (t := 25) rfl rfl rfl ?_
      refine C_off (t := 25) rfl rfl rfl ?_
      refine C_val (V_pick (b := false) (u := undef) (v := (.bool false)) (.tmp rfl rfl) (.tmp rfl rfl) (.bool _)) ?_
      refine C_nil ?_
      obtain rfl := Option.some.inj hF
      exact ⟨_, _, rfl, (EqL.cons rfl (EqL.cons rfl (EqL.cons rfl (EqL.cons rfl (EqL.cons rfl (EqL.cons rfl (EqL.nil))))))).eq, (.sel (.rd (.t .h) rfl (.rd (.t (.t .h)) rfl (.cons (.t (.t (.t .h))) .nil))))⟩
    rintro _ _ ⟨c35, g49, rfl, rfl, hE⟩
    replace hF := hO20
    clear hO20
    try dsimp only at hF
    refine K_ent hE ?_
    refine CW_cond (b := c35) (.tmp rfl rfl) (fun hb48 => ?_) (fun hb48 => ?_)
    · rw [if_pos hb48] at hF
      refine CW_draw [0, 1, 2, 3, 4, 5, 6, 7, 8, 9, 10, 11, 12, 13, 14] [0, 0, 0, 6, 14, 30, 0, 0, 192, 448, 960, 2046, 4094, 8191, 16383] [11, 13] mixed (by decide +kernel) ?_
      refine D_val rfl .no (fun ha => V_move (v := v3.v) (EN ha (.tmp rfl rfl) rfl)) ?_
      refine D_val rfl .no (fun ha => V_move (v := v1_0.v) (EN ha (.tmp rfl rfl) rfl)) ?_
      refine D_val rfl .no (fun ha => V_move (v := (.int .i64 (k8 : Int))) (EN ha (.tmp rfl rfl) rfl)) ?_
      refine D_idx (a := x10) sl33 ty100.sz rfl .no (.tmp rfl rfl) (.tmp rfl rfl) rfl rfl (.t .h) (Int.natCast_nonneg k8) hx13 (fun k36 j37 => ?_)
      refine D_val rfl .no (fun ha => V_fieldAddr (off := 0) fd100_0 (EN ha (.tmp rfl rfl) rfl)) ?_
      refine D_ldS (w := (.int .i64 x10.Method)) ag3 rfl .no (.tmp rfl rfl) rfl .h ls100_0 ?_
      refine D_val rfl .no (fun ha => V_move (v := v1_0.v) (EN ha (.tmp rfl rfl) rfl)) ?_
      refine D_val rfl .no (fun ha => V_move (v := (.int .i64 (k8 : Int))) (EN ha (.tmp rfl rfl) rfl)) ?_
      refine D_idx (a := x10) sl33 ty100.sz rfl .no (.tmp rfl rfl) (.tmp rfl rfl) rfl rfl (.t (.t .h)) (Int.natCast_nonneg k8) hx13 (fun k38 j39 => ?_)
      refine D_val rfl .no (fun ha => V_fieldAddr (off := 1) fd100_1 (EN ha (.tmp rfl rfl) rfl)) ?_
      refine D_ldV (R' := (RdS 3 rdInt)) ag45 rfl .no (.tmp rfl rfl) rfl .h lv100_1 (fun w40 => ?_)
      obtain ⟨r41, hx42, hF⟩ := bind_some hF
      refine D_act1 rfl rfl .no (.rd .h rfl .nil) .nil (fun ha => X_callS cf52 (.cons (EN ha (.tmp rfl rfl) rfl) (.cons (EN ha (.tmp rfl rfl) rfl) .nil)) (s_l8Access_ok x10.Method x10.Values w40 _ hx42)) (fun p43 => ?_)
      refine D_new rfl .no rfl (fun ha => N_buildSliceT (g := true) (len := 1) (parts := [(0, .tmp 49)]) sl33 ty100 (.cons (EN ha (.tmp rfl rfl) rfl) .nil) (vs := [(.agg [(.int .i64 r41.Method), p43.1.v].toArray)]) rfl rfl rfl (by intro v hv; simp at hv; rcases hv with rfl <;> rfl)) (fun k44 => ?_)
      refine D_conv (.cons .h (.cons .h .nil)) (own_lit (Ro := ow100) (E := 100) (F := (p43.2 ++ [])) (xs := ([r41] : List Access)) (MkL_cons mk100 MkL_nil apps) rfl rfl) apps ?_
      obtain ⟨z45, hx46, hF⟩ := bind_some hF
      refine D_act1 rfl rfl .no (.cons (.t (.t (.t (.t (.t (.t .h)))))) (.cons .h .nil)) (.dep rfl .nil) (fun ha => X_appendO (Ro := ow100) sl33 ni33 ty100 rfl rfl rfl (EN ha (.tmp rfl rfl) rfl) (EN ha (.tmp rfl rfl) rfl) hx46 src_own) (fun p47 => ?_)
      refine D_val rfl .no (fun ha => V_assign (v := p47.1.v) (EN ha (.tmp rfl rfl) rfl)) ?_
      refine D_nil ?_
      obtain rfl := Option.some.inj hF
      exact ⟨_, p47.1, p47.2, _, rfl, (EqL.cons rfl (EqL.cons rfl (EqL.cons rfl (EqL.cons rfl (EqL.cons rfl (EqL.nil)))))).eq, (.sel (.rd (.t (.t (.t (.t .h)))) rfl (.rd (.t (.t (.t (.t (.t .h))))) rfl (.cons .h .nil))))⟩
    rw [if_neg (by rw [hb48]; exact Bool.false_ne_true)] at hF
    refine CW_skip ?_
    obtain rfl := Option.some.inj hF
    exact ⟨_, v3, F4, _, rfl, (EqL.cons rfl (EqL.cons rfl (EqL.cons rfl (EqL.cons rfl (EqL.cons rfl (EqL.nil)))))).eq, (.sel (.rd .h rfl (.rd (.t .h) rfl (.cons (.t (.t .h)) .nil))))⟩
  rintro _ _ ⟨c50, v51, F52, g54, rfl, rfl, hE⟩
  replace hF := hO18
  clear hO18
  try dsimp only at hF
  refine K_ent hE ?_
  refine CW_region ?_
  refine C_val (V_move (v := (.int .i64 (k8 : Int))) (.tmp rfl rfl)) ?_
  refine C_val (V_add (i := (k8 : Int)) (j := 1) (.tmp rfl rfl) (.int _ _)) ?_
  refine C_val (V_assign (v := (.int .i64 (IntKind.i64.wrap ((k8 : Int) + 1)))) (.tmp rfl rfl)) ?_
  refine C_nil ?_
  have hw53 : IntKind.i64.wrap ((k8 : Int) + 1) = ((k8 + 1 : Nat) : Int) := by rw [wrap_in (by omega) (by omega)]; rfl
  rw [hw53]
  exact ⟨_, Nat.lt_succ_self _, _, k8 + 1, rest9, _, v51, F52, rfl, (EqL.cons rfl (EqL.cons rfl (EqL.cons rfl (EqL.cons rfl (EqL.cons rfl (EqL.nil)))))).eq, hd14, (.sel (.rd .h rfl (.rd (.t .h) rfl (.cons (.t (.t .h)) .nil)))), hF⟩

/-! spec.l2Ints -/
def s_l2Ints_L1 (a_b : List Int) : List Int → Nat → Option (Bool)
  | [], k4 => some true
  | x6 :: rest5, k4 => (ix a_b (k4 : Int)).bind fun x15 =>
    if ((x6 : Int) != x15) then (
      some false)
    else (
      s_l2Ints_L1 a_b rest5 (k4 + 1))
def s_l2Ints (a_a : List Int) (a_b : List Int) : Option (Bool) :=
  if (((a_a.length : Int) : Int) != (a_b.length : Int)) then (
    some false)
  else (
    s_l2Ints_L1 a_b a_a 0)
theorem s_l2Ints_ok (a_a : List Int) (v0_0 : Sv) (a_b : List Int) (v1_0 : Sv) (R : Bool) (hF : s_l2Ints a_a a_b = some R) :
    Fw.Spec Try.prog 87 [v0_0.v, v1_0.v] [crd (RdS 3 rdInt) v0_0.v a_a, crd (RdS 3 rdInt) v1_0.v a_b] (fun _ : Unit => (.bool R)) (fun _ => []) := by
  refine Spec_enter (n := 26) Try.func87 rfl rfl (rs := [.tmp 4]) rfl rfl rfl ?_
  intro H0 F0
  unfold s_l2Ints at hF
  refine K_region ?_
  refine C_val (V_assign (v := (.bool false)) (.bool _)) ?_
  refine C_nil ?_
  refine K_in ?_
  refine K_region ?_
  refine C_val (V_move (v := v0_0.v) (.tmp rfl rfl)) ?_
  refine C_at .h (fun hp => V_lenR (l := a_a.length) sl45 (.tmp rfl rfl) (crd_len hp)) ?_
  refine C_val (V_move (v := v1_0.v) (.tmp rfl rfl)) ?_
  refine C_at (.t .h) (fun hp => V_lenR (l := a_b.length) sl45 (.tmp rfl rfl) (crd_len hp)) ?_
  refine C_val (V_neq (i := (a_a.length : Int)) (j := (a_b.length : Int)) (.tmp rfl rfl) (.tmp rfl rfl)) ?_
  refine C_nil ?_
  refine CW_cond (b := (((a_a.length : Int) : Int) != (a_b.length : Int))) (.tmp rfl rfl) (fun hb23 => ?_) (fun hb23 => ?_)
  · rw [if_pos hb23] at hF
    refine K_region ?_
    refine C_val (V_assign (v := (.bool false)) (.bool _)) ?_
    refine C_nil ?_
    refine CW_ret ?_
    obtain rfl := Option.some.inj hF
    exact End_ret () (.tmp rfl rfl .nil) rfl (.sel .nil)
  rw [if_neg (by rw [hb23]; exact Bool.false_ne_true)] at hF
  refine CW_skip ?_
  refine K_in ?_
  refine K_region ?_
  refine C_val (V_assign (v := (.int .i64 0)) (.int _ _)) ?_
  refine C_nil ?_
  refine CW_block ?_
  refine CW_loop (m := a_a.length) (fun m2 f' cs' => ∃ (g : Fr) (k4 : Nat) (rest5 : List Int), m2 = rest5.length ∧ f' = updL g [(0, v0_0.v), (1, v1_0.v), (5, (.int .i64 (k4 : Int)))] ∧ List.drop k4 a_a = rest5 ∧ Ent cs' [crd (RdS 3 rdInt) v0_0.v a_a, crd (RdS 3 rdInt) v1_0.v a_b] ∧ s_l2Ints_L1 a_b rest5 k4 = some R) ⟨_, 0, _, rfl, (EqL.cons rfl (EqL.cons rfl (EqL.cons rfl (EqL.nil)))).eq, rfl, (.sel (.rd .h rfl (.rd (.t .h) rfl .nil))), hF⟩ ?_
  clear hF
  rintro m2 _ _ ⟨g3, k4, rest5, rfl, rfl, hd7, hE, hF⟩
  refine K_ent hE ?_
  clear hE
  refine K_pure (c := crd (RdS 3 rdInt) v0_0.v a_a) .h crd_bound (fun hbd12 => ?_)
  rcases rest5 with _ | ⟨x6, rest5⟩
  · have hk8 := List.drop_eq_nil_iff.1 hd7
    have hfe11 : (decide (((k4 : Int) : Int) < (a_a.length : Int))) = false := decide_eq_false (by omega)
    rw [s_l2Ints_L1] at hF
    refine K_in ?_
    refine K_region ?_
    refine C_val (V_move (v := (.int .i64 (k4 : Int))) (.tmp rfl rfl)) ?_
    refine C_val (V_move (v := v0_0.v) (.tmp rfl rfl)) ?_
    refine C_at .h (fun hp => V_lenR (l := a_a.length) sl45 (.tmp rfl rfl) (crd_len hp)) ?_
    refine C_val (V_lss (i := (k4 : Int)) (j := (a_a.length : Int)) (.tmp rfl rfl) (.tmp rfl rfl)) ?_
    refine C_nil ?_
    refine CW_cond (b := (decide (((k4 : Int) : Int) < (a_a.length : Int)))) (.tmp rfl rfl) (fun hb => absurd (hfe11.symm.trans hb) (by decide)) (fun _ => ?_)
    refine CW_exit ?_
    refine CThen_exit ?_
    refine CThen_exit ?_
    refine CIn_self ?_
    refine K_region ?_
    refine C_val (V_assign (v := (.bool true)) (.bool _)) ?_
    refine C_nil ?_
    refine CW_ret ?_
    obtain rfl := Option.some.inj hF
    exact End_ret () (.tmp rfl rfl .nil) rfl (.sel .nil)
  obtain ⟨hk8, hx9, hd10⟩ := drop_cons hd7
  have hfe11 : (decide (((k4 : Int) : Int) < (a_a.length : Int))) = true := decide_eq_true (by omega)
  rw [s_l2Ints_L1] at hF
  refine K_in ?_
  refine K_region ?_
  refine C_val (V_move (v := (.int .i64 (k4 : Int))) (.tmp rfl rfl)) ?_
  refine C_val (V_move (v := v0_0.v) (.tmp rfl rfl)) ?_
  refine C_at .h (fun hp => V_lenR (l := a_a.length) sl45 (.tmp rfl rfl) (crd_len hp)) ?_
  refine C_val (V_lss (i := (k4 : Int)) (j := (a_a.length : Int)) (.tmp rfl rfl) (.tmp rfl rfl)) ?_
  refine C_nil ?_
  refine CW_cond (b := (decide (((k4 : Int) : Int) < (a_a.length : Int)))) (.tmp rfl rfl) (fun _ => ?_) (fun hb => absurd (hfe11.symm.trans hb) (by decide))
  refine CW_skip ?_
  refine K_block ?_
  refine K_draw [0, 1, 2, 3, 4, 5, 6, 7, 8] [0, 0, 3, 7, 0, 0, 48, 112, 255] [] mixed (by decide +kernel) ?_
  refine D_val rfl .no (fun ha => V_move (v := v0_0.v) (EN ha (.tmp rfl rfl) rfl)) ?_
  refine D_val rfl .no (fun ha => V_move (v := (.int .i64 (k4 : Int))) (EN ha (.tmp rfl rfl) rfl)) ?_
  refine D_idx (a := x6) sl45 ty3.sz rfl .no (.tmp rfl rfl) (.tmp rfl rfl) rfl rfl .h (Int.natCast_nonneg k4) hx9 (fun k13 j14 => ?_)
  refine D_ldS (w := (.int .i64 x6)) ag3 rfl .no (.tmp rfl rfl) rfl .h ls3_0 ?_
  refine D_val rfl .no (fun ha => V_move (v := v1_0.v) (EN ha (.tmp rfl rfl) rfl)) ?_
  refine D_val rfl .no (fun ha => V_move (v := (.int .i64 (k4 : Int))) (EN ha (.tmp rfl rfl) rfl)) ?_
  obtain ⟨x15, hx16, hF⟩ := bind_some hF
  obtain ⟨hp17, hx18⟩ := ix_some hx16
  refine D_idx (a := x15) sl45 ty3.sz rfl .no (.tmp rfl rfl) (.tmp rfl rfl) rfl rfl (.t (.t .h)) hp17 hx18 (fun k19 j20 => ?_)
  refine D_ldS (w := (.int .i64 x15)) ag3 rfl .no (.tmp rfl rfl) rfl .h ls3_0 ?_
  refine D_val rfl .no (fun ha => V_neq (i := x6) (j := x15) (EN ha (.tmp rfl rfl) rfl) (EN ha (.tmp rfl rfl) rfl)) ?_
  refine D_nil ?_
  refine CW_cond (b := ((x6 : Int) != x15)) (.tmp rfl rfl) (fun hb22 => ?_) (fun hb22 => ?_)
  · rw [if_pos hb22] at hF
    refine K_region ?_
    refine C_val (V_assign (v := (.bool false)) (.bool _)) ?_
    refine C_nil ?_
    refine CW_ret ?_
    obtain rfl := Option.some.inj hF
    exact End_ret () (.tmp rfl rfl .nil) rfl (.sel .nil)
  rw [if_neg (by rw [hb22]; exact Bool.false_ne_true)] at hF
  refine CW_skip ?_
  refine CW_region ?_
  refine C_val (V_move (v := (.int .i64 (k4 : Int))) (.tmp rfl rfl)) ?_
  refine C_val (V_add (i := (k4 : Int)) (j := 1) (.tmp rfl rfl) (.int _ _)) ?_
  refine C_val (V_assign (v := (.int .i64 (IntKind.i64.wrap ((k4 : Int) + 1)))) (.tmp rfl rfl)) ?_
  refine C_nil ?_
  have hw21 : IntKind.i64.wrap ((k4 : Int) + 1) = ((k4 + 1 : Nat) : Int) := by rw [wrap_in (by omega) (by omega)]; rfl
  rw [hw21]
  exact ⟨_, Nat.lt_succ_self _, _, k4 + 1, rest5, rfl, (EqL.cons rfl (EqL.cons rfl (EqL.cons rfl (EqL.nil)))).eq, hd10, (.sel (.rd (.t (.t .h)) rfl (.rd (.t (.t (.t .h))) rfl .nil))), hF⟩

/-! spec.l5Same -/
def s_l5Same (a_a : Access) (a_b : Access) : Option (Bool) :=
  (bif ((a_a.Method : Int) == a_b.Method) then ((s_l2Ints a_a.Values a_b.Values).bind fun r6 =>
      some r6)
    else (some false)).bind fun o3 =>
  match o3 with
  | c9 => some c9
theorem s_l5Same_ok (a_a : Access) (v0_1 : Sv) (a_b : Access) (v1_1 : Sv) (R : Bool) (hF : s_l5Same a_a a_b = some R) :
    Fw.Spec Try.prog 110 [(.agg [(.int .i64 a_a.Method), v0_1.v].toArray), (.agg [(.int .i64 a_b.Method), v1_1.v].toArray)] [crd (RdS 3 rdInt) v0_1.v a_a.Values, crd (RdS 3 rdInt) v1_1.v a_b.Values] (fun _ : Unit => (.bool R)) (fun _ => []) := by
  refine Spec_enter (n := 17) Try.func110 rfl rfl (rs := [.tmp 4]) rfl rfl rfl ?_
  intro H0 F0
  unfold s_l5Same at hF
  refine K_region ?_
  refine C_newR rfl (N_box (g := false) (v := (.agg [(.int .i64 a_a.Method), v0_1.v].toArray)) ty100.sz (.tmp rfl rfl) rfl) (fun k1 => ?_)
  refine C_newR rfl (N_box (g := false) (v := (.agg [(.int .i64 a_b.Method), v1_1.v].toArray)) ty100.sz (.tmp rfl rfl) rfl) (fun k2 => ?_)
  refine C_val (V_assign (v := (.bool false)) (.bool _)) ?_
  refine C_nil ?_
  obtain ⟨o3, hio3, hO4⟩ := bind_some hF
  refine K_region ?_
  refine C_cut (fun f' cs' => ∃ (c9 : Bool) (g : Fr), c9 = o3 ∧ f' = updL g [(4, (.bool c9))] ∧ Ent cs' []) ?_ ?_
  · replace hF := hio3
    refine C_val (V_fieldAddr (off := 0) fd100_0 (.tmp rfl rfl)) ?_
    refine C_at (.t .h) (fun hp => V_load (v := (.int .i64 a_a.Method)) ag3 (.tmp rfl rfl) hp.2 rfl rfl) ?_
    refine C_val (V_fieldAddr (off := 0) fd100_0 (.tmp rfl rfl)) ?_
    refine C_at .h (fun hp => V_load (v := (.int .i64 a_b.Method)) ag3 (.tmp rfl rfl) hp.2 rfl rfl) ?_
    refine C_val (V_eql (i := a_a.Method) (j := a_b.Method) (.tmp rfl rfl) (.tmp rfl rfl)) ?_
    refine C_val (V_move (v := (.bool ((a_a.Method : Int) == a_b.Method))) (.tmp rfl rfl)) ?_
    rcases Bool.eq_false_or_eq_true ((a_a.Method : Int) == a_b.Method) with hg5 | hg5
    · rw [hg5]
      try rw [hg5] at hF; dsimp only [cond_true, cond_false] at hF
      refine C_on (t := 10) rfl rfl rfl ?_
      refine C_val (V_fieldAddr (off := 1) fd100_1 (.tmp rfl rfl)) ?_
      refine C_on (t := 10) rfl rfl rfl ?_
      refine C_at (.t .h) (fun hp => V_load (v := v0_1.v) ag45 (.tmp rfl rfl) hp.2 rfl rfl) ?_
      refine C_on (t := 10) rfl rfl rfl ?_
      refine C_val (V_fieldAddr (off := 1) fd100_1 (.tmp rfl rfl)) ?_
      refine C_on (t := 10) rfl rfl rfl ?_
      refine C_at .h (fun hp => V_load (v := v1_1.v) ag45 (.tmp rfl rfl) hp.2 rfl rfl) ?_
      refine C_on (t := 10) rfl rfl rfl ?_
      obtain ⟨r6, hx7, hF⟩ := bind_some hF
      refine C_x0 (.rd (.t (.t .h)) rfl (.rd (.t (.t (.t .h))) rfl .nil)) (X_callS cf87 (.cons (.tmp rfl rfl) (.cons (.tmp rfl rfl) .nil)) (s_l2Ints_ok a_a.Values v0_1 a_b.Values v1_1 _ hx7)) (fun _ => ?_)
      refine C_val (V_pick (b := true) (u := (.bool r6)) (v := (.bool false)) (.tmp rfl rfl) (.tmp rfl rfl) (.bool _)) ?_
      refine C_val (V_assign (v := (.bool r6)) (.tmp rfl rfl)) ?_
      refine C_nil ?_
      obtain rfl := Option.some.inj hF
      exact ⟨_, _, rfl, (EqL.cons rfl (EqL.nil)).eq, (.sel .nil)⟩
    rw [hg5]
    try rw [hg5] at hF; dsimp only [cond_true, cond_false] at hF
    refine C_off (t := 10) rfl rfl rfl ?_
    refine C_off (t := 10) rfl rfl rfl ?_
    refine C_off (t := 10) rfl rfl rfl ?_
    refine C_off (t := 10) rfl rfl rfl ?_
    refine C_off (t := 10) rfl rfl rfl ?_
    refine C_val (V_pick (b := false) (u := undef) (v := (.bool false)) (.tmp rfl rfl) (.tmp rfl rfl) (.bool _)) ?_
    refine C_val (V_assign (v := (.bool false)) (.tmp rfl rfl)) ?_
    refine C_nil ?_
    obtain rfl := Option.some.inj hF
    exact ⟨_, _, rfl, (EqL.cons rfl (EqL.nil)).eq, (.sel .nil)⟩
  rintro _ _ ⟨c9, g10, rfl, rfl, hE⟩
  replace hF := hO4
  clear hO4
  try dsimp only at hF
  refine K_ent hE ?_
  refine CW_ret ?_
  obtain rfl := Option.some.inj hF
  exact End_ret () (.tmp rfl rfl .nil) rfl (.sel .nil)

/-! spec.SameAccesses -/
def s_SameAccesses_L1 (a_b : List Access) : List Access → Nat → Option (Bool)
  | [], k4 => some true
  | x6 :: rest5, k4 => (ix a_b (k4 : Int)).bind fun x16 =>
    (s_l5Same x6 x16).bind fun r23 =>
    if (!r23) then (
      some false)
    else (
      s_SameAccesses_L1 a_b rest5 (k4 + 1))
def s_SameAccesses (a_a : List Access) (a_b : List Access) : Option (Bool) :=
  if (((a_a.length : Int) : Int) != (a_b.length : Int)) then (
    some false)
  else (
    s_SameAccesses_L1 a_b a_a 0)
theorem s_SameAccesses_ok (a_a : List Access) (v0_0 : Sv) (a_b : List Access) (v1_0 : Sv) (R : Bool) (hF : s_SameAccesses a_a a_b = some R) :
    Fw.Spec Try.prog 61 [v0_0.v, v1_0.v] [crd (RdS 100 rd100) v0_0.v a_a, crd (RdS 100 rd100) v1_0.v a_b] (fun _ : Unit => (.bool R)) (fun _ => []) := by
  refine Spec_enter (n := 27) Try.func61 rfl rfl (rs := [.tmp 4]) rfl rfl rfl ?_
  intro H0 F0
  unfold s_SameAccesses at hF
  refine K_region ?_
  refine C_val (V_assign (v := (.bool false)) (.bool _)) ?_
  refine C_nil ?_
  refine K_in ?_
  refine K_region ?_
  refine C_val (V_move (v := v0_0.v) (.tmp rfl rfl)) ?_
  refine C_at .h (fun hp => V_lenR (l := a_a.length) sl33 (.tmp rfl rfl) (crd_len hp)) ?_
  refine C_val (V_move (v := v1_0.v) (.tmp rfl rfl)) ?_
  refine C_at (.t .h) (fun hp => V_lenR (l := a_b.length) sl33 (.tmp rfl rfl) (crd_len hp)) ?_
  refine C_val (V_neq (i := (a_a.length : Int)) (j := (a_b.length : Int)) (.tmp rfl rfl) (.tmp rfl rfl)) ?_
  refine C_nil ?_
  refine CW_cond (b := (((a_a.length : Int) : Int) != (a_b.length : Int))) (.tmp rfl rfl) (fun hb28 => ?_) (fun hb28 => ?_)
  · rw [if_pos hb28] at hF
    refine K_region ?_
    refine C_val (V_assign (v := (.bool false)) (.bool _)) ?_
    refine C_nil ?_
    refine CW_ret ?_
    obtain rfl := Option.some.inj hF
    exact End_ret () (.tmp rfl rfl .nil) rfl (.sel .nil)
  rw [if_neg (by rw [hb28]; exact Bool.false_ne_true)] at hF
  refine CW_skip ?_
  refine K_in ?_
  refine K_region ?_
  refine C_val (V_assign (v := (.int .i64 0)) (.int _ _)) ?_
  refine C_nil ?_
  refine CW_block ?_
  refine CW_loop (m := a_a.length) (fun m2 f' cs' => ∃ (g : Fr) (k4 : Nat) (rest5 : List Access), m2 = rest5.length ∧ f' = updL g [(0, v0_0.v), (1, v1_0.v), (5, (.int .i64 (k4 : Int)))] ∧ List.drop k4 a_a = rest5 ∧ Ent cs' [crd (RdS 100 rd100) v0_0.v a_a, crd (RdS 100 rd100) v1_0.v a_b] ∧ s_SameAccesses_L1 a_b rest5 k4 = some R) ⟨_, 0, _, rfl, (EqL.cons rfl (EqL.cons rfl (EqL.cons rfl (EqL.nil)))).eq, rfl, (.sel (.rd .h rfl (.rd (.t .h) rfl .nil))), hF⟩ ?_
  clear hF
  rintro m2 _ _ ⟨g3, k4, rest5, rfl, rfl, hd7, hE, hF⟩
  refine K_ent hE ?_
  clear hE
  refine K_pure (c := crd (RdS 100 rd100) v0_0.v a_a) .h crd_bound (fun hbd12 => ?_)
  rcases rest5 with _ | ⟨x6, rest5⟩
  · have hk8 := List.drop_eq_nil_iff.1 hd7
    have hfe11 : (decide (((k4 : Int) : Int) < (a_a.length : Int))) = false := decide_eq_false (by omega)
    rw [s_SameAccesses_L1] at hF
    refine K_in ?_
    refine K_region ?_
    refine C_val (V_move (v := (.int .i64 (k4 : Int))) (.tmp rfl rfl)) ?_
    refine C_val (V_move (v := v0_0.v) (.tmp rfl rfl)) ?_
    refine C_at .h (fun hp => V_lenR (l := a_a.length) sl33 (.tmp rfl rfl) (crd_len hp)) ?_
    refine C_val (V_lss (i := (k4 : Int)) (j := (a_a.length : Int)) (.tmp rfl rfl) (.tmp rfl rfl)) ?_
    refine C_nil ?_
    refine CW_cond (b := (decide (((k4 : Int) : Int) < (a_a.length : Int)))) (.tmp rfl rfl) (fun hb => absurd (hfe11.symm.trans hb) (by decide)) (fun _ => ?_)
    refine CW_exit ?_
    refine CThen_exit ?_
    refine CThen_exit ?_
    refine CIn_self ?_
    refine K_region ?_
    refine C_val (V_assign (v := (.bool true)) (.bool _)) ?_
    refine C_nil ?_
    refine CW_ret ?_
    obtain rfl := Option.some.inj hF
    exact End_ret () (.tmp rfl rfl .nil) rfl (.sel .nil)
  obtain ⟨hk8, hx9, hd10⟩ := drop_cons hd7
  have hfe11 : (decide (((k4 : Int) : Int) < (a_a.length : Int))) = true := decide_eq_true (by omega)
  rw [s_SameAccesses_L1] at hF
  refine K_in ?_
  refine K_region ?_
  refine C_val (V_move (v := (.int .i64 (k4 : Int))) (.tmp rfl rfl)) ?_
  refine C_val (V_move (v := v0_0.v) (.tmp rfl rfl)) ?_
  refine C_at .h (fun hp => V_lenR (l := a_a.length) sl33 (.tmp rfl rfl) (crd_len hp)) ?_
  refine C_val (V_lss (i := (k4 : Int)) (j := (a_a.length : Int)) (.tmp rfl rfl) (.tmp rfl rfl)) ?_
  refine C_nil ?_
  refine CW_cond (b := (decide (((k4 : Int) : Int) < (a_a.length : Int)))) (.tmp rfl rfl) (fun _ => ?_) (fun hb => absurd (hfe11.symm.trans hb) (by decide))
  refine CW_skip ?_
  refine K_block ?_
  refine K_draw [0, 1, 2, 3, 4, 5, 6, 7, 8, 9] [0, 0, 3, 7, 0, 0, 48, 112, 255, 511] [8] mixed (by decide +kernel) ?_
  refine D_val rfl .no (fun ha => V_move (v := v0_0.v) (EN ha (.tmp rfl rfl) rfl)) ?_
  refine D_val rfl .no (fun ha => V_move (v := (.int .i64 (k4 : Int))) (EN ha (.tmp rfl rfl) rfl)) ?_
  refine D_idx (a := x6) sl33 ty100.sz rfl .no (.tmp rfl rfl) (.tmp rfl rfl) rfl rfl .h (Int.natCast_nonneg k4) hx9 (fun k13 j14 => ?_)
  refine D_ldA1 (ul100_0_100 x6) ag100 ty100.sz rfl rfl .no (.tmp rfl rfl) rfl .h la100_0_100 (fun p15 => ?_)
  refine D_val rfl .no (fun ha => V_move (v := v1_0.v) (EN ha (.tmp rfl rfl) rfl)) ?_
  refine D_val rfl .no (fun ha => V_move (v := (.int .i64 (k4 : Int))) (EN ha (.tmp rfl rfl) rfl)) ?_
  obtain ⟨x16, hx17, hF⟩ := bind_some hF
  obtain ⟨hp18, hx19⟩ := ix_some hx17
  refine D_idx (a := x16) sl33 ty100.sz rfl .no (.tmp rfl rfl) (.tmp rfl rfl) rfl rfl (.t (.t (.t .h))) hp18 hx19 (fun k20 j21 => ?_)
  refine D_ldA1 (ul100_0_100 x16) ag100 ty100.sz rfl rfl .no (.tmp rfl rfl) rfl .h la100_0_100 (fun p22 => ?_)
  obtain ⟨r23, hx24, hF⟩ := bind_some hF
  refine D_act0 rfl rfl .no (.rd (.t (.t .h)) rfl (.rd .h rfl .nil)) .nil (fun ha => X_callS cf110 (.cons (EN ha (.tmp rfl rfl) rfl) (.cons (EN ha (.tmp rfl rfl) rfl) .nil)) (s_l5Same_ok x6 p15 x16 p22 _ hx24)) (fun _ => ?_)
  refine D_val rfl .no (fun ha => V_not (b := r23) (EN ha (.tmp rfl rfl) rfl)) ?_
  refine D_nil ?_
  refine CW_cond (b := (!r23)) (.tmp rfl rfl) (fun hb27 => ?_) (fun hb27 => ?_)
  · rw [if_pos hb27] at hF
    refine K_region ?_
    refine C_val (V_assign (v := (.bool false)) (.bool _)) ?_
    refine C_nil ?_
    refine CW_ret ?_
    obtain rfl := Option.some.inj hF
    exact End_ret () (.tmp rfl rfl .nil) rfl (.sel .nil)
  rw [if_neg (by rw [hb27]; exact Bool.false_ne_true)] at hF
  refine CW_skip ?_
  refine CW_region ?_
  refine C_val (V_move (v := (.int .i64 (k4 : Int))) (.tmp rfl rfl)) ?_
  refine C_val (V_add (i := (k4 : Int)) (j := 1) (.tmp rfl rfl) (.int _ _)) ?_
  refine C_val (V_assign (v := (.int .i64 (IntKind.i64.wrap ((k4 : Int) + 1)))) (.tmp rfl rfl)) ?_
  refine C_nil ?_
  have hw26 : IntKind.i64.wrap ((k4 : Int) + 1) = ((k4 + 1 : Nat) : Int) := by rw [wrap_in (by omega) (by omega)]; rfl
  rw [hw26]
  exact ⟨_, Nat.lt_succ_self _, _, k4 + 1, rest5, rfl, (EqL.cons rfl (EqL.cons rfl (EqL.cons rfl (EqL.nil)))).eq, hd10, (.sel (.rd (.t (.t (.t (.t .h)))) rfl (.rd (.t (.t (.t (.t (.t .h))))) rfl .nil))), hF⟩

/-! spec.SameView -/
def s_SameView (a_l : List Method) (a_a : List Access) (a_b : List Access) (a_rel : Int) : Option (Bool) :=
  (s_ViewOf a_l a_a a_rel).bind fun r1 =>
  (s_ViewOf a_l a_b a_rel).bind fun r4 =>
  (s_SameAccesses r1 r4).bind fun r7 =>
  some r7
theorem s_SameView_ok (a_l : List Method) (v0_0 : Sv) (a_a : List Access) (v1_0 : Sv) (a_b : List Access) (v2_0 : Sv) (a_rel : Int) (R : Bool) (hF : s_SameView a_l a_a a_b a_rel = some R) :
    Fw.Spec Try.prog 25 [v0_0.v, v1_0.v, v2_0.v, (.int .i64 a_rel)] [crd (RdS 101 rd101) v0_0.v a_l, crd (RdS 100 rd100) v1_0.v a_a, crd (RdS 100 rd100) v2_0.v a_b] (fun _ : Unit => (.bool R)) (fun _ => []) := by
  refine Spec_enter (n := 18) Try.func25 rfl rfl (rs := [.tmp 8]) rfl rfl rfl ?_
  intro H0 F0
  unfold s_SameView at hF
  refine K_region ?_
  refine C_val (V_assign (v := (.bool false)) (.bool _)) ?_
  refine C_nil ?_
  refine K_region ?_
  refine C_val (V_move (v := v0_0.v) (.tmp rfl rfl)) ?_
  refine C_val (V_move (v := v1_0.v) (.tmp rfl rfl)) ?_
  refine C_val (V_move (v := (.int .i64 a_rel)) (.tmp rfl rfl)) ?_
  obtain ⟨r1, hx2, hF⟩ := bind_some hF
  refine C_x1 (.rd .h rfl (.rd (.t .h) rfl .nil)) (X_callS cf16 (.cons (.tmp rfl rfl) (.cons (.tmp rfl rfl) (.cons (.tmp rfl rfl) .nil))) (s_ViewOf_ok a_l v0_0 a_a v1_0 a_rel _ hx2)) (fun p3 => ?_)
  refine C_val (V_move (v := v0_0.v) (.tmp rfl rfl)) ?_
  refine C_val (V_move (v := v2_0.v) (.tmp rfl rfl)) ?_
  refine C_val (V_move (v := (.int .i64 a_rel)) (.tmp rfl rfl)) ?_
  obtain ⟨r4, hx5, hF⟩ := bind_some hF
  refine C_x1 (.rd (.t .h) rfl (.rd (.t (.t (.t .h))) rfl .nil)) (X_callS cf16 (.cons (.tmp rfl rfl) (.cons (.tmp rfl rfl) (.cons (.tmp rfl rfl) .nil))) (s_ViewOf_ok a_l v0_0 a_b v2_0 a_rel _ hx5)) (fun p6 => ?_)
  obtain ⟨r7, hx8, hF⟩ := bind_some hF
  refine C_x2 (.cons .h (.cons .h .nil)) (XC_borL (pre := []) (.cons frz_own (.cons frz_own .nil)) (fun _ => .nil) (X_callS cf61 (.cons (.tmp rfl rfl) (.cons (.tmp rfl rfl) .nil)) (s_SameAccesses_ok r1 p3.1 r4 p6.1 _ hx8))) (fun _ => ?_)
  refine C_val (V_assign (v := (.bool r7)) (.tmp rfl rfl)) ?_
  refine C_nil ?_
  refine CW_ret ?_
  obtain rfl := Option.some.inj hF
  exact End_ret () (.tmp rfl rfl .nil) rfl (.sel .nil)

/-! slices.Clone[[]int,int] -/
def g_slices_Clone_int_int (a_s : List Int) : Option ((List Int)) :=
  (app ([] : List Int) a_s).bind fun z5 =>
  some z5
theorem g_slices_Clone_int_int_ok (a_s : List Int) (v0_0 : Sv) (R : (List Int)) (hF : g_slices_Clone_int_int a_s = some R) :
    Fw.Spec Try.prog 65 [v0_0.v] [crd (RdS 3 rdInt) v0_0.v a_s] (fun p : Sv × List Nat => p.1.v) (fun p => [cown (OwnS 3 (roE rdInt)) p.2 p.1.v R]) := by
  refine Spec_enter (n := 8) Try.func65 rfl rfl (rs := [.tmp 2]) rfl rfl rfl ?_
  intro H0 F0
  unfold g_slices_Clone_int_int at hF
  refine K_region ?_
  refine C_val (V_assign (v := (.slice none 0 0)) EV.nilSlice) ?_
  refine C_nil ?_
  refine K_in ?_
  refine K_region ?_
  refine C_val (V_move (v := v0_0.v) (.tmp rfl rfl)) ?_
  refine C_eqNil (xs := a_s) sl45 (.tmp rfl rfl) .h crd_nilc (fun bn1 hn2 => ?_)
  refine C_nil ?_
  refine CW_cond (b := bn1) (.tmp rfl rfl) (fun hb3 => ?_) (fun hb3 => ?_)
  · have hnil := hn2 hb3
    replace hF : some [] = some R := by rw [hnil] at hF; simpa [app] using hF
    refine K_region ?_
    refine C_val (V_assign (v := (.slice none 0 0)) EV.nilSlice) ?_
    refine C_nil ?_
    refine CW_ret ?_
    obtain rfl := Option.some.inj hF
    exact End_ret (⟨none, 0, 0⟩, []) (.tmp rfl rfl .nil) rfl (.conv .nil (own_nil (Ro := (roE rdInt)) (E := 3)) (.cons .nil) (.sel (.cons .h .nil)))
  refine CW_skip ?_
  refine K_region ?_
  refine C_new rfl (N_buildSliceT (g := true) sl45 ty3 .nil (vs := []) rfl rfl rfl (by simp)) (fun k4 => ?_)
  refine C_conv (.cons .h .nil) (own_lit (Ro := (roE rdInt)) (E := 3) (F := []) (xs := ([] : List Int)) MkL_nil rfl rfl) apps ?_
  refine C_val (V_move (v := v0_0.v) (.tmp rfl rfl)) ?_
  obtain ⟨z5, hx6, hF⟩ := bind_some hF
  refine C_x1 (.cons .h (.rd .h rfl .nil)) (X_appendO (Ro := (roE rdInt)) sl45 ni45 ty3 rfl rfl rfl (.tmp rfl rfl) (.tmp rfl rfl) hx6 src_rd) (fun p7 => ?_)
  refine C_val (V_assign (v := p7.1.v) (.tmp rfl rfl)) ?_
  refine C_nil ?_
  refine CW_ret ?_
  obtain rfl := Option.some.inj hF
  exact End_ret (p7.1, p7.2) (.tmp rfl rfl .nil) rfl (.sel (.cons .h .nil))

/-! impl.copyAccess -/
def i_copyAccess (a_a : Access) : Option (Access) :=
  (g_slices_Clone_int_int a_a.Values).bind fun r3 =>
  some ({ Method := a_a.Method, Values := r3 } : Access)
theorem i_copyAccess_ok (a_a : Access) (v0_1 : Sv) (R : Access) (hF : i_copyAccess a_a = some R) :
    Fw.Spec Try.prog 109 [(.agg [(.int .i64 a_a.Method), v0_1.v].toArray)] [crd (RdS 3 rdInt) v0_1.v a_a.Values] (fun p : Sv × List Nat => (.agg [(.int .i64 R.Method), p.1.v].toArray)) (fun p => [cown (OwnS 3 (roE rdInt)) p.2 p.1.v R.Values]) := by
  refine Spec_enter (n := 9) Try.func109 rfl rfl (rs := [.cell 2 100]) rfl rfl rfl ?_
  intro H0 F0
  unfold i_copyAccess at hF
  refine K_region ?_
  refine C_newR rfl (N_box (g := false) (v := (.agg [(.int .i64 a_a.Method), v0_1.v].toArray)) ty100.sz (.tmp rfl rfl) rfl) (fun k1 => ?_)
  refine C_new rfl (N_allocT (g := true) ty100 rfl rfl) (fun k2 => ?_)
  refine C_nil ?_
  refine K_draw [0, 1, 2, 3, 4, 5, 6] [0, 1, 0, 4, 12, 31, 63] [4, 6] mixed (by decide +kernel) ?_
  refine D_val rfl .no (fun ha => V_fieldAddr (off := 0) fd100_0 (EN ha (.tmp rfl rfl) rfl)) ?_
  refine D_at rfl .no (.t .h) rfl (fun ha hp => V_load (v := (.int .i64 a_a.Method)) ag3 (EN ha (.tmp rfl rfl) rfl) hp.2 rfl rfl) ?_
  refine D_val rfl .no (fun ha => V_fieldAddr (off := 1) fd100_1 (EN ha (.tmp rfl rfl) rfl)) ?_
  refine D_at rfl .no (.t .h) rfl (fun ha hp => V_load (v := v0_1.v) ag45 (EN ha (.tmp rfl rfl) rfl) hp.2 rfl rfl) ?_
  obtain ⟨r3, hx4, hF⟩ := bind_some hF
  refine D_act1 rfl rfl .no (.rd (.t (.t .h)) rfl .nil) .nil (fun ha => X_callS cf65 (.cons (EN ha (.tmp rfl rfl) rfl) .nil) (g_slices_Clone_int_int_ok a_a.Values v0_1 _ hx4)) (fun p5 => ?_)
  refine D_val rfl .no (fun ha => V_build ty100 rfl (vs := [(.int .i64 a_a.Method), p5.1.v]) (.cons (EN ha (.tmp rfl rfl) rfl) (.cons (EN ha (.tmp rfl rfl) rfl) .nil)) (cells := [(.int .i64 a_a.Method), p5.1.v]) rfl) ?_
  refine D_act1 rfl rfl .no (.cons (.t .h) .nil) .nil (fun ha => X_storeB (e := (.agg [(.int .i64 0), (.slice none 0 0)].toArray)) (e' := (.agg [(.int .i64 a_a.Method), p5.1.v].toArray)) (v := (.agg [(.int .i64 a_a.Method), p5.1.v].toArray)) ty100.sz (EN ha (.tmp rfl rfl) rfl) (EN ha (.tmp rfl rfl) rfl) rfl rfl rfl rfl rfl) (fun _ => ?_)
  refine D_nil ?_
  refine CW_ret ?_
  obtain rfl := Option.some.inj hF
  exact End_ret (p5.1, p5.2) (.cellA rfl rfl .h rfl ag100 ty100.sz rfl rfl .nil) rfl (.sel (.cons (.t .h) .nil))

/-! impl.copyAccesses -/
def i_copyAccesses_L1 : List Access → Nat → (List Access) → Option ((List Access))
  | [], k8, c2 => some c2
  | x10 :: rest9, k8, c2 => (i_copyAccess x10).bind fun r21 =>
    (app c2 ([r21] : List Access)).bind fun z25 =>
    i_copyAccesses_L1 rest9 (k8 + 1) z25
def i_copyAccesses (a_l : List Access) : Option ((List Access)) :=
  i_copyAccesses_L1 a_l 0 ([] : List Access)
theorem i_copyAccesses_ok (a_l : List Access) (v0_0 : Sv) (R : (List Access)) (hF : i_copyAccesses a_l = some R) :
    Fw.Spec Try.prog 56 [v0_0.v] [crd (RdS 100 rd100) v0_0.v a_l] (fun p : Sv × List Nat => p.1.v) (fun p => [cown (OwnS 100 ow100) p.2 p.1.v R]) := by
  refine Spec_enter (n := 20) Try.func56 rfl rfl (rs := [.tmp 2]) rfl rfl rfl ?_
  intro H0 F0
  unfold i_copyAccesses at hF
  refine K_region ?_
  refine C_val (V_assign (v := (.slice none 0 0)) EV.nilSlice) ?_
  refine C_nil ?_
  refine K_region ?_
  refine C_new rfl (N_buildSliceT (g := true) sl33 ty100 .nil (vs := []) rfl rfl rfl (by simp)) (fun k1 => ?_)
  refine C_conv (.cons .h .nil) (own_lit (Ro := ow100) (E := 100) (F := []) (xs := ([] : List Access)) MkL_nil rfl rfl) apps ?_
  refine C_val (V_assign (v := (.slice (some ⟨k1, 0, none⟩) 0 1)) (.tmp rfl rfl)) ?_
  refine C_nil ?_
  refine K_in ?_
  refine K_region ?_
  refine C_val (V_move (v := v0_0.v) (.tmp rfl rfl)) ?_
  refine C_at (.t .h) (fun hp => V_lenR (l := a_l.length) sl33 (.tmp rfl rfl) (crd_len hp)) ?_
  refine C_val (V_move (v := (.int .i64 0)) (.int _ _)) ?_
  refine C_nil ?_
  refine CW_block ?_
  refine CW_loop (m := a_l.length) (fun m6 f' cs' => ∃ (g : Fr) (k8 : Nat) (rest9 : List Access) (c2 : List Access) (v3 : Sv) (F4 : List Nat), m6 = rest9.length ∧ f' = updL g [(3, v3.v), (7, v0_0.v), (8, (.int .i64 (a_l.length : Int))), (9, (.int .i64 (k8 : Int)))] ∧ List.drop k8 a_l = rest9 ∧ Ent cs' [cown (OwnS 100 ow100) F4 v3.v c2, crd (RdS 100 rd100) v0_0.v a_l] ∧ i_copyAccesses_L1 rest9 k8 c2 = some R) ⟨_, 0, _, _, ⟨(some ⟨k1, 0, none⟩), 0, 1⟩, (k1 :: []), rfl, (EqL.cons rfl (EqL.cons rfl (EqL.cons rfl (EqL.cons rfl (EqL.nil))))).eq, rfl, (.sel (.cons .h (.rd .h rfl .nil))), hF⟩ ?_
  clear hF
  rintro m6 _ _ ⟨g7, k8, rest9, c2, v3, F4, rfl, rfl, hd11, hE, hF⟩
  refine K_ent hE ?_
  clear hE
  refine K_pure (c := crd (RdS 100 rd100) v0_0.v a_l) (.t .h) crd_bound (fun hbd16 => ?_)
  rcases rest9 with _ | ⟨x10, rest9⟩
  · have hk12 := List.drop_eq_nil_iff.1 hd11
    have hfe15 : (decide (((k8 : Int) : Int) < (a_l.length : Int))) = false := decide_eq_false (by omega)
    rw [i_copyAccesses_L1] at hF
    refine K_region ?_
    refine C_val (V_lss (i := (k8 : Int)) (j := (a_l.length : Int)) (.tmp rfl rfl) (.tmp rfl rfl)) ?_
    refine C_nil ?_
    refine K_in ?_
    refine CW_cond (b := (decide (((k8 : Int) : Int) < (a_l.length : Int)))) (.tmp rfl rfl) (fun hb => absurd (hfe15.symm.trans hb) (by decide)) (fun _ => ?_)
    refine CW_exit ?_
    refine CThen_exit ?_
    refine CThen_exit ?_
    refine CIn_self ?_
    refine K_region ?_
    refine C_val (V_move (v := v3.v) (.tmp rfl rfl)) ?_
    refine C_val (V_assign (v := v3.v) (.tmp rfl rfl)) ?_
    refine C_nil ?_
    refine CW_ret ?_
    obtain rfl := Option.some.inj hF
    exact End_ret (v3, F4) (.tmp rfl rfl .nil) rfl (.sel (.cons .h .nil))
  obtain ⟨hk12, hx13, hd14⟩ := drop_cons hd11
  have hfe15 : (decide (((k8 : Int) : Int) < (a_l.length : Int))) = true := decide_eq_true (by omega)
  rw [i_copyAccesses_L1] at hF
  refine K_region ?_
  refine C_val (V_lss (i := (k8 : Int)) (j := (a_l.length : Int)) (.tmp rfl rfl) (.tmp rfl rfl)) ?_
  refine C_nil ?_
  refine K_in ?_
  refine CW_cond (b := (decide (((k8 : Int) : Int) < (a_l.length : Int)))) (.tmp rfl rfl) (fun _ => ?_) (fun hb => absurd (hfe15.symm.trans hb) (by decide))
  refine CW_skip ?_
  refine K_block ?_
  refine K_region ?_
  refine C_idx (a := x10) sl33 ty100.sz (.tmp rfl rfl) (.tmp rfl rfl) (.t .h) (Int.natCast_nonneg k8) hx13 (fun k17 j18 => ?_)
  refine C_ldA1 (ul100_0_100 x10) ag100 ty100.sz rfl (.tmp rfl rfl) .h la100_0_100 (fun p19 => ?_)
  refine C_new rfl (N_allocT (g := true) ty100 rfl rfl) (fun k20 => ?_)
  refine C_x1 (.cons .h .nil) (X_storeB (e := (.agg [(.int .i64 0), (.slice none 0 0)].toArray)) (e' := (.agg [(.int .i64 x10.Method), p19.v].toArray)) (v := (.agg [(.int .i64 x10.Method), p19.v].toArray)) ty100.sz (.tmp rfl rfl) (.tmp rfl rfl) rfl rfl rfl rfl rfl) (fun _ => ?_)
  refine C_nil ?_
  refine CW_region ?_
  refine C_val (V_move (v := v3.v) (.tmp rfl rfl)) ?_
  refine C_at .h (fun hp => V_loadBox ag100 ty100.sz rfl (.tmp rfl rfl) hp.2 rfl) ?_
  obtain ⟨r21, hx22, hF⟩ := bind_some hF
  refine C_x1 (.rd (.t .h) rfl .nil) (X_callS cf109 (.cons (.tmp rfl rfl) .nil) (i_copyAccess_ok x10 p19 _ hx22)) (fun p23 => ?_)
  refine C_new rfl (N_buildSliceT (g := true) sl33 ty100 (.cons (.tmp rfl rfl) .nil) (vs := [(.agg [(.int .i64 r21.Method), p23.1.v].toArray)]) rfl rfl rfl (by intro v hv; simp at hv; rcases hv with rfl <;> rfl)) (fun k24 => ?_)
  refine C_conv (.cons .h (.cons .h .nil)) (own_lit (Ro := ow100) (E := 100) (F := (p23.2 ++ [])) (xs := ([r21] : List Access)) (MkL_cons mk100 MkL_nil apps) rfl rfl) apps ?_
  obtain ⟨z25, hx26, hF⟩ := bind_some hF
  refine C_x1 (.cons (.t (.t (.t (.t .h)))) (.cons .h .nil)) (X_appendO (Ro := ow100) sl33 ni33 ty100 rfl rfl rfl (.tmp rfl rfl) (.tmp rfl rfl) hx26 src_own) (fun p27 => ?_)
  refine C_val (V_assign (v := p27.1.v) (.tmp rfl rfl)) ?_
  refine C_nil ?_
  refine CW_region ?_
  refine C_val (V_add (i := (k8 : Int)) (j := 1) (.tmp rfl rfl) (.int _ _)) ?_
  refine C_val (V_move (v := (.int .i64 (IntKind.i64.wrap ((k8 : Int) + 1)))) (.tmp rfl rfl)) ?_
  refine C_nil ?_
  have hw28 : IntKind.i64.wrap ((k8 : Int) + 1) = ((k8 + 1 : Nat) : Int) := by rw [wrap_in (by omega) (by omega)]; rfl
  rw [hw28]
  exact ⟨_, Nat.lt_succ_self _, _, k8 + 1, rest9, _, p27.1, p27.2, rfl, (EqL.cons rfl (EqL.cons rfl (EqL.cons rfl (EqL.cons rfl (EqL.nil))))).eq, hd14, (.sel (.cons .h (.rd (.t (.t (.t .h))) rfl .nil))), hF⟩

/-! impl.within -/
def i_within (a_n : Int) (a_low : Int) (a_high : Int) : Option (Bool) :=
  some ((decide ((a_low : Int) ≤ a_n)) && (decide ((a_n : Int) ≤ a_high)))
theorem i_within_ok (a_n : Int) (a_low : Int) (a_high : Int) (R : Bool) (hF : i_within a_n a_low a_high = some R) :
    Fw.Spec Try.prog 58 [(.int .i64 a_n), (.int .i64 a_low), (.int .i64 a_high)] [] (fun _ : Unit => (.bool R)) (fun _ => []) := by
  refine Spec_enter (n := 15) Try.func58 rfl rfl (rs := [.tmp 6]) rfl rfl rfl ?_
  intro H0 F0
  unfold i_within at hF
  refine K_region ?_
  refine C_val (V_assign (v := (.bool false)) (.bool _)) ?_
  refine C_nil ?_
  refine K_region ?_
  refine C_cut (fun f' cs' => ∃ (g : Fr), f' = updL g [(6, (.bool ((decide ((a_low : Int) ≤ a_n)) && (decide ((a_n : Int) ≤ a_high)))))] ∧ Ent cs' []) ?_ ?_
  · refine C_val (V_move (v := (.int .i64 a_n)) (.tmp rfl rfl)) ?_
    refine C_val (V_move (v := (.int .i64 a_low)) (.tmp rfl rfl)) ?_
    refine C_val (V_geq (i := a_n) (j := a_low) (.tmp rfl rfl) (.tmp rfl rfl)) ?_
    refine C_val (V_move (v := (.bool (decide ((a_low : Int) ≤ a_n)))) (.tmp rfl rfl)) ?_
    rcases Bool.eq_false_or_eq_true (decide ((a_low : Int) ≤ a_n)) with hg1 | hg1
    · rw [hg1]
      try rw [hg1] at hF; dsimp only [cond_true, cond_false] at hF
      refine C_on (t := 10) rfl rfl rfl ?_
      refine C_val (V_move (v := (.int .i64 a_n)) (.tmp rfl rfl)) ?_
      refine C_on (t := 10) rfl rfl rfl ?_
      refine C_val (V_move (v := (.int .i64 a_high)) (.tmp rfl rfl)) ?_
      refine C_on (t := 10) rfl rfl rfl ?_
      refine C_val (V_leq (i := a_n) (j := a_high) (.tmp rfl rfl) (.tmp rfl rfl)) ?_
      refine C_val (V_pick (b := true) (u := (.bool (decide ((a_n : Int) ≤ a_high)))) (v := (.bool false)) (.tmp rfl rfl) (.tmp rfl rfl) (.bool _)) ?_
      refine C_val (V_assign (v := (.bool (decide ((a_n : Int) ≤ a_high)))) (.tmp rfl rfl)) ?_
      refine C_nil ?_
      exact ⟨_, (EqL.cons rfl (EqL.nil)).eq, (.sel .nil)⟩
    rw [hg1]
    try rw [hg1] at hF; dsimp only [cond_true, cond_false] at hF
    refine C_off (t := 10) rfl rfl rfl ?_
    refine C_off (t := 10) rfl rfl rfl ?_
    refine C_off (t := 10) rfl rfl rfl ?_
    refine C_val (V_pick (b := false) (u := undef) (v := (.bool false)) (.tmp rfl rfl) (.tmp rfl rfl) (.bool _)) ?_
    refine C_val (V_assign (v := (.bool false)) (.tmp rfl rfl)) ?_
    refine C_nil ?_
    exact ⟨_, (EqL.cons rfl (EqL.nil)).eq, (.sel .nil)⟩
  rintro _ _ ⟨g2, rfl, hE⟩
  refine K_ent hE ?_
  refine CW_ret ?_
  obtain rfl := Option.some.inj hF
  exact End_ret () (.tmp rfl rfl .nil) rfl (.sel .nil)

/-! impl.ViewOf$1 -/
def i_ViewOf_1 (a_a : Access) (a_e1 : List Method) (a_e2 : Int) : Option (Bool) :=
  ((i_within a_a.Method 0 (IntKind.i64.wrap ((a_e1.length : Int) - 1))).bind fun r4 =>
    bif (!r4) then (some true)
    else ((ix a_e1 a_a.Method).bind fun x8 =>
      some ((x8.Rel : Int) != a_e2))).bind fun o2 =>
  match o2 with
  | c14 => some c14
theorem i_ViewOf_1_ok (a_a : Access) (v0_1 : Sv) (kc1 : Nat) (a_e1 : List Method) (vc1_0 : Sv) (kc2 : Nat) (a_e2 : Int) (R : Bool) (hF : i_ViewOf_1 a_a a_e1 a_e2 = some R) :
    Fw.Spec Try.prog 57 [(.agg [(.int .i64 a_a.Method), v0_1.v].toArray), (.pointer (some ⟨kc1, 0, some 0⟩)), (.pointer (some ⟨kc2, 0, some 0⟩))] [crd (RdS 3 rdInt) v0_1.v a_a.Values, cboR kc1 35 vc1_0.v, crd (RdS 101 rd101) vc1_0.v a_e1, cboR kc2 3 (.int .i64 a_e2)] (fun _ : Unit => (.bool R)) (fun _ => []) := by
  refine Spec_enter (n := 22) Try.func57 rfl rfl (rs := [.tmp 4]) rfl rfl rfl ?_
  intro H0 F0
  unfold i_ViewOf_1 at hF
  refine K_region ?_
  refine C_newR rfl (N_box (g := false) (v := (.agg [(.int .i64 a_a.Method), v0_1.v].toArray)) ty100.sz (.tmp rfl rfl) rfl) (fun k1 => ?_)
  refine C_val (V_assign (v := (.bool false)) (.bool _)) ?_
  refine C_nil ?_
  obtain ⟨o2, hio2, hO3⟩ := bind_some hF
  refine K_draw [0, 1, 2, 3, 4, 5, 6, 7, 8, 9, 10, 11, 12, 13, 14, 15, 16, 17] [0, 1, 0, 4, 12, 31, 63, 127, 255, 255, 767, 2047, 4095, 8191, 255, 32767, 65535, 131071] [5] mixed (by decide +kernel) ?_
  refine D_cut (fun f' cs' => ∃ (c14 : Bool) (g : Fr), c14 = o2 ∧ f' = updL g [(4, (.bool c14))] ∧ Ent cs' []) ?_ ?_
  · replace hF := hio2
    refine D_val rfl .no (fun ha => V_fieldAddr (off := 0) fd100_0 (EN ha (.tmp rfl rfl) rfl)) ?_
    refine D_at rfl .no .h rfl (fun ha hp => V_load (v := (.int .i64 a_a.Method)) ag3 (EN ha (.tmp rfl rfl) rfl) hp.2 rfl rfl) ?_
    refine D_at rfl .no (.t (.t .h)) rfl (fun ha hp => V_load (v := vc1_0.v) ag35 (EN ha (.tmp rfl rfl) rfl) hp.2 rfl rfl) ?_
    refine D_at rfl .no (.t (.t (.t .h))) rfl (fun ha hp => V_lenR (l := a_e1.length) sl35 (EN ha (.tmp rfl rfl) rfl) (crd_len hp)) ?_
    refine D_val rfl .no (fun ha => V_sub (i := (a_e1.length : Int)) (j := 1) (EN ha (.tmp rfl rfl) rfl) (EN ha (.int _ _) rfl)) ?_
    obtain ⟨r4, hx5, hF⟩ := bind_some hF
    refine D_act0 rfl rfl .no .nil .nil (fun ha => X_callS cf58 (.cons (EN ha (.tmp rfl rfl) rfl) (.cons (EN ha (.int _ _) rfl) (.cons (EN ha (.tmp rfl rfl) rfl) .nil))) (i_within_ok a_a.Method 0 (IntKind.i64.wrap ((a_e1.length : Int) - 1)) _ hx5)) (fun _ => ?_)
    refine D_val rfl .no (fun ha => V_not (b := r4) (EN ha (.tmp rfl rfl) rfl)) ?_
    refine D_val rfl .no (fun ha => V_move (v := (.bool (!r4))) (EN ha (.tmp rfl rfl) rfl)) ?_
    rcases Bool.eq_false_or_eq_true (!r4) with hg7 | hg7
    · rw [hg7]
      try rw [hg7] at hF; dsimp only [cond_true, cond_false] at hF
      refine D_off 12 rfl rfl rfl rfl ?_
      refine D_off 12 rfl rfl rfl rfl ?_
      refine D_off 12 rfl rfl rfl rfl ?_
      refine D_off 12 rfl rfl rfl rfl ?_
      refine D_off 12 rfl rfl rfl rfl ?_
      refine D_off 12 rfl rfl rfl rfl ?_
      refine D_off 12 rfl rfl rfl rfl ?_
      refine D_off 12 rfl rfl rfl rfl ?_
      refine D_val rfl .no (fun ha => V_pick (b := true) (u := (.bool true)) (v := undef) (EN ha (.tmp rfl rfl) rfl) (EN ha (.bool _) rfl) (EN ha (.tmp rfl rfl) rfl)) ?_
      refine D_val rfl .no (fun ha => V_assign (v := (.bool true)) (EN ha (.tmp rfl rfl) rfl)) ?_
      refine D_nil ?_
      obtain rfl := Option.some.inj hF
      exact ⟨_, _, rfl, (EqL.cons rfl (EqL.nil)).eq, (.sel .nil)⟩
    rw [hg7]
    try rw [hg7] at hF; dsimp only [cond_true, cond_false] at hF
    refine D_at rfl (.on 12 rfl rfl rfl) (.t (.t .h)) rfl (fun ha hp => V_load (v := vc1_0.v) ag35 (EN ha (.tmp rfl rfl) rfl) hp.2 rfl rfl) ?_
    refine D_val rfl (.on 12 rfl rfl rfl) (fun ha => V_fieldAddr (off := 0) fd100_0 (EN ha (.tmp rfl rfl) rfl)) ?_
    refine D_at rfl (.on 12 rfl rfl rfl) .h rfl (fun ha hp => V_load (v := (.int .i64 a_a.Method)) ag3 (EN ha (.tmp rfl rfl) rfl) hp.2 rfl rfl) ?_
    obtain ⟨x8, hx9, hF⟩ := bind_some hF
    obtain ⟨hp10, hx11⟩ := ix_some hx9
    refine D_idx (a := x8) sl35 ty101.sz rfl (.on 12 rfl rfl rfl) (.tmp rfl rfl) (.tmp rfl rfl) rfl rfl (.t (.t (.t .h))) hp10 hx11 (fun k12 j13 => ?_)
    refine D_val rfl (.on 12 rfl rfl rfl) (fun ha => V_fieldAddr (off := 0) fd101_0 (EN ha (.tmp rfl rfl) rfl)) ?_
    refine D_ldS (w := (.int .i64 x8.Rel)) ag3 rfl (.on 12 rfl rfl rfl) (.tmp rfl rfl) rfl .h ls101_0 ?_
    refine D_at rfl (.on 12 rfl rfl rfl) (.t (.t (.t (.t (.t .h))))) rfl (fun ha hp => V_load (v := (.int .i64 a_e2)) ag3 (EN ha (.tmp rfl rfl) rfl) hp.2 rfl rfl) ?_
    refine D_val rfl (.on 12 rfl rfl rfl) (fun ha => V_neq (i := x8.Rel) (j := a_e2) (EN ha (.tmp rfl rfl) rfl) (EN ha (.tmp rfl rfl) rfl)) ?_
    refine D_val rfl .no (fun ha => V_pick (b := false) (u := (.bool true)) (v := (.bool ((x8.Rel : Int) != a_e2))) (EN ha (.tmp rfl rfl) rfl) (EN ha (.bool _) rfl) (EN ha (.tmp rfl rfl) rfl)) ?_
    refine D_val rfl .no (fun ha => V_assign (v := (.bool ((x8.Rel : Int) != a_e2))) (EN ha (.tmp rfl rfl) rfl)) ?_
    refine D_nil ?_
    obtain rfl := Option.some.inj hF
    exact ⟨_, _, rfl, (EqL.cons rfl (EqL.nil)).eq, (.sel .nil)⟩
  rintro _ _ ⟨c14, g15, rfl, rfl, hE⟩
  replace hF := hO3
  clear hO3
  try dsimp only at hF
  refine K_ent hE ?_
  refine CW_ret ?_
  obtain rfl := Option.some.inj hF
  exact End_ret () (.tmp rfl rfl .nil) rfl (.sel .nil)

/-! impl.Access] -/
def g_slices_IndexFunc_impl_Access_impl_Access_iViewOf1_L1 (a_e1 : List Method) (a_e2 : Int) : List Access → Nat → Option (Int)
  | [], k4 => some (-1)
  | x6 :: rest5, k4 => (i_ViewOf_1 x6 a_e1 a_e2).bind fun r16 =>
    if r16 then (
      some (k4 : Int))
    else (
      g_slices_IndexFunc_impl_Access_impl_Access_iViewOf1_L1 a_e1 a_e2 rest5 (k4 + 1))
def g_slices_IndexFunc_impl_Access_impl_Access_iViewOf1 (a_s : List Access) (a_e1 : List Method) (a_e2 : Int) : Option (Int) :=
  g_slices_IndexFunc_impl_Access_impl_Access_iViewOf1_L1 a_e1 a_e2 a_s 0
theorem g_slices_IndexFunc_impl_Access_impl_Access_iViewOf1_ok (a_s : List Access) (v0_0 : Sv) (kc1 : Nat) (a_e1 : List Method) (vc1_0 : Sv) (kc2 : Nat) (a_e2 : Int) (R : Int) (hF : g_slices_IndexFunc_impl_Access_impl_Access_iViewOf1 a_s a_e1 a_e2 = some R) :
    Fw.Spec Try.prog 108 [v0_0.v, (.func (.func 57) [].toArray [(.pointer (some ⟨kc1, 0, some 0⟩)), (.pointer (some ⟨kc2, 0, some 0⟩))].toArray)] [crd (RdS 100 rd100) v0_0.v a_s, cboR kc1 35 vc1_0.v, crd (RdS 101 rd101) vc1_0.v a_e1, cboR kc2 3 (.int .i64 a_e2)] (fun _ : Unit => (.int .i64 R)) (fun _ => []) := by
  refine Spec_enter (n := 19) Try.func108 rfl rfl (rs := [.tmp 4]) rfl rfl rfl ?_
  intro H0 F0
  unfold g_slices_IndexFunc_impl_Access_impl_Access_iViewOf1 at hF
  refine K_region ?_
  refine C_val (V_assign (v := (.int .i64 0)) (.int _ _)) ?_
  refine C_nil ?_
  refine K_in ?_
  refine K_region ?_
  refine C_val (V_move (v := v0_0.v) (.tmp rfl rfl)) ?_
  refine C_at .h (fun hp => V_lenR (l := a_s.length) sl33 (.tmp rfl rfl) (crd_len hp)) ?_
  refine C_val (V_move (v := (.int .i64 0)) (.int _ _)) ?_
  refine C_nil ?_
  refine CW_block ?_
  refine CW_loop (m := a_s.length) (fun m2 f' cs' => ∃ (g : Fr) (k4 : Nat) (rest5 : List Access), m2 = rest5.length ∧ f' = updL g [(0, v0_0.v), (1, (.func (.func 57) [].toArray [(.pointer (some ⟨kc1, 0, some 0⟩)), (.pointer (some ⟨kc2, 0, some 0⟩))].toArray)), (7, (.int .i64 (a_s.length : Int))), (8, (.int .i64 (k4 : Int)))] ∧ List.drop k4 a_s = rest5 ∧ Ent cs' [crd (RdS 100 rd100) v0_0.v a_s, cboR kc1 35 vc1_0.v, crd (RdS 101 rd101) vc1_0.v a_e1, cboR kc2 3 (.int .i64 a_e2)] ∧ g_slices_IndexFunc_impl_Access_impl_Access_iViewOf1_L1 a_e1 a_e2 rest5 k4 = some R) ⟨_, 0, _, rfl, (EqL.cons rfl (EqL.cons rfl (EqL.cons rfl (EqL.cons rfl (EqL.nil))))).eq, rfl, (.sel (.rd .h rfl (.rd (.t .h) rfl (.rd (.t (.t .h)) rfl (.rd (.t (.t (.t .h))) rfl .nil))))), hF⟩ ?_
  clear hF
  rintro m2 _ _ ⟨g3, k4, rest5, rfl, rfl, hd7, hE, hF⟩
  refine K_ent hE ?_
  clear hE
  refine K_pure (c := crd (RdS 100 rd100) v0_0.v a_s) .h crd_bound (fun hbd12 => ?_)
  rcases rest5 with _ | ⟨x6, rest5⟩
  · have hk8 := List.drop_eq_nil_iff.1 hd7
    have hfe11 : (decide (((k4 : Int) : Int) < (a_s.length : Int))) = false := decide_eq_false (by omega)
    rw [g_slices_IndexFunc_impl_Access_impl_Access_iViewOf1_L1] at hF
    refine K_region ?_
    refine C_val (V_lss (i := (k4 : Int)) (j := (a_s.length : Int)) (.tmp rfl rfl) (.tmp rfl rfl)) ?_
    refine C_nil ?_
    refine K_in ?_
    refine CW_cond (b := (decide (((k4 : Int) : Int) < (a_s.length : Int)))) (.tmp rfl rfl) (fun hb => absurd (hfe11.symm.trans hb) (by decide)) (fun _ => ?_)
    refine CW_exit ?_
    refine CThen_exit ?_
    refine CThen_exit ?_
    refine CIn_self ?_
    refine K_region ?_
    refine C_val (V_assign (v := (.int .i64 (-1))) (.int _ _)) ?_
    refine C_nil ?_
    refine CW_ret ?_
    obtain rfl := Option.some.inj hF
    exact End_ret () (.tmp rfl rfl .nil) rfl (.sel .nil)
  obtain ⟨hk8, hx9, hd10⟩ := drop_cons hd7
  have hfe11 : (decide (((k4 : Int) : Int) < (a_s.length : Int))) = true := decide_eq_true (by omega)
  rw [g_slices_IndexFunc_impl_Access_impl_Access_iViewOf1_L1] at hF
  refine K_region ?_
  refine C_val (V_lss (i := (k4 : Int)) (j := (a_s.length : Int)) (.tmp rfl rfl) (.tmp rfl rfl)) ?_
  refine C_nil ?_
  refine K_in ?_
  refine CW_cond (b := (decide (((k4 : Int) : Int) < (a_s.length : Int)))) (.tmp rfl rfl) (fun _ => ?_) (fun hb => absurd (hfe11.symm.trans hb) (by decide))
  refine CW_skip ?_
  refine K_block ?_
  refine K_region ?_
  refine C_val (V_move (v := (.int .i64 (k4 : Int))) (.tmp rfl rfl)) ?_
  refine C_val (V_assign (v := (.int .i64 (k4 : Int))) (.tmp rfl rfl)) ?_
  refine C_nil ?_
  refine K_region ?_
  refine C_val (V_move (v := (.func (.func 57) [].toArray [(.pointer (some ⟨kc1, 0, some 0⟩)), (.pointer (some ⟨kc2, 0, some 0⟩))].toArray)) (.tmp rfl rfl)) ?_
  refine C_val (V_move (v := v0_0.v) (.tmp rfl rfl)) ?_
  refine C_val (V_move (v := (.int .i64 (k4 : Int))) (.tmp rfl rfl)) ?_
  refine C_idx (a := x6) sl33 ty100.sz (.tmp rfl rfl) (.tmp rfl rfl) .h (Int.natCast_nonneg k4) hx9 (fun k13 j14 => ?_)
  refine C_ldA1 (ul100_0_100 x6) ag100 ty100.sz rfl (.tmp rfl rfl) .h la100_0_100 (fun p15 => ?_)
  obtain ⟨r16, hx17, hF⟩ := bind_some hF
  refine C_x0 (.rd .h rfl (.rd (.t (.t (.t .h))) rfl (.rd (.t (.t (.t (.t .h)))) rfl (.rd (.t (.t (.t (.t (.t .h))))) rfl .nil)))) (X_callCS cf57 (.tmp rfl rfl) (.cons (.tmp rfl rfl) .nil) (i_ViewOf_1_ok x6 p15 kc1 a_e1 vc1_0 kc2 a_e2 _ hx17)) (fun _ => ?_)
  refine C_nil ?_
  refine CW_cond (b := r16) (.tmp rfl rfl) (fun hb20 => ?_) (fun hb20 => ?_)
  · rw [if_pos hb20] at hF
    refine K_region ?_
    refine C_val (V_move (v := (.int .i64 (k4 : Int))) (.tmp rfl rfl)) ?_
    refine C_val (V_assign (v := (.int .i64 (k4 : Int))) (.tmp rfl rfl)) ?_
    refine C_nil ?_
    refine CW_ret ?_
    obtain rfl := Option.some.inj hF
    exact End_ret () (.tmp rfl rfl .nil) rfl (.sel .nil)
  rw [if_neg (by rw [hb20]; exact Bool.false_ne_true)] at hF
  refine CW_skip ?_
  refine CW_region ?_
  refine C_val (V_add (i := (k4 : Int)) (j := 1) (.tmp rfl rfl) (.int _ _)) ?_
  refine C_val (V_move (v := (.int .i64 (IntKind.i64.wrap ((k4 : Int) + 1)))) (.tmp rfl rfl)) ?_
  refine C_nil ?_
  have hw19 : IntKind.i64.wrap ((k4 : Int) + 1) = ((k4 + 1 : Nat) : Int) := by rw [wrap_in (by omega) (by omega)]; rfl
  rw [hw19]
  exact ⟨_, Nat.lt_succ_self _, _, k4 + 1, rest5, rfl, (EqL.cons rfl (EqL.cons rfl (EqL.cons rfl (EqL.cons rfl (EqL.nil))))).eq, hd10, (.sel (.rd (.t (.t .h)) rfl (.rd (.t (.t (.t .h))) rfl (.rd (.t (.t (.t (.t .h)))) rfl (.rd (.t (.t (.t (.t (.t .h))))) rfl .nil))))), hF⟩

/-! impl.Access] -/
def g_slices_DeleteFunc_impl_Access_impl_Access_iViewOf1 (a_s : List Access) (a_e1 : List Method) (a_e2 : Int) : Option (List Access) :=
  delL (fun a_q => i_ViewOf_1 a_q a_e1 a_e2) a_s
theorem g_slices_DeleteFunc_impl_Access_impl_Access_iViewOf1_sh (qs : List (Value × Access)) (v : Sv) (F : List Nat) (kc1 : Nat) (a_e1 : List Method) (vc1_0 : Sv) (kc2 : Nat) (a_e2 : Int) (p : Value × Access → Bool) (hcl : ∀ q ∈ qs, i_ViewOf_1 q.2 a_e1 a_e2 = some (p q)) (hidx : g_slices_IndexFunc_impl_Access_impl_Access_iViewOf1 (qs.map Prod.snd) a_e1 a_e2 = some (ixF p qs 0)) (hbd : qs.length < 4611686018427387904) :
    Fw.Spec Try.prog 55 [v.v, (.func (.func 57) [].toArray [(.pointer (some ⟨kc1, 0, some 0⟩)), (.pointer (some ⟨kc2, 0, some 0⟩))].toArray)] [cown (OwnS 100 (roE (rq rd100))) F v.v qs, cboR kc1 35 vc1_0.v, crd (RdS 101 rd101) vc1_0.v a_e1, cboR kc2 3 (.int .i64 a_e2)] (fun q : Sv × List Nat => q.1.v) (fun q => [cown (OwnS 100 (roE (rq rd100))) q.2 q.1.v (qs.filter fun a => !p a)]) := by
  refine Spec_enter (n := 42) Try.func55 rfl rfl (rs := [.tmp 4]) rfl rfl rfl ?_
  intro H0 F0
  refine K_region ?_
  refine C_val (V_assign (v := (.slice none 0 0)) EV.nilSlice) ?_
  refine C_nil ?_
  refine K_region ?_
  refine C_val (V_move (v := v.v) (.tmp rfl rfl)) ?_
  refine C_val (V_move (v := (.func (.func 57) [].toArray [(.pointer (some ⟨kc1, 0, some 0⟩)), (.pointer (some ⟨kc2, 0, some 0⟩))].toArray)) (.tmp rfl rfl)) ?_
  refine C_x1 (.cons .h (.rd .h rfl (.rd (.t .h) rfl (.rd (.t (.t .h)) rfl .nil)))) (XC_borR frz_rq (fun _ => .nil) (XC_pre (.rd (.t (.t (.t .h))) rfl (.rd .h rfl (.rd (.t .h) rfl (.rd (.t (.t .h)) rfl .nil)))) (X_callS cf108 (.cons (.tmp rfl rfl) (.cons (.tmp rfl rfl) .nil)) (g_slices_IndexFunc_impl_Access_impl_Access_iViewOf1_ok (qs.map Prod.snd) v kc1 a_e1 vc1_0 kc2 a_e2 _ hidx)))) (fun _ => ?_)
  generalize hR : ixF p qs 0 = R0
  refine C_val (V_assign (v := (.int .i64 R0)) (.tmp rfl rfl)) ?_
  refine C_nil ?_
  refine K_in ?_
  refine K_region ?_
  refine C_val (V_move (v := (.int .i64 R0)) (.tmp rfl rfl)) ?_
  refine C_val (V_eql (i := R0) (j := (-1)) (.tmp rfl rfl) (.int _ _)) ?_
  refine C_nil ?_
  refine CW_cond (b := (R0 == (-1 : Int))) (.tmp rfl rfl) (fun hb => ?_) (fun hb => ?_)
  · refine K_region ?_
    refine C_val (V_move (v := v.v) (.tmp rfl rfl)) ?_
    refine C_val (V_assign (v := v.v) (.tmp rfl rfl)) ?_
    refine C_nil ?_
    refine CW_ret ?_
    have e : qs.filter (fun q => !p q) = qs := ixF_none (k := 0) (by rw [hR]; simpa using hb)
    rw [e]
    exact End_ret (v, F) (.tmp rfl rfl .nil) rfl (.sel (.cons .h .nil))
  refine CW_skip ?_
  obtain ⟨i0, hi0, hi1⟩ : ∃ i : Nat, R0 = (i : Int) ∧ i < qs.length := by
    rcases ixF_range p qs 0 with h | ⟨i, h, hi⟩
    · rw [hR] at h; subst h; simp at hb
    · exact ⟨i, by rw [← hR, h], by omega⟩
  subst hi0
  refine K_in ?_
  refine K_region ?_
  refine C_val (V_move (v := (.int .i64 (i0 : Int))) (.tmp rfl rfl)) ?_
  refine C_val (V_add (i := (i0 : Int)) (j := 1) (.tmp rfl rfl) (.int _ _)) ?_
  rw [show IntKind.i64.wrap ((i0 : Int) + 1) = ((i0 + 1 : Nat) : Int) from by rw [wrap_in (by omega) (by omega)]; rfl]
  refine C_val (V_assign (v := (.int .i64 ((i0 + 1 : Nat) : Int))) (.tmp rfl rfl)) ?_
  refine C_nil ?_
  refine CW_block ?_
  refine CW_loop (m := qs.length - (i0 + 1)) (fun m f' cs' => ∃ (g : Fr) (cur : List (Value × Access)) (i j : Nat) (F' : List Nat), m = qs.length - j ∧ f' = updL g [(0, v.v), (1, (.func (.func 57) [].toArray [(.pointer (some ⟨kc1, 0, some 0⟩)), (.pointer (some ⟨kc2, 0, some 0⟩))].toArray)), (5, (.int .i64 (i : Int))), (6, (.int .i64 (j : Int)))] ∧ DelI p qs cur i j ∧ Ent cs' [cown (OwnS 100 (roE (rq rd100))) F' v.v cur, cboR kc1 35 vc1_0.v, crd (RdS 101 rd101) vc1_0.v a_e1, cboR kc2 3 (.int .i64 a_e2)]) ⟨_, qs, i0, i0 + 1, F, rfl, (EqL.cons rfl (EqL.cons rfl (EqL.cons rfl (EqL.cons rfl (EqL.nil))))).eq, DelI.init (by rw [hR]), .sel (.cons .h (.rd .h rfl (.rd (.t .h) rfl (.rd (.t (.t .h)) rfl .nil))))⟩ ?_
  rintro m _ _ ⟨g, cur, i, j, F', rfl, rfl, hI, hE⟩
  refine K_ent hE ?_
  clear hE
  refine K_in ?_
  refine K_region ?_
  refine C_val (V_move (v := (.int .i64 (j : Int))) (.tmp rfl rfl)) ?_
  refine C_val (V_move (v := v.v) (.tmp rfl rfl)) ?_
  refine C_at .h (fun hp => V_lenR (l := cur.length) sl33 (.tmp rfl rfl) (cown_len hp)) ?_
  refine C_val (V_lss (i := (j : Int)) (j := (cur.length : Int)) (.tmp rfl rfl) (.tmp rfl rfl)) ?_
  refine C_nil ?_
  have hlen := hI.len
  have hij := hI.lt
  have hjl := hI.le
  refine CW_cond (b := (decide ((j : Int) < (cur.length : Int)))) (.tmp rfl rfl) (fun hb2 => ?_) (fun hb2 => ?_)
  · refine CW_skip ?_
    have hj : j < qs.length := by simp at hb2; omega
    obtain ⟨x, hx1, hx2⟩ := hI.at hj
    refine K_block ?_
    refine K_region ?_
    refine C_val (V_move (v := v.v) (.tmp rfl rfl)) ?_
    refine C_val (V_move (v := (.int .i64 (j : Int))) (.tmp rfl rfl)) ?_
    refine C_idxO sl33 ty100.sz (.tmp rfl rfl) (.tmp rfl rfl) .h (by simp; omega) (fun k hk => ?_)
    refine C_ldOW (a := x) (ul := fun i : Sv => [(.int .i64 x.2.Method), i.v]) (cc := fun i => [crd (RdS 3 rdInt) i.v x.2.Values]) ag100 ty100.sz rfl (.tmp rfl rfl) .h hk (by simpa using hx1) (fun H e h => by obtain ⟨-, v0, h1, h0⟩ := h; exact ⟨v0, h1, rfl, by simp [crd, h0]⟩) (fun w => ?_)
    refine C_new rfl (N_allocT (g := true) ty100 rfl rfl) (fun k1 => ?_)
    refine C_x1 (.cons .h .nil) (X_storeB (e := (.agg [(.int .i64 0), (.slice none 0 0)].toArray)) (e' := (.agg [(.int .i64 x.2.Method), w.v].toArray)) (v := (.agg [(.int .i64 x.2.Method), w.v].toArray)) ty100.sz (.tmp rfl rfl) (.tmp rfl rfl) rfl rfl rfl rfl rfl) (fun _ => ?_)
    refine C_nil ?_
    refine K_region ?_
    refine C_val (V_move (v := (.func (.func 57) [].toArray [(.pointer (some ⟨kc1, 0, some 0⟩)), (.pointer (some ⟨kc2, 0, some 0⟩))].toArray)) (.tmp rfl rfl)) ?_
    refine C_at .h (fun hp => V_loadBox ag100 ty100.sz rfl (.tmp rfl rfl) hp.2 rfl) ?_
    refine C_x0 (.rd (.t (.t .h)) rfl (.rd (.t (.t (.t (.t .h)))) rfl (.rd (.t (.t (.t (.t (.t .h))))) rfl (.rd (.t (.t (.t (.t (.t (.t .h)))))) rfl .nil)))) (X_callCS cf57 (.tmp rfl rfl) (.cons (.tmp rfl rfl) .nil) (i_ViewOf_1_ok x.2 w kc1 a_e1 vc1_0 kc2 a_e2 _ (hcl x (List.mem_of_getElem? hx2)))) (fun _ => ?_)
    refine C_val (V_not (b := p x) (.tmp rfl rfl)) ?_
    refine C_nil ?_
    refine CW_cond (b := (!p x)) (.tmp rfl rfl) (fun hb3 => ?_) (fun hb3 => ?_)
    · refine K_region ?_
      refine C_val (V_move (v := v.v) (.tmp rfl rfl)) ?_
      refine C_val (V_move (v := (.int .i64 (i : Int))) (.tmp rfl rfl)) ?_
      refine C_at .h (fun hp => V_loadBox ag100 ty100.sz rfl (.tmp rfl rfl) hp.2 rfl) ?_
      have hii : (decide ((0 : Int) ≤ (i : Int)) && decide ((i : Int) < (cur.length : Int))) = true := by simp; omega
      refine C_idxO sl33 ty100.sz (.tmp rfl rfl) (.tmp rfl rfl) (.t (.t (.t .h))) hii (fun k2 hk2 => ?_)
      refine C_x1 (.cons (.t (.t (.t .h))) (.rd (.t .h) rfl .nil)) (X_storeO (Ro := roE (rq rd100)) (a := x) (i := (i : Int)) ty100.sz rfl (.tmp rfl rfl) (.tmp rfl rfl) hk2 hii Mk_rd (fun _ _ _ _ h => by obtain ⟨-, -, v0, rfl, _⟩ := h; rfl)) (fun F2 => ?_)
      refine C_nil ?_
      refine CW_region ?_
      refine C_val (V_move (v := (.int .i64 (i : Int))) (.tmp rfl rfl)) ?_
      refine C_val (V_add (i := (i : Int)) (j := 1) (.tmp rfl rfl) (.int _ _)) ?_
      rw [show IntKind.i64.wrap ((i : Int) + 1) = ((i + 1 : Nat) : Int) from by rw [wrap_in (by omega) (by omega)]; rfl]
      refine C_val (V_assign (v := (.int .i64 ((i + 1 : Nat) : Int))) (.tmp rfl rfl)) ?_
      refine C_nil ?_
      refine CW_region ?_
      refine C_val (V_move (v := (.int .i64 (j : Int))) (.tmp rfl rfl)) ?_
      refine C_val (V_add (i := (j : Int)) (j := 1) (.tmp rfl rfl) (.int _ _)) ?_
      rw [show IntKind.i64.wrap ((j : Int) + 1) = ((j + 1 : Nat) : Int) from by rw [wrap_in (by omega) (by omega)]; rfl]
      refine C_val (V_assign (v := (.int .i64 ((j + 1 : Nat) : Int))) (.tmp rfl rfl)) ?_
      refine C_nil ?_
      exact ⟨_, by omega, _, cur.set i x, i + 1, j + 1, F2, rfl, (EqL.cons rfl (EqL.cons rfl (EqL.cons rfl (EqL.cons rfl (EqL.nil))))).eq, hI.no hx2 (by simpa using hb3), .sel (.cons .h (.rd (.t (.t (.t .h))) rfl (.rd (.t (.t (.t (.t .h)))) rfl (.rd (.t (.t (.t (.t (.t .h))))) rfl .nil))))⟩
    · refine CW_skip ?_
      refine CW_region ?_
      refine C_val (V_move (v := (.int .i64 (j : Int))) (.tmp rfl rfl)) ?_
      refine C_val (V_add (i := (j : Int)) (j := 1) (.tmp rfl rfl) (.int _ _)) ?_
      rw [show IntKind.i64.wrap ((j : Int) + 1) = ((j + 1 : Nat) : Int) from by rw [wrap_in (by omega) (by omega)]; rfl]
      refine C_val (V_assign (v := (.int .i64 ((j + 1 : Nat) : Int))) (.tmp rfl rfl)) ?_
      refine C_nil ?_
      exact ⟨_, by omega, _, cur, i, j + 1, F', rfl, (EqL.cons rfl (EqL.cons rfl (EqL.cons rfl (EqL.cons rfl (EqL.nil))))).eq, hI.yes hx2 (by simpa using hb3), .sel (.cons (.t (.t (.t .h))) (.rd (.t (.t (.t .h))) rfl (.rd (.t (.t (.t (.t .h)))) rfl (.rd (.t (.t (.t (.t (.t .h))))) rfl .nil))))⟩
  · refine CW_exit ?_
    refine CThen_exit ?_
    refine CThen_exit ?_
    refine CIn_self ?_
    have hj : qs.length ≤ j := by simp at hb2; omega
    refine K_pure .h (own_form (by intro e; rw [e] at hlen; simp at hlen; omega)) (fun hv => ?_)
    obtain ⟨k0, m0, rfl, hm0⟩ := hv
    refine K_region ?_
    refine C_val (V_move (v := (.slice (some ⟨k0, 0, none⟩) cur.length m0)) (.tmp rfl rfl)) ?_
    refine C_val (V_move (v := (.int .i64 (i : Int))) (.tmp rfl rfl)) ?_
    refine C_sliceLo sl33 ty100.sz (.tmp rfl rfl) (.tmp rfl rfl) .h (by omega) (by omega) ?_
    refine C_x1 (.cons .h .nil) (X_clear (l := cur.length) (m := m0) (k := k0) (i := i) (j := cur.length - i) sl33 ty100 rfl rfl rfl rfl rfl (by omega) (.tmp rfl rfl)) (fun _ => ?_)
    refine C_nil ?_
    refine K_region ?_
    refine C_val (V_move (v := (.slice (some ⟨k0, 0, none⟩) cur.length m0)) (.tmp rfl rfl)) ?_
    refine C_val (V_move (v := (.int .i64 (i : Int))) (.tmp rfl rfl)) ?_
    refine C_sliceHi sl33 ty100.sz (.tmp rfl rfl) hm0 (.tmp rfl rfl) .h rfl (by omega) (by omega) (by omega) ?_
    refine C_val (V_assign (v := (.slice (some ⟨k0, 0, none⟩) i 2)) (.tmp rfl rfl)) ?_
    refine C_nil ?_
    refine CW_ret ?_
    rw [← hI.fin hj]
    exact End_ret (⟨some ⟨k0, 0, none⟩, i, 2⟩, F') (.tmp rfl rfl .nil) rfl (.sel (.cons .h .nil))
theorem g_slices_DeleteFunc_impl_Access_impl_Access_iViewOf1_ok (a_s : List Access) (v0_0 : Sv) (F0_0 : List Nat) (kc1 : Nat) (a_e1 : List Method) (vc1_0 : Sv) (kc2 : Nat) (a_e2 : Int) (R : List Access) (hF : g_slices_DeleteFunc_impl_Access_impl_Access_iViewOf1 a_s a_e1 a_e2 = some R) :
    Fw.Spec Try.prog 55 [v0_0.v, (.func (.func 57) [].toArray [(.pointer (some ⟨kc1, 0, some 0⟩)), (.pointer (some ⟨kc2, 0, some 0⟩))].toArray)] [cown (OwnS 100 ow100) F0_0 v0_0.v a_s, cboR kc1 35 vc1_0.v, crd (RdS 101 rd101) vc1_0.v a_e1, cboR kc2 3 (.int .i64 a_e2)] (fun p : Sv × List Nat => p.1.v) (fun p => [cown (OwnS 100 ow100) p.2 p.1.v R]) := by
  unfold g_slices_DeleteFunc_impl_Access_impl_Access_iViewOf1 at hF
  obtain ⟨h1, h2⟩ := delL_some hF
  refine Spec_pure cown_bound (fun hb => ?_)
  refine Spec_deep (R := rd100) rfl (fun es F1 hel => ⟨(es.zip a_s).filter (fun a => !(i_ViewOf_1 a.2 a_e1 a_e2).getD false), List.filter_sublist, by rw [h2]; exact zip_filter (fun a => (i_ViewOf_1 a a_e1 a_e2).getD false) es a_s hel, ?_⟩)
  refine g_slices_DeleteFunc_impl_Access_impl_Access_iViewOf1_sh (es.zip a_s) v0_0 F1 kc1 a_e1 vc1_0 kc2 a_e2 (fun a => (i_ViewOf_1 a.2 a_e1 a_e2).getD false) (fun q hq => h1 q.2 (List.of_mem_zip hq).2) ?_ (by simp; omega)
  rw [List.map_snd_zip (Nat.le_of_eq hel.symm), ← ixF_map Prod.snd (fun a => (i_ViewOf_1 a a_e1 a_e2).getD false), List.map_snd_zip (Nat.le_of_eq hel.symm)]
  exact index_loop (L := g_slices_IndexFunc_impl_Access_impl_Access_iViewOf1_L1 a_e1 a_e2) (fun _ => rfl) (fun _ _ _ => rfl) a_s 0 h1

/-! impl.ViewOf -/
def i_ViewOf (a_l : List Method) (a_log : List Access) (a_rel : Int) : Option ((List Access)) :=
  (i_copyAccesses a_log).bind fun r3 =>
  (g_slices_DeleteFunc_impl_Access_impl_Access_iViewOf1 r3 a_l a_rel).bind fun r6 =>
  some r6
theorem i_ViewOf_ok (a_l : List Method) (v0_0 : Sv) (a_log : List Access) (v1_0 : Sv) (a_rel : Int) (R : (List Access)) (hF : i_ViewOf a_l a_log a_rel = some R) :
    Fw.Spec Try.prog 19 [v0_0.v, v1_0.v, (.int .i64 a_rel)] [crd (RdS 101 rd101) v0_0.v a_l, crd (RdS 100 rd100) v1_0.v a_log] (fun p : Sv × List Nat => p.1.v) (fun p => [cown (OwnS 100 ow100) p.2 p.1.v R]) := by
  refine Spec_enter (n := 11) Try.func19 rfl rfl (rs := [.tmp 6]) rfl rfl rfl ?_
  intro H0 F0
  unfold i_ViewOf at hF
  refine K_region ?_
  refine C_newR rfl (N_box (g := false) (v := v0_0.v) ty35.sz (.tmp rfl rfl) rfl) (fun k1 => ?_)
  refine C_newR rfl (N_box (g := false) (v := (.int .i64 a_rel)) ty3.sz (.tmp rfl rfl) rfl) (fun k2 => ?_)
  refine C_val (V_assign (v := (.slice none 0 0)) EV.nilSlice) ?_
  refine C_nil ?_
  refine K_region ?_
  refine C_val (V_move (v := v1_0.v) (.tmp rfl rfl)) ?_
  obtain ⟨r3, hx4, hF⟩ := bind_some hF
  refine C_x1 (.rd (.t (.t (.t .h))) rfl .nil) (X_callS cf56 (.cons (.tmp rfl rfl) .nil) (i_copyAccesses_ok a_log v1_0 _ hx4)) (fun p5 => ?_)
  refine C_val (V_makeFunc (fn := .func 57) (vs := []) (us := [(.pointer (some ⟨k1, 0, some 0⟩)), (.pointer (some ⟨k2, 0, some 0⟩))]) .nil (.cons (.tmp rfl rfl) (.cons (.tmp rfl rfl) .nil))) ?_
  obtain ⟨r6, hx7, hF⟩ := bind_some hF
  refine C_x1 (.cons .h (.rd (.t .h) rfl (.rd (.t (.t .h)) rfl (.rd .h rfl .nil)))) (X_callS cf55 (.cons (.tmp rfl rfl) (.cons (.tmp rfl rfl) .nil)) (g_slices_DeleteFunc_impl_Access_impl_Access_iViewOf1_ok r3 p5.1 p5.2 k1 a_l v0_0 k2 a_rel _ hx7)) (fun p8 => ?_)
  refine C_val (V_assign (v := p8.1.v) (.tmp rfl rfl)) ?_
  refine C_nil ?_
  refine CW_ret ?_
  obtain rfl := Option.some.inj hF
  exact End_ret (p8.1, p8.2) (.tmp rfl rfl .nil) rfl (.sel (.cons .h .nil))

/-! slices.Equal[[]int,int] -/
def g_slices_Equal_int_int_L1 (a_s2 : List Int) : List Int → Nat → Option (Bool)
  | [], k4 => some true
  | x6 :: rest5, k4 => (ix a_s2 (k4 : Int)).bind fun x15 =>
    if ((x6 : Int) != x15) then (
      some false)
    else (
      g_slices_Equal_int_int_L1 a_s2 rest5 (k4 + 1))
def g_slices_Equal_int_int (a_s1 : List Int) (a_s2 : List Int) : Option (Bool) :=
  if (((a_s1.length : Int) : Int) != (a_s2.length : Int)) then (
    some false)
  else (
    g_slices_Equal_int_int_L1 a_s2 a_s1 0)
theorem g_slices_Equal_int_int_ok (a_s1 : List Int) (v0_0 : Sv) (a_s2 : List Int) (v1_0 : Sv) (R : Bool) (hF : g_slices_Equal_int_int a_s1 a_s2 = some R) :
    Fw.Spec Try.prog 96 [v0_0.v, v1_0.v] [crd (RdS 3 rdInt) v0_0.v a_s1, crd (RdS 3 rdInt) v1_0.v a_s2] (fun _ : Unit => (.bool R)) (fun _ => []) := by
  refine Spec_enter (n := 26) Try.func96 rfl rfl (rs := [.tmp 4]) rfl rfl rfl ?_
  intro H0 F0
  unfold g_slices_Equal_int_int at hF
  refine K_region ?_
  refine C_val (V_assign (v := (.bool false)) (.bool _)) ?_
  refine C_nil ?_
  refine K_in ?_
  refine K_region ?_
  refine C_val (V_move (v := v0_0.v) (.tmp rfl rfl)) ?_
  refine C_at .h (fun hp => V_lenR (l := a_s1.length) sl45 (.tmp rfl rfl) (crd_len hp)) ?_
  refine C_val (V_move (v := v1_0.v) (.tmp rfl rfl)) ?_
  refine C_at (.t .h) (fun hp => V_lenR (l := a_s2.length) sl45 (.tmp rfl rfl) (crd_len hp)) ?_
  refine C_val (V_neq (i := (a_s1.length : Int)) (j := (a_s2.length : Int)) (.tmp rfl rfl) (.tmp rfl rfl)) ?_
  refine C_nil ?_
  refine CW_cond (b := (((a_s1.length : Int) : Int) != (a_s2.length : Int))) (.tmp rfl rfl) (fun hb23 => ?_) (fun hb23 => ?_)
  · rw [if_pos hb23] at hF
    refine K_region ?_
    refine C_val (V_assign (v := (.bool false)) (.bool _)) ?_
    refine C_nil ?_
    refine CW_ret ?_
    obtain rfl := Option.some.inj hF
    exact End_ret () (.tmp rfl rfl .nil) rfl (.sel .nil)
  rw [if_neg (by rw [hb23]; exact Bool.false_ne_true)] at hF
  refine CW_skip ?_
  refine K_in ?_
  refine K_region ?_
  refine C_val (V_move (v := v0_0.v) (.tmp rfl rfl)) ?_
  refine C_at .h (fun hp => V_lenR (l := a_s1.length) sl45 (.tmp rfl rfl) (crd_len hp)) ?_
  refine C_val (V_move (v := (.int .i64 0)) (.int _ _)) ?_
  refine C_nil ?_
  refine CW_block ?_
  refine CW_loop (m := a_s1.length) (fun m2 f' cs' => ∃ (g : Fr) (k4 : Nat) (rest5 : List Int), m2 = rest5.length ∧ f' = updL g [(0, v0_0.v), (1, v1_0.v), (12, (.int .i64 (a_s1.length : Int))), (13, (.int .i64 (k4 : Int)))] ∧ List.drop k4 a_s1 = rest5 ∧ Ent cs' [crd (RdS 3 rdInt) v0_0.v a_s1, crd (RdS 3 rdInt) v1_0.v a_s2] ∧ g_slices_Equal_int_int_L1 a_s2 rest5 k4 = some R) ⟨_, 0, _, rfl, (EqL.cons rfl (EqL.cons rfl (EqL.cons rfl (EqL.cons rfl (EqL.nil))))).eq, rfl, (.sel (.rd .h rfl (.rd (.t .h) rfl .nil))), hF⟩ ?_
  clear hF
  rintro m2 _ _ ⟨g3, k4, rest5, rfl, rfl, hd7, hE, hF⟩
  refine K_ent hE ?_
  clear hE
  refine K_pure (c := crd (RdS 3 rdInt) v0_0.v a_s1) .h crd_bound (fun hbd12 => ?_)
  rcases rest5 with _ | ⟨x6, rest5⟩
  · have hk8 := List.drop_eq_nil_iff.1 hd7
    have hfe11 : (decide (((k4 : Int) : Int) < (a_s1.length : Int))) = false := decide_eq_false (by omega)
    rw [g_slices_Equal_int_int_L1] at hF
    refine K_region ?_
    refine C_val (V_lss (i := (k4 : Int)) (j := (a_s1.length : Int)) (.tmp rfl rfl) (.tmp rfl rfl)) ?_
    refine C_nil ?_
    refine K_in ?_
    refine CW_cond (b := (decide (((k4 : Int) : Int) < (a_s1.length : Int)))) (.tmp rfl rfl) (fun hb => absurd (hfe11.symm.trans hb) (by decide)) (fun _ => ?_)
    refine CW_exit ?_
    refine CThen_exit ?_
    refine CThen_exit ?_
    refine CIn_self ?_
    refine K_region ?_
    refine C_val (V_assign (v := (.bool true)) (.bool _)) ?_
    refine C_nil ?_
    refine CW_ret ?_
    obtain rfl := Option.some.inj hF
    exact End_ret () (.tmp rfl rfl .nil) rfl (.sel .nil)
  obtain ⟨hk8, hx9, hd10⟩ := drop_cons hd7
  have hfe11 : (decide (((k4 : Int) : Int) < (a_s1.length : Int))) = true := decide_eq_true (by omega)
  rw [g_slices_Equal_int_int_L1] at hF
  refine K_region ?_
  refine C_val (V_lss (i := (k4 : Int)) (j := (a_s1.length : Int)) (.tmp rfl rfl) (.tmp rfl rfl)) ?_
  refine C_nil ?_
  refine K_in ?_
  refine CW_cond (b := (decide (((k4 : Int) : Int) < (a_s1.length : Int)))) (.tmp rfl rfl) (fun _ => ?_) (fun hb => absurd (hfe11.symm.trans hb) (by decide))
  refine CW_skip ?_
  refine K_block ?_
  refine K_region ?_
  refine C_val (V_move (v := (.int .i64 (k4 : Int))) (.tmp rfl rfl)) ?_
  refine C_val (V_assign (v := (.int .i64 (k4 : Int))) (.tmp rfl rfl)) ?_
  refine C_nil ?_
  refine K_draw [0, 1, 2, 3, 4, 5, 6, 7, 8] [0, 0, 3, 7, 0, 0, 48, 112, 255] [] mixed (by decide +kernel) ?_
  refine D_val rfl .no (fun ha => V_move (v := v0_0.v) (EN ha (.tmp rfl rfl) rfl)) ?_
  refine D_val rfl .no (fun ha => V_move (v := (.int .i64 (k4 : Int))) (EN ha (.tmp rfl rfl) rfl)) ?_
  refine D_idx (a := x6) sl45 ty3.sz rfl .no (.tmp rfl rfl) (.tmp rfl rfl) rfl rfl .h (Int.natCast_nonneg k4) hx9 (fun k13 j14 => ?_)
  refine D_ldS (w := (.int .i64 x6)) ag3 rfl .no (.tmp rfl rfl) rfl .h ls3_0 ?_
  refine D_val rfl .no (fun ha => V_move (v := v1_0.v) (EN ha (.tmp rfl rfl) rfl)) ?_
  refine D_val rfl .no (fun ha => V_move (v := (.int .i64 (k4 : Int))) (EN ha (.tmp rfl rfl) rfl)) ?_
  obtain ⟨x15, hx16, hF⟩ := bind_some hF
  obtain ⟨hp17, hx18⟩ := ix_some hx16
  refine D_idx (a := x15) sl45 ty3.sz rfl .no (.tmp rfl rfl) (.tmp rfl rfl) rfl rfl (.t (.t .h)) hp17 hx18 (fun k19 j20 => ?_)
  refine D_ldS (w := (.int .i64 x15)) ag3 rfl .no (.tmp rfl rfl) rfl .h ls3_0 ?_
  refine D_val rfl .no (fun ha => V_neq (i := x6) (j := x15) (EN ha (.tmp rfl rfl) rfl) (EN ha (.tmp rfl rfl) rfl)) ?_
  refine D_nil ?_
  refine CW_cond (b := ((x6 : Int) != x15)) (.tmp rfl rfl) (fun hb22 => ?_) (fun hb22 => ?_)
  · rw [if_pos hb22] at hF
    refine K_region ?_
    refine C_val (V_assign (v := (.bool false)) (.bool _)) ?_
    refine C_nil ?_
    refine CW_ret ?_
    obtain rfl := Option.some.inj hF
    exact End_ret () (.tmp rfl rfl .nil) rfl (.sel .nil)
  rw [if_neg (by rw [hb22]; exact Bool.false_ne_true)] at hF
  refine CW_skip ?_
  refine CW_region ?_
  refine C_val (V_add (i := (k4 : Int)) (j := 1) (.tmp rfl rfl) (.int _ _)) ?_
  refine C_val (V_move (v := (.int .i64 (IntKind.i64.wrap ((k4 : Int) + 1)))) (.tmp rfl rfl)) ?_
  refine C_nil ?_
  have hw21 : IntKind.i64.wrap ((k4 : Int) + 1) = ((k4 + 1 : Nat) : Int) := by rw [wrap_in (by omega) (by omega)]; rfl
  rw [hw21]
  exact ⟨_, Nat.lt_succ_self _, _, k4 + 1, rest5, rfl, (EqL.cons rfl (EqL.cons rfl (EqL.cons rfl (EqL.cons rfl (EqL.nil))))).eq, hd10, (.sel (.rd (.t (.t .h)) rfl (.rd (.t (.t (.t .h))) rfl .nil))), hF⟩

/-! impl.sameAccess -/
def i_sameAccess (a_a : Access) (a_b : Access) : Option (Bool) :=
  (bif ((a_a.Method : Int) == a_b.Method) then ((g_slices_Equal_int_int a_a.Values a_b.Values).bind fun r6 =>
      some r6)
    else (some false)).bind fun o3 =>
  match o3 with
  | c9 => some c9
theorem i_sameAccess_ok (a_a : Access) (v0_1 : Sv) (a_b : Access) (v1_1 : Sv) (R : Bool) (hF : i_sameAccess a_a a_b = some R) :
    Fw.Spec Try.prog 112 [(.agg [(.int .i64 a_a.Method), v0_1.v].toArray), (.agg [(.int .i64 a_b.Method), v1_1.v].toArray)] [crd (RdS 3 rdInt) v0_1.v a_a.Values, crd (RdS 3 rdInt) v1_1.v a_b.Values] (fun _ : Unit => (.bool R)) (fun _ => []) := by
  refine Spec_enter (n := 17) Try.func112 rfl rfl (rs := [.tmp 4]) rfl rfl rfl ?_
  intro H0 F0
  unfold i_sameAccess at hF
  refine K_region ?_
  refine C_newR rfl (N_box (g := false) (v := (.agg [(.int .i64 a_a.Method), v0_1.v].toArray)) ty100.sz (.tmp rfl rfl) rfl) (fun k1 => ?_)
  refine C_newR rfl (N_box (g := false) (v := (.agg [(.int .i64 a_b.Method), v1_1.v].toArray)) ty100.sz (.tmp rfl rfl) rfl) (fun k2 => ?_)
  refine C_val (V_assign (v := (.bool false)) (.bool _)) ?_
  refine C_nil ?_
  obtain ⟨o3, hio3, hO4⟩ := bind_some hF
  refine K_region ?_
  refine C_cut (fun f' cs' => ∃ (c9 : Bool) (g : Fr), c9 = o3 ∧ f' = updL g [(4, (.bool c9))] ∧ Ent cs' []) ?_ ?_
  · replace hF := hio3
    refine C_val (V_fieldAddr (off := 0) fd100_0 (.tmp rfl rfl)) ?_
    refine C_at (.t .h) (fun hp => V_load (v := (.int .i64 a_a.Method)) ag3 (.tmp rfl rfl) hp.2 rfl rfl) ?_
    refine C_val (V_fieldAddr (off := 0) fd100_0 (.tmp rfl rfl)) ?_
    refine C_at .h (fun hp => V_load (v := (.int .i64 a_b.Method)) ag3 (.tmp rfl rfl) hp.2 rfl rfl) ?_
    refine C_val (V_eql (i := a_a.Method) (j := a_b.Method) (.tmp rfl rfl) (.tmp rfl rfl)) ?_
    refine C_val (V_move (v := (.bool ((a_a.Method : Int) == a_b.Method))) (.tmp rfl rfl)) ?_
    rcases Bool.eq_false_or_eq_true ((a_a.Method : Int) == a_b.Method) with hg5 | hg5
    · rw [hg5]
      try rw [hg5] at hF; dsimp only [cond_true, cond_false] at hF
      refine C_on (t := 10) rfl rfl rfl ?_
      refine C_val (V_fieldAddr (off := 1) fd100_1 (.tmp rfl rfl)) ?_
      refine C_on (t := 10) rfl rfl rfl ?_
      refine C_at (.t .h) (fun hp => V_load (v := v0_1.v) ag45 (.tmp rfl rfl) hp.2 rfl rfl) ?_
      refine C_on (t := 10) rfl rfl rfl ?_
      refine C_val (V_fieldAddr (off := 1) fd100_1 (.tmp rfl rfl)) ?_
      refine C_on (t := 10) rfl rfl rfl ?_
      refine C_at .h (fun hp => V_load (v := v1_1.v) ag45 (.tmp rfl rfl) hp.2 rfl rfl) ?_
      refine C_on (t := 10) rfl rfl rfl ?_
      obtain ⟨r6, hx7, hF⟩ := bind_some hF
      refine C_x0 (.rd (.t (.t .h)) rfl (.rd (.t (.t (.t .h))) rfl .nil)) (X_callS cf96 (.cons (.tmp rfl rfl) (.cons (.tmp rfl rfl) .nil)) (g_slices_Equal_int_int_ok a_a.Values v0_1 a_b.Values v1_1 _ hx7)) (fun _ => ?_)
      refine C_val (V_pick (b := true) (u := (.bool r6)) (v := (.bool false)) (.tmp rfl rfl) (.tmp rfl rfl) (.bool _)) ?_
      refine C_val (V_assign (v := (.bool r6)) (.tmp rfl rfl)) ?_
      refine C_nil ?_
      obtain rfl := Option.some.inj hF
      exact ⟨_, _, rfl, (EqL.cons rfl (EqL.nil)).eq, (.sel .nil)⟩
    rw [hg5]
    try rw [hg5] at hF; dsimp only [cond_true, cond_false] at hF
    refine C_off (t := 10) rfl rfl rfl ?_
    refine C_off (t := 10) rfl rfl rfl ?_
    refine C_off (t := 10) rfl rfl rfl ?_
    refine C_off (t := 10) rfl rfl rfl ?_
    refine C_off (t := 10) rfl rfl rfl ?_
    refine C_val (V_pick (b := false) (u := undef) (v := (.bool false)) (.tmp rfl rfl) (.tmp rfl rfl) (.bool _)) ?_
    refine C_val (V_assign (v := (.bool false)) (.tmp rfl rfl)) ?_
    refine C_nil ?_
    obtain rfl := Option.some.inj hF
    exact ⟨_, _, rfl, (EqL.cons rfl (EqL.nil)).eq, (.sel .nil)⟩
  rintro _ _ ⟨c9, g10, rfl, rfl, hE⟩
  replace hF := hO4
  clear hO4
  try dsimp only at hF
  refine K_ent hE ?_
  refine CW_ret ?_
  obtain rfl := Option.some.inj hF
  exact End_ret () (.tmp rfl rfl .nil) rfl (.sel .nil)

/-! impl.Access] -/
def g_slices_EqualFunc_impl_Access_impl_Access_impl_Access_impl_Access_isameAccess_L1 (a_s2 : List Access) : List Access → Nat → Option (Bool)
  | [], k4 => some true
  | x6 :: rest5, k4 => (ix a_s2 (k4 : Int)).bind fun x17 =>
    (i_sameAccess x6 x17).bind fun r25 =>
    if (!r25) then (
      some false)
    else (
      g_slices_EqualFunc_impl_Access_impl_Access_impl_Access_impl_Access_isameAccess_L1 a_s2 rest5 (k4 + 1))
def g_slices_EqualFunc_impl_Access_impl_Access_impl_Access_impl_Access_isameAccess (a_s1 : List Access) (a_s2 : List Access) : Option (Bool) :=
  if (((a_s1.length : Int) : Int) != (a_s2.length : Int)) then (
    some false)
  else (
    g_slices_EqualFunc_impl_Access_impl_Access_impl_Access_impl_Access_isameAccess_L1 a_s2 a_s1 0)
theorem g_slices_EqualFunc_impl_Access_impl_Access_impl_Access_impl_Access_isameAccess_ok (a_s1 : List Access) (v0_0 : Sv) (a_s2 : List Access) (v1_0 : Sv) (R : Bool) (hF : g_slices_EqualFunc_impl_Access_impl_Access_impl_Access_impl_Access_isameAccess a_s1 a_s2 = some R) :
    Fw.Spec Try.prog 111 [v0_0.v, v1_0.v, (.func (.func 112) [].toArray [].toArray)] [crd (RdS 100 rd100) v0_0.v a_s1, crd (RdS 100 rd100) v1_0.v a_s2] (fun _ : Unit => (.bool R)) (fun _ => []) := by
  refine Spec_enter (n := 32) Try.func111 rfl rfl (rs := [.tmp 6]) rfl rfl rfl ?_
  intro H0 F0
  unfold g_slices_EqualFunc_impl_Access_impl_Access_impl_Access_impl_Access_isameAccess at hF
  refine K_region ?_
  refine C_val (V_assign (v := (.bool false)) (.bool _)) ?_
  refine C_nil ?_
  refine K_in ?_
  refine K_region ?_
  refine C_val (V_move (v := v0_0.v) (.tmp rfl rfl)) ?_
  refine C_at .h (fun hp => V_lenR (l := a_s1.length) sl33 (.tmp rfl rfl) (crd_len hp)) ?_
  refine C_val (V_move (v := v1_0.v) (.tmp rfl rfl)) ?_
  refine C_at (.t .h) (fun hp => V_lenR (l := a_s2.length) sl33 (.tmp rfl rfl) (crd_len hp)) ?_
  refine C_val (V_neq (i := (a_s1.length : Int)) (j := (a_s2.length : Int)) (.tmp rfl rfl) (.tmp rfl rfl)) ?_
  refine C_nil ?_
  refine CW_cond (b := (((a_s1.length : Int) : Int) != (a_s2.length : Int))) (.tmp rfl rfl) (fun hb30 => ?_) (fun hb30 => ?_)
  · rw [if_pos hb30] at hF
    refine K_region ?_
    refine C_val (V_assign (v := (.bool false)) (.bool _)) ?_
    refine C_nil ?_
    refine CW_ret ?_
    obtain rfl := Option.some.inj hF
    exact End_ret () (.tmp rfl rfl .nil) rfl (.sel .nil)
  rw [if_neg (by rw [hb30]; exact Bool.false_ne_true)] at hF
  refine CW_skip ?_
  refine K_in ?_
  refine K_region ?_
  refine C_val (V_move (v := v0_0.v) (.tmp rfl rfl)) ?_
  refine C_at .h (fun hp => V_lenR (l := a_s1.length) sl33 (.tmp rfl rfl) (crd_len hp)) ?_
  refine C_val (V_move (v := (.int .i64 0)) (.int _ _)) ?_
  refine C_nil ?_
  refine CW_block ?_
  refine CW_loop (m := a_s1.length) (fun m2 f' cs' => ∃ (g : Fr) (k4 : Nat) (rest5 : List Access), m2 = rest5.length ∧ f' = updL g [(1, v1_0.v), (2, (.func (.func 112) [].toArray [].toArray)), (15, v0_0.v), (16, (.int .i64 (a_s1.length : Int))), (17, (.int .i64 (k4 : Int)))] ∧ List.drop k4 a_s1 = rest5 ∧ Ent cs' [crd (RdS 100 rd100) v1_0.v a_s2, crd (RdS 100 rd100) v0_0.v a_s1] ∧ g_slices_EqualFunc_impl_Access_impl_Access_impl_Access_impl_Access_isameAccess_L1 a_s2 rest5 k4 = some R) ⟨_, 0, _, rfl, (EqL.cons rfl (EqL.cons rfl (EqL.cons rfl (EqL.cons rfl (EqL.cons rfl (EqL.nil)))))).eq, rfl, (.sel (.rd (.t .h) rfl (.rd .h rfl .nil))), hF⟩ ?_
  clear hF
  rintro m2 _ _ ⟨g3, k4, rest5, rfl, rfl, hd7, hE, hF⟩
  refine K_ent hE ?_
  clear hE
  refine K_pure (c := crd (RdS 100 rd100) v0_0.v a_s1) (.t .h) crd_bound (fun hbd12 => ?_)
  rcases rest5 with _ | ⟨x6, rest5⟩
  · have hk8 := List.drop_eq_nil_iff.1 hd7
    have hfe11 : (decide (((k4 : Int) : Int) < (a_s1.length : Int))) = false := decide_eq_false (by omega)
    rw [g_slices_EqualFunc_impl_Access_impl_Access_impl_Access_impl_Access_isameAccess_L1] at hF
    refine K_region ?_
    refine C_val (V_lss (i := (k4 : Int)) (j := (a_s1.length : Int)) (.tmp rfl rfl) (.tmp rfl rfl)) ?_
    refine C_nil ?_
    refine K_in ?_
    refine CW_cond (b := (decide (((k4 : Int) : Int) < (a_s1.length : Int)))) (.tmp rfl rfl) (fun hb => absurd (hfe11.symm.trans hb) (by decide)) (fun _ => ?_)
    refine CW_exit ?_
    refine CThen_exit ?_
    refine CThen_exit ?_
    refine CIn_self ?_
    refine K_region ?_
    refine C_val (V_assign (v := (.bool true)) (.bool _)) ?_
    refine C_nil ?_
    refine CW_ret ?_
    obtain rfl := Option.some.inj hF
    exact End_ret () (.tmp rfl rfl .nil) rfl (.sel .nil)
  obtain ⟨hk8, hx9, hd10⟩ := drop_cons hd7
  have hfe11 : (decide (((k4 : Int) : Int) < (a_s1.length : Int))) = true := decide_eq_true (by omega)
  rw [g_slices_EqualFunc_impl_Access_impl_Access_impl_Access_impl_Access_isameAccess_L1] at hF
  refine K_region ?_
  refine C_val (V_lss (i := (k4 : Int)) (j := (a_s1.length : Int)) (.tmp rfl rfl) (.tmp rfl rfl)) ?_
  refine C_nil ?_
  refine K_in ?_
  refine CW_cond (b := (decide (((k4 : Int) : Int) < (a_s1.length : Int)))) (.tmp rfl rfl) (fun _ => ?_) (fun hb => absurd (hfe11.symm.trans hb) (by decide))
  refine CW_skip ?_
  refine K_block ?_
  refine K_region ?_
  refine C_val (V_move (v := (.int .i64 (k4 : Int))) (.tmp rfl rfl)) ?_
  refine C_idx (a := x6) sl33 ty100.sz (.tmp rfl rfl) (.tmp rfl rfl) (.t .h) (Int.natCast_nonneg k4) hx9 (fun k13 j14 => ?_)
  refine C_ldA1 (ul100_0_100 x6) ag100 ty100.sz rfl (.tmp rfl rfl) .h la100_0_100 (fun p15 => ?_)
  refine C_new rfl (N_allocT (g := true) ty100 rfl rfl) (fun k16 => ?_)
  refine C_val (V_assign (v := (.int .i64 (k4 : Int))) (.tmp rfl rfl)) ?_
  refine C_x1 (.cons .h .nil) (X_storeB (e := (.agg [(.int .i64 0), (.slice none 0 0)].toArray)) (e' := (.agg [(.int .i64 x6.Method), p15.v].toArray)) (v := (.agg [(.int .i64 x6.Method), p15.v].toArray)) ty100.sz (.tmp rfl rfl) (.tmp rfl rfl) rfl rfl rfl rfl rfl) (fun _ => ?_)
  refine C_nil ?_
  refine K_region ?_
  refine C_val (V_move (v := v1_0.v) (.tmp rfl rfl)) ?_
  refine C_val (V_move (v := (.int .i64 (k4 : Int))) (.tmp rfl rfl)) ?_
  obtain ⟨x17, hx18, hF⟩ := bind_some hF
  obtain ⟨hp19, hx20⟩ := ix_some hx18
  refine C_idx (a := x17) sl33 ty100.sz (.tmp rfl rfl) (.tmp rfl rfl) (.t (.t (.t .h))) hp19 hx20 (fun k21 j22 => ?_)
  refine C_ldA1 (ul100_0_100 x17) ag100 ty100.sz rfl (.tmp rfl rfl) .h la100_0_100 (fun p23 => ?_)
  refine C_new rfl (N_allocT (g := true) ty100 rfl rfl) (fun k24 => ?_)
  refine C_x1 (.cons .h .nil) (X_storeB (e := (.agg [(.int .i64 0), (.slice none 0 0)].toArray)) (e' := (.agg [(.int .i64 x17.Method), p23.v].toArray)) (v := (.agg [(.int .i64 x17.Method), p23.v].toArray)) ty100.sz (.tmp rfl rfl) (.tmp rfl rfl) rfl rfl rfl rfl rfl) (fun _ => ?_)
  refine C_nil ?_
  refine K_region ?_
  refine C_val (V_move (v := (.func (.func 112) [].toArray [].toArray)) (.tmp rfl rfl)) ?_
  refine C_at (.t (.t (.t .h))) (fun hp => V_loadBox ag100 ty100.sz rfl (.tmp rfl rfl) hp.2 rfl) ?_
  refine C_at .h (fun hp => V_loadBox ag100 ty100.sz rfl (.tmp rfl rfl) hp.2 rfl) ?_
  obtain ⟨r25, hx26, hF⟩ := bind_some hF
  refine C_x0 (.rd (.t (.t (.t (.t .h)))) rfl (.rd (.t .h) rfl .nil)) (X_callCS cf112 (.tmp rfl rfl) (.cons (.tmp rfl rfl) (.cons (.tmp rfl rfl) .nil)) (i_sameAccess_ok x6 p15 x17 p23 _ hx26)) (fun _ => ?_)
  refine C_val (V_not (b := r25) (.tmp rfl rfl)) ?_
  refine C_nil ?_
  refine CW_cond (b := (!r25)) (.tmp rfl rfl) (fun hb29 => ?_) (fun hb29 => ?_)
  · rw [if_pos hb29] at hF
    refine K_region ?_
    refine C_val (V_assign (v := (.bool false)) (.bool _)) ?_
    refine C_nil ?_
    refine CW_ret ?_
    obtain rfl := Option.some.inj hF
    exact End_ret () (.tmp rfl rfl .nil) rfl (.sel .nil)
  rw [if_neg (by rw [hb29]; exact Bool.false_ne_true)] at hF
  refine CW_skip ?_
  refine CW_region ?_
  refine C_val (V_add (i := (k4 : Int)) (j := 1) (.tmp rfl rfl) (.int _ _)) ?_
  refine C_val (V_move (v := (.int .i64 (IntKind.i64.wrap ((k4 : Int) + 1)))) (.tmp rfl rfl)) ?_
  refine C_nil ?_
  have hw28 : IntKind.i64.wrap ((k4 : Int) + 1) = ((k4 + 1 : Nat) : Int) := by rw [wrap_in (by omega) (by omega)]; rfl
  rw [hw28]
  exact ⟨_, Nat.lt_succ_self _, _, k4 + 1, rest5, rfl, (EqL.cons rfl (EqL.cons rfl (EqL.cons rfl (EqL.cons rfl (EqL.cons rfl (EqL.nil)))))).eq, hd10, (.sel (.rd (.t (.t (.t (.t (.t (.t .h)))))) rfl (.rd (.t (.t (.t (.t (.t (.t (.t .h))))))) rfl .nil))), hF⟩

/-! impl.SameAccesses -/
def i_SameAccesses (a_a : List Access) (a_b : List Access) : Option (Bool) :=
  (g_slices_EqualFunc_impl_Access_impl_Access_impl_Access_impl_Access_isameAccess a_a a_b).bind fun r1 =>
  some r1
theorem i_SameAccesses_ok (a_a : List Access) (v0_0 : Sv) (a_b : List Access) (v1_0 : Sv) (R : Bool) (hF : i_SameAccesses a_a a_b = some R) :
    Fw.Spec Try.prog 62 [v0_0.v, v1_0.v] [crd (RdS 100 rd100) v0_0.v a_a, crd (RdS 100 rd100) v1_0.v a_b] (fun _ : Unit => (.bool R)) (fun _ => []) := by
  refine Spec_enter (n := 8) Try.func62 rfl rfl (rs := [.tmp 4]) rfl rfl rfl ?_
  intro H0 F0
  unfold i_SameAccesses at hF
  refine K_region ?_
  refine C_val (V_assign (v := (.bool false)) (.bool _)) ?_
  refine C_nil ?_
  refine K_region ?_
  refine C_val (V_move (v := v0_0.v) (.tmp rfl rfl)) ?_
  refine C_val (V_move (v := v1_0.v) (.tmp rfl rfl)) ?_
  obtain ⟨r1, hx2, hF⟩ := bind_some hF
  refine C_x0 (.rd .h rfl (.rd (.t .h) rfl .nil)) (X_callS cf111 (.cons (.tmp rfl rfl) (.cons (.tmp rfl rfl) (.cons (.fn _) .nil))) (g_slices_EqualFunc_impl_Access_impl_Access_impl_Access_impl_Access_isameAccess_ok a_a v0_0 a_b v1_0 _ hx2)) (fun _ => ?_)
  refine C_val (V_assign (v := (.bool r1)) (.tmp rfl rfl)) ?_
  refine C_nil ?_
  refine CW_ret ?_
  obtain rfl := Option.some.inj hF
  exact End_ret () (.tmp rfl rfl .nil) rfl (.sel .nil)

/-! impl.SameView -/
def i_SameView (a_l : List Method) (a_a : List Access) (a_b : List Access) (a_rel : Int) : Option (Bool) :=
  (i_ViewOf a_l a_a a_rel).bind fun r1 =>
  (i_ViewOf a_l a_b a_rel).bind fun r4 =>
  (i_SameAccesses r1 r4).bind fun r7 =>
  some r7
theorem i_SameView_ok (a_l : List Method) (v0_0 : Sv) (a_a : List Access) (v1_0 : Sv) (a_b : List Access) (v2_0 : Sv) (a_rel : Int) (R : Bool) (hF : i_SameView a_l a_a a_b a_rel = some R) :
    Fw.Spec Try.prog 26 [v0_0.v, v1_0.v, v2_0.v, (.int .i64 a_rel)] [crd (RdS 101 rd101) v0_0.v a_l, crd (RdS 100 rd100) v1_0.v a_a, crd (RdS 100 rd100) v2_0.v a_b] (fun _ : Unit => (.bool R)) (fun _ => []) := by
  refine Spec_enter (n := 18) Try.func26 rfl rfl (rs := [.tmp 8]) rfl rfl rfl ?_
  intro H0 F0
  unfold i_SameView at hF
  refine K_region ?_
  refine C_val (V_assign (v := (.bool false)) (.bool _)) ?_
  refine C_nil ?_
  refine K_region ?_
  refine C_val (V_move (v := v0_0.v) (.tmp rfl rfl)) ?_
  refine C_val (V_move (v := v1_0.v) (.tmp rfl rfl)) ?_
  refine C_val (V_move (v := (.int .i64 a_rel)) (.tmp rfl rfl)) ?_
  obtain ⟨r1, hx2, hF⟩ := bind_some hF
  refine C_x1 (.rd .h rfl (.rd (.t .h) rfl .nil)) (X_callS cf19 (.cons (.tmp rfl rfl) (.cons (.tmp rfl rfl) (.cons (.tmp rfl rfl) .nil))) (i_ViewOf_ok a_l v0_0 a_a v1_0 a_rel _ hx2)) (fun p3 => ?_)
  refine C_val (V_move (v := v0_0.v) (.tmp rfl rfl)) ?_
  refine C_val (V_move (v := v2_0.v) (.tmp rfl rfl)) ?_
  refine C_val (V_move (v := (.int .i64 a_rel)) (.tmp rfl rfl)) ?_
  obtain ⟨r4, hx5, hF⟩ := bind_some hF
  refine C_x1 (.rd (.t .h) rfl (.rd (.t (.t (.t .h))) rfl .nil)) (X_callS cf19 (.cons (.tmp rfl rfl) (.cons (.tmp rfl rfl) (.cons (.tmp rfl rfl) .nil))) (i_ViewOf_ok a_l v0_0 a_b v2_0 a_rel _ hx5)) (fun p6 => ?_)
  obtain ⟨r7, hx8, hF⟩ := bind_some hF
  refine C_x2 (.cons .h (.cons .h .nil)) (XC_borL (pre := []) (.cons frz_own (.cons frz_own .nil)) (fun _ => .nil) (X_callS cf62 (.cons (.tmp rfl rfl) (.cons (.tmp rfl rfl) .nil)) (i_SameAccesses_ok r1 p3.1 r4 p6.1 _ hx8))) (fun _ => ?_)
  refine C_val (V_assign (v := (.bool r7)) (.tmp rfl rfl)) ?_
  refine C_nil ?_
  refine CW_ret ?_
  obtain rfl := Option.some.inj hF
  exact End_ret () (.tmp rfl rfl .nil) rfl (.sel .nil)

/-! laws.eqIntS -/
def l_eqIntS_L1 (a_b : List Int) : List Int → Nat → Option (Bool)
  | [], k4 => some true
  | x6 :: rest5, k4 => (ix a_b (k4 : Int)).bind fun x15 =>
    if ((x6 : Int) != x15) then (
      some false)
    else (
      l_eqIntS_L1 a_b rest5 (k4 + 1))
def l_eqIntS (a_a : List Int) (a_b : List Int) : Option (Bool) :=
  if (((a_a.length : Int) : Int) != (a_b.length : Int)) then (
    some false)
  else (
    l_eqIntS_L1 a_b a_a 0)
theorem l_eqIntS_ok (a_a : List Int) (v0_0 : Sv) (a_b : List Int) (v1_0 : Sv) (R : Bool) (hF : l_eqIntS a_a a_b = some R) :
    Fw.Spec Try.prog 31 [v0_0.v, v1_0.v] [crd (RdS 3 rdInt) v0_0.v a_a, crd (RdS 3 rdInt) v1_0.v a_b] (fun _ : Unit => (.bool R)) (fun _ => []) := by
  refine Spec_enter (n := 26) Try.func31 rfl rfl (rs := [.tmp 4]) rfl rfl rfl ?_
  intro H0 F0
  unfold l_eqIntS at hF
  refine K_region ?_
  refine C_val (V_assign (v := (.bool false)) (.bool _)) ?_
  refine C_nil ?_
  refine K_in ?_
  refine K_region ?_
  refine C_val (V_move (v := v0_0.v) (.tmp rfl rfl)) ?_
  refine C_at .h (fun hp => V_lenR (l := a_a.length) sl45 (.tmp rfl rfl) (crd_len hp)) ?_
  refine C_val (V_move (v := v1_0.v) (.tmp rfl rfl)) ?_
  refine C_at (.t .h) (fun hp => V_lenR (l := a_b.length) sl45 (.tmp rfl rfl) (crd_len hp)) ?_
  refine C_val (V_neq (i := (a_a.length : Int)) (j := (a_b.length : Int)) (.tmp rfl rfl) (.tmp rfl rfl)) ?_
  refine C_nil ?_
  refine CW_cond (b := (((a_a.length : Int) : Int) != (a_b.length : Int))) (.tmp rfl rfl) (fun hb23 => ?_) (fun hb23 => ?_)
  · rw [if_pos hb23] at hF
    refine K_region ?_
    refine C_val (V_assign (v := (.bool false)) (.bool _)) ?_
    refine C_nil ?_
    refine CW_ret ?_
    obtain rfl := Option.some.inj hF
    exact End_ret () (.tmp rfl rfl .nil) rfl (.sel .nil)
  rw [if_neg (by rw [hb23]; exact Bool.false_ne_true)] at hF
  refine CW_skip ?_
  refine K_in ?_
  refine K_region ?_
  refine C_val (V_assign (v := (.int .i64 0)) (.int _ _)) ?_
  refine C_nil ?_
  refine CW_block ?_
  refine CW_loop (m := a_a.length) (fun m2 f' cs' => ∃ (g : Fr) (k4 : Nat) (rest5 : List Int), m2 = rest5.length ∧ f' = updL g [(0, v0_0.v), (1, v1_0.v), (5, (.int .i64 (k4 : Int)))] ∧ List.drop k4 a_a = rest5 ∧ Ent cs' [crd (RdS 3 rdInt) v0_0.v a_a, crd (RdS 3 rdInt) v1_0.v a_b] ∧ l_eqIntS_L1 a_b rest5 k4 = some R) ⟨_, 0, _, rfl, (EqL.cons rfl (EqL.cons rfl (EqL.cons rfl (EqL.nil)))).eq, rfl, (.sel (.rd .h rfl (.rd (.t .h) rfl .nil))), hF⟩ ?_
  clear hF
  rintro m2 _ _ ⟨g3, k4, rest5, rfl, rfl, hd7, hE, hF⟩
  refine K_ent hE ?_
  clear hE
  refine K_pure (c := crd (RdS 3 rdInt) v0_0.v a_a) .h crd_bound (fun hbd12 => ?_)
  rcases rest5 with _ | ⟨x6, rest5⟩
  · have hk8 := List.drop_eq_nil_iff.1 hd7
    have hfe11 : (decide (((k4 : Int) : Int) < (a_a.length : Int))) = false := decide_eq_false (by omega)
    rw [l_eqIntS_L1] at hF
    refine K_in ?_
    refine K_region ?_
    refine C_val (V_move (v := (.int .i64 (k4 : Int))) (.tmp rfl rfl)) ?_
    refine C_val (V_move (v := v0_0.v) (.tmp rfl rfl)) ?_
    refine C_at .h (fun hp => V_lenR (l := a_a.length) sl45 (.tmp rfl rfl) (crd_len hp)) ?_
    refine C_val (V_lss (i := (k4 : Int)) (j := (a_a.length : Int)) (.tmp rfl rfl) (.tmp rfl rfl)) ?_
    refine C_nil ?_
    refine CW_cond (b := (decide (((k4 : Int) : Int) < (a_a.length : Int)))) (.tmp rfl rfl) (fun hb => absurd (hfe11.symm.trans hb) (by decide)) (fun _ => ?_)
    refine CW_exit ?_
    refine CThen_exit ?_
    refine CThen_exit ?_
    refine CIn_self ?_
    refine K_region ?_
    refine C_val (V_assign (v := (.bool true)) (.bool _)) ?_
    refine C_nil ?_
    refine CW_ret ?_
    obtain rfl := Option.some.inj hF
    exact End_ret () (.tmp rfl rfl .nil) rfl (.sel .nil)
  obtain ⟨hk8, hx9, hd10⟩ := drop_cons hd7
  have hfe11 : (decide (((k4 : Int) : Int) < (a_a.length : Int))) = true := decide_eq_true (by omega)
  rw [l_eqIntS_L1] at hF
  refine K_in ?_
  refine K_region ?_
  refine C_val (V_move (v := (.int .i64 (k4 : Int))) (.tmp rfl rfl)) ?_
  refine C_val (V_move (v := v0_0.v) (.tmp rfl rfl)) ?_
  refine C_at .h (fun hp => V_lenR (l := a_a.length) sl45 (.tmp rfl rfl) (crd_len hp)) ?_
  refine C_val (V_lss (i := (k4 : Int)) (j := (a_a.length : Int)) (.tmp rfl rfl) (.tmp rfl rfl)) ?_
  refine C_nil ?_
  refine CW_cond (b := (decide (((k4 : Int) : Int) < (a_a.length : Int)))) (.tmp rfl rfl) (fun _ => ?_) (fun hb => absurd (hfe11.symm.trans hb) (by decide))
  refine CW_skip ?_
  refine K_block ?_
  refine K_draw [0, 1, 2, 3, 4, 5, 6, 7, 8] [0, 0, 3, 7, 0, 0, 48, 112, 255] [] mixed (by decide +kernel) ?_
  refine D_val rfl .no (fun ha => V_move (v := v0_0.v) (EN ha (.tmp rfl rfl) rfl)) ?_
  refine D_val rfl .no (fun ha => V_move (v := (.int .i64 (k4 : Int))) (EN ha (.tmp rfl rfl) rfl)) ?_
  refine D_idx (a := x6) sl45 ty3.sz rfl .no (.tmp rfl rfl) (.tmp rfl rfl) rfl rfl .h (Int.natCast_nonneg k4) hx9 (fun k13 j14 => ?_)
  refine D_ldS (w := (.int .i64 x6)) ag3 rfl .no (.tmp rfl rfl) rfl .h ls3_0 ?_
  refine D_val rfl .no (fun ha => V_move (v := v1_0.v) (EN ha (.tmp rfl rfl) rfl)) ?_
  refine D_val rfl .no (fun ha => V_move (v := (.int .i64 (k4 : Int))) (EN ha (.tmp rfl rfl) rfl)) ?_
  obtain ⟨x15, hx16, hF⟩ := bind_some hF
  obtain ⟨hp17, hx18⟩ := ix_some hx16
  refine D_idx (a := x15) sl45 ty3.sz rfl .no (.tmp rfl rfl) (.tmp rfl rfl) rfl rfl (.t (.t .h)) hp17 hx18 (fun k19 j20 => ?_)
  refine D_ldS (w := (.int .i64 x15)) ag3 rfl .no (.tmp rfl rfl) rfl .h ls3_0 ?_
  refine D_val rfl .no (fun ha => V_neq (i := x6) (j := x15) (EN ha (.tmp rfl rfl) rfl) (EN ha (.tmp rfl rfl) rfl)) ?_
  refine D_nil ?_
  refine CW_cond (b := ((x6 : Int) != x15)) (.tmp rfl rfl) (fun hb22 => ?_) (fun hb22 => ?_)
  · rw [if_pos hb22] at hF
    refine K_region ?_
    refine C_val (V_assign (v := (.bool false)) (.bool _)) ?_
    refine C_nil ?_
    refine CW_ret ?_
    obtain rfl := Option.some.inj hF
    exact End_ret () (.tmp rfl rfl .nil) rfl (.sel .nil)
  rw [if_neg (by rw [hb22]; exact Bool.false_ne_true)] at hF
  refine CW_skip ?_
  refine CW_region ?_
  refine C_val (V_move (v := (.int .i64 (k4 : Int))) (.tmp rfl rfl)) ?_
  refine C_val (V_add (i := (k4 : Int)) (j := 1) (.tmp rfl rfl) (.int _ _)) ?_
  refine C_val (V_assign (v := (.int .i64 (IntKind.i64.wrap ((k4 : Int) + 1)))) (.tmp rfl rfl)) ?_
  refine C_nil ?_
  have hw21 : IntKind.i64.wrap ((k4 : Int) + 1) = ((k4 + 1 : Nat) : Int) := by rw [wrap_in (by omega) (by omega)]; rfl
  rw [hw21]
  exact ⟨_, Nat.lt_succ_self _, _, k4 + 1, rest5, rfl, (EqL.cons rfl (EqL.cons rfl (EqL.cons rfl (EqL.nil)))).eq, hd10, (.sel (.rd (.t (.t .h)) rfl (.rd (.t (.t (.t .h))) rfl .nil))), hF⟩

/-! laws.eqMethod -/
def l_eqMethod (a_a : Method) (a_b : Method) : Option (Bool) :=
  if ((a_a.Rel : Int) != a_b.Rel) then (
    some false)
  else (
    (l_eqIntS a_a.Inputs a_b.Inputs).bind fun r3 =>
    if (!r3) then (
      some false)
    else (
      if ((a_a.Limit : Int) != a_b.Limit) then (
        some false)
      else (
        if ((a_a.Cost : Int) != a_b.Cost) then (
          some false)
        else (
          if ((a_a.Quota : Int) != a_b.Quota) then (
            some false)
          else (
            some true)))))
theorem l_eqMethod_ok (a_a : Method) (v0_1 : Sv) (a_b : Method) (v1_1 : Sv) (R : Bool) (hF : l_eqMethod a_a a_b = some R) :
    Fw.Spec Try.prog 60 [(.agg [(.int .i64 a_a.Rel), v0_1.v, (.int .i64 a_a.Limit), (.int .i64 a_a.Cost), (.int .i64 a_a.Quota)].toArray), (.agg [(.int .i64 a_b.Rel), v1_1.v, (.int .i64 a_b.Limit), (.int .i64 a_b.Cost), (.int .i64 a_b.Quota)].toArray)] [crd (RdS 3 rdInt) v0_1.v a_a.Inputs, crd (RdS 3 rdInt) v1_1.v a_b.Inputs] (fun _ : Unit => (.bool R)) (fun _ => []) := by
  refine Spec_enter (n := 31) Try.func60 rfl rfl (rs := [.tmp 4]) rfl rfl rfl ?_
  intro H0 F0
  unfold l_eqMethod at hF
  refine K_region ?_
  refine C_newR rfl (N_box (g := false) (v := (.agg [(.int .i64 a_a.Rel), v0_1.v, (.int .i64 a_a.Limit), (.int .i64 a_a.Cost), (.int .i64 a_a.Quota)].toArray)) ty101.sz (.tmp rfl rfl) rfl) (fun k1 => ?_)
  refine C_newR rfl (N_box (g := false) (v := (.agg [(.int .i64 a_b.Rel), v1_1.v, (.int .i64 a_b.Limit), (.int .i64 a_b.Cost), (.int .i64 a_b.Quota)].toArray)) ty101.sz (.tmp rfl rfl) rfl) (fun k2 => ?_)
  refine C_val (V_assign (v := (.bool false)) (.bool _)) ?_
  refine C_nil ?_
  refine K_in ?_
  refine K_region ?_
  refine C_val (V_fieldAddr (off := 0) fd101_0 (.tmp rfl rfl)) ?_
  refine C_at (.t .h) (fun hp => V_load (v := (.int .i64 a_a.Rel)) ag3 (.tmp rfl rfl) hp.2 rfl rfl) ?_
  refine C_val (V_fieldAddr (off := 0) fd101_0 (.tmp rfl rfl)) ?_
  refine C_at .h (fun hp => V_load (v := (.int .i64 a_b.Rel)) ag3 (.tmp rfl rfl) hp.2 rfl rfl) ?_
  refine C_val (V_neq (i := a_a.Rel) (j := a_b.Rel) (.tmp rfl rfl) (.tmp rfl rfl)) ?_
  refine C_nil ?_
  refine CW_cond (b := ((a_a.Rel : Int) != a_b.Rel)) (.tmp rfl rfl) (fun hb10 => ?_) (fun hb10 => ?_)
  · rw [if_pos hb10] at hF
    refine K_region ?_
    refine C_val (V_assign (v := (.bool false)) (.bool _)) ?_
    refine C_nil ?_
    refine CW_ret ?_
    obtain rfl := Option.some.inj hF
    exact End_ret () (.tmp rfl rfl .nil) rfl (.sel .nil)
  rw [if_neg (by rw [hb10]; exact Bool.false_ne_true)] at hF
  refine CW_skip ?_
  refine K_in ?_
  refine K_region ?_
  refine C_val (V_fieldAddr (off := 1) fd101_1 (.tmp rfl rfl)) ?_
  refine C_at (.t .h) (fun hp => V_load (v := v0_1.v) ag45 (.tmp rfl rfl) hp.2 rfl rfl) ?_
  refine C_val (V_fieldAddr (off := 1) fd101_1 (.tmp rfl rfl)) ?_
  refine C_at .h (fun hp => V_load (v := v1_1.v) ag45 (.tmp rfl rfl) hp.2 rfl rfl) ?_
  obtain ⟨r3, hx4, hF⟩ := bind_some hF
  refine C_x0 (.rd (.t (.t .h)) rfl (.rd (.t (.t (.t .h))) rfl .nil)) (X_callS cf31 (.cons (.tmp rfl rfl) (.cons (.tmp rfl rfl) .nil)) (l_eqIntS_ok a_a.Inputs v0_1 a_b.Inputs v1_1 _ hx4)) (fun _ => ?_)
  refine C_val (V_not (b := r3) (.tmp rfl rfl)) ?_
  refine C_nil ?_
  refine CW_cond (b := (!r3)) (.tmp rfl rfl) (fun hb9 => ?_) (fun hb9 => ?_)
  · rw [if_pos hb9] at hF
    refine K_region ?_
    refine C_val (V_assign (v := (.bool false)) (.bool _)) ?_
    refine C_nil ?_
    refine CW_ret ?_
    obtain rfl := Option.some.inj hF
    exact End_ret () (.tmp rfl rfl .nil) rfl (.sel .nil)
  rw [if_neg (by rw [hb9]; exact Bool.false_ne_true)] at hF
  refine CW_skip ?_
  refine K_in ?_
  refine K_region ?_
  refine C_val (V_fieldAddr (off := 2) fd101_2 (.tmp rfl rfl)) ?_
  refine C_at (.t .h) (fun hp => V_load (v := (.int .i64 a_a.Limit)) ag3 (.tmp rfl rfl) hp.2 rfl rfl) ?_
  refine C_val (V_fieldAddr (off := 2) fd101_2 (.tmp rfl rfl)) ?_
  refine C_at .h (fun hp => V_load (v := (.int .i64 a_b.Limit)) ag3 (.tmp rfl rfl) hp.2 rfl rfl) ?_
  refine C_val (V_neq (i := a_a.Limit) (j := a_b.Limit) (.tmp rfl rfl) (.tmp rfl rfl)) ?_
  refine C_nil ?_
  refine CW_cond (b := ((a_a.Limit : Int) != a_b.Limit)) (.tmp rfl rfl) (fun hb8 => ?_) (fun hb8 => ?_)
  · rw [if_pos hb8] at hF
    refine K_region ?_
    refine C_val (V_assign (v := (.bool false)) (.bool _)) ?_
    refine C_nil ?_
    refine CW_ret ?_
    obtain rfl := Option.some.inj hF
    exact End_ret () (.tmp rfl rfl .nil) rfl (.sel .nil)
  rw [if_neg (by rw [hb8]; exact Bool.false_ne_true)] at hF
  refine CW_skip ?_
  refine K_in ?_
  refine K_region ?_
  refine C_val (V_fieldAddr (off := 3) fd101_3 (.tmp rfl rfl)) ?_
  refine C_at (.t .h) (fun hp => V_load (v := (.int .i64 a_a.Cost)) ag3 (.tmp rfl rfl) hp.2 rfl rfl) ?_
  refine C_val (V_fieldAddr (off := 3) fd101_3 (.tmp rfl rfl)) ?_
  refine C_at .h (fun hp => V_load (v := (.int .i64 a_b.Cost)) ag3 (.tmp rfl rfl) hp.2 rfl rfl) ?_
  refine C_val (V_neq (i := a_a.Cost) (j := a_b.Cost) (.tmp rfl rfl) (.tmp rfl rfl)) ?_
  refine C_nil ?_
  refine CW_cond (b := ((a_a.Cost : Int) != a_b.Cost)) (.tmp rfl rfl) (fun hb7 => ?_) (fun hb7 => ?_)
  · rw [if_pos hb7] at hF
    refine K_region ?_
    refine C_val (V_assign (v := (.bool false)) (.bool _)) ?_
    refine C_nil ?_
    refine CW_ret ?_
    obtain rfl := Option.some.inj hF
    exact End_ret () (.tmp rfl rfl .nil) rfl (.sel .nil)
  rw [if_neg (by rw [hb7]; exact Bool.false_ne_true)] at hF
  refine CW_skip ?_
  refine K_in ?_
  refine K_region ?_
  refine C_val (V_fieldAddr (off := 4) fd101_4 (.tmp rfl rfl)) ?_
  refine C_at (.t .h) (fun hp => V_load (v := (.int .i64 a_a.Quota)) ag3 (.tmp rfl rfl) hp.2 rfl rfl) ?_
  refine C_val (V_fieldAddr (off := 4) fd101_4 (.tmp rfl rfl)) ?_
  refine C_at .h (fun hp => V_load (v := (.int .i64 a_b.Quota)) ag3 (.tmp rfl rfl) hp.2 rfl rfl) ?_
  refine C_val (V_neq (i := a_a.Quota) (j := a_b.Quota) (.tmp rfl rfl) (.tmp rfl rfl)) ?_
  refine C_nil ?_
  refine CW_cond (b := ((a_a.Quota : Int) != a_b.Quota)) (.tmp rfl rfl) (fun hb6 => ?_) (fun hb6 => ?_)
  · rw [if_pos hb6] at hF
    refine K_region ?_
    refine C_val (V_assign (v := (.bool false)) (.bool _)) ?_
    refine C_nil ?_
    refine CW_ret ?_
    obtain rfl := Option.some.inj hF
    exact End_ret () (.tmp rfl rfl .nil) rfl (.sel .nil)
  rw [if_neg (by rw [hb6]; exact Bool.false_ne_true)] at hF
  refine CW_skip ?_
  refine K_region ?_
  refine C_val (V_assign (v := (.bool true)) (.bool _)) ?_
  refine C_nil ?_
  refine CW_ret ?_
  obtain rfl := Option.some.inj hF
  exact End_ret () (.tmp rfl rfl .nil) rfl (.sel .nil)

/-! laws.eqMethodS -/
def l_eqMethodS_L1 (a_b : List Method) : List Method → Nat → Option (Bool)
  | [], k4 => some true
  | x6 :: rest5, k4 => (ix a_b (k4 : Int)).bind fun x16 =>
    (l_eqMethod x6 x16).bind fun r23 =>
    if (!r23) then (
      some false)
    else (
      l_eqMethodS_L1 a_b rest5 (k4 + 1))
def l_eqMethodS (a_a : List Method) (a_b : List Method) : Option (Bool) :=
  if (((a_a.length : Int) : Int) != (a_b.length : Int)) then (
    some false)
  else (
    l_eqMethodS_L1 a_b a_a 0)
theorem l_eqMethodS_ok (a_a : List Method) (v0_0 : Sv) (a_b : List Method) (v1_0 : Sv) (R : Bool) (hF : l_eqMethodS a_a a_b = some R) :
    Fw.Spec Try.prog 21 [v0_0.v, v1_0.v] [crd (RdS 101 rd101) v0_0.v a_a, crd (RdS 101 rd101) v1_0.v a_b] (fun _ : Unit => (.bool R)) (fun _ => []) := by
  refine Spec_enter (n := 27) Try.func21 rfl rfl (rs := [.tmp 4]) rfl rfl rfl ?_
  intro H0 F0
  unfold l_eqMethodS at hF
  refine K_region ?_
  refine C_val (V_assign (v := (.bool false)) (.bool _)) ?_
  refine C_nil ?_
  refine K_in ?_
  refine K_region ?_
  refine C_val (V_move (v := v0_0.v) (.tmp rfl rfl)) ?_
  refine C_at .h (fun hp => V_lenR (l := a_a.length) sl35 (.tmp rfl rfl) (crd_len hp)) ?_
  refine C_val (V_move (v := v1_0.v) (.tmp rfl rfl)) ?_
  refine C_at (.t .h) (fun hp => V_lenR (l := a_b.length) sl35 (.tmp rfl rfl) (crd_len hp)) ?_
  refine C_val (V_neq (i := (a_a.length : Int)) (j := (a_b.length : Int)) (.tmp rfl rfl) (.tmp rfl rfl)) ?_
  refine C_nil ?_
  refine CW_cond (b := (((a_a.length : Int) : Int) != (a_b.length : Int))) (.tmp rfl rfl) (fun hb28 => ?_) (fun hb28 => ?_)
  · rw [if_pos hb28] at hF
    refine K_region ?_
    refine C_val (V_assign (v := (.bool false)) (.bool _)) ?_
    refine C_nil ?_
    refine CW_ret ?_
    obtain rfl := Option.some.inj hF
    exact End_ret () (.tmp rfl rfl .nil) rfl (.sel .nil)
  rw [if_neg (by rw [hb28]; exact Bool.false_ne_true)] at hF
  refine CW_skip ?_
  refine K_in ?_
  refine K_region ?_
  refine C_val (V_assign (v := (.int .i64 0)) (.int _ _)) ?_
  refine C_nil ?_
  refine CW_block ?_
  refine CW_loop (m := a_a.length) (fun m2 f' cs' => ∃ (g : Fr) (k4 : Nat) (rest5 : List Method), m2 = rest5.length ∧ f' = updL g [(0, v0_0.v), (1, v1_0.v), (5, (.int .i64 (k4 : Int)))] ∧ List.drop k4 a_a = rest5 ∧ Ent cs' [crd (RdS 101 rd101) v0_0.v a_a, crd (RdS 101 rd101) v1_0.v a_b] ∧ l_eqMethodS_L1 a_b rest5 k4 = some R) ⟨_, 0, _, rfl, (EqL.cons rfl (EqL.cons rfl (EqL.cons rfl (EqL.nil)))).eq, rfl, (.sel (.rd .h rfl (.rd (.t .h) rfl .nil))), hF⟩ ?_
  clear hF
  rintro m2 _ _ ⟨g3, k4, rest5, rfl, rfl, hd7, hE, hF⟩
  refine K_ent hE ?_
  clear hE
  refine K_pure (c := crd (RdS 101 rd101) v0_0.v a_a) .h crd_bound (fun hbd12 => ?_)
  rcases rest5 with _ | ⟨x6, rest5⟩
  · have hk8 := List.drop_eq_nil_iff.1 hd7
    have hfe11 : (decide (((k4 : Int) : Int) < (a_a.length : Int))) = false := decide_eq_false (by omega)
    rw [l_eqMethodS_L1] at hF
    refine K_in ?_
    refine K_region ?_
    refine C_val (V_move (v := (.int .i64 (k4 : Int))) (.tmp rfl rfl)) ?_
    refine C_val (V_move (v := v0_0.v) (.tmp rfl rfl)) ?_
    refine C_at .h (fun hp => V_lenR (l := a_a.length) sl35 (.tmp rfl rfl) (crd_len hp)) ?_
    refine C_val (V_lss (i := (k4 : Int)) (j := (a_a.length : Int)) (.tmp rfl rfl) (.tmp rfl rfl)) ?_
    refine C_nil ?_
    refine CW_cond (b := (decide (((k4 : Int) : Int) < (a_a.length : Int)))) (.tmp rfl rfl) (fun hb => absurd (hfe11.symm.trans hb) (by decide)) (fun _ => ?_)
    refine CW_exit ?_
    refine CThen_exit ?_
    refine CThen_exit ?_
    refine CIn_self ?_
    refine K_region ?_
    refine C_val (V_assign (v := (.bool true)) (.bool _)) ?_
    refine C_nil ?_
    refine CW_ret ?_
    obtain rfl := Option.some.inj hF
    exact End_ret () (.tmp rfl rfl .nil) rfl (.sel .nil)
  obtain ⟨hk8, hx9, hd10⟩ := drop_cons hd7
  have hfe11 : (decide (((k4 : Int) : Int) < (a_a.length : Int))) = true := decide_eq_true (by omega)
  rw [l_eqMethodS_L1] at hF
  refine K_in ?_
  refine K_region ?_
  refine C_val (V_move (v := (.int .i64 (k4 : Int))) (.tmp rfl rfl)) ?_
  refine C_val (V_move (v := v0_0.v) (.tmp rfl rfl)) ?_
  refine C_at .h (fun hp => V_lenR (l := a_a.length) sl35 (.tmp rfl rfl) (crd_len hp)) ?_
  refine C_val (V_lss (i := (k4 : Int)) (j := (a_a.length : Int)) (.tmp rfl rfl) (.tmp rfl rfl)) ?_
  refine C_nil ?_
  refine CW_cond (b := (decide (((k4 : Int) : Int) < (a_a.length : Int)))) (.tmp rfl rfl) (fun _ => ?_) (fun hb => absurd (hfe11.symm.trans hb) (by decide))
  refine CW_skip ?_
  refine K_block ?_
  refine K_draw [0, 1, 2, 3, 4, 5, 6, 7, 8, 9] [0, 0, 3, 7, 0, 0, 48, 112, 255, 511] [8] mixed (by decide +kernel) ?_
  refine D_val rfl .no (fun ha => V_move (v := v0_0.v) (EN ha (.tmp rfl rfl) rfl)) ?_
  refine D_val rfl .no (fun ha => V_move (v := (.int .i64 (k4 : Int))) (EN ha (.tmp rfl rfl) rfl)) ?_
  refine D_idx (a := x6) sl35 ty101.sz rfl .no (.tmp rfl rfl) (.tmp rfl rfl) rfl rfl .h (Int.natCast_nonneg k4) hx9 (fun k13 j14 => ?_)
  refine D_ldA1 (ul101_0_101 x6) ag101 ty101.sz rfl rfl .no (.tmp rfl rfl) rfl .h la101_0_101 (fun p15 => ?_)
  refine D_val rfl .no (fun ha => V_move (v := v1_0.v) (EN ha (.tmp rfl rfl) rfl)) ?_
  refine D_val rfl .no (fun ha => V_move (v := (.int .i64 (k4 : Int))) (EN ha (.tmp rfl rfl) rfl)) ?_
  obtain ⟨x16, hx17, hF⟩ := bind_some hF
  obtain ⟨hp18, hx19⟩ := ix_some hx17
  refine D_idx (a := x16) sl35 ty101.sz rfl .no (.tmp rfl rfl) (.tmp rfl rfl) rfl rfl (.t (.t (.t .h))) hp18 hx19 (fun k20 j21 => ?_)
  refine D_ldA1 (ul101_0_101 x16) ag101 ty101.sz rfl rfl .no (.tmp rfl rfl) rfl .h la101_0_101 (fun p22 => ?_)
  obtain ⟨r23, hx24, hF⟩ := bind_some hF
  refine D_act0 rfl rfl .no (.rd (.t (.t .h)) rfl (.rd .h rfl .nil)) .nil (fun ha => X_callS cf60 (.cons (EN ha (.tmp rfl rfl) rfl) (.cons (EN ha (.tmp rfl rfl) rfl) .nil)) (l_eqMethod_ok x6 p15 x16 p22 _ hx24)) (fun _ => ?_)
  refine D_val rfl .no (fun ha => V_not (b := r23) (EN ha (.tmp rfl rfl) rfl)) ?_
  refine D_nil ?_
  refine CW_cond (b := (!r23)) (.tmp rfl rfl) (fun hb27 => ?_) (fun hb27 => ?_)
  · rw [if_pos hb27] at hF
    refine K_region ?_
    refine C_val (V_assign (v := (.bool false)) (.bool _)) ?_
    refine C_nil ?_
    refine CW_ret ?_
    obtain rfl := Option.some.inj hF
    exact End_ret () (.tmp rfl rfl .nil) rfl (.sel .nil)
  rw [if_neg (by rw [hb27]; exact Bool.false_ne_true)] at hF
  refine CW_skip ?_
  refine CW_region ?_
  refine C_val (V_move (v := (.int .i64 (k4 : Int))) (.tmp rfl rfl)) ?_
  refine C_val (V_add (i := (k4 : Int)) (j := 1) (.tmp rfl rfl) (.int _ _)) ?_
  refine C_val (V_assign (v := (.int .i64 (IntKind.i64.wrap ((k4 : Int) + 1)))) (.tmp rfl rfl)) ?_
  refine C_nil ?_
  have hw26 : IntKind.i64.wrap ((k4 : Int) + 1) = ((k4 + 1 : Nat) : Int) := by rw [wrap_in (by omega) (by omega)]; rfl
  rw [hw26]
  exact ⟨_, Nat.lt_succ_self _, _, k4 + 1, rest5, rfl, (EqL.cons rfl (EqL.cons rfl (EqL.cons rfl (EqL.nil)))).eq, hd10, (.sel (.rd (.t (.t (.t (.t .h)))) rfl (.rd (.t (.t (.t (.t (.t .h))))) rfl .nil))), hF⟩

/-! laws.eqAccess -/
def l_eqAccess (a_a : Access) (a_b : Access) : Option (Bool) :=
  if ((a_a.Method : Int) != a_b.Method) then (
    some false)
  else (
    (l_eqIntS a_a.Values a_b.Values).bind fun r3 =>
    if (!r3) then (
      some false)
    else (
      some true))
theorem l_eqAccess_ok (a_a : Access) (v0_1 : Sv) (a_b : Access) (v1_1 : Sv) (R : Bool) (hF : l_eqAccess a_a a_b = some R) :
    Fw.Spec Try.prog 59 [(.agg [(.int .i64 a_a.Method), v0_1.v].toArray), (.agg [(.int .i64 a_b.Method), v1_1.v].toArray)] [crd (RdS 3 rdInt) v0_1.v a_a.Values, crd (RdS 3 rdInt) v1_1.v a_b.Values] (fun _ : Unit => (.bool R)) (fun _ => []) := by
  refine Spec_enter (n := 16) Try.func59 rfl rfl (rs := [.tmp 4]) rfl rfl rfl ?_
  intro H0 F0
  unfold l_eqAccess at hF
  refine K_region ?_
  refine C_newR rfl (N_box (g := false) (v := (.agg [(.int .i64 a_a.Method), v0_1.v].toArray)) ty100.sz (.tmp rfl rfl) rfl) (fun k1 => ?_)
  refine C_newR rfl (N_box (g := false) (v := (.agg [(.int .i64 a_b.Method), v1_1.v].toArray)) ty100.sz (.tmp rfl rfl) rfl) (fun k2 => ?_)
  refine C_val (V_assign (v := (.bool false)) (.bool _)) ?_
  refine C_nil ?_
  refine K_in ?_
  refine K_region ?_
  refine C_val (V_fieldAddr (off := 0) fd100_0 (.tmp rfl rfl)) ?_
  refine C_at (.t .h) (fun hp => V_load (v := (.int .i64 a_a.Method)) ag3 (.tmp rfl rfl) hp.2 rfl rfl) ?_
  refine C_val (V_fieldAddr (off := 0) fd100_0 (.tmp rfl rfl)) ?_
  refine C_at .h (fun hp => V_load (v := (.int .i64 a_b.Method)) ag3 (.tmp rfl rfl) hp.2 rfl rfl) ?_
  refine C_val (V_neq (i := a_a.Method) (j := a_b.Method) (.tmp rfl rfl) (.tmp rfl rfl)) ?_
  refine C_nil ?_
  refine CW_cond (b := ((a_a.Method : Int) != a_b.Method)) (.tmp rfl rfl) (fun hb7 => ?_) (fun hb7 => ?_)
  · rw [if_pos hb7] at hF
    refine K_region ?_
    refine C_val (V_assign (v := (.bool false)) (.bool _)) ?_
    refine C_nil ?_
    refine CW_ret ?_
    obtain rfl := Option.some.inj hF
    exact End_ret () (.tmp rfl rfl .nil) rfl (.sel .nil)
  rw [if_neg (by rw [hb7]; exact Bool.false_ne_true)] at hF
  refine CW_skip ?_
  refine K_in ?_
  refine K_region ?_
  refine C_val (V_fieldAddr (off := 1) fd100_1 (.tmp rfl rfl)) ?_
  refine C_at (.t .h) (fun hp => V_load (v := v0_1.v) ag45 (.tmp rfl rfl) hp.2 rfl rfl) ?_
  refine C_val (V_fieldAddr (off := 1) fd100_1 (.tmp rfl rfl)) ?_
  refine C_at .h (fun hp => V_load (v := v1_1.v) ag45 (.tmp rfl rfl) hp.2 rfl rfl) ?_
  obtain ⟨r3, hx4, hF⟩ := bind_some hF
  refine C_x0 (.rd (.t (.t .h)) rfl (.rd (.t (.t (.t .h))) rfl .nil)) (X_callS cf31 (.cons (.tmp rfl rfl) (.cons (.tmp rfl rfl) .nil)) (l_eqIntS_ok a_a.Values v0_1 a_b.Values v1_1 _ hx4)) (fun _ => ?_)
  refine C_val (V_not (b := r3) (.tmp rfl rfl)) ?_
  refine C_nil ?_
  refine CW_cond (b := (!r3)) (.tmp rfl rfl) (fun hb6 => ?_) (fun hb6 => ?_)
  · rw [if_pos hb6] at hF
    refine K_region ?_
    refine C_val (V_assign (v := (.bool false)) (.bool _)) ?_
    refine C_nil ?_
    refine CW_ret ?_
    obtain rfl := Option.some.inj hF
    exact End_ret () (.tmp rfl rfl .nil) rfl (.sel .nil)
  rw [if_neg (by rw [hb6]; exact Bool.false_ne_true)] at hF
  refine CW_skip ?_
  refine K_region ?_
  refine C_val (V_assign (v := (.bool true)) (.bool _)) ?_
  refine C_nil ?_
  refine CW_ret ?_
  obtain rfl := Option.some.inj hF
  exact End_ret () (.tmp rfl rfl .nil) rfl (.sel .nil)

/-! laws.eqAccessS -/
def l_eqAccessS_L1 (a_b : List Access) : List Access → Nat → Option (Bool)
  | [], k4 => some true
  | x6 :: rest5, k4 => (ix a_b (k4 : Int)).bind fun x16 =>
    (l_eqAccess x6 x16).bind fun r23 =>
    if (!r23) then (
      some false)
    else (
      l_eqAccessS_L1 a_b rest5 (k4 + 1))
def l_eqAccessS (a_a : List Access) (a_b : List Access) : Option (Bool) :=
  if (((a_a.length : Int) : Int) != (a_b.length : Int)) then (
    some false)
  else (
    l_eqAccessS_L1 a_b a_a 0)
theorem l_eqAccessS_ok (a_a : List Access) (v0_0 : Sv) (a_b : List Access) (v1_0 : Sv) (R : Bool) (hF : l_eqAccessS a_a a_b = some R) :
    Fw.Spec Try.prog 20 [v0_0.v, v1_0.v] [crd (RdS 100 rd100) v0_0.v a_a, crd (RdS 100 rd100) v1_0.v a_b] (fun _ : Unit => (.bool R)) (fun _ => []) := by
  refine Spec_enter (n := 27) Try.func20 rfl rfl (rs := [.tmp 4]) rfl rfl rfl ?_
  intro H0 F0
  unfold l_eqAccessS at hF
  refine K_region ?_
  refine C_val (V_assign (v := (.bool false)) (.bool _)) ?_
  refine C_nil ?_
  refine K_in ?_
  refine K_region ?_
  refine C_val (V_move (v := v0_0.v) (.tmp rfl rfl)) ?_
  refine C_at .h (fun hp => V_lenR (l := a_a.length) sl33 (.tmp rfl rfl) (crd_len hp)) ?_
  refine C_val (V_move (v := v1_0.v) (.tmp rfl rfl)) ?_
  refine C_at (.t .h) (fun hp => V_lenR (l := a_b.length) sl33 (.tmp rfl rfl) (crd_len hp)) ?_
  refine C_val (V_neq (i := (a_a.length : Int)) (j := (a_b.length : Int)) (.tmp rfl rfl) (.tmp rfl rfl)) ?_
  refine C_nil ?_
  refine CW_cond (b := (((a_a.length : Int) : Int) != (a_b.length : Int))) (.tmp rfl rfl) (fun hb28 => ?_) (fun hb28 => ?_)
  · rw [if_pos hb28] at hF
    refine K_region ?_
    refine C_val (V_assign (v := (.bool false)) (.bool _)) ?_
    refine C_nil ?_
    refine CW_ret ?_
    obtain rfl := Option.some.inj hF
    exact End_ret () (.tmp rfl rfl .nil) rfl (.sel .nil)
  rw [if_neg (by rw [hb28]; exact Bool.false_ne_true)] at hF
  refine CW_skip ?_
  refine K_in ?_
  refine K_region ?_
  refine C_val (V_assign (v := (.int .i64 0)) (.int _ _)) ?_
  refine C_nil ?_
  refine CW_block ?_
  refine CW_loop (m := a_a.length) (fun m2 f' cs' => ∃ (g : Fr) (k4 : Nat) (rest5 : List Access), m2 = rest5.length ∧ f' = updL g [(0, v0_0.v), (1, v1_0.v), (5, (.int .i64 (k4 : Int)))] ∧ List.drop k4 a_a = rest5 ∧ Ent cs' [crd (RdS 100 rd100) v0_0.v a_a, crd (RdS 100 rd100) v1_0.v a_b] ∧ l_eqAccessS_L1 a_b rest5 k4 = some R) ⟨_, 0, _, rfl, (EqL.cons rfl (EqL.cons rfl (EqL.cons rfl (EqL.nil)))).eq, rfl, (.sel (.rd .h rfl (.rd (.t .h) rfl .nil))), hF⟩ ?_
  clear hF
  rintro m2 _ _ ⟨g3, k4, rest5, rfl, rfl, hd7, hE, hF⟩
  refine K_ent hE ?_
  clear hE
  refine K_pure (c := crd (RdS 100 rd100) v0_0.v a_a) .h crd_bound (fun hbd12 => ?_)
  rcases rest5 with _ | ⟨x6, rest5⟩
  · have hk8 := List.drop_eq_nil_iff.1 hd7
    have hfe11 : (decide (((k4 : Int) : Int) < (a_a.length : Int))) = false := decide_eq_false (by omega)
    rw [l_eqAccessS_L1] at hF
    refine K_in ?_
    refine K_region ?_
    refine C_val (V_move (v := (.int .i64 (k4 : Int))) (.tmp rfl rfl)) ?_
    refine C_val (V_move (v := v0_0.v) (.tmp rfl rfl)) ?_
    refine C_at .h (fun hp => V_lenR (l := a_a.length) sl33 (.tmp rfl rfl) (crd_len hp)) ?_
    refine C_val (V_lss (i := (k4 : Int)) (j := (a_a.length : Int)) (.tmp rfl rfl) (.tmp rfl rfl)) ?_
    refine C_nil ?_
    refine CW_cond (b := (decide (((k4 : Int) : Int) < (a_a.length : Int)))) (.tmp rfl rfl) (fun hb => absurd (hfe11.symm.trans hb) (by decide)) (fun _ => ?_)
    refine CW_exit ?_
    refine CThen_exit ?_
    refine CThen_exit ?_
    refine CIn_self ?_
    refine K_region ?_
    refine C_val (V_assign (v := (.bool true)) (.bool _)) ?_
    refine C_nil ?_
    refine CW_ret ?_
    obtain rfl := Option.some.inj hF
    exact End_ret () (.tmp rfl rfl .nil) rfl (.sel .nil)
  obtain ⟨hk8, hx9, hd10⟩ := drop_cons hd7
  have hfe11 : (decide (((k4 : Int) : Int) < (a_a.length : Int))) = true := decide_eq_true (by omega)
  rw [l_eqAccessS_L1] at hF
  refine K_in ?_
  refine K_region ?_
  refine C_val (V_move (v := (.int .i64 (k4 : Int))) (.tmp rfl rfl)) ?_
  refine C_val (V_move (v := v0_0.v) (.tmp rfl rfl)) ?_
  refine C_at .h (fun hp => V_lenR (l := a_a.length) sl33 (.tmp rfl rfl) (crd_len hp)) ?_
  refine C_val (V_lss (i := (k4 : Int)) (j := (a_a.length : Int)) (.tmp rfl rfl) (.tmp rfl rfl)) ?_
  refine C_nil ?_
  refine CW_cond (b := (decide (((k4 : Int) : Int) < (a_a.length : Int)))) (.tmp rfl rfl) (fun _ => ?_) (fun hb => absurd (hfe11.symm.trans hb) (by decide))
  refine CW_skip ?_
  refine K_block ?_
  refine K_draw [0, 1, 2, 3, 4, 5, 6, 7, 8, 9] [0, 0, 3, 7, 0, 0, 48, 112, 255, 511] [8] mixed (by decide +kernel) ?_
  refine D_val rfl .no (fun ha => V_move (v := v0_0.v) (EN ha (.tmp rfl rfl) rfl)) ?_
  refine D_val rfl .no (fun ha => V_move (v := (.int .i64 (k4 : Int))) (EN ha (.tmp rfl rfl) rfl)) ?_
  refine D_idx (a := x6) sl33 ty100.sz rfl .no (.tmp rfl rfl) (.tmp rfl rfl) rfl rfl .h (Int.natCast_nonneg k4) hx9 (fun k13 j14 => ?_)
  refine D_ldA1 (ul100_0_100 x6) ag100 ty100.sz rfl rfl .no (.tmp rfl rfl) rfl .h la100_0_100 (fun p15 => ?_)
  refine D_val rfl .no (fun ha => V_move (v := v1_0.v) (EN ha (.tmp rfl rfl) rfl)) ?_
  refine D_val rfl .no (fun ha => V_move (v := (.int .i64 (k4 : Int))) (EN ha (.tmp rfl rfl) rfl)) ?_
  obtain ⟨x16, hx17, hF⟩ := bind_some hF
  obtain ⟨hp18, hx19⟩ := ix_some hx17
  refine D_idx (a := x16) sl33 ty100.sz rfl .no (.tmp rfl rfl) (.tmp rfl rfl) rfl rfl (.t (.t (.t .h))) hp18 hx19 (fun k20 j21 => ?_)
  refine D_ldA1 (ul100_0_100 x16) ag100 ty100.sz rfl rfl .no (.tmp rfl rfl) rfl .h la100_0_100 (fun p22 => ?_)
  obtain ⟨r23, hx24, hF⟩ := bind_some hF
  refine D_act0 rfl rfl .no (.rd (.t (.t .h)) rfl (.rd .h rfl .nil)) .nil (fun ha => X_callS cf59 (.cons (EN ha (.tmp rfl rfl) rfl) (.cons (EN ha (.tmp rfl rfl) rfl) .nil)) (l_eqAccess_ok x6 p15 x16 p22 _ hx24)) (fun _ => ?_)
  refine D_val rfl .no (fun ha => V_not (b := r23) (EN ha (.tmp rfl rfl) rfl)) ?_
  refine D_nil ?_
  refine CW_cond (b := (!r23)) (.tmp rfl rfl) (fun hb27 => ?_) (fun hb27 => ?_)
  · rw [if_pos hb27] at hF
    refine K_region ?_
    refine C_val (V_assign (v := (.bool false)) (.bool _)) ?_
    refine C_nil ?_
    refine CW_ret ?_
    obtain rfl := Option.some.inj hF
    exact End_ret () (.tmp rfl rfl .nil) rfl (.sel .nil)
  rw [if_neg (by rw [hb27]; exact Bool.false_ne_true)] at hF
  refine CW_skip ?_
  refine CW_region ?_
  refine C_val (V_move (v := (.int .i64 (k4 : Int))) (.tmp rfl rfl)) ?_
  refine C_val (V_add (i := (k4 : Int)) (j := 1) (.tmp rfl rfl) (.int _ _)) ?_
  refine C_val (V_assign (v := (.int .i64 (IntKind.i64.wrap ((k4 : Int) + 1)))) (.tmp rfl rfl)) ?_
  refine C_nil ?_
  have hw26 : IntKind.i64.wrap ((k4 : Int) + 1) = ((k4 + 1 : Nat) : Int) := by rw [wrap_in (by omega) (by omega)]; rfl
  rw [hw26]
  exact ⟨_, Nat.lt_succ_self _, _, k4 + 1, rest5, rfl, (EqL.cons rfl (EqL.cons rfl (EqL.cons rfl (EqL.nil)))).eq, hd10, (.sel (.rd (.t (.t (.t (.t .h)))) rfl (.rd (.t (.t (.t (.t (.t .h))))) rfl .nil))), hF⟩

/-! laws.FnExactSameView -/
def l_FnExactSameView (a_aL : List Method) (a_aA : List Access) (a_aB : List Access) (a_aRel : Int) : Option (Bool) :=
  (l_szMethodS a_aL 1048576).bind fun r1 =>
  if (decide ((r1 : Int) < 0)) then (
    some true)
  else (
    (l_szAccessS a_aA r1).bind fun r4 =>
    if (decide ((r4 : Int) < 0)) then (
      some true)
    else (
      (l_szAccessS a_aB r4).bind fun r7 =>
      if (decide ((r7 : Int) < 0)) then (
        some true)
      else (
        (l_toMethodS a_aL).bind fun r10 =>
        (l_toAccessS a_aA).bind fun r13 =>
        (l_toAccessS a_aB).bind fun r16 =>
        (s_SameView r10 r13 r16 a_aRel).bind fun r19 =>
        (l_toMethodS a_aL).bind fun r22 =>
        (l_toAccessS a_aA).bind fun r25 =>
        (l_toAccessS a_aB).bind fun r28 =>
        (i_SameView r22 r25 r28 a_aRel).bind fun r31 =>
        if (!(r31 == r19)) then (
          some false)
        else (
          (l_toMethodS a_aL).bind fun r34 =>
          (l_eqMethodS r22 r34).bind fun r37 =>
          if (!r37) then (
            some false)
          else (
            (l_toAccessS a_aA).bind fun r40 =>
            (l_eqAccessS r25 r40).bind fun r43 =>
            if (!r43) then (
              some false)
            else (
              (l_toAccessS a_aB).bind fun r46 =>
              (l_eqAccessS r28 r46).bind fun r49 =>
              if (!r49) then (
                some false)
              else (
                some true)))))))
theorem l_FnExactSameView_ok (a_aL : List Method) (v0_0 : Sv) (a_aA : List Access) (v1_0 : Sv) (a_aB : List Access) (v2_0 : Sv) (a_aRel : Int) (R : Bool) (hF : l_FnExactSameView a_aL a_aA a_aB a_aRel = some R) :
    Fw.Spec Try.prog 5 [v0_0.v, v1_0.v, v2_0.v, (.int .i64 a_aRel)] [crd (RdS 95 rd95) v0_0.v a_aL, crd (RdS 98 rd98) v1_0.v a_aA, crd (RdS 98 rd98) v2_0.v a_aB] (fun _ : Unit => (.bool R)) (fun _ => []) := by
  refine Spec_enter (n := 67) Try.func5 rfl rfl (rs := [.tmp 8]) rfl rfl rfl ?_
  intro H0 F0
  unfold l_FnExactSameView at hF
  refine K_region ?_
  refine C_val (V_assign (v := (.bool false)) (.bool _)) ?_
  refine C_nil ?_
  refine K_region ?_
  refine C_val (V_assign (v := (.int .i64 1048576)) (.int _ _)) ?_
  refine C_nil ?_
  refine K_region ?_
  refine C_val (V_move (v := v0_0.v) (.tmp rfl rfl)) ?_
  refine C_val (V_move (v := (.int .i64 1048576)) (.tmp rfl rfl)) ?_
  obtain ⟨r1, hx2, hF⟩ := bind_some hF
  refine C_x0 (.rd .h rfl .nil) (X_callS cf14 (.cons (.tmp rfl rfl) (.cons (.tmp rfl rfl) .nil)) (l_szMethodS_ok a_aL v0_0 1048576 _ hx2)) (fun _ => ?_)
  refine C_val (V_assign (v := (.int .i64 r1)) (.tmp rfl rfl)) ?_
  refine C_nil ?_
  refine K_in ?_
  refine K_region ?_
  refine C_val (V_move (v := (.int .i64 r1)) (.tmp rfl rfl)) ?_
  refine C_val (V_lss (i := r1) (j := 0) (.tmp rfl rfl) (.int _ _)) ?_
  refine C_nil ?_
  refine CW_cond (b := (decide ((r1 : Int) < 0))) (.tmp rfl rfl) (fun hb58 => ?_) (fun hb58 => ?_)
  · rw [if_pos hb58] at hF
    refine K_region ?_
    refine C_val (V_assign (v := (.bool true)) (.bool _)) ?_
    refine C_nil ?_
    refine CW_ret ?_
    obtain rfl := Option.some.inj hF
    exact End_ret () (.tmp rfl rfl .nil) rfl (.sel .nil)
  rw [if_neg (by rw [hb58]; exact Bool.false_ne_true)] at hF
  refine CW_skip ?_
  refine K_region ?_
  refine C_val (V_move (v := v1_0.v) (.tmp rfl rfl)) ?_
  refine C_val (V_move (v := (.int .i64 r1)) (.tmp rfl rfl)) ?_
  obtain ⟨r4, hx5, hF⟩ := bind_some hF
  refine C_x0 (.rd (.t .h) rfl .nil) (X_callS cf15 (.cons (.tmp rfl rfl) (.cons (.tmp rfl rfl) .nil)) (l_szAccessS_ok a_aA v1_0 r1 _ hx5)) (fun _ => ?_)
  refine C_val (V_assign (v := (.int .i64 r4)) (.tmp rfl rfl)) ?_
  refine C_nil ?_
  refine K_in ?_
  refine K_region ?_
  refine C_val (V_move (v := (.int .i64 r4)) (.tmp rfl rfl)) ?_
  refine C_val (V_lss (i := r4) (j := 0) (.tmp rfl rfl) (.int _ _)) ?_
  refine C_nil ?_
  refine CW_cond (b := (decide ((r4 : Int) < 0))) (.tmp rfl rfl) (fun hb57 => ?_) (fun hb57 => ?_)
  · rw [if_pos hb57] at hF
    refine K_region ?_
    refine C_val (V_assign (v := (.bool true)) (.bool _)) ?_
    refine C_nil ?_
    refine CW_ret ?_
    obtain rfl := Option.some.inj hF
    exact End_ret () (.tmp rfl rfl .nil) rfl (.sel .nil)
  rw [if_neg (by rw [hb57]; exact Bool.false_ne_true)] at hF
  refine CW_skip ?_
  refine K_region ?_
  refine C_val (V_move (v := v2_0.v) (.tmp rfl rfl)) ?_
  refine C_val (V_move (v := (.int .i64 r4)) (.tmp rfl rfl)) ?_
  obtain ⟨r7, hx8, hF⟩ := bind_some hF
  refine C_x0 (.rd (.t (.t .h)) rfl .nil) (X_callS cf15 (.cons (.tmp rfl rfl) (.cons (.tmp rfl rfl) .nil)) (l_szAccessS_ok a_aB v2_0 r4 _ hx8)) (fun _ => ?_)
  refine C_val (V_assign (v := (.int .i64 r7)) (.tmp rfl rfl)) ?_
  refine C_nil ?_
  refine K_in ?_
  refine K_region ?_
  refine C_val (V_move (v := (.int .i64 r7)) (.tmp rfl rfl)) ?_
  refine C_val (V_lss (i := r7) (j := 0) (.tmp rfl rfl) (.int _ _)) ?_
  refine C_nil ?_
  refine CW_cond (b := (decide ((r7 : Int) < 0))) (.tmp rfl rfl) (fun hb56 => ?_) (fun hb56 => ?_)
  · rw [if_pos hb56] at hF
    refine K_region ?_
    refine C_val (V_assign (v := (.bool true)) (.bool _)) ?_
    refine C_nil ?_
    refine CW_ret ?_
    obtain rfl := Option.some.inj hF
    exact End_ret () (.tmp rfl rfl .nil) rfl (.sel .nil)
  rw [if_neg (by rw [hb56]; exact Bool.false_ne_true)] at hF
  refine CW_skip ?_
  refine K_region ?_
  refine C_val (V_move (v := v0_0.v) (.tmp rfl rfl)) ?_
  obtain ⟨r10, hx11, hF⟩ := bind_some hF
  refine C_x1 (.rd .h rfl .nil) (X_callS cf17 (.cons (.tmp rfl rfl) .nil) (l_toMethodS_ok a_aL v0_0 _ hx11)) (fun p12 => ?_)
  refine C_val (V_move (v := v1_0.v) (.tmp rfl rfl)) ?_
  obtain ⟨r13, hx14, hF⟩ := bind_some hF
  refine C_x1 (.rd (.t (.t .h)) rfl .nil) (X_callS cf18 (.cons (.tmp rfl rfl) .nil) (l_toAccessS_ok a_aA v1_0 _ hx14)) (fun p15 => ?_)
  refine C_val (V_move (v := v2_0.v) (.tmp rfl rfl)) ?_
  obtain ⟨r16, hx17, hF⟩ := bind_some hF
  refine C_x1 (.rd (.t (.t (.t (.t .h)))) rfl .nil) (X_callS cf18 (.cons (.tmp rfl rfl) .nil) (l_toAccessS_ok a_aB v2_0 _ hx17)) (fun p18 => ?_)
  refine C_val (V_move (v := (.int .i64 a_aRel)) (.tmp rfl rfl)) ?_
  obtain ⟨r19, hx20, hF⟩ := bind_some hF
  refine C_x3 (.cons .h (.cons .h (.cons .h .nil))) (XC_borL (pre := []) (.cons frz_own (.cons frz_own (.cons frz_own .nil))) (fun _ => .nil) (X_callS cf25 (.cons (.tmp rfl rfl) (.cons (.tmp rfl rfl) (.cons (.tmp rfl rfl) (.cons (.tmp rfl rfl) .nil)))) (s_SameView_ok r10 p12.1 r13 p15.1 r16 p18.1 a_aRel _ hx20))) (fun _ => ?_)
  refine C_val (V_assign (v := (.bool r19)) (.tmp rfl rfl)) ?_
  refine C_nil ?_
  refine K_region ?_
  refine C_val (V_move (v := v0_0.v) (.tmp rfl rfl)) ?_
  obtain ⟨r22, hx23, hF⟩ := bind_some hF
  refine C_x1 (.rd (.t (.t (.t .h))) rfl .nil) (X_callS cf17 (.cons (.tmp rfl rfl) .nil) (l_toMethodS_ok a_aL v0_0 _ hx23)) (fun p24 => ?_)
  refine C_val (V_assign (v := p24.1.v) (.tmp rfl rfl)) ?_
  refine C_nil ?_
  refine K_region ?_
  refine C_val (V_move (v := v1_0.v) (.tmp rfl rfl)) ?_
  obtain ⟨r25, hx26, hF⟩ := bind_some hF
  refine C_x1 (.rd (.t (.t (.t (.t (.t .h))))) rfl .nil) (X_callS cf18 (.cons (.tmp rfl rfl) .nil) (l_toAccessS_ok a_aA v1_0 _ hx26)) (fun p27 => ?_)
  refine C_val (V_assign (v := p27.1.v) (.tmp rfl rfl)) ?_
  refine C_nil ?_
  refine K_region ?_
  refine C_val (V_move (v := v2_0.v) (.tmp rfl rfl)) ?_
  obtain ⟨r28, hx29, hF⟩ := bind_some hF
  refine C_x1 (.rd (.t (.t (.t (.t (.t (.t (.t .h))))))) rfl .nil) (X_callS cf18 (.cons (.tmp rfl rfl) .nil) (l_toAccessS_ok a_aB v2_0 _ hx29)) (fun p30 => ?_)
  refine C_val (V_assign (v := p30.1.v) (.tmp rfl rfl)) ?_
  refine C_nil ?_
  refine K_region ?_
  refine C_val (V_move (v := p24.1.v) (.tmp rfl rfl)) ?_
  refine C_val (V_move (v := p27.1.v) (.tmp rfl rfl)) ?_
  refine C_val (V_move (v := p30.1.v) (.tmp rfl rfl)) ?_
  refine C_val (V_move (v := (.int .i64 a_aRel)) (.tmp rfl rfl)) ?_
  obtain ⟨r31, hx32, hF⟩ := bind_some hF
  refine C_x3 (.cons .h (.cons .h (.cons .h .nil))) (XC_borL (pre := []) (.cons frz_own (.cons frz_own (.cons frz_own .nil))) (fun _ => .nil) (X_callS cf26 (.cons (.tmp rfl rfl) (.cons (.tmp rfl rfl) (.cons (.tmp rfl rfl) (.cons (.tmp rfl rfl) .nil)))) (i_SameView_ok r22 p24.1 r25 p27.1 r28 p30.1 a_aRel _ hx32))) (fun _ => ?_)
  refine C_val (V_assign (v := (.bool r31)) (.tmp rfl rfl)) ?_
  refine C_nil ?_
  refine K_in ?_
  refine K_region ?_
  refine C_val (V_move (v := (.bool r31)) (.tmp rfl rfl)) ?_
  refine C_val (V_move (v := (.bool r19)) (.tmp rfl rfl)) ?_
  refine C_val (V_neB (a := r31) (b := r19) Try.underlying4 (.tmp rfl rfl) (.tmp rfl rfl)) ?_
  refine C_nil ?_
  refine CW_cond (b := (!(r31 == r19))) (.tmp rfl rfl) (fun hb55 => ?_) (fun hb55 => ?_)
  · rw [if_pos hb55] at hF
    refine K_region ?_
    refine C_val (V_assign (v := (.bool false)) (.bool _)) ?_
    refine C_nil ?_
    refine CW_ret ?_
    obtain rfl := Option.some.inj hF
    exact End_ret () (.tmp rfl rfl .nil) rfl (.sel .nil)
  rw [if_neg (by rw [hb55]; exact Bool.false_ne_true)] at hF
  refine CW_skip ?_
  refine K_in ?_
  refine K_region ?_
  refine C_val (V_move (v := p24.1.v) (.tmp rfl rfl)) ?_
  refine C_val (V_move (v := v0_0.v) (.tmp rfl rfl)) ?_
  obtain ⟨r34, hx35, hF⟩ := bind_some hF
  refine C_x1 (.rd (.t (.t (.t (.t (.t (.t .h)))))) rfl .nil) (X_callS cf17 (.cons (.tmp rfl rfl) .nil) (l_toMethodS_ok a_aL v0_0 _ hx35)) (fun p36 => ?_)
  obtain ⟨r37, hx38, hF⟩ := bind_some hF
  refine C_x2 (.cons .h (.cons (.t (.t .h)) .nil)) (XC_borL (pre := []) (.cons frz_own (.cons frz_own .nil)) (fun _ => .nil) (X_callS cf21 (.cons (.tmp rfl rfl) (.cons (.tmp rfl rfl) .nil)) (l_eqMethodS_ok r22 p24.1 r34 p36.1 _ hx38))) (fun _ => ?_)
  refine C_val (V_not (b := r37) (.tmp rfl rfl)) ?_
  refine C_nil ?_
  refine CW_cond (b := (!r37)) (.tmp rfl rfl) (fun hb54 => ?_) (fun hb54 => ?_)
  · rw [if_pos hb54] at hF
    refine K_region ?_
    refine C_val (V_assign (v := (.bool false)) (.bool _)) ?_
    refine C_nil ?_
    refine CW_ret ?_
    obtain rfl := Option.some.inj hF
    exact End_ret () (.tmp rfl rfl .nil) rfl (.sel .nil)
  rw [if_neg (by rw [hb54]; exact Bool.false_ne_true)] at hF
  refine CW_skip ?_
  refine K_in ?_
  refine K_region ?_
  refine C_val (V_move (v := p27.1.v) (.tmp rfl rfl)) ?_
  refine C_val (V_move (v := v1_0.v) (.tmp rfl rfl)) ?_
  obtain ⟨r40, hx41, hF⟩ := bind_some hF
  refine C_x1 (.rd (.t (.t (.t (.t (.t (.t (.t (.t .h)))))))) rfl .nil) (X_callS cf18 (.cons (.tmp rfl rfl) .nil) (l_toAccessS_ok a_aA v1_0 _ hx41)) (fun p42 => ?_)
  obtain ⟨r43, hx44, hF⟩ := bind_some hF
  refine C_x2 (.cons .h (.cons (.t (.t (.t .h))) .nil)) (XC_borL (pre := []) (.cons frz_own (.cons frz_own .nil)) (fun _ => .nil) (X_callS cf20 (.cons (.tmp rfl rfl) (.cons (.tmp rfl rfl) .nil)) (l_eqAccessS_ok r25 p27.1 r40 p42.1 _ hx44))) (fun _ => ?_)
  refine C_val (V_not (b := r43) (.tmp rfl rfl)) ?_
  refine C_nil ?_
  refine CW_cond (b := (!r43)) (.tmp rfl rfl) (fun hb53 => ?_) (fun hb53 => ?_)
  · rw [if_pos hb53] at hF
    refine K_region ?_
    refine C_val (V_assign (v := (.bool false)) (.bool _)) ?_
    refine C_nil ?_
    refine CW_ret ?_
    obtain rfl := Option.some.inj hF
    exact End_ret () (.tmp rfl rfl .nil) rfl (.sel .nil)
  rw [if_neg (by rw [hb53]; exact Bool.false_ne_true)] at hF
  refine CW_skip ?_
  refine K_in ?_
  refine K_region ?_
  refine C_val (V_move (v := p30.1.v) (.tmp rfl rfl)) ?_
  refine C_val (V_move (v := v2_0.v) (.tmp rfl rfl)) ?_
  obtain ⟨r46, hx47, hF⟩ := bind_some hF
  refine C_x1 (.rd (.t (.t (.t (.t (.t (.t (.t (.t (.t (.t .h)))))))))) rfl .nil) (X_callS cf18 (.cons (.tmp rfl rfl) .nil) (l_toAccessS_ok a_aB v2_0 _ hx47)) (fun p48 => ?_)
  obtain ⟨r49, hx50, hF⟩ := bind_some hF
  refine C_x2 (.cons .h (.cons (.t (.t (.t (.t .h)))) .nil)) (XC_borL (pre := []) (.cons frz_own (.cons frz_own .nil)) (fun _ => .nil) (X_callS cf20 (.cons (.tmp rfl rfl) (.cons (.tmp rfl rfl) .nil)) (l_eqAccessS_ok r28 p30.1 r46 p48.1 _ hx50))) (fun _ => ?_)
  refine C_val (V_not (b := r49) (.tmp rfl rfl)) ?_
  refine C_nil ?_
  refine CW_cond (b := (!r49)) (.tmp rfl rfl) (fun hb52 => ?_) (fun hb52 => ?_)
  · rw [if_pos hb52] at hF
    refine K_region ?_
    refine C_val (V_assign (v := (.bool false)) (.bool _)) ?_
    refine C_nil ?_
    refine CW_ret ?_
    obtain rfl := Option.some.inj hF
    exact End_ret () (.tmp rfl rfl .nil) rfl (.sel .nil)
  rw [if_neg (by rw [hb52]; exact Bool.false_ne_true)] at hF
  refine CW_skip ?_
  refine K_region ?_
  refine C_val (V_assign (v := (.bool true)) (.bool _)) ?_
  refine C_nil ?_
  refine CW_ret ?_
  obtain rfl := Option.some.inj hF
  exact End_ret () (.tmp rfl rfl .nil) rfl (.sel .nil)

end Go.Proofs.Ytabpeldbccicaaa
