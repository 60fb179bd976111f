/-
  Functions of the program as Lean functions, and that the calls return what these say: part 1. No conditions.
-/
import Derived.Test.YtabpeldbccicaaaFc
import Derived.Test.YtabpeldbccicaaaProg
import Derived.KernelRfl
set_option maxRecDepth 100000
set_option linter.unusedVariables false
namespace Go.Proofs.Ytabpeldbccicaaa
open Go Go.Fw

instance : LaidP Try.prog := ⟨fun _ => True⟩

structure Method where
  Rel : Int
  Inputs : List Int
  Limit : Int
  Cost : Int
  Quota : Int
structure Rule where
  From : Int
  To : Int
  Map : List Int
structure Fact where
  Rel : Int
  Values : List Int
structure Source where
  Facts : List Fact
  Version : Int
structure Access where
  Method : Int
  Values : List Int
structure Stored where
  Access : Access
  Facts : List Fact
  At : Int
structure Cache where
  Entries : List Stored
  Age : Int
structure Mediator where
  Schema : List Int
  Methods : List Method
  Rules : List Rule
  Source : Source
  Cache : Cache
  Now : Int
  Log : List Access
  Times : List Int
  Spent : Int
  Results : List (List (List Int))
theorem ty73 : TY Try.prog 73 12 224 (.agg [(.slice none 0 0), (.slice none 0 0), (.slice none 0 0), (.slice none 0 0), (.int .i64 0), (.slice none 0 0), (.int .i64 0), (.int .i64 0), (.slice none 0 0), (.slice none 0 0), (.int .i64 0), (.slice none 0 0)].toArray) := by unfold TY; kernel_rfl
theorem ag73 : AG Try.prog 73 true := by unfold AG; kernel_rfl
theorem cf38 : CF Try.prog 38 := fun _ _ => Try.call38 _ _
theorem fd73_0 : FD Try.prog 73 0 0 := by unfold FD; kernel_rfl
theorem ag45 : AG Try.prog 45 false := by unfold AG; kernel_rfl
theorem cf82 : CF Try.prog 82 := fun _ _ => Try.call82 _ _
theorem sl45 : SL Try.prog 45 3 := by unfold SL; kernel_rfl
theorem fd73_1 : FD Try.prog 73 1 1 := by unfold FD; kernel_rfl
theorem ag29 : AG Try.prog 29 false := by unfold AG; kernel_rfl
theorem cf14 : CF Try.prog 14 := fun _ _ => Try.call14 _ _
theorem sl29 : SL Try.prog 29 95 := by unfold SL; kernel_rfl
def rd95 (H : AHeap) (v : Value) (a : Method) : Prop := ∃ v0 : Sv, v = .agg [(.int .i64 a.Rel), v0.v, (.int .i64 a.Limit), (.int .i64 a.Cost), (.int .i64 a.Quota)].toArray ∧ (RdS 3 rdInt) H v0.v a.Inputs
instance : Mono rd95 := ⟨fun h hi => by
  obtain ⟨v0, h, h0⟩ := h
  exact ⟨v0, h, Mono.up h0 hi⟩⟩
instance : Cells rd95 5 := ⟨fun h => by
  obtain ⟨v0, rfl, h0⟩ := h
  exact ⟨rfl, rfl⟩⟩
theorem ty95 : TY Try.prog 95 5 56 (.agg [(.int .i64 0), (.slice none 0 0), (.int .i64 0), (.int .i64 0), (.int .i64 0)].toArray) := by unfold TY; kernel_rfl
def ul95_0_95 (a : Method) (p : Sv) : List Value := [(.int .i64 a.Rel), p.v, (.int .i64 a.Limit), (.int .i64 a.Cost), (.int .i64 a.Quota)]
theorem la95_0_95 {a : Method} : ∀ H e, rd95 H e a → ∃ i : Sv, 0 + 5 ≤ e.cells.size ∧ (e.cells.toList.drop 0).take 5 = ul95_0_95 a i ∧ ∀ c ∈ ([crd (RdS 3 rdInt) i.v a.Inputs] : List Comp), c.P H ∧ c.F = [] := by
  intro H e h
  obtain ⟨v0, rfl, h0⟩ := h
  refine ⟨v0, Nat.le_of_ble_eq_true rfl, rfl, fun c hc => by
    simp only [List.mem_cons, List.not_mem_nil, or_false] at hc
    rcases hc with rfl
    · exact ⟨h0, rfl⟩
⟩
theorem ag95 : AG Try.prog 95 true := by unfold AG; kernel_rfl
theorem cf49 : CF Try.prog 49 := fun _ _ => Try.call49 _ _
theorem fd95_1 : FD Try.prog 95 1 1 := by unfold FD; kernel_rfl
theorem fd73_2 : FD Try.prog 73 2 2 := by unfold FD; kernel_rfl
theorem ag65 : AG Try.prog 65 false := by unfold AG; kernel_rfl
theorem cf83 : CF Try.prog 83 := fun _ _ => Try.call83 _ _
theorem sl65 : SL Try.prog 65 152 := by unfold SL; kernel_rfl
def rd152 (H : AHeap) (v : Value) (a : Rule) : Prop := ∃ v0 : Sv, v = .agg [(.int .i64 a.From), (.int .i64 a.To), v0.v].toArray ∧ (RdS 3 rdInt) H v0.v a.Map
instance : Mono rd152 := ⟨fun h hi => by
  obtain ⟨v0, h, h0⟩ := h
  exact ⟨v0, h, Mono.up h0 hi⟩⟩
instance : Cells rd152 3 := ⟨fun h => by
  obtain ⟨v0, rfl, h0⟩ := h
  exact ⟨rfl, rfl⟩⟩
theorem ty152 : TY Try.prog 152 3 40 (.agg [(.int .i64 0), (.int .i64 0), (.slice none 0 0)].toArray) := by unfold TY; kernel_rfl
def ul152_0_152 (a : Rule) (p : Sv) : List Value := [(.int .i64 a.From), (.int .i64 a.To), p.v]
theorem la152_0_152 {a : Rule} : ∀ H e, rd152 H e a → ∃ i : Sv, 0 + 3 ≤ e.cells.size ∧ (e.cells.toList.drop 0).take 3 = ul152_0_152 a i ∧ ∀ c ∈ ([crd (RdS 3 rdInt) i.v a.Map] : List Comp), c.P H ∧ c.F = [] := by
  intro H e h
  obtain ⟨v0, rfl, h0⟩ := h
  refine ⟨v0, Nat.le_of_ble_eq_true rfl, rfl, fun c hc => by
    simp only [List.mem_cons, List.not_mem_nil, or_false] at hc
    rcases hc with rfl
    · exact ⟨h0, rfl⟩
⟩
theorem ag152 : AG Try.prog 152 true := by unfold AG; kernel_rfl
theorem cf128 : CF Try.prog 128 := fun _ _ => Try.call128 _ _
theorem fd152_2 : FD Try.prog 152 2 2 := by unfold FD; kernel_rfl
theorem fd73_3 : FD Try.prog 73 3 3 := by unfold FD; kernel_rfl
theorem ag68 : AG Try.prog 68 true := by unfold AG; kernel_rfl
theorem ty68 : TY Try.prog 68 2 32 (.agg [(.slice none 0 0), (.int .i64 0)].toArray) := by unfold TY; kernel_rfl
theorem cf84 : CF Try.prog 84 := fun _ _ => Try.call84 _ _
theorem fd68_0 : FD Try.prog 68 0 0 := by unfold FD; kernel_rfl
theorem ag66 : AG Try.prog 66 false := by unfold AG; kernel_rfl
theorem cf129 : CF Try.prog 129 := fun _ _ => Try.call129 _ _
theorem sl66 : SL Try.prog 66 188 := by unfold SL; kernel_rfl
def rd188 (H : AHeap) (v : Value) (a : Fact) : Prop := ∃ v0 : Sv, v = .agg [(.int .i64 a.Rel), v0.v].toArray ∧ (RdS 3 rdInt) H v0.v a.Values
instance : Mono rd188 := ⟨fun h hi => by
  obtain ⟨v0, h, h0⟩ := h
  exact ⟨v0, h, Mono.up h0 hi⟩⟩
instance : Cells rd188 2 := ⟨fun h => by
  obtain ⟨v0, rfl, h0⟩ := h
  exact ⟨rfl, rfl⟩⟩
theorem ty188 : TY Try.prog 188 2 32 (.agg [(.int .i64 0), (.slice none 0 0)].toArray) := by unfold TY; kernel_rfl
def ul188_0_188 (a : Fact) (p : Sv) : List Value := [(.int .i64 a.Rel), p.v]
theorem la188_0_188 {a : Fact} : ∀ H e, rd188 H e a → ∃ i : Sv, 0 + 2 ≤ e.cells.size ∧ (e.cells.toList.drop 0).take 2 = ul188_0_188 a i ∧ ∀ c ∈ ([crd (RdS 3 rdInt) i.v a.Values] : List Comp), c.P H ∧ c.F = [] := by
  intro H e h
  obtain ⟨v0, rfl, h0⟩ := h
  refine ⟨v0, Nat.le_of_ble_eq_true rfl, rfl, fun c hc => by
    simp only [List.mem_cons, List.not_mem_nil, or_false] at hc
    rcases hc with rfl
    · exact ⟨h0, rfl⟩
⟩
theorem ag188 : AG Try.prog 188 true := by unfold AG; kernel_rfl
theorem cf159 : CF Try.prog 159 := fun _ _ => Try.call159 _ _
theorem fd188_1 : FD Try.prog 188 1 1 := by unfold FD; kernel_rfl
theorem fd73_4 : FD Try.prog 73 4 5 := by unfold FD; kernel_rfl
theorem ag71 : AG Try.prog 71 true := by unfold AG; kernel_rfl
theorem ty71 : TY Try.prog 71 2 32 (.agg [(.slice none 0 0), (.int .i64 0)].toArray) := by unfold TY; kernel_rfl
theorem cf85 : CF Try.prog 85 := fun _ _ => Try.call85 _ _
theorem fd71_0 : FD Try.prog 71 0 0 := by unfold FD; kernel_rfl
theorem ag69 : AG Try.prog 69 false := by unfold AG; kernel_rfl
theorem cf130 : CF Try.prog 130 := fun _ _ => Try.call130 _ _
theorem sl69 : SL Try.prog 69 191 := by unfold SL; kernel_rfl
def rd191 (H : AHeap) (v : Value) (a : Stored) : Prop := ∃ v0 v1 : Sv, v = .agg [(.int .i64 a.Access.Method), v0.v, v1.v, (.int .i64 a.At)].toArray ∧ (RdS 3 rdInt) H v0.v a.Access.Values ∧ (RdS 188 rd188) H v1.v a.Facts
instance : Mono rd191 := ⟨fun h hi => by
  obtain ⟨v0, v1, h, h0, h1⟩ := h
  exact ⟨v0, v1, h, Mono.up h0 hi, Mono.up h1 hi⟩⟩
instance : Cells rd191 4 := ⟨fun h => by
  obtain ⟨v0, v1, rfl, h0, h1⟩ := h
  exact ⟨rfl, rfl⟩⟩
theorem ty191 : TY Try.prog 191 4 64 (.agg [(.int .i64 0), (.slice none 0 0), (.slice none 0 0), (.int .i64 0)].toArray) := by unfold TY; kernel_rfl
def ul191_0_191 (a : Stored) (p : Sv × Sv) : List Value := [(.int .i64 a.Access.Method), p.1.v, p.2.v, (.int .i64 a.At)]
theorem la191_0_191 {a : Stored} : ∀ H e, rd191 H e a → ∃ i : Sv × Sv, 0 + 4 ≤ e.cells.size ∧ (e.cells.toList.drop 0).take 4 = ul191_0_191 a i ∧ ∀ c ∈ ([crd (RdS 3 rdInt) i.1.v a.Access.Values, crd (RdS 188 rd188) i.2.v a.Facts] : List Comp), c.P H ∧ c.F = [] := by
  intro H e h
  obtain ⟨v0, v1, rfl, h0, h1⟩ := h
  refine ⟨(v0, v1), Nat.le_of_ble_eq_true rfl, rfl, fun c hc => by
    simp only [List.mem_cons, List.not_mem_nil, or_false] at hc
    rcases hc with rfl | rfl
    · exact ⟨h0, rfl⟩
    · exact ⟨h1, rfl⟩
⟩
theorem ag191 : AG Try.prog 191 true := by unfold AG; kernel_rfl
theorem cf160 : CF Try.prog 160 := fun _ _ => Try.call160 _ _
theorem fd191_0 : FD Try.prog 191 0 0 := by unfold FD; kernel_rfl
theorem ag98 : AG Try.prog 98 true := by unfold AG; kernel_rfl
theorem ty98 : TY Try.prog 98 2 32 (.agg [(.int .i64 0), (.slice none 0 0)].toArray) := by unfold TY; kernel_rfl
theorem cf50 : CF Try.prog 50 := fun _ _ => Try.call50 _ _
theorem fd98_1 : FD Try.prog 98 1 1 := by unfold FD; kernel_rfl
theorem fd191_1 : FD Try.prog 191 1 2 := by unfold FD; kernel_rfl
theorem fd73_6 : FD Try.prog 73 6 8 := by unfold FD; kernel_rfl
theorem ag30 : AG Try.prog 30 false := by unfold AG; kernel_rfl
theorem cf15 : CF Try.prog 15 := fun _ _ => Try.call15 _ _
theorem sl30 : SL Try.prog 30 98 := by unfold SL; kernel_rfl
def rd98 (H : AHeap) (v : Value) (a : Access) : Prop := ∃ v0 : Sv, v = .agg [(.int .i64 a.Method), v0.v].toArray ∧ (RdS 3 rdInt) H v0.v a.Values
instance : Mono rd98 := ⟨fun h hi => by
  obtain ⟨v0, h, h0⟩ := h
  exact ⟨v0, h, Mono.up h0 hi⟩⟩
instance : Cells rd98 2 := ⟨fun h => by
  obtain ⟨v0, rfl, h0⟩ := h
  exact ⟨rfl, rfl⟩⟩
def ul98_0_98 (a : Access) (p : Sv) : List Value := [(.int .i64 a.Method), p.v]
theorem la98_0_98 {a : Access} : ∀ H e, rd98 H e a → ∃ i : Sv, 0 + 2 ≤ e.cells.size ∧ (e.cells.toList.drop 0).take 2 = ul98_0_98 a i ∧ ∀ c ∈ ([crd (RdS 3 rdInt) i.v a.Values] : List Comp), c.P H ∧ c.F = [] := by
  intro H e h
  obtain ⟨v0, rfl, h0⟩ := h
  refine ⟨v0, Nat.le_of_ble_eq_true rfl, rfl, fun c hc => by
    simp only [List.mem_cons, List.not_mem_nil, or_false] at hc
    rcases hc with rfl
    · exact ⟨h0, rfl⟩
⟩
theorem fd73_7 : FD Try.prog 73 7 9 := by unfold FD; kernel_rfl
theorem fd73_9 : FD Try.prog 73 9 11 := by unfold FD; kernel_rfl
theorem ag53 : AG Try.prog 53 false := by unfold AG; kernel_rfl
theorem cf86 : CF Try.prog 86 := fun _ _ => Try.call86 _ _
theorem sl53 : SL Try.prog 53 128 := by unfold SL; kernel_rfl
theorem ty128 : TY Try.prog 128 1 24 (.slice none 0 0) := by unfold TY; kernel_rfl
theorem lv128_0 {a : List (List Int)} : ∀ H e, (RdS 45 (RdS 3 rdInt)) H e a → ∃ w : Sv, e.cells.toList[0]? = some w.v ∧ (RdS 45 (RdS 3 rdInt)) H w.v a := by
  intro H e h
  obtain ⟨a0, m, rfl⟩ := RdS.len h
  exact ⟨⟨a0, _, m⟩, rfl, h⟩
theorem ag128 : AG Try.prog 128 false := by unfold AG; kernel_rfl
theorem cf131 : CF Try.prog 131 := fun _ _ => Try.call131 _ _
theorem sl128 : SL Try.prog 128 45 := by unfold SL; kernel_rfl
theorem ty45 : TY Try.prog 45 1 24 (.slice none 0 0) := by unfold TY; kernel_rfl
theorem lv45_0 {a : List Int} : ∀ H e, (RdS 3 rdInt) H e a → ∃ w : Sv, e.cells.toList[0]? = some w.v ∧ (RdS 3 rdInt) H w.v a := by
  intro H e h
  obtain ⟨a0, m, rfl⟩ := RdS.len h
  exact ⟨⟨a0, _, m⟩, rfl, h⟩
theorem mixed : Try.prog.follows .mixedOrders = true := by kernel_rfl
theorem cf40 : CF Try.prog 40 := fun _ _ => Try.call40 _ _
theorem ty55 : TY Try.prog 55 12 224 (.agg [(.slice none 0 0), (.slice none 0 0), (.slice none 0 0), (.slice none 0 0), (.int .i64 0), (.slice none 0 0), (.int .i64 0), (.int .i64 0), (.slice none 0 0), (.slice none 0 0), (.int .i64 0), (.slice none 0 0)].toArray) := by unfold TY; kernel_rfl
theorem cf28 : CF Try.prog 28 := fun _ _ => Try.call28 _ _
theorem ty3 : TY Try.prog 3 1 8 (.int .i64 0) := by unfold TY; kernel_rfl
theorem ls3_0 {a : Int} : ∀ H e, rdInt H e a → e.cells.toList[0]? = some (.int .i64 a) := by
  intro H e h
  subst h
  rfl
theorem ag3 : AG Try.prog 3 false := by unfold AG; kernel_rfl
theorem fd55_0 : FD Try.prog 55 0 0 := by unfold FD; kernel_rfl
theorem cf17 : CF Try.prog 17 := fun _ _ => Try.call17 _ _
theorem sl35 : SL Try.prog 35 101 := by unfold SL; kernel_rfl
theorem ty101 : TY Try.prog 101 5 56 (.agg [(.int .i64 0), (.slice none 0 0), (.int .i64 0), (.int .i64 0), (.int .i64 0)].toArray) := by unfold TY; kernel_rfl
def rd101 (H : AHeap) (v : Value) (a : Method) : Prop := ∃ v0 : Sv, v = .agg [(.int .i64 a.Rel), v0.v, (.int .i64 a.Limit), (.int .i64 a.Cost), (.int .i64 a.Quota)].toArray ∧ (RdS 3 rdInt) H v0.v a.Inputs
instance : Mono rd101 := ⟨fun h hi => by
  obtain ⟨v0, h, h0⟩ := h
  exact ⟨v0, h, Mono.up h0 hi⟩⟩
instance : Cells rd101 5 := ⟨fun h => by
  obtain ⟨v0, rfl, h0⟩ := h
  exact ⟨rfl, rfl⟩⟩
def ow101 : ORel Method := fun F H v a => ∃ (v0 : Sv) (F0 : List Nat), v = .agg [(.int .i64 a.Rel), v0.v, (.int .i64 a.Limit), (.int .i64 a.Cost), (.int .i64 a.Quota)].toArray ∧ F0 = F ∧ (OwnS 3 (roE rdInt)) F0 H v0.v a.Inputs
instance : Keep ow101 := ⟨fun h hi hg => by
  obtain ⟨v0, F0, rfl, rfl, h0⟩ := h
  exact ⟨v0, F0, rfl, rfl, Keep.keep h0 hi (fun k hk => hg k (by simp [hk]))⟩⟩
instance : Local ow101 := ⟨fun h hg => by
  obtain ⟨v0, F0, rfl, rfl, h0⟩ := h
  exact ⟨v0, F0, rfl, rfl, Local.keep h0 (fun k hk => hg k (by simp [hk]))⟩⟩
instance : Owns ow101 := ⟨fun h k hk => by
  obtain ⟨v0, F0, rfl, rfl, h0⟩ := h
  exact Owns.owns h0 k hk
⟩
instance : OCells ow101 5 := ⟨fun h => by
  obtain ⟨v0, F0, rfl, rfl, h0⟩ := h
  exact ⟨rfl, rfl⟩⟩
instance : Frz ow101 rd101 := ⟨fun h hg => by
  obtain ⟨v0, F0, rfl, rfl, h0⟩ := h
  exact ⟨v0, rfl, Frz.frz h0 (fun k hk => hg k (by simp [hk]))⟩⟩
theorem cf53 : CF Try.prog 53 := fun _ _ => Try.call53 _ _
theorem fd95_0 : FD Try.prog 95 0 0 := by unfold FD; kernel_rfl
theorem fd101_0 : FD Try.prog 101 0 0 := by unfold FD; kernel_rfl
theorem fd101_1 : FD Try.prog 101 1 1 := by unfold FD; kernel_rfl
theorem fd95_2 : FD Try.prog 95 2 2 := by unfold FD; kernel_rfl
theorem fd101_2 : FD Try.prog 101 2 2 := by unfold FD; kernel_rfl
theorem fd95_3 : FD Try.prog 95 3 3 := by unfold FD; kernel_rfl
theorem fd101_3 : FD Try.prog 101 3 3 := by unfold FD; kernel_rfl
theorem fd95_4 : FD Try.prog 95 4 4 := by unfold FD; kernel_rfl
theorem fd101_4 : FD Try.prog 101 4 4 := by unfold FD; kernel_rfl
theorem ag101 : AG Try.prog 101 true := by unfold AG; kernel_rfl
theorem mk101 {a : Method} {v0 : Sv} {F0 : List Nat} : Mk ow101 F0 (.agg [(.int .i64 a.Rel), v0.v, (.int .i64 a.Limit), (.int .i64 a.Cost), (.int .i64 a.Quota)].toArray) a [cown (OwnS 3 (roE rdInt)) F0 v0.v a.Inputs] :=
  ⟨fun H h => ⟨v0, F0, rfl, rfl, h (cown (OwnS 3 (roE rdInt)) F0 v0.v a.Inputs) (by simp)⟩, by simp [cown]⟩
theorem fd55_1 : FD Try.prog 55 1 1 := by unfold FD; kernel_rfl
theorem ty35 : TY Try.prog 35 1 24 (.slice none 0 0) := by unfold TY; kernel_rfl
theorem cf92 : CF Try.prog 92 := fun _ _ => Try.call92 _ _
theorem sl46 : SL Try.prog 46 126 := by unfold SL; kernel_rfl
theorem ty126 : TY Try.prog 126 3 40 (.agg [(.int .i64 0), (.int .i64 0), (.slice none 0 0)].toArray) := by unfold TY; kernel_rfl
def rd126 (H : AHeap) (v : Value) (a : Rule) : Prop := ∃ v0 : Sv, v = .agg [(.int .i64 a.From), (.int .i64 a.To), v0.v].toArray ∧ (RdS 3 rdInt) H v0.v a.Map
instance : Mono rd126 := ⟨fun h hi => by
  obtain ⟨v0, h, h0⟩ := h
  exact ⟨v0, h, Mono.up h0 hi⟩⟩
instance : Cells rd126 3 := ⟨fun h => by
  obtain ⟨v0, rfl, h0⟩ := h
  exact ⟨rfl, rfl⟩⟩
def ow126 : ORel Rule := fun F H v a => ∃ (v0 : Sv) (F0 : List Nat), v = .agg [(.int .i64 a.From), (.int .i64 a.To), v0.v].toArray ∧ F0 = F ∧ (OwnS 3 (roE rdInt)) F0 H v0.v a.Map
instance : Keep ow126 := ⟨fun h hi hg => by
  obtain ⟨v0, F0, rfl, rfl, h0⟩ := h
  exact ⟨v0, F0, rfl, rfl, Keep.keep h0 hi (fun k hk => hg k (by simp [hk]))⟩⟩
instance : Local ow126 := ⟨fun h hg => by
  obtain ⟨v0, F0, rfl, rfl, h0⟩ := h
  exact ⟨v0, F0, rfl, rfl, Local.keep h0 (fun k hk => hg k (by simp [hk]))⟩⟩
instance : Owns ow126 := ⟨fun h k hk => by
  obtain ⟨v0, F0, rfl, rfl, h0⟩ := h
  exact Owns.owns h0 k hk
⟩
instance : OCells ow126 3 := ⟨fun h => by
  obtain ⟨v0, F0, rfl, rfl, h0⟩ := h
  exact ⟨rfl, rfl⟩⟩
instance : Frz ow126 rd126 := ⟨fun h hg => by
  obtain ⟨v0, F0, rfl, rfl, h0⟩ := h
  exact ⟨v0, rfl, Frz.frz h0 (fun k hk => hg k (by simp [hk]))⟩⟩
theorem cf133 : CF Try.prog 133 := fun _ _ => Try.call133 _ _
theorem fd152_0 : FD Try.prog 152 0 0 := by unfold FD; kernel_rfl
theorem fd126_0 : FD Try.prog 126 0 0 := by unfold FD; kernel_rfl
theorem fd152_1 : FD Try.prog 152 1 1 := by unfold FD; kernel_rfl
theorem fd126_1 : FD Try.prog 126 1 1 := by unfold FD; kernel_rfl
theorem fd126_2 : FD Try.prog 126 2 2 := by unfold FD; kernel_rfl
theorem ag126 : AG Try.prog 126 true := by unfold AG; kernel_rfl
theorem mk126 {a : Rule} {v0 : Sv} {F0 : List Nat} : Mk ow126 F0 (.agg [(.int .i64 a.From), (.int .i64 a.To), v0.v].toArray) a [cown (OwnS 3 (roE rdInt)) F0 v0.v a.Map] :=
  ⟨fun H h => ⟨v0, F0, rfl, rfl, h (cown (OwnS 3 (roE rdInt)) F0 v0.v a.Map) (by simp)⟩, by simp [cown]⟩
theorem fd55_2 : FD Try.prog 55 2 2 := by unfold FD; kernel_rfl
theorem ty46 : TY Try.prog 46 1 24 (.slice none 0 0) := by unfold TY; kernel_rfl
theorem cf93 : CF Try.prog 93 := fun _ _ => Try.call93 _ _
theorem ty49 : TY Try.prog 49 2 32 (.agg [(.slice none 0 0), (.int .i64 0)].toArray) := by unfold TY; kernel_rfl
theorem cf134 : CF Try.prog 134 := fun _ _ => Try.call134 _ _
theorem sl47 : SL Try.prog 47 157 := by unfold SL; kernel_rfl
theorem ty157 : TY Try.prog 157 2 32 (.agg [(.int .i64 0), (.slice none 0 0)].toArray) := by unfold TY; kernel_rfl
def rd157 (H : AHeap) (v : Value) (a : Fact) : Prop := ∃ v0 : Sv, v = .agg [(.int .i64 a.Rel), v0.v].toArray ∧ (RdS 3 rdInt) H v0.v a.Values
instance : Mono rd157 := ⟨fun h hi => by
  obtain ⟨v0, h, h0⟩ := h
  exact ⟨v0, h, Mono.up h0 hi⟩⟩
instance : Cells rd157 2 := ⟨fun h => by
  obtain ⟨v0, rfl, h0⟩ := h
  exact ⟨rfl, rfl⟩⟩
def ow157 : ORel Fact := fun F H v a => ∃ (v0 : Sv) (F0 : List Nat), v = .agg [(.int .i64 a.Rel), v0.v].toArray ∧ F0 = F ∧ (OwnS 3 (roE rdInt)) F0 H v0.v a.Values
instance : Keep ow157 := ⟨fun h hi hg => by
  obtain ⟨v0, F0, rfl, rfl, h0⟩ := h
  exact ⟨v0, F0, rfl, rfl, Keep.keep h0 hi (fun k hk => hg k (by simp [hk]))⟩⟩
instance : Local ow157 := ⟨fun h hg => by
  obtain ⟨v0, F0, rfl, rfl, h0⟩ := h
  exact ⟨v0, F0, rfl, rfl, Local.keep h0 (fun k hk => hg k (by simp [hk]))⟩⟩
instance : Owns ow157 := ⟨fun h k hk => by
  obtain ⟨v0, F0, rfl, rfl, h0⟩ := h
  exact Owns.owns h0 k hk
⟩
instance : OCells ow157 2 := ⟨fun h => by
  obtain ⟨v0, F0, rfl, rfl, h0⟩ := h
  exact ⟨rfl, rfl⟩⟩
instance : Frz ow157 rd157 := ⟨fun h hg => by
  obtain ⟨v0, F0, rfl, rfl, h0⟩ := h
  exact ⟨v0, rfl, Frz.frz h0 (fun k hk => hg k (by simp [hk]))⟩⟩
theorem cf161 : CF Try.prog 161 := fun _ _ => Try.call161 _ _
theorem fd188_0 : FD Try.prog 188 0 0 := by unfold FD; kernel_rfl
theorem fd157_0 : FD Try.prog 157 0 0 := by unfold FD; kernel_rfl
theorem fd157_1 : FD Try.prog 157 1 1 := by unfold FD; kernel_rfl
theorem ag157 : AG Try.prog 157 true := by unfold AG; kernel_rfl
theorem mk157 {a : Fact} {v0 : Sv} {F0 : List Nat} : Mk ow157 F0 (.agg [(.int .i64 a.Rel), v0.v].toArray) a [cown (OwnS 3 (roE rdInt)) F0 v0.v a.Values] :=
  ⟨fun H h => ⟨v0, F0, rfl, rfl, h (cown (OwnS 3 (roE rdInt)) F0 v0.v a.Values) (by simp)⟩, by simp [cown]⟩
theorem fd49_0 : FD Try.prog 49 0 0 := by unfold FD; kernel_rfl
theorem ty47 : TY Try.prog 47 1 24 (.slice none 0 0) := by unfold TY; kernel_rfl
theorem fd68_1 : FD Try.prog 68 1 1 := by unfold FD; kernel_rfl
theorem fd49_1 : FD Try.prog 49 1 1 := by unfold FD; kernel_rfl
theorem ag49 : AG Try.prog 49 true := by unfold AG; kernel_rfl
theorem fd55_3 : FD Try.prog 55 3 3 := by unfold FD; kernel_rfl
theorem cf94 : CF Try.prog 94 := fun _ _ => Try.call94 _ _
theorem ty52 : TY Try.prog 52 2 32 (.agg [(.slice none 0 0), (.int .i64 0)].toArray) := by unfold TY; kernel_rfl
theorem cf135 : CF Try.prog 135 := fun _ _ => Try.call135 _ _
theorem sl50 : SL Try.prog 50 159 := by unfold SL; kernel_rfl
theorem ty159 : TY Try.prog 159 4 64 (.agg [(.int .i64 0), (.slice none 0 0), (.slice none 0 0), (.int .i64 0)].toArray) := by unfold TY; kernel_rfl
def rd159 (H : AHeap) (v : Value) (a : Stored) : Prop := ∃ v0 v1 : Sv, v = .agg [(.int .i64 a.Access.Method), v0.v, v1.v, (.int .i64 a.At)].toArray ∧ (RdS 3 rdInt) H v0.v a.Access.Values ∧ (RdS 157 rd157) H v1.v a.Facts
instance : Mono rd159 := ⟨fun h hi => by
  obtain ⟨v0, v1, h, h0, h1⟩ := h
  exact ⟨v0, v1, h, Mono.up h0 hi, Mono.up h1 hi⟩⟩
instance : Cells rd159 4 := ⟨fun h => by
  obtain ⟨v0, v1, rfl, h0, h1⟩ := h
  exact ⟨rfl, rfl⟩⟩
def ow159 : ORel Stored := fun F H v a => ∃ (v0 v1 : Sv) (F0 F1 : List Nat), v = .agg [(.int .i64 a.Access.Method), v0.v, v1.v, (.int .i64 a.At)].toArray ∧ F = (F0 ++ F1) ∧ (OwnS 3 (roE rdInt)) F0 H v0.v a.Access.Values ∧ (OwnS 157 ow157) F1 H v1.v a.Facts
instance : Keep ow159 := ⟨fun h hi hg => by
  obtain ⟨v0, v1, F0, F1, rfl, rfl, h0, h1⟩ := h
  exact ⟨v0, v1, F0, F1, rfl, rfl, Keep.keep h0 hi (fun k hk => hg k (by simp [hk])), Keep.keep h1 hi (fun k hk => hg k (by simp [hk]))⟩⟩
instance : Local ow159 := ⟨fun h hg => by
  obtain ⟨v0, v1, F0, F1, rfl, rfl, h0, h1⟩ := h
  exact ⟨v0, v1, F0, F1, rfl, rfl, Local.keep h0 (fun k hk => hg k (by simp [hk])), Local.keep h1 (fun k hk => hg k (by simp [hk]))⟩⟩
instance : Owns ow159 := ⟨fun h k hk => by
  obtain ⟨v0, v1, F0, F1, rfl, rfl, h0, h1⟩ := h
  simp only [List.mem_append] at hk
  rcases hk with hk | hk
  · exact Owns.owns h0 k hk
  · exact Owns.owns h1 k hk
⟩
instance : OCells ow159 4 := ⟨fun h => by
  obtain ⟨v0, v1, F0, F1, rfl, rfl, h0, h1⟩ := h
  exact ⟨rfl, rfl⟩⟩
instance : Frz ow159 rd159 := ⟨fun h hg => by
  obtain ⟨v0, v1, F0, F1, rfl, rfl, h0, h1⟩ := h
  exact ⟨v0, v1, rfl, Frz.frz h0 (fun k hk => hg k (by simp [hk])), Frz.frz h1 (fun k hk => hg k (by simp [hk]))⟩⟩
theorem cf162 : CF Try.prog 162 := fun _ _ => Try.call162 _ _
theorem cf54 : CF Try.prog 54 := fun _ _ => Try.call54 _ _
theorem ty100 : TY Try.prog 100 2 32 (.agg [(.int .i64 0), (.slice none 0 0)].toArray) := by unfold TY; kernel_rfl
theorem fd98_0 : FD Try.prog 98 0 0 := by unfold FD; kernel_rfl
theorem fd100_0 : FD Try.prog 100 0 0 := by unfold FD; kernel_rfl
theorem fd100_1 : FD Try.prog 100 1 1 := by unfold FD; kernel_rfl
theorem ag100 : AG Try.prog 100 true := by unfold AG; kernel_rfl
theorem fd159_0 : FD Try.prog 159 0 0 := by unfold FD; kernel_rfl
theorem fd159_1 : FD Try.prog 159 1 2 := by unfold FD; kernel_rfl
theorem fd191_2 : FD Try.prog 191 2 3 := by unfold FD; kernel_rfl
theorem fd159_2 : FD Try.prog 159 2 3 := by unfold FD; kernel_rfl
theorem ag159 : AG Try.prog 159 true := by unfold AG; kernel_rfl
theorem mk159 {a : Stored} {v0 v1 : Sv} {F0 F1 : List Nat} : Mk ow159 (F0 ++ F1) (.agg [(.int .i64 a.Access.Method), v0.v, v1.v, (.int .i64 a.At)].toArray) a [cown (OwnS 3 (roE rdInt)) F0 v0.v a.Access.Values, cown (OwnS 157 ow157) F1 v1.v a.Facts] :=
  ⟨fun H h => ⟨v0, v1, F0, F1, rfl, rfl, h (cown (OwnS 3 (roE rdInt)) F0 v0.v a.Access.Values) (by simp), h (cown (OwnS 157 ow157) F1 v1.v a.Facts) (by simp)⟩, by simp [cown]⟩
theorem fd52_0 : FD Try.prog 52 0 0 := by unfold FD; kernel_rfl
theorem ty50 : TY Try.prog 50 1 24 (.slice none 0 0) := by unfold TY; kernel_rfl
theorem fd71_1 : FD Try.prog 71 1 1 := by unfold FD; kernel_rfl
theorem fd52_1 : FD Try.prog 52 1 1 := by unfold FD; kernel_rfl
theorem ag52 : AG Try.prog 52 true := by unfold AG; kernel_rfl
theorem fd55_4 : FD Try.prog 55 4 5 := by unfold FD; kernel_rfl
theorem fd73_5 : FD Try.prog 73 5 7 := by unfold FD; kernel_rfl
theorem fd55_5 : FD Try.prog 55 5 7 := by unfold FD; kernel_rfl
theorem cf18 : CF Try.prog 18 := fun _ _ => Try.call18 _ _
theorem sl33 : SL Try.prog 33 100 := by unfold SL; kernel_rfl
def rd100 (H : AHeap) (v : Value) (a : Access) : Prop := ∃ v0 : Sv, v = .agg [(.int .i64 a.Method), v0.v].toArray ∧ (RdS 3 rdInt) H v0.v a.Values
instance : Mono rd100 := ⟨fun h hi => by
  obtain ⟨v0, h, h0⟩ := h
  exact ⟨v0, h, Mono.up h0 hi⟩⟩
instance : Cells rd100 2 := ⟨fun h => by
  obtain ⟨v0, rfl, h0⟩ := h
  exact ⟨rfl, rfl⟩⟩
def ow100 : ORel Access := fun F H v a => ∃ (v0 : Sv) (F0 : List Nat), v = .agg [(.int .i64 a.Method), v0.v].toArray ∧ F0 = F ∧ (OwnS 3 (roE rdInt)) F0 H v0.v a.Values
instance : Keep ow100 := ⟨fun h hi hg => by
  obtain ⟨v0, F0, rfl, rfl, h0⟩ := h
  exact ⟨v0, F0, rfl, rfl, Keep.keep h0 hi (fun k hk => hg k (by simp [hk]))⟩⟩
instance : Local ow100 := ⟨fun h hg => by
  obtain ⟨v0, F0, rfl, rfl, h0⟩ := h
  exact ⟨v0, F0, rfl, rfl, Local.keep h0 (fun k hk => hg k (by simp [hk]))⟩⟩
instance : Owns ow100 := ⟨fun h k hk => by
  obtain ⟨v0, F0, rfl, rfl, h0⟩ := h
  exact Owns.owns h0 k hk
⟩
instance : OCells ow100 2 := ⟨fun h => by
  obtain ⟨v0, F0, rfl, rfl, h0⟩ := h
  exact ⟨rfl, rfl⟩⟩
instance : Frz ow100 rd100 := ⟨fun h hg => by
  obtain ⟨v0, F0, rfl, rfl, h0⟩ := h
  exact ⟨v0, rfl, Frz.frz h0 (fun k hk => hg k (by simp [hk]))⟩⟩
theorem mk100 {a : Access} {v0 : Sv} {F0 : List Nat} : Mk ow100 F0 (.agg [(.int .i64 a.Method), v0.v].toArray) a [cown (OwnS 3 (roE rdInt)) F0 v0.v a.Values] :=
  ⟨fun H h => ⟨v0, F0, rfl, rfl, h (cown (OwnS 3 (roE rdInt)) F0 v0.v a.Values) (by simp)⟩, by simp [cown]⟩
theorem fd55_6 : FD Try.prog 55 6 8 := by unfold FD; kernel_rfl
theorem ty33 : TY Try.prog 33 1 24 (.slice none 0 0) := by unfold TY; kernel_rfl
theorem fd55_7 : FD Try.prog 55 7 9 := by unfold FD; kernel_rfl
theorem fd73_8 : FD Try.prog 73 8 10 := by unfold FD; kernel_rfl
theorem fd55_8 : FD Try.prog 55 8 10 := by unfold FD; kernel_rfl
theorem cf95 : CF Try.prog 95 := fun _ _ => Try.call95 _ _
theorem cf136 : CF Try.prog 136 := fun _ _ => Try.call136 _ _
theorem fd55_9 : FD Try.prog 55 9 11 := by unfold FD; kernel_rfl
theorem ty53 : TY Try.prog 53 1 24 (.slice none 0 0) := by unfold TY; kernel_rfl
theorem ag55 : AG Try.prog 55 true := by unfold AG; kernel_rfl
theorem cf39 : CF Try.prog 39 := fun _ _ => Try.call39 _ _
theorem cf87 : CF Try.prog 87 := fun _ _ => Try.call87 _ _
theorem ag35 : AG Try.prog 35 false := by unfold AG; kernel_rfl
theorem cf88 : CF Try.prog 88 := fun _ _ => Try.call88 _ _
theorem ls101_0 {a : Method} : ∀ H e, rd101 H e a → e.cells.toList[0]? = some (.int .i64 a.Rel) := by
  intro H e h
  obtain ⟨_, rfl, _⟩ := h
  rfl
theorem lv101_1 {a : Method} : ∀ H e, rd101 H e a → ∃ w : Sv, e.cells.toList[1]? = some w.v ∧ (RdS 3 rdInt) H w.v a.Inputs := by
  intro H e h
  obtain ⟨v0, rfl, h0⟩ := h
  exact ⟨v0, rfl, h0⟩
theorem ls101_2 {a : Method} : ∀ H e, rd101 H e a → e.cells.toList[2]? = some (.int .i64 a.Limit) := by
  intro H e h
  obtain ⟨_, rfl, _⟩ := h
  rfl
theorem ls101_3 {a : Method} : ∀ H e, rd101 H e a → e.cells.toList[3]? = some (.int .i64 a.Cost) := by
  intro H e h
  obtain ⟨_, rfl, _⟩ := h
  rfl
theorem ls101_4 {a : Method} : ∀ H e, rd101 H e a → e.cells.toList[4]? = some (.int .i64 a.Quota) := by
  intro H e h
  obtain ⟨_, rfl, _⟩ := h
  rfl
theorem ag46 : AG Try.prog 46 false := by unfold AG; kernel_rfl
theorem ag47 : AG Try.prog 47 false := by unfold AG; kernel_rfl
theorem cf89 : CF Try.prog 89 := fun _ _ => Try.call89 _ _
def ul157_0_157 (a : Fact) (p : Sv) : List Value := [(.int .i64 a.Rel), p.v]
theorem la157_0_157 {a : Fact} : ∀ H e, rd157 H e a → ∃ i : Sv, 0 + 2 ≤ e.cells.size ∧ (e.cells.toList.drop 0).take 2 = ul157_0_157 a i ∧ ∀ c ∈ ([crd (RdS 3 rdInt) i.v a.Values] : List Comp), c.P H ∧ c.F = [] := by
  intro H e h
  obtain ⟨v0, rfl, h0⟩ := h
  refine ⟨v0, Nat.le_of_ble_eq_true rfl, rfl, fun c hc => by
    simp only [List.mem_cons, List.not_mem_nil, or_false] at hc
    rcases hc with rfl
    · exact ⟨h0, rfl⟩
⟩
theorem cf132 : CF Try.prog 132 := fun _ _ => Try.call132 _ _
theorem cf90 : CF Try.prog 90 := fun _ _ => Try.call90 _ _
theorem ag50 : AG Try.prog 50 false := by unfold AG; kernel_rfl
def ul159_0_159 (a : Stored) (p : Sv × Sv) : List Value := [(.int .i64 a.Access.Method), p.1.v, p.2.v, (.int .i64 a.At)]
theorem la159_0_159 {a : Stored} : ∀ H e, rd159 H e a → ∃ i : Sv × Sv, 0 + 4 ≤ e.cells.size ∧ (e.cells.toList.drop 0).take 4 = ul159_0_159 a i ∧ ∀ c ∈ ([crd (RdS 3 rdInt) i.1.v a.Access.Values, crd (RdS 157 rd157) i.2.v a.Facts] : List Comp), c.P H ∧ c.F = [] := by
  intro H e h
  obtain ⟨v0, v1, rfl, h0, h1⟩ := h
  refine ⟨(v0, v1), Nat.le_of_ble_eq_true rfl, rfl, fun c hc => by
    simp only [List.mem_cons, List.not_mem_nil, or_false] at hc
    rcases hc with rfl | rfl
    · exact ⟨h0, rfl⟩
    · exact ⟨h1, rfl⟩
⟩
theorem cf110 : CF Try.prog 110 := fun _ _ => Try.call110 _ _
theorem ag33 : AG Try.prog 33 false := by unfold AG; kernel_rfl
theorem cf61 : CF Try.prog 61 := fun _ _ => Try.call61 _ _
def ul100_0_100 (a : Access) (p : Sv) : List Value := [(.int .i64 a.Method), p.v]
theorem la100_0_100 {a : Access} : ∀ H e, rd100 H e a → ∃ i : Sv, 0 + 2 ≤ e.cells.size ∧ (e.cells.toList.drop 0).take 2 = ul100_0_100 a i ∧ ∀ c ∈ ([crd (RdS 3 rdInt) i.v a.Values] : List Comp), c.P H ∧ c.F = [] := by
  intro H e h
  obtain ⟨v0, rfl, h0⟩ := h
  refine ⟨v0, Nat.le_of_ble_eq_true rfl, rfl, fun c hc => by
    simp only [List.mem_cons, List.not_mem_nil, or_false] at hc
    rcases hc with rfl
    · exact ⟨h0, rfl⟩
⟩
theorem cf91 : CF Try.prog 91 := fun _ _ => Try.call91 _ _
theorem ls126_0 {a : Rule} : ∀ H e, rd126 H e a → e.cells.toList[0]? = some (.int .i64 a.From) := by
  intro H e h
  obtain ⟨_, rfl, _⟩ := h
  rfl
theorem ls126_1 {a : Rule} : ∀ H e, rd126 H e a → e.cells.toList[1]? = some (.int .i64 a.To) := by
  intro H e h
  obtain ⟨_, rfl, _⟩ := h
  rfl
theorem lv126_2 {a : Rule} : ∀ H e, rd126 H e a → ∃ w : Sv, e.cells.toList[2]? = some w.v ∧ (RdS 3 rdInt) H w.v a.Map := by
  intro H e h
  obtain ⟨v0, rfl, h0⟩ := h
  exact ⟨v0, rfl, h0⟩
theorem cf41 : CF Try.prog 41 := fun _ _ => Try.call41 _ _
theorem cf96 : CF Try.prog 96 := fun _ _ => Try.call96 _ _
theorem cf97 : CF Try.prog 97 := fun _ _ => Try.call97 _ _
def ul101_0_101 (a : Method) (p : Sv) : List Value := [(.int .i64 a.Rel), p.v, (.int .i64 a.Limit), (.int .i64 a.Cost), (.int .i64 a.Quota)]
theorem la101_0_101 {a : Method} : ∀ H e, rd101 H e a → ∃ i : Sv, 0 + 5 ≤ e.cells.size ∧ (e.cells.toList.drop 0).take 5 = ul101_0_101 a i ∧ ∀ c ∈ ([crd (RdS 3 rdInt) i.v a.Inputs] : List Comp), c.P H ∧ c.F = [] := by
  intro H e h
  obtain ⟨v0, rfl, h0⟩ := h
  refine ⟨v0, Nat.le_of_ble_eq_true rfl, rfl, fun c hc => by
    simp only [List.mem_cons, List.not_mem_nil, or_false] at hc
    rcases hc with rfl
    · exact ⟨h0, rfl⟩
⟩
theorem cf98 : CF Try.prog 98 := fun _ _ => Try.call98 _ _
theorem cf99 : CF Try.prog 99 := fun _ _ => Try.call99 _ _
def ul126_0_126 (a : Rule) (p : Sv) : List Value := [(.int .i64 a.From), (.int .i64 a.To), p.v]
theorem la126_0_126 {a : Rule} : ∀ H e, rd126 H e a → ∃ i : Sv, 0 + 3 ≤ e.cells.size ∧ (e.cells.toList.drop 0).take 3 = ul126_0_126 a i ∧ ∀ c ∈ ([crd (RdS 3 rdInt) i.v a.Map] : List Comp), c.P H ∧ c.F = [] := by
  intro H e h
  obtain ⟨v0, rfl, h0⟩ := h
  refine ⟨v0, Nat.le_of_ble_eq_true rfl, rfl, fun c hc => by
    simp only [List.mem_cons, List.not_mem_nil, or_false] at hc
    rcases hc with rfl
    · exact ⟨h0, rfl⟩
⟩
theorem cf100 : CF Try.prog 100 := fun _ _ => Try.call100 _ _
theorem cf101 : CF Try.prog 101 := fun _ _ => Try.call101 _ _
theorem cf137 : CF Try.prog 137 := fun _ _ => Try.call137 _ _
theorem cf138 : CF Try.prog 138 := fun _ _ => Try.call138 _ _
theorem cf139 : CF Try.prog 139 := fun _ _ => Try.call139 _ _
theorem cf164 : CF Try.prog 164 := fun _ _ => Try.call164 _ _
theorem cf171 : CF Try.prog 171 := fun _ _ => Try.call171 _ _
theorem cf165 : CF Try.prog 165 := fun _ _ => Try.call165 _ _
theorem cf163 : CF Try.prog 163 := fun _ _ => Try.call163 _ _
theorem cf102 : CF Try.prog 102 := fun _ _ => Try.call102 _ _
theorem cf140 : CF Try.prog 140 := fun _ _ => Try.call140 _ _
theorem cf141 : CF Try.prog 141 := fun _ _ => Try.call141 _ _
theorem cf112 : CF Try.prog 112 := fun _ _ => Try.call112 _ _
theorem cf62 : CF Try.prog 62 := fun _ _ => Try.call62 _ _
theorem cf111 : CF Try.prog 111 := fun _ _ => Try.call111 _ _
theorem cf103 : CF Try.prog 103 := fun _ _ => Try.call103 _ _
theorem cf104 : CF Try.prog 104 := fun _ _ => Try.call104 _ _
theorem cf142 : CF Try.prog 142 := fun _ _ => Try.call142 _ _
theorem cf30 : CF Try.prog 30 := fun _ _ => Try.call30 _ _
theorem cf31 : CF Try.prog 31 := fun _ _ => Try.call31 _ _
theorem cf21 : CF Try.prog 21 := fun _ _ => Try.call21 _ _
theorem cf60 : CF Try.prog 60 := fun _ _ => Try.call60 _ _
theorem cf66 : CF Try.prog 66 := fun _ _ => Try.call66 _ _
theorem cf115 : CF Try.prog 115 := fun _ _ => Try.call115 _ _
theorem cf67 : CF Try.prog 67 := fun _ _ => Try.call67 _ _
theorem cf116 : CF Try.prog 116 := fun _ _ => Try.call116 _ _
theorem cf146 : CF Try.prog 146 := fun _ _ => Try.call146 _ _
theorem cf68 : CF Try.prog 68 := fun _ _ => Try.call68 _ _
theorem cf117 : CF Try.prog 117 := fun _ _ => Try.call117 _ _
theorem cf147 : CF Try.prog 147 := fun _ _ => Try.call147 _ _
theorem cf59 : CF Try.prog 59 := fun _ _ => Try.call59 _ _
theorem cf20 : CF Try.prog 20 := fun _ _ => Try.call20 _ _
theorem cf69 : CF Try.prog 69 := fun _ _ => Try.call69 _ _
theorem cf118 : CF Try.prog 118 := fun _ _ => Try.call118 _ _
def rd73 (H : AHeap) (v : Value) (a : Mediator) : Prop := ∃ v0 v1 v2 v3 v4 v5 v6 v7 : Sv, v = .agg [v0.v, v1.v, v2.v, v3.v, (.int .i64 a.Source.Version), v4.v, (.int .i64 a.Cache.Age), (.int .i64 a.Now), v5.v, v6.v, (.int .i64 a.Spent), v7.v].toArray ∧ (RdS 3 rdInt) H v0.v a.Schema ∧ (RdS 95 rd95) H v1.v a.Methods ∧ (RdS 152 rd152) H v2.v a.Rules ∧ (RdS 188 rd188) H v3.v a.Source.Facts ∧ (RdS 191 rd191) H v4.v a.Cache.Entries ∧ (RdS 98 rd98) H v5.v a.Log ∧ (RdS 3 rdInt) H v6.v a.Times ∧ (RdS 128 (RdS 45 (RdS 3 rdInt))) H v7.v a.Results
instance : Mono rd73 := ⟨fun h hi => by
  obtain ⟨v0, v1, v2, v3, v4, v5, v6, v7, h, h0, h1, h2, h3, h4, h5, h6, h7⟩ := h
  exact ⟨v0, v1, v2, v3, v4, v5, v6, v7, h, Mono.up h0 hi, Mono.up h1 hi, Mono.up h2 hi, Mono.up h3 hi, Mono.up h4 hi, Mono.up h5 hi, Mono.up h6 hi, Mono.up h7 hi⟩⟩
instance : Cells rd73 12 := ⟨fun h => by
  obtain ⟨v0, v1, v2, v3, v4, v5, v6, v7, rfl, h0, h1, h2, h3, h4, h5, h6, h7⟩ := h
  exact ⟨rfl, rfl⟩⟩
theorem fa95_0 : fieldAt Try.prog 95 0 = some (3, 0, 1) := by kernel_rfl
theorem fa95_1 : fieldAt Try.prog 95 1 = some (45, 1, 1) := by kernel_rfl
theorem fa95_2 : fieldAt Try.prog 95 2 = some (3, 2, 1) := by kernel_rfl
theorem fa95_3 : fieldAt Try.prog 95 3 = some (3, 3, 1) := by kernel_rfl
theorem fa95_4 : fieldAt Try.prog 95 4 = some (3, 4, 1) := by kernel_rfl
def wf95 (a : Method) : Prop := wfInt a.Rel ∧ (wfSl wfInt) a.Inputs ∧ wfInt a.Limit ∧ wfInt a.Cost ∧ wfInt a.Quota
theorem sh95 : ∀ H v a, rd95 H v a → isAgV v = aggT Try.prog 95 := by
  intro H v a h
  obtain ⟨v1, rfl, _⟩ := h
  kernel_rfl
theorem op95 : Opn Try.prog 95 rd95 wf95 := by
  intro T enc w fuel cs x h hw ρ H hr hF
  have hl := opn_len fa95_0 h (n := 5) ty95.sz.cells
  obtain ⟨ρ0, H0, av0, a0, r0, f0, u0, i0, v0, q0, w0⟩ := opn_field fa95_0 h hw (Opn.int (by kernel_rfl)) hr hF
  obtain ⟨ρ1, H1, av1, a1, r1, f1, u1, i1, v1, q1, w1⟩ := opn_field fa95_1 h hw (Opn.slice (s := 1) (by kernel_rfl) (by kernel_rfl) (by decide) (Nat.lt_of_lt_of_le (by decide) (Nat.le_of_eq (show 8 = _ from by kernel_rfl))) (Opn.int (by kernel_rfl))) r0 f0
  obtain ⟨ρ2, H2, av2, a2, r2, f2, u2, i2, v2, q2, w2⟩ := opn_field fa95_2 h hw (Opn.int (by kernel_rfl)) r1 f1
  obtain ⟨ρ3, H3, av3, a3, r3, f3, u3, i3, v3, q3, w3⟩ := opn_field fa95_3 h hw (Opn.int (by kernel_rfl)) r2 f2
  obtain ⟨ρ4, H4, av4, a4, r4, f4, u4, i4, v4, q4, w4⟩ := opn_field fa95_4 h hw (Opn.int (by kernel_rfl)) r3 f3
  obtain rfl : av0 = (.int .i64 a0) := q0
  replace v0 := v0.up (((u1.trans u2).trans u3).trans u4)
  obtain ⟨sa1, sm1, rfl⟩ := RdS.len q1
  replace v1 := v1.one rfl
  replace v1 := v1.up ((u2.trans u3).trans u4)
  obtain rfl : av2 = (.int .i64 a2) := q2
  replace v2 := v2.up (u3.trans u4)
  obtain rfl : av3 = (.int .i64 a3) := q3
  replace v3 := v3.up u4
  obtain rfl : av4 = (.int .i64 a4) := q4
  have hv := RelVs.field (o := 0) v0 (RelVs.field (o := 1) v1 (RelVs.field (o := 2) v2 (RelVs.field (o := 3) v3 (RelVs.field (o := 4) v4 (RelVs.end hl)))))
  rw [List.drop_zero] at hv
  refine ⟨ρ4, H4, (.agg [(.int .i64 a0), (.slice sa1 a1.length sm1), (.int .i64 a2), (.int .i64 a3), (.int .i64 a4)].toArray : Value), ({ Rel := a0, Inputs := a1, Limit := a2, Cost := a3, Quota := a4 } : Method), r4, f4, ((((u0.trans u1).trans u2).trans u3).trans u4), ((((i0.trans i1).trans i2).trans i3).trans i4), ?_, ?_, w0, w1, w2, w3, w4⟩
  · exact hv
  · exact ⟨⟨sa1, _, sm1⟩, rfl, (Mono.up q1 ((i2.trans i3).trans i4))⟩
theorem fa152_0 : fieldAt Try.prog 152 0 = some (3, 0, 1) := by kernel_rfl
theorem fa152_1 : fieldAt Try.prog 152 1 = some (3, 1, 1) := by kernel_rfl
theorem fa152_2 : fieldAt Try.prog 152 2 = some (45, 2, 1) := by kernel_rfl
def wf152 (a : Rule) : Prop := wfInt a.From ∧ wfInt a.To ∧ (wfSl wfInt) a.Map
theorem sh152 : ∀ H v a, rd152 H v a → isAgV v = aggT Try.prog 152 := by
  intro H v a h
  obtain ⟨v2, rfl, _⟩ := h
  kernel_rfl
theorem op152 : Opn Try.prog 152 rd152 wf152 := by
  intro T enc w fuel cs x h hw ρ H hr hF
  have hl := opn_len fa152_0 h (n := 3) ty152.sz.cells
  obtain ⟨ρ0, H0, av0, a0, r0, f0, u0, i0, v0, q0, w0⟩ := opn_field fa152_0 h hw (Opn.int (by kernel_rfl)) hr hF
  obtain ⟨ρ1, H1, av1, a1, r1, f1, u1, i1, v1, q1, w1⟩ := opn_field fa152_1 h hw (Opn.int (by kernel_rfl)) r0 f0
  obtain ⟨ρ2, H2, av2, a2, r2, f2, u2, i2, v2, q2, w2⟩ := opn_field fa152_2 h hw (Opn.slice (s := 1) (by kernel_rfl) (by kernel_rfl) (by decide) (Nat.lt_of_lt_of_le (by decide) (Nat.le_of_eq (show 8 = _ from by kernel_rfl))) (Opn.int (by kernel_rfl))) r1 f1
  obtain rfl : av0 = (.int .i64 a0) := q0
  replace v0 := v0.up (u1.trans u2)
  obtain rfl : av1 = (.int .i64 a1) := q1
  replace v1 := v1.up u2
  obtain ⟨sa2, sm2, rfl⟩ := RdS.len q2
  replace v2 := v2.one rfl
  have hv := RelVs.field (o := 0) v0 (RelVs.field (o := 1) v1 (RelVs.field (o := 2) v2 (RelVs.end hl)))
  rw [List.drop_zero] at hv
  refine ⟨ρ2, H2, (.agg [(.int .i64 a0), (.int .i64 a1), (.slice sa2 a2.length sm2)].toArray : Value), ({ From := a0, To := a1, Map := a2 } : Rule), r2, f2, ((u0.trans u1).trans u2), ((i0.trans i1).trans i2), ?_, ?_, w0, w1, w2⟩
  · exact hv
  · exact ⟨⟨sa2, _, sm2⟩, rfl, q2⟩
def rd68 (H : AHeap) (v : Value) (a : Source) : Prop := ∃ v0 : Sv, v = .agg [v0.v, (.int .i64 a.Version)].toArray ∧ (RdS 188 rd188) H v0.v a.Facts
instance : Mono rd68 := ⟨fun h hi => by
  obtain ⟨v0, h, h0⟩ := h
  exact ⟨v0, h, Mono.up h0 hi⟩⟩
instance : Cells rd68 2 := ⟨fun h => by
  obtain ⟨v0, rfl, h0⟩ := h
  exact ⟨rfl, rfl⟩⟩
theorem fa188_0 : fieldAt Try.prog 188 0 = some (3, 0, 1) := by kernel_rfl
theorem fa188_1 : fieldAt Try.prog 188 1 = some (45, 1, 1) := by kernel_rfl
def wf188 (a : Fact) : Prop := wfInt a.Rel ∧ (wfSl wfInt) a.Values
theorem sh188 : ∀ H v a, rd188 H v a → isAgV v = aggT Try.prog 188 := by
  intro H v a h
  obtain ⟨v1, rfl, _⟩ := h
  kernel_rfl
theorem op188 : Opn Try.prog 188 rd188 wf188 := by
  intro T enc w fuel cs x h hw ρ H hr hF
  have hl := opn_len fa188_0 h (n := 2) ty188.sz.cells
  obtain ⟨ρ0, H0, av0, a0, r0, f0, u0, i0, v0, q0, w0⟩ := opn_field fa188_0 h hw (Opn.int (by kernel_rfl)) hr hF
  obtain ⟨ρ1, H1, av1, a1, r1, f1, u1, i1, v1, q1, w1⟩ := opn_field fa188_1 h hw (Opn.slice (s := 1) (by kernel_rfl) (by kernel_rfl) (by decide) (Nat.lt_of_lt_of_le (by decide) (Nat.le_of_eq (show 8 = _ from by kernel_rfl))) (Opn.int (by kernel_rfl))) r0 f0
  obtain rfl : av0 = (.int .i64 a0) := q0
  replace v0 := v0.up u1
  obtain ⟨sa1, sm1, rfl⟩ := RdS.len q1
  replace v1 := v1.one rfl
  have hv := RelVs.field (o := 0) v0 (RelVs.field (o := 1) v1 (RelVs.end hl))
  rw [List.drop_zero] at hv
  refine ⟨ρ1, H1, (.agg [(.int .i64 a0), (.slice sa1 a1.length sm1)].toArray : Value), ({ Rel := a0, Values := a1 } : Fact), r1, f1, (u0.trans u1), (i0.trans i1), ?_, ?_, w0, w1⟩
  · exact hv
  · exact ⟨⟨sa1, _, sm1⟩, rfl, q1⟩
theorem fa68_0 : fieldAt Try.prog 68 0 = some (66, 0, 1) := by kernel_rfl
theorem fa68_1 : fieldAt Try.prog 68 1 = some (3, 1, 1) := by kernel_rfl
def wf68 (a : Source) : Prop := (wfSl wf188) a.Facts ∧ wfInt a.Version
theorem sh68 : ∀ H v a, rd68 H v a → isAgV v = aggT Try.prog 68 := by
  intro H v a h
  obtain ⟨v0, rfl, _⟩ := h
  kernel_rfl
theorem op68 : Opn Try.prog 68 rd68 wf68 := by
  intro T enc w fuel cs x h hw ρ H hr hF
  have hl := opn_len fa68_0 h (n := 2) ty68.sz.cells
  obtain ⟨ρ0, H0, av0, a0, r0, f0, u0, i0, v0, q0, w0⟩ := opn_field fa68_0 h hw (Opn.slice (s := 2) (by kernel_rfl) (by kernel_rfl) (by decide) (Nat.lt_of_lt_of_le (by decide) (Nat.le_of_eq (show 32 = _ from by kernel_rfl))) op188) hr hF
  obtain ⟨ρ1, H1, av1, a1, r1, f1, u1, i1, v1, q1, w1⟩ := opn_field fa68_1 h hw (Opn.int (by kernel_rfl)) r0 f0
  obtain ⟨sa0, sm0, rfl⟩ := RdS.len q0
  replace v0 := v0.one rfl
  replace v0 := v0.up u1
  obtain rfl : av1 = (.int .i64 a1) := q1
  have hv := RelVs.field (o := 0) v0 (RelVs.field (o := 1) v1 (RelVs.end hl))
  rw [List.drop_zero] at hv
  refine ⟨ρ1, H1, (.agg [(.slice sa0 a0.length sm0), (.int .i64 a1)].toArray : Value), ({ Facts := a0, Version := a1 } : Source), r1, f1, (u0.trans u1), (i0.trans i1), ?_, ?_, w0, w1⟩
  · exact hv
  · exact ⟨⟨sa0, _, sm0⟩, rfl, (Mono.up q0 i1)⟩
def rd71 (H : AHeap) (v : Value) (a : Cache) : Prop := ∃ v0 : Sv, v = .agg [v0.v, (.int .i64 a.Age)].toArray ∧ (RdS 191 rd191) H v0.v a.Entries
instance : Mono rd71 := ⟨fun h hi => by
  obtain ⟨v0, h, h0⟩ := h
  exact ⟨v0, h, Mono.up h0 hi⟩⟩
instance : Cells rd71 2 := ⟨fun h => by
  obtain ⟨v0, rfl, h0⟩ := h
  exact ⟨rfl, rfl⟩⟩
theorem fa98_0 : fieldAt Try.prog 98 0 = some (3, 0, 1) := by kernel_rfl
theorem fa98_1 : fieldAt Try.prog 98 1 = some (45, 1, 1) := by kernel_rfl
def wf98 (a : Access) : Prop := wfInt a.Method ∧ (wfSl wfInt) a.Values
theorem sh98 : ∀ H v a, rd98 H v a → isAgV v = aggT Try.prog 98 := by
  intro H v a h
  obtain ⟨v1, rfl, _⟩ := h
  kernel_rfl
theorem op98 : Opn Try.prog 98 rd98 wf98 := by
  intro T enc w fuel cs x h hw ρ H hr hF
  have hl := opn_len fa98_0 h (n := 2) ty98.sz.cells
  obtain ⟨ρ0, H0, av0, a0, r0, f0, u0, i0, v0, q0, w0⟩ := opn_field fa98_0 h hw (Opn.int (by kernel_rfl)) hr hF
  obtain ⟨ρ1, H1, av1, a1, r1, f1, u1, i1, v1, q1, w1⟩ := opn_field fa98_1 h hw (Opn.slice (s := 1) (by kernel_rfl) (by kernel_rfl) (by decide) (Nat.lt_of_lt_of_le (by decide) (Nat.le_of_eq (show 8 = _ from by kernel_rfl))) (Opn.int (by kernel_rfl))) r0 f0
  obtain rfl : av0 = (.int .i64 a0) := q0
  replace v0 := v0.up u1
  obtain ⟨sa1, sm1, rfl⟩ := RdS.len q1
  replace v1 := v1.one rfl
  have hv := RelVs.field (o := 0) v0 (RelVs.field (o := 1) v1 (RelVs.end hl))
  rw [List.drop_zero] at hv
  refine ⟨ρ1, H1, (.agg [(.int .i64 a0), (.slice sa1 a1.length sm1)].toArray : Value), ({ Method := a0, Values := a1 } : Access), r1, f1, (u0.trans u1), (i0.trans i1), ?_, ?_, w0, w1⟩
  · exact hv
  · exact ⟨⟨sa1, _, sm1⟩, rfl, q1⟩
theorem fa191_0 : fieldAt Try.prog 191 0 = some (98, 0, 2) := by kernel_rfl
theorem fa191_1 : fieldAt Try.prog 191 1 = some (66, 2, 1) := by kernel_rfl
theorem fa191_2 : fieldAt Try.prog 191 2 = some (3, 3, 1) := by kernel_rfl
def wf191 (a : Stored) : Prop := wf98 a.Access ∧ (wfSl wf188) a.Facts ∧ wfInt a.At
theorem sh191 : ∀ H v a, rd191 H v a → isAgV v = aggT Try.prog 191 := by
  intro H v a h
  obtain ⟨v1, v2, rfl, _, _⟩ := h
  kernel_rfl
theorem op191 : Opn Try.prog 191 rd191 wf191 := by
  intro T enc w fuel cs x h hw ρ H hr hF
  have hl := opn_len fa191_0 h (n := 4) ty191.sz.cells
  obtain ⟨ρ0, H0, av0, a0, r0, f0, u0, i0, v0, q0, w0⟩ := opn_field fa191_0 h hw op98 hr hF
  obtain ⟨ρ1, H1, av1, a1, r1, f1, u1, i1, v1, q1, w1⟩ := opn_field fa191_1 h hw (Opn.slice (s := 2) (by kernel_rfl) (by kernel_rfl) (by decide) (Nat.lt_of_lt_of_le (by decide) (Nat.le_of_eq (show 32 = _ from by kernel_rfl))) op188) r0 f0
  obtain ⟨ρ2, H2, av2, a2, r2, f2, u2, i2, v2, q2, w2⟩ := opn_field fa191_2 h hw (Opn.int (by kernel_rfl)) r1 f1
  obtain ⟨xav0_0, rfl, gav0_0⟩ := q0
  replace v0 := v0.up (u1.trans u2)
  obtain ⟨sa1, sm1, rfl⟩ := RdS.len q1
  replace v1 := v1.one rfl
  replace v1 := v1.up u2
  obtain rfl : av2 = (.int .i64 a2) := q2
  have hv := RelVs.field (o := 0) v0 (RelVs.field (o := 2) v1 (RelVs.field (o := 3) v2 (RelVs.end hl)))
  rw [List.drop_zero] at hv
  refine ⟨ρ2, H2, (.agg [(.int .i64 a0.Method), xav0_0.v, (.slice sa1 a1.length sm1), (.int .i64 a2)].toArray : Value), ({ Access := a0, Facts := a1, At := a2 } : Stored), r2, f2, ((u0.trans u1).trans u2), ((i0.trans i1).trans i2), ?_, ?_, w0, w1, w2⟩
  · exact hv
  · exact ⟨xav0_0, ⟨sa1, _, sm1⟩, rfl, (Mono.up gav0_0 (i1.trans i2)), (Mono.up q1 i2)⟩
theorem fa71_0 : fieldAt Try.prog 71 0 = some (69, 0, 1) := by kernel_rfl
theorem fa71_1 : fieldAt Try.prog 71 1 = some (3, 1, 1) := by kernel_rfl
def wf71 (a : Cache) : Prop := (wfSl wf191) a.Entries ∧ wfInt a.Age
theorem sh71 : ∀ H v a, rd71 H v a → isAgV v = aggT Try.prog 71 := by
  intro H v a h
  obtain ⟨v0, rfl, _⟩ := h
  kernel_rfl
theorem op71 : Opn Try.prog 71 rd71 wf71 := by
  intro T enc w fuel cs x h hw ρ H hr hF
  have hl := opn_len fa71_0 h (n := 2) ty71.sz.cells
  obtain ⟨ρ0, H0, av0, a0, r0, f0, u0, i0, v0, q0, w0⟩ := opn_field fa71_0 h hw (Opn.slice (s := 4) (by kernel_rfl) (by kernel_rfl) (by decide) (Nat.lt_of_lt_of_le (by decide) (Nat.le_of_eq (show 64 = _ from by kernel_rfl))) op191) hr hF
  obtain ⟨ρ1, H1, av1, a1, r1, f1, u1, i1, v1, q1, w1⟩ := opn_field fa71_1 h hw (Opn.int (by kernel_rfl)) r0 f0
  obtain ⟨sa0, sm0, rfl⟩ := RdS.len q0
  replace v0 := v0.one rfl
  replace v0 := v0.up u1
  obtain rfl : av1 = (.int .i64 a1) := q1
  have hv := RelVs.field (o := 0) v0 (RelVs.field (o := 1) v1 (RelVs.end hl))
  rw [List.drop_zero] at hv
  refine ⟨ρ1, H1, (.agg [(.slice sa0 a0.length sm0), (.int .i64 a1)].toArray : Value), ({ Entries := a0, Age := a1 } : Cache), r1, f1, (u0.trans u1), (i0.trans i1), ?_, ?_, w0, w1⟩
  · exact hv
  · exact ⟨⟨sa0, _, sm0⟩, rfl, (Mono.up q0 i1)⟩
theorem fa73_0 : fieldAt Try.prog 73 0 = some (45, 0, 1) := by kernel_rfl
theorem fa73_1 : fieldAt Try.prog 73 1 = some (29, 1, 1) := by kernel_rfl
theorem fa73_2 : fieldAt Try.prog 73 2 = some (65, 2, 1) := by kernel_rfl
theorem fa73_3 : fieldAt Try.prog 73 3 = some (68, 3, 2) := by kernel_rfl
theorem fa73_4 : fieldAt Try.prog 73 4 = some (71, 5, 2) := by kernel_rfl
theorem fa73_5 : fieldAt Try.prog 73 5 = some (3, 7, 1) := by kernel_rfl
theorem fa73_6 : fieldAt Try.prog 73 6 = some (30, 8, 1) := by kernel_rfl
theorem fa73_7 : fieldAt Try.prog 73 7 = some (45, 9, 1) := by kernel_rfl
theorem fa73_8 : fieldAt Try.prog 73 8 = some (3, 10, 1) := by kernel_rfl
theorem fa73_9 : fieldAt Try.prog 73 9 = some (53, 11, 1) := by kernel_rfl
def wf73 (a : Mediator) : Prop := (wfSl wfInt) a.Schema ∧ (wfSl wf95) a.Methods ∧ (wfSl wf152) a.Rules ∧ wf68 a.Source ∧ wf71 a.Cache ∧ wfInt a.Now ∧ (wfSl wf98) a.Log ∧ (wfSl wfInt) a.Times ∧ wfInt a.Spent ∧ (wfSl (wfSl (wfSl wfInt))) a.Results
theorem sh73 : ∀ H v a, rd73 H v a → isAgV v = aggT Try.prog 73 := by
  intro H v a h
  obtain ⟨v0, v1, v2, v3, v5, v8, v9, v11, rfl, _, _, _, _, _, _, _, _⟩ := h
  kernel_rfl
theorem op73 : Opn Try.prog 73 rd73 wf73 := by
  intro T enc w fuel cs x h hw ρ H hr hF
  have hl := opn_len fa73_0 h (n := 12) ty73.sz.cells
  obtain ⟨ρ0, H0, av0, a0, r0, f0, u0, i0, v0, q0, w0⟩ := opn_field fa73_0 h hw (Opn.slice (s := 1) (by kernel_rfl) (by kernel_rfl) (by decide) (Nat.lt_of_lt_of_le (by decide) (Nat.le_of_eq (show 8 = _ from by kernel_rfl))) (Opn.int (by kernel_rfl))) hr hF
  obtain ⟨ρ1, H1, av1, a1, r1, f1, u1, i1, v1, q1, w1⟩ := opn_field fa73_1 h hw (Opn.slice (s := 5) (by kernel_rfl) (by kernel_rfl) (by decide) (Nat.lt_of_lt_of_le (by decide) (Nat.le_of_eq (show 56 = _ from by kernel_rfl))) op95) r0 f0
  obtain ⟨ρ2, H2, av2, a2, r2, f2, u2, i2, v2, q2, w2⟩ := opn_field fa73_2 h hw (Opn.slice (s := 3) (by kernel_rfl) (by kernel_rfl) (by decide) (Nat.lt_of_lt_of_le (by decide) (Nat.le_of_eq (show 40 = _ from by kernel_rfl))) op152) r1 f1
  obtain ⟨ρ3, H3, av3, a3, r3, f3, u3, i3, v3, q3, w3⟩ := opn_field fa73_3 h hw op68 r2 f2
  obtain ⟨ρ4, H4, av4, a4, r4, f4, u4, i4, v4, q4, w4⟩ := opn_field fa73_4 h hw op71 r3 f3
  obtain ⟨ρ5, H5, av5, a5, r5, f5, u5, i5, v5, q5, w5⟩ := opn_field fa73_5 h hw (Opn.int (by kernel_rfl)) r4 f4
  obtain ⟨ρ6, H6, av6, a6, r6, f6, u6, i6, v6, q6, w6⟩ := opn_field fa73_6 h hw (Opn.slice (s := 2) (by kernel_rfl) (by kernel_rfl) (by decide) (Nat.lt_of_lt_of_le (by decide) (Nat.le_of_eq (show 32 = _ from by kernel_rfl))) op98) r5 f5
  obtain ⟨ρ7, H7, av7, a7, r7, f7, u7, i7, v7, q7, w7⟩ := opn_field fa73_7 h hw (Opn.slice (s := 1) (by kernel_rfl) (by kernel_rfl) (by decide) (Nat.lt_of_lt_of_le (by decide) (Nat.le_of_eq (show 8 = _ from by kernel_rfl))) (Opn.int (by kernel_rfl))) r6 f6
  obtain ⟨ρ8, H8, av8, a8, r8, f8, u8, i8, v8, q8, w8⟩ := opn_field fa73_8 h hw (Opn.int (by kernel_rfl)) r7 f7
  obtain ⟨ρ9, H9, av9, a9, r9, f9, u9, i9, v9, q9, w9⟩ := opn_field fa73_9 h hw (Opn.slice (s := 1) (by kernel_rfl) (by kernel_rfl) (by decide) (Nat.lt_of_lt_of_le (by decide) (Nat.le_of_eq (show 24 = _ from by kernel_rfl))) (Opn.slice (s := 1) (by kernel_rfl) (by kernel_rfl) (by decide) (Nat.lt_of_lt_of_le (by decide) (Nat.le_of_eq (show 24 = _ from by kernel_rfl))) (Opn.slice (s := 1) (by kernel_rfl) (by kernel_rfl) (by decide) (Nat.lt_of_lt_of_le (by decide) (Nat.le_of_eq (show 8 = _ from by kernel_rfl))) (Opn.int (by kernel_rfl))))) r8 f8
  obtain ⟨sa0, sm0, rfl⟩ := RdS.len q0
  replace v0 := v0.one rfl
  replace v0 := v0.up ((((((((u1.trans u2).trans u3).trans u4).trans u5).trans u6).trans u7).trans u8).trans u9)
  obtain ⟨sa1, sm1, rfl⟩ := RdS.len q1
  replace v1 := v1.one rfl
  replace v1 := v1.up (((((((u2.trans u3).trans u4).trans u5).trans u6).trans u7).trans u8).trans u9)
  obtain ⟨sa2, sm2, rfl⟩ := RdS.len q2
  replace v2 := v2.one rfl
  replace v2 := v2.up ((((((u3.trans u4).trans u5).trans u6).trans u7).trans u8).trans u9)
  obtain ⟨xav3_0, rfl, gav3_0⟩ := q3
  replace v3 := v3.up (((((u4.trans u5).trans u6).trans u7).trans u8).trans u9)
  obtain ⟨xav4_0, rfl, gav4_0⟩ := q4
  replace v4 := v4.up ((((u5.trans u6).trans u7).trans u8).trans u9)
  obtain rfl : av5 = (.int .i64 a5) := q5
  replace v5 := v5.up (((u6.trans u7).trans u8).trans u9)
  obtain ⟨sa6, sm6, rfl⟩ := RdS.len q6
  replace v6 := v6.one rfl
  replace v6 := v6.up ((u7.trans u8).trans u9)
  obtain ⟨sa7, sm7, rfl⟩ := RdS.len q7
  replace v7 := v7.one rfl
  replace v7 := v7.up (u8.trans u9)
  obtain rfl : av8 = (.int .i64 a8) := q8
  replace v8 := v8.up u9
  obtain ⟨sa9, sm9, rfl⟩ := RdS.len q9
  replace v9 := v9.one rfl
  have hv := RelVs.field (o := 0) v0 (RelVs.field (o := 1) v1 (RelVs.field (o := 2) v2 (RelVs.field (o := 3) v3 (RelVs.field (o := 5) v4 (RelVs.field (o := 7) v5 (RelVs.field (o := 8) v6 (RelVs.field (o := 9) v7 (RelVs.field (o := 10) v8 (RelVs.field (o := 11) v9 (RelVs.end hl))))))))))
  rw [List.drop_zero] at hv
  refine ⟨ρ9, H9, (.agg [(.slice sa0 a0.length sm0), (.slice sa1 a1.length sm1), (.slice sa2 a2.length sm2), xav3_0.v, (.int .i64 a3.Version), xav4_0.v, (.int .i64 a4.Age), (.int .i64 a5), (.slice sa6 a6.length sm6), (.slice sa7 a7.length sm7), (.int .i64 a8), (.slice sa9 a9.length sm9)].toArray : Value), ({ Schema := a0, Methods := a1, Rules := a2, Source := a3, Cache := a4, Now := a5, Log := a6, Times := a7, Spent := a8, Results := a9 } : Mediator), r9, f9, (((((((((u0.trans u1).trans u2).trans u3).trans u4).trans u5).trans u6).trans u7).trans u8).trans u9), (((((((((i0.trans i1).trans i2).trans i3).trans i4).trans i5).trans i6).trans i7).trans i8).trans i9), ?_, ?_, w0, w1, w2, w3, w4, w5, w6, w7, w8, w9⟩
  · exact hv
  · exact ⟨⟨sa0, _, sm0⟩, ⟨sa1, _, sm1⟩, ⟨sa2, _, sm2⟩, xav3_0, xav4_0, ⟨sa6, _, sm6⟩, ⟨sa7, _, sm7⟩, ⟨sa9, _, sm9⟩, rfl, (Mono.up q0 ((((((((i1.trans i2).trans i3).trans i4).trans i5).trans i6).trans i7).trans i8).trans i9)), (Mono.up q1 (((((((i2.trans i3).trans i4).trans i5).trans i6).trans i7).trans i8).trans i9)), (Mono.up q2 ((((((i3.trans i4).trans i5).trans i6).trans i7).trans i8).trans i9)), (Mono.up gav3_0 (((((i4.trans i5).trans i6).trans i7).trans i8).trans i9)), (Mono.up gav4_0 ((((i5.trans i6).trans i7).trans i8).trans i9)), (Mono.up q6 ((i7.trans i8).trans i9)), (Mono.up q7 (i8.trans i9)), q9⟩

/-! laws.szIntS -/
def l_szIntS (a_a : List Int) (a_left : Int) : Option (Int) :=
  if (decide (((IntKind.i64.wrap (a_left - (a_a.length : Int))) : Int) < 0)) then (
    some (-1))
  else (
    some (IntKind.i64.wrap (a_left - (a_a.length : Int))))
theorem l_szIntS_ok (a_a : List Int) (v0_0 : Sv) (a_left : Int) (R : Int) (hF : l_szIntS a_a a_left = some R) :
    Fw.Spec Try.prog 82 [v0_0.v, (.int .i64 a_left)] [crd (RdS 3 rdInt) v0_0.v a_a] (fun _ : Unit => (.int .i64 R)) (fun _ => []) := by
  refine Spec_enter (n := 12) Try.func82 rfl rfl (rs := [.tmp 4]) rfl rfl rfl ?_
  intro H0 F0
  unfold l_szIntS at hF
  refine K_region ?_
  refine C_val (V_assign (v := (.int .i64 0)) (.int _ _)) ?_
  refine C_nil ?_
  refine K_region ?_
  refine C_val (V_move (v := (.int .i64 a_left)) (.tmp rfl rfl)) ?_
  refine C_val (V_move (v := v0_0.v) (.tmp rfl rfl)) ?_
  refine C_at .h (fun hp => V_lenR (l := a_a.length) sl45 (.tmp rfl rfl) (crd_len hp)) ?_
  refine C_val (V_sub (i := a_left) (j := (a_a.length : Int)) (.tmp rfl rfl) (.tmp rfl rfl)) ?_
  refine C_val (V_assign (v := (.int .i64 (IntKind.i64.wrap (a_left - (a_a.length : Int))))) (.tmp rfl rfl)) ?_
  refine C_nil ?_
  refine K_in ?_
  refine K_region ?_
  refine C_val (V_move (v := (.int .i64 (IntKind.i64.wrap (a_left - (a_a.length : Int))))) (.tmp rfl rfl)) ?_
  refine C_val (V_lss (i := (IntKind.i64.wrap (a_left - (a_a.length : Int)))) (j := 0) (.tmp rfl rfl) (.int _ _)) ?_
  refine C_nil ?_
  refine CW_cond (b := (decide (((IntKind.i64.wrap (a_left - (a_a.length : Int))) : Int) < 0))) (.tmp rfl rfl) (fun hb1 => ?_) (fun hb1 => ?_)
  · rw [if_pos hb1] at hF
    refine K_region ?_
    refine C_val (V_assign (v := (.int .i64 (-1))) (.int _ _)) ?_
    refine C_nil ?_
    refine CW_ret ?_
    obtain rfl := Option.some.inj hF
    exact End_ret () (.tmp rfl rfl .nil) rfl (.sel .nil)
  rw [if_neg (by rw [hb1]; exact Bool.false_ne_true)] at hF
  refine CW_skip ?_
  refine K_region ?_
  refine C_val (V_move (v := (.int .i64 (IntKind.i64.wrap (a_left - (a_a.length : Int))))) (.tmp rfl rfl)) ?_
  refine C_val (V_assign (v := (.int .i64 (IntKind.i64.wrap (a_left - (a_a.length : Int))))) (.tmp rfl rfl)) ?_
  refine C_nil ?_
  refine CW_ret ?_
  obtain rfl := Option.some.inj hF
  exact End_ret () (.tmp rfl rfl .nil) rfl (.sel .nil)

/-! laws.szMethod -/
def l_szMethod (a_a : Method) (a_left : Int) : Option (Int) :=
  (l_szIntS a_a.Inputs a_left).bind fun r2 =>
  if (decide ((r2 : Int) < 0)) then (
    some (-1))
  else (
    some r2)
theorem l_szMethod_ok (a_a : Method) (v0_1 : Sv) (a_left : Int) (R : Int) (hF : l_szMethod a_a a_left = some R) :
    Fw.Spec Try.prog 49 [(.agg [(.int .i64 a_a.Rel), v0_1.v, (.int .i64 a_a.Limit), (.int .i64 a_a.Cost), (.int .i64 a_a.Quota)].toArray), (.int .i64 a_left)] [crd (RdS 3 rdInt) v0_1.v a_a.Inputs] (fun _ : Unit => (.int .i64 R)) (fun _ => []) := by
  refine Spec_enter (n := 12) Try.func49 rfl rfl (rs := [.tmp 4]) rfl rfl rfl ?_
  intro H0 F0
  unfold l_szMethod at hF
  refine K_region ?_
  refine C_newR rfl (N_box (g := false) (v := (.agg [(.int .i64 a_a.Rel), v0_1.v, (.int .i64 a_a.Limit), (.int .i64 a_a.Cost), (.int .i64 a_a.Quota)].toArray)) ty95.sz (.tmp rfl rfl) rfl) (fun k1 => ?_)
  refine C_val (V_assign (v := (.int .i64 0)) (.int _ _)) ?_
  refine C_nil ?_
  refine K_region ?_
  refine C_val (V_fieldAddr (off := 1) fd95_1 (.tmp rfl rfl)) ?_
  refine C_at .h (fun hp => V_load (v := v0_1.v) ag45 (.tmp rfl rfl) hp.2 rfl rfl) ?_
  refine C_val (V_move (v := (.int .i64 a_left)) (.tmp rfl rfl)) ?_
  obtain ⟨r2, hx3, hF⟩ := bind_some hF
  refine C_x0 (.rd (.t .h) rfl .nil) (X_callS cf82 (.cons (.tmp rfl rfl) (.cons (.tmp rfl rfl) .nil)) (l_szIntS_ok a_a.Inputs v0_1 a_left _ hx3)) (fun _ => ?_)
  refine C_val (V_assign (v := (.int .i64 r2)) (.tmp rfl rfl)) ?_
  refine C_nil ?_
  refine K_in ?_
  refine K_region ?_
  refine C_val (V_move (v := (.int .i64 r2)) (.tmp rfl rfl)) ?_
  refine C_val (V_lss (i := r2) (j := 0) (.tmp rfl rfl) (.int _ _)) ?_
  refine C_nil ?_
  refine CW_cond (b := (decide ((r2 : Int) < 0))) (.tmp rfl rfl) (fun hb5 => ?_) (fun hb5 => ?_)
  · rw [if_pos hb5] at hF
    refine K_region ?_
    refine C_val (V_assign (v := (.int .i64 (-1))) (.int _ _)) ?_
    refine C_nil ?_
    refine CW_ret ?_
    obtain rfl := Option.some.inj hF
    exact End_ret () (.tmp rfl rfl .nil) rfl (.sel .nil)
  rw [if_neg (by rw [hb5]; exact Bool.false_ne_true)] at hF
  refine CW_skip ?_
  refine K_region ?_
  refine C_val (V_move (v := (.int .i64 r2)) (.tmp rfl rfl)) ?_
  refine C_val (V_assign (v := (.int .i64 r2)) (.tmp rfl rfl)) ?_
  refine C_nil ?_
  refine CW_ret ?_
  obtain rfl := Option.some.inj hF
  exact End_ret () (.tmp rfl rfl .nil) rfl (.sel .nil)

/-! laws.szMethodS -/
def l_szMethodS_L1 : List Method → Nat → Int → Option (Int)
  | [], k5, c1 => some c1
  | x7 :: rest6, k5, c1 => (l_szMethod x7 c1).bind fun r17 =>
    if (decide ((r17 : Int) < 0)) then (
      some (-1))
    else (
      l_szMethodS_L1 rest6 (k5 + 1) r17)
def l_szMethodS (a_a : List Method) (a_left : Int) : Option (Int) :=
  if (decide (((IntKind.i64.wrap (a_left - (a_a.length : Int))) : Int) < 0)) then (
    some (-1))
  else (
    l_szMethodS_L1 a_a 0 (IntKind.i64.wrap (a_left - (a_a.length : Int))))
theorem l_szMethodS_ok (a_a : List Method) (v0_0 : Sv) (a_left : Int) (R : Int) (hF : l_szMethodS a_a a_left = some R) :
    Fw.Spec Try.prog 14 [v0_0.v, (.int .i64 a_left)] [crd (RdS 95 rd95) v0_0.v a_a] (fun _ : Unit => (.int .i64 R)) (fun _ => []) := by
  refine Spec_enter (n := 27) Try.func14 rfl rfl (rs := [.tmp 4]) rfl rfl rfl ?_
  intro H0 F0
  unfold l_szMethodS at hF
  refine K_region ?_
  refine C_val (V_assign (v := (.int .i64 0)) (.int _ _)) ?_
  refine C_nil ?_
  refine K_region ?_
  refine C_val (V_move (v := (.int .i64 a_left)) (.tmp rfl rfl)) ?_
  refine C_val (V_move (v := v0_0.v) (.tmp rfl rfl)) ?_
  refine C_at .h (fun hp => V_lenR (l := a_a.length) sl29 (.tmp rfl rfl) (crd_len hp)) ?_
  refine C_val (V_sub (i := a_left) (j := (a_a.length : Int)) (.tmp rfl rfl) (.tmp rfl rfl)) ?_
  refine C_val (V_assign (v := (.int .i64 (IntKind.i64.wrap (a_left - (a_a.length : Int))))) (.tmp rfl rfl)) ?_
  refine C_nil ?_
  refine K_in ?_
  refine K_region ?_
  refine C_val (V_move (v := (.int .i64 (IntKind.i64.wrap (a_left - (a_a.length : Int))))) (.tmp rfl rfl)) ?_
  refine C_val (V_lss (i := (IntKind.i64.wrap (a_left - (a_a.length : Int)))) (j := 0) (.tmp rfl rfl) (.int _ _)) ?_
  refine C_nil ?_
  refine CW_cond (b := (decide (((IntKind.i64.wrap (a_left - (a_a.length : Int))) : Int) < 0))) (.tmp rfl rfl) (fun hb22 => ?_) (fun hb22 => ?_)
  · rw [if_pos hb22] at hF
    refine K_region ?_
    refine C_val (V_assign (v := (.int .i64 (-1))) (.int _ _)) ?_
    refine C_nil ?_
    refine CW_ret ?_
    obtain rfl := Option.some.inj hF
    exact End_ret () (.tmp rfl rfl .nil) rfl (.sel .nil)
  rw [if_neg (by rw [hb22]; exact Bool.false_ne_true)] at hF
  refine CW_skip ?_
  refine K_in ?_
  refine K_region ?_
  refine C_val (V_assign (v := (.int .i64 0)) (.int _ _)) ?_
  refine C_nil ?_
  refine CW_block ?_
  refine CW_loop (m := a_a.length) (fun m3 f' cs' => ∃ (g : Fr) (k5 : Nat) (rest6 : List Method) (c1 : Int), m3 = rest6.length ∧ f' = updL g [(0, v0_0.v), (1, (.int .i64 c1)), (5, (.int .i64 (k5 : Int)))] ∧ List.drop k5 a_a = rest6 ∧ Ent cs' [crd (RdS 95 rd95) v0_0.v a_a] ∧ l_szMethodS_L1 rest6 k5 c1 = some R) ⟨_, 0, _, _, rfl, (EqL.cons rfl (EqL.cons rfl (EqL.cons rfl (EqL.nil)))).eq, rfl, (.sel (.rd .h rfl .nil)), hF⟩ ?_
  clear hF
  rintro m3 _ _ ⟨g4, k5, rest6, c1, rfl, rfl, hd8, hE, hF⟩
  refine K_ent hE ?_
  clear hE
  refine K_pure (c := crd (RdS 95 rd95) v0_0.v a_a) .h crd_bound (fun hbd13 => ?_)
  rcases rest6 with _ | ⟨x7, rest6⟩
  · have hk9 := List.drop_eq_nil_iff.1 hd8
    have hfe12 : (decide (((k5 : Int) : Int) < (a_a.length : Int))) = false := decide_eq_false (by omega)
    rw [l_szMethodS_L1] at hF
    refine K_in ?_
    refine K_region ?_
    refine C_val (V_move (v := (.int .i64 (k5 : Int))) (.tmp rfl rfl)) ?_
    refine C_val (V_move (v := v0_0.v) (.tmp rfl rfl)) ?_
    refine C_at .h (fun hp => V_lenR (l := a_a.length) sl29 (.tmp rfl rfl) (crd_len hp)) ?_
    refine C_val (V_lss (i := (k5 : Int)) (j := (a_a.length : Int)) (.tmp rfl rfl) (.tmp rfl rfl)) ?_
    refine C_nil ?_
    refine CW_cond (b := (decide (((k5 : Int) : Int) < (a_a.length : Int)))) (.tmp rfl rfl) (fun hb => absurd (hfe12.symm.trans hb) (by decide)) (fun _ => ?_)
    refine CW_exit ?_
    refine CThen_exit ?_
    refine CThen_exit ?_
    refine CIn_self ?_
    refine K_region ?_
    refine C_val (V_move (v := (.int .i64 c1)) (.tmp rfl rfl)) ?_
    refine C_val (V_assign (v := (.int .i64 c1)) (.tmp rfl rfl)) ?_
    refine C_nil ?_
    refine CW_ret ?_
    obtain rfl := Option.some.inj hF
    exact End_ret () (.tmp rfl rfl .nil) rfl (.sel .nil)
  obtain ⟨hk9, hx10, hd11⟩ := drop_cons hd8
  have hfe12 : (decide (((k5 : Int) : Int) < (a_a.length : Int))) = true := decide_eq_true (by omega)
  rw [l_szMethodS_L1] at hF
  refine K_in ?_
  refine K_region ?_
  refine C_val (V_move (v := (.int .i64 (k5 : Int))) (.tmp rfl rfl)) ?_
  refine C_val (V_move (v := v0_0.v) (.tmp rfl rfl)) ?_
  refine C_at .h (fun hp => V_lenR (l := a_a.length) sl29 (.tmp rfl rfl) (crd_len hp)) ?_
  refine C_val (V_lss (i := (k5 : Int)) (j := (a_a.length : Int)) (.tmp rfl rfl) (.tmp rfl rfl)) ?_
  refine C_nil ?_
  refine CW_cond (b := (decide (((k5 : Int) : Int) < (a_a.length : Int)))) (.tmp rfl rfl) (fun _ => ?_) (fun hb => absurd (hfe12.symm.trans hb) (by decide))
  refine CW_skip ?_
  refine K_block ?_
  refine K_region ?_
  refine C_val (V_move (v := v0_0.v) (.tmp rfl rfl)) ?_
  refine C_val (V_move (v := (.int .i64 (k5 : Int))) (.tmp rfl rfl)) ?_
  refine C_idx (a := x7) sl29 ty95.sz (.tmp rfl rfl) (.tmp rfl rfl) .h (Int.natCast_nonneg k5) hx10 (fun k14 j15 => ?_)
  refine C_ldA1 (ul95_0_95 x7) ag95 ty95.sz rfl (.tmp rfl rfl) .h la95_0_95 (fun p16 => ?_)
  refine C_val (V_move (v := (.int .i64 c1)) (.tmp rfl rfl)) ?_
  obtain ⟨r17, hx18, hF⟩ := bind_some hF
  refine C_x0 (.rd .h rfl .nil) (X_callS cf49 (.cons (.tmp rfl rfl) (.cons (.tmp rfl rfl) .nil)) (l_szMethod_ok x7 p16 c1 _ hx18)) (fun _ => ?_)
  refine C_val (V_assign (v := (.int .i64 r17)) (.tmp rfl rfl)) ?_
  refine C_nil ?_
  refine K_region ?_
  refine C_val (V_move (v := (.int .i64 r17)) (.tmp rfl rfl)) ?_
  refine C_val (V_lss (i := r17) (j := 0) (.tmp rfl rfl) (.int _ _)) ?_
  refine C_nil ?_
  refine CW_cond (b := (decide ((r17 : Int) < 0))) (.tmp rfl rfl) (fun hb21 => ?_) (fun hb21 => ?_)
  · rw [if_pos hb21] at hF
    refine K_region ?_
    refine C_val (V_assign (v := (.int .i64 (-1))) (.int _ _)) ?_
    refine C_nil ?_
    refine CW_ret ?_
    obtain rfl := Option.some.inj hF
    exact End_ret () (.tmp rfl rfl .nil) rfl (.sel .nil)
  rw [if_neg (by rw [hb21]; exact Bool.false_ne_true)] at hF
  refine CW_skip ?_
  refine CW_region ?_
  refine C_val (V_move (v := (.int .i64 (k5 : Int))) (.tmp rfl rfl)) ?_
  refine C_val (V_add (i := (k5 : Int)) (j := 1) (.tmp rfl rfl) (.int _ _)) ?_
  refine C_val (V_assign (v := (.int .i64 (IntKind.i64.wrap ((k5 : Int) + 1)))) (.tmp rfl rfl)) ?_
  refine C_nil ?_
  have hw20 : IntKind.i64.wrap ((k5 : Int) + 1) = ((k5 + 1 : Nat) : Int) := by rw [wrap_in (by omega) (by omega)]; rfl
  rw [hw20]
  exact ⟨_, Nat.lt_succ_self _, _, k5 + 1, rest6, _, rfl, (EqL.cons rfl (EqL.cons rfl (EqL.cons rfl (EqL.nil)))).eq, hd11, (.sel (.rd (.t (.t .h)) rfl .nil)), hF⟩

/-! laws.szRule -/
def l_szRule (a_a : Rule) (a_left : Int) : Option (Int) :=
  (l_szIntS a_a.Map a_left).bind fun r2 =>
  if (decide ((r2 : Int) < 0)) then (
    some (-1))
  else (
    some r2)
theorem l_szRule_ok (a_a : Rule) (v0_2 : Sv) (a_left : Int) (R : Int) (hF : l_szRule a_a a_left = some R) :
    Fw.Spec Try.prog 128 [(.agg [(.int .i64 a_a.From), (.int .i64 a_a.To), v0_2.v].toArray), (.int .i64 a_left)] [crd (RdS 3 rdInt) v0_2.v a_a.Map] (fun _ : Unit => (.int .i64 R)) (fun _ => []) := by
  refine Spec_enter (n := 12) Try.func128 rfl rfl (rs := [.tmp 4]) rfl rfl rfl ?_
  intro H0 F0
  unfold l_szRule at hF
  refine K_region ?_
  refine C_newR rfl (N_box (g := false) (v := (.agg [(.int .i64 a_a.From), (.int .i64 a_a.To), v0_2.v].toArray)) ty152.sz (.tmp rfl rfl) rfl) (fun k1 => ?_)
  refine C_val (V_assign (v := (.int .i64 0)) (.int _ _)) ?_
  refine C_nil ?_
  refine K_region ?_
  refine C_val (V_fieldAddr (off := 2) fd152_2 (.tmp rfl rfl)) ?_
  refine C_at .h (fun hp => V_load (v := v0_2.v) ag45 (.tmp rfl rfl) hp.2 rfl rfl) ?_
  refine C_val (V_move (v := (.int .i64 a_left)) (.tmp rfl rfl)) ?_
  obtain ⟨r2, hx3, hF⟩ := bind_some hF
  refine C_x0 (.rd (.t .h) rfl .nil) (X_callS cf82 (.cons (.tmp rfl rfl) (.cons (.tmp rfl rfl) .nil)) (l_szIntS_ok a_a.Map v0_2 a_left _ hx3)) (fun _ => ?_)
  refine C_val (V_assign (v := (.int .i64 r2)) (.tmp rfl rfl)) ?_
  refine C_nil ?_
  refine K_in ?_
  refine K_region ?_
  refine C_val (V_move (v := (.int .i64 r2)) (.tmp rfl rfl)) ?_
  refine C_val (V_lss (i := r2) (j := 0) (.tmp rfl rfl) (.int _ _)) ?_
  refine C_nil ?_
  refine CW_cond (b := (decide ((r2 : Int) < 0))) (.tmp rfl rfl) (fun hb5 => ?_) (fun hb5 => ?_)
  · rw [if_pos hb5] at hF
    refine K_region ?_
    refine C_val (V_assign (v := (.int .i64 (-1))) (.int _ _)) ?_
    refine C_nil ?_
    refine CW_ret ?_
    obtain rfl := Option.some.inj hF
    exact End_ret () (.tmp rfl rfl .nil) rfl (.sel .nil)
  rw [if_neg (by rw [hb5]; exact Bool.false_ne_true)] at hF
  refine CW_skip ?_
  refine K_region ?_
  refine C_val (V_move (v := (.int .i64 r2)) (.tmp rfl rfl)) ?_
  refine C_val (V_assign (v := (.int .i64 r2)) (.tmp rfl rfl)) ?_
  refine C_nil ?_
  refine CW_ret ?_
  obtain rfl := Option.some.inj hF
  exact End_ret () (.tmp rfl rfl .nil) rfl (.sel .nil)

/-! laws.szRuleS -/
def l_szRuleS_L1 : List Rule → Nat → Int → Option (Int)
  | [], k5, c1 => some c1
  | x7 :: rest6, k5, c1 => (l_szRule x7 c1).bind fun r17 =>
    if (decide ((r17 : Int) < 0)) then (
      some (-1))
    else (
      l_szRuleS_L1 rest6 (k5 + 1) r17)
def l_szRuleS (a_a : List Rule) (a_left : Int) : Option (Int) :=
  if (decide (((IntKind.i64.wrap (a_left - (a_a.length : Int))) : Int) < 0)) then (
    some (-1))
  else (
    l_szRuleS_L1 a_a 0 (IntKind.i64.wrap (a_left - (a_a.length : Int))))
theorem l_szRuleS_ok (a_a : List Rule) (v0_0 : Sv) (a_left : Int) (R : Int) (hF : l_szRuleS a_a a_left = some R) :
    Fw.Spec Try.prog 83 [v0_0.v, (.int .i64 a_left)] [crd (RdS 152 rd152) v0_0.v a_a] (fun _ : Unit => (.int .i64 R)) (fun _ => []) := by
  refine Spec_enter (n := 27) Try.func83 rfl rfl (rs := [.tmp 4]) rfl rfl rfl ?_
  intro H0 F0
  unfold l_szRuleS at hF
  refine K_region ?_
  refine C_val (V_assign (v := (.int .i64 0)) (.int _ _)) ?_
  refine C_nil ?_
  refine K_region ?_
  refine C_val (V_move (v := (.int .i64 a_left)) (.tmp rfl rfl)) ?_
  refine C_val (V_move (v := v0_0.v) (.tmp rfl rfl)) ?_
  refine C_at .h (fun hp => V_lenR (l := a_a.length) sl65 (.tmp rfl rfl) (crd_len hp)) ?_
  refine C_val (V_sub (i := a_left) (j := (a_a.length : Int)) (.tmp rfl rfl) (.tmp rfl rfl)) ?_
  refine C_val (V_assign (v := (.int .i64 (IntKind.i64.wrap (a_left - (a_a.length : Int))))) (.tmp rfl rfl)) ?_
  refine C_nil ?_
  refine K_in ?_
  refine K_region ?_
  refine C_val (V_move (v := (.int .i64 (IntKind.i64.wrap (a_left - (a_a.length : Int))))) (.tmp rfl rfl)) ?_
  refine C_val (V_lss (i := (IntKind.i64.wrap (a_left - (a_a.length : Int)))) (j := 0) (.tmp rfl rfl) (.int _ _)) ?_
  refine C_nil ?_
  refine CW_cond (b := (decide (((IntKind.i64.wrap (a_left - (a_a.length : Int))) : Int) < 0))) (.tmp rfl rfl) (fun hb22 => ?_) (fun hb22 => ?_)
  · rw [if_pos hb22] at hF
    refine K_region ?_
    refine C_val (V_assign (v := (.int .i64 (-1))) (.int _ _)) ?_
    refine C_nil ?_
    refine CW_ret ?_
    obtain rfl := Option.some.inj hF
    exact End_ret () (.tmp rfl rfl .nil) rfl (.sel .nil)
  rw [if_neg (by rw [hb22]; exact Bool.false_ne_true)] at hF
  refine CW_skip ?_
  refine K_in ?_
  refine K_region ?_
  refine C_val (V_assign (v := (.int .i64 0)) (.int _ _)) ?_
  refine C_nil ?_
  refine CW_block ?_
  refine CW_loop (m := a_a.length) (fun m3 f' cs' => ∃ (g : Fr) (k5 : Nat) (rest6 : List Rule) (c1 : Int), m3 = rest6.length ∧ f' = updL g [(0, v0_0.v), (1, (.int .i64 c1)), (5, (.int .i64 (k5 : Int)))] ∧ List.drop k5 a_a = rest6 ∧ Ent cs' [crd (RdS 152 rd152) v0_0.v a_a] ∧ l_szRuleS_L1 rest6 k5 c1 = some R) ⟨_, 0, _, _, rfl, (EqL.cons rfl (EqL.cons rfl (EqL.cons rfl (EqL.nil)))).eq, rfl, (.sel (.rd .h rfl .nil)), hF⟩ ?_
  clear hF
  rintro m3 _ _ ⟨g4, k5, rest6, c1, rfl, rfl, hd8, hE, hF⟩
  refine K_ent hE ?_
  clear hE
  refine K_pure (c := crd (RdS 152 rd152) v0_0.v a_a) .h crd_bound (fun hbd13 => ?_)
  rcases rest6 with _ | ⟨x7, rest6⟩
  · have hk9 := List.drop_eq_nil_iff.1 hd8
    have hfe12 : (decide (((k5 : Int) : Int) < (a_a.length : Int))) = false := decide_eq_false (by omega)
    rw [l_szRuleS_L1] at hF
    refine K_in ?_
    refine K_region ?_
    refine C_val (V_move (v := (.int .i64 (k5 : Int))) (.tmp rfl rfl)) ?_
    refine C_val (V_move (v := v0_0.v) (.tmp rfl rfl)) ?_
    refine C_at .h (fun hp => V_lenR (l := a_a.length) sl65 (.tmp rfl rfl) (crd_len hp)) ?_
    refine C_val (V_lss (i := (k5 : Int)) (j := (a_a.length : Int)) (.tmp rfl rfl) (.tmp rfl rfl)) ?_
    refine C_nil ?_
    refine CW_cond (b := (decide (((k5 : Int) : Int) < (a_a.length : Int)))) (.tmp rfl rfl) (fun hb => absurd (hfe12.symm.trans hb) (by decide)) (fun _ => ?_)
    refine CW_exit ?_
    refine CThen_exit ?_
    refine CThen_exit ?_
    refine CIn_self ?_
    refine K_region ?_
    refine C_val (V_move (v := (.int .i64 c1)) (.tmp rfl rfl)) ?_
    refine C_val (V_assign (v := (.int .i64 c1)) (.tmp rfl rfl)) ?_
    refine C_nil ?_
    refine CW_ret ?_
    obtain rfl := Option.some.inj hF
    exact End_ret () (.tmp rfl rfl .nil) rfl (.sel .nil)
  obtain ⟨hk9, hx10, hd11⟩ := drop_cons hd8
  have hfe12 : (decide (((k5 : Int) : Int) < (a_a.length : Int))) = true := decide_eq_true (by omega)
  rw [l_szRuleS_L1] at hF
  refine K_in ?_
  refine K_region ?_
  refine C_val (V_move (v := (.int .i64 (k5 : Int))) (.tmp rfl rfl)) ?_
  refine C_val (V_move (v := v0_0.v) (.tmp rfl rfl)) ?_
  refine C_at .h (fun hp => V_lenR (l := a_a.length) sl65 (.tmp rfl rfl) (crd_len hp)) ?_
  refine C_val (V_lss (i := (k5 : Int)) (j := (a_a.length : Int)) (.tmp rfl rfl) (.tmp rfl rfl)) ?_
  refine C_nil ?_
  refine CW_cond (b := (decide (((k5 : Int) : Int) < (a_a.length : Int)))) (.tmp rfl rfl) (fun _ => ?_) (fun hb => absurd (hfe12.symm.trans hb) (by decide))
  refine CW_skip ?_
  refine K_block ?_
  refine K_region ?_
  refine C_val (V_move (v := v0_0.v) (.tmp rfl rfl)) ?_
  refine C_val (V_move (v := (.int .i64 (k5 : Int))) (.tmp rfl rfl)) ?_
  refine C_idx (a := x7) sl65 ty152.sz (.tmp rfl rfl) (.tmp rfl rfl) .h (Int.natCast_nonneg k5) hx10 (fun k14 j15 => ?_)
  refine C_ldA1 (ul152_0_152 x7) ag152 ty152.sz rfl (.tmp rfl rfl) .h la152_0_152 (fun p16 => ?_)
  refine C_val (V_move (v := (.int .i64 c1)) (.tmp rfl rfl)) ?_
  obtain ⟨r17, hx18, hF⟩ := bind_some hF
  refine C_x0 (.rd .h rfl .nil) (X_callS cf128 (.cons (.tmp rfl rfl) (.cons (.tmp rfl rfl) .nil)) (l_szRule_ok x7 p16 c1 _ hx18)) (fun _ => ?_)
  refine C_val (V_assign (v := (.int .i64 r17)) (.tmp rfl rfl)) ?_
  refine C_nil ?_
  refine K_region ?_
  refine C_val (V_move (v := (.int .i64 r17)) (.tmp rfl rfl)) ?_
  refine C_val (V_lss (i := r17) (j := 0) (.tmp rfl rfl) (.int _ _)) ?_
  refine C_nil ?_
  refine CW_cond (b := (decide ((r17 : Int) < 0))) (.tmp rfl rfl) (fun hb21 => ?_) (fun hb21 => ?_)
  · rw [if_pos hb21] at hF
    refine K_region ?_
    refine C_val (V_assign (v := (.int .i64 (-1))) (.int _ _)) ?_
    refine C_nil ?_
    refine CW_ret ?_
    obtain rfl := Option.some.inj hF
    exact End_ret () (.tmp rfl rfl .nil) rfl (.sel .nil)
  rw [if_neg (by rw [hb21]; exact Bool.false_ne_true)] at hF
  refine CW_skip ?_
  refine CW_region ?_
  refine C_val (V_move (v := (.int .i64 (k5 : Int))) (.tmp rfl rfl)) ?_
  refine C_val (V_add (i := (k5 : Int)) (j := 1) (.tmp rfl rfl) (.int _ _)) ?_
  refine C_val (V_assign (v := (.int .i64 (IntKind.i64.wrap ((k5 : Int) + 1)))) (.tmp rfl rfl)) ?_
  refine C_nil ?_
  have hw20 : IntKind.i64.wrap ((k5 : Int) + 1) = ((k5 + 1 : Nat) : Int) := by rw [wrap_in (by omega) (by omega)]; rfl
  rw [hw20]
  exact ⟨_, Nat.lt_succ_self _, _, k5 + 1, rest6, _, rfl, (EqL.cons rfl (EqL.cons rfl (EqL.cons rfl (EqL.nil)))).eq, hd11, (.sel (.rd (.t (.t .h)) rfl .nil)), hF⟩

/-! laws.szFact -/
def l_szFact (a_a : Fact) (a_left : Int) : Option (Int) :=
  (l_szIntS a_a.Values a_left).bind fun r2 =>
  if (decide ((r2 : Int) < 0)) then (
    some (-1))
  else (
    some r2)
theorem l_szFact_ok (a_a : Fact) (v0_1 : Sv) (a_left : Int) (R : Int) (hF : l_szFact a_a a_left = some R) :
    Fw.Spec Try.prog 159 [(.agg [(.int .i64 a_a.Rel), v0_1.v].toArray), (.int .i64 a_left)] [crd (RdS 3 rdInt) v0_1.v a_a.Values] (fun _ : Unit => (.int .i64 R)) (fun _ => []) := by
  refine Spec_enter (n := 12) Try.func159 rfl rfl (rs := [.tmp 4]) rfl rfl rfl ?_
  intro H0 F0
  unfold l_szFact at hF
  refine K_region ?_
  refine C_newR rfl (N_box (g := false) (v := (.agg [(.int .i64 a_a.Rel), v0_1.v].toArray)) ty188.sz (.tmp rfl rfl) rfl) (fun k1 => ?_)
  refine C_val (V_assign (v := (.int .i64 0)) (.int _ _)) ?_
  refine C_nil ?_
  refine K_region ?_
  refine C_val (V_fieldAddr (off := 1) fd188_1 (.tmp rfl rfl)) ?_
  refine C_at .h (fun hp => V_load (v := v0_1.v) ag45 (.tmp rfl rfl) hp.2 rfl rfl) ?_
  refine C_val (V_move (v := (.int .i64 a_left)) (.tmp rfl rfl)) ?_
  obtain ⟨r2, hx3, hF⟩ := bind_some hF
  refine C_x0 (.rd (.t .h) rfl .nil) (X_callS cf82 (.cons (.tmp rfl rfl) (.cons (.tmp rfl rfl) .nil)) (l_szIntS_ok a_a.Values v0_1 a_left _ hx3)) (fun _ => ?_)
  refine C_val (V_assign (v := (.int .i64 r2)) (.tmp rfl rfl)) ?_
  refine C_nil ?_
  refine K_in ?_
  refine K_region ?_
  refine C_val (V_move (v := (.int .i64 r2)) (.tmp rfl rfl)) ?_
  refine C_val (V_lss (i := r2) (j := 0) (.tmp rfl rfl) (.int _ _)) ?_
  refine C_nil ?_
  refine CW_cond (b := (decide ((r2 : Int) < 0))) (.tmp rfl rfl) (fun hb5 => ?_) (fun hb5 => ?_)
  · rw [if_pos hb5] at hF
    refine K_region ?_
    refine C_val (V_assign (v := (.int .i64 (-1))) (.int _ _)) ?_
    refine C_nil ?_
    refine CW_ret ?_
    obtain rfl := Option.some.inj hF
    exact End_ret () (.tmp rfl rfl .nil) rfl (.sel .nil)
  rw [if_neg (by rw [hb5]; exact Bool.false_ne_true)] at hF
  refine CW_skip ?_
  refine K_region ?_
  refine C_val (V_move (v := (.int .i64 r2)) (.tmp rfl rfl)) ?_
  refine C_val (V_assign (v := (.int .i64 r2)) (.tmp rfl rfl)) ?_
  refine C_nil ?_
  refine CW_ret ?_
  obtain rfl := Option.some.inj hF
  exact End_ret () (.tmp rfl rfl .nil) rfl (.sel .nil)

/-! laws.szFactS -/
def l_szFactS_L1 : List Fact → Nat → Int → Option (Int)
  | [], k5, c1 => some c1
  | x7 :: rest6, k5, c1 => (l_szFact x7 c1).bind fun r17 =>
    if (decide ((r17 : Int) < 0)) then (
      some (-1))
    else (
      l_szFactS_L1 rest6 (k5 + 1) r17)
def l_szFactS (a_a : List Fact) (a_left : Int) : Option (Int) :=
  if (decide (((IntKind.i64.wrap (a_left - (a_a.length : Int))) : Int) < 0)) then (
    some (-1))
  else (
    l_szFactS_L1 a_a 0 (IntKind.i64.wrap (a_left - (a_a.length : Int))))
theorem l_szFactS_ok (a_a : List Fact) (v0_0 : Sv) (a_left : Int) (R : Int) (hF : l_szFactS a_a a_left = some R) :
    Fw.Spec Try.prog 129 [v0_0.v, (.int .i64 a_left)] [crd (RdS 188 rd188) v0_0.v a_a] (fun _ : Unit => (.int .i64 R)) (fun _ => []) := by
  refine Spec_enter (n := 27) Try.func129 rfl rfl (rs := [.tmp 4]) rfl rfl rfl ?_
  intro H0 F0
  unfold l_szFactS at hF
  refine K_region ?_
  refine C_val (V_assign (v := (.int .i64 0)) (.int _ _)) ?_
  refine C_nil ?_
  refine K_region ?_
  refine C_val (V_move (v := (.int .i64 a_left)) (.tmp rfl rfl)) ?_
  refine C_val (V_move (v := v0_0.v) (.tmp rfl rfl)) ?_
  refine C_at .h (fun hp => V_lenR (l := a_a.length) sl66 (.tmp rfl rfl) (crd_len hp)) ?_
  refine C_val (V_sub (i := a_left) (j := (a_a.length : Int)) (.tmp rfl rfl) (.tmp rfl rfl)) ?_
  refine C_val (V_assign (v := (.int .i64 (IntKind.i64.wrap (a_left - (a_a.length : Int))))) (.tmp rfl rfl)) ?_
  refine C_nil ?_
  refine K_in ?_
  refine K_region ?_
  refine C_val (V_move (v := (.int .i64 (IntKind.i64.wrap (a_left - (a_a.length : Int))))) (.tmp rfl rfl)) ?_
  refine C_val (V_lss (i := (IntKind.i64.wrap (a_left - (a_a.length : Int)))) (j := 0) (.tmp rfl rfl) (.int _ _)) ?_
  refine C_nil ?_
  refine CW_cond (b := (decide (((IntKind.i64.wrap (a_left - (a_a.length : Int))) : Int) < 0))) (.tmp rfl rfl) (fun hb22 => ?_) (fun hb22 => ?_)
  · rw [if_pos hb22] at hF
    refine K_region ?_
    refine C_val (V_assign (v := (.int .i64 (-1))) (.int _ _)) ?_
    refine C_nil ?_
    refine CW_ret ?_
    obtain rfl := Option.some.inj hF
    exact End_ret () (.tmp rfl rfl .nil) rfl (.sel .nil)
  rw [if_neg (by rw [hb22]; exact Bool.false_ne_true)] at hF
  refine CW_skip ?_
  refine K_in ?_
  refine K_region ?_
  refine C_val (V_assign (v := (.int .i64 0)) (.int _ _)) ?_
  refine C_nil ?_
  refine CW_block ?_
  refine CW_loop (m := a_a.length) (fun m3 f' cs' => ∃ (g : Fr) (k5 : Nat) (rest6 : List Fact) (c1 : Int), m3 = rest6.length ∧ f' = updL g [(0, v0_0.v), (1, (.int .i64 c1)), (5, (.int .i64 (k5 : Int)))] ∧ List.drop k5 a_a = rest6 ∧ Ent cs' [crd (RdS 188 rd188) v0_0.v a_a] ∧ l_szFactS_L1 rest6 k5 c1 = some R) ⟨_, 0, _, _, rfl, (EqL.cons rfl (EqL.cons rfl (EqL.cons rfl (EqL.nil)))).eq, rfl, (.sel (.rd .h rfl .nil)), hF⟩ ?_
  clear hF
  rintro m3 _ _ ⟨g4, k5, rest6, c1, rfl, rfl, hd8, hE, hF⟩
  refine K_ent hE ?_
  clear hE
  refine K_pure (c := crd (RdS 188 rd188) v0_0.v a_a) .h crd_bound (fun hbd13 => ?_)
  rcases rest6 with _ | ⟨x7, rest6⟩
  · have hk9 := List.drop_eq_nil_iff.1 hd8
    have hfe12 : (decide (((k5 : Int) : Int) < (a_a.length : Int))) = false := decide_eq_false (by omega)
    rw [l_szFactS_L1] at hF
    refine K_in ?_
    refine K_region ?_
    refine C_val (V_move (v := (.int .i64 (k5 : Int))) (.tmp rfl rfl)) ?_
    refine C_val (V_move (v := v0_0.v) (.tmp rfl rfl)) ?_
    refine C_at .h (fun hp => V_lenR (l := a_a.length) sl66 (.tmp rfl rfl) (crd_len hp)) ?_
    refine C_val (V_lss (i := (k5 : Int)) (j := (a_a.length : Int)) (.tmp rfl rfl) (.tmp rfl rfl)) ?_
    refine C_nil ?_
    refine CW_cond (b := (decide (((k5 : Int) : Int) < (a_a.length : Int)))) (.tmp rfl rfl) (fun hb => absurd (hfe12.symm.trans hb) (by decide)) (fun _ => ?_)
    refine CW_exit ?_
    refine CThen_exit ?_
    refine CThen_exit ?_
    refine CIn_self ?_
    refine K_region ?_
    refine C_val (V_move (v := (.int .i64 c1)) (.tmp rfl rfl)) ?_
    refine C_val (V_assign (v := (.int .i64 c1)) (.tmp rfl rfl)) ?_
    refine C_nil ?_
    refine CW_ret ?_
    obtain rfl := Option.some.inj hF
    exact End_ret () (.tmp rfl rfl .nil) rfl (.sel .nil)
  obtain ⟨hk9, hx10, hd11⟩ := drop_cons hd8
  have hfe12 : (decide (((k5 : Int) : Int) < (a_a.length : Int))) = true := decide_eq_true (by omega)
  rw [l_szFactS_L1] at hF
  refine K_in ?_
  refine K_region ?_
  refine C_val (V_move (v := (.int .i64 (k5 : Int))) (.tmp rfl rfl)) ?_
  refine C_val (V_move (v := v0_0.v) (.tmp rfl rfl)) ?_
  refine C_at .h (fun hp => V_lenR (l := a_a.length) sl66 (.tmp rfl rfl) (crd_len hp)) ?_
  refine C_val (V_lss (i := (k5 : Int)) (j := (a_a.length : Int)) (.tmp rfl rfl) (.tmp rfl rfl)) ?_
  refine C_nil ?_
  refine CW_cond (b := (decide (((k5 : Int) : Int) < (a_a.length : Int)))) (.tmp rfl rfl) (fun _ => ?_) (fun hb => absurd (hfe12.symm.trans hb) (by decide))
  refine CW_skip ?_
  refine K_block ?_
  refine K_region ?_
  refine C_val (V_move (v := v0_0.v) (.tmp rfl rfl)) ?_
  refine C_val (V_move (v := (.int .i64 (k5 : Int))) (.tmp rfl rfl)) ?_
  refine C_idx (a := x7) sl66 ty188.sz (.tmp rfl rfl) (.tmp rfl rfl) .h (Int.natCast_nonneg k5) hx10 (fun k14 j15 => ?_)
  refine C_ldA1 (ul188_0_188 x7) ag188 ty188.sz rfl (.tmp rfl rfl) .h la188_0_188 (fun p16 => ?_)
  refine C_val (V_move (v := (.int .i64 c1)) (.tmp rfl rfl)) ?_
  obtain ⟨r17, hx18, hF⟩ := bind_some hF
  refine C_x0 (.rd .h rfl .nil) (X_callS cf159 (.cons (.tmp rfl rfl) (.cons (.tmp rfl rfl) .nil)) (l_szFact_ok x7 p16 c1 _ hx18)) (fun _ => ?_)
  refine C_val (V_assign (v := (.int .i64 r17)) (.tmp rfl rfl)) ?_
  refine C_nil ?_
  refine K_region ?_
  refine C_val (V_move (v := (.int .i64 r17)) (.tmp rfl rfl)) ?_
  refine C_val (V_lss (i := r17) (j := 0) (.tmp rfl rfl) (.int _ _)) ?_
  refine C_nil ?_
  refine CW_cond (b := (decide ((r17 : Int) < 0))) (.tmp rfl rfl) (fun hb21 => ?_) (fun hb21 => ?_)
  · rw [if_pos hb21] at hF
    refine K_region ?_
    refine C_val (V_assign (v := (.int .i64 (-1))) (.int _ _)) ?_
    refine C_nil ?_
    refine CW_ret ?_
    obtain rfl := Option.some.inj hF
    exact End_ret () (.tmp rfl rfl .nil) rfl (.sel .nil)
  rw [if_neg (by rw [hb21]; exact Bool.false_ne_true)] at hF
  refine CW_skip ?_
  refine CW_region ?_
  refine C_val (V_move (v := (.int .i64 (k5 : Int))) (.tmp rfl rfl)) ?_
  refine C_val (V_add (i := (k5 : Int)) (j := 1) (.tmp rfl rfl) (.int _ _)) ?_
  refine C_val (V_assign (v := (.int .i64 (IntKind.i64.wrap ((k5 : Int) + 1)))) (.tmp rfl rfl)) ?_
  refine C_nil ?_
  have hw20 : IntKind.i64.wrap ((k5 : Int) + 1) = ((k5 + 1 : Nat) : Int) := by rw [wrap_in (by omega) (by omega)]; rfl
  rw [hw20]
  exact ⟨_, Nat.lt_succ_self _, _, k5 + 1, rest6, _, rfl, (EqL.cons rfl (EqL.cons rfl (EqL.cons rfl (EqL.nil)))).eq, hd11, (.sel (.rd (.t (.t .h)) rfl .nil)), hF⟩

/-! laws.szSource -/
def l_szSource (a_a : Source) (a_left : Int) : Option (Int) :=
  (l_szFactS a_a.Facts a_left).bind fun r2 =>
  if (decide ((r2 : Int) < 0)) then (
    some (-1))
  else (
    some r2)
theorem l_szSource_ok (a_a : Source) (v0_0 : Sv) (a_left : Int) (R : Int) (hF : l_szSource a_a a_left = some R) :
    Fw.Spec Try.prog 84 [(.agg [v0_0.v, (.int .i64 a_a.Version)].toArray), (.int .i64 a_left)] [crd (RdS 188 rd188) v0_0.v a_a.Facts] (fun _ : Unit => (.int .i64 R)) (fun _ => []) := by
  refine Spec_enter (n := 12) Try.func84 rfl rfl (rs := [.tmp 4]) rfl rfl rfl ?_
  intro H0 F0
  unfold l_szSource at hF
  refine K_region ?_
  refine C_newR rfl (N_box (g := false) (v := (.agg [v0_0.v, (.int .i64 a_a.Version)].toArray)) ty68.sz (.tmp rfl rfl) rfl) (fun k1 => ?_)
  refine C_val (V_assign (v := (.int .i64 0)) (.int _ _)) ?_
  refine C_nil ?_
  refine K_region ?_
  refine C_val (V_fieldAddr (off := 0) fd68_0 (.tmp rfl rfl)) ?_
  refine C_at .h (fun hp => V_load (v := v0_0.v) ag66 (.tmp rfl rfl) hp.2 rfl rfl) ?_
  refine C_val (V_move (v := (.int .i64 a_left)) (.tmp rfl rfl)) ?_
  obtain ⟨r2, hx3, hF⟩ := bind_some hF
  refine C_x0 (.rd (.t .h) rfl .nil) (X_callS cf129 (.cons (.tmp rfl rfl) (.cons (.tmp rfl rfl) .nil)) (l_szFactS_ok a_a.Facts v0_0 a_left _ hx3)) (fun _ => ?_)
  refine C_val (V_assign (v := (.int .i64 r2)) (.tmp rfl rfl)) ?_
  refine C_nil ?_
  refine K_in ?_
  refine K_region ?_
  refine C_val (V_move (v := (.int .i64 r2)) (.tmp rfl rfl)) ?_
  refine C_val (V_lss (i := r2) (j := 0) (.tmp rfl rfl) (.int _ _)) ?_
  refine C_nil ?_
  refine CW_cond (b := (decide ((r2 : Int) < 0))) (.tmp rfl rfl) (fun hb5 => ?_) (fun hb5 => ?_)
  · rw [if_pos hb5] at hF
    refine K_region ?_
    refine C_val (V_assign (v := (.int .i64 (-1))) (.int _ _)) ?_
    refine C_nil ?_
    refine CW_ret ?_
    obtain rfl := Option.some.inj hF
    exact End_ret () (.tmp rfl rfl .nil) rfl (.sel .nil)
  rw [if_neg (by rw [hb5]; exact Bool.false_ne_true)] at hF
  refine CW_skip ?_
  refine K_region ?_
  refine C_val (V_move (v := (.int .i64 r2)) (.tmp rfl rfl)) ?_
  refine C_val (V_assign (v := (.int .i64 r2)) (.tmp rfl rfl)) ?_
  refine C_nil ?_
  refine CW_ret ?_
  obtain rfl := Option.some.inj hF
  exact End_ret () (.tmp rfl rfl .nil) rfl (.sel .nil)

/-! laws.szAccess -/
def l_szAccess (a_a : Access) (a_left : Int) : Option (Int) :=
  (l_szIntS a_a.Values a_left).bind fun r2 =>
  if (decide ((r2 : Int) < 0)) then (
    some (-1))
  else (
    some r2)
theorem l_szAccess_ok (a_a : Access) (v0_1 : Sv) (a_left : Int) (R : Int) (hF : l_szAccess a_a a_left = some R) :
    Fw.Spec Try.prog 50 [(.agg [(.int .i64 a_a.Method), v0_1.v].toArray), (.int .i64 a_left)] [crd (RdS 3 rdInt) v0_1.v a_a.Values] (fun _ : Unit => (.int .i64 R)) (fun _ => []) := by
  refine Spec_enter (n := 12) Try.func50 rfl rfl (rs := [.tmp 4]) rfl rfl rfl ?_
  intro H0 F0
  unfold l_szAccess at hF
  refine K_region ?_
  refine C_newR rfl (N_box (g := false) (v := (.agg [(.int .i64 a_a.Method), v0_1.v].toArray)) ty98.sz (.tmp rfl rfl) rfl) (fun k1 => ?_)
  refine C_val (V_assign (v := (.int .i64 0)) (.int _ _)) ?_
  refine C_nil ?_
  refine K_region ?_
  refine C_val (V_fieldAddr (off := 1) fd98_1 (.tmp rfl rfl)) ?_
  refine C_at .h (fun hp => V_load (v := v0_1.v) ag45 (.tmp rfl rfl) hp.2 rfl rfl) ?_
  refine C_val (V_move (v := (.int .i64 a_left)) (.tmp rfl rfl)) ?_
  obtain ⟨r2, hx3, hF⟩ := bind_some hF
  refine C_x0 (.rd (.t .h) rfl .nil) (X_callS cf82 (.cons (.tmp rfl rfl) (.cons (.tmp rfl rfl) .nil)) (l_szIntS_ok a_a.Values v0_1 a_left _ hx3)) (fun _ => ?_)
  refine C_val (V_assign (v := (.int .i64 r2)) (.tmp rfl rfl)) ?_
  refine C_nil ?_
  refine K_in ?_
  refine K_region ?_
  refine C_val (V_move (v := (.int .i64 r2)) (.tmp rfl rfl)) ?_
  refine C_val (V_lss (i := r2) (j := 0) (.tmp rfl rfl) (.int _ _)) ?_
  refine C_nil ?_
  refine CW_cond (b := (decide ((r2 : Int) < 0))) (.tmp rfl rfl) (fun hb5 => ?_) (fun hb5 => ?_)
  · rw [if_pos hb5] at hF
    refine K_region ?_
    refine C_val (V_assign (v := (.int .i64 (-1))) (.int _ _)) ?_
    refine C_nil ?_
    refine CW_ret ?_
    obtain rfl := Option.some.inj hF
    exact End_ret () (.tmp rfl rfl .nil) rfl (.sel .nil)
  rw [if_neg (by rw [hb5]; exact Bool.false_ne_true)] at hF
  refine CW_skip ?_
  refine K_region ?_
  refine C_val (V_move (v := (.int .i64 r2)) (.tmp rfl rfl)) ?_
  refine C_val (V_assign (v := (.int .i64 r2)) (.tmp rfl rfl)) ?_
  refine C_nil ?_
  refine CW_ret ?_
  obtain rfl := Option.some.inj hF
  exact End_ret () (.tmp rfl rfl .nil) rfl (.sel .nil)

/-! laws.szStored -/
def l_szStored (a_a : Stored) (a_left : Int) : Option (Int) :=
  (l_szAccess a_a.Access a_left).bind fun r2 =>
  if (decide ((r2 : Int) < 0)) then (
    some (-1))
  else (
    (l_szFactS a_a.Facts r2).bind fun r5 =>
    if (decide ((r5 : Int) < 0)) then (
      some (-1))
    else (
      some r5))
theorem l_szStored_ok (a_a : Stored) (v0_1 : Sv) (v0_2 : Sv) (a_left : Int) (R : Int) (hF : l_szStored a_a a_left = some R) :
    Fw.Spec Try.prog 160 [(.agg [(.int .i64 a_a.Access.Method), v0_1.v, v0_2.v, (.int .i64 a_a.At)].toArray), (.int .i64 a_left)] [crd (RdS 3 rdInt) v0_1.v a_a.Access.Values, crd (RdS 188 rd188) v0_2.v a_a.Facts] (fun _ : Unit => (.int .i64 R)) (fun _ => []) := by
  refine Spec_enter (n := 18) Try.func160 rfl rfl (rs := [.tmp 4]) rfl rfl rfl ?_
  intro H0 F0
  unfold l_szStored at hF
  refine K_region ?_
  refine C_newR rfl (N_box (g := false) (v := (.agg [(.int .i64 a_a.Access.Method), v0_1.v, v0_2.v, (.int .i64 a_a.At)].toArray)) ty191.sz (.tmp rfl rfl) rfl) (fun k1 => ?_)
  refine C_val (V_assign (v := (.int .i64 0)) (.int _ _)) ?_
  refine C_nil ?_
  refine K_region ?_
  refine C_val (V_fieldAddr (off := 0) fd191_0 (.tmp rfl rfl)) ?_
  refine C_at .h (fun hp => V_loadA (s := 2) (l := [(.int .i64 a_a.Access.Method), v0_1.v]) ag98 ty98.sz (.tmp rfl rfl) hp.2 rfl (by decide) (Nat.le_of_ble_eq_true rfl) rfl) ?_
  refine C_val (V_move (v := (.int .i64 a_left)) (.tmp rfl rfl)) ?_
  obtain ⟨r2, hx3, hF⟩ := bind_some hF
  refine C_x0 (.rd (.t .h) rfl .nil) (X_callS cf50 (.cons (.tmp rfl rfl) (.cons (.tmp rfl rfl) .nil)) (l_szAccess_ok a_a.Access v0_1 a_left _ hx3)) (fun _ => ?_)
  refine C_val (V_assign (v := (.int .i64 r2)) (.tmp rfl rfl)) ?_
  refine C_nil ?_
  refine K_in ?_
  refine K_region ?_
  refine C_val (V_move (v := (.int .i64 r2)) (.tmp rfl rfl)) ?_
  refine C_val (V_lss (i := r2) (j := 0) (.tmp rfl rfl) (.int _ _)) ?_
  refine C_nil ?_
  refine CW_cond (b := (decide ((r2 : Int) < 0))) (.tmp rfl rfl) (fun hb9 => ?_) (fun hb9 => ?_)
  · rw [if_pos hb9] at hF
    refine K_region ?_
    refine C_val (V_assign (v := (.int .i64 (-1))) (.int _ _)) ?_
    refine C_nil ?_
    refine CW_ret ?_
    obtain rfl := Option.some.inj hF
    exact End_ret () (.tmp rfl rfl .nil) rfl (.sel .nil)
  rw [if_neg (by rw [hb9]; exact Bool.false_ne_true)] at hF
  refine CW_skip ?_
  refine K_region ?_
  refine C_val (V_fieldAddr (off := 2) fd191_1 (.tmp rfl rfl)) ?_
  refine C_at .h (fun hp => V_load (v := v0_2.v) ag66 (.tmp rfl rfl) hp.2 rfl rfl) ?_
  refine C_val (V_move (v := (.int .i64 r2)) (.tmp rfl rfl)) ?_
  obtain ⟨r5, hx6, hF⟩ := bind_some hF
  refine C_x0 (.rd (.t (.t .h)) rfl .nil) (X_callS cf129 (.cons (.tmp rfl rfl) (.cons (.tmp rfl rfl) .nil)) (l_szFactS_ok a_a.Facts v0_2 r2 _ hx6)) (fun _ => ?_)
  refine C_val (V_assign (v := (.int .i64 r5)) (.tmp rfl rfl)) ?_
  refine C_nil ?_
  refine K_in ?_
  refine K_region ?_
  refine C_val (V_move (v := (.int .i64 r5)) (.tmp rfl rfl)) ?_
  refine C_val (V_lss (i := r5) (j := 0) (.tmp rfl rfl) (.int _ _)) ?_
  refine C_nil ?_
  refine CW_cond (b := (decide ((r5 : Int) < 0))) (.tmp rfl rfl) (fun hb8 => ?_) (fun hb8 => ?_)
  · rw [if_pos hb8] at hF
    refine K_region ?_
    refine C_val (V_assign (v := (.int .i64 (-1))) (.int _ _)) ?_
    refine C_nil ?_
    refine CW_ret ?_
    obtain rfl := Option.some.inj hF
    exact End_ret () (.tmp rfl rfl .nil) rfl (.sel .nil)
  rw [if_neg (by rw [hb8]; exact Bool.false_ne_true)] at hF
  refine CW_skip ?_
  refine K_region ?_
  refine C_val (V_move (v := (.int .i64 r5)) (.tmp rfl rfl)) ?_
  refine C_val (V_assign (v := (.int .i64 r5)) (.tmp rfl rfl)) ?_
  refine C_nil ?_
  refine CW_ret ?_
  obtain rfl := Option.some.inj hF
  exact End_ret () (.tmp rfl rfl .nil) rfl (.sel .nil)

/-! laws.szStoredS -/
def l_szStoredS_L1 : List Stored → Nat → Int → Option (Int)
  | [], k5, c1 => some c1
  | x7 :: rest6, k5, c1 => (l_szStored x7 c1).bind fun r17 =>
    if (decide ((r17 : Int) < 0)) then (
      some (-1))
    else (
      l_szStoredS_L1 rest6 (k5 + 1) r17)
def l_szStoredS (a_a : List Stored) (a_left : Int) : Option (Int) :=
  if (decide (((IntKind.i64.wrap (a_left - (a_a.length : Int))) : Int) < 0)) then (
    some (-1))
  else (
    l_szStoredS_L1 a_a 0 (IntKind.i64.wrap (a_left - (a_a.length : Int))))
theorem l_szStoredS_ok (a_a : List Stored) (v0_0 : Sv) (a_left : Int) (R : Int) (hF : l_szStoredS a_a a_left = some R) :
    Fw.Spec Try.prog 130 [v0_0.v, (.int .i64 a_left)] [crd (RdS 191 rd191) v0_0.v a_a] (fun _ : Unit => (.int .i64 R)) (fun _ => []) := by
  refine Spec_enter (n := 27) Try.func130 rfl rfl (rs := [.tmp 4]) rfl rfl rfl ?_
  intro H0 F0
  unfold l_szStoredS at hF
  refine K_region ?_
  refine C_val (V_assign (v := (.int .i64 0)) (.int _ _)) ?_
  refine C_nil ?_
  refine K_region ?_
  refine C_val (V_move (v := (.int .i64 a_left)) (.tmp rfl rfl)) ?_
  refine C_val (V_move (v := v0_0.v) (.tmp rfl rfl)) ?_
  refine C_at .h (fun hp => V_lenR (l := a_a.length) sl69 (.tmp rfl rfl) (crd_len hp)) ?_
  refine C_val (V_sub (i := a_left) (j := (a_a.length : Int)) (.tmp rfl rfl) (.tmp rfl rfl)) ?_
  refine C_val (V_assign (v := (.int .i64 (IntKind.i64.wrap (a_left - (a_a.length : Int))))) (.tmp rfl rfl)) ?_
  refine C_nil ?_
  refine K_in ?_
  refine K_region ?_
  refine C_val (V_move (v := (.int .i64 (IntKind.i64.wrap (a_left - (a_a.length : Int))))) (.tmp rfl rfl)) ?_
  refine C_val (V_lss (i := (IntKind.i64.wrap (a_left - (a_a.length : Int)))) (j := 0) (.tmp rfl rfl) (.int _ _)) ?_
  refine C_nil ?_
  refine CW_cond (b := (decide (((IntKind.i64.wrap (a_left - (a_a.length : Int))) : Int) < 0))) (.tmp rfl rfl) (fun hb22 => ?_) (fun hb22 => ?_)
  · rw [if_pos hb22] at hF
    refine K_region ?_
    refine C_val (V_assign (v := (.int .i64 (-1))) (.int _ _)) ?_
    refine C_nil ?_
    refine CW_ret ?_
    obtain rfl := Option.some.inj hF
    exact End_ret () (.tmp rfl rfl .nil) rfl (.sel .nil)
  rw [if_neg (by rw [hb22]; exact Bool.false_ne_true)] at hF
  refine CW_skip ?_
  refine K_in ?_
  refine K_region ?_
  refine C_val (V_assign (v := (.int .i64 0)) (.int _ _)) ?_
  refine C_nil ?_
  refine CW_block ?_
  refine CW_loop (m := a_a.length) (fun m3 f' cs' => ∃ (g : Fr) (k5 : Nat) (rest6 : List Stored) (c1 : Int), m3 = rest6.length ∧ f' = updL g [(0, v0_0.v), (1, (.int .i64 c1)), (5, (.int .i64 (k5 : Int)))] ∧ List.drop k5 a_a = rest6 ∧ Ent cs' [crd (RdS 191 rd191) v0_0.v a_a] ∧ l_szStoredS_L1 rest6 k5 c1 = some R) ⟨_, 0, _, _, rfl, (EqL.cons rfl (EqL.cons rfl (EqL.cons rfl (EqL.nil)))).eq, rfl, (.sel (.rd .h rfl .nil)), hF⟩ ?_
  clear hF
  rintro m3 _ _ ⟨g4, k5, rest6, c1, rfl, rfl, hd8, hE, hF⟩
  refine K_ent hE ?_
  clear hE
  refine K_pure (c := crd (RdS 191 rd191) v0_0.v a_a) .h crd_bound (fun hbd13 => ?_)
  rcases rest6 with _ | ⟨x7, rest6⟩
  · have hk9 := List.drop_eq_nil_iff.1 hd8
    have hfe12 : (decide (((k5 : Int) : Int) < (a_a.length : Int))) = false := decide_eq_false (by omega)
    rw [l_szStoredS_L1] at hF
    refine K_in ?_
    refine K_region ?_
    refine C_val (V_move (v := (.int .i64 (k5 : Int))) (.tmp rfl rfl)) ?_
    refine C_val (V_move (v := v0_0.v) (.tmp rfl rfl)) ?_
    refine C_at .h (fun hp => V_lenR (l := a_a.length) sl69 (.tmp rfl rfl) (crd_len hp)) ?_
    refine C_val (V_lss (i := (k5 : Int)) (j := (a_a.length : Int)) (.tmp rfl rfl) (.tmp rfl rfl)) ?_
    refine C_nil ?_
    refine CW_cond (b := (decide (((k5 : Int) : Int) < (a_a.length : Int)))) (.tmp rfl rfl) (fun hb => absurd (hfe12.symm.trans hb) (by decide)) (fun _ => ?_)
    refine CW_exit ?_
    refine CThen_exit ?_
    refine CThen_exit ?_
    refine CIn_self ?_
    refine K_region ?_
    refine C_val (V_move (v := (.int .i64 c1)) (.tmp rfl rfl)) ?_
    refine C_val (V_assign (v := (.int .i64 c1)) (.tmp rfl rfl)) ?_
    refine C_nil ?_
    refine CW_ret ?_
    obtain rfl := Option.some.inj hF
    exact End_ret () (.tmp rfl rfl .nil) rfl (.sel .nil)
  obtain ⟨hk9, hx10, hd11⟩ := drop_cons hd8
  have hfe12 : (decide (((k5 : Int) : Int) < (a_a.length : Int))) = true := decide_eq_true (by omega)
  rw [l_szStoredS_L1] at hF
  refine K_in ?_
  refine K_region ?_
  refine C_val (V_move (v := (.int .i64 (k5 : Int))) (.tmp rfl rfl)) ?_
  refine C_val (V_move (v := v0_0.v) (.tmp rfl rfl)) ?_
  refine C_at .h (fun hp => V_lenR (l := a_a.length) sl69 (.tmp rfl rfl) (crd_len hp)) ?_
  refine C_val (V_lss (i := (k5 : Int)) (j := (a_a.length : Int)) (.tmp rfl rfl) (.tmp rfl rfl)) ?_
  refine C_nil ?_
  refine CW_cond (b := (decide (((k5 : Int) : Int) < (a_a.length : Int)))) (.tmp rfl rfl) (fun _ => ?_) (fun hb => absurd (hfe12.symm.trans hb) (by decide))
  refine CW_skip ?_
  refine K_block ?_
  refine K_region ?_
  refine C_val (V_move (v := v0_0.v) (.tmp rfl rfl)) ?_
  refine C_val (V_move (v := (.int .i64 (k5 : Int))) (.tmp rfl rfl)) ?_
  refine C_idx (a := x7) sl69 ty191.sz (.tmp rfl rfl) (.tmp rfl rfl) .h (Int.natCast_nonneg k5) hx10 (fun k14 j15 => ?_)
  refine C_ldA2 (ul191_0_191 x7) ag191 ty191.sz rfl (.tmp rfl rfl) .h la191_0_191 (fun p16 => ?_)
  refine C_val (V_move (v := (.int .i64 c1)) (.tmp rfl rfl)) ?_
  obtain ⟨r17, hx18, hF⟩ := bind_some hF
  refine C_x0 (.rd .h rfl (.rd (.t .h) rfl .nil)) (X_callS cf160 (.cons (.tmp rfl rfl) (.cons (.tmp rfl rfl) .nil)) (l_szStored_ok x7 p16.1 p16.2 c1 _ hx18)) (fun _ => ?_)
  refine C_val (V_assign (v := (.int .i64 r17)) (.tmp rfl rfl)) ?_
  refine C_nil ?_
  refine K_region ?_
  refine C_val (V_move (v := (.int .i64 r17)) (.tmp rfl rfl)) ?_
  refine C_val (V_lss (i := r17) (j := 0) (.tmp rfl rfl) (.int _ _)) ?_
  refine C_nil ?_
  refine CW_cond (b := (decide ((r17 : Int) < 0))) (.tmp rfl rfl) (fun hb21 => ?_) (fun hb21 => ?_)
  · rw [if_pos hb21] at hF
    refine K_region ?_
    refine C_val (V_assign (v := (.int .i64 (-1))) (.int _ _)) ?_
    refine C_nil ?_
    refine CW_ret ?_
    obtain rfl := Option.some.inj hF
    exact End_ret () (.tmp rfl rfl .nil) rfl (.sel .nil)
  rw [if_neg (by rw [hb21]; exact Bool.false_ne_true)] at hF
  refine CW_skip ?_
  refine CW_region ?_
  refine C_val (V_move (v := (.int .i64 (k5 : Int))) (.tmp rfl rfl)) ?_
  refine C_val (V_add (i := (k5 : Int)) (j := 1) (.tmp rfl rfl) (.int _ _)) ?_
  refine C_val (V_assign (v := (.int .i64 (IntKind.i64.wrap ((k5 : Int) + 1)))) (.tmp rfl rfl)) ?_
  refine C_nil ?_
  have hw20 : IntKind.i64.wrap ((k5 : Int) + 1) = ((k5 + 1 : Nat) : Int) := by rw [wrap_in (by omega) (by omega)]; rfl
  rw [hw20]
  exact ⟨_, Nat.lt_succ_self _, _, k5 + 1, rest6, _, rfl, (EqL.cons rfl (EqL.cons rfl (EqL.cons rfl (EqL.nil)))).eq, hd11, (.sel (.rd (.t (.t (.t .h))) rfl .nil)), hF⟩

/-! laws.szCache -/
def l_szCache (a_a : Cache) (a_left : Int) : Option (Int) :=
  (l_szStoredS a_a.Entries a_left).bind fun r2 =>
  if (decide ((r2 : Int) < 0)) then (
    some (-1))
  else (
    some r2)
theorem l_szCache_ok (a_a : Cache) (v0_0 : Sv) (a_left : Int) (R : Int) (hF : l_szCache a_a a_left = some R) :
    Fw.Spec Try.prog 85 [(.agg [v0_0.v, (.int .i64 a_a.Age)].toArray), (.int .i64 a_left)] [crd (RdS 191 rd191) v0_0.v a_a.Entries] (fun _ : Unit => (.int .i64 R)) (fun _ => []) := by
  refine Spec_enter (n := 12) Try.func85 rfl rfl (rs := [.tmp 4]) rfl rfl rfl ?_
  intro H0 F0
  unfold l_szCache at hF
  refine K_region ?_
  refine C_newR rfl (N_box (g := false) (v := (.agg [v0_0.v, (.int .i64 a_a.Age)].toArray)) ty71.sz (.tmp rfl rfl) rfl) (fun k1 => ?_)
  refine C_val (V_assign (v := (.int .i64 0)) (.int _ _)) ?_
  refine C_nil ?_
  refine K_region ?_
  refine C_val (V_fieldAddr (off := 0) fd71_0 (.tmp rfl rfl)) ?_
  refine C_at .h (fun hp => V_load (v := v0_0.v) ag69 (.tmp rfl rfl) hp.2 rfl rfl) ?_
  refine C_val (V_move (v := (.int .i64 a_left)) (.tmp rfl rfl)) ?_
  obtain ⟨r2, hx3, hF⟩ := bind_some hF
  refine C_x0 (.rd (.t .h) rfl .nil) (X_callS cf130 (.cons (.tmp rfl rfl) (.cons (.tmp rfl rfl) .nil)) (l_szStoredS_ok a_a.Entries v0_0 a_left _ hx3)) (fun _ => ?_)
  refine C_val (V_assign (v := (.int .i64 r2)) (.tmp rfl rfl)) ?_
  refine C_nil ?_
  refine K_in ?_
  refine K_region ?_
  refine C_val (V_move (v := (.int .i64 r2)) (.tmp rfl rfl)) ?_
  refine C_val (V_lss (i := r2) (j := 0) (.tmp rfl rfl) (.int _ _)) ?_
  refine C_nil ?_
  refine CW_cond (b := (decide ((r2 : Int) < 0))) (.tmp rfl rfl) (fun hb5 => ?_) (fun hb5 => ?_)
  · rw [if_pos hb5] at hF
    refine K_region ?_
    refine C_val (V_assign (v := (.int .i64 (-1))) (.int _ _)) ?_
    refine C_nil ?_
    refine CW_ret ?_
    obtain rfl := Option.some.inj hF
    exact End_ret () (.tmp rfl rfl .nil) rfl (.sel .nil)
  rw [if_neg (by rw [hb5]; exact Bool.false_ne_true)] at hF
  refine CW_skip ?_
  refine K_region ?_
  refine C_val (V_move (v := (.int .i64 r2)) (.tmp rfl rfl)) ?_
  refine C_val (V_assign (v := (.int .i64 r2)) (.tmp rfl rfl)) ?_
  refine C_nil ?_
  refine CW_ret ?_
  obtain rfl := Option.some.inj hF
  exact End_ret () (.tmp rfl rfl .nil) rfl (.sel .nil)

/-! laws.szAccessS -/
def l_szAccessS_L1 : List Access → Nat → Int → Option (Int)
  | [], k5, c1 => some c1
  | x7 :: rest6, k5, c1 => (l_szAccess x7 c1).bind fun r17 =>
    if (decide ((r17 : Int) < 0)) then (
      some (-1))
    else (
      l_szAccessS_L1 rest6 (k5 + 1) r17)
def l_szAccessS (a_a : List Access) (a_left : Int) : Option (Int) :=
  if (decide (((IntKind.i64.wrap (a_left - (a_a.length : Int))) : Int) < 0)) then (
    some (-1))
  else (
    l_szAccessS_L1 a_a 0 (IntKind.i64.wrap (a_left - (a_a.length : Int))))
theorem l_szAccessS_ok (a_a : List Access) (v0_0 : Sv) (a_left : Int) (R : Int) (hF : l_szAccessS a_a a_left = some R) :
    Fw.Spec Try.prog 15 [v0_0.v, (.int .i64 a_left)] [crd (RdS 98 rd98) v0_0.v a_a] (fun _ : Unit => (.int .i64 R)) (fun _ => []) := by
  refine Spec_enter (n := 27) Try.func15 rfl rfl (rs := [.tmp 4]) rfl rfl rfl ?_
  intro H0 F0
  unfold l_szAccessS at hF
  refine K_region ?_
  refine C_val (V_assign (v := (.int .i64 0)) (.int _ _)) ?_
  refine C_nil ?_
  refine K_region ?_
  refine C_val (V_move (v := (.int .i64 a_left)) (.tmp rfl rfl)) ?_
  refine C_val (V_move (v := v0_0.v) (.tmp rfl rfl)) ?_
  refine C_at .h (fun hp => V_lenR (l := a_a.length) sl30 (.tmp rfl rfl) (crd_len hp)) ?_
  refine C_val (V_sub (i := a_left) (j := (a_a.length : Int)) (.tmp rfl rfl) (.tmp rfl rfl)) ?_
  refine C_val (V_assign (v := (.int .i64 (IntKind.i64.wrap (a_left - (a_a.length : Int))))) (.tmp rfl rfl)) ?_
  refine C_nil ?_
  refine K_in ?_
  refine K_region ?_
  refine C_val (V_move (v := (.int .i64 (IntKind.i64.wrap (a_left - (a_a.length : Int))))) (.tmp rfl rfl)) ?_
  refine C_val (V_lss (i := (IntKind.i64.wrap (a_left - (a_a.length : Int)))) (j := 0) (.tmp rfl rfl) (.int _ _)) ?_
  refine C_nil ?_
  refine CW_cond (b := (decide (((IntKind.i64.wrap (a_left - (a_a.length : Int))) : Int) < 0))) (.tmp rfl rfl) (fun hb22 => ?_) (fun hb22 => ?_)
  · rw [if_pos hb22] at hF
    refine K_region ?_
    refine C_val (V_assign (v := (.int .i64 (-1))) (.int _ _)) ?_
    refine C_nil ?_
    refine CW_ret ?_
    obtain rfl := Option.some.inj hF
    exact End_ret () (.tmp rfl rfl .nil) rfl (.sel .nil)
  rw [if_neg (by rw [hb22]; exact Bool.false_ne_true)] at hF
  refine CW_skip ?_
  refine K_in ?_
  refine K_region ?_
  refine C_val (V_assign (v := (.int .i64 0)) (.int _ _)) ?_
  refine C_nil ?_
  refine CW_block ?_
  refine CW_loop (m := a_a.length) (fun m3 f' cs' => ∃ (g : Fr) (k5 : Nat) (rest6 : List Access) (c1 : Int), m3 = rest6.length ∧ f' = updL g [(0, v0_0.v), (1, (.int .i64 c1)), (5, (.int .i64 (k5 : Int)))] ∧ List.drop k5 a_a = rest6 ∧ Ent cs' [crd (RdS 98 rd98) v0_0.v a_a] ∧ l_szAccessS_L1 rest6 k5 c1 = some R) ⟨_, 0, _, _, rfl, (EqL.cons rfl (EqL.cons rfl (EqL.cons rfl (EqL.nil)))).eq, rfl, (.sel (.rd .h rfl .nil)), hF⟩ ?_
  clear hF
  rintro m3 _ _ ⟨g4, k5, rest6, c1, rfl, rfl, hd8, hE, hF⟩
  refine K_ent hE ?_
  clear hE
  refine K_pure (c := crd (RdS 98 rd98) v0_0.v a_a) .h crd_bound (fun hbd13 => ?_)
  rcases rest6 with _ | ⟨x7, rest6⟩
  · have hk9 := List.drop_eq_nil_iff.1 hd8
    have hfe12 : (decide (((k5 : Int) : Int) < (a_a.length : Int))) = false := decide_eq_false (by omega)
    rw [l_szAccessS_L1] at hF
    refine K_in ?_
    refine K_region ?_
    refine C_val (V_move (v := (.int .i64 (k5 : Int))) (.tmp rfl rfl)) ?_
    refine C_val (V_move (v := v0_0.v) (.tmp rfl rfl)) ?_
    refine C_at .h (fun hp => V_lenR (l := a_a.length) sl30 (.tmp rfl rfl) (crd_len hp)) ?_
    refine C_val (V_lss (i := (k5 : Int)) (j := (a_a.length : Int)) (.tmp rfl rfl) (.tmp rfl rfl)) ?_
    refine C_nil ?_
    refine CW_cond (b := (decide (((k5 : Int) : Int) < (a_a.length : Int)))) (.tmp rfl rfl) (fun hb => absurd (hfe12.symm.trans hb) (by decide)) (fun _ => ?_)
    refine CW_exit ?_
    refine CThen_exit ?_
    refine CThen_exit ?_
    refine CIn_self ?_
    refine K_region ?_
    refine C_val (V_move (v := (.int .i64 c1)) (.tmp rfl rfl)) ?_
    refine C_val (V_assign (v := (.int .i64 c1)) (.tmp rfl rfl)) ?_
    refine C_nil ?_
    refine CW_ret ?_
    obtain rfl := Option.some.inj hF
    exact End_ret () (.tmp rfl rfl .nil) rfl (.sel .nil)
  obtain ⟨hk9, hx10, hd11⟩ := drop_cons hd8
  have hfe12 : (decide (((k5 : Int) : Int) < (a_a.length : Int))) = true := decide_eq_true (by omega)
  rw [l_szAccessS_L1] at hF
  refine K_in ?_
  refine K_region ?_
  refine C_val (V_move (v := (.int .i64 (k5 : Int))) (.tmp rfl rfl)) ?_
  refine C_val (V_move (v := v0_0.v) (.tmp rfl rfl)) ?_
  refine C_at .h (fun hp => V_lenR (l := a_a.length) sl30 (.tmp rfl rfl) (crd_len hp)) ?_
  refine C_val (V_lss (i := (k5 : Int)) (j := (a_a.length : Int)) (.tmp rfl rfl) (.tmp rfl rfl)) ?_
  refine C_nil ?_
  refine CW_cond (b := (decide (((k5 : Int) : Int) < (a_a.length : Int)))) (.tmp rfl rfl) (fun _ => ?_) (fun hb => absurd (hfe12.symm.trans hb) (by decide))
  refine CW_skip ?_
  refine K_block ?_
  refine K_region ?_
  refine C_val (V_move (v := v0_0.v) (.tmp rfl rfl)) ?_
  refine C_val (V_move (v := (.int .i64 (k5 : Int))) (.tmp rfl rfl)) ?_
  refine C_idx (a := x7) sl30 ty98.sz (.tmp rfl rfl) (.tmp rfl rfl) .h (Int.natCast_nonneg k5) hx10 (fun k14 j15 => ?_)
  refine C_ldA1 (ul98_0_98 x7) ag98 ty98.sz rfl (.tmp rfl rfl) .h la98_0_98 (fun p16 => ?_)
  refine C_val (V_move (v := (.int .i64 c1)) (.tmp rfl rfl)) ?_
  obtain ⟨r17, hx18, hF⟩ := bind_some hF
  refine C_x0 (.rd .h rfl .nil) (X_callS cf50 (.cons (.tmp rfl rfl) (.cons (.tmp rfl rfl) .nil)) (l_szAccess_ok x7 p16 c1 _ hx18)) (fun _ => ?_)
  refine C_val (V_assign (v := (.int .i64 r17)) (.tmp rfl rfl)) ?_
  refine C_nil ?_
  refine K_region ?_
  refine C_val (V_move (v := (.int .i64 r17)) (.tmp rfl rfl)) ?_
  refine C_val (V_lss (i := r17) (j := 0) (.tmp rfl rfl) (.int _ _)) ?_
  refine C_nil ?_
  refine CW_cond (b := (decide ((r17 : Int) < 0))) (.tmp rfl rfl) (fun hb21 => ?_) (fun hb21 => ?_)
  · rw [if_pos hb21] at hF
    refine K_region ?_
    refine C_val (V_assign (v := (.int .i64 (-1))) (.int _ _)) ?_
    refine C_nil ?_
    refine CW_ret ?_
    obtain rfl := Option.some.inj hF
    exact End_ret () (.tmp rfl rfl .nil) rfl (.sel .nil)
  rw [if_neg (by rw [hb21]; exact Bool.false_ne_true)] at hF
  refine CW_skip ?_
  refine CW_region ?_
  refine C_val (V_move (v := (.int .i64 (k5 : Int))) (.tmp rfl rfl)) ?_
  refine C_val (V_add (i := (k5 : Int)) (j := 1) (.tmp rfl rfl) (.int _ _)) ?_
  refine C_val (V_assign (v := (.int .i64 (IntKind.i64.wrap ((k5 : Int) + 1)))) (.tmp rfl rfl)) ?_
  refine C_nil ?_
  have hw20 : IntKind.i64.wrap ((k5 : Int) + 1) = ((k5 + 1 : Nat) : Int) := by rw [wrap_in (by omega) (by omega)]; rfl
  rw [hw20]
  exact ⟨_, Nat.lt_succ_self _, _, k5 + 1, rest6, _, rfl, (EqL.cons rfl (EqL.cons rfl (EqL.cons rfl (EqL.nil)))).eq, hd11, (.sel (.rd (.t (.t .h)) rfl .nil)), hF⟩

/-! laws.szIntSS -/
def l_szIntSS_L1 : List (List Int) → Nat → Int → Option (Int)
  | [], k5, c1 => some c1
  | x7 :: rest6, k5, c1 => (l_szIntS x7 c1).bind fun r17 =>
    if (decide ((r17 : Int) < 0)) then (
      some (-1))
    else (
      l_szIntSS_L1 rest6 (k5 + 1) r17)
def l_szIntSS (a_a : List (List Int)) (a_left : Int) : Option (Int) :=
  if (decide (((IntKind.i64.wrap (a_left - (a_a.length : Int))) : Int) < 0)) then (
    some (-1))
  else (
    l_szIntSS_L1 a_a 0 (IntKind.i64.wrap (a_left - (a_a.length : Int))))
theorem l_szIntSS_ok (a_a : List (List Int)) (v0_0 : Sv) (a_left : Int) (R : Int) (hF : l_szIntSS a_a a_left = some R) :
    Fw.Spec Try.prog 131 [v0_0.v, (.int .i64 a_left)] [crd (RdS 45 (RdS 3 rdInt)) v0_0.v a_a] (fun _ : Unit => (.int .i64 R)) (fun _ => []) := by
  refine Spec_enter (n := 27) Try.func131 rfl rfl (rs := [.tmp 4]) rfl rfl rfl ?_
  intro H0 F0
  unfold l_szIntSS at hF
  refine K_region ?_
  refine C_val (V_assign (v := (.int .i64 0)) (.int _ _)) ?_
  refine C_nil ?_
  refine K_region ?_
  refine C_val (V_move (v := (.int .i64 a_left)) (.tmp rfl rfl)) ?_
  refine C_val (V_move (v := v0_0.v) (.tmp rfl rfl)) ?_
  refine C_at .h (fun hp => V_lenR (l := a_a.length) sl128 (.tmp rfl rfl) (crd_len hp)) ?_
  refine C_val (V_sub (i := a_left) (j := (a_a.length : Int)) (.tmp rfl rfl) (.tmp rfl rfl)) ?_
  refine C_val (V_assign (v := (.int .i64 (IntKind.i64.wrap (a_left - (a_a.length : Int))))) (.tmp rfl rfl)) ?_
  refine C_nil ?_
  refine K_in ?_
  refine K_region ?_
  refine C_val (V_move (v := (.int .i64 (IntKind.i64.wrap (a_left - (a_a.length : Int))))) (.tmp rfl rfl)) ?_
  refine C_val (V_lss (i := (IntKind.i64.wrap (a_left - (a_a.length : Int)))) (j := 0) (.tmp rfl rfl) (.int _ _)) ?_
  refine C_nil ?_
  refine CW_cond (b := (decide (((IntKind.i64.wrap (a_left - (a_a.length : Int))) : Int) < 0))) (.tmp rfl rfl) (fun hb22 => ?_) (fun hb22 => ?_)
  · rw [if_pos hb22] at hF
    refine K_region ?_
    refine C_val (V_assign (v := (.int .i64 (-1))) (.int _ _)) ?_
    refine C_nil ?_
    refine CW_ret ?_
    obtain rfl := Option.some.inj hF
    exact End_ret () (.tmp rfl rfl .nil) rfl (.sel .nil)
  rw [if_neg (by rw [hb22]; exact Bool.false_ne_true)] at hF
  refine CW_skip ?_
  refine K_in ?_
  refine K_region ?_
  refine C_val (V_assign (v := (.int .i64 0)) (.int _ _)) ?_
  refine C_nil ?_
  refine CW_block ?_
  refine CW_loop (m := a_a.length) (fun m3 f' cs' => ∃ (g : Fr) (k5 : Nat) (rest6 : List (List Int)) (c1 : Int), m3 = rest6.length ∧ f' = updL g [(0, v0_0.v), (1, (.int .i64 c1)), (5, (.int .i64 (k5 : Int)))] ∧ List.drop k5 a_a = rest6 ∧ Ent cs' [crd (RdS 45 (RdS 3 rdInt)) v0_0.v a_a] ∧ l_szIntSS_L1 rest6 k5 c1 = some R) ⟨_, 0, _, _, rfl, (EqL.cons rfl (EqL.cons rfl (EqL.cons rfl (EqL.nil)))).eq, rfl, (.sel (.rd .h rfl .nil)), hF⟩ ?_
  clear hF
  rintro m3 _ _ ⟨g4, k5, rest6, c1, rfl, rfl, hd8, hE, hF⟩
  refine K_ent hE ?_
  clear hE
  refine K_pure (c := crd (RdS 45 (RdS 3 rdInt)) v0_0.v a_a) .h crd_bound (fun hbd13 => ?_)
  rcases rest6 with _ | ⟨x7, rest6⟩
  · have hk9 := List.drop_eq_nil_iff.1 hd8
    have hfe12 : (decide (((k5 : Int) : Int) < (a_a.length : Int))) = false := decide_eq_false (by omega)
    rw [l_szIntSS_L1] at hF
    refine K_in ?_
    refine K_region ?_
    refine C_val (V_move (v := (.int .i64 (k5 : Int))) (.tmp rfl rfl)) ?_
    refine C_val (V_move (v := v0_0.v) (.tmp rfl rfl)) ?_
    refine C_at .h (fun hp => V_lenR (l := a_a.length) sl128 (.tmp rfl rfl) (crd_len hp)) ?_
    refine C_val (V_lss (i := (k5 : Int)) (j := (a_a.length : Int)) (.tmp rfl rfl) (.tmp rfl rfl)) ?_
    refine C_nil ?_
    refine CW_cond (b := (decide (((k5 : Int) : Int) < (a_a.length : Int)))) (.tmp rfl rfl) (fun hb => absurd (hfe12.symm.trans hb) (by decide)) (fun _ => ?_)
    refine CW_exit ?_
    refine CThen_exit ?_
    refine CThen_exit ?_
    refine CIn_self ?_
    refine K_region ?_
    refine C_val (V_move (v := (.int .i64 c1)) (.tmp rfl rfl)) ?_
    refine C_val (V_assign (v := (.int .i64 c1)) (.tmp rfl rfl)) ?_
    refine C_nil ?_
    refine CW_ret ?_
    obtain rfl := Option.some.inj hF
    exact End_ret () (.tmp rfl rfl .nil) rfl (.sel .nil)
  obtain ⟨hk9, hx10, hd11⟩ := drop_cons hd8
  have hfe12 : (decide (((k5 : Int) : Int) < (a_a.length : Int))) = true := decide_eq_true (by omega)
  rw [l_szIntSS_L1] at hF
  refine K_in ?_
  refine K_region ?_
  refine C_val (V_move (v := (.int .i64 (k5 : Int))) (.tmp rfl rfl)) ?_
  refine C_val (V_move (v := v0_0.v) (.tmp rfl rfl)) ?_
  refine C_at .h (fun hp => V_lenR (l := a_a.length) sl128 (.tmp rfl rfl) (crd_len hp)) ?_
  refine C_val (V_lss (i := (k5 : Int)) (j := (a_a.length : Int)) (.tmp rfl rfl) (.tmp rfl rfl)) ?_
  refine C_nil ?_
  refine CW_cond (b := (decide (((k5 : Int) : Int) < (a_a.length : Int)))) (.tmp rfl rfl) (fun _ => ?_) (fun hb => absurd (hfe12.symm.trans hb) (by decide))
  refine CW_skip ?_
  refine K_block ?_
  refine K_region ?_
  refine C_val (V_move (v := v0_0.v) (.tmp rfl rfl)) ?_
  refine C_val (V_move (v := (.int .i64 (k5 : Int))) (.tmp rfl rfl)) ?_
  refine C_idx (a := x7) sl128 ty45.sz (.tmp rfl rfl) (.tmp rfl rfl) .h (Int.natCast_nonneg k5) hx10 (fun k14 j15 => ?_)
  refine C_ldV (R' := (RdS 3 rdInt)) ag45 (.tmp rfl rfl) .h lv45_0 (fun w16 => ?_)
  refine C_val (V_move (v := (.int .i64 c1)) (.tmp rfl rfl)) ?_
  obtain ⟨r17, hx18, hF⟩ := bind_some hF
  refine C_x0 (.rd .h rfl .nil) (X_callS cf82 (.cons (.tmp rfl rfl) (.cons (.tmp rfl rfl) .nil)) (l_szIntS_ok x7 w16 c1 _ hx18)) (fun _ => ?_)
  refine C_val (V_assign (v := (.int .i64 r17)) (.tmp rfl rfl)) ?_
  refine C_nil ?_
  refine K_region ?_
  refine C_val (V_move (v := (.int .i64 r17)) (.tmp rfl rfl)) ?_
  refine C_val (V_lss (i := r17) (j := 0) (.tmp rfl rfl) (.int _ _)) ?_
  refine C_nil ?_
  refine CW_cond (b := (decide ((r17 : Int) < 0))) (.tmp rfl rfl) (fun hb21 => ?_) (fun hb21 => ?_)
  · rw [if_pos hb21] at hF
    refine K_region ?_
    refine C_val (V_assign (v := (.int .i64 (-1))) (.int _ _)) ?_
    refine C_nil ?_
    refine CW_ret ?_
    obtain rfl := Option.some.inj hF
    exact End_ret () (.tmp rfl rfl .nil) rfl (.sel .nil)
  rw [if_neg (by rw [hb21]; exact Bool.false_ne_true)] at hF
  refine CW_skip ?_
  refine CW_region ?_
  refine C_val (V_move (v := (.int .i64 (k5 : Int))) (.tmp rfl rfl)) ?_
  refine C_val (V_add (i := (k5 : Int)) (j := 1) (.tmp rfl rfl) (.int _ _)) ?_
  refine C_val (V_assign (v := (.int .i64 (IntKind.i64.wrap ((k5 : Int) + 1)))) (.tmp rfl rfl)) ?_
  refine C_nil ?_
  have hw20 : IntKind.i64.wrap ((k5 : Int) + 1) = ((k5 + 1 : Nat) : Int) := by rw [wrap_in (by omega) (by omega)]; rfl
  rw [hw20]
  exact ⟨_, Nat.lt_succ_self _, _, k5 + 1, rest6, _, rfl, (EqL.cons rfl (EqL.cons rfl (EqL.cons rfl (EqL.nil)))).eq, hd11, (.sel (.rd (.t (.t .h)) rfl .nil)), hF⟩

/-! laws.szIntSSS -/
def l_szIntSSS_L1 : List (List (List Int)) → Nat → Int → Option (Int)
  | [], k5, c1 => some c1
  | x7 :: rest6, k5, c1 => (l_szIntSS x7 c1).bind fun r17 =>
    if (decide ((r17 : Int) < 0)) then (
      some (-1))
    else (
      l_szIntSSS_L1 rest6 (k5 + 1) r17)
def l_szIntSSS (a_a : List (List (List Int))) (a_left : Int) : Option (Int) :=
  if (decide (((IntKind.i64.wrap (a_left - (a_a.length : Int))) : Int) < 0)) then (
    some (-1))
  else (
    l_szIntSSS_L1 a_a 0 (IntKind.i64.wrap (a_left - (a_a.length : Int))))
theorem l_szIntSSS_ok (a_a : List (List (List Int))) (v0_0 : Sv) (a_left : Int) (R : Int) (hF : l_szIntSSS a_a a_left = some R) :
    Fw.Spec Try.prog 86 [v0_0.v, (.int .i64 a_left)] [crd (RdS 128 (RdS 45 (RdS 3 rdInt))) v0_0.v a_a] (fun _ : Unit => (.int .i64 R)) (fun _ => []) := by
  refine Spec_enter (n := 27) Try.func86 rfl rfl (rs := [.tmp 4]) rfl rfl rfl ?_
  intro H0 F0
  unfold l_szIntSSS at hF
  refine K_region ?_
  refine C_val (V_assign (v := (.int .i64 0)) (.int _ _)) ?_
  refine C_nil ?_
  refine K_region ?_
  refine C_val (V_move (v := (.int .i64 a_left)) (.tmp rfl rfl)) ?_
  refine C_val (V_move (v := v0_0.v) (.tmp rfl rfl)) ?_
  refine C_at .h (fun hp => V_lenR (l := a_a.length) sl53 (.tmp rfl rfl) (crd_len hp)) ?_
  refine C_val (V_sub (i := a_left) (j := (a_a.length : Int)) (.tmp rfl rfl) (.tmp rfl rfl)) ?_
  refine C_val (V_assign (v := (.int .i64 (IntKind.i64.wrap (a_left - (a_a.length : Int))))) (.tmp rfl rfl)) ?_
  refine C_nil ?_
  refine K_in ?_
  refine K_region ?_
  refine C_val (V_move (v := (.int .i64 (IntKind.i64.wrap (a_left - (a_a.length : Int))))) (.tmp rfl rfl)) ?_
  refine C_val (V_lss (i := (IntKind.i64.wrap (a_left - (a_a.length : Int)))) (j := 0) (.tmp rfl rfl) (.int _ _)) ?_
  refine C_nil ?_
  refine CW_cond (b := (decide (((IntKind.i64.wrap (a_left - (a_a.length : Int))) : Int) < 0))) (.tmp rfl rfl) (fun hb22 => ?_) (fun hb22 => ?_)
  · rw [if_pos hb22] at hF
    refine K_region ?_
    refine C_val (V_assign (v := (.int .i64 (-1))) (.int _ _)) ?_
    refine C_nil ?_
    refine CW_ret ?_
    obtain rfl := Option.some.inj hF
    exact End_ret () (.tmp rfl rfl .nil) rfl (.sel .nil)
  rw [if_neg (by rw [hb22]; exact Bool.false_ne_true)] at hF
  refine CW_skip ?_
  refine K_in ?_
  refine K_region ?_
  refine C_val (V_assign (v := (.int .i64 0)) (.int _ _)) ?_
  refine C_nil ?_
  refine CW_block ?_
  refine CW_loop (m := a_a.length) (fun m3 f' cs' => ∃ (g : Fr) (k5 : Nat) (rest6 : List (List (List Int))) (c1 : Int), m3 = rest6.length ∧ f' = updL g [(0, v0_0.v), (1, (.int .i64 c1)), (5, (.int .i64 (k5 : Int)))] ∧ List.drop k5 a_a = rest6 ∧ Ent cs' [crd (RdS 128 (RdS 45 (RdS 3 rdInt))) v0_0.v a_a] ∧ l_szIntSSS_L1 rest6 k5 c1 = some R) ⟨_, 0, _, _, rfl, (EqL.cons rfl (EqL.cons rfl (EqL.cons rfl (EqL.nil)))).eq, rfl, (.sel (.rd .h rfl .nil)), hF⟩ ?_
  clear hF
  rintro m3 _ _ ⟨g4, k5, rest6, c1, rfl, rfl, hd8, hE, hF⟩
  refine K_ent hE ?_
  clear hE
  refine K_pure (c := crd (RdS 128 (RdS 45 (RdS 3 rdInt))) v0_0.v a_a) .h crd_bound (fun hbd13 => ?_)
  rcases rest6 with _ | ⟨x7, rest6⟩
  · have hk9 := List.drop_eq_nil_iff.1 hd8
    have hfe12 : (decide (((k5 : Int) : Int) < (a_a.length : Int))) = false := decide_eq_false (by omega)
    rw [l_szIntSSS_L1] at hF
    refine K_in ?_
    refine K_region ?_
    refine C_val (V_move (v := (.int .i64 (k5 : Int))) (.tmp rfl rfl)) ?_
    refine C_val (V_move (v := v0_0.v) (.tmp rfl rfl)) ?_
    refine C_at .h (fun hp => V_lenR (l := a_a.length) sl53 (.tmp rfl rfl) (crd_len hp)) ?_
    refine C_val (V_lss (i := (k5 : Int)) (j := (a_a.length : Int)) (.tmp rfl rfl) (.tmp rfl rfl)) ?_
    refine C_nil ?_
    refine CW_cond (b := (decide (((k5 : Int) : Int) < (a_a.length : Int)))) (.tmp rfl rfl) (fun hb => absurd (hfe12.symm.trans hb) (by decide)) (fun _ => ?_)
    refine CW_exit ?_
    refine CThen_exit ?_
    refine CThen_exit ?_
    refine CIn_self ?_
    refine K_region ?_
    refine C_val (V_move (v := (.int .i64 c1)) (.tmp rfl rfl)) ?_
    refine C_val (V_assign (v := (.int .i64 c1)) (.tmp rfl rfl)) ?_
    refine C_nil ?_
    refine CW_ret ?_
    obtain rfl := Option.some.inj hF
    exact End_ret () (.tmp rfl rfl .nil) rfl (.sel .nil)
  obtain ⟨hk9, hx10, hd11⟩ := drop_cons hd8
  have hfe12 : (decide (((k5 : Int) : Int) < (a_a.length : Int))) = true := decide_eq_true (by omega)
  rw [l_szIntSSS_L1] at hF
  refine K_in ?_
  refine K_region ?_
  refine C_val (V_move (v := (.int .i64 (k5 : Int))) (.tmp rfl rfl)) ?_
  refine C_val (V_move (v := v0_0.v) (.tmp rfl rfl)) ?_
  refine C_at .h (fun hp => V_lenR (l := a_a.length) sl53 (.tmp rfl rfl) (crd_len hp)) ?_
  refine C_val (V_lss (i := (k5 : Int)) (j := (a_a.length : Int)) (.tmp rfl rfl) (.tmp rfl rfl)) ?_
  refine C_nil ?_
  refine CW_cond (b := (decide (((k5 : Int) : Int) < (a_a.length : Int)))) (.tmp rfl rfl) (fun _ => ?_) (fun hb => absurd (hfe12.symm.trans hb) (by decide))
  refine CW_skip ?_
  refine K_block ?_
  refine K_region ?_
  refine C_val (V_move (v := v0_0.v) (.tmp rfl rfl)) ?_
  refine C_val (V_move (v := (.int .i64 (k5 : Int))) (.tmp rfl rfl)) ?_
  refine C_idx (a := x7) sl53 ty128.sz (.tmp rfl rfl) (.tmp rfl rfl) .h (Int.natCast_nonneg k5) hx10 (fun k14 j15 => ?_)
  refine C_ldV (R' := (RdS 45 (RdS 3 rdInt))) ag128 (.tmp rfl rfl) .h lv128_0 (fun w16 => ?_)
  refine C_val (V_move (v := (.int .i64 c1)) (.tmp rfl rfl)) ?_
  obtain ⟨r17, hx18, hF⟩ := bind_some hF
  refine C_x0 (.rd .h rfl .nil) (X_callS cf131 (.cons (.tmp rfl rfl) (.cons (.tmp rfl rfl) .nil)) (l_szIntSS_ok x7 w16 c1 _ hx18)) (fun _ => ?_)
  refine C_val (V_assign (v := (.int .i64 r17)) (.tmp rfl rfl)) ?_
  refine C_nil ?_
  refine K_region ?_
  refine C_val (V_move (v := (.int .i64 r17)) (.tmp rfl rfl)) ?_
  refine C_val (V_lss (i := r17) (j := 0) (.tmp rfl rfl) (.int _ _)) ?_
  refine C_nil ?_
  refine CW_cond (b := (decide ((r17 : Int) < 0))) (.tmp rfl rfl) (fun hb21 => ?_) (fun hb21 => ?_)
  · rw [if_pos hb21] at hF
    refine K_region ?_
    refine C_val (V_assign (v := (.int .i64 (-1))) (.int _ _)) ?_
    refine C_nil ?_
    refine CW_ret ?_
    obtain rfl := Option.some.inj hF
    exact End_ret () (.tmp rfl rfl .nil) rfl (.sel .nil)
  rw [if_neg (by rw [hb21]; exact Bool.false_ne_true)] at hF
  refine CW_skip ?_
  refine CW_region ?_
  refine C_val (V_move (v := (.int .i64 (k5 : Int))) (.tmp rfl rfl)) ?_
  refine C_val (V_add (i := (k5 : Int)) (j := 1) (.tmp rfl rfl) (.int _ _)) ?_
  refine C_val (V_assign (v := (.int .i64 (IntKind.i64.wrap ((k5 : Int) + 1)))) (.tmp rfl rfl)) ?_
  refine C_nil ?_
  have hw20 : IntKind.i64.wrap ((k5 : Int) + 1) = ((k5 + 1 : Nat) : Int) := by rw [wrap_in (by omega) (by omega)]; rfl
  rw [hw20]
  exact ⟨_, Nat.lt_succ_self _, _, k5 + 1, rest6, _, rfl, (EqL.cons rfl (EqL.cons rfl (EqL.cons rfl (EqL.nil)))).eq, hd11, (.sel (.rd (.t (.t .h)) rfl .nil)), hF⟩

/-! laws.szMediator -/
def l_szMediator (a_a : Mediator) (a_left : Int) : Option (Int) :=
  (l_szIntS a_a.Schema a_left).bind fun r2 =>
  if (decide ((r2 : Int) < 0)) then (
    some (-1))
  else (
    (l_szMethodS a_a.Methods r2).bind fun r5 =>
    if (decide ((r5 : Int) < 0)) then (
      some (-1))
    else (
      (l_szRuleS a_a.Rules r5).bind fun r8 =>
      if (decide ((r8 : Int) < 0)) then (
        some (-1))
      else (
        (l_szSource a_a.Source r8).bind fun r11 =>
        if (decide ((r11 : Int) < 0)) then (
          some (-1))
        else (
          (l_szCache a_a.Cache r11).bind fun r14 =>
          if (decide ((r14 : Int) < 0)) then (
            some (-1))
          else (
            (l_szAccessS a_a.Log r14).bind fun r17 =>
            if (decide ((r17 : Int) < 0)) then (
              some (-1))
            else (
              (l_szIntS a_a.Times r17).bind fun r20 =>
              if (decide ((r20 : Int) < 0)) then (
                some (-1))
              else (
                (l_szIntSSS a_a.Results r20).bind fun r23 =>
                if (decide ((r23 : Int) < 0)) then (
                  some (-1))
                else (
                  some r23))))))))
theorem l_szMediator_ok (a_a : Mediator) (v0_0 : Sv) (v0_1 : Sv) (v0_2 : Sv) (v0_3 : Sv) (v0_5 : Sv) (v0_8 : Sv) (v0_9 : Sv) (v0_11 : Sv) (a_left : Int) (R : Int) (hF : l_szMediator a_a a_left = some R) :
    Fw.Spec Try.prog 38 [(.agg [v0_0.v, v0_1.v, v0_2.v, v0_3.v, (.int .i64 a_a.Source.Version), v0_5.v, (.int .i64 a_a.Cache.Age), (.int .i64 a_a.Now), v0_8.v, v0_9.v, (.int .i64 a_a.Spent), v0_11.v].toArray), (.int .i64 a_left)] [crd (RdS 3 rdInt) v0_0.v a_a.Schema, crd (RdS 95 rd95) v0_1.v a_a.Methods, crd (RdS 152 rd152) v0_2.v a_a.Rules, crd (RdS 188 rd188) v0_3.v a_a.Source.Facts, crd (RdS 191 rd191) v0_5.v a_a.Cache.Entries, crd (RdS 98 rd98) v0_8.v a_a.Log, crd (RdS 3 rdInt) v0_9.v a_a.Times, crd (RdS 128 (RdS 45 (RdS 3 rdInt))) v0_11.v a_a.Results] (fun _ : Unit => (.int .i64 R)) (fun _ => []) := by
  refine Spec_enter (n := 54) Try.func38 rfl rfl (rs := [.tmp 4]) rfl rfl rfl ?_
  intro H0 F0
  unfold l_szMediator at hF
  refine K_region ?_
  refine C_newR rfl (N_box (g := false) (v := (.agg [v0_0.v, v0_1.v, v0_2.v, v0_3.v, (.int .i64 a_a.Source.Version), v0_5.v, (.int .i64 a_a.Cache.Age), (.int .i64 a_a.Now), v0_8.v, v0_9.v, (.int .i64 a_a.Spent), v0_11.v].toArray)) ty73.sz (.tmp rfl rfl) rfl) (fun k1 => ?_)
  refine C_val (V_assign (v := (.int .i64 0)) (.int _ _)) ?_
  refine C_nil ?_
  refine K_region ?_
  refine C_val (V_fieldAddr (off := 0) fd73_0 (.tmp rfl rfl)) ?_
  refine C_at .h (fun hp => V_load (v := v0_0.v) ag45 (.tmp rfl rfl) hp.2 rfl rfl) ?_
  refine C_val (V_move (v := (.int .i64 a_left)) (.tmp rfl rfl)) ?_
  obtain ⟨r2, hx3, hF⟩ := bind_some hF
  refine C_x0 (.rd (.t .h) rfl .nil) (X_callS cf82 (.cons (.tmp rfl rfl) (.cons (.tmp rfl rfl) .nil)) (l_szIntS_ok a_a.Schema v0_0 a_left _ hx3)) (fun _ => ?_)
  refine C_val (V_assign (v := (.int .i64 r2)) (.tmp rfl rfl)) ?_
  refine C_nil ?_
  refine K_in ?_
  refine K_region ?_
  refine C_val (V_move (v := (.int .i64 r2)) (.tmp rfl rfl)) ?_
  refine C_val (V_lss (i := r2) (j := 0) (.tmp rfl rfl) (.int _ _)) ?_
  refine C_nil ?_
  refine CW_cond (b := (decide ((r2 : Int) < 0))) (.tmp rfl rfl) (fun hb33 => ?_) (fun hb33 => ?_)
  · rw [if_pos hb33] at hF
    refine K_region ?_
    refine C_val (V_assign (v := (.int .i64 (-1))) (.int _ _)) ?_
    refine C_nil ?_
    refine CW_ret ?_
    obtain rfl := Option.some.inj hF
    exact End_ret () (.tmp rfl rfl .nil) rfl (.sel .nil)
  rw [if_neg (by rw [hb33]; exact Bool.false_ne_true)] at hF
  refine CW_skip ?_
  refine K_region ?_
  refine C_val (V_fieldAddr (off := 1) fd73_1 (.tmp rfl rfl)) ?_
  refine C_at .h (fun hp => V_load (v := v0_1.v) ag29 (.tmp rfl rfl) hp.2 rfl rfl) ?_
  refine C_val (V_move (v := (.int .i64 r2)) (.tmp rfl rfl)) ?_
  obtain ⟨r5, hx6, hF⟩ := bind_some hF
  refine C_x0 (.rd (.t (.t .h)) rfl .nil) (X_callS cf14 (.cons (.tmp rfl rfl) (.cons (.tmp rfl rfl) .nil)) (l_szMethodS_ok a_a.Methods v0_1 r2 _ hx6)) (fun _ => ?_)
  refine C_val (V_assign (v := (.int .i64 r5)) (.tmp rfl rfl)) ?_
  refine C_nil ?_
  refine K_in ?_
  refine K_region ?_
  refine C_val (V_move (v := (.int .i64 r5)) (.tmp rfl rfl)) ?_
  refine C_val (V_lss (i := r5) (j := 0) (.tmp rfl rfl) (.int _ _)) ?_
  refine C_nil ?_
  refine CW_cond (b := (decide ((r5 : Int) < 0))) (.tmp rfl rfl) (fun hb32 => ?_) (fun hb32 => ?_)
  · rw [if_pos hb32] at hF
    refine K_region ?_
    refine C_val (V_assign (v := (.int .i64 (-1))) (.int _ _)) ?_
    refine C_nil ?_
    refine CW_ret ?_
    obtain rfl := Option.some.inj hF
    exact End_ret () (.tmp rfl rfl .nil) rfl (.sel .nil)
  rw [if_neg (by rw [hb32]; exact Bool.false_ne_true)] at hF
  refine CW_skip ?_
  refine K_region ?_
  refine C_val (V_fieldAddr (off := 2) fd73_2 (.tmp rfl rfl)) ?_
  refine C_at .h (fun hp => V_load (v := v0_2.v) ag65 (.tmp rfl rfl) hp.2 rfl rfl) ?_
  refine C_val (V_move (v := (.int .i64 r5)) (.tmp rfl rfl)) ?_
  obtain ⟨r8, hx9, hF⟩ := bind_some hF
  refine C_x0 (.rd (.t (.t (.t .h))) rfl .nil) (X_callS cf83 (.cons (.tmp rfl rfl) (.cons (.tmp rfl rfl) .nil)) (l_szRuleS_ok a_a.Rules v0_2 r5 _ hx9)) (fun _ => ?_)
  refine C_val (V_assign (v := (.int .i64 r8)) (.tmp rfl rfl)) ?_
  refine C_nil ?_
  refine K_in ?_
  refine K_region ?_
  refine C_val (V_move (v := (.int .i64 r8)) (.tmp rfl rfl)) ?_
  refine C_val (V_lss (i := r8) (j := 0) (.tmp rfl rfl) (.int _ _)) ?_
  refine C_nil ?_
  refine CW_cond (b := (decide ((r8 : Int) < 0))) (.tmp rfl rfl) (fun hb31 => ?_) (fun hb31 => ?_)
  · rw [if_pos hb31] at hF
    refine K_region ?_
    refine C_val (V_assign (v := (.int .i64 (-1))) (.int _ _)) ?_
    refine C_nil ?_
    refine CW_ret ?_
    obtain rfl := Option.some.inj hF
    exact End_ret () (.tmp rfl rfl .nil) rfl (.sel .nil)
  rw [if_neg (by rw [hb31]; exact Bool.false_ne_true)] at hF
  refine CW_skip ?_
  refine K_region ?_
  refine C_val (V_fieldAddr (off := 3) fd73_3 (.tmp rfl rfl)) ?_
  refine C_at .h (fun hp => V_loadA (s := 2) (l := [v0_3.v, (.int .i64 a_a.Source.Version)]) ag68 ty68.sz (.tmp rfl rfl) hp.2 rfl (by decide) (Nat.le_of_ble_eq_true rfl) rfl) ?_
  refine C_val (V_move (v := (.int .i64 r8)) (.tmp rfl rfl)) ?_
  obtain ⟨r11, hx12, hF⟩ := bind_some hF
  refine C_x0 (.rd (.t (.t (.t (.t .h)))) rfl .nil) (X_callS cf84 (.cons (.tmp rfl rfl) (.cons (.tmp rfl rfl) .nil)) (l_szSource_ok a_a.Source v0_3 r8 _ hx12)) (fun _ => ?_)
  refine C_val (V_assign (v := (.int .i64 r11)) (.tmp rfl rfl)) ?_
  refine C_nil ?_
  refine K_in ?_
  refine K_region ?_
  refine C_val (V_move (v := (.int .i64 r11)) (.tmp rfl rfl)) ?_
  refine C_val (V_lss (i := r11) (j := 0) (.tmp rfl rfl) (.int _ _)) ?_
  refine C_nil ?_
  refine CW_cond (b := (decide ((r11 : Int) < 0))) (.tmp rfl rfl) (fun hb30 => ?_) (fun hb30 => ?_)
  · rw [if_pos hb30] at hF
    refine K_region ?_
    refine C_val (V_assign (v := (.int .i64 (-1))) (.int _ _)) ?_
    refine C_nil ?_
    refine CW_ret ?_
    obtain rfl := Option.some.inj hF
    exact End_ret () (.tmp rfl rfl .nil) rfl (.sel .nil)
  rw [if_neg (by rw [hb30]; exact Bool.false_ne_true)] at hF
  refine CW_skip ?_
  refine K_region ?_
  refine C_val (V_fieldAddr (off := 5) fd73_4 (.tmp rfl rfl)) ?_
  refine C_at .h (fun hp => V_loadA (s := 2) (l := [v0_5.v, (.int .i64 a_a.Cache.Age)]) ag71 ty71.sz (.tmp rfl rfl) hp.2 rfl (by decide) (Nat.le_of_ble_eq_true rfl) rfl) ?_
  refine C_val (V_move (v := (.int .i64 r11)) (.tmp rfl rfl)) ?_
  obtain ⟨r14, hx15, hF⟩ := bind_some hF
  refine C_x0 (.rd (.t (.t (.t (.t (.t .h))))) rfl .nil) (X_callS cf85 (.cons (.tmp rfl rfl) (.cons (.tmp rfl rfl) .nil)) (l_szCache_ok a_a.Cache v0_5 r11 _ hx15)) (fun _ => ?_)
  refine C_val (V_assign (v := (.int .i64 r14)) (.tmp rfl rfl)) ?_
  refine C_nil ?_
  refine K_in ?_
  refine K_region ?_
  refine C_val (V_move (v := (.int .i64 r14)) (.tmp rfl rfl)) ?_
  refine C_val (V_lss (i := r14) (j := 0) (.tmp rfl rfl) (.int _ _)) ?_
  refine C_nil ?_
  refine CW_cond (b := (decide ((r14 : Int) < 0))) (.tmp rfl rfl) (fun hb29 => ?_) (fun hb29 => ?_)
  · rw [if_pos hb29] at hF
    refine K_region ?_
    refine C_val (V_assign (v := (.int .i64 (-1))) (.int _ _)) ?_
    refine C_nil ?_
    refine CW_ret ?_
    obtain rfl := Option.some.inj hF
    exact End_ret () (.tmp rfl rfl .nil) rfl (.sel .nil)
  rw [if_neg (by rw [hb29]; exact Bool.false_ne_true)] at hF
  refine CW_skip ?_
  refine K_region ?_
  refine C_val (V_fieldAddr (off := 8) fd73_6 (.tmp rfl rfl)) ?_
  refine C_at .h (fun hp => V_load (v := v0_8.v) ag30 (.tmp rfl rfl) hp.2 rfl rfl) ?_
  refine C_val (V_move (v := (.int .i64 r14)) (.tmp rfl rfl)) ?_
  obtain ⟨r17, hx18, hF⟩ := bind_some hF
  refine C_x0 (.rd (.t (.t (.t (.t (.t (.t .h)))))) rfl .nil) (X_callS cf15 (.cons (.tmp rfl rfl) (.cons (.tmp rfl rfl) .nil)) (l_szAccessS_ok a_a.Log v0_8 r14 _ hx18)) (fun _ => ?_)
  refine C_val (V_assign (v := (.int .i64 r17)) (.tmp rfl rfl)) ?_
  refine C_nil ?_
  refine K_in ?_
  refine K_region ?_
  refine C_val (V_move (v := (.int .i64 r17)) (.tmp rfl rfl)) ?_
  refine C_val (V_lss (i := r17) (j := 0) (.tmp rfl rfl) (.int _ _)) ?_
  refine C_nil ?_
  refine CW_cond (b := (decide ((r17 : Int) < 0))) (.tmp rfl rfl) (fun hb28 => ?_) (fun hb28 => ?_)
  · rw [if_pos hb28] at hF
    refine K_region ?_
    refine C_val (V_assign (v := (.int .i64 (-1))) (.int _ _)) ?_
    refine C_nil ?_
    refine CW_ret ?_
    obtain rfl := Option.some.inj hF
    exact End_ret () (.tmp rfl rfl .nil) rfl (.sel .nil)
  rw [if_neg (by rw [hb28]; exact Bool.false_ne_true)] at hF
  refine CW_skip ?_
  refine K_region ?_
  refine C_val (V_fieldAddr (off := 9) fd73_7 (.tmp rfl rfl)) ?_
  refine C_at .h (fun hp => V_load (v := v0_9.v) ag45 (.tmp rfl rfl) hp.2 rfl rfl) ?_
  refine C_val (V_move (v := (.int .i64 r17)) (.tmp rfl rfl)) ?_
  obtain ⟨r20, hx21, hF⟩ := bind_some hF
  refine C_x0 (.rd (.t (.t (.t (.t (.t (.t (.t .h))))))) rfl .nil) (X_callS cf82 (.cons (.tmp rfl rfl) (.cons (.tmp rfl rfl) .nil)) (l_szIntS_ok a_a.Times v0_9 r17 _ hx21)) (fun _ => ?_)
  refine C_val (V_assign (v := (.int .i64 r20)) (.tmp rfl rfl)) ?_
  refine C_nil ?_
  refine K_in ?_
  refine K_region ?_
  refine C_val (V_move (v := (.int .i64 r20)) (.tmp rfl rfl)) ?_
  refine C_val (V_lss (i := r20) (j := 0) (.tmp rfl rfl) (.int _ _)) ?_
  refine C_nil ?_
  refine CW_cond (b := (decide ((r20 : Int) < 0))) (.tmp rfl rfl) (fun hb27 => ?_) (fun hb27 => ?_)
  · rw [if_pos hb27] at hF
    refine K_region ?_
    refine C_val (V_assign (v := (.int .i64 (-1))) (.int _ _)) ?_
    refine C_nil ?_
    refine CW_ret ?_
    obtain rfl := Option.some.inj hF
    exact End_ret () (.tmp rfl rfl .nil) rfl (.sel .nil)
  rw [if_neg (by rw [hb27]; exact Bool.false_ne_true)] at hF
  refine CW_skip ?_
  refine K_region ?_
  refine C_val (V_fieldAddr (off := 11) fd73_9 (.tmp rfl rfl)) ?_
  refine C_at .h (fun hp => V_load (v := v0_11.v) ag53 (.tmp rfl rfl) hp.2 rfl rfl) ?_
  refine C_val (V_move (v := (.int .i64 r20)) (.tmp rfl rfl)) ?_
  obtain ⟨r23, hx24, hF⟩ := bind_some hF
  refine C_x0 (.rd (.t (.t (.t (.t (.t (.t (.t (.t .h)))))))) rfl .nil) (X_callS cf86 (.cons (.tmp rfl rfl) (.cons (.tmp rfl rfl) .nil)) (l_szIntSSS_ok a_a.Results v0_11 r20 _ hx24)) (fun _ => ?_)
  refine C_val (V_assign (v := (.int .i64 r23)) (.tmp rfl rfl)) ?_
  refine C_nil ?_
  refine K_in ?_
  refine K_region ?_
  refine C_val (V_move (v := (.int .i64 r23)) (.tmp rfl rfl)) ?_
  refine C_val (V_lss (i := r23) (j := 0) (.tmp rfl rfl) (.int _ _)) ?_
  refine C_nil ?_
  refine CW_cond (b := (decide ((r23 : Int) < 0))) (.tmp rfl rfl) (fun hb26 => ?_) (fun hb26 => ?_)
  · rw [if_pos hb26] at hF
    refine K_region ?_
    refine C_val (V_assign (v := (.int .i64 (-1))) (.int _ _)) ?_
    refine C_nil ?_
    refine CW_ret ?_
    obtain rfl := Option.some.inj hF
    exact End_ret () (.tmp rfl rfl .nil) rfl (.sel .nil)
  rw [if_neg (by rw [hb26]; exact Bool.false_ne_true)] at hF
  refine CW_skip ?_
  refine K_region ?_
  refine C_val (V_move (v := (.int .i64 r23)) (.tmp rfl rfl)) ?_
  refine C_val (V_assign (v := (.int .i64 r23)) (.tmp rfl rfl)) ?_
  refine C_nil ?_
  refine CW_ret ?_
  obtain rfl := Option.some.inj hF
  exact End_ret () (.tmp rfl rfl .nil) rfl (.sel .nil)

/-! laws.toIntS -/
def l_toIntS_L1 : List Int → Nat → (List Int) → Option ((List Int))
  | [], k32, c27 => some c27
  | x34 :: rest33, k32, c27 => (chk (decide (0 ≤ (k32 : Int)) && decide ((k32 : Int) < (c27.length : Int)))).bind fun u46 =>
    (some (c27.set ((k32 : Int)).toNat x34)).bind fun z48 =>
    l_toIntS_L1 rest33 (k32 + 1) z48
def l_toIntS (a_a : List Int) : Option ((List Int)) :=
  (mkz (a_a.length : Int) (0 : Int)).bind fun z1 =>
  l_toIntS_L1 a_a 0 z1
theorem l_toIntS_ok (a_a : List Int) (v0_0 : Sv) (R : (List Int)) (hF : l_toIntS a_a = some R) :
    Fw.Spec Try.prog 28 [v0_0.v] [crd (RdS 3 rdInt) v0_0.v a_a] (fun p : Sv × List Nat => p.1.v) (fun p => [cown (OwnS 3 (roE rdInt)) p.2 p.1.v R]) := by
  refine Spec_enter (n := 22) Try.func28 rfl rfl (rs := [.tmp 2]) rfl rfl rfl ?_
  intro H0 F0
  unfold l_toIntS at hF
  refine K_region ?_
  refine C_val (V_assign (v := (.slice none 0 0)) EV.nilSlice) ?_
  refine C_nil ?_
  refine K_region ?_
  refine C_val (V_move (v := v0_0.v) (.tmp rfl rfl)) ?_
  refine C_at .h (fun hp => V_lenR (l := a_a.length) sl45 (.tmp rfl rfl) (crd_len hp)) ?_
  obtain ⟨z1, hx2, hF⟩ := bind_some hF
  have hm3 := mkz_some hx2
  refine C_new rfl (N_makeSlice (g := true) (c := (a_a.length : Int)) sl45 ty3 rfl rfl (by decide) (.tmp rfl rfl) hm3.2.1 hm3.2.2) (fun k4 => ?_)
  refine C_conv (.cons .h .nil) (own_make (Ro := (roE rdInt)) (E := 3) (a := (0 : Int)) hx2 (fun _ => ⟨rfl, rfl⟩)) apps ?_
  refine C_val (V_assign (v := (.slice (some ⟨k4, 0, none⟩) (a_a.length : Int).toNat 1)) (.tmp rfl rfl)) ?_
  refine C_nil ?_
  refine K_in ?_
  refine K_region ?_
  refine C_val (V_assign (v := (.int .i64 0)) (.int _ _)) ?_
  refine C_nil ?_
  refine CW_block ?_
  refine CW_loop (m := a_a.length) (fun m30 f' cs' => ∃ (g : Fr) (k32 : Nat) (rest33 : List Int) (c27 : List Int) (F28 : List Nat), m30 = rest33.length ∧ f' = updL g [(0, v0_0.v), (3, (.slice (some ⟨k4, 0, none⟩) (a_a.length : Int).toNat 1)), (4, (.int .i64 (k32 : Int)))] ∧ List.drop k32 a_a = rest33 ∧ Ent cs' [crd (RdS 3 rdInt) v0_0.v a_a, cown (OwnS 3 (roE rdInt)) F28 (.slice (some ⟨k4, 0, none⟩) (a_a.length : Int).toNat 1) c27] ∧ l_toIntS_L1 rest33 k32 c27 = some R) ⟨_, 0, _, _, [k4], rfl, (EqL.cons rfl (EqL.cons rfl (EqL.cons rfl (EqL.nil)))).eq, rfl, (.sel (.rd (.t .h) rfl (.cons .h .nil))), hF⟩ ?_
  clear hF
  rintro m30 _ _ ⟨g31, k32, rest33, c27, F28, rfl, rfl, hd35, hE, hF⟩
  refine K_ent hE ?_
  clear hE
  refine K_pure (c := crd (RdS 3 rdInt) v0_0.v a_a) .h crd_bound (fun hbd40 => ?_)
  rcases rest33 with _ | ⟨x34, rest33⟩
  · have hk36 := List.drop_eq_nil_iff.1 hd35
    have hfe39 : (decide (((k32 : Int) : Int) < (a_a.length : Int))) = false := decide_eq_false (by omega)
    rw [l_toIntS_L1] at hF
    refine K_in ?_
    refine K_region ?_
    refine C_val (V_move (v := (.int .i64 (k32 : Int))) (.tmp rfl rfl)) ?_
    refine C_val (V_move (v := v0_0.v) (.tmp rfl rfl)) ?_
    refine C_at .h (fun hp => V_lenR (l := a_a.length) sl45 (.tmp rfl rfl) (crd_len hp)) ?_
    refine C_val (V_lss (i := (k32 : Int)) (j := (a_a.length : Int)) (.tmp rfl rfl) (.tmp rfl rfl)) ?_
    refine C_nil ?_
    refine CW_cond (b := (decide (((k32 : Int) : Int) < (a_a.length : Int)))) (.tmp rfl rfl) (fun hb => absurd (hfe39.symm.trans hb) (by decide)) (fun _ => ?_)
    refine CW_exit ?_
    refine CThen_exit ?_
    refine CThen_exit ?_
    refine CIn_self ?_
    refine K_region ?_
    refine C_val (V_move (v := (.slice (some ⟨k4, 0, none⟩) (a_a.length : Int).toNat 1)) (.tmp rfl rfl)) ?_
    refine C_val (V_assign (v := (.slice (some ⟨k4, 0, none⟩) (a_a.length : Int).toNat 1)) (.tmp rfl rfl)) ?_
    refine C_nil ?_
    refine CW_ret ?_
    obtain rfl := Option.some.inj hF
    exact End_ret (⟨(some ⟨k4, 0, none⟩), (a_a.length : Int).toNat, 1⟩, F28) (.tmp rfl rfl .nil) rfl (.sel (.cons (.t .h) .nil))
  obtain ⟨hk36, hx37, hd38⟩ := drop_cons hd35
  have hfe39 : (decide (((k32 : Int) : Int) < (a_a.length : Int))) = true := decide_eq_true (by omega)
  rw [l_toIntS_L1] at hF
  refine K_in ?_
  refine K_region ?_
  refine C_val (V_move (v := (.int .i64 (k32 : Int))) (.tmp rfl rfl)) ?_
  refine C_val (V_move (v := v0_0.v) (.tmp rfl rfl)) ?_
  refine C_at .h (fun hp => V_lenR (l := a_a.length) sl45 (.tmp rfl rfl) (crd_len hp)) ?_
  refine C_val (V_lss (i := (k32 : Int)) (j := (a_a.length : Int)) (.tmp rfl rfl) (.tmp rfl rfl)) ?_
  refine C_nil ?_
  refine CW_cond (b := (decide (((k32 : Int) : Int) < (a_a.length : Int)))) (.tmp rfl rfl) (fun _ => ?_) (fun hb => absurd (hfe39.symm.trans hb) (by decide))
  refine CW_skip ?_
  refine K_block ?_
  refine CW_region ?_
  refine C_val (V_move (v := (.slice (some ⟨k4, 0, none⟩) (a_a.length : Int).toNat 1)) (.tmp rfl rfl)) ?_
  refine C_val (V_move (v := (.int .i64 (k32 : Int))) (.tmp rfl rfl)) ?_
  refine C_val (V_move (v := v0_0.v) (.tmp rfl rfl)) ?_
  refine C_val (V_move (v := (.int .i64 (k32 : Int))) (.tmp rfl rfl)) ?_
  refine C_idx (a := x34) sl45 ty3.sz (.tmp rfl rfl) (.tmp rfl rfl) .h (Int.natCast_nonneg k32) hx37 (fun k41 j42 => ?_)
  refine C_ldS (w := (.int .i64 x34)) ag3 (.tmp rfl rfl) .h ls3_0 ?_
  obtain ⟨u46, hx47, hF⟩ := bind_some hF
  have hi45 := chk_some hx47
  refine C_idxO sl45 ty3.sz (.tmp rfl rfl) (.tmp rfl rfl) (.t (.t .h)) hi45 (fun k43 hk44 => ?_)
  obtain ⟨z48, hx49, hF⟩ := bind_some hF
  replace hx49 := Option.some.inj hx49
  refine C_x1 (.cons (.t (.t .h)) .nil) (X_storeO (Ro := (roE rdInt)) (a := x34) (i := (k32 : Int)) ty3.sz rfl (.tmp rfl rfl) (.tmp rfl rfl) hk44 hi45 (Mk_pure (fun _ => rfl)) (fun _ _ _ _ h => by obtain ⟨-, h⟩ := h; cases h; rfl)) (fun F50 => ?_)
  rw [hx49]
  refine C_nil ?_
  refine CW_region ?_
  refine C_val (V_move (v := (.int .i64 (k32 : Int))) (.tmp rfl rfl)) ?_
  refine C_val (V_add (i := (k32 : Int)) (j := 1) (.tmp rfl rfl) (.int _ _)) ?_
  refine C_val (V_assign (v := (.int .i64 (IntKind.i64.wrap ((k32 : Int) + 1)))) (.tmp rfl rfl)) ?_
  refine C_nil ?_
  have hw51 : IntKind.i64.wrap ((k32 : Int) + 1) = ((k32 + 1 : Nat) : Int) := by rw [wrap_in (by omega) (by omega)]; rfl
  rw [hw51]
  exact ⟨_, Nat.lt_succ_self _, _, k32 + 1, rest33, _, F50, rfl, (EqL.cons rfl (EqL.cons rfl (EqL.cons rfl (EqL.nil)))).eq, hd38, (.sel (.rd (.t (.t .h)) rfl (.cons .h .nil))), hF⟩

/-! laws.toMethod -/
def l_toMethod (a_a : Method) : Option (Method) :=
  (l_toIntS a_a.Inputs).bind fun r4 =>
  some ({ Rel := a_a.Rel, Inputs := r4, Limit := a_a.Limit, Cost := a_a.Cost, Quota := a_a.Quota } : Method)
theorem l_toMethod_ok (a_a : Method) (v0_1 : Sv) (R : Method) (hF : l_toMethod a_a = some R) :
    Fw.Spec Try.prog 53 [(.agg [(.int .i64 a_a.Rel), v0_1.v, (.int .i64 a_a.Limit), (.int .i64 a_a.Cost), (.int .i64 a_a.Quota)].toArray)] [crd (RdS 3 rdInt) v0_1.v a_a.Inputs] (fun p : Sv × List Nat => (.agg [(.int .i64 R.Rel), p.1.v, (.int .i64 R.Limit), (.int .i64 R.Cost), (.int .i64 R.Quota)].toArray)) (fun p => [cown (OwnS 3 (roE rdInt)) p.2 p.1.v R.Inputs]) := by
  refine Spec_enter (n := 21) Try.func53 rfl rfl (rs := [.cell 2 101]) rfl rfl rfl ?_
  intro H0 F0
  unfold l_toMethod at hF
  refine K_region ?_
  refine C_newR rfl (N_box (g := false) (v := (.agg [(.int .i64 a_a.Rel), v0_1.v, (.int .i64 a_a.Limit), (.int .i64 a_a.Cost), (.int .i64 a_a.Quota)].toArray)) ty95.sz (.tmp rfl rfl) rfl) (fun k1 => ?_)
  refine C_new rfl (N_allocT (g := true) ty101 rfl rfl) (fun k2 => ?_)
  refine C_nil ?_
  refine K_region ?_
  refine C_new rfl (N_allocT (g := true) ty101 rfl rfl) (fun k3 => ?_)
  refine C_nil ?_
  refine K_region ?_
  refine C_val (V_fieldAddr (off := 0) fd95_0 (.tmp rfl rfl)) ?_
  refine C_at (.t (.t .h)) (fun hp => V_load (v := (.int .i64 a_a.Rel)) ag3 (.tmp rfl rfl) hp.2 rfl rfl) ?_
  refine C_val (V_fieldAddr (off := 0) fd101_0 (.tmp rfl rfl)) ?_
  refine C_x1 (.cons .h .nil) (X_storeB (e := (.agg [(.int .i64 0), (.slice none 0 0), (.int .i64 0), (.int .i64 0), (.int .i64 0)].toArray)) (e' := (.agg [(.int .i64 a_a.Rel), (.slice none 0 0), (.int .i64 0), (.int .i64 0), (.int .i64 0)].toArray)) (v := (.int .i64 a_a.Rel)) ty3.sz (.tmp rfl rfl) (.tmp rfl rfl) rfl rfl rfl rfl rfl) (fun _ => ?_)
  refine C_nil ?_
  refine K_region ?_
  refine C_val (V_fieldAddr (off := 1) fd95_1 (.tmp rfl rfl)) ?_
  refine C_at (.t (.t .h)) (fun hp => V_load (v := v0_1.v) ag45 (.tmp rfl rfl) hp.2 rfl rfl) ?_
  obtain ⟨r4, hx5, hF⟩ := bind_some hF
  refine C_x1 (.rd (.t (.t (.t .h))) rfl .nil) (X_callS cf28 (.cons (.tmp rfl rfl) .nil) (l_toIntS_ok a_a.Inputs v0_1 _ hx5)) (fun p6 => ?_)
  refine C_val (V_fieldAddr (off := 1) fd101_1 (.tmp rfl rfl)) ?_
  refine C_x1 (.cons (.t .h) .nil) (X_storeB (e := (.agg [(.int .i64 a_a.Rel), (.slice none 0 0), (.int .i64 0), (.int .i64 0), (.int .i64 0)].toArray)) (e' := (.agg [(.int .i64 a_a.Rel), p6.1.v, (.int .i64 0), (.int .i64 0), (.int .i64 0)].toArray)) ty45.sz (.tmp rfl rfl) (.tmp rfl rfl) rfl rfl rfl rfl rfl) (fun _ => ?_)
  refine C_nil ?_
  refine K_region ?_
  refine C_val (V_fieldAddr (off := 2) fd95_2 (.tmp rfl rfl)) ?_
  refine C_at (.t (.t (.t .h))) (fun hp => V_load (v := (.int .i64 a_a.Limit)) ag3 (.tmp rfl rfl) hp.2 rfl rfl) ?_
  refine C_val (V_fieldAddr (off := 2) fd101_2 (.tmp rfl rfl)) ?_
  refine C_x1 (.cons .h .nil) (X_storeB (e := (.agg [(.int .i64 a_a.Rel), p6.1.v, (.int .i64 0), (.int .i64 0), (.int .i64 0)].toArray)) (e' := (.agg [(.int .i64 a_a.Rel), p6.1.v, (.int .i64 a_a.Limit), (.int .i64 0), (.int .i64 0)].toArray)) (v := (.int .i64 a_a.Limit)) ty3.sz (.tmp rfl rfl) (.tmp rfl rfl) rfl rfl rfl rfl rfl) (fun _ => ?_)
  refine C_nil ?_
  refine K_region ?_
  refine C_val (V_fieldAddr (off := 3) fd95_3 (.tmp rfl rfl)) ?_
  refine C_at (.t (.t (.t .h))) (fun hp => V_load (v := (.int .i64 a_a.Cost)) ag3 (.tmp rfl rfl) hp.2 rfl rfl) ?_
  refine C_val (V_fieldAddr (off := 3) fd101_3 (.tmp rfl rfl)) ?_
  refine C_x1 (.cons .h .nil) (X_storeB (e := (.agg [(.int .i64 a_a.Rel), p6.1.v, (.int .i64 a_a.Limit), (.int .i64 0), (.int .i64 0)].toArray)) (e' := (.agg [(.int .i64 a_a.Rel), p6.1.v, (.int .i64 a_a.Limit), (.int .i64 a_a.Cost), (.int .i64 0)].toArray)) (v := (.int .i64 a_a.Cost)) ty3.sz (.tmp rfl rfl) (.tmp rfl rfl) rfl rfl rfl rfl rfl) (fun _ => ?_)
  refine C_nil ?_
  refine K_region ?_
  refine C_val (V_fieldAddr (off := 4) fd95_4 (.tmp rfl rfl)) ?_
  refine C_at (.t (.t (.t .h))) (fun hp => V_load (v := (.int .i64 a_a.Quota)) ag3 (.tmp rfl rfl) hp.2 rfl rfl) ?_
  refine C_val (V_fieldAddr (off := 4) fd101_4 (.tmp rfl rfl)) ?_
  refine C_x1 (.cons .h .nil) (X_storeB (e := (.agg [(.int .i64 a_a.Rel), p6.1.v, (.int .i64 a_a.Limit), (.int .i64 a_a.Cost), (.int .i64 0)].toArray)) (e' := (.agg [(.int .i64 a_a.Rel), p6.1.v, (.int .i64 a_a.Limit), (.int .i64 a_a.Cost), (.int .i64 a_a.Quota)].toArray)) (v := (.int .i64 a_a.Quota)) ty3.sz (.tmp rfl rfl) (.tmp rfl rfl) rfl rfl rfl rfl rfl) (fun _ => ?_)
  refine C_nil ?_
  refine K_region ?_
  refine C_at .h (fun hp => V_loadBox ag101 ty101.sz rfl (.tmp rfl rfl) hp.2 rfl) ?_
  refine C_x1 (.cons (.t (.t .h)) .nil) (X_storeB (e := (.agg [(.int .i64 0), (.slice none 0 0), (.int .i64 0), (.int .i64 0), (.int .i64 0)].toArray)) (e' := (.agg [(.int .i64 a_a.Rel), p6.1.v, (.int .i64 a_a.Limit), (.int .i64 a_a.Cost), (.int .i64 a_a.Quota)].toArray)) (v := (.agg [(.int .i64 a_a.Rel), p6.1.v, (.int .i64 a_a.Limit), (.int .i64 a_a.Cost), (.int .i64 a_a.Quota)].toArray)) ty101.sz (.tmp rfl rfl) (.tmp rfl rfl) rfl rfl rfl rfl rfl) (fun _ => ?_)
  refine C_nil ?_
  refine CW_ret ?_
  obtain rfl := Option.some.inj hF
  exact End_ret (p6.1, p6.2) (.cellA rfl rfl .h rfl ag101 ty101.sz rfl rfl .nil) rfl (.sel (.cons (.t (.t .h)) .nil))

/-! laws.toMethodS -/
def l_toMethodS_L1 : List Method → Nat → (List Method) → Option ((List Method))
  | [], k36, c31 => some c31
  | x38 :: rest37, k36, c31 => (l_toMethod x38).bind fun r48 =>
    (chk (decide (0 ≤ (k36 : Int)) && decide ((k36 : Int) < (c31.length : Int)))).bind fun u54 =>
    (some (c31.set ((k36 : Int)).toNat r48)).bind fun z56 =>
    l_toMethodS_L1 rest37 (k36 + 1) z56
def l_toMethodS (a_a : List Method) : Option ((List Method)) :=
  (mkz (a_a.length : Int) (({ Rel := 0, Inputs := [], Limit := 0, Cost := 0, Quota := 0 } : Method) : Method)).bind fun z1 =>
  l_toMethodS_L1 a_a 0 z1
theorem l_toMethodS_ok (a_a : List Method) (v0_0 : Sv) (R : (List Method)) (hF : l_toMethodS a_a = some R) :
    Fw.Spec Try.prog 17 [v0_0.v] [crd (RdS 95 rd95) v0_0.v a_a] (fun p : Sv × List Nat => p.1.v) (fun p => [cown (OwnS 101 ow101) p.2 p.1.v R]) := by
  refine Spec_enter (n := 23) Try.func17 rfl rfl (rs := [.tmp 2]) rfl rfl rfl ?_
  intro H0 F0
  unfold l_toMethodS at hF
  refine K_region ?_
  refine C_val (V_assign (v := (.slice none 0 0)) EV.nilSlice) ?_
  refine C_nil ?_
  refine K_region ?_
  refine C_val (V_move (v := v0_0.v) (.tmp rfl rfl)) ?_
  refine C_at .h (fun hp => V_lenR (l := a_a.length) sl29 (.tmp rfl rfl) (crd_len hp)) ?_
  obtain ⟨z1, hx2, hF⟩ := bind_some hF
  have hm3 := mkz_some hx2
  refine C_new rfl (N_makeSlice (g := true) (c := (a_a.length : Int)) sl35 ty101 rfl rfl (by decide) (.tmp rfl rfl) hm3.2.1 hm3.2.2) (fun k4 => ?_)
  refine C_conv (.cons .h .nil) (own_make (Ro := ow101) (E := 101) (a := (({ Rel := 0, Inputs := [], Limit := 0, Cost := 0, Quota := 0 } : Method) : Method)) hx2 (fun _ => ⟨⟨none, 0, 0⟩, [], rfl, rfl, .inl ⟨rfl, rfl, rfl⟩⟩)) apps ?_
  refine C_val (V_assign (v := (.slice (some ⟨k4, 0, none⟩) (a_a.length : Int).toNat 1)) (.tmp rfl rfl)) ?_
  refine C_nil ?_
  refine K_in ?_
  refine K_region ?_
  refine C_val (V_assign (v := (.int .i64 0)) (.int _ _)) ?_
  refine C_nil ?_
  refine CW_block ?_
  refine CW_loop (m := a_a.length) (fun m34 f' cs' => ∃ (g : Fr) (k36 : Nat) (rest37 : List Method) (c31 : List Method) (F32 : List Nat), m34 = rest37.length ∧ f' = updL g [(0, v0_0.v), (3, (.slice (some ⟨k4, 0, none⟩) (a_a.length : Int).toNat 1)), (4, (.int .i64 (k36 : Int)))] ∧ List.drop k36 a_a = rest37 ∧ Ent cs' [crd (RdS 95 rd95) v0_0.v a_a, cown (OwnS 101 ow101) F32 (.slice (some ⟨k4, 0, none⟩) (a_a.length : Int).toNat 1) c31] ∧ l_toMethodS_L1 rest37 k36 c31 = some R) ⟨_, 0, _, _, [k4], rfl, (EqL.cons rfl (EqL.cons rfl (EqL.cons rfl (EqL.nil)))).eq, rfl, (.sel (.rd (.t .h) rfl (.cons .h .nil))), hF⟩ ?_
  clear hF
  rintro m34 _ _ ⟨g35, k36, rest37, c31, F32, rfl, rfl, hd39, hE, hF⟩
  refine K_ent hE ?_
  clear hE
  refine K_pure (c := crd (RdS 95 rd95) v0_0.v a_a) .h crd_bound (fun hbd44 => ?_)
  rcases rest37 with _ | ⟨x38, rest37⟩
  · have hk40 := List.drop_eq_nil_iff.1 hd39
    have hfe43 : (decide (((k36 : Int) : Int) < (a_a.length : Int))) = false := decide_eq_false (by omega)
    rw [l_toMethodS_L1] at hF
    refine K_in ?_
    refine K_region ?_
    refine C_val (V_move (v := (.int .i64 (k36 : Int))) (.tmp rfl rfl)) ?_
    refine C_val (V_move (v := v0_0.v) (.tmp rfl rfl)) ?_
    refine C_at .h (fun hp => V_lenR (l := a_a.length) sl29 (.tmp rfl rfl) (crd_len hp)) ?_
    refine C_val (V_lss (i := (k36 : Int)) (j := (a_a.length : Int)) (.tmp rfl rfl) (.tmp rfl rfl)) ?_
    refine C_nil ?_
    refine CW_cond (b := (decide (((k36 : Int) : Int) < (a_a.length : Int)))) (.tmp rfl rfl) (fun hb => absurd (hfe43.symm.trans hb) (by decide)) (fun _ => ?_)
    refine CW_exit ?_
    refine CThen_exit ?_
    refine CThen_exit ?_
    refine CIn_self ?_
    refine K_region ?_
    refine C_val (V_move (v := (.slice (some ⟨k4, 0, none⟩) (a_a.length : Int).toNat 1)) (.tmp rfl rfl)) ?_
    refine C_val (V_assign (v := (.slice (some ⟨k4, 0, none⟩) (a_a.length : Int).toNat 1)) (.tmp rfl rfl)) ?_
    refine C_nil ?_
    refine CW_ret ?_
    obtain rfl := Option.some.inj hF
    exact End_ret (⟨(some ⟨k4, 0, none⟩), (a_a.length : Int).toNat, 1⟩, F32) (.tmp rfl rfl .nil) rfl (.sel (.cons (.t .h) .nil))
  obtain ⟨hk40, hx41, hd42⟩ := drop_cons hd39
  have hfe43 : (decide (((k36 : Int) : Int) < (a_a.length : Int))) = true := decide_eq_true (by omega)
  rw [l_toMethodS_L1] at hF
  refine K_in ?_
  refine K_region ?_
  refine C_val (V_move (v := (.int .i64 (k36 : Int))) (.tmp rfl rfl)) ?_
  refine C_val (V_move (v := v0_0.v) (.tmp rfl rfl)) ?_
  refine C_at .h (fun hp => V_lenR (l := a_a.length) sl29 (.tmp rfl rfl) (crd_len hp)) ?_
  refine C_val (V_lss (i := (k36 : Int)) (j := (a_a.length : Int)) (.tmp rfl rfl) (.tmp rfl rfl)) ?_
  refine C_nil ?_
  refine CW_cond (b := (decide (((k36 : Int) : Int) < (a_a.length : Int)))) (.tmp rfl rfl) (fun _ => ?_) (fun hb => absurd (hfe43.symm.trans hb) (by decide))
  refine CW_skip ?_
  refine K_block ?_
  refine CW_region ?_
  refine C_val (V_move (v := (.slice (some ⟨k4, 0, none⟩) (a_a.length : Int).toNat 1)) (.tmp rfl rfl)) ?_
  refine C_val (V_move (v := (.int .i64 (k36 : Int))) (.tmp rfl rfl)) ?_
  refine C_val (V_move (v := v0_0.v) (.tmp rfl rfl)) ?_
  refine C_val (V_move (v := (.int .i64 (k36 : Int))) (.tmp rfl rfl)) ?_
  refine C_idx (a := x38) sl29 ty95.sz (.tmp rfl rfl) (.tmp rfl rfl) .h (Int.natCast_nonneg k36) hx41 (fun k45 j46 => ?_)
  refine C_ldA1 (ul95_0_95 x38) ag95 ty95.sz rfl (.tmp rfl rfl) .h la95_0_95 (fun p47 => ?_)
  obtain ⟨r48, hx49, hF⟩ := bind_some hF
  refine C_x1 (.rd .h rfl .nil) (X_callS cf53 (.cons (.tmp rfl rfl) .nil) (l_toMethod_ok x38 p47 _ hx49)) (fun p50 => ?_)
  obtain ⟨u54, hx55, hF⟩ := bind_some hF
  have hi53 := chk_some hx55
  refine C_idxO sl35 ty101.sz (.tmp rfl rfl) (.tmp rfl rfl) (.t (.t (.t (.t .h)))) hi53 (fun k51 hk52 => ?_)
  obtain ⟨z56, hx57, hF⟩ := bind_some hF
  replace hx57 := Option.some.inj hx57
  refine C_x1 (.cons (.t (.t (.t (.t .h)))) (.cons .h .nil)) (X_storeO (Ro := ow101) (a := r48) (i := (k36 : Int)) ty101.sz rfl (.tmp rfl rfl) (.tmp rfl rfl) hk52 hi53 mk101 (fun _ _ _ _ h => by obtain ⟨_, _, rfl, rfl, _⟩ := h; rfl)) (fun F58 => ?_)
  rw [hx57]
  refine C_nil ?_
  refine CW_region ?_
  refine C_val (V_move (v := (.int .i64 (k36 : Int))) (.tmp rfl rfl)) ?_
  refine C_val (V_add (i := (k36 : Int)) (j := 1) (.tmp rfl rfl) (.int _ _)) ?_
  refine C_val (V_assign (v := (.int .i64 (IntKind.i64.wrap ((k36 : Int) + 1)))) (.tmp rfl rfl)) ?_
  refine C_nil ?_
  have hw59 : IntKind.i64.wrap ((k36 : Int) + 1) = ((k36 + 1 : Nat) : Int) := by rw [wrap_in (by omega) (by omega)]; rfl
  rw [hw59]
  exact ⟨_, Nat.lt_succ_self _, _, k36 + 1, rest37, _, F58, rfl, (EqL.cons rfl (EqL.cons rfl (EqL.cons rfl (EqL.nil)))).eq, hd42, (.sel (.rd (.t (.t (.t .h))) rfl (.cons .h .nil))), hF⟩

/-! laws.toRule -/
def l_toRule (a_a : Rule) : Option (Rule) :=
  (l_toIntS a_a.Map).bind fun r4 =>
  some ({ From := a_a.From, To := a_a.To, Map := r4 } : Rule)
theorem l_toRule_ok (a_a : Rule) (v0_2 : Sv) (R : Rule) (hF : l_toRule a_a = some R) :
    Fw.Spec Try.prog 133 [(.agg [(.int .i64 a_a.From), (.int .i64 a_a.To), v0_2.v].toArray)] [crd (RdS 3 rdInt) v0_2.v a_a.Map] (fun p : Sv × List Nat => (.agg [(.int .i64 R.From), (.int .i64 R.To), p.1.v].toArray)) (fun p => [cown (OwnS 3 (roE rdInt)) p.2 p.1.v R.Map]) := by
  refine Spec_enter (n := 15) Try.func133 rfl rfl (rs := [.cell 2 126]) rfl rfl rfl ?_
  intro H0 F0
  unfold l_toRule at hF
  refine K_region ?_
  refine C_newR rfl (N_box (g := false) (v := (.agg [(.int .i64 a_a.From), (.int .i64 a_a.To), v0_2.v].toArray)) ty152.sz (.tmp rfl rfl) rfl) (fun k1 => ?_)
  refine C_new rfl (N_allocT (g := true) ty126 rfl rfl) (fun k2 => ?_)
  refine C_nil ?_
  refine K_region ?_
  refine C_new rfl (N_allocT (g := true) ty126 rfl rfl) (fun k3 => ?_)
  refine C_nil ?_
  refine K_region ?_
  refine C_val (V_fieldAddr (off := 0) fd152_0 (.tmp rfl rfl)) ?_
  refine C_at (.t (.t .h)) (fun hp => V_load (v := (.int .i64 a_a.From)) ag3 (.tmp rfl rfl) hp.2 rfl rfl) ?_
  refine C_val (V_fieldAddr (off := 0) fd126_0 (.tmp rfl rfl)) ?_
  refine C_x1 (.cons .h .nil) (X_storeB (e := (.agg [(.int .i64 0), (.int .i64 0), (.slice none 0 0)].toArray)) (e' := (.agg [(.int .i64 a_a.From), (.int .i64 0), (.slice none 0 0)].toArray)) (v := (.int .i64 a_a.From)) ty3.sz (.tmp rfl rfl) (.tmp rfl rfl) rfl rfl rfl rfl rfl) (fun _ => ?_)
  refine C_nil ?_
  refine K_region ?_
  refine C_val (V_fieldAddr (off := 1) fd152_1 (.tmp rfl rfl)) ?_
  refine C_at (.t (.t .h)) (fun hp => V_load (v := (.int .i64 a_a.To)) ag3 (.tmp rfl rfl) hp.2 rfl rfl) ?_
  refine C_val (V_fieldAddr (off := 1) fd126_1 (.tmp rfl rfl)) ?_
  refine C_x1 (.cons .h .nil) (X_storeB (e := (.agg [(.int .i64 a_a.From), (.int .i64 0), (.slice none 0 0)].toArray)) (e' := (.agg [(.int .i64 a_a.From), (.int .i64 a_a.To), (.slice none 0 0)].toArray)) (v := (.int .i64 a_a.To)) ty3.sz (.tmp rfl rfl) (.tmp rfl rfl) rfl rfl rfl rfl rfl) (fun _ => ?_)
  refine C_nil ?_
  refine K_region ?_
  refine C_val (V_fieldAddr (off := 2) fd152_2 (.tmp rfl rfl)) ?_
  refine C_at (.t (.t .h)) (fun hp => V_load (v := v0_2.v) ag45 (.tmp rfl rfl) hp.2 rfl rfl) ?_
  obtain ⟨r4, hx5, hF⟩ := bind_some hF
  refine C_x1 (.rd (.t (.t (.t .h))) rfl .nil) (X_callS cf28 (.cons (.tmp rfl rfl) .nil) (l_toIntS_ok a_a.Map v0_2 _ hx5)) (fun p6 => ?_)
  refine C_val (V_fieldAddr (off := 2) fd126_2 (.tmp rfl rfl)) ?_
  refine C_x1 (.cons (.t .h) .nil) (X_storeB (e := (.agg [(.int .i64 a_a.From), (.int .i64 a_a.To), (.slice none 0 0)].toArray)) (e' := (.agg [(.int .i64 a_a.From), (.int .i64 a_a.To), p6.1.v].toArray)) ty45.sz (.tmp rfl rfl) (.tmp rfl rfl) rfl rfl rfl rfl rfl) (fun _ => ?_)
  refine C_nil ?_
  refine K_region ?_
  refine C_at .h (fun hp => V_loadBox ag126 ty126.sz rfl (.tmp rfl rfl) hp.2 rfl) ?_
  refine C_x1 (.cons (.t (.t .h)) .nil) (X_storeB (e := (.agg [(.int .i64 0), (.int .i64 0), (.slice none 0 0)].toArray)) (e' := (.agg [(.int .i64 a_a.From), (.int .i64 a_a.To), p6.1.v].toArray)) (v := (.agg [(.int .i64 a_a.From), (.int .i64 a_a.To), p6.1.v].toArray)) ty126.sz (.tmp rfl rfl) (.tmp rfl rfl) rfl rfl rfl rfl rfl) (fun _ => ?_)
  refine C_nil ?_
  refine CW_ret ?_
  obtain rfl := Option.some.inj hF
  exact End_ret (p6.1, p6.2) (.cellA rfl rfl .h rfl ag126 ty126.sz rfl rfl .nil) rfl (.sel (.cons (.t (.t .h)) .nil))

/-! laws.toRuleS -/
def l_toRuleS_L1 : List Rule → Nat → (List Rule) → Option ((List Rule))
  | [], k36, c31 => some c31
  | x38 :: rest37, k36, c31 => (l_toRule x38).bind fun r48 =>
    (chk (decide (0 ≤ (k36 : Int)) && decide ((k36 : Int) < (c31.length : Int)))).bind fun u54 =>
    (some (c31.set ((k36 : Int)).toNat r48)).bind fun z56 =>
    l_toRuleS_L1 rest37 (k36 + 1) z56
def l_toRuleS (a_a : List Rule) : Option ((List Rule)) :=
  (mkz (a_a.length : Int) (({ From := 0, To := 0, Map := [] } : Rule) : Rule)).bind fun z1 =>
  l_toRuleS_L1 a_a 0 z1
theorem l_toRuleS_ok (a_a : List Rule) (v0_0 : Sv) (R : (List Rule)) (hF : l_toRuleS a_a = some R) :
    Fw.Spec Try.prog 92 [v0_0.v] [crd (RdS 152 rd152) v0_0.v a_a] (fun p : Sv × List Nat => p.1.v) (fun p => [cown (OwnS 126 ow126) p.2 p.1.v R]) := by
  refine Spec_enter (n := 23) Try.func92 rfl rfl (rs := [.tmp 2]) rfl rfl rfl ?_
  intro H0 F0
  unfold l_toRuleS at hF
  refine K_region ?_
  refine C_val (V_assign (v := (.slice none 0 0)) EV.nilSlice) ?_
  refine C_nil ?_
  refine K_region ?_
  refine C_val (V_move (v := v0_0.v) (.tmp rfl rfl)) ?_
  refine C_at .h (fun hp => V_lenR (l := a_a.length) sl65 (.tmp rfl rfl) (crd_len hp)) ?_
  obtain ⟨z1, hx2, hF⟩ := bind_some hF
  have hm3 := mkz_some hx2
  refine C_new rfl (N_makeSlice (g := true) (c := (a_a.length : Int)) sl46 ty126 rfl rfl (by decide) (.tmp rfl rfl) hm3.2.1 hm3.2.2) (fun k4 => ?_)
  refine C_conv (.cons .h .nil) (own_make (Ro := ow126) (E := 126) (a := (({ From := 0, To := 0, Map := [] } : Rule) : Rule)) hx2 (fun _ => ⟨⟨none, 0, 0⟩, [], rfl, rfl, .inl ⟨rfl, rfl, rfl⟩⟩)) apps ?_
  refine C_val (V_assign (v := (.slice (some ⟨k4, 0, none⟩) (a_a.length : Int).toNat 1)) (.tmp rfl rfl)) ?_
  refine C_nil ?_
  refine K_in ?_
  refine K_region ?_
  refine C_val (V_assign (v := (.int .i64 0)) (.int _ _)) ?_
  refine C_nil ?_
  refine CW_block ?_
  refine CW_loop (m := a_a.length) (fun m34 f' cs' => ∃ (g : Fr) (k36 : Nat) (rest37 : List Rule) (c31 : List Rule) (F32 : List Nat), m34 = rest37.length ∧ f' = updL g [(0, v0_0.v), (3, (.slice (some ⟨k4, 0, none⟩) (a_a.length : Int).toNat 1)), (4, (.int .i64 (k36 : Int)))] ∧ List.drop k36 a_a = rest37 ∧ Ent cs' [crd (RdS 152 rd152) v0_0.v a_a, cown (OwnS 126 ow126) F32 (.slice (some ⟨k4, 0, none⟩) (a_a.length : Int).toNat 1) c31] ∧ l_toRuleS_L1 rest37 k36 c31 = some R) ⟨_, 0, _, _, [k4], rfl, (EqL.cons rfl (EqL.cons rfl (EqL.cons rfl (EqL.nil)))).eq, rfl, (.sel (.rd (.t .h) rfl (.cons .h .nil))), hF⟩ ?_
  clear hF
  rintro m34 _ _ ⟨g35, k36, rest37, c31, F32, rfl, rfl, hd39, hE, hF⟩
  refine K_ent hE ?_
  clear hE
  refine K_pure (c := crd (RdS 152 rd152) v0_0.v a_a) .h crd_bound (fun hbd44 => ?_)
  rcases rest37 with _ | ⟨x38, rest37⟩
  · have hk40 := List.drop_eq_nil_iff.1 hd39
    have hfe43 : (decide (((k36 : Int) : Int) < (a_a.length : Int))) = false := decide_eq_false (by omega)
    rw [l_toRuleS_L1] at hF
    refine K_in ?_
    refine K_region ?_
    refine C_val (V_move (v := (.int .i64 (k36 : Int))) (.tmp rfl rfl)) ?_
    refine C_val (V_move (v := v0_0.v) (.tmp rfl rfl)) ?_
    refine C_at .h (fun hp => V_lenR (l := a_a.length) sl65 (.tmp rfl rfl) (crd_len hp)) ?_
    refine C_val (V_lss (i := (k36 : Int)) (j := (a_a.length : Int)) (.tmp rfl rfl) (.tmp rfl rfl)) ?_
    refine C_nil ?_
    refine CW_cond (b := (decide (((k36 : Int) : Int) < (a_a.length : Int)))) (.tmp rfl rfl) (fun hb => absurd (hfe43.symm.trans hb) (by decide)) (fun _ => ?_)
    refine CW_exit ?_
    refine CThen_exit ?_
    refine CThen_exit ?_
    refine CIn_self ?_
    refine K_region ?_
    refine C_val (V_move (v := (.slice (some ⟨k4, 0, none⟩) (a_a.length : Int).toNat 1)) (.tmp rfl rfl)) ?_
    refine C_val (V_assign (v := (.slice (some ⟨k4, 0, none⟩) (a_a.length : Int).toNat 1)) (.tmp rfl rfl)) ?_
    refine C_nil ?_
    refine CW_ret ?_
    obtain rfl := Option.some.inj hF
    exact End_ret (⟨(some ⟨k4, 0, none⟩), (a_a.length : Int).toNat, 1⟩, F32) (.tmp rfl rfl .nil) rfl (.sel (.cons (.t .h) .nil))
  obtain ⟨hk40, hx41, hd42⟩ := drop_cons hd39
  have hfe43 : (decide (((k36 : Int) : Int) < (a_a.length : Int))) = true := decide_eq_true (by omega)
  rw [l_toRuleS_L1] at hF
  refine K_in ?_
  refine K_region ?_
  refine C_val (V_move (v := (.int .i64 (k36 : Int))) (.tmp rfl rfl)) ?_
  refine C_val (V_move (v := v0_0.v) (.tmp rfl rfl)) ?_
  refine C_at .h (fun hp => V_lenR (l := a_a.length) sl65 (.tmp rfl rfl) (crd_len hp)) ?_
  refine C_val (V_lss (i := (k36 : Int)) (j := (a_a.length : Int)) (.tmp rfl rfl) (.tmp rfl rfl)) ?_
  refine C_nil ?_
  refine CW_cond (b := (decide (((k36 : Int) : Int) < (a_a.length : Int)))) (.tmp rfl rfl) (fun _ => ?_) (fun hb => absurd (hfe43.symm.trans hb) (by decide))
  refine CW_skip ?_
  refine K_block ?_
  refine CW_region ?_
  refine C_val (V_move (v := (.slice (some ⟨k4, 0, none⟩) (a_a.length : Int).toNat 1)) (.tmp rfl rfl)) ?_
  refine C_val (V_move (v := (.int .i64 (k36 : Int))) (.tmp rfl rfl)) ?_
  refine C_val (V_move (v := v0_0.v) (.tmp rfl rfl)) ?_
  refine C_val (V_move (v := (.int .i64 (k36 : Int))) (.tmp rfl rfl)) ?_
  refine C_idx (a := x38) sl65 ty152.sz (.tmp rfl rfl) (.tmp rfl rfl) .h (Int.natCast_nonneg k36) hx41 (fun k45 j46 => ?_)
  refine C_ldA1 (ul152_0_152 x38) ag152 ty152.sz rfl (.tmp rfl rfl) .h la152_0_152 (fun p47 => ?_)
  obtain ⟨r48, hx49, hF⟩ := bind_some hF
  refine C_x1 (.rd .h rfl .nil) (X_callS cf133 (.cons (.tmp rfl rfl) .nil) (l_toRule_ok x38 p47 _ hx49)) (fun p50 => ?_)
  obtain ⟨u54, hx55, hF⟩ := bind_some hF
  have hi53 := chk_some hx55
  refine C_idxO sl46 ty126.sz (.tmp rfl rfl) (.tmp rfl rfl) (.t (.t (.t (.t .h)))) hi53 (fun k51 hk52 => ?_)
  obtain ⟨z56, hx57, hF⟩ := bind_some hF
  replace hx57 := Option.some.inj hx57
  refine C_x1 (.cons (.t (.t (.t (.t .h)))) (.cons .h .nil)) (X_storeO (Ro := ow126) (a := r48) (i := (k36 : Int)) ty126.sz rfl (.tmp rfl rfl) (.tmp rfl rfl) hk52 hi53 mk126 (fun _ _ _ _ h => by obtain ⟨_, _, rfl, rfl, _⟩ := h; rfl)) (fun F58 => ?_)
  rw [hx57]
  refine C_nil ?_
  refine CW_region ?_
  refine C_val (V_move (v := (.int .i64 (k36 : Int))) (.tmp rfl rfl)) ?_
  refine C_val (V_add (i := (k36 : Int)) (j := 1) (.tmp rfl rfl) (.int _ _)) ?_
  refine C_val (V_assign (v := (.int .i64 (IntKind.i64.wrap ((k36 : Int) + 1)))) (.tmp rfl rfl)) ?_
  refine C_nil ?_
  have hw59 : IntKind.i64.wrap ((k36 : Int) + 1) = ((k36 + 1 : Nat) : Int) := by rw [wrap_in (by omega) (by omega)]; rfl
  rw [hw59]
  exact ⟨_, Nat.lt_succ_self _, _, k36 + 1, rest37, _, F58, rfl, (EqL.cons rfl (EqL.cons rfl (EqL.cons rfl (EqL.nil)))).eq, hd42, (.sel (.rd (.t (.t (.t .h))) rfl (.cons .h .nil))), hF⟩

/-! laws.toFact -/
def l_toFact (a_a : Fact) : Option (Fact) :=
  (l_toIntS a_a.Values).bind fun r4 =>
  some ({ Rel := a_a.Rel, Values := r4 } : Fact)
theorem l_toFact_ok (a_a : Fact) (v0_1 : Sv) (R : Fact) (hF : l_toFact a_a = some R) :
    Fw.Spec Try.prog 161 [(.agg [(.int .i64 a_a.Rel), v0_1.v].toArray)] [crd (RdS 3 rdInt) v0_1.v a_a.Values] (fun p : Sv × List Nat => (.agg [(.int .i64 R.Rel), p.1.v].toArray)) (fun p => [cown (OwnS 3 (roE rdInt)) p.2 p.1.v R.Values]) := by
  refine Spec_enter (n := 12) Try.func161 rfl rfl (rs := [.cell 2 157]) rfl rfl rfl ?_
  intro H0 F0
  unfold l_toFact at hF
  refine K_region ?_
  refine C_newR rfl (N_box (g := false) (v := (.agg [(.int .i64 a_a.Rel), v0_1.v].toArray)) ty188.sz (.tmp rfl rfl) rfl) (fun k1 => ?_)
  refine C_new rfl (N_allocT (g := true) ty157 rfl rfl) (fun k2 => ?_)
  refine C_nil ?_
  refine K_region ?_
  refine C_new rfl (N_allocT (g := true) ty157 rfl rfl) (fun k3 => ?_)
  refine C_nil ?_
  refine K_region ?_
  refine C_val (V_fieldAddr (off := 0) fd188_0 (.tmp rfl rfl)) ?_
  refine C_at (.t (.t .h)) (fun hp => V_load (v := (.int .i64 a_a.Rel)) ag3 (.tmp rfl rfl) hp.2 rfl rfl) ?_
  refine C_val (V_fieldAddr (off := 0) fd157_0 (.tmp rfl rfl)) ?_
  refine C_x1 (.cons .h .nil) (X_storeB (e := (.agg [(.int .i64 0), (.slice none 0 0)].toArray)) (e' := (.agg [(.int .i64 a_a.Rel), (.slice none 0 0)].toArray)) (v := (.int .i64 a_a.Rel)) ty3.sz (.tmp rfl rfl) (.tmp rfl rfl) rfl rfl rfl rfl rfl) (fun _ => ?_)
  refine C_nil ?_
  refine K_region ?_
  refine C_val (V_fieldAddr (off := 1) fd188_1 (.tmp rfl rfl)) ?_
  refine C_at (.t (.t .h)) (fun hp => V_load (v := v0_1.v) ag45 (.tmp rfl rfl) hp.2 rfl rfl) ?_
  obtain ⟨r4, hx5, hF⟩ := bind_some hF
  refine C_x1 (.rd (.t (.t (.t .h))) rfl .nil) (X_callS cf28 (.cons (.tmp rfl rfl) .nil) (l_toIntS_ok a_a.Values v0_1 _ hx5)) (fun p6 => ?_)
  refine C_val (V_fieldAddr (off := 1) fd157_1 (.tmp rfl rfl)) ?_
  refine C_x1 (.cons (.t .h) .nil) (X_storeB (e := (.agg [(.int .i64 a_a.Rel), (.slice none 0 0)].toArray)) (e' := (.agg [(.int .i64 a_a.Rel), p6.1.v].toArray)) ty45.sz (.tmp rfl rfl) (.tmp rfl rfl) rfl rfl rfl rfl rfl) (fun _ => ?_)
  refine C_nil ?_
  refine K_region ?_
  refine C_at .h (fun hp => V_loadBox ag157 ty157.sz rfl (.tmp rfl rfl) hp.2 rfl) ?_
  refine C_x1 (.cons (.t (.t .h)) .nil) (X_storeB (e := (.agg [(.int .i64 0), (.slice none 0 0)].toArray)) (e' := (.agg [(.int .i64 a_a.Rel), p6.1.v].toArray)) (v := (.agg [(.int .i64 a_a.Rel), p6.1.v].toArray)) ty157.sz (.tmp rfl rfl) (.tmp rfl rfl) rfl rfl rfl rfl rfl) (fun _ => ?_)
  refine C_nil ?_
  refine CW_ret ?_
  obtain rfl := Option.some.inj hF
  exact End_ret (p6.1, p6.2) (.cellA rfl rfl .h rfl ag157 ty157.sz rfl rfl .nil) rfl (.sel (.cons (.t (.t .h)) .nil))

/-! laws.toFactS -/
def l_toFactS_L1 : List Fact → Nat → (List Fact) → Option ((List Fact))
  | [], k36, c31 => some c31
  | x38 :: rest37, k36, c31 => (l_toFact x38).bind fun r48 =>
    (chk (decide (0 ≤ (k36 : Int)) && decide ((k36 : Int) < (c31.length : Int)))).bind fun u54 =>
    (some (c31.set ((k36 : Int)).toNat r48)).bind fun z56 =>
    l_toFactS_L1 rest37 (k36 + 1) z56
def l_toFactS (a_a : List Fact) : Option ((List Fact)) :=
  (mkz (a_a.length : Int) (({ Rel := 0, Values := [] } : Fact) : Fact)).bind fun z1 =>
  l_toFactS_L1 a_a 0 z1
theorem l_toFactS_ok (a_a : List Fact) (v0_0 : Sv) (R : (List Fact)) (hF : l_toFactS a_a = some R) :
    Fw.Spec Try.prog 134 [v0_0.v] [crd (RdS 188 rd188) v0_0.v a_a] (fun p : Sv × List Nat => p.1.v) (fun p => [cown (OwnS 157 ow157) p.2 p.1.v R]) := by
  refine Spec_enter (n := 23) Try.func134 rfl rfl (rs := [.tmp 2]) rfl rfl rfl ?_
  intro H0 F0
  unfold l_toFactS at hF
  refine K_region ?_
  refine C_val (V_assign (v := (.slice none 0 0)) EV.nilSlice) ?_
  refine C_nil ?_
  refine K_region ?_
  refine C_val (V_move (v := v0_0.v) (.tmp rfl rfl)) ?_
  refine C_at .h (fun hp => V_lenR (l := a_a.length) sl66 (.tmp rfl rfl) (crd_len hp)) ?_
  obtain ⟨z1, hx2, hF⟩ := bind_some hF
  have hm3 := mkz_some hx2
  refine C_new rfl (N_makeSlice (g := true) (c := (a_a.length : Int)) sl47 ty157 rfl rfl (by decide) (.tmp rfl rfl) hm3.2.1 hm3.2.2) (fun k4 => ?_)
  refine C_conv (.cons .h .nil) (own_make (Ro := ow157) (E := 157) (a := (({ Rel := 0, Values := [] } : Fact) : Fact)) hx2 (fun _ => ⟨⟨none, 0, 0⟩, [], rfl, rfl, .inl ⟨rfl, rfl, rfl⟩⟩)) apps ?_
  refine C_val (V_assign (v := (.slice (some ⟨k4, 0, none⟩) (a_a.length : Int).toNat 1)) (.tmp rfl rfl)) ?_
  refine C_nil ?_
  refine K_in ?_
  refine K_region ?_
  refine C_val (V_assign (v := (.int .i64 0)) (.int _ _)) ?_
  refine C_nil ?_
  refine CW_block ?_
  refine CW_loop (m := a_a.length) (fun m34 f' cs' => ∃ (g : Fr) (k36 : Nat) (rest37 : List Fact) (c31 : List Fact) (F32 : List Nat), m34 = rest37.length ∧ f' = updL g [(0, v0_0.v), (3, (.slice (some ⟨k4, 0, none⟩) (a_a.length : Int).toNat 1)), (4, (.int .i64 (k36 : Int)))] ∧ List.drop k36 a_a = rest37 ∧ Ent cs' [crd (RdS 188 rd188) v0_0.v a_a, cown (OwnS 157 ow157) F32 (.slice (some ⟨k4, 0, none⟩) (a_a.length : Int).toNat 1) c31] ∧ l_toFactS_L1 rest37 k36 c31 = some R) ⟨_, 0, _, _, [k4], rfl, (EqL.cons rfl (EqL.cons rfl (EqL.cons rfl (EqL.nil)))).eq, rfl, (.sel (.rd (.t .h) rfl (.cons .h .nil))), hF⟩ ?_
  clear hF
  rintro m34 _ _ ⟨g35, k36, rest37, c31, F32, rfl, rfl, hd39, hE, hF⟩
  refine K_ent hE ?_
  clear hE
  refine K_pure (c := crd (RdS 188 rd188) v0_0.v a_a) .h crd_bound (fun hbd44 => ?_)
  rcases rest37 with _ | ⟨x38, rest37⟩
  · have hk40 := List.drop_eq_nil_iff.1 hd39
    have hfe43 : (decide (((k36 : Int) : Int) < (a_a.length : Int))) = false := decide_eq_false (by omega)
    rw [l_toFactS_L1] at hF
    refine K_in ?_
    refine K_region ?_
    refine C_val (V_move (v := (.int .i64 (k36 : Int))) (.tmp rfl rfl)) ?_
    refine C_val (V_move (v := v0_0.v) (.tmp rfl rfl)) ?_
    refine C_at .h (fun hp => V_lenR (l := a_a.length) sl66 (.tmp rfl rfl) (crd_len hp)) ?_
    refine C_val (V_lss (i := (k36 : Int)) (j := (a_a.length : Int)) (.tmp rfl rfl) (.tmp rfl rfl)) ?_
    refine C_nil ?_
    refine CW_cond (b := (decide (((k36 : Int) : Int) < (a_a.length : Int)))) (.tmp rfl rfl) (fun hb => absurd (hfe43.symm.trans hb) (by decide)) (fun _ => ?_)
    refine CW_exit ?_
    refine CThen_exit ?_
    refine CThen_exit ?_
    refine CIn_self ?_
    refine K_region ?_
    refine C_val (V_move (v := (.slice (some ⟨k4, 0, none⟩) (a_a.length : Int).toNat 1)) (.tmp rfl rfl)) ?_
    refine C_val (V_assign (v := (.slice (some ⟨k4, 0, none⟩) (a_a.length : Int).toNat 1)) (.tmp rfl rfl)) ?_
    refine C_nil ?_
    refine CW_ret ?_
    obtain rfl := Option.some.inj hF
    exact End_ret (⟨(some ⟨k4, 0, none⟩), (a_a.length : Int).toNat, 1⟩, F32) (.tmp rfl rfl .nil) rfl (.sel (.cons (.t .h) .nil))
  obtain ⟨hk40, hx41, hd42⟩ := drop_cons hd39
  have hfe43 : (decide (((k36 : Int) : Int) < (a_a.length : Int))) = true := decide_eq_true (by omega)
  rw [l_toFactS_L1] at hF
  refine K_in ?_
  refine K_region ?_
  refine C_val (V_move (v := (.int .i64 (k36 : Int))) (.tmp rfl rfl)) ?_
  refine C_val (V_move (v := v0_0.v) (.tmp rfl rfl)) ?_
  refine C_at .h (fun hp => V_lenR (l := a_a.length) sl66 (.tmp rfl rfl) (crd_len hp)) ?_
  refine C_val (V_lss (i := (k36 : Int)) (j := (a_a.length : Int)) (.tmp rfl rfl) (.tmp rfl rfl)) ?_
  refine C_nil ?_
  refine CW_cond (b := (decide (((k36 : Int) : Int) < (a_a.length : Int)))) (.tmp rfl rfl) (fun _ => ?_) (fun hb => absurd (hfe43.symm.trans hb) (by decide))
  refine CW_skip ?_
  refine K_block ?_
  refine CW_region ?_
  refine C_val (V_move (v := (.slice (some ⟨k4, 0, none⟩) (a_a.length : Int).toNat 1)) (.tmp rfl rfl)) ?_
  refine C_val (V_move (v := (.int .i64 (k36 : Int))) (.tmp rfl rfl)) ?_
  refine C_val (V_move (v := v0_0.v) (.tmp rfl rfl)) ?_
  refine C_val (V_move (v := (.int .i64 (k36 : Int))) (.tmp rfl rfl)) ?_
  refine C_idx (a := x38) sl66 ty188.sz (.tmp rfl rfl) (.tmp rfl rfl) .h (Int.natCast_nonneg k36) hx41 (fun k45 j46 => ?_)
  refine C_ldA1 (ul188_0_188 x38) ag188 ty188.sz rfl (.tmp rfl rfl) .h la188_0_188 (fun p47 => ?_)
  obtain ⟨r48, hx49, hF⟩ := bind_some hF
  refine C_x1 (.rd .h rfl .nil) (X_callS cf161 (.cons (.tmp rfl rfl) .nil) (l_toFact_ok x38 p47 _ hx49)) (fun p50 => ?_)
  obtain ⟨u54, hx55, hF⟩ := bind_some hF
  have hi53 := chk_some hx55
  refine C_idxO sl47 ty157.sz (.tmp rfl rfl) (.tmp rfl rfl) (.t (.t (.t (.t .h)))) hi53 (fun k51 hk52 => ?_)
  obtain ⟨z56, hx57, hF⟩ := bind_some hF
  replace hx57 := Option.some.inj hx57
  refine C_x1 (.cons (.t (.t (.t (.t .h)))) (.cons .h .nil)) (X_storeO (Ro := ow157) (a := r48) (i := (k36 : Int)) ty157.sz rfl (.tmp rfl rfl) (.tmp rfl rfl) hk52 hi53 mk157 (fun _ _ _ _ h => by obtain ⟨_, _, rfl, rfl, _⟩ := h; rfl)) (fun F58 => ?_)
  rw [hx57]
  refine C_nil ?_
  refine CW_region ?_
  refine C_val (V_move (v := (.int .i64 (k36 : Int))) (.tmp rfl rfl)) ?_
  refine C_val (V_add (i := (k36 : Int)) (j := 1) (.tmp rfl rfl) (.int _ _)) ?_
  refine C_val (V_assign (v := (.int .i64 (IntKind.i64.wrap ((k36 : Int) + 1)))) (.tmp rfl rfl)) ?_
  refine C_nil ?_
  have hw59 : IntKind.i64.wrap ((k36 : Int) + 1) = ((k36 + 1 : Nat) : Int) := by rw [wrap_in (by omega) (by omega)]; rfl
  rw [hw59]
  exact ⟨_, Nat.lt_succ_self _, _, k36 + 1, rest37, _, F58, rfl, (EqL.cons rfl (EqL.cons rfl (EqL.cons rfl (EqL.nil)))).eq, hd42, (.sel (.rd (.t (.t (.t .h))) rfl (.cons .h .nil))), hF⟩

/-! laws.toSource -/
def l_toSource (a_a : Source) : Option (Source) :=
  (l_toFactS a_a.Facts).bind fun r4 =>
  some ({ Facts := r4, Version := a_a.Version } : Source)
theorem l_toSource_ok (a_a : Source) (v0_0 : Sv) (R : Source) (hF : l_toSource a_a = some R) :
    Fw.Spec Try.prog 93 [(.agg [v0_0.v, (.int .i64 a_a.Version)].toArray)] [crd (RdS 188 rd188) v0_0.v a_a.Facts] (fun p : Sv × List Nat => (.agg [p.1.v, (.int .i64 R.Version)].toArray)) (fun p => [cown (OwnS 157 ow157) p.2 p.1.v R.Facts]) := by
  refine Spec_enter (n := 12) Try.func93 rfl rfl (rs := [.cell 2 49]) rfl rfl rfl ?_
  intro H0 F0
  unfold l_toSource at hF
  refine K_region ?_
  refine C_newR rfl (N_box (g := false) (v := (.agg [v0_0.v, (.int .i64 a_a.Version)].toArray)) ty68.sz (.tmp rfl rfl) rfl) (fun k1 => ?_)
  refine C_new rfl (N_allocT (g := true) ty49 rfl rfl) (fun k2 => ?_)
  refine C_nil ?_
  refine K_region ?_
  refine C_new rfl (N_allocT (g := true) ty49 rfl rfl) (fun k3 => ?_)
  refine C_nil ?_
  refine K_region ?_
  refine C_val (V_fieldAddr (off := 0) fd68_0 (.tmp rfl rfl)) ?_
  refine C_at (.t (.t .h)) (fun hp => V_load (v := v0_0.v) ag66 (.tmp rfl rfl) hp.2 rfl rfl) ?_
  obtain ⟨r4, hx5, hF⟩ := bind_some hF
  refine C_x1 (.rd (.t (.t (.t .h))) rfl .nil) (X_callS cf134 (.cons (.tmp rfl rfl) .nil) (l_toFactS_ok a_a.Facts v0_0 _ hx5)) (fun p6 => ?_)
  refine C_val (V_fieldAddr (off := 0) fd49_0 (.tmp rfl rfl)) ?_
  refine C_x1 (.cons (.t .h) .nil) (X_storeB (e := (.agg [(.slice none 0 0), (.int .i64 0)].toArray)) (e' := (.agg [p6.1.v, (.int .i64 0)].toArray)) ty47.sz (.tmp rfl rfl) (.tmp rfl rfl) rfl rfl rfl rfl rfl) (fun _ => ?_)
  refine C_nil ?_
  refine K_region ?_
  refine C_val (V_fieldAddr (off := 1) fd68_1 (.tmp rfl rfl)) ?_
  refine C_at (.t (.t (.t .h))) (fun hp => V_load (v := (.int .i64 a_a.Version)) ag3 (.tmp rfl rfl) hp.2 rfl rfl) ?_
  refine C_val (V_fieldAddr (off := 1) fd49_1 (.tmp rfl rfl)) ?_
  refine C_x1 (.cons .h .nil) (X_storeB (e := (.agg [p6.1.v, (.int .i64 0)].toArray)) (e' := (.agg [p6.1.v, (.int .i64 a_a.Version)].toArray)) (v := (.int .i64 a_a.Version)) ty3.sz (.tmp rfl rfl) (.tmp rfl rfl) rfl rfl rfl rfl rfl) (fun _ => ?_)
  refine C_nil ?_
  refine K_region ?_
  refine C_at .h (fun hp => V_loadBox ag49 ty49.sz rfl (.tmp rfl rfl) hp.2 rfl) ?_
  refine C_x1 (.cons (.t (.t .h)) .nil) (X_storeB (e := (.agg [(.slice none 0 0), (.int .i64 0)].toArray)) (e' := (.agg [p6.1.v, (.int .i64 a_a.Version)].toArray)) (v := (.agg [p6.1.v, (.int .i64 a_a.Version)].toArray)) ty49.sz (.tmp rfl rfl) (.tmp rfl rfl) rfl rfl rfl rfl rfl) (fun _ => ?_)
  refine C_nil ?_
  refine CW_ret ?_
  obtain rfl := Option.some.inj hF
  exact End_ret (p6.1, p6.2) (.cellA rfl rfl .h rfl ag49 ty49.sz rfl rfl .nil) rfl (.sel (.cons (.t (.t .h)) .nil))

/-! laws.toAccess -/
def l_toAccess (a_a : Access) : Option (Access) :=
  (l_toIntS a_a.Values).bind fun r4 =>
  some ({ Method := a_a.Method, Values := r4 } : Access)
theorem l_toAccess_ok (a_a : Access) (v0_1 : Sv) (R : Access) (hF : l_toAccess a_a = some R) :
    Fw.Spec Try.prog 54 [(.agg [(.int .i64 a_a.Method), v0_1.v].toArray)] [crd (RdS 3 rdInt) v0_1.v a_a.Values] (fun p : Sv × List Nat => (.agg [(.int .i64 R.Method), p.1.v].toArray)) (fun p => [cown (OwnS 3 (roE rdInt)) p.2 p.1.v R.Values]) := by
  refine Spec_enter (n := 12) Try.func54 rfl rfl (rs := [.cell 2 100]) rfl rfl rfl ?_
  intro H0 F0
  unfold l_toAccess at hF
  refine K_region ?_
  refine C_newR rfl (N_box (g := false) (v := (.agg [(.int .i64 a_a.Method), v0_1.v].toArray)) ty98.sz (.tmp rfl rfl) rfl) (fun k1 => ?_)
  refine C_new rfl (N_allocT (g := true) ty100 rfl rfl) (fun k2 => ?_)
  refine C_nil ?_
  refine K_region ?_
  refine C_new rfl (N_allocT (g := true) ty100 rfl rfl) (fun k3 => ?_)
  refine C_nil ?_
  refine K_region ?_
  refine C_val (V_fieldAddr (off := 0) fd98_0 (.tmp rfl rfl)) ?_
  refine C_at (.t (.t .h)) (fun hp => V_load (v := (.int .i64 a_a.Method)) ag3 (.tmp rfl rfl) hp.2 rfl rfl) ?_
  refine C_val (V_fieldAddr (off := 0) fd100_0 (.tmp rfl rfl)) ?_
  refine C_x1 (.cons .h .nil) (X_storeB (e := (.agg [(.int .i64 0), (.slice none 0 0)].toArray)) (e' := (.agg [(.int .i64 a_a.Method), (.slice none 0 0)].toArray)) (v := (.int .i64 a_a.Method)) ty3.sz (.tmp rfl rfl) (.tmp rfl rfl) rfl rfl rfl rfl rfl) (fun _ => ?_)
  refine C_nil ?_
  refine K_region ?_
  refine C_val (V_fieldAddr (off := 1) fd98_1 (.tmp rfl rfl)) ?_
  refine C_at (.t (.t .h)) (fun hp => V_load (v := v0_1.v) ag45 (.tmp rfl rfl) hp.2 rfl rfl) ?_
  obtain ⟨r4, hx5, hF⟩ := bind_some hF
  refine C_x1 (.rd (.t (.t (.t .h))) rfl .nil) (X_callS cf28 (.cons (.tmp rfl rfl) .nil) (l_toIntS_ok a_a.Values v0_1 _ hx5)) (fun p6 => ?_)
  refine C_val (V_fieldAddr (off := 1) fd100_1 (.tmp rfl rfl)) ?_
  refine C_x1 (.cons (.t .h) .nil) (X_storeB (e := (.agg [(.int .i64 a_a.Method), (.slice none 0 0)].toArray)) (e' := (.agg [(.int .i64 a_a.Method), p6.1.v].toArray)) ty45.sz (.tmp rfl rfl) (.tmp rfl rfl) rfl rfl rfl rfl rfl) (fun _ => ?_)
  refine C_nil ?_
  refine K_region ?_
  refine C_at .h (fun hp => V_loadBox ag100 ty100.sz rfl (.tmp rfl rfl) hp.2 rfl) ?_
  refine C_x1 (.cons (.t (.t .h)) .nil) (X_storeB (e := (.agg [(.int .i64 0), (.slice none 0 0)].toArray)) (e' := (.agg [(.int .i64 a_a.Method), p6.1.v].toArray)) (v := (.agg [(.int .i64 a_a.Method), p6.1.v].toArray)) ty100.sz (.tmp rfl rfl) (.tmp rfl rfl) rfl rfl rfl rfl rfl) (fun _ => ?_)
  refine C_nil ?_
  refine CW_ret ?_
  obtain rfl := Option.some.inj hF
  exact End_ret (p6.1, p6.2) (.cellA rfl rfl .h rfl ag100 ty100.sz rfl rfl .nil) rfl (.sel (.cons (.t (.t .h)) .nil))

/-! laws.toStored -/
def l_toStored (a_a : Stored) : Option (Stored) :=
  (l_toAccess a_a.Access).bind fun r4 =>
  (l_toFactS a_a.Facts).bind fun r7 =>
  some ({ Access := r4, Facts := r7, At := a_a.At } : Stored)
theorem l_toStored_ok (a_a : Stored) (v0_1 : Sv) (v0_2 : Sv) (R : Stored) (hF : l_toStored a_a = some R) :
    Fw.Spec Try.prog 162 [(.agg [(.int .i64 a_a.Access.Method), v0_1.v, v0_2.v, (.int .i64 a_a.At)].toArray)] [crd (RdS 3 rdInt) v0_1.v a_a.Access.Values, crd (RdS 188 rd188) v0_2.v a_a.Facts] (fun p : Sv × List Nat × Sv × List Nat => (.agg [(.int .i64 R.Access.Method), p.1.v, p.2.2.1.v, (.int .i64 R.At)].toArray)) (fun p => [cown (OwnS 3 (roE rdInt)) p.2.1 p.1.v R.Access.Values, cown (OwnS 157 ow157) p.2.2.2 p.2.2.1.v R.Facts]) := by
  refine Spec_enter (n := 16) Try.func162 rfl rfl (rs := [.cell 2 159]) rfl rfl rfl ?_
  intro H0 F0
  unfold l_toStored at hF
  refine K_region ?_
  refine C_newR rfl (N_box (g := false) (v := (.agg [(.int .i64 a_a.Access.Method), v0_1.v, v0_2.v, (.int .i64 a_a.At)].toArray)) ty191.sz (.tmp rfl rfl) rfl) (fun k1 => ?_)
  refine C_new rfl (N_allocT (g := true) ty159 rfl rfl) (fun k2 => ?_)
  refine C_nil ?_
  refine K_region ?_
  refine C_new rfl (N_allocT (g := true) ty159 rfl rfl) (fun k3 => ?_)
  refine C_nil ?_
  refine K_region ?_
  refine C_val (V_fieldAddr (off := 0) fd191_0 (.tmp rfl rfl)) ?_
  refine C_at (.t (.t .h)) (fun hp => V_loadA (s := 2) (l := [(.int .i64 a_a.Access.Method), v0_1.v]) ag98 ty98.sz (.tmp rfl rfl) hp.2 rfl (by decide) (Nat.le_of_ble_eq_true rfl) rfl) ?_
  obtain ⟨r4, hx5, hF⟩ := bind_some hF
  refine C_x1 (.rd (.t (.t (.t .h))) rfl .nil) (X_callS cf54 (.cons (.tmp rfl rfl) .nil) (l_toAccess_ok a_a.Access v0_1 _ hx5)) (fun p6 => ?_)
  refine C_val (V_fieldAddr (off := 0) fd159_0 (.tmp rfl rfl)) ?_
  refine C_x1 (.cons (.t .h) .nil) (X_storeB (e := (.agg [(.int .i64 0), (.slice none 0 0), (.slice none 0 0), (.int .i64 0)].toArray)) (e' := (.agg [(.int .i64 r4.Method), p6.1.v, (.slice none 0 0), (.int .i64 0)].toArray)) (v := (.agg [(.int .i64 r4.Method), p6.1.v].toArray)) ty100.sz (.tmp rfl rfl) (.tmp rfl rfl) rfl rfl rfl rfl rfl) (fun _ => ?_)
  refine C_nil ?_
  refine K_region ?_
  refine C_val (V_fieldAddr (off := 2) fd191_1 (.tmp rfl rfl)) ?_
  refine C_at (.t (.t (.t .h))) (fun hp => V_load (v := v0_2.v) ag66 (.tmp rfl rfl) hp.2 rfl rfl) ?_
  obtain ⟨r7, hx8, hF⟩ := bind_some hF
  refine C_x1 (.rd (.t (.t (.t (.t (.t .h))))) rfl .nil) (X_callS cf134 (.cons (.tmp rfl rfl) .nil) (l_toFactS_ok a_a.Facts v0_2 _ hx8)) (fun p9 => ?_)
  refine C_val (V_fieldAddr (off := 2) fd159_1 (.tmp rfl rfl)) ?_
  refine C_x1 (.cons (.t .h) .nil) (X_storeB (e := (.agg [(.int .i64 r4.Method), p6.1.v, (.slice none 0 0), (.int .i64 0)].toArray)) (e' := (.agg [(.int .i64 r4.Method), p6.1.v, p9.1.v, (.int .i64 0)].toArray)) ty47.sz (.tmp rfl rfl) (.tmp rfl rfl) rfl rfl rfl rfl rfl) (fun _ => ?_)
  refine C_nil ?_
  refine K_region ?_
  refine C_val (V_fieldAddr (off := 3) fd191_2 (.tmp rfl rfl)) ?_
  refine C_at (.t (.t (.t (.t .h)))) (fun hp => V_load (v := (.int .i64 a_a.At)) ag3 (.tmp rfl rfl) hp.2 rfl rfl) ?_
  refine C_val (V_fieldAddr (off := 3) fd159_2 (.tmp rfl rfl)) ?_
  refine C_x1 (.cons .h .nil) (X_storeB (e := (.agg [(.int .i64 r4.Method), p6.1.v, p9.1.v, (.int .i64 0)].toArray)) (e' := (.agg [(.int .i64 r4.Method), p6.1.v, p9.1.v, (.int .i64 a_a.At)].toArray)) (v := (.int .i64 a_a.At)) ty3.sz (.tmp rfl rfl) (.tmp rfl rfl) rfl rfl rfl rfl rfl) (fun _ => ?_)
  refine C_nil ?_
  refine K_region ?_
  refine C_at .h (fun hp => V_loadBox ag159 ty159.sz rfl (.tmp rfl rfl) hp.2 rfl) ?_
  refine C_x1 (.cons (.t (.t (.t .h))) .nil) (X_storeB (e := (.agg [(.int .i64 0), (.slice none 0 0), (.slice none 0 0), (.int .i64 0)].toArray)) (e' := (.agg [(.int .i64 r4.Method), p6.1.v, p9.1.v, (.int .i64 a_a.At)].toArray)) (v := (.agg [(.int .i64 r4.Method), p6.1.v, p9.1.v, (.int .i64 a_a.At)].toArray)) ty159.sz (.tmp rfl rfl) (.tmp rfl rfl) rfl rfl rfl rfl rfl) (fun _ => ?_)
  refine C_nil ?_
  refine CW_ret ?_
  obtain rfl := Option.some.inj hF
  exact End_ret (p6.1, p6.2, p9.1, p9.2) (.cellA rfl rfl .h rfl ag159 ty159.sz rfl rfl .nil) rfl (.sel (.cons (.t (.t (.t .h))) (.cons (.t (.t .h)) .nil)))

/-! laws.toStoredS -/
def l_toStoredS_L1 : List Stored → Nat → (List Stored) → Option ((List Stored))
  | [], k36, c31 => some c31
  | x38 :: rest37, k36, c31 => (l_toStored x38).bind fun r48 =>
    (chk (decide (0 ≤ (k36 : Int)) && decide ((k36 : Int) < (c31.length : Int)))).bind fun u54 =>
    (some (c31.set ((k36 : Int)).toNat r48)).bind fun z56 =>
    l_toStoredS_L1 rest37 (k36 + 1) z56
def l_toStoredS (a_a : List Stored) : Option ((List Stored)) :=
  (mkz (a_a.length : Int) (({ Access := ({ Method := 0, Values := [] } : Access), Facts := [], At := 0 } : Stored) : Stored)).bind fun z1 =>
  l_toStoredS_L1 a_a 0 z1
theorem l_toStoredS_ok (a_a : List Stored) (v0_0 : Sv) (R : (List Stored)) (hF : l_toStoredS a_a = some R) :
    Fw.Spec Try.prog 135 [v0_0.v] [crd (RdS 191 rd191) v0_0.v a_a] (fun p : Sv × List Nat => p.1.v) (fun p => [cown (OwnS 159 ow159) p.2 p.1.v R]) := by
  refine Spec_enter (n := 23) Try.func135 rfl rfl (rs := [.tmp 2]) rfl rfl rfl ?_
  intro H0 F0
  unfold l_toStoredS at hF
  refine K_region ?_
  refine C_val (V_assign (v := (.slice none 0 0)) EV.nilSlice) ?_
  refine C_nil ?_
  refine K_region ?_
  refine C_val (V_move (v := v0_0.v) (.tmp rfl rfl)) ?_
  refine C_at .h (fun hp => V_lenR (l := a_a.length) sl69 (.tmp rfl rfl) (crd_len hp)) ?_
  obtain ⟨z1, hx2, hF⟩ := bind_some hF
  have hm3 := mkz_some hx2
  refine C_new rfl (N_makeSlice (g := true) (c := (a_a.length : Int)) sl50 ty159 rfl rfl (by decide) (.tmp rfl rfl) hm3.2.1 hm3.2.2) (fun k4 => ?_)
  refine C_conv (.cons .h .nil) (own_make (Ro := ow159) (E := 159) (a := (({ Access := ({ Method := 0, Values := [] } : Access), Facts := [], At := 0 } : Stored) : Stored)) hx2 (fun _ => ⟨⟨none, 0, 0⟩, ⟨none, 0, 0⟩, [], [], rfl, rfl, .inl ⟨rfl, rfl, rfl⟩, .inl ⟨rfl, rfl, rfl⟩⟩)) apps ?_
  refine C_val (V_assign (v := (.slice (some ⟨k4, 0, none⟩) (a_a.length : Int).toNat 1)) (.tmp rfl rfl)) ?_
  refine C_nil ?_
  refine K_in ?_
  refine K_region ?_
  refine C_val (V_assign (v := (.int .i64 0)) (.int _ _)) ?_
  refine C_nil ?_
  refine CW_block ?_
  refine CW_loop (m := a_a.length) (fun m34 f' cs' => ∃ (g : Fr) (k36 : Nat) (rest37 : List Stored) (c31 : List Stored) (F32 : List Nat), m34 = rest37.length ∧ f' = updL g [(0, v0_0.v), (3, (.slice (some ⟨k4, 0, none⟩) (a_a.length : Int).toNat 1)), (4, (.int .i64 (k36 : Int)))] ∧ List.drop k36 a_a = rest37 ∧ Ent cs' [crd (RdS 191 rd191) v0_0.v a_a, cown (OwnS 159 ow159) F32 (.slice (some ⟨k4, 0, none⟩) (a_a.length : Int).toNat 1) c31] ∧ l_toStoredS_L1 rest37 k36 c31 = some R) ⟨_, 0, _, _, [k4], rfl, (EqL.cons rfl (EqL.cons rfl (EqL.cons rfl (EqL.nil)))).eq, rfl, (.sel (.rd (.t .h) rfl (.cons .h .nil))), hF⟩ ?_
  clear hF
  rintro m34 _ _ ⟨g35, k36, rest37, c31, F32, rfl, rfl, hd39, hE, hF⟩
  refine K_ent hE ?_
  clear hE
  refine K_pure (c := crd (RdS 191 rd191) v0_0.v a_a) .h crd_bound (fun hbd44 => ?_)
  rcases rest37 with _ | ⟨x38, rest37⟩
  · have hk40 := List.drop_eq_nil_iff.1 hd39
    have hfe43 : (decide (((k36 : Int) : Int) < (a_a.length : Int))) = false := decide_eq_false (by omega)
    rw [l_toStoredS_L1] at hF
    refine K_in ?_
    refine K_region ?_
    refine C_val (V_move (v := (.int .i64 (k36 : Int))) (.tmp rfl rfl)) ?_
    refine C_val (V_move (v := v0_0.v) (.tmp rfl rfl)) ?_
    refine C_at .h (fun hp => V_lenR (l := a_a.length) sl69 (.tmp rfl rfl) (crd_len hp)) ?_
    refine C_val (V_lss (i := (k36 : Int)) (j := (a_a.length : Int)) (.tmp rfl rfl) (.tmp rfl rfl)) ?_
    refine C_nil ?_
    refine CW_cond (b := (decide (((k36 : Int) : Int) < (a_a.length : Int)))) (.tmp rfl rfl) (fun hb => absurd (hfe43.symm.trans hb) (by decide)) (fun _ => ?_)
    refine CW_exit ?_
    refine CThen_exit ?_
    refine CThen_exit ?_
    refine CIn_self ?_
    refine K_region ?_
    refine C_val (V_move (v := (.slice (some ⟨k4, 0, none⟩) (a_a.length : Int).toNat 1)) (.tmp rfl rfl)) ?_
    refine C_val (V_assign (v := (.slice (some ⟨k4, 0, none⟩) (a_a.length : Int).toNat 1)) (.tmp rfl rfl)) ?_
    refine C_nil ?_
    refine CW_ret ?_
    obtain rfl := Option.some.inj hF
    exact End_ret (⟨(some ⟨k4, 0, none⟩), (a_a.length : Int).toNat, 1⟩, F32) (.tmp rfl rfl .nil) rfl (.sel (.cons (.t .h) .nil))
  obtain ⟨hk40, hx41, hd42⟩ := drop_cons hd39
  have hfe43 : (decide (((k36 : Int) : Int) < (a_a.length : Int))) = true := decide_eq_true (by omega)
  rw [l_toStoredS_L1] at hF
  refine K_in ?_
  refine K_region ?_
  refine C_val (V_move (v := (.int .i64 (k36 : Int))) (.tmp rfl rfl)) ?_
  refine C_val (V_move (v := v0_0.v) (.tmp rfl rfl)) ?_
  refine C_at .h (fun hp => V_lenR (l := a_a.length) sl69 (.tmp rfl rfl) (crd_len hp)) ?_
  refine C_val (V_lss (i := (k36 : Int)) (j := (a_a.length : Int)) (.tmp rfl rfl) (.tmp rfl rfl)) ?_
  refine C_nil ?_
  refine CW_cond (b := (decide (((k36 : Int) : Int) < (a_a.length : Int)))) (.tmp rfl rfl) (fun _ => ?_) (fun hb => absurd (hfe43.symm.trans hb) (by decide))
  refine CW_skip ?_
  refine K_block ?_
  refine CW_region ?_
  refine C_val (V_move (v := (.slice (some ⟨k4, 0, none⟩) (a_a.length : Int).toNat 1)) (.tmp rfl rfl)) ?_
  refine C_val (V_move (v := (.int .i64 (k36 : Int))) (.tmp rfl rfl)) ?_
  refine C_val (V_move (v := v0_0.v) (.tmp rfl rfl)) ?_
  refine C_val (V_move (v := (.int .i64 (k36 : Int))) (.tmp rfl rfl)) ?_
  refine C_idx (a := x38) sl69 ty191.sz (.tmp rfl rfl) (.tmp rfl rfl) .h (Int.natCast_nonneg k36) hx41 (fun k45 j46 => ?_)
  refine C_ldA2 (ul191_0_191 x38) ag191 ty191.sz rfl (.tmp rfl rfl) .h la191_0_191 (fun p47 => ?_)
  obtain ⟨r48, hx49, hF⟩ := bind_some hF
  refine C_x2 (.rd .h rfl (.rd (.t .h) rfl .nil)) (X_callS cf162 (.cons (.tmp rfl rfl) .nil) (l_toStored_ok x38 p47.1 p47.2 _ hx49)) (fun p50 => ?_)
  obtain ⟨u54, hx55, hF⟩ := bind_some hF
  have hi53 := chk_some hx55
  refine C_idxO sl50 ty159.sz (.tmp rfl rfl) (.tmp rfl rfl) (.t (.t (.t (.t (.t (.t .h)))))) hi53 (fun k51 hk52 => ?_)
  obtain ⟨z56, hx57, hF⟩ := bind_some hF
  replace hx57 := Option.some.inj hx57
  refine C_x1 (.cons (.t (.t (.t (.t (.t (.t .h)))))) (.cons .h (.cons .h .nil))) (X_storeO (Ro := ow159) (a := r48) (i := (k36 : Int)) ty159.sz rfl (.tmp rfl rfl) (.tmp rfl rfl) hk52 hi53 mk159 (fun _ _ _ _ h => by obtain ⟨_, _, _, _, rfl, rfl, _⟩ := h; rfl)) (fun F58 => ?_)
  rw [hx57]
  refine C_nil ?_
  refine CW_region ?_
  refine C_val (V_move (v := (.int .i64 (k36 : Int))) (.tmp rfl rfl)) ?_
  refine C_val (V_add (i := (k36 : Int)) (j := 1) (.tmp rfl rfl) (.int _ _)) ?_
  refine C_val (V_assign (v := (.int .i64 (IntKind.i64.wrap ((k36 : Int) + 1)))) (.tmp rfl rfl)) ?_
  refine C_nil ?_
  have hw59 : IntKind.i64.wrap ((k36 : Int) + 1) = ((k36 + 1 : Nat) : Int) := by rw [wrap_in (by omega) (by omega)]; rfl
  rw [hw59]
  exact ⟨_, Nat.lt_succ_self _, _, k36 + 1, rest37, _, F58, rfl, (EqL.cons rfl (EqL.cons rfl (EqL.cons rfl (EqL.nil)))).eq, hd42, (.sel (.rd (.t (.t (.t (.t .h)))) rfl (.cons .h .nil))), hF⟩

/-! laws.toCache -/
def l_toCache (a_a : Cache) : Option (Cache) :=
  (l_toStoredS a_a.Entries).bind fun r4 =>
  some ({ Entries := r4, Age := a_a.Age } : Cache)
theorem l_toCache_ok (a_a : Cache) (v0_0 : Sv) (R : Cache) (hF : l_toCache a_a = some R) :
    Fw.Spec Try.prog 94 [(.agg [v0_0.v, (.int .i64 a_a.Age)].toArray)] [crd (RdS 191 rd191) v0_0.v a_a.Entries] (fun p : Sv × List Nat => (.agg [p.1.v, (.int .i64 R.Age)].toArray)) (fun p => [cown (OwnS 159 ow159) p.2 p.1.v R.Entries]) := by
  refine Spec_enter (n := 12) Try.func94 rfl rfl (rs := [.cell 2 52]) rfl rfl rfl ?_
  intro H0 F0
  unfold l_toCache at hF
  refine K_region ?_
  refine C_newR rfl (N_box (g := false) (v := (.agg [v0_0.v, (.int .i64 a_a.Age)].toArray)) ty71.sz (.tmp rfl rfl) rfl) (fun k1 => ?_)
  refine C_new rfl (N_allocT (g := true) ty52 rfl rfl) (fun k2 => ?_)
  refine C_nil ?_
  refine K_region ?_
  refine C_new rfl (N_allocT (g := true) ty52 rfl rfl) (fun k3 => ?_)
  refine C_nil ?_
  refine K_region ?_
  refine C_val (V_fieldAddr (off := 0) fd71_0 (.tmp rfl rfl)) ?_
  refine C_at (.t (.t .h)) (fun hp => V_load (v := v0_0.v) ag69 (.tmp rfl rfl) hp.2 rfl rfl) ?_
  obtain ⟨r4, hx5, hF⟩ := bind_some hF
  refine C_x1 (.rd (.t (.t (.t .h))) rfl .nil) (X_callS cf135 (.cons (.tmp rfl rfl) .nil) (l_toStoredS_ok a_a.Entries v0_0 _ hx5)) (fun p6 => ?_)
  refine C_val (V_fieldAddr (off := 0) fd52_0 (.tmp rfl rfl)) ?_
  refine C_x1 (.cons (.t .h) .nil) (X_storeB (e := (.agg [(.slice none 0 0), (.int .i64 0)].toArray)) (e' := (.agg [p6.1.v, (.int .i64 0)].toArray)) ty50.sz (.tmp rfl rfl) (.tmp rfl rfl) rfl rfl rfl rfl rfl) (fun _ => ?_)
  refine C_nil ?_
  refine K_region ?_
  refine C_val (V_fieldAddr (off := 1) fd71_1 (.tmp rfl rfl)) ?_
  refine C_at (.t (.t (.t .h))) (fun hp => V_load (v := (.int .i64 a_a.Age)) ag3 (.tmp rfl rfl) hp.2 rfl rfl) ?_
  refine C_val (V_fieldAddr (off := 1) fd52_1 (.tmp rfl rfl)) ?_
  refine C_x1 (.cons .h .nil) (X_storeB (e := (.agg [p6.1.v, (.int .i64 0)].toArray)) (e' := (.agg [p6.1.v, (.int .i64 a_a.Age)].toArray)) (v := (.int .i64 a_a.Age)) ty3.sz (.tmp rfl rfl) (.tmp rfl rfl) rfl rfl rfl rfl rfl) (fun _ => ?_)
  refine C_nil ?_
  refine K_region ?_
  refine C_at .h (fun hp => V_loadBox ag52 ty52.sz rfl (.tmp rfl rfl) hp.2 rfl) ?_
  refine C_x1 (.cons (.t (.t .h)) .nil) (X_storeB (e := (.agg [(.slice none 0 0), (.int .i64 0)].toArray)) (e' := (.agg [p6.1.v, (.int .i64 a_a.Age)].toArray)) (v := (.agg [p6.1.v, (.int .i64 a_a.Age)].toArray)) ty52.sz (.tmp rfl rfl) (.tmp rfl rfl) rfl rfl rfl rfl rfl) (fun _ => ?_)
  refine C_nil ?_
  refine CW_ret ?_
  obtain rfl := Option.some.inj hF
  exact End_ret (p6.1, p6.2) (.cellA rfl rfl .h rfl ag52 ty52.sz rfl rfl .nil) rfl (.sel (.cons (.t (.t .h)) .nil))

/-! laws.toAccessS -/
def l_toAccessS_L1 : List Access → Nat → (List Access) → Option ((List Access))
  | [], k36, c31 => some c31
  | x38 :: rest37, k36, c31 => (l_toAccess x38).bind fun r48 =>
    (chk (decide (0 ≤ (k36 : Int)) && decide ((k36 : Int) < (c31.length : Int)))).bind fun u54 =>
    (some (c31.set ((k36 : Int)).toNat r48)).bind fun z56 =>
    l_toAccessS_L1 rest37 (k36 + 1) z56
def l_toAccessS (a_a : List Access) : Option ((List Access)) :=
  (mkz (a_a.length : Int) (({ Method := 0, Values := [] } : Access) : Access)).bind fun z1 =>
  l_toAccessS_L1 a_a 0 z1
theorem l_toAccessS_ok (a_a : List Access) (v0_0 : Sv) (R : (List Access)) (hF : l_toAccessS a_a = some R) :
    Fw.Spec Try.prog 18 [v0_0.v] [crd (RdS 98 rd98) v0_0.v a_a] (fun p : Sv × List Nat => p.1.v) (fun p => [cown (OwnS 100 ow100) p.2 p.1.v R]) := by
  refine Spec_enter (n := 23) Try.func18 rfl rfl (rs := [.tmp 2]) rfl rfl rfl ?_
  intro H0 F0
  unfold l_toAccessS at hF
  refine K_region ?_
  refine C_val (V_assign (v := (.slice none 0 0)) EV.nilSlice) ?_
  refine C_nil ?_
  refine K_region ?_
  refine C_val (V_move (v := v0_0.v) (.tmp rfl rfl)) ?_
  refine C_at .h (fun hp => V_lenR (l := a_a.length) sl30 (.tmp rfl rfl) (crd_len hp)) ?_
  obtain ⟨z1, hx2, hF⟩ := bind_some hF
  have hm3 := mkz_some hx2
  refine C_new rfl (N_makeSlice (g := true) (c := (a_a.length : Int)) sl33 ty100 rfl rfl (by decide) (.tmp rfl rfl) hm3.2.1 hm3.2.2) (fun k4 => ?_)
  refine C_conv (.cons .h .nil) (own_make (Ro := ow100) (E := 100) (a := (({ Method := 0, Values := [] } : Access) : Access)) hx2 (fun _ => ⟨⟨none, 0, 0⟩, [], rfl, rfl, .inl ⟨rfl, rfl, rfl⟩⟩)) apps ?_
  refine C_val (V_assign (v := (.slice (some ⟨k4, 0, none⟩) (a_a.length : Int).toNat 1)) (.tmp rfl rfl)) ?_
  refine C_nil ?_
  refine K_in ?_
  refine K_region ?_
  refine C_val (V_assign (v := (.int .i64 0)) (.int _ _)) ?_
  refine C_nil ?_
  refine CW_block ?_
  refine CW_loop (m := a_a.length) (fun m34 f' cs' => ∃ (g : Fr) (k36 : Nat) (rest37 : List Access) (c31 : List Access) (F32 : List Nat), m34 = rest37.length ∧ f' = updL g [(0, v0_0.v), (3, (.slice (some ⟨k4, 0, none⟩) (a_a.length : Int).toNat 1)), (4, (.int .i64 (k36 : Int)))] ∧ List.drop k36 a_a = rest37 ∧ Ent cs' [crd (RdS 98 rd98) v0_0.v a_a, cown (OwnS 100 ow100) F32 (.slice (some ⟨k4, 0, none⟩) (a_a.length : Int).toNat 1) c31] ∧ l_toAccessS_L1 rest37 k36 c31 = some R) ⟨_, 0, _, _, [k4], rfl, (EqL.cons rfl (EqL.cons rfl (EqL.cons rfl (EqL.nil)))).eq, rfl, (.sel (.rd (.t .h) rfl (.cons .h .nil))), hF⟩ ?_
  clear hF
  rintro m34 _ _ ⟨g35, k36, rest37, c31, F32, rfl, rfl, hd39, hE, hF⟩
  refine K_ent hE ?_
  clear hE
  refine K_pure (c := crd (RdS 98 rd98) v0_0.v a_a) .h crd_bound (fun hbd44 => ?_)
  rcases rest37 with _ | ⟨x38, rest37⟩
  · have hk40 := List.drop_eq_nil_iff.1 hd39
    have hfe43 : (decide (((k36 : Int) : Int) < (a_a.length : Int))) = false := decide_eq_false (by omega)
    rw [l_toAccessS_L1] at hF
    refine K_in ?_
    refine K_region ?_
    refine C_val (V_move (v := (.int .i64 (k36 : Int))) (.tmp rfl rfl)) ?_
    refine C_val (V_move (v := v0_0.v) (.tmp rfl rfl)) ?_
    refine C_at .h (fun hp => V_lenR (l := a_a.length) sl30 (.tmp rfl rfl) (crd_len hp)) ?_
    refine C_val (V_lss (i := (k36 : Int)) (j := (a_a.length : Int)) (.tmp rfl rfl) (.tmp rfl rfl)) ?_
    refine C_nil ?_
    refine CW_cond (b := (decide (((k36 : Int) : Int) < (a_a.length : Int)))) (.tmp rfl rfl) (fun hb => absurd (hfe43.symm.trans hb) (by decide)) (fun _ => ?_)
    refine CW_exit ?_
    refine CThen_exit ?_
    refine CThen_exit ?_
    refine CIn_self ?_
    refine K_region ?_
    refine C_val (V_move (v := (.slice (some ⟨k4, 0, none⟩) (a_a.length : Int).toNat 1)) (.tmp rfl rfl)) ?_
    refine C_val (V_assign (v := (.slice (some ⟨k4, 0, none⟩) (a_a.length : Int).toNat 1)) (.tmp rfl rfl)) ?_
    refine C_nil ?_
    refine CW_ret ?_
    obtain rfl := Option.some.inj hF
    exact End_ret (⟨(some ⟨k4, 0, none⟩), (a_a.length : Int).toNat, 1⟩, F32) (.tmp rfl rfl .nil) rfl (.sel (.cons (.t .h) .nil))
  obtain ⟨hk40, hx41, hd42⟩ := drop_cons hd39
  have hfe43 : (decide (((k36 : Int) : Int) < (a_a.length : Int))) = true := decide_eq_true (by omega)
  rw [l_toAccessS_L1] at hF
  refine K_in ?_
  refine K_region ?_
  refine C_val (V_move (v := (.int .i64 (k36 : Int))) (.tmp rfl rfl)) ?_
  refine C_val (V_move (v := v0_0.v) (.tmp rfl rfl)) ?_
  refine C_at .h (fun hp => V_lenR (l := a_a.length) sl30 (.tmp rfl rfl) (crd_len hp)) ?_
  refine C_val (V_lss (i := (k36 : Int)) (j := (a_a.length : Int)) (.tmp rfl rfl) (.tmp rfl rfl)) ?_
  refine C_nil ?_
  refine CW_cond (b := (decide (((k36 : Int) : Int) < (a_a.length : Int)))) (.tmp rfl rfl) (fun _ => ?_) (fun hb => absurd (hfe43.symm.trans hb) (by decide))
  refine CW_skip ?_
  refine K_block ?_
  refine CW_region ?_
  refine C_val (V_move (v := (.slice (some ⟨k4, 0, none⟩) (a_a.length : Int).toNat 1)) (.tmp rfl rfl)) ?_
  refine C_val (V_move (v := (.int .i64 (k36 : Int))) (.tmp rfl rfl)) ?_
  refine C_val (V_move (v := v0_0.v) (.tmp rfl rfl)) ?_
  refine C_val (V_move (v := (.int .i64 (k36 : Int))) (.tmp rfl rfl)) ?_
  refine C_idx (a := x38) sl30 ty98.sz (.tmp rfl rfl) (.tmp rfl rfl) .h (Int.natCast_nonneg k36) hx41 (fun k45 j46 => ?_)
  refine C_ldA1 (ul98_0_98 x38) ag98 ty98.sz rfl (.tmp rfl rfl) .h la98_0_98 (fun p47 => ?_)
  obtain ⟨r48, hx49, hF⟩ := bind_some hF
  refine C_x1 (.rd .h rfl .nil) (X_callS cf54 (.cons (.tmp rfl rfl) .nil) (l_toAccess_ok x38 p47 _ hx49)) (fun p50 => ?_)
  obtain ⟨u54, hx55, hF⟩ := bind_some hF
  have hi53 := chk_some hx55
  refine C_idxO sl33 ty100.sz (.tmp rfl rfl) (.tmp rfl rfl) (.t (.t (.t (.t .h)))) hi53 (fun k51 hk52 => ?_)
  obtain ⟨z56, hx57, hF⟩ := bind_some hF
  replace hx57 := Option.some.inj hx57
  refine C_x1 (.cons (.t (.t (.t (.t .h)))) (.cons .h .nil)) (X_storeO (Ro := ow100) (a := r48) (i := (k36 : Int)) ty100.sz rfl (.tmp rfl rfl) (.tmp rfl rfl) hk52 hi53 mk100 (fun _ _ _ _ h => by obtain ⟨_, _, rfl, rfl, _⟩ := h; rfl)) (fun F58 => ?_)
  rw [hx57]
  refine C_nil ?_
  refine CW_region ?_
  refine C_val (V_move (v := (.int .i64 (k36 : Int))) (.tmp rfl rfl)) ?_
  refine C_val (V_add (i := (k36 : Int)) (j := 1) (.tmp rfl rfl) (.int _ _)) ?_
  refine C_val (V_assign (v := (.int .i64 (IntKind.i64.wrap ((k36 : Int) + 1)))) (.tmp rfl rfl)) ?_
  refine C_nil ?_
  have hw59 : IntKind.i64.wrap ((k36 : Int) + 1) = ((k36 + 1 : Nat) : Int) := by rw [wrap_in (by omega) (by omega)]; rfl
  rw [hw59]
  exact ⟨_, Nat.lt_succ_self _, _, k36 + 1, rest37, _, F58, rfl, (EqL.cons rfl (EqL.cons rfl (EqL.cons rfl (EqL.nil)))).eq, hd42, (.sel (.rd (.t (.t (.t .h))) rfl (.cons .h .nil))), hF⟩

/-! laws.toIntSS -/
def l_toIntSS_L1 : List (List Int) → Nat → (List (List Int)) → Option ((List (List Int)))
  | [], k36, c31 => some c31
  | x38 :: rest37, k36, c31 => (l_toIntS x38).bind fun r48 =>
    (chk (decide (0 ≤ (k36 : Int)) && decide ((k36 : Int) < (c31.length : Int)))).bind fun u54 =>
    (some (c31.set ((k36 : Int)).toNat r48)).bind fun z56 =>
    l_toIntSS_L1 rest37 (k36 + 1) z56
def l_toIntSS (a_a : List (List Int)) : Option ((List (List Int))) :=
  (mkz (a_a.length : Int) ([] : List Int)).bind fun z1 =>
  l_toIntSS_L1 a_a 0 z1
theorem l_toIntSS_ok (a_a : List (List Int)) (v0_0 : Sv) (R : (List (List Int))) (hF : l_toIntSS a_a = some R) :
    Fw.Spec Try.prog 136 [v0_0.v] [crd (RdS 45 (RdS 3 rdInt)) v0_0.v a_a] (fun p : Sv × List Nat => p.1.v) (fun p => [cown (OwnS 45 (OwnS 3 (roE rdInt))) p.2 p.1.v R]) := by
  refine Spec_enter (n := 23) Try.func136 rfl rfl (rs := [.tmp 2]) rfl rfl rfl ?_
  intro H0 F0
  unfold l_toIntSS at hF
  refine K_region ?_
  refine C_val (V_assign (v := (.slice none 0 0)) EV.nilSlice) ?_
  refine C_nil ?_
  refine K_region ?_
  refine C_val (V_move (v := v0_0.v) (.tmp rfl rfl)) ?_
  refine C_at .h (fun hp => V_lenR (l := a_a.length) sl128 (.tmp rfl rfl) (crd_len hp)) ?_
  obtain ⟨z1, hx2, hF⟩ := bind_some hF
  have hm3 := mkz_some hx2
  refine C_new rfl (N_makeSlice (g := true) (c := (a_a.length : Int)) sl128 ty45 rfl rfl (by decide) (.tmp rfl rfl) hm3.2.1 hm3.2.2) (fun k4 => ?_)
  refine C_conv (.cons .h .nil) (own_make (Ro := (OwnS 3 (roE rdInt))) (E := 45) (a := ([] : List Int)) hx2 (fun _ => (.inl ⟨rfl, rfl, rfl⟩))) apps ?_
  refine C_val (V_assign (v := (.slice (some ⟨k4, 0, none⟩) (a_a.length : Int).toNat 1)) (.tmp rfl rfl)) ?_
  refine C_nil ?_
  refine K_in ?_
  refine K_region ?_
  refine C_val (V_assign (v := (.int .i64 0)) (.int _ _)) ?_
  refine C_nil ?_
  refine CW_block ?_
  refine CW_loop (m := a_a.length) (fun m34 f' cs' => ∃ (g : Fr) (k36 : Nat) (rest37 : List (List Int)) (c31 : List (List Int)) (F32 : List Nat), m34 = rest37.length ∧ f' = updL g [(0, v0_0.v), (3, (.slice (some ⟨k4, 0, none⟩) (a_a.length : Int).toNat 1)), (4, (.int .i64 (k36 : Int)))] ∧ List.drop k36 a_a = rest37 ∧ Ent cs' [crd (RdS 45 (RdS 3 rdInt)) v0_0.v a_a, cown (OwnS 45 (OwnS 3 (roE rdInt))) F32 (.slice (some ⟨k4, 0, none⟩) (a_a.length : Int).toNat 1) c31] ∧ l_toIntSS_L1 rest37 k36 c31 = some R) ⟨_, 0, _, _, [k4], rfl, (EqL.cons rfl (EqL.cons rfl (EqL.cons rfl (EqL.nil)))).eq, rfl, (.sel (.rd (.t .h) rfl (.cons .h .nil))), hF⟩ ?_
  clear hF
  rintro m34 _ _ ⟨g35, k36, rest37, c31, F32, rfl, rfl, hd39, hE, hF⟩
  refine K_ent hE ?_
  clear hE
  refine K_pure (c := crd (RdS 45 (RdS 3 rdInt)) v0_0.v a_a) .h crd_bound (fun hbd44 => ?_)
  rcases rest37 with _ | ⟨x38, rest37⟩
  · have hk40 := List.drop_eq_nil_iff.1 hd39
    have hfe43 : (decide (((k36 : Int) : Int) < (a_a.length : Int))) = false := decide_eq_false (by omega)
    rw [l_toIntSS_L1] at hF
    refine K_in ?_
    refine K_region ?_
    refine C_val (V_move (v := (.int .i64 (k36 : Int))) (.tmp rfl rfl)) ?_
    refine C_val (V_move (v := v0_0.v) (.tmp rfl rfl)) ?_
    refine C_at .h (fun hp => V_lenR (l := a_a.length) sl128 (.tmp rfl rfl) (crd_len hp)) ?_
    refine C_val (V_lss (i := (k36 : Int)) (j := (a_a.length : Int)) (.tmp rfl rfl) (.tmp rfl rfl)) ?_
    refine C_nil ?_
    refine CW_cond (b := (decide (((k36 : Int) : Int) < (a_a.length : Int)))) (.tmp rfl rfl) (fun hb => absurd (hfe43.symm.trans hb) (by decide)) (fun _ => ?_)
    refine CW_exit ?_
    refine CThen_exit ?_
    refine CThen_exit ?_
    refine CIn_self ?_
    refine K_region ?_
    refine C_val (V_move (v := (.slice (some ⟨k4, 0, none⟩) (a_a.length : Int).toNat 1)) (.tmp rfl rfl)) ?_
    refine C_val (V_assign (v := (.slice (some ⟨k4, 0, none⟩) (a_a.length : Int).toNat 1)) (.tmp rfl rfl)) ?_
    refine C_nil ?_
    refine CW_ret ?_
    obtain rfl := Option.some.inj hF
    exact End_ret (⟨(some ⟨k4, 0, none⟩), (a_a.length : Int).toNat, 1⟩, F32) (.tmp rfl rfl .nil) rfl (.sel (.cons (.t .h) .nil))
  obtain ⟨hk40, hx41, hd42⟩ := drop_cons hd39
  have hfe43 : (decide (((k36 : Int) : Int) < (a_a.length : Int))) = true := decide_eq_true (by omega)
  rw [l_toIntSS_L1] at hF
  refine K_in ?_
  refine K_region ?_
  refine C_val (V_move (v := (.int .i64 (k36 : Int))) (.tmp rfl rfl)) ?_
  refine C_val (V_move (v := v0_0.v) (.tmp rfl rfl)) ?_
  refine C_at .h (fun hp => V_lenR (l := a_a.length) sl128 (.tmp rfl rfl) (crd_len hp)) ?_
  refine C_val (V_lss (i := (k36 : Int)) (j := (a_a.length : Int)) (.tmp rfl rfl) (.tmp rfl rfl)) ?_
  refine C_nil ?_
  refine CW_cond (b := (decide (((k36 : Int) : Int) < (a_a.length : Int)))) (.tmp rfl rfl) (fun _ => ?_) (fun hb => absurd (hfe43.symm.trans hb) (by decide))
  refine CW_skip ?_
  refine K_block ?_
  refine CW_region ?_
  refine C_val (V_move (v := (.slice (some ⟨k4, 0, none⟩) (a_a.length : Int).toNat 1)) (.tmp rfl rfl)) ?_
  refine C_val (V_move (v := (.int .i64 (k36 : Int))) (.tmp rfl rfl)) ?_
  refine C_val (V_move (v := v0_0.v) (.tmp rfl rfl)) ?_
  refine C_val (V_move (v := (.int .i64 (k36 : Int))) (.tmp rfl rfl)) ?_
  refine C_idx (a := x38) sl128 ty45.sz (.tmp rfl rfl) (.tmp rfl rfl) .h (Int.natCast_nonneg k36) hx41 (fun k45 j46 => ?_)
  refine C_ldV (R' := (RdS 3 rdInt)) ag45 (.tmp rfl rfl) .h lv45_0 (fun w47 => ?_)
  obtain ⟨r48, hx49, hF⟩ := bind_some hF
  refine C_x1 (.rd .h rfl .nil) (X_callS cf28 (.cons (.tmp rfl rfl) .nil) (l_toIntS_ok x38 w47 _ hx49)) (fun p50 => ?_)
  obtain ⟨u54, hx55, hF⟩ := bind_some hF
  have hi53 := chk_some hx55
  refine C_idxO sl128 ty45.sz (.tmp rfl rfl) (.tmp rfl rfl) (.t (.t (.t (.t .h)))) hi53 (fun k51 hk52 => ?_)
  obtain ⟨z56, hx57, hF⟩ := bind_some hF
  replace hx57 := Option.some.inj hx57
  refine C_x1 (.cons (.t (.t (.t (.t .h)))) (.cons .h .nil)) (X_storeO (Ro := (OwnS 3 (roE rdInt))) (a := r48) (i := (k36 : Int)) ty45.sz rfl (.tmp rfl rfl) (.tmp rfl rfl) hk52 hi53 Mk_own (fun _ _ _ _ h => by obtain ⟨_, _, rfl⟩ := OwnS.len h; rfl)) (fun F58 => ?_)
  rw [hx57]
  refine C_nil ?_
  refine CW_region ?_
  refine C_val (V_move (v := (.int .i64 (k36 : Int))) (.tmp rfl rfl)) ?_
  refine C_val (V_add (i := (k36 : Int)) (j := 1) (.tmp rfl rfl) (.int _ _)) ?_
  refine C_val (V_assign (v := (.int .i64 (IntKind.i64.wrap ((k36 : Int) + 1)))) (.tmp rfl rfl)) ?_
  refine C_nil ?_
  have hw59 : IntKind.i64.wrap ((k36 : Int) + 1) = ((k36 + 1 : Nat) : Int) := by rw [wrap_in (by omega) (by omega)]; rfl
  rw [hw59]
  exact ⟨_, Nat.lt_succ_self _, _, k36 + 1, rest37, _, F58, rfl, (EqL.cons rfl (EqL.cons rfl (EqL.cons rfl (EqL.nil)))).eq, hd42, (.sel (.rd (.t (.t (.t .h))) rfl (.cons .h .nil))), hF⟩

/-! laws.toIntSSS -/
def l_toIntSSS_L1 : List (List (List Int)) → Nat → (List (List (List Int))) → Option ((List (List (List Int))))
  | [], k36, c31 => some c31
  | x38 :: rest37, k36, c31 => (l_toIntSS x38).bind fun r48 =>
    (chk (decide (0 ≤ (k36 : Int)) && decide ((k36 : Int) < (c31.length : Int)))).bind fun u54 =>
    (some (c31.set ((k36 : Int)).toNat r48)).bind fun z56 =>
    l_toIntSSS_L1 rest37 (k36 + 1) z56
def l_toIntSSS (a_a : List (List (List Int))) : Option ((List (List (List Int)))) :=
  (mkz (a_a.length : Int) ([] : List (List Int))).bind fun z1 =>
  l_toIntSSS_L1 a_a 0 z1
theorem l_toIntSSS_ok (a_a : List (List (List Int))) (v0_0 : Sv) (R : (List (List (List Int)))) (hF : l_toIntSSS a_a = some R) :
    Fw.Spec Try.prog 95 [v0_0.v] [crd (RdS 128 (RdS 45 (RdS 3 rdInt))) v0_0.v a_a] (fun p : Sv × List Nat => p.1.v) (fun p => [cown (OwnS 128 (OwnS 45 (OwnS 3 (roE rdInt)))) p.2 p.1.v R]) := by
  refine Spec_enter (n := 23) Try.func95 rfl rfl (rs := [.tmp 2]) rfl rfl rfl ?_
  intro H0 F0
  unfold l_toIntSSS at hF
  refine K_region ?_
  refine C_val (V_assign (v := (.slice none 0 0)) EV.nilSlice) ?_
  refine C_nil ?_
  refine K_region ?_
  refine C_val (V_move (v := v0_0.v) (.tmp rfl rfl)) ?_
  refine C_at .h (fun hp => V_lenR (l := a_a.length) sl53 (.tmp rfl rfl) (crd_len hp)) ?_
  obtain ⟨z1, hx2, hF⟩ := bind_some hF
  have hm3 := mkz_some hx2
  refine C_new rfl (N_makeSlice (g := true) (c := (a_a.length : Int)) sl53 ty128 rfl rfl (by decide) (.tmp rfl rfl) hm3.2.1 hm3.2.2) (fun k4 => ?_)
  refine C_conv (.cons .h .nil) (own_make (Ro := (OwnS 45 (OwnS 3 (roE rdInt)))) (E := 128) (a := ([] : List (List Int))) hx2 (fun _ => (.inl ⟨rfl, rfl, rfl⟩))) apps ?_
  refine C_val (V_assign (v := (.slice (some ⟨k4, 0, none⟩) (a_a.length : Int).toNat 1)) (.tmp rfl rfl)) ?_
  refine C_nil ?_
  refine K_in ?_
  refine K_region ?_
  refine C_val (V_assign (v := (.int .i64 0)) (.int _ _)) ?_
  refine C_nil ?_
  refine CW_block ?_
  refine CW_loop (m := a_a.length) (fun m34 f' cs' => ∃ (g : Fr) (k36 : Nat) (rest37 : List (List (List Int))) (c31 : List (List (List Int))) (F32 : List Nat), m34 = rest37.length ∧ f' = updL g [(0, v0_0.v), (3, (.slice (some ⟨k4, 0, none⟩) (a_a.length : Int).toNat 1)), (4, (.int .i64 (k36 : Int)))] ∧ List.drop k36 a_a = rest37 ∧ Ent cs' [crd (RdS 128 (RdS 45 (RdS 3 rdInt))) v0_0.v a_a, cown (OwnS 128 (OwnS 45 (OwnS 3 (roE rdInt)))) F32 (.slice (some ⟨k4, 0, none⟩) (a_a.length : Int).toNat 1) c31] ∧ l_toIntSSS_L1 rest37 k36 c31 = some R) ⟨_, 0, _, _, [k4], rfl, (EqL.cons rfl (EqL.cons rfl (EqL.cons rfl (EqL.nil)))).eq, rfl, (.sel (.rd (.t .h) rfl (.cons .h .nil))), hF⟩ ?_
  clear hF
  rintro m34 _ _ ⟨g35, k36, rest37, c31, F32, rfl, rfl, hd39, hE, hF⟩
  refine K_ent hE ?_
  clear hE
  refine K_pure (c := crd (RdS 128 (RdS 45 (RdS 3 rdInt))) v0_0.v a_a) .h crd_bound (fun hbd44 => ?_)
  rcases rest37 with _ | ⟨x38, rest37⟩
  · have hk40 := List.drop_eq_nil_iff.1 hd39
    have hfe43 : (decide (((k36 : Int) : Int) < (a_a.length : Int))) = false := decide_eq_false (by omega)
    rw [l_toIntSSS_L1] at hF
    refine K_in ?_
    refine K_region ?_
    refine C_val (V_move (v := (.int .i64 (k36 : Int))) (.tmp rfl rfl)) ?_
    refine C_val (V_move (v := v0_0.v) (.tmp rfl rfl)) ?_
    refine C_at .h (fun hp => V_lenR (l := a_a.length) sl53 (.tmp rfl rfl) (crd_len hp)) ?_
    refine C_val (V_lss (i := (k36 : Int)) (j := (a_a.length : Int)) (.tmp rfl rfl) (.tmp rfl rfl)) ?_
    refine C_nil ?_
    refine CW_cond (b := (decide (((k36 : Int) : Int) < (a_a.length : Int)))) (.tmp rfl rfl) (fun hb => absurd (hfe43.symm.trans hb) (by decide)) (fun _ => ?_)
    refine CW_exit ?_
    refine CThen_exit ?_
    refine CThen_exit ?_
    refine CIn_self ?_
    refine K_region ?_
    refine C_val (V_move (v := (.slice (some ⟨k4, 0, none⟩) (a_a.length : Int).toNat 1)) (.tmp rfl rfl)) ?_
    refine C_val (V_assign (v := (.slice (some ⟨k4, 0, none⟩) (a_a.length : Int).toNat 1)) (.tmp rfl rfl)) ?_
    refine C_nil ?_
    refine CW_ret ?_
    obtain rfl := Option.some.inj hF
    exact End_ret (⟨(some ⟨k4, 0, none⟩), (a_a.length : Int).toNat, 1⟩, F32) (.tmp rfl rfl .nil) rfl (.sel (.cons (.t .h) .nil))
  obtain ⟨hk40, hx41, hd42⟩ := drop_cons hd39
  have hfe43 : (decide (((k36 : Int) : Int) < (a_a.length : Int))) = true := decide_eq_true (by omega)
  rw [l_toIntSSS_L1] at hF
  refine K_in ?_
  refine K_region ?_
  refine C_val (V_move (v := (.int .i64 (k36 : Int))) (.tmp rfl rfl)) ?_
  refine C_val (V_move (v := v0_0.v) (.tmp rfl rfl)) ?_
  refine C_at .h (fun hp => V_lenR (l := a_a.length) sl53 (.tmp rfl rfl) (crd_len hp)) ?_
  refine C_val (V_lss (i := (k36 : Int)) (j := (a_a.length : Int)) (.tmp rfl rfl) (.tmp rfl rfl)) ?_
  refine C_nil ?_
  refine CW_cond (b := (decide (((k36 : Int) : Int) < (a_a.length : Int)))) (.tmp rfl rfl) (fun _ => ?_) (fun hb => absurd (hfe43.symm.trans hb) (by decide))
  refine CW_skip ?_
  refine K_block ?_
  refine CW_region ?_
  refine C_val (V_move (v := (.slice (some ⟨k4, 0, none⟩) (a_a.length : Int).toNat 1)) (.tmp rfl rfl)) ?_
  refine C_val (V_move (v := (.int .i64 (k36 : Int))) (.tmp rfl rfl)) ?_
  refine C_val (V_move (v := v0_0.v) (.tmp rfl rfl)) ?_
  refine C_val (V_move (v := (.int .i64 (k36 : Int))) (.tmp rfl rfl)) ?_
  refine C_idx (a := x38) sl53 ty128.sz (.tmp rfl rfl) (.tmp rfl rfl) .h (Int.natCast_nonneg k36) hx41 (fun k45 j46 => ?_)
  refine C_ldV (R' := (RdS 45 (RdS 3 rdInt))) ag128 (.tmp rfl rfl) .h lv128_0 (fun w47 => ?_)
  obtain ⟨r48, hx49, hF⟩ := bind_some hF
  refine C_x1 (.rd .h rfl .nil) (X_callS cf136 (.cons (.tmp rfl rfl) .nil) (l_toIntSS_ok x38 w47 _ hx49)) (fun p50 => ?_)
  obtain ⟨u54, hx55, hF⟩ := bind_some hF
  have hi53 := chk_some hx55
  refine C_idxO sl53 ty128.sz (.tmp rfl rfl) (.tmp rfl rfl) (.t (.t (.t (.t .h)))) hi53 (fun k51 hk52 => ?_)
  obtain ⟨z56, hx57, hF⟩ := bind_some hF
  replace hx57 := Option.some.inj hx57
  refine C_x1 (.cons (.t (.t (.t (.t .h)))) (.cons .h .nil)) (X_storeO (Ro := (OwnS 45 (OwnS 3 (roE rdInt)))) (a := r48) (i := (k36 : Int)) ty128.sz rfl (.tmp rfl rfl) (.tmp rfl rfl) hk52 hi53 Mk_own (fun _ _ _ _ h => by obtain ⟨_, _, rfl⟩ := OwnS.len h; rfl)) (fun F58 => ?_)
  rw [hx57]
  refine C_nil ?_
  refine CW_region ?_
  refine C_val (V_move (v := (.int .i64 (k36 : Int))) (.tmp rfl rfl)) ?_
  refine C_val (V_add (i := (k36 : Int)) (j := 1) (.tmp rfl rfl) (.int _ _)) ?_
  refine C_val (V_assign (v := (.int .i64 (IntKind.i64.wrap ((k36 : Int) + 1)))) (.tmp rfl rfl)) ?_
  refine C_nil ?_
  have hw59 : IntKind.i64.wrap ((k36 : Int) + 1) = ((k36 + 1 : Nat) : Int) := by rw [wrap_in (by omega) (by omega)]; rfl
  rw [hw59]
  exact ⟨_, Nat.lt_succ_self _, _, k36 + 1, rest37, _, F58, rfl, (EqL.cons rfl (EqL.cons rfl (EqL.cons rfl (EqL.nil)))).eq, hd42, (.sel (.rd (.t (.t (.t .h))) rfl (.cons .h .nil))), hF⟩

/-! laws.toMediator -/
def l_toMediator (a_a : Mediator) : Option (Mediator) :=
  (l_toIntS a_a.Schema).bind fun r4 =>
  (l_toMethodS a_a.Methods).bind fun r7 =>
  (l_toRuleS a_a.Rules).bind fun r10 =>
  (l_toSource a_a.Source).bind fun r13 =>
  (l_toCache a_a.Cache).bind fun r16 =>
  (l_toAccessS a_a.Log).bind fun r19 =>
  (l_toIntS a_a.Times).bind fun r22 =>
  (l_toIntSSS a_a.Results).bind fun r25 =>
  some ({ Schema := r4, Methods := r7, Rules := r10, Source := r13, Cache := r16, Now := a_a.Now, Log := r19, Times := r22, Spent := a_a.Spent, Results := r25 } : Mediator)
theorem l_toMediator_ok (a_a : Mediator) (v0_0 : Sv) (v0_1 : Sv) (v0_2 : Sv) (v0_3 : Sv) (v0_5 : Sv) (v0_8 : Sv) (v0_9 : Sv) (v0_11 : Sv) (R : Mediator) (hF : l_toMediator a_a = some R) :
    Fw.Spec Try.prog 40 [(.agg [v0_0.v, v0_1.v, v0_2.v, v0_3.v, (.int .i64 a_a.Source.Version), v0_5.v, (.int .i64 a_a.Cache.Age), (.int .i64 a_a.Now), v0_8.v, v0_9.v, (.int .i64 a_a.Spent), v0_11.v].toArray)] [crd (RdS 3 rdInt) v0_0.v a_a.Schema, crd (RdS 95 rd95) v0_1.v a_a.Methods, crd (RdS 152 rd152) v0_2.v a_a.Rules, crd (RdS 188 rd188) v0_3.v a_a.Source.Facts, crd (RdS 191 rd191) v0_5.v a_a.Cache.Entries, crd (RdS 98 rd98) v0_8.v a_a.Log, crd (RdS 3 rdInt) v0_9.v a_a.Times, crd (RdS 128 (RdS 45 (RdS 3 rdInt))) v0_11.v a_a.Results] (fun p : Sv × List Nat × Sv × List Nat × Sv × List Nat × Sv × List Nat × Sv × List Nat × Sv × List Nat × Sv × List Nat × Sv × List Nat => (.agg [p.1.v, p.2.2.1.v, p.2.2.2.2.1.v, p.2.2.2.2.2.2.1.v, (.int .i64 R.Source.Version), p.2.2.2.2.2.2.2.2.1.v, (.int .i64 R.Cache.Age), (.int .i64 R.Now), p.2.2.2.2.2.2.2.2.2.2.1.v, p.2.2.2.2.2.2.2.2.2.2.2.2.1.v, (.int .i64 R.Spent), p.2.2.2.2.2.2.2.2.2.2.2.2.2.2.1.v].toArray)) (fun p => [cown (OwnS 3 (roE rdInt)) p.2.1 p.1.v R.Schema, cown (OwnS 101 ow101) p.2.2.2.1 p.2.2.1.v R.Methods, cown (OwnS 126 ow126) p.2.2.2.2.2.1 p.2.2.2.2.1.v R.Rules, cown (OwnS 157 ow157) p.2.2.2.2.2.2.2.1 p.2.2.2.2.2.2.1.v R.Source.Facts, cown (OwnS 159 ow159) p.2.2.2.2.2.2.2.2.2.1 p.2.2.2.2.2.2.2.2.1.v R.Cache.Entries, cown (OwnS 100 ow100) p.2.2.2.2.2.2.2.2.2.2.2.1 p.2.2.2.2.2.2.2.2.2.2.1.v R.Log, cown (OwnS 3 (roE rdInt)) p.2.2.2.2.2.2.2.2.2.2.2.2.2.1 p.2.2.2.2.2.2.2.2.2.2.2.2.1.v R.Times, cown (OwnS 128 (OwnS 45 (OwnS 3 (roE rdInt)))) p.2.2.2.2.2.2.2.2.2.2.2.2.2.2.2 p.2.2.2.2.2.2.2.2.2.2.2.2.2.2.1.v R.Results]) := by
  refine Spec_enter (n := 43) Try.func40 rfl rfl (rs := [.cell 2 55]) rfl rfl rfl ?_
  intro H0 F0
  unfold l_toMediator at hF
  refine K_region ?_
  refine C_newR rfl (N_box (g := false) (v := (.agg [v0_0.v, v0_1.v, v0_2.v, v0_3.v, (.int .i64 a_a.Source.Version), v0_5.v, (.int .i64 a_a.Cache.Age), (.int .i64 a_a.Now), v0_8.v, v0_9.v, (.int .i64 a_a.Spent), v0_11.v].toArray)) ty73.sz (.tmp rfl rfl) rfl) (fun k1 => ?_)
  refine C_new rfl (N_allocT (g := true) ty55 rfl rfl) (fun k2 => ?_)
  refine C_nil ?_
  refine K_region ?_
  refine C_new rfl (N_allocT (g := true) ty55 rfl rfl) (fun k3 => ?_)
  refine C_nil ?_
  refine K_region ?_
  refine C_val (V_fieldAddr (off := 0) fd73_0 (.tmp rfl rfl)) ?_
  refine C_at (.t (.t .h)) (fun hp => V_load (v := v0_0.v) ag45 (.tmp rfl rfl) hp.2 rfl rfl) ?_
  obtain ⟨r4, hx5, hF⟩ := bind_some hF
  refine C_x1 (.rd (.t (.t (.t .h))) rfl .nil) (X_callS cf28 (.cons (.tmp rfl rfl) .nil) (l_toIntS_ok a_a.Schema v0_0 _ hx5)) (fun p6 => ?_)
  refine C_val (V_fieldAddr (off := 0) fd55_0 (.tmp rfl rfl)) ?_
  refine C_x1 (.cons (.t .h) .nil) (X_storeB (e := (.agg [(.slice none 0 0), (.slice none 0 0), (.slice none 0 0), (.slice none 0 0), (.int .i64 0), (.slice none 0 0), (.int .i64 0), (.int .i64 0), (.slice none 0 0), (.slice none 0 0), (.int .i64 0), (.slice none 0 0)].toArray)) (e' := (.agg [p6.1.v, (.slice none 0 0), (.slice none 0 0), (.slice none 0 0), (.int .i64 0), (.slice none 0 0), (.int .i64 0), (.int .i64 0), (.slice none 0 0), (.slice none 0 0), (.int .i64 0), (.slice none 0 0)].toArray)) ty45.sz (.tmp rfl rfl) (.tmp rfl rfl) rfl rfl rfl rfl rfl) (fun _ => ?_)
  refine C_nil ?_
  refine K_region ?_
  refine C_val (V_fieldAddr (off := 1) fd73_1 (.tmp rfl rfl)) ?_
  refine C_at (.t (.t (.t .h))) (fun hp => V_load (v := v0_1.v) ag29 (.tmp rfl rfl) hp.2 rfl rfl) ?_
  obtain ⟨r7, hx8, hF⟩ := bind_some hF
  refine C_x1 (.rd (.t (.t (.t (.t (.t .h))))) rfl .nil) (X_callS cf17 (.cons (.tmp rfl rfl) .nil) (l_toMethodS_ok a_a.Methods v0_1 _ hx8)) (fun p9 => ?_)
  refine C_val (V_fieldAddr (off := 1) fd55_1 (.tmp rfl rfl)) ?_
  refine C_x1 (.cons (.t .h) .nil) (X_storeB (e := (.agg [p6.1.v, (.slice none 0 0), (.slice none 0 0), (.slice none 0 0), (.int .i64 0), (.slice none 0 0), (.int .i64 0), (.int .i64 0), (.slice none 0 0), (.slice none 0 0), (.int .i64 0), (.slice none 0 0)].toArray)) (e' := (.agg [p6.1.v, p9.1.v, (.slice none 0 0), (.slice none 0 0), (.int .i64 0), (.slice none 0 0), (.int .i64 0), (.int .i64 0), (.slice none 0 0), (.slice none 0 0), (.int .i64 0), (.slice none 0 0)].toArray)) ty35.sz (.tmp rfl rfl) (.tmp rfl rfl) rfl rfl rfl rfl rfl) (fun _ => ?_)
  refine C_nil ?_
  refine K_region ?_
  refine C_val (V_fieldAddr (off := 2) fd73_2 (.tmp rfl rfl)) ?_
  refine C_at (.t (.t (.t (.t .h)))) (fun hp => V_load (v := v0_2.v) ag65 (.tmp rfl rfl) hp.2 rfl rfl) ?_
  obtain ⟨r10, hx11, hF⟩ := bind_some hF
  refine C_x1 (.rd (.t (.t (.t (.t (.t (.t (.t .h))))))) rfl .nil) (X_callS cf92 (.cons (.tmp rfl rfl) .nil) (l_toRuleS_ok a_a.Rules v0_2 _ hx11)) (fun p12 => ?_)
  refine C_val (V_fieldAddr (off := 2) fd55_2 (.tmp rfl rfl)) ?_
  refine C_x1 (.cons (.t .h) .nil) (X_storeB (e := (.agg [p6.1.v, p9.1.v, (.slice none 0 0), (.slice none 0 0), (.int .i64 0), (.slice none 0 0), (.int .i64 0), (.int .i64 0), (.slice none 0 0), (.slice none 0 0), (.int .i64 0), (.slice none 0 0)].toArray)) (e' := (.agg [p6.1.v, p9.1.v, p12.1.v, (.slice none 0 0), (.int .i64 0), (.slice none 0 0), (.int .i64 0), (.int .i64 0), (.slice none 0 0), (.slice none 0 0), (.int .i64 0), (.slice none 0 0)].toArray)) ty46.sz (.tmp rfl rfl) (.tmp rfl rfl) rfl rfl rfl rfl rfl) (fun _ => ?_)
  refine C_nil ?_
  refine K_region ?_
  refine C_val (V_fieldAddr (off := 3) fd73_3 (.tmp rfl rfl)) ?_
  refine C_at (.t (.t (.t (.t (.t .h))))) (fun hp => V_loadA (s := 2) (l := [v0_3.v, (.int .i64 a_a.Source.Version)]) ag68 ty68.sz (.tmp rfl rfl) hp.2 rfl (by decide) (Nat.le_of_ble_eq_true rfl) rfl) ?_
  obtain ⟨r13, hx14, hF⟩ := bind_some hF
  refine C_x1 (.rd (.t (.t (.t (.t (.t (.t (.t (.t (.t .h))))))))) rfl .nil) (X_callS cf93 (.cons (.tmp rfl rfl) .nil) (l_toSource_ok a_a.Source v0_3 _ hx14)) (fun p15 => ?_)
  refine C_val (V_fieldAddr (off := 3) fd55_3 (.tmp rfl rfl)) ?_
  refine C_x1 (.cons (.t .h) .nil) (X_storeB (e := (.agg [p6.1.v, p9.1.v, p12.1.v, (.slice none 0 0), (.int .i64 0), (.slice none 0 0), (.int .i64 0), (.int .i64 0), (.slice none 0 0), (.slice none 0 0), (.int .i64 0), (.slice none 0 0)].toArray)) (e' := (.agg [p6.1.v, p9.1.v, p12.1.v, p15.1.v, (.int .i64 r13.Version), (.slice none 0 0), (.int .i64 0), (.int .i64 0), (.slice none 0 0), (.slice none 0 0), (.int .i64 0), (.slice none 0 0)].toArray)) (v := (.agg [p15.1.v, (.int .i64 r13.Version)].toArray)) ty49.sz (.tmp rfl rfl) (.tmp rfl rfl) rfl rfl rfl rfl rfl) (fun _ => ?_)
  refine C_nil ?_
  refine K_region ?_
  refine C_val (V_fieldAddr (off := 5) fd73_4 (.tmp rfl rfl)) ?_
  refine C_at (.t (.t (.t (.t (.t (.t .h)))))) (fun hp => V_loadA (s := 2) (l := [v0_5.v, (.int .i64 a_a.Cache.Age)]) ag71 ty71.sz (.tmp rfl rfl) hp.2 rfl (by decide) (Nat.le_of_ble_eq_true rfl) rfl) ?_
  obtain ⟨r16, hx17, hF⟩ := bind_some hF
  refine C_x1 (.rd (.t (.t (.t (.t (.t (.t (.t (.t (.t (.t (.t .h))))))))))) rfl .nil) (X_callS cf94 (.cons (.tmp rfl rfl) .nil) (l_toCache_ok a_a.Cache v0_5 _ hx17)) (fun p18 => ?_)
  refine C_val (V_fieldAddr (off := 5) fd55_4 (.tmp rfl rfl)) ?_
  refine C_x1 (.cons (.t .h) .nil) (X_storeB (e := (.agg [p6.1.v, p9.1.v, p12.1.v, p15.1.v, (.int .i64 r13.Version), (.slice none 0 0), (.int .i64 0), (.int .i64 0), (.slice none 0 0), (.slice none 0 0), (.int .i64 0), (.slice none 0 0)].toArray)) (e' := (.agg [p6.1.v, p9.1.v, p12.1.v, p15.1.v, (.int .i64 r13.Version), p18.1.v, (.int .i64 r16.Age), (.int .i64 0), (.slice none 0 0), (.slice none 0 0), (.int .i64 0), (.slice none 0 0)].toArray)) (v := (.agg [p18.1.v, (.int .i64 r16.Age)].toArray)) ty52.sz (.tmp rfl rfl) (.tmp rfl rfl) rfl rfl rfl rfl rfl) (fun _ => ?_)
  refine C_nil ?_
  refine K_region ?_
  refine C_val (V_fieldAddr (off := 7) fd73_5 (.tmp rfl rfl)) ?_
  refine C_at (.t (.t (.t (.t (.t (.t (.t .h))))))) (fun hp => V_load (v := (.int .i64 a_a.Now)) ag3 (.tmp rfl rfl) hp.2 rfl rfl) ?_
  refine C_val (V_fieldAddr (off := 7) fd55_5 (.tmp rfl rfl)) ?_
  refine C_x1 (.cons .h .nil) (X_storeB (e := (.agg [p6.1.v, p9.1.v, p12.1.v, p15.1.v, (.int .i64 r13.Version), p18.1.v, (.int .i64 r16.Age), (.int .i64 0), (.slice none 0 0), (.slice none 0 0), (.int .i64 0), (.slice none 0 0)].toArray)) (e' := (.agg [p6.1.v, p9.1.v, p12.1.v, p15.1.v, (.int .i64 r13.Version), p18.1.v, (.int .i64 r16.Age), (.int .i64 a_a.Now), (.slice none 0 0), (.slice none 0 0), (.int .i64 0), (.slice none 0 0)].toArray)) (v := (.int .i64 a_a.Now)) ty3.sz (.tmp rfl rfl) (.tmp rfl rfl) rfl rfl rfl rfl rfl) (fun _ => ?_)
  refine C_nil ?_
  refine K_region ?_
  refine C_val (V_fieldAddr (off := 8) fd73_6 (.tmp rfl rfl)) ?_
  refine C_at (.t (.t (.t (.t (.t (.t (.t .h))))))) (fun hp => V_load (v := v0_8.v) ag30 (.tmp rfl rfl) hp.2 rfl rfl) ?_
  obtain ⟨r19, hx20, hF⟩ := bind_some hF
  refine C_x1 (.rd (.t (.t (.t (.t (.t (.t (.t (.t (.t (.t (.t (.t (.t .h))))))))))))) rfl .nil) (X_callS cf18 (.cons (.tmp rfl rfl) .nil) (l_toAccessS_ok a_a.Log v0_8 _ hx20)) (fun p21 => ?_)
  refine C_val (V_fieldAddr (off := 8) fd55_6 (.tmp rfl rfl)) ?_
  refine C_x1 (.cons (.t .h) .nil) (X_storeB (e := (.agg [p6.1.v, p9.1.v, p12.1.v, p15.1.v, (.int .i64 r13.Version), p18.1.v, (.int .i64 r16.Age), (.int .i64 a_a.Now), (.slice none 0 0), (.slice none 0 0), (.int .i64 0), (.slice none 0 0)].toArray)) (e' := (.agg [p6.1.v, p9.1.v, p12.1.v, p15.1.v, (.int .i64 r13.Version), p18.1.v, (.int .i64 r16.Age), (.int .i64 a_a.Now), p21.1.v, (.slice none 0 0), (.int .i64 0), (.slice none 0 0)].toArray)) ty33.sz (.tmp rfl rfl) (.tmp rfl rfl) rfl rfl rfl rfl rfl) (fun _ => ?_)
  refine C_nil ?_
  refine K_region ?_
  refine C_val (V_fieldAddr (off := 9) fd73_7 (.tmp rfl rfl)) ?_
  refine C_at (.t (.t (.t (.t (.t (.t (.t (.t .h)))))))) (fun hp => V_load (v := v0_9.v) ag45 (.tmp rfl rfl) hp.2 rfl rfl) ?_
  obtain ⟨r22, hx23, hF⟩ := bind_some hF
  refine C_x1 (.rd (.t (.t (.t (.t (.t (.t (.t (.t (.t (.t (.t (.t (.t (.t (.t .h))))))))))))))) rfl .nil) (X_callS cf28 (.cons (.tmp rfl rfl) .nil) (l_toIntS_ok a_a.Times v0_9 _ hx23)) (fun p24 => ?_)
  refine C_val (V_fieldAddr (off := 9) fd55_7 (.tmp rfl rfl)) ?_
  refine C_x1 (.cons (.t .h) .nil) (X_storeB (e := (.agg [p6.1.v, p9.1.v, p12.1.v, p15.1.v, (.int .i64 r13.Version), p18.1.v, (.int .i64 r16.Age), (.int .i64 a_a.Now), p21.1.v, (.slice none 0 0), (.int .i64 0), (.slice none 0 0)].toArray)) (e' := (.agg [p6.1.v, p9.1.v, p12.1.v, p15.1.v, (.int .i64 r13.Version), p18.1.v, (.int .i64 r16.Age), (.int .i64 a_a.Now), p21.1.v, p24.1.v, (.int .i64 0), (.slice none 0 0)].toArray)) ty45.sz (.tmp rfl rfl) (.tmp rfl rfl) rfl rfl rfl rfl rfl) (fun _ => ?_)
  refine C_nil ?_
  refine K_region ?_
  refine C_val (V_fieldAddr (off := 10) fd73_8 (.tmp rfl rfl)) ?_
  refine C_at (.t (.t (.t (.t (.t (.t (.t (.t (.t .h))))))))) (fun hp => V_load (v := (.int .i64 a_a.Spent)) ag3 (.tmp rfl rfl) hp.2 rfl rfl) ?_
  refine C_val (V_fieldAddr (off := 10) fd55_8 (.tmp rfl rfl)) ?_
  refine C_x1 (.cons .h .nil) (X_storeB (e := (.agg [p6.1.v, p9.1.v, p12.1.v, p15.1.v, (.int .i64 r13.Version), p18.1.v, (.int .i64 r16.Age), (.int .i64 a_a.Now), p21.1.v, p24.1.v, (.int .i64 0), (.slice none 0 0)].toArray)) (e' := (.agg [p6.1.v, p9.1.v, p12.1.v, p15.1.v, (.int .i64 r13.Version), p18.1.v, (.int .i64 r16.Age), (.int .i64 a_a.Now), p21.1.v, p24.1.v, (.int .i64 a_a.Spent), (.slice none 0 0)].toArray)) (v := (.int .i64 a_a.Spent)) ty3.sz (.tmp rfl rfl) (.tmp rfl rfl) rfl rfl rfl rfl rfl) (fun _ => ?_)
  refine C_nil ?_
  refine K_region ?_
  refine C_val (V_fieldAddr (off := 11) fd73_9 (.tmp rfl rfl)) ?_
  refine C_at (.t (.t (.t (.t (.t (.t (.t (.t (.t .h))))))))) (fun hp => V_load (v := v0_11.v) ag53 (.tmp rfl rfl) hp.2 rfl rfl) ?_
  obtain ⟨r25, hx26, hF⟩ := bind_some hF
  refine C_x1 (.rd (.t (.t (.t (.t (.t (.t (.t (.t (.t (.t (.t (.t (.t (.t (.t (.t (.t .h))))))))))))))))) rfl .nil) (X_callS cf95 (.cons (.tmp rfl rfl) .nil) (l_toIntSSS_ok a_a.Results v0_11 _ hx26)) (fun p27 => ?_)
  refine C_val (V_fieldAddr (off := 11) fd55_9 (.tmp rfl rfl)) ?_
  refine C_x1 (.cons (.t .h) .nil) (X_storeB (e := (.agg [p6.1.v, p9.1.v, p12.1.v, p15.1.v, (.int .i64 r13.Version), p18.1.v, (.int .i64 r16.Age), (.int .i64 a_a.Now), p21.1.v, p24.1.v, (.int .i64 a_a.Spent), (.slice none 0 0)].toArray)) (e' := (.agg [p6.1.v, p9.1.v, p12.1.v, p15.1.v, (.int .i64 r13.Version), p18.1.v, (.int .i64 r16.Age), (.int .i64 a_a.Now), p21.1.v, p24.1.v, (.int .i64 a_a.Spent), p27.1.v].toArray)) ty53.sz (.tmp rfl rfl) (.tmp rfl rfl) rfl rfl rfl rfl rfl) (fun _ => ?_)
  refine C_nil ?_
  refine K_region ?_
  refine C_at .h (fun hp => V_loadBox ag55 ty55.sz rfl (.tmp rfl rfl) hp.2 rfl) ?_
  refine C_x1 (.cons (.t (.t (.t (.t (.t (.t (.t (.t (.t .h))))))))) .nil) (X_storeB (e := (.agg [(.slice none 0 0), (.slice none 0 0), (.slice none 0 0), (.slice none 0 0), (.int .i64 0), (.slice none 0 0), (.int .i64 0), (.int .i64 0), (.slice none 0 0), (.slice none 0 0), (.int .i64 0), (.slice none 0 0)].toArray)) (e' := (.agg [p6.1.v, p9.1.v, p12.1.v, p15.1.v, (.int .i64 r13.Version), p18.1.v, (.int .i64 r16.Age), (.int .i64 a_a.Now), p21.1.v, p24.1.v, (.int .i64 a_a.Spent), p27.1.v].toArray)) (v := (.agg [p6.1.v, p9.1.v, p12.1.v, p15.1.v, (.int .i64 r13.Version), p18.1.v, (.int .i64 r16.Age), (.int .i64 a_a.Now), p21.1.v, p24.1.v, (.int .i64 a_a.Spent), p27.1.v].toArray)) ty55.sz (.tmp rfl rfl) (.tmp rfl rfl) rfl rfl rfl rfl rfl) (fun _ => ?_)
  refine C_nil ?_
  refine CW_ret ?_
  obtain rfl := Option.some.inj hF
  exact End_ret (p6.1, p6.2, p9.1, p9.2, p12.1, p12.2, p15.1, p15.2, p18.1, p18.2, p21.1, p21.2, p24.1, p24.2, p27.1, p27.2) (.cellA rfl rfl .h rfl ag55 ty55.sz rfl rfl .nil) rfl (.sel (.cons (.t (.t (.t (.t (.t (.t (.t (.t (.t .h))))))))) (.cons (.t (.t (.t (.t (.t (.t (.t (.t .h)))))))) (.cons (.t (.t (.t (.t (.t (.t (.t .h))))))) (.cons (.t (.t (.t (.t (.t (.t .h)))))) (.cons (.t (.t (.t (.t (.t .h))))) (.cons (.t (.t (.t (.t .h)))) (.cons (.t (.t (.t .h))) (.cons (.t (.t .h)) .nil)))))))))

/-! spec.l2Ints -/
def s_l2Ints_L1 (a_b : List Int) : List Int → Nat → Option (Bool)
  | [], k4 => some true
  | x6 :: rest5, k4 => (ix a_b (k4 : Int)).bind fun x15 =>
    if ((x6 : Int) != x15) then (
      some false)
    else (
      s_l2Ints_L1 a_b rest5 (k4 + 1))
def s_l2Ints (a_a : List Int) (a_b : List Int) : Option (Bool) :=
  if (((a_a.length : Int) : Int) != (a_b.length : Int)) then (
    some false)
  else (
    s_l2Ints_L1 a_b a_a 0)
theorem s_l2Ints_ok (a_a : List Int) (v0_0 : Sv) (a_b : List Int) (v1_0 : Sv) (R : Bool) (hF : s_l2Ints a_a a_b = some R) :
    Fw.Spec Try.prog 87 [v0_0.v, v1_0.v] [crd (RdS 3 rdInt) v0_0.v a_a, crd (RdS 3 rdInt) v1_0.v a_b] (fun _ : Unit => (.bool R)) (fun _ => []) := by
  refine Spec_enter (n := 26) Try.func87 rfl rfl (rs := [.tmp 4]) rfl rfl rfl ?_
  intro H0 F0
  unfold s_l2Ints at hF
  refine K_region ?_
  refine C_val (V_assign (v := (.bool false)) (.bool _)) ?_
  refine C_nil ?_
  refine K_in ?_
  refine K_region ?_
  refine C_val (V_move (v := v0_0.v) (.tmp rfl rfl)) ?_
  refine C_at .h (fun hp => V_lenR (l := a_a.length) sl45 (.tmp rfl rfl) (crd_len hp)) ?_
  refine C_val (V_move (v := v1_0.v) (.tmp rfl rfl)) ?_
  refine C_at (.t .h) (fun hp => V_lenR (l := a_b.length) sl45 (.tmp rfl rfl) (crd_len hp)) ?_
  refine C_val (V_neq (i := (a_a.length : Int)) (j := (a_b.length : Int)) (.tmp rfl rfl) (.tmp rfl rfl)) ?_
  refine C_nil ?_
  refine CW_cond (b := (((a_a.length : Int) : Int) != (a_b.length : Int))) (.tmp rfl rfl) (fun hb23 => ?_) (fun hb23 => ?_)
  · rw [if_pos hb23] at hF
    refine K_region ?_
    refine C_val (V_assign (v := (.bool false)) (.bool _)) ?_
    refine C_nil ?_
    refine CW_ret ?_
    obtain rfl := Option.some.inj hF
    exact End_ret () (.tmp rfl rfl .nil) rfl (.sel .nil)
  rw [if_neg (by rw [hb23]; exact Bool.false_ne_true)] at hF
  refine CW_skip ?_
  refine K_in ?_
  refine K_region ?_
  refine C_val (V_assign (v := (.int .i64 0)) (.int _ _)) ?_
  refine C_nil ?_
  refine CW_block ?_
  refine CW_loop (m := a_a.length) (fun m2 f' cs' => ∃ (g : Fr) (k4 : Nat) (rest5 : List Int), m2 = rest5.length ∧ f' = updL g [(0, v0_0.v), (1, v1_0.v), (5, (.int .i64 (k4 : Int)))] ∧ List.drop k4 a_a = rest5 ∧ Ent cs' [crd (RdS 3 rdInt) v0_0.v a_a, crd (RdS 3 rdInt) v1_0.v a_b] ∧ s_l2Ints_L1 a_b rest5 k4 = some R) ⟨_, 0, _, rfl, (EqL.cons rfl (EqL.cons rfl (EqL.cons rfl (EqL.nil)))).eq, rfl, (.sel (.rd .h rfl (.rd (.t .h) rfl .nil))), hF⟩ ?_
  clear hF
  rintro m2 _ _ ⟨g3, k4, rest5, rfl, rfl, hd7, hE, hF⟩
  refine K_ent hE ?_
  clear hE
  refine K_pure (c := crd (RdS 3 rdInt) v0_0.v a_a) .h crd_bound (fun hbd12 => ?_)
  rcases rest5 with _ | ⟨x6, rest5⟩
  · have hk8 := List.drop_eq_nil_iff.1 hd7
    have hfe11 : (decide (((k4 : Int) : Int) < (a_a.length : Int))) = false := decide_eq_false (by omega)
    rw [s_l2Ints_L1] at hF
    refine K_in ?_
    refine K_region ?_
    refine C_val (V_move (v := (.int .i64 (k4 : Int))) (.tmp rfl rfl)) ?_
    refine C_val (V_move (v := v0_0.v) (.tmp rfl rfl)) ?_
    refine C_at .h (fun hp => V_lenR (l := a_a.length) sl45 (.tmp rfl rfl) (crd_len hp)) ?_
    refine C_val (V_lss (i := (k4 : Int)) (j := (a_a.length : Int)) (.tmp rfl rfl) (.tmp rfl rfl)) ?_
    refine C_nil ?_
    refine CW_cond (b := (decide (((k4 : Int) : Int) < (a_a.length : Int)))) (.tmp rfl rfl) (fun hb => absurd (hfe11.symm.trans hb) (by decide)) (fun _ => ?_)
    refine CW_exit ?_
    refine CThen_exit ?_
    refine CThen_exit ?_
    refine CIn_self ?_
    refine K_region ?_
    refine C_val (V_assign (v := (.bool true)) (.bool _)) ?_
    refine C_nil ?_
    refine CW_ret ?_
    obtain rfl := Option.some.inj hF
    exact End_ret () (.tmp rfl rfl .nil) rfl (.sel .nil)
  obtain ⟨hk8, hx9, hd10⟩ := drop_cons hd7
  have hfe11 : (decide (((k4 : Int) : Int) < (a_a.length : Int))) = true := decide_eq_true (by omega)
  rw [s_l2Ints_L1] at hF
  refine K_in ?_
  refine K_region ?_
  refine C_val (V_move (v := (.int .i64 (k4 : Int))) (.tmp rfl rfl)) ?_
  refine C_val (V_move (v := v0_0.v) (.tmp rfl rfl)) ?_
  refine C_at .h (fun hp => V_lenR (l := a_a.length) sl45 (.tmp rfl rfl) (crd_len hp)) ?_
  refine C_val (V_lss (i := (k4 : Int)) (j := (a_a.length : Int)) (.tmp rfl rfl) (.tmp rfl rfl)) ?_
  refine C_nil ?_
  refine CW_cond (b := (decide (((k4 : Int) : Int) < (a_a.length : Int)))) (.tmp rfl rfl) (fun _ => ?_) (fun hb => absurd (hfe11.symm.trans hb) (by decide))
  refine CW_skip ?_
  refine K_block ?_
  refine K_draw [0, 1, 2, 3, 4, 5, 6, 7, 8] [0, 0, 3, 7, 0, 0, 48, 112, 255] [] mixed (by decide +kernel) ?_
  refine D_val rfl .no (fun ha => V_move (v := v0_0.v) (EN ha (.tmp rfl rfl) rfl)) ?_
  refine D_val rfl .no (fun ha => V_move (v := (.int .i64 (k4 : Int))) (EN ha (.tmp rfl rfl) rfl)) ?_
  refine D_idx (a := x6) sl45 ty3.sz rfl .no (.tmp rfl rfl) (.tmp rfl rfl) rfl rfl .h (Int.natCast_nonneg k4) hx9 (fun k13 j14 => ?_)
  refine D_ldS (w := (.int .i64 x6)) ag3 rfl .no (.tmp rfl rfl) rfl .h ls3_0 ?_
  refine D_val rfl .no (fun ha => V_move (v := v1_0.v) (EN ha (.tmp rfl rfl) rfl)) ?_
  refine D_val rfl .no (fun ha => V_move (v := (.int .i64 (k4 : Int))) (EN ha (.tmp rfl rfl) rfl)) ?_
  obtain ⟨x15, hx16, hF⟩ := bind_some hF
  obtain ⟨hp17, hx18⟩ := ix_some hx16
  refine D_idx (a := x15) sl45 ty3.sz rfl .no (.tmp rfl rfl) (.tmp rfl rfl) rfl rfl (.t (.t .h)) hp17 hx18 (fun k19 j20 => ?_)
  refine D_ldS (w := (.int .i64 x15)) ag3 rfl .no (.tmp rfl rfl) rfl .h ls3_0 ?_
  refine D_val rfl .no (fun ha => V_neq (i := x6) (j := x15) (EN ha (.tmp rfl rfl) rfl) (EN ha (.tmp rfl rfl) rfl)) ?_
  refine D_nil ?_
  refine CW_cond (b := ((x6 : Int) != x15)) (.tmp rfl rfl) (fun hb22 => ?_) (fun hb22 => ?_)
  · rw [if_pos hb22] at hF
    refine K_region ?_
    refine C_val (V_assign (v := (.bool false)) (.bool _)) ?_
    refine C_nil ?_
    refine CW_ret ?_
    obtain rfl := Option.some.inj hF
    exact End_ret () (.tmp rfl rfl .nil) rfl (.sel .nil)
  rw [if_neg (by rw [hb22]; exact Bool.false_ne_true)] at hF
  refine CW_skip ?_
  refine CW_region ?_
  refine C_val (V_move (v := (.int .i64 (k4 : Int))) (.tmp rfl rfl)) ?_
  refine C_val (V_add (i := (k4 : Int)) (j := 1) (.tmp rfl rfl) (.int _ _)) ?_
  refine C_val (V_assign (v := (.int .i64 (IntKind.i64.wrap ((k4 : Int) + 1)))) (.tmp rfl rfl)) ?_
  refine C_nil ?_
  have hw21 : IntKind.i64.wrap ((k4 : Int) + 1) = ((k4 + 1 : Nat) : Int) := by rw [wrap_in (by omega) (by omega)]; rfl
  rw [hw21]
  exact ⟨_, Nat.lt_succ_self _, _, k4 + 1, rest5, rfl, (EqL.cons rfl (EqL.cons rfl (EqL.cons rfl (EqL.nil)))).eq, hd10, (.sel (.rd (.t (.t .h)) rfl (.rd (.t (.t (.t .h))) rfl .nil))), hF⟩

/-! spec.l32SameMethods -/
def s_l32SameMethods_L1 (a_b : List Method) : List Method → Nat → Option (Bool)
  | [], k4 => some true
  | x6 :: rest5, k4 => ((ix a_b (k4 : Int)).bind fun x17 =>
      bif ((x6.Rel : Int) != x17.Rel) then (some true)
      else ((ix a_b (k4 : Int)).bind fun x27 =>
        (s_l2Ints x6.Inputs x27.Inputs).bind fun r34 =>
        bif (!r34) then (some true)
        else ((ix a_b (k4 : Int)).bind fun x40 =>
          bif ((x6.Limit : Int) != x40.Limit) then (some true)
          else ((ix a_b (k4 : Int)).bind fun x49 =>
            bif ((x6.Cost : Int) != x49.Cost) then (some true)
            else ((ix a_b (k4 : Int)).bind fun x58 =>
              some ((x6.Quota : Int) != x58.Quota)))))).bind fun o13 =>
    match o13 with
    | c64 => if c64 then (
        some false)
      else (
        s_l32SameMethods_L1 a_b rest5 (k4 + 1))
def s_l32SameMethods (a_a : List Method) (a_b : List Method) : Option (Bool) :=
  if (((a_a.length : Int) : Int) != (a_b.length : Int)) then (
    some false)
  else (
    s_l32SameMethods_L1 a_b a_a 0)
theorem s_l32SameMethods_ok (a_a : List Method) (v0_0 : Sv) (a_b : List Method) (v1_0 : Sv) (R : Bool) (hF : s_l32SameMethods a_a a_b = some R) :
    Fw.Spec Try.prog 88 [v0_0.v, v1_0.v] [crd (RdS 101 rd101) v0_0.v a_a, crd (RdS 101 rd101) v1_0.v a_b] (fun _ : Unit => (.bool R)) (fun _ => []) := by
  refine Spec_enter (n := 81) Try.func88 rfl rfl (rs := [.tmp 4]) rfl rfl rfl ?_
  intro H0 F0
  unfold s_l32SameMethods at hF
  refine K_region ?_
  refine C_val (V_assign (v := (.bool false)) (.bool _)) ?_
  refine C_nil ?_
  refine K_in ?_
  refine K_region ?_
  refine C_val (V_move (v := v0_0.v) (.tmp rfl rfl)) ?_
  refine C_at .h (fun hp => V_lenR (l := a_a.length) sl35 (.tmp rfl rfl) (crd_len hp)) ?_
  refine C_val (V_move (v := v1_0.v) (.tmp rfl rfl)) ?_
  refine C_at (.t .h) (fun hp => V_lenR (l := a_b.length) sl35 (.tmp rfl rfl) (crd_len hp)) ?_
  refine C_val (V_neq (i := (a_a.length : Int)) (j := (a_b.length : Int)) (.tmp rfl rfl) (.tmp rfl rfl)) ?_
  refine C_nil ?_
  refine CW_cond (b := (((a_a.length : Int) : Int) != (a_b.length : Int))) (.tmp rfl rfl) (fun hb68 => ?_) (fun hb68 => ?_)
  · rw [if_pos hb68] at hF
    refine K_region ?_
    refine C_val (V_assign (v := (.bool false)) (.bool _)) ?_
    refine C_nil ?_
    refine CW_ret ?_
    obtain rfl := Option.some.inj hF
    exact End_ret () (.tmp rfl rfl .nil) rfl (.sel .nil)
  rw [if_neg (by rw [hb68]; exact Bool.false_ne_true)] at hF
  refine CW_skip ?_
  refine K_in ?_
  refine K_region ?_
  refine C_val (V_assign (v := (.int .i64 0)) (.int _ _)) ?_
  refine C_nil ?_
  refine CW_block ?_
  refine CW_loop (m := a_a.length) (fun m2 f' cs' => ∃ (g : Fr) (k4 : Nat) (rest5 : List Method), m2 = rest5.length ∧ f' = updL g [(0, v0_0.v), (1, v1_0.v), (5, (.int .i64 (k4 : Int)))] ∧ List.drop k4 a_a = rest5 ∧ Ent cs' [crd (RdS 101 rd101) v0_0.v a_a, crd (RdS 101 rd101) v1_0.v a_b] ∧ s_l32SameMethods_L1 a_b rest5 k4 = some R) ⟨_, 0, _, rfl, (EqL.cons rfl (EqL.cons rfl (EqL.cons rfl (EqL.nil)))).eq, rfl, (.sel (.rd .h rfl (.rd (.t .h) rfl .nil))), hF⟩ ?_
  clear hF
  rintro m2 _ _ ⟨g3, k4, rest5, rfl, rfl, hd7, hE, hF⟩
  refine K_ent hE ?_
  clear hE
  refine K_pure (c := crd (RdS 101 rd101) v0_0.v a_a) .h crd_bound (fun hbd12 => ?_)
  rcases rest5 with _ | ⟨x6, rest5⟩
  · have hk8 := List.drop_eq_nil_iff.1 hd7
    have hfe11 : (decide (((k4 : Int) : Int) < (a_a.length : Int))) = false := decide_eq_false (by omega)
    rw [s_l32SameMethods_L1] at hF
    refine K_in ?_
    refine K_region ?_
    refine C_val (V_move (v := (.int .i64 (k4 : Int))) (.tmp rfl rfl)) ?_
    refine C_val (V_move (v := v0_0.v) (.tmp rfl rfl)) ?_
    refine C_at .h (fun hp => V_lenR (l := a_a.length) sl35 (.tmp rfl rfl) (crd_len hp)) ?_
    refine C_val (V_lss (i := (k4 : Int)) (j := (a_a.length : Int)) (.tmp rfl rfl) (.tmp rfl rfl)) ?_
    refine C_nil ?_
    refine CW_cond (b := (decide (((k4 : Int) : Int) < (a_a.length : Int)))) (.tmp rfl rfl) (fun hb => absurd (hfe11.symm.trans hb) (by decide)) (fun _ => ?_)
    refine CW_exit ?_
    refine CThen_exit ?_
    refine CThen_exit ?_
    refine CIn_self ?_
    refine K_region ?_
    refine C_val (V_assign (v := (.bool true)) (.bool _)) ?_
    refine C_nil ?_
    refine CW_ret ?_
    obtain rfl := Option.some.inj hF
    exact End_ret () (.tmp rfl rfl .nil) rfl (.sel .nil)
  obtain ⟨hk8, hx9, hd10⟩ := drop_cons hd7
  have hfe11 : (decide (((k4 : Int) : Int) < (a_a.length : Int))) = true := decide_eq_true (by omega)
  rw [s_l32SameMethods_L1] at hF
  refine K_in ?_
  refine K_region ?_
  refine C_val (V_move (v := (.int .i64 (k4 : Int))) (.tmp rfl rfl)) ?_
  refine C_val (V_move (v := v0_0.v) (.tmp rfl rfl)) ?_
  refine C_at .h (fun hp => V_lenR (l := a_a.length) sl35 (.tmp rfl rfl) (crd_len hp)) ?_
  refine C_val (V_lss (i := (k4 : Int)) (j := (a_a.length : Int)) (.tmp rfl rfl) (.tmp rfl rfl)) ?_
  refine C_nil ?_
  refine CW_cond (b := (decide (((k4 : Int) : Int) < (a_a.length : Int)))) (.tmp rfl rfl) (fun _ => ?_) (fun hb => absurd (hfe11.symm.trans hb) (by decide))
  refine CW_skip ?_
  refine K_block ?_
  obtain ⟨o13, hio13, hO14⟩ := bind_some hF
  refine K_draw [0, 1, 2, 3, 4, 5, 6, 7, 8, 9, 10, 11, 12, 13, 14, 15, 16, 17, 18, 19, 20, 21, 22, 23, 24, 25, 26, 27, 28, 29, 30, 31, 32, 33, 34, 35, 36, 37, 38, 39, 40, 41, 42, 43, 44, 45, 46, 47, 48, 49, 50, 51, 52, 53, 54, 55, 56, 57, 58, 59, 60, 61, 62, 63] [0, 0, 3, 7, 15, 0, 0, 96, 224, 480, 1023, 2047, 4095, 4095, 16383, 32767, 65535, 4095, 4095, 397311, 921599, 1970175, 4194303, 8388607, 16777215, 33554431, 67108863, 67108863, 268435455, 536870911, 1073741823, 67108863, 67108863, 6509559807, 15099494399, 32279363583, 68719476735, 137438953471, 274877906943, 549755813887, 549755813887, 2199023255551, 4398046511103, 8796093022207, 549755813887, 549755813887, 53326313947135, 123695058124799, 264432546480127, 562949953421311, 1125899906842623, 2251799813685247, 4503599627370495, 4503599627370495, 18014398509481983, 36028797018963967, 72057594037927935, 4503599627370495, 4503599627370495, 436849163854938111, 1013309916158361599, 2166231420765208575, 4611686018427387903, 9223372036854775807] [22] mixed (by decide +kernel) ?_
  refine D_cut (fun f' cs' => ∃ (c64 : Bool) (g : Fr), c64 = o13 ∧ f' = updL g [(0, v0_0.v), (1, v1_0.v), (5, (.int .i64 (k4 : Int))), (80, (.bool c64))] ∧ Ent cs' [crd (RdS 101 rd101) v0_0.v a_a, crd (RdS 101 rd101) v1_0.v a_b]) ?_ ?_
  · replace hF := hio13
    refine D_val rfl .no (fun ha => V_move (v := v0_0.v) (EN ha (.tmp rfl rfl) rfl)) ?_
    refine D_val rfl .no (fun ha => V_move (v := (.int .i64 (k4 : Int))) (EN ha (.tmp rfl rfl) rfl)) ?_
    refine D_idx (a := x6) sl35 ty101.sz rfl .no (.tmp rfl rfl) (.tmp rfl rfl) rfl rfl .h (Int.natCast_nonneg k4) hx9 (fun k15 j16 => ?_)
    refine D_val rfl .no (fun ha => V_fieldAddr (off := 0) fd101_0 (EN ha (.tmp rfl rfl) rfl)) ?_
    refine D_ldS (w := (.int .i64 x6.Rel)) ag3 rfl .no (.tmp rfl rfl) rfl .h ls101_0 ?_
    refine D_val rfl .no (fun ha => V_move (v := v1_0.v) (EN ha (.tmp rfl rfl) rfl)) ?_
    refine D_val rfl .no (fun ha => V_move (v := (.int .i64 (k4 : Int))) (EN ha (.tmp rfl rfl) rfl)) ?_
    obtain ⟨x17, hx18, hF⟩ := bind_some hF
    obtain ⟨hp19, hx20⟩ := ix_some hx18
    refine D_idx (a := x17) sl35 ty101.sz rfl .no (.tmp rfl rfl) (.tmp rfl rfl) rfl rfl (.t (.t .h)) hp19 hx20 (fun k21 j22 => ?_)
    refine D_val rfl .no (fun ha => V_fieldAddr (off := 0) fd101_0 (EN ha (.tmp rfl rfl) rfl)) ?_
    refine D_ldS (w := (.int .i64 x17.Rel)) ag3 rfl .no (.tmp rfl rfl) rfl .h ls101_0 ?_
    refine D_val rfl .no (fun ha => V_neq (i := x6.Rel) (j := x17.Rel) (EN ha (.tmp rfl rfl) rfl) (EN ha (.tmp rfl rfl) rfl)) ?_
    refine D_val rfl .no (fun ha => V_move (v := (.bool ((x6.Rel : Int) != x17.Rel))) (EN ha (.tmp rfl rfl) rfl)) ?_
    rcases Bool.eq_false_or_eq_true ((x6.Rel : Int) != x17.Rel) with hg23 | hg23
    · rw [hg23]
      try rw [hg23] at hF; dsimp only [cond_true, cond_false] at hF
      refine D_off 28 rfl rfl rfl rfl ?_
      refine D_off 28 rfl rfl rfl rfl ?_
      refine D_off 28 rfl rfl rfl rfl ?_
      refine D_off 28 rfl rfl rfl rfl ?_
      refine D_off 28 rfl rfl rfl rfl ?_
      refine D_off 28 rfl rfl rfl rfl ?_
      refine D_off 28 rfl rfl rfl rfl ?_
      refine D_off 28 rfl rfl rfl rfl ?_
      refine D_off 28 rfl rfl rfl rfl ?_
      refine D_off 28 rfl rfl rfl rfl ?_
      refine D_off 28 rfl rfl rfl rfl ?_
      refine D_off 28 rfl rfl rfl rfl ?_
      refine D_val rfl .no (fun ha => V_pick (b := true) (u := (.bool true)) (v := undef) (EN ha (.tmp rfl rfl) rfl) (EN ha (.bool _) rfl) (EN ha (.tmp rfl rfl) rfl)) ?_
      refine D_val rfl .no (fun ha => V_move (v := (.bool true)) (EN ha (.tmp rfl rfl) rfl)) ?_
      refine D_off 42 rfl rfl rfl rfl ?_
      refine D_off 42 rfl rfl rfl rfl ?_
      refine D_off 42 rfl rfl rfl rfl ?_
      refine D_off 42 rfl rfl rfl rfl ?_
      refine D_off 42 rfl rfl rfl rfl ?_
      refine D_off 42 rfl rfl rfl rfl ?_
      refine D_off 42 rfl rfl rfl rfl ?_
      refine D_off 42 rfl rfl rfl rfl ?_
      refine D_off 42 rfl rfl rfl rfl ?_
      refine D_off 42 rfl rfl rfl rfl ?_
      refine D_off 42 rfl rfl rfl rfl ?_
      refine D_val rfl .no (fun ha => V_pick (b := true) (u := (.bool true)) (v := undef) (EN ha (.tmp rfl rfl) rfl) (EN ha (.bool _) rfl) (EN ha (.tmp rfl rfl) rfl)) ?_
      refine D_val rfl .no (fun ha => V_move (v := (.bool true)) (EN ha (.tmp rfl rfl) rfl)) ?_
      refine D_off 55 rfl rfl rfl rfl ?_
      refine D_off 55 rfl rfl rfl rfl ?_
      refine D_off 55 rfl rfl rfl rfl ?_
      refine D_off 55 rfl rfl rfl rfl ?_
      refine D_off 55 rfl rfl rfl rfl ?_
      refine D_off 55 rfl rfl rfl rfl ?_
      refine D_off 55 rfl rfl rfl rfl ?_
      refine D_off 55 rfl rfl rfl rfl ?_
      refine D_off 55 rfl rfl rfl rfl ?_
      refine D_off 55 rfl rfl rfl rfl ?_
      refine D_off 55 rfl rfl rfl rfl ?_
      refine D_val rfl .no (fun ha => V_pick (b := true) (u := (.bool true)) (v := undef) (EN ha (.tmp rfl rfl) rfl) (EN ha (.bool _) rfl) (EN ha (.tmp rfl rfl) rfl)) ?_
      refine D_val rfl .no (fun ha => V_move (v := (.bool true)) (EN ha (.tmp rfl rfl) rfl)) ?_
      refine D_off 68 rfl rfl rfl rfl ?_
      refine D_off 68 rfl rfl rfl rfl ?_
      refine D_off 68 rfl rfl rfl rfl ?_
      refine D_off 68 rfl rfl rfl rfl ?_
      refine D_off 68 rfl rfl rfl rfl ?_
      refine D_off 68 rfl rfl rfl rfl ?_
      refine D_off 68 rfl rfl rfl rfl ?_
      refine D_off 68 rfl rfl rfl rfl ?_
      refine D_off 68 rfl rfl rfl rfl ?_
      refine D_off 68 rfl rfl rfl rfl ?_
      refine D_off 68 rfl rfl rfl rfl ?_
      refine D_val rfl .no (fun ha => V_pick (b := true) (u := (.bool true)) (v := undef) (EN ha (.tmp rfl rfl) rfl) (EN ha (.bool _) rfl) (EN ha (.tmp rfl rfl) rfl)) ?_
      refine D_nil ?_
      obtain rfl := Option.some.inj hF
      exact ⟨_, _, rfl, (EqL.cons rfl (EqL.cons rfl (EqL.cons rfl (EqL.cons rfl (EqL.nil))))).eq, (.sel (.rd (.t (.t .h)) rfl (.rd (.t (.t (.t .h))) rfl .nil)))⟩
    rw [hg23]
    try rw [hg23] at hF; dsimp only [cond_true, cond_false] at hF
    refine D_val rfl (.on 28 rfl rfl rfl) (fun ha => V_move (v := v0_0.v) (EN ha (.tmp rfl rfl) rfl)) ?_
    refine D_val rfl (.on 28 rfl rfl rfl) (fun ha => V_move (v := (.int .i64 (k4 : Int))) (EN ha (.tmp rfl rfl) rfl)) ?_
    refine D_idx (a := x6) sl35 ty101.sz rfl (.on 28 rfl rfl rfl) (.tmp rfl rfl) (.tmp rfl rfl) rfl rfl (.t (.t .h)) (Int.natCast_nonneg k4) hx9 (fun k24 j25 => ?_)
    refine D_val rfl (.on 28 rfl rfl rfl) (fun ha => V_fieldAddr (off := 1) fd101_1 (EN ha (.tmp rfl rfl) rfl)) ?_
    refine D_ldV (R' := (RdS 3 rdInt)) ag45 rfl (.on 28 rfl rfl rfl) (.tmp rfl rfl) rfl .h lv101_1 (fun w26 => ?_)
    refine D_val rfl (.on 28 rfl rfl rfl) (fun ha => V_move (v := v1_0.v) (EN ha (.tmp rfl rfl) rfl)) ?_
    refine D_val rfl (.on 28 rfl rfl rfl) (fun ha => V_move (v := (.int .i64 (k4 : Int))) (EN ha (.tmp rfl rfl) rfl)) ?_
    obtain ⟨x27, hx28, hF⟩ := bind_some hF
    obtain ⟨hp29, hx30⟩ := ix_some hx28
    refine D_idx (a := x27) sl35 ty101.sz rfl (.on 28 rfl rfl rfl) (.tmp rfl rfl) (.tmp rfl rfl) rfl rfl (.t (.t (.t (.t (.t .h))))) hp29 hx30 (fun k31 j32 => ?_)
    refine D_val rfl (.on 28 rfl rfl rfl) (fun ha => V_fieldAddr (off := 1) fd101_1 (EN ha (.tmp rfl rfl) rfl)) ?_
    refine D_ldV (R' := (RdS 3 rdInt)) ag45 rfl (.on 28 rfl rfl rfl) (.tmp rfl rfl) rfl .h lv101_1 (fun w33 => ?_)
    obtain ⟨r34, hx35, hF⟩ := bind_some hF
    refine D_act0 rfl rfl (.on 28 rfl rfl rfl) (.rd (.t (.t .h)) rfl (.rd .h rfl .nil)) .nil (fun ha => X_callS cf87 (.cons (EN ha (.tmp rfl rfl) rfl) (.cons (EN ha (.tmp rfl rfl) rfl) .nil)) (s_l2Ints_ok x6.Inputs w26 x27.Inputs w33 _ hx35)) (fun _ => ?_)
    refine D_val rfl (.on 28 rfl rfl rfl) (fun ha => V_not (b := r34) (EN ha (.tmp rfl rfl) rfl)) ?_
    refine D_val rfl .no (fun ha => V_pick (b := false) (u := (.bool true)) (v := (.bool (!r34))) (EN ha (.tmp rfl rfl) rfl) (EN ha (.bool _) rfl) (EN ha (.tmp rfl rfl) rfl)) ?_
    refine D_val rfl .no (fun ha => V_move (v := (.bool (!r34))) (EN ha (.tmp rfl rfl) rfl)) ?_
    rcases Bool.eq_false_or_eq_true (!r34) with hg37 | hg37
    · rw [hg37]
      try rw [hg37] at hF; dsimp only [cond_true, cond_false] at hF
      refine D_off 42 rfl rfl rfl rfl ?_
      refine D_off 42 rfl rfl rfl rfl ?_
      refine D_off 42 rfl rfl rfl rfl ?_
      refine D_off 42 rfl rfl rfl rfl ?_
      refine D_off 42 rfl rfl rfl rfl ?_
      refine D_off 42 rfl rfl rfl rfl ?_
      refine D_off 42 rfl rfl rfl rfl ?_
      refine D_off 42 rfl rfl rfl rfl ?_
      refine D_off 42 rfl rfl rfl rfl ?_
      refine D_off 42 rfl rfl rfl rfl ?_
      refine D_off 42 rfl rfl rfl rfl ?_
      refine D_val rfl .no (fun ha => V_pick (b := true) (u := (.bool true)) (v := undef) (EN ha (.tmp rfl rfl) rfl) (EN ha (.bool _) rfl) (EN ha (.tmp rfl rfl) rfl)) ?_
      refine D_val rfl .no (fun ha => V_move (v := (.bool true)) (EN ha (.tmp rfl rfl) rfl)) ?_
      refine D_off 55 rfl rfl rfl rfl ?_
      refine D_off 55 rfl rfl rfl rfl ?_
      refine D_off 55 rfl rfl rfl rfl ?_
      refine D_off 55 rfl rfl rfl rfl ?_
      refine D_off 55 rfl rfl rfl rfl ?_
      refine D_off 55 rfl rfl rfl rfl ?_
      refine D_off 55 rfl rfl rfl rfl ?_
      refine D_off 55 rfl rfl rfl rfl ?_
      refine D_off 55 rfl rfl rfl rfl ?_
      refine D_off 55 rfl rfl rfl rfl ?_
      refine D_off 55 rfl rfl rfl rfl ?_
      refine D_val rfl .no (fun ha => V_pick (b := true) (u := (.bool true)) (v := undef) (EN ha (.tmp rfl rfl) rfl) (EN ha (.bool _) rfl) (EN ha (.tmp rfl rfl) rfl)) ?_
      refine D_val rfl .no (fun ha => V_move (v := (.bool true)) (EN ha (.tmp rfl rfl) rfl)) ?_
      refine D_off 68 rfl rfl rfl rfl ?_
      refine D_off 68 rfl rfl rfl rfl ?_
      refine D_off 68 rfl rfl rfl rfl ?_
      refine D_off 68 rfl rfl rfl rfl ?_
      refine D_off 68 rfl rfl rfl rfl ?_
      refine D_off 68 rfl rfl rfl rfl ?_
      refine D_off 68 rfl rfl rfl rfl ?_
      refine D_off 68 rfl rfl rfl rfl ?_
      refine D_off 68 rfl rfl rfl rfl ?_
      refine D_off 68 rfl rfl rfl rfl ?_
      refine D_off 68 rfl rfl rfl rfl ?_
      refine D_val rfl .no (fun ha => V_pick (b := true) (u := (.bool true)) (v := undef) (EN ha (.tmp rfl rfl) rfl) (EN ha (.bool _) rfl) (EN ha (.tmp rfl rfl) rfl)) ?_
      refine D_nil ?_
      obtain rfl := Option.some.inj hF
      exact ⟨_, _, rfl, (EqL.cons rfl (EqL.cons rfl (EqL.cons rfl (EqL.cons rfl (EqL.nil))))).eq, (.sel (.rd (.t (.t (.t (.t (.t (.t .h)))))) rfl (.rd (.t (.t (.t (.t (.t (.t (.t .h))))))) rfl .nil)))⟩
    rw [hg37]
    try rw [hg37] at hF; dsimp only [cond_true, cond_false] at hF
    refine D_val rfl (.on 42 rfl rfl rfl) (fun ha => V_move (v := v0_0.v) (EN ha (.tmp rfl rfl) rfl)) ?_
    refine D_val rfl (.on 42 rfl rfl rfl) (fun ha => V_move (v := (.int .i64 (k4 : Int))) (EN ha (.tmp rfl rfl) rfl)) ?_
    refine D_idx (a := x6) sl35 ty101.sz rfl (.on 42 rfl rfl rfl) (.tmp rfl rfl) (.tmp rfl rfl) rfl rfl (.t (.t (.t (.t (.t (.t .h)))))) (Int.natCast_nonneg k4) hx9 (fun k38 j39 => ?_)
    refine D_val rfl (.on 42 rfl rfl rfl) (fun ha => V_fieldAddr (off := 2) fd101_2 (EN ha (.tmp rfl rfl) rfl)) ?_
    refine D_ldS (w := (.int .i64 x6.Limit)) ag3 rfl (.on 42 rfl rfl rfl) (.tmp rfl rfl) rfl .h ls101_2 ?_
    refine D_val rfl (.on 42 rfl rfl rfl) (fun ha => V_move (v := v1_0.v) (EN ha (.tmp rfl rfl) rfl)) ?_
    refine D_val rfl (.on 42 rfl rfl rfl) (fun ha => V_move (v := (.int .i64 (k4 : Int))) (EN ha (.tmp rfl rfl) rfl)) ?_
    obtain ⟨x40, hx41, hF⟩ := bind_some hF
    obtain ⟨hp42, hx43⟩ := ix_some hx41
    refine D_idx (a := x40) sl35 ty101.sz rfl (.on 42 rfl rfl rfl) (.tmp rfl rfl) (.tmp rfl rfl) rfl rfl (.t (.t (.t (.t (.t (.t (.t (.t .h)))))))) hp42 hx43 (fun k44 j45 => ?_)
    refine D_val rfl (.on 42 rfl rfl rfl) (fun ha => V_fieldAddr (off := 2) fd101_2 (EN ha (.tmp rfl rfl) rfl)) ?_
    refine D_ldS (w := (.int .i64 x40.Limit)) ag3 rfl (.on 42 rfl rfl rfl) (.tmp rfl rfl) rfl .h ls101_2 ?_
    refine D_val rfl (.on 42 rfl rfl rfl) (fun ha => V_neq (i := x6.Limit) (j := x40.Limit) (EN ha (.tmp rfl rfl) rfl) (EN ha (.tmp rfl rfl) rfl)) ?_
    refine D_val rfl .no (fun ha => V_pick (b := false) (u := (.bool true)) (v := (.bool ((x6.Limit : Int) != x40.Limit))) (EN ha (.tmp rfl rfl) rfl) (EN ha (.bool _) rfl) (EN ha (.tmp rfl rfl) rfl)) ?_
    refine D_val rfl .no (fun ha => V_move (v := (.bool ((x6.Limit : Int) != x40.Limit))) (EN ha (.tmp rfl rfl) rfl)) ?_
    rcases Bool.eq_false_or_eq_true ((x6.Limit : Int) != x40.Limit) with hg46 | hg46
    · rw [hg46]
      try rw [hg46] at hF; dsimp only [cond_true, cond_false] at hF
      refine D_off 55 rfl rfl rfl rfl ?_
      refine D_off 55 rfl rfl rfl rfl ?_
      refine D_off 55 rfl rfl rfl rfl ?_
      refine D_off 55 rfl rfl rfl rfl ?_
      refine D_off 55 rfl rfl rfl rfl ?_
      refine D_off 55 rfl rfl rfl rfl ?_
      refine D_off 55 rfl rfl rfl rfl ?_
      refine D_off 55 rfl rfl rfl rfl ?_
      refine D_off 55 rfl rfl rfl rfl ?_
      refine D_off 55 rfl rfl rfl rfl ?_
      refine D_off 55 rfl rfl rfl rfl ?_
      refine D_val rfl .no (fun ha => V_pick (b := true) (u := (.bool true)) (v := undef) (EN ha (.tmp rfl rfl) rfl) (EN ha (.bool _) rfl) (EN ha (.tmp rfl rfl) rfl)) ?_
      refine D_val rfl .no (fun ha => V_move (v := (.bool true)) (EN ha (.tmp rfl rfl) rfl)) ?_
      refine D_off 68 rfl rfl rfl rfl ?_
      refine D_off 68 rfl rfl rfl rfl ?_
      refine D_off 68 rfl rfl rfl rfl ?_
      refine D_off 68 rfl rfl rfl rfl ?_
      refine D_off 68 rfl rfl rfl rfl ?_
      refine D_off 68 rfl rfl rfl rfl ?_
      refine D_off 68 rfl rfl rfl rfl ?_
      refine D_off 68 rfl rfl rfl rfl ?_
      refine D_off 68 rfl rfl rfl rfl ?_
      refine D_off 68 rfl rfl rfl rfl ?_
      refine D_off 68 rfl rfl rfl rfl ?_
      refine D_val rfl .no (fun ha => V_pick (b := true) (u := (.bool true)) (v := undef) (EN ha (.tmp rfl rfl) rfl) (EN ha (.bool _) rfl) (EN ha (.tmp rfl rfl) rfl)) ?_
      refine D_nil ?_
      obtain rfl := Option.some.inj hF
      exact ⟨_, _, rfl, (EqL.cons rfl (EqL.cons rfl (EqL.cons rfl (EqL.cons rfl (EqL.nil))))).eq, (.sel (.rd (.t (.t (.t (.t (.t (.t (.t (.t .h)))))))) rfl (.rd (.t (.t (.t (.t (.t (.t (.t (.t (.t .h))))))))) rfl .nil)))⟩
    rw [hg46]
    try rw [hg46] at hF; dsimp only [cond_true, cond_false] at hF
    refine D_val rfl (.on 55 rfl rfl rfl) (fun ha => V_move (v := v0_0.v) (EN ha (.tmp rfl rfl) rfl)) ?_
    refine D_val rfl (.on 55 rfl rfl rfl) (fun ha => V_move (v := (.int .i64 (k4 : Int))) (EN ha (.tmp rfl rfl) rfl)) ?_
    refine D_idx (a := x6) sl35 ty101.sz rfl (.on 55 rfl rfl rfl) (.tmp rfl rfl) (.tmp rfl rfl) rfl rfl (.t (.t (.t (.t (.t (.t (.t (.t .h)))))))) (Int.natCast_nonneg k4) hx9 (fun k47 j48 => ?_)
    refine D_val rfl (.on 55 rfl rfl rfl) (fun ha => V_fieldAddr (off := 3) fd101_3 (EN ha (.tmp rfl rfl) rfl)) ?_
    refine D_ldS (w := (.int .i64 x6.Cost)) ag3 rfl (.on 55 rfl rfl rfl) (.tmp rfl rfl) rfl .h ls101_3 ?_
    refine D_val rfl (.on 55 rfl rfl rfl) (fun ha => V_move (v := v1_0.v) (EN ha (.tmp rfl rfl) rfl)) ?_
    refine D_val rfl (.on 55 rfl rfl rfl) (fun ha => V_move (v := (.int .i64 (k4 : Int))) (EN ha (.tmp rfl rfl) rfl)) ?_
    obtain ⟨x49, hx50, hF⟩ := bind_some hF
    obtain ⟨hp51, hx52⟩ := ix_some hx50
    refine D_idx (a := x49) sl35 ty101.sz rfl (.on 55 rfl rfl rfl) (.tmp rfl rfl) (.tmp rfl rfl) rfl rfl (.t (.t (.t (.t (.t (.t (.t (.t (.t (.t .h)))))))))) hp51 hx52 (fun k53 j54 => ?_)
    refine D_val rfl (.on 55 rfl rfl rfl) (fun ha => V_fieldAddr (off := 3) fd101_3 (EN ha (.tmp rfl rfl) rfl)) ?_
    refine D_ldS (w := (.int .i64 x49.Cost)) ag3 rfl (.on 55 rfl rfl rfl) (.tmp rfl rfl) rfl .h ls101_3 ?_
    refine D_val rfl (.on 55 rfl rfl rfl) (fun ha => V_neq (i := x6.Cost) (j := x49.Cost) (EN ha (.tmp rfl rfl) rfl) (EN ha (.tmp rfl rfl) rfl)) ?_
    refine D_val rfl .no (fun ha => V_pick (b := false) (u := (.bool true)) (v := (.bool ((x6.Cost : Int) != x49.Cost))) (EN ha (.tmp rfl rfl) rfl) (EN ha (.bool _) rfl) (EN ha (.tmp rfl rfl) rfl)) ?_
    refine D_val rfl .no (fun ha => V_move (v := (.bool ((x6.Cost : Int) != x49.Cost))) (EN ha (.tmp rfl rfl) rfl)) ?_
    rcases Bool.eq_false_or_eq_true ((x6.Cost : Int) != x49.Cost) with hg55 | hg55
    · rw [hg55]
      try rw [hg55] at hF; dsimp only [cond_true, cond_false] at hF
      refine D_off 68 rfl rfl rfl rfl ?_
      refine D_off 68 rfl rfl rfl rfl ?_
      refine D_off 68 rfl rfl rfl rfl ?_
      refine D_off 68 rfl rfl rfl rfl ?_
      refine D_off 68 rfl rfl rfl rfl ?_
      refine D_off 68 rfl rfl rfl rfl ?_
      refine D_off 68 rfl rfl rfl rfl ?_
      refine D_off 68 rfl rfl rfl rfl ?_
      refine D_off 68 rfl rfl rfl rfl ?_
      refine D_off 68 rfl rfl rfl rfl ?_
      refine D_off 68 rfl rfl rfl rfl ?_
      refine D_val rfl .no (fun ha => V_pick (b := true) (u := (.bool true)) (v := undef) (EN ha (.tmp rfl rfl) rfl) (EN ha (.bool _) rfl) (EN ha (.tmp rfl rfl) rfl)) ?_
      refine D_nil ?_
      obtain rfl := Option.some.inj hF
      exact ⟨_, _, rfl, (EqL.cons rfl (EqL.cons rfl (EqL.cons rfl (EqL.cons rfl (EqL.nil))))).eq, (.sel (.rd (.t (.t (.t (.t (.t (.t (.t (.t (.t (.t .h)))))))))) rfl (.rd (.t (.t (.t (.t (.t (.t (.t (.t (.t (.t (.t .h))))))))))) rfl .nil)))⟩
    rw [hg55]
    try rw [hg55] at hF; dsimp only [cond_true, cond_false] at hF
    refine D_val rfl (.on 68 rfl rfl rfl) (fun ha => V_move (v := v0_0.v) (EN ha (.tmp rfl rfl) rfl)) ?_
    refine D_val rfl (.on 68 rfl rfl rfl) (fun ha => V_move (v := (.int .i64 (k4 : Int))) (EN ha (.tmp rfl rfl) rfl)) ?_
    refine D_idx (a := x6) sl35 ty101.sz rfl (.on 68 rfl rfl rfl) (.tmp rfl rfl) (.tmp rfl rfl) rfl rfl (.t (.t (.t (.t (.t (.t (.t (.t (.t (.t .h)))))))))) (Int.natCast_nonneg k4) hx9 (fun k56 j57 => ?_)
    refine D_val rfl (.on 68 rfl rfl rfl) (fun ha => V_fieldAddr (off := 4) fd101_4 (EN ha (.tmp rfl rfl) rfl)) ?_
    refine D_ldS (w := (.int .i64 x6.Quota)) ag3 rfl (.on 68 rfl rfl rfl) (.tmp rfl rfl) rfl .h ls101_4 ?_
    refine D_val rfl (.on 68 rfl rfl rfl) (fun ha => V_move (v := v1_0.v) (EN ha (.tmp rfl rfl) rfl)) ?_
    refine D_val rfl (.on 68 rfl rfl rfl) (fun ha => V_move (v := (.int .i64 (k4 : Int))) (EN ha (.tmp rfl rfl) rfl)) ?_
    obtain ⟨x58, hx59, hF⟩ := bind_some hF
    obtain ⟨hp60, hx61⟩ := ix_some hx59
    refine D_idx (a := x58) sl35 ty101.sz rfl (.on 68 rfl rfl rfl) (.tmp rfl rfl) (.tmp rfl rfl) rfl rfl (.t (.t (.t (.t (.t (.t (.t (.t (.t (.t (.t (.t .h)))))))))))) hp60 hx61 (fun k62 j63 => ?_)
    refine D_val rfl (.on 68 rfl rfl rfl) (fun ha => V_fieldAddr (off := 4) fd101_4 (EN ha (.tmp rfl rfl) rfl)) ?_
    refine D_ldS (w := (.int .i64 x58.Quota)) ag3 rfl (.on 68 rfl rfl rfl) (.tmp rfl rfl) rfl .h ls101_4 ?_
    refine D_val rfl (.on 68 rfl rfl rfl) (fun ha => V_neq (i := x6.Quota) (j := x58.Quota) (EN ha (.tmp rfl rfl) rfl) (EN ha (.tmp rfl rfl) rfl)) ?_
    refine D_val rfl .no (fun ha => V_pick (b := false) (u := (.bool true)) (v := (.bool ((x6.Quota : Int) != x58.Quota))) (EN ha (.tmp rfl rfl) rfl) (EN ha (.bool _) rfl) (EN ha (.tmp rfl rfl) rfl)) ?_
    refine D_nil ?_
    obtain rfl := Option.some.inj hF
    exact ⟨_, _, rfl, (EqL.cons rfl (EqL.cons rfl (EqL.cons rfl (EqL.cons rfl (EqL.nil))))).eq, (.sel (.rd (.t (.t (.t (.t (.t (.t (.t (.t (.t (.t (.t (.t .h)))))))))))) rfl (.rd (.t (.t (.t (.t (.t (.t (.t (.t (.t (.t (.t (.t (.t .h))))))))))))) rfl .nil)))⟩
  rintro _ _ ⟨c64, g67, rfl, rfl, hE⟩
  replace hF := hO14
  clear hO14
  try dsimp only at hF
  refine K_ent hE ?_
  refine CW_cond (b := c64) (.tmp rfl rfl) (fun hb66 => ?_) (fun hb66 => ?_)
  · rw [if_pos hb66] at hF
    refine K_region ?_
    refine C_val (V_assign (v := (.bool false)) (.bool _)) ?_
    refine C_nil ?_
    refine CW_ret ?_
    obtain rfl := Option.some.inj hF
    exact End_ret () (.tmp rfl rfl .nil) rfl (.sel .nil)
  rw [if_neg (by rw [hb66]; exact Bool.false_ne_true)] at hF
  refine CW_skip ?_
  refine CW_region ?_
  refine C_val (V_move (v := (.int .i64 (k4 : Int))) (.tmp rfl rfl)) ?_
  refine C_val (V_add (i := (k4 : Int)) (j := 1) (.tmp rfl rfl) (.int _ _)) ?_
  refine C_val (V_assign (v := (.int .i64 (IntKind.i64.wrap ((k4 : Int) + 1)))) (.tmp rfl rfl)) ?_
  refine C_nil ?_
  have hw65 : IntKind.i64.wrap ((k4 : Int) + 1) = ((k4 + 1 : Nat) : Int) := by rw [wrap_in (by omega) (by omega)]; rfl
  rw [hw65]
  exact ⟨_, Nat.lt_succ_self _, _, k4 + 1, rest5, rfl, (EqL.cons rfl (EqL.cons rfl (EqL.cons rfl (EqL.nil)))).eq, hd10, (.sel (.rd .h rfl (.rd (.t .h) rfl .nil))), hF⟩

end Go.Proofs.Ytabpeldbccicaaa
