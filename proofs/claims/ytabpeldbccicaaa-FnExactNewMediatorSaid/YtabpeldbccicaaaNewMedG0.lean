/-
  Functions of the program as Lean functions, and that the calls return what these say: part 1. No conditions.
-/
import Derived.Test.YtabpeldbccicaaaFc
import Derived.Test.YtabpeldbccicaaaProg
import Derived.KernelRfl
set_option maxRecDepth 100000
set_option linter.unusedVariables false
namespace Go.Proofs.Ytabpeldbccicaaa
open Go Go.Fw

instance : LaidP Try.prog := ⟨fun _ => True⟩

theorem sl45 : SL Try.prog 45 3 := by unfold SL; kernel_rfl
theorem cf28 : CF Try.prog 28 := fun _ _ => Try.call28 _ _
theorem ty3 : TY Try.prog 3 1 8 (.int .i64 0) := by unfold TY; kernel_rfl
theorem ls3_0 {a : Int} : ∀ H e, rdInt H e a → e.cells.toList[0]? = some (.int .i64 a) := by
  intro H e h
  subst h
  rfl
theorem ag3 : AG Try.prog 3 false := by unfold AG; kernel_rfl
theorem cf27 : CF Try.prog 27 := fun _ _ => Try.call27 _ _
structure Method where
  Rel : Int
  Inputs : List Int
  Limit : Int
  Cost : Int
  Quota : Int
structure Rule where
  From : Int
  To : Int
  Map : List Int
structure Fact where
  Rel : Int
  Values : List Int
structure Source where
  Facts : List Fact
  Version : Int
structure Access where
  Method : Int
  Values : List Int
structure Stored where
  Access : Access
  Facts : List Fact
  At : Int
structure Cache where
  Entries : List Stored
  Age : Int
structure Mediator where
  Schema : List Int
  Methods : List Method
  Rules : List Rule
  Source : Source
  Cache : Cache
  Now : Int
  Log : List Access
  Times : List Int
  Spent : Int
  Results : List (List (List Int))
theorem ty55 : TY Try.prog 55 12 224 (.agg [(.slice none 0 0), (.slice none 0 0), (.slice none 0 0), (.slice none 0 0), (.int .i64 0), (.slice none 0 0), (.int .i64 0), (.int .i64 0), (.slice none 0 0), (.slice none 0 0), (.int .i64 0), (.slice none 0 0)].toArray) := by unfold TY; kernel_rfl
theorem cf63 : CF Try.prog 63 := fun _ _ => Try.call63 _ _
theorem cf51 : CF Try.prog 51 := fun _ _ => Try.call51 _ _
theorem ag55 : AG Try.prog 55 true := by unfold AG; kernel_rfl
def rd101 (H : AHeap) (v : Value) (a : Method) : Prop := ∃ v0 : Sv, v = .agg [(.int .i64 a.Rel), v0.v, (.int .i64 a.Limit), (.int .i64 a.Cost), (.int .i64 a.Quota)].toArray ∧ (RdS 3 rdInt) H v0.v a.Inputs
instance : Mono rd101 := ⟨fun h hi => by
  obtain ⟨v0, h, h0⟩ := h
  exact ⟨v0, h, Mono.up h0 hi⟩⟩
instance : Cells rd101 5 := ⟨fun h => by
  obtain ⟨v0, rfl, h0⟩ := h
  exact ⟨rfl, rfl⟩⟩
def ow101 : ORel Method := fun F H v a => ∃ (v0 : Sv) (F0 : List Nat), v = .agg [(.int .i64 a.Rel), v0.v, (.int .i64 a.Limit), (.int .i64 a.Cost), (.int .i64 a.Quota)].toArray ∧ F0 = F ∧ (OwnS 3 (roE rdInt)) F0 H v0.v a.Inputs
instance : Keep ow101 := ⟨fun h hi hg => by
  obtain ⟨v0, F0, rfl, rfl, h0⟩ := h
  exact ⟨v0, F0, rfl, rfl, Keep.keep h0 hi (fun k hk => hg k (by simp [hk]))⟩⟩
instance : Local ow101 := ⟨fun h hg => by
  obtain ⟨v0, F0, rfl, rfl, h0⟩ := h
  exact ⟨v0, F0, rfl, rfl, Local.keep h0 (fun k hk => hg k (by simp [hk]))⟩⟩
instance : Owns ow101 := ⟨fun h k hk => by
  obtain ⟨v0, F0, rfl, rfl, h0⟩ := h
  exact Owns.owns h0 k hk
⟩
instance : OCells ow101 5 := ⟨fun h => by
  obtain ⟨v0, F0, rfl, rfl, h0⟩ := h
  exact ⟨rfl, rfl⟩⟩
instance : Frz ow101 rd101 := ⟨fun h hg => by
  obtain ⟨v0, F0, rfl, rfl, h0⟩ := h
  exact ⟨v0, rfl, Frz.frz h0 (fun k hk => hg k (by simp [hk]))⟩⟩
def rd126 (H : AHeap) (v : Value) (a : Rule) : Prop := ∃ v0 : Sv, v = .agg [(.int .i64 a.From), (.int .i64 a.To), v0.v].toArray ∧ (RdS 3 rdInt) H v0.v a.Map
instance : Mono rd126 := ⟨fun h hi => by
  obtain ⟨v0, h, h0⟩ := h
  exact ⟨v0, h, Mono.up h0 hi⟩⟩
instance : Cells rd126 3 := ⟨fun h => by
  obtain ⟨v0, rfl, h0⟩ := h
  exact ⟨rfl, rfl⟩⟩
def ow126 : ORel Rule := fun F H v a => ∃ (v0 : Sv) (F0 : List Nat), v = .agg [(.int .i64 a.From), (.int .i64 a.To), v0.v].toArray ∧ F0 = F ∧ (OwnS 3 (roE rdInt)) F0 H v0.v a.Map
instance : Keep ow126 := ⟨fun h hi hg => by
  obtain ⟨v0, F0, rfl, rfl, h0⟩ := h
  exact ⟨v0, F0, rfl, rfl, Keep.keep h0 hi (fun k hk => hg k (by simp [hk]))⟩⟩
instance : Local ow126 := ⟨fun h hg => by
  obtain ⟨v0, F0, rfl, rfl, h0⟩ := h
  exact ⟨v0, F0, rfl, rfl, Local.keep h0 (fun k hk => hg k (by simp [hk]))⟩⟩
instance : Owns ow126 := ⟨fun h k hk => by
  obtain ⟨v0, F0, rfl, rfl, h0⟩ := h
  exact Owns.owns h0 k hk
⟩
instance : OCells ow126 3 := ⟨fun h => by
  obtain ⟨v0, F0, rfl, rfl, h0⟩ := h
  exact ⟨rfl, rfl⟩⟩
instance : Frz ow126 rd126 := ⟨fun h hg => by
  obtain ⟨v0, F0, rfl, rfl, h0⟩ := h
  exact ⟨v0, rfl, Frz.frz h0 (fun k hk => hg k (by simp [hk]))⟩⟩
def rd157 (H : AHeap) (v : Value) (a : Fact) : Prop := ∃ v0 : Sv, v = .agg [(.int .i64 a.Rel), v0.v].toArray ∧ (RdS 3 rdInt) H v0.v a.Values
instance : Mono rd157 := ⟨fun h hi => by
  obtain ⟨v0, h, h0⟩ := h
  exact ⟨v0, h, Mono.up h0 hi⟩⟩
instance : Cells rd157 2 := ⟨fun h => by
  obtain ⟨v0, rfl, h0⟩ := h
  exact ⟨rfl, rfl⟩⟩
def ow157 : ORel Fact := fun F H v a => ∃ (v0 : Sv) (F0 : List Nat), v = .agg [(.int .i64 a.Rel), v0.v].toArray ∧ F0 = F ∧ (OwnS 3 (roE rdInt)) F0 H v0.v a.Values
instance : Keep ow157 := ⟨fun h hi hg => by
  obtain ⟨v0, F0, rfl, rfl, h0⟩ := h
  exact ⟨v0, F0, rfl, rfl, Keep.keep h0 hi (fun k hk => hg k (by simp [hk]))⟩⟩
instance : Local ow157 := ⟨fun h hg => by
  obtain ⟨v0, F0, rfl, rfl, h0⟩ := h
  exact ⟨v0, F0, rfl, rfl, Local.keep h0 (fun k hk => hg k (by simp [hk]))⟩⟩
instance : Owns ow157 := ⟨fun h k hk => by
  obtain ⟨v0, F0, rfl, rfl, h0⟩ := h
  exact Owns.owns h0 k hk
⟩
instance : OCells ow157 2 := ⟨fun h => by
  obtain ⟨v0, F0, rfl, rfl, h0⟩ := h
  exact ⟨rfl, rfl⟩⟩
instance : Frz ow157 rd157 := ⟨fun h hg => by
  obtain ⟨v0, F0, rfl, rfl, h0⟩ := h
  exact ⟨v0, rfl, Frz.frz h0 (fun k hk => hg k (by simp [hk]))⟩⟩
def rd159 (H : AHeap) (v : Value) (a : Stored) : Prop := ∃ v0 v1 : Sv, v = .agg [(.int .i64 a.Access.Method), v0.v, v1.v, (.int .i64 a.At)].toArray ∧ (RdS 3 rdInt) H v0.v a.Access.Values ∧ (RdS 157 rd157) H v1.v a.Facts
instance : Mono rd159 := ⟨fun h hi => by
  obtain ⟨v0, v1, h, h0, h1⟩ := h
  exact ⟨v0, v1, h, Mono.up h0 hi, Mono.up h1 hi⟩⟩
instance : Cells rd159 4 := ⟨fun h => by
  obtain ⟨v0, v1, rfl, h0, h1⟩ := h
  exact ⟨rfl, rfl⟩⟩
def ow159 : ORel Stored := fun F H v a => ∃ (v0 v1 : Sv) (F0 F1 : List Nat), v = .agg [(.int .i64 a.Access.Method), v0.v, v1.v, (.int .i64 a.At)].toArray ∧ F = (F0 ++ F1) ∧ (OwnS 3 (roE rdInt)) F0 H v0.v a.Access.Values ∧ (OwnS 157 ow157) F1 H v1.v a.Facts
instance : Keep ow159 := ⟨fun h hi hg => by
  obtain ⟨v0, v1, F0, F1, rfl, rfl, h0, h1⟩ := h
  exact ⟨v0, v1, F0, F1, rfl, rfl, Keep.keep h0 hi (fun k hk => hg k (by simp [hk])), Keep.keep h1 hi (fun k hk => hg k (by simp [hk]))⟩⟩
instance : Local ow159 := ⟨fun h hg => by
  obtain ⟨v0, v1, F0, F1, rfl, rfl, h0, h1⟩ := h
  exact ⟨v0, v1, F0, F1, rfl, rfl, Local.keep h0 (fun k hk => hg k (by simp [hk])), Local.keep h1 (fun k hk => hg k (by simp [hk]))⟩⟩
instance : Owns ow159 := ⟨fun h k hk => by
  obtain ⟨v0, v1, F0, F1, rfl, rfl, h0, h1⟩ := h
  simp only [List.mem_append] at hk
  rcases hk with hk | hk
  · exact Owns.owns h0 k hk
  · exact Owns.owns h1 k hk
⟩
instance : OCells ow159 4 := ⟨fun h => by
  obtain ⟨v0, v1, F0, F1, rfl, rfl, h0, h1⟩ := h
  exact ⟨rfl, rfl⟩⟩
instance : Frz ow159 rd159 := ⟨fun h hg => by
  obtain ⟨v0, v1, F0, F1, rfl, rfl, h0, h1⟩ := h
  exact ⟨v0, v1, rfl, Frz.frz h0 (fun k hk => hg k (by simp [hk])), Frz.frz h1 (fun k hk => hg k (by simp [hk]))⟩⟩
def rd100 (H : AHeap) (v : Value) (a : Access) : Prop := ∃ v0 : Sv, v = .agg [(.int .i64 a.Method), v0.v].toArray ∧ (RdS 3 rdInt) H v0.v a.Values
instance : Mono rd100 := ⟨fun h hi => by
  obtain ⟨v0, h, h0⟩ := h
  exact ⟨v0, h, Mono.up h0 hi⟩⟩
instance : Cells rd100 2 := ⟨fun h => by
  obtain ⟨v0, rfl, h0⟩ := h
  exact ⟨rfl, rfl⟩⟩
def ow100 : ORel Access := fun F H v a => ∃ (v0 : Sv) (F0 : List Nat), v = .agg [(.int .i64 a.Method), v0.v].toArray ∧ F0 = F ∧ (OwnS 3 (roE rdInt)) F0 H v0.v a.Values
instance : Keep ow100 := ⟨fun h hi hg => by
  obtain ⟨v0, F0, rfl, rfl, h0⟩ := h
  exact ⟨v0, F0, rfl, rfl, Keep.keep h0 hi (fun k hk => hg k (by simp [hk]))⟩⟩
instance : Local ow100 := ⟨fun h hg => by
  obtain ⟨v0, F0, rfl, rfl, h0⟩ := h
  exact ⟨v0, F0, rfl, rfl, Local.keep h0 (fun k hk => hg k (by simp [hk]))⟩⟩
instance : Owns ow100 := ⟨fun h k hk => by
  obtain ⟨v0, F0, rfl, rfl, h0⟩ := h
  exact Owns.owns h0 k hk
⟩
instance : OCells ow100 2 := ⟨fun h => by
  obtain ⟨v0, F0, rfl, rfl, h0⟩ := h
  exact ⟨rfl, rfl⟩⟩
instance : Frz ow100 rd100 := ⟨fun h hg => by
  obtain ⟨v0, F0, rfl, rfl, h0⟩ := h
  exact ⟨v0, rfl, Frz.frz h0 (fun k hk => hg k (by simp [hk]))⟩⟩
theorem ni45 : NotInt Try.prog 45 := .inr ⟨3, by kernel_rfl⟩
theorem ty52 : TY Try.prog 52 2 32 (.agg [(.slice none 0 0), (.int .i64 0)].toArray) := by unfold TY; kernel_rfl
theorem cf29 : CF Try.prog 29 := fun _ _ => Try.call29 _ _
theorem cf64 : CF Try.prog 64 := fun _ _ => Try.call64 _ _
theorem cf58 : CF Try.prog 58 := fun _ _ => Try.call58 _ _
theorem cf113 : CF Try.prog 113 := fun _ _ => Try.call113 _ _
theorem cf145 : CF Try.prog 145 := fun _ _ => Try.call145 _ _
theorem cf114 : CF Try.prog 114 := fun _ _ => Try.call114 _ _
theorem cf65 : CF Try.prog 65 := fun _ _ => Try.call65 _ _
theorem cf30 : CF Try.prog 30 := fun _ _ => Try.call30 _ _
theorem fd55_0 : FD Try.prog 55 0 0 := by unfold FD; kernel_rfl
theorem ag45 : AG Try.prog 45 false := by unfold AG; kernel_rfl
theorem cf31 : CF Try.prog 31 := fun _ _ => Try.call31 _ _
theorem mixed : Try.prog.follows .mixedOrders = true := by kernel_rfl
theorem fd55_1 : FD Try.prog 55 1 1 := by unfold FD; kernel_rfl
theorem ag35 : AG Try.prog 35 false := by unfold AG; kernel_rfl
theorem cf21 : CF Try.prog 21 := fun _ _ => Try.call21 _ _
theorem sl35 : SL Try.prog 35 101 := by unfold SL; kernel_rfl
theorem ty101 : TY Try.prog 101 5 56 (.agg [(.int .i64 0), (.slice none 0 0), (.int .i64 0), (.int .i64 0), (.int .i64 0)].toArray) := by unfold TY; kernel_rfl
def ul101_0_101 (a : Method) (p : Sv) : List Value := [(.int .i64 a.Rel), p.v, (.int .i64 a.Limit), (.int .i64 a.Cost), (.int .i64 a.Quota)]
theorem la101_0_101 {a : Method} : ∀ H e, rd101 H e a → ∃ i : Sv, 0 + 5 ≤ e.cells.size ∧ (e.cells.toList.drop 0).take 5 = ul101_0_101 a i ∧ ∀ c ∈ ([crd (RdS 3 rdInt) i.v a.Inputs] : List Comp), c.P H ∧ c.F = [] := by
  intro H e h
  obtain ⟨v0, rfl, h0⟩ := h
  refine ⟨v0, Nat.le_of_ble_eq_true rfl, rfl, fun c hc => by
    simp only [List.mem_cons, List.not_mem_nil, or_false] at hc
    rcases hc with rfl
    · exact ⟨h0, rfl⟩
⟩
theorem ag101 : AG Try.prog 101 true := by unfold AG; kernel_rfl
theorem cf60 : CF Try.prog 60 := fun _ _ => Try.call60 _ _
theorem fd101_0 : FD Try.prog 101 0 0 := by unfold FD; kernel_rfl
theorem fd101_1 : FD Try.prog 101 1 1 := by unfold FD; kernel_rfl
theorem fd101_2 : FD Try.prog 101 2 2 := by unfold FD; kernel_rfl
theorem fd101_3 : FD Try.prog 101 3 3 := by unfold FD; kernel_rfl
theorem fd101_4 : FD Try.prog 101 4 4 := by unfold FD; kernel_rfl
theorem fd55_2 : FD Try.prog 55 2 2 := by unfold FD; kernel_rfl
theorem ag46 : AG Try.prog 46 false := by unfold AG; kernel_rfl
theorem cf66 : CF Try.prog 66 := fun _ _ => Try.call66 _ _
theorem sl46 : SL Try.prog 46 126 := by unfold SL; kernel_rfl
theorem ty126 : TY Try.prog 126 3 40 (.agg [(.int .i64 0), (.int .i64 0), (.slice none 0 0)].toArray) := by unfold TY; kernel_rfl
def ul126_0_126 (a : Rule) (p : Sv) : List Value := [(.int .i64 a.From), (.int .i64 a.To), p.v]
theorem la126_0_126 {a : Rule} : ∀ H e, rd126 H e a → ∃ i : Sv, 0 + 3 ≤ e.cells.size ∧ (e.cells.toList.drop 0).take 3 = ul126_0_126 a i ∧ ∀ c ∈ ([crd (RdS 3 rdInt) i.v a.Map] : List Comp), c.P H ∧ c.F = [] := by
  intro H e h
  obtain ⟨v0, rfl, h0⟩ := h
  refine ⟨v0, Nat.le_of_ble_eq_true rfl, rfl, fun c hc => by
    simp only [List.mem_cons, List.not_mem_nil, or_false] at hc
    rcases hc with rfl
    · exact ⟨h0, rfl⟩
⟩
theorem ag126 : AG Try.prog 126 true := by unfold AG; kernel_rfl
theorem cf115 : CF Try.prog 115 := fun _ _ => Try.call115 _ _
theorem fd126_0 : FD Try.prog 126 0 0 := by unfold FD; kernel_rfl
theorem fd126_1 : FD Try.prog 126 1 1 := by unfold FD; kernel_rfl
theorem fd126_2 : FD Try.prog 126 2 2 := by unfold FD; kernel_rfl
theorem fd55_3 : FD Try.prog 55 3 3 := by unfold FD; kernel_rfl
theorem ag49 : AG Try.prog 49 true := by unfold AG; kernel_rfl
theorem ty49 : TY Try.prog 49 2 32 (.agg [(.slice none 0 0), (.int .i64 0)].toArray) := by unfold TY; kernel_rfl
theorem cf67 : CF Try.prog 67 := fun _ _ => Try.call67 _ _
theorem fd49_0 : FD Try.prog 49 0 0 := by unfold FD; kernel_rfl
theorem ag47 : AG Try.prog 47 false := by unfold AG; kernel_rfl
theorem cf116 : CF Try.prog 116 := fun _ _ => Try.call116 _ _
theorem sl47 : SL Try.prog 47 157 := by unfold SL; kernel_rfl
theorem ty157 : TY Try.prog 157 2 32 (.agg [(.int .i64 0), (.slice none 0 0)].toArray) := by unfold TY; kernel_rfl
def ul157_0_157 (a : Fact) (p : Sv) : List Value := [(.int .i64 a.Rel), p.v]
theorem la157_0_157 {a : Fact} : ∀ H e, rd157 H e a → ∃ i : Sv, 0 + 2 ≤ e.cells.size ∧ (e.cells.toList.drop 0).take 2 = ul157_0_157 a i ∧ ∀ c ∈ ([crd (RdS 3 rdInt) i.v a.Values] : List Comp), c.P H ∧ c.F = [] := by
  intro H e h
  obtain ⟨v0, rfl, h0⟩ := h
  refine ⟨v0, Nat.le_of_ble_eq_true rfl, rfl, fun c hc => by
    simp only [List.mem_cons, List.not_mem_nil, or_false] at hc
    rcases hc with rfl
    · exact ⟨h0, rfl⟩
⟩
theorem ag157 : AG Try.prog 157 true := by unfold AG; kernel_rfl
theorem cf146 : CF Try.prog 146 := fun _ _ => Try.call146 _ _
theorem fd157_0 : FD Try.prog 157 0 0 := by unfold FD; kernel_rfl
theorem fd157_1 : FD Try.prog 157 1 1 := by unfold FD; kernel_rfl
theorem fd49_1 : FD Try.prog 49 1 1 := by unfold FD; kernel_rfl
theorem fd55_4 : FD Try.prog 55 4 5 := by unfold FD; kernel_rfl
theorem ag52 : AG Try.prog 52 true := by unfold AG; kernel_rfl
theorem cf68 : CF Try.prog 68 := fun _ _ => Try.call68 _ _
theorem fd52_0 : FD Try.prog 52 0 0 := by unfold FD; kernel_rfl
theorem ag50 : AG Try.prog 50 false := by unfold AG; kernel_rfl
theorem cf117 : CF Try.prog 117 := fun _ _ => Try.call117 _ _
theorem sl50 : SL Try.prog 50 159 := by unfold SL; kernel_rfl
theorem ty159 : TY Try.prog 159 4 64 (.agg [(.int .i64 0), (.slice none 0 0), (.slice none 0 0), (.int .i64 0)].toArray) := by unfold TY; kernel_rfl
def ul159_0_159 (a : Stored) (p : Sv × Sv) : List Value := [(.int .i64 a.Access.Method), p.1.v, p.2.v, (.int .i64 a.At)]
theorem la159_0_159 {a : Stored} : ∀ H e, rd159 H e a → ∃ i : Sv × Sv, 0 + 4 ≤ e.cells.size ∧ (e.cells.toList.drop 0).take 4 = ul159_0_159 a i ∧ ∀ c ∈ ([crd (RdS 3 rdInt) i.1.v a.Access.Values, crd (RdS 157 rd157) i.2.v a.Facts] : List Comp), c.P H ∧ c.F = [] := by
  intro H e h
  obtain ⟨v0, v1, rfl, h0, h1⟩ := h
  refine ⟨(v0, v1), Nat.le_of_ble_eq_true rfl, rfl, fun c hc => by
    simp only [List.mem_cons, List.not_mem_nil, or_false] at hc
    rcases hc with rfl | rfl
    · exact ⟨h0, rfl⟩
    · exact ⟨h1, rfl⟩
⟩
theorem ag159 : AG Try.prog 159 true := by unfold AG; kernel_rfl
theorem cf147 : CF Try.prog 147 := fun _ _ => Try.call147 _ _
theorem fd159_0 : FD Try.prog 159 0 0 := by unfold FD; kernel_rfl
theorem ag100 : AG Try.prog 100 true := by unfold AG; kernel_rfl
theorem ty100 : TY Try.prog 100 2 32 (.agg [(.int .i64 0), (.slice none 0 0)].toArray) := by unfold TY; kernel_rfl
theorem cf59 : CF Try.prog 59 := fun _ _ => Try.call59 _ _
theorem fd100_0 : FD Try.prog 100 0 0 := by unfold FD; kernel_rfl
theorem fd100_1 : FD Try.prog 100 1 1 := by unfold FD; kernel_rfl
theorem fd159_1 : FD Try.prog 159 1 2 := by unfold FD; kernel_rfl
theorem fd159_2 : FD Try.prog 159 2 3 := by unfold FD; kernel_rfl
theorem fd52_1 : FD Try.prog 52 1 1 := by unfold FD; kernel_rfl
theorem fd55_5 : FD Try.prog 55 5 7 := by unfold FD; kernel_rfl
theorem fd55_6 : FD Try.prog 55 6 8 := by unfold FD; kernel_rfl
theorem ag33 : AG Try.prog 33 false := by unfold AG; kernel_rfl
theorem cf20 : CF Try.prog 20 := fun _ _ => Try.call20 _ _
theorem sl33 : SL Try.prog 33 100 := by unfold SL; kernel_rfl
def ul100_0_100 (a : Access) (p : Sv) : List Value := [(.int .i64 a.Method), p.v]
theorem la100_0_100 {a : Access} : ∀ H e, rd100 H e a → ∃ i : Sv, 0 + 2 ≤ e.cells.size ∧ (e.cells.toList.drop 0).take 2 = ul100_0_100 a i ∧ ∀ c ∈ ([crd (RdS 3 rdInt) i.v a.Values] : List Comp), c.P H ∧ c.F = [] := by
  intro H e h
  obtain ⟨v0, rfl, h0⟩ := h
  refine ⟨v0, Nat.le_of_ble_eq_true rfl, rfl, fun c hc => by
    simp only [List.mem_cons, List.not_mem_nil, or_false] at hc
    rcases hc with rfl
    · exact ⟨h0, rfl⟩
⟩
theorem fd55_7 : FD Try.prog 55 7 9 := by unfold FD; kernel_rfl
theorem fd55_8 : FD Try.prog 55 8 10 := by unfold FD; kernel_rfl
theorem fd55_9 : FD Try.prog 55 9 11 := by unfold FD; kernel_rfl
theorem ag53 : AG Try.prog 53 false := by unfold AG; kernel_rfl
theorem cf69 : CF Try.prog 69 := fun _ _ => Try.call69 _ _
theorem sl53 : SL Try.prog 53 128 := by unfold SL; kernel_rfl
theorem ty128 : TY Try.prog 128 1 24 (.slice none 0 0) := by unfold TY; kernel_rfl
theorem lv128_0 {a : List (List Int)} : ∀ H e, (RdS 45 (RdS 3 rdInt)) H e a → ∃ w : Sv, e.cells.toList[0]? = some w.v ∧ (RdS 45 (RdS 3 rdInt)) H w.v a := by
  intro H e h
  obtain ⟨a0, m, rfl⟩ := RdS.len h
  exact ⟨⟨a0, _, m⟩, rfl, h⟩
theorem ag128 : AG Try.prog 128 false := by unfold AG; kernel_rfl
theorem cf118 : CF Try.prog 118 := fun _ _ => Try.call118 _ _
theorem sl128 : SL Try.prog 128 45 := by unfold SL; kernel_rfl
theorem ty45 : TY Try.prog 45 1 24 (.slice none 0 0) := by unfold TY; kernel_rfl
theorem lv45_0 {a : List Int} : ∀ H e, (RdS 3 rdInt) H e a → ∃ w : Sv, e.cells.toList[0]? = some w.v ∧ (RdS 3 rdInt) H w.v a := by
  intro H e h
  obtain ⟨a0, m, rfl⟩ := RdS.len h
  exact ⟨⟨a0, _, m⟩, rfl, h⟩
theorem cf32 : CF Try.prog 32 := fun _ _ => Try.call32 _ _
theorem cf33 : CF Try.prog 33 := fun _ _ => Try.call33 _ _
theorem cf22 : CF Try.prog 22 := fun _ _ => Try.call22 _ _
theorem sf101_0 {a : Method} {d : Int} : ∀ F H e, ow101 F H e a → ow101 F H (setPart e 0 (Value.cells (.int .i64 d)).toList) { a with Rel := d } := by
  intro F H e h
  obtain ⟨v0, F0, rfl, rfl, h0⟩ := h
  exact ⟨v0, F0, rfl, rfl, h0⟩
theorem fsf101_0 {a : Method} : ∀ F H e, ow101 F H e a → 0 + 1 ≤ e.cells.size := by
  intro F H e h
  obtain ⟨v0, F0, rfl, rfl, h0⟩ := h
  exact Nat.le_of_ble_eq_true rfl
theorem pt101_1 : Part ow101 1 (OwnS 3 (roE rdInt)) (fun a : Method => a.Inputs) (fun a d => { a with Inputs := d }) := ⟨fun {F H e a} h => by
  obtain ⟨v0, F0, rfl, rfl, h0⟩ := h
  exact ⟨v0, [], F0, [], rfl, by simp, h0, fun hi hk h' => ⟨v0, _, rfl, by simp, h'⟩⟩⟩
theorem sf101_2 {a : Method} {d : Int} : ∀ F H e, ow101 F H e a → ow101 F H (setPart e 2 (Value.cells (.int .i64 d)).toList) { a with Limit := d } := by
  intro F H e h
  obtain ⟨v0, F0, rfl, rfl, h0⟩ := h
  exact ⟨v0, F0, rfl, rfl, h0⟩
theorem fsf101_2 {a : Method} : ∀ F H e, ow101 F H e a → 2 + 1 ≤ e.cells.size := by
  intro F H e h
  obtain ⟨v0, F0, rfl, rfl, h0⟩ := h
  exact Nat.le_of_ble_eq_true rfl
theorem sf101_3 {a : Method} {d : Int} : ∀ F H e, ow101 F H e a → ow101 F H (setPart e 3 (Value.cells (.int .i64 d)).toList) { a with Cost := d } := by
  intro F H e h
  obtain ⟨v0, F0, rfl, rfl, h0⟩ := h
  exact ⟨v0, F0, rfl, rfl, h0⟩
theorem fsf101_3 {a : Method} : ∀ F H e, ow101 F H e a → 3 + 1 ≤ e.cells.size := by
  intro F H e h
  obtain ⟨v0, F0, rfl, rfl, h0⟩ := h
  exact Nat.le_of_ble_eq_true rfl
theorem sf101_4 {a : Method} {d : Int} : ∀ F H e, ow101 F H e a → ow101 F H (setPart e 4 (Value.cells (.int .i64 d)).toList) { a with Quota := d } := by
  intro F H e h
  obtain ⟨v0, F0, rfl, rfl, h0⟩ := h
  exact ⟨v0, F0, rfl, rfl, h0⟩
theorem fsf101_4 {a : Method} : ∀ F H e, ow101 F H e a → 4 + 1 ≤ e.cells.size := by
  intro F H e h
  obtain ⟨v0, F0, rfl, rfl, h0⟩ := h
  exact Nat.le_of_ble_eq_true rfl
theorem cf70 : CF Try.prog 70 := fun _ _ => Try.call70 _ _
theorem sf126_0 {a : Rule} {d : Int} : ∀ F H e, ow126 F H e a → ow126 F H (setPart e 0 (Value.cells (.int .i64 d)).toList) { a with From := d } := by
  intro F H e h
  obtain ⟨v0, F0, rfl, rfl, h0⟩ := h
  exact ⟨v0, F0, rfl, rfl, h0⟩
theorem fsf126_0 {a : Rule} : ∀ F H e, ow126 F H e a → 0 + 1 ≤ e.cells.size := by
  intro F H e h
  obtain ⟨v0, F0, rfl, rfl, h0⟩ := h
  exact Nat.le_of_ble_eq_true rfl
theorem sf126_1 {a : Rule} {d : Int} : ∀ F H e, ow126 F H e a → ow126 F H (setPart e 1 (Value.cells (.int .i64 d)).toList) { a with To := d } := by
  intro F H e h
  obtain ⟨v0, F0, rfl, rfl, h0⟩ := h
  exact ⟨v0, F0, rfl, rfl, h0⟩
theorem fsf126_1 {a : Rule} : ∀ F H e, ow126 F H e a → 1 + 1 ≤ e.cells.size := by
  intro F H e h
  obtain ⟨v0, F0, rfl, rfl, h0⟩ := h
  exact Nat.le_of_ble_eq_true rfl
theorem pt126_2 : Part ow126 2 (OwnS 3 (roE rdInt)) (fun a : Rule => a.Map) (fun a d => { a with Map := d }) := ⟨fun {F H e a} h => by
  obtain ⟨v0, F0, rfl, rfl, h0⟩ := h
  exact ⟨v0, [], F0, [], rfl, by simp, h0, fun hi hk h' => ⟨v0, _, rfl, by simp, h'⟩⟩⟩
theorem cf71 : CF Try.prog 71 := fun _ _ => Try.call71 _ _
theorem cf119 : CF Try.prog 119 := fun _ _ => Try.call119 _ _
theorem sf157_0 {a : Fact} {d : Int} : ∀ F H e, ow157 F H e a → ow157 F H (setPart e 0 (Value.cells (.int .i64 d)).toList) { a with Rel := d } := by
  intro F H e h
  obtain ⟨v0, F0, rfl, rfl, h0⟩ := h
  exact ⟨v0, F0, rfl, rfl, h0⟩
theorem fsf157_0 {a : Fact} : ∀ F H e, ow157 F H e a → 0 + 1 ≤ e.cells.size := by
  intro F H e h
  obtain ⟨v0, F0, rfl, rfl, h0⟩ := h
  exact Nat.le_of_ble_eq_true rfl
theorem pt157_1 : Part ow157 1 (OwnS 3 (roE rdInt)) (fun a : Fact => a.Values) (fun a d => { a with Values := d }) := ⟨fun {F H e a} h => by
  obtain ⟨v0, F0, rfl, rfl, h0⟩ := h
  exact ⟨v0, [], F0, [], rfl, by simp, h0, fun hi hk h' => ⟨v0, _, rfl, by simp, h'⟩⟩⟩
theorem cf72 : CF Try.prog 72 := fun _ _ => Try.call72 _ _
theorem cf120 : CF Try.prog 120 := fun _ _ => Try.call120 _ _
theorem sf159_0 {a : Stored} {d : Int} : ∀ F H e, ow159 F H e a → ow159 F H (setPart e 0 (Value.cells (.int .i64 d)).toList) { a with Access := { a.Access with Method := d } } := by
  intro F H e h
  obtain ⟨v0, v1, F0, F1, rfl, rfl, h0, h1⟩ := h
  exact ⟨v0, v1, F0, F1, rfl, rfl, h0, h1⟩
theorem fsf159_0 {a : Stored} : ∀ F H e, ow159 F H e a → 0 + 1 ≤ e.cells.size := by
  intro F H e h
  obtain ⟨v0, v1, F0, F1, rfl, rfl, h0, h1⟩ := h
  exact Nat.le_of_ble_eq_true rfl
theorem pt159_1 : Part ow159 1 (OwnS 3 (roE rdInt)) (fun a : Stored => a.Access.Values) (fun a d => { a with Access := { a.Access with Values := d } }) := ⟨fun {F H e a} h => by
  obtain ⟨v0, v1, F0, F1, rfl, rfl, h0, h1⟩ := h
  exact ⟨v0, [], F0, F1, rfl, by simp, h0, fun hi hk h' => ⟨v0, v1, _, F1, rfl, by simp, h', Keep.keep h1 hi (fun k hm => hk k (by simp [hm]))⟩⟩⟩
theorem pt159_2 : Part ow159 2 (OwnS 157 ow157) (fun a : Stored => a.Facts) (fun a d => { a with Facts := d }) := ⟨fun {F H e a} h => by
  obtain ⟨v0, v1, F0, F1, rfl, rfl, h0, h1⟩ := h
  exact ⟨v1, F0, F1, [], rfl, by simp, h1, fun hi hk h' => ⟨v0, v1, F0, _, rfl, by simp, Keep.keep h0 hi (fun k hm => hk k (by simp [hm])), h'⟩⟩⟩
theorem sf159_3 {a : Stored} {d : Int} : ∀ F H e, ow159 F H e a → ow159 F H (setPart e 3 (Value.cells (.int .i64 d)).toList) { a with At := d } := by
  intro F H e h
  obtain ⟨v0, v1, F0, F1, rfl, rfl, h0, h1⟩ := h
  exact ⟨v0, v1, F0, F1, rfl, rfl, h0, h1⟩
theorem fsf159_3 {a : Stored} : ∀ F H e, ow159 F H e a → 3 + 1 ≤ e.cells.size := by
  intro F H e h
  obtain ⟨v0, v1, F0, F1, rfl, rfl, h0, h1⟩ := h
  exact Nat.le_of_ble_eq_true rfl
theorem cf23 : CF Try.prog 23 := fun _ _ => Try.call23 _ _
theorem sf100_0 {a : Access} {d : Int} : ∀ F H e, ow100 F H e a → ow100 F H (setPart e 0 (Value.cells (.int .i64 d)).toList) { a with Method := d } := by
  intro F H e h
  obtain ⟨v0, F0, rfl, rfl, h0⟩ := h
  exact ⟨v0, F0, rfl, rfl, h0⟩
theorem fsf100_0 {a : Access} : ∀ F H e, ow100 F H e a → 0 + 1 ≤ e.cells.size := by
  intro F H e h
  obtain ⟨v0, F0, rfl, rfl, h0⟩ := h
  exact Nat.le_of_ble_eq_true rfl
theorem pt100_1 : Part ow100 1 (OwnS 3 (roE rdInt)) (fun a : Access => a.Values) (fun a d => { a with Values := d }) := ⟨fun {F H e a} h => by
  obtain ⟨v0, F0, rfl, rfl, h0⟩ := h
  exact ⟨v0, [], F0, [], rfl, by simp, h0, fun hi hk h' => ⟨v0, _, rfl, by simp, h'⟩⟩⟩
theorem cf73 : CF Try.prog 73 := fun _ _ => Try.call73 _ _
theorem pt128_0 : Part (OwnS 45 (OwnS 3 (roE rdInt))) 0 (OwnS 45 (OwnS 3 (roE rdInt))) (fun a => a) (fun _ b => b) := Part.self (fun h => by obtain ⟨a, m, rfl⟩ := OwnS.len h; exact ⟨⟨a, _, m⟩, rfl⟩)
theorem cf121 : CF Try.prog 121 := fun _ _ => Try.call121 _ _
theorem pt45_0 : Part (OwnS 3 (roE rdInt)) 0 (OwnS 3 (roE rdInt)) (fun a => a) (fun _ b => b) := Part.self (fun h => by obtain ⟨a, m, rfl⟩ := OwnS.len h; exact ⟨⟨a, _, m⟩, rfl⟩)
theorem cf34 : CF Try.prog 34 := fun _ _ => Try.call34 _ _
theorem cf37 : CF Try.prog 37 := fun _ _ => Try.call37 _ _
theorem cf74 : CF Try.prog 74 := fun _ _ => Try.call74 _ _
theorem ls101_0 {a : Method} : ∀ H e, rd101 H e a → e.cells.toList[0]? = some (.int .i64 a.Rel) := by
  intro H e h
  obtain ⟨_, rfl, _⟩ := h
  rfl
theorem lv101_1 {a : Method} : ∀ H e, rd101 H e a → ∃ w : Sv, e.cells.toList[1]? = some w.v ∧ (RdS 3 rdInt) H w.v a.Inputs := by
  intro H e h
  obtain ⟨v0, rfl, h0⟩ := h
  exact ⟨v0, rfl, h0⟩
theorem ls101_2 {a : Method} : ∀ H e, rd101 H e a → e.cells.toList[2]? = some (.int .i64 a.Limit) := by
  intro H e h
  obtain ⟨_, rfl, _⟩ := h
  rfl
theorem ls101_3 {a : Method} : ∀ H e, rd101 H e a → e.cells.toList[3]? = some (.int .i64 a.Cost) := by
  intro H e h
  obtain ⟨_, rfl, _⟩ := h
  rfl
theorem ls101_4 {a : Method} : ∀ H e, rd101 H e a → e.cells.toList[4]? = some (.int .i64 a.Quota) := by
  intro H e h
  obtain ⟨_, rfl, _⟩ := h
  rfl
theorem cf75 : CF Try.prog 75 := fun _ _ => Try.call75 _ _
theorem ls126_0 {a : Rule} : ∀ H e, rd126 H e a → e.cells.toList[0]? = some (.int .i64 a.From) := by
  intro H e h
  obtain ⟨_, rfl, _⟩ := h
  rfl
theorem ls126_1 {a : Rule} : ∀ H e, rd126 H e a → e.cells.toList[1]? = some (.int .i64 a.To) := by
  intro H e h
  obtain ⟨_, rfl, _⟩ := h
  rfl
theorem lv126_2 {a : Rule} : ∀ H e, rd126 H e a → ∃ w : Sv, e.cells.toList[2]? = some w.v ∧ (RdS 3 rdInt) H w.v a.Map := by
  intro H e h
  obtain ⟨v0, rfl, h0⟩ := h
  exact ⟨v0, rfl, h0⟩
theorem cf76 : CF Try.prog 76 := fun _ _ => Try.call76 _ _
theorem cf122 : CF Try.prog 122 := fun _ _ => Try.call122 _ _
theorem ls157_0 {a : Fact} : ∀ H e, rd157 H e a → e.cells.toList[0]? = some (.int .i64 a.Rel) := by
  intro H e h
  obtain ⟨_, rfl, _⟩ := h
  rfl
theorem lv157_1 {a : Fact} : ∀ H e, rd157 H e a → ∃ w : Sv, e.cells.toList[1]? = some w.v ∧ (RdS 3 rdInt) H w.v a.Values := by
  intro H e h
  obtain ⟨v0, rfl, h0⟩ := h
  exact ⟨v0, rfl, h0⟩
theorem cf77 : CF Try.prog 77 := fun _ _ => Try.call77 _ _
theorem cf123 : CF Try.prog 123 := fun _ _ => Try.call123 _ _
theorem ls159_0 {a : Stored} : ∀ H e, rd159 H e a → e.cells.toList[0]? = some (.int .i64 a.Access.Method) := by
  intro H e h
  obtain ⟨_, _, rfl, _, _⟩ := h
  rfl
theorem lv159_1 {a : Stored} : ∀ H e, rd159 H e a → ∃ w : Sv, e.cells.toList[1]? = some w.v ∧ (RdS 3 rdInt) H w.v a.Access.Values := by
  intro H e h
  obtain ⟨v0, v1, rfl, h0, h1⟩ := h
  exact ⟨v0, rfl, h0⟩
theorem lv159_2 {a : Stored} : ∀ H e, rd159 H e a → ∃ w : Sv, e.cells.toList[2]? = some w.v ∧ (RdS 157 rd157) H w.v a.Facts := by
  intro H e h
  obtain ⟨v0, v1, rfl, h0, h1⟩ := h
  exact ⟨v1, rfl, h1⟩
theorem ls159_3 {a : Stored} : ∀ H e, rd159 H e a → e.cells.toList[3]? = some (.int .i64 a.At) := by
  intro H e h
  obtain ⟨_, _, rfl, _, _⟩ := h
  rfl
theorem cf24 : CF Try.prog 24 := fun _ _ => Try.call24 _ _
theorem ls100_0 {a : Access} : ∀ H e, rd100 H e a → e.cells.toList[0]? = some (.int .i64 a.Method) := by
  intro H e h
  obtain ⟨_, rfl, _⟩ := h
  rfl
theorem lv100_1 {a : Access} : ∀ H e, rd100 H e a → ∃ w : Sv, e.cells.toList[1]? = some w.v ∧ (RdS 3 rdInt) H w.v a.Values := by
  intro H e h
  obtain ⟨v0, rfl, h0⟩ := h
  exact ⟨v0, rfl, h0⟩
theorem cf78 : CF Try.prog 78 := fun _ _ => Try.call78 _ _
theorem cf124 : CF Try.prog 124 := fun _ _ => Try.call124 _ _

/-! laws.toIntS -/
def l_toIntS_L1 : List Int → Nat → (List Int) → Option ((List Int))
  | [], k32, c27 => some c27
  | x34 :: rest33, k32, c27 => (chk (decide (0 ≤ (k32 : Int)) && decide ((k32 : Int) < (c27.length : Int)))).bind fun u46 =>
    (some (c27.set ((k32 : Int)).toNat x34)).bind fun z48 =>
    l_toIntS_L1 rest33 (k32 + 1) z48
def l_toIntS (a_a : List Int) : Option ((List Int)) :=
  (mkz (a_a.length : Int) (0 : Int)).bind fun z1 =>
  l_toIntS_L1 a_a 0 z1
theorem l_toIntS_ok (a_a : List Int) (v0_0 : Sv) (R : (List Int)) (hF : l_toIntS a_a = some R) :
    Fw.Spec Try.prog 28 [v0_0.v] [crd (RdS 3 rdInt) v0_0.v a_a] (fun p : Sv × List Nat => p.1.v) (fun p => [cown (OwnS 3 (roE rdInt)) p.2 p.1.v R]) := by
  refine Spec_enter (n := 22) Try.func28 rfl rfl (rs := [.tmp 2]) rfl rfl rfl ?_
  intro H0 F0
  unfold l_toIntS at hF
  refine K_region ?_
  refine C_val (V_assign (v := (.slice none 0 0)) EV.nilSlice) ?_
  refine C_nil ?_
  refine K_region ?_
  refine C_val (V_move (v := v0_0.v) (.tmp rfl rfl)) ?_
  refine C_at .h (fun hp => V_lenR (l := a_a.length) sl45 (.tmp rfl rfl) (crd_len hp)) ?_
  obtain ⟨z1, hx2, hF⟩ := bind_some hF
  have hm3 := mkz_some hx2
  refine C_new rfl (N_makeSlice (g := true) (c := (a_a.length : Int)) sl45 ty3 rfl rfl (by decide) (.tmp rfl rfl) hm3.2.1 hm3.2.2) (fun k4 => ?_)
  refine C_conv (.cons .h .nil) (own_make (Ro := (roE rdInt)) (E := 3) (a := (0 : Int)) hx2 (fun _ => ⟨rfl, rfl⟩)) apps ?_
  refine C_val (V_assign (v := (.slice (some ⟨k4, 0, none⟩) (a_a.length : Int).toNat 1)) (.tmp rfl rfl)) ?_
  refine C_nil ?_
  refine K_in ?_
  refine K_region ?_
  refine C_val (V_assign (v := (.int .i64 0)) (.int _ _)) ?_
  refine C_nil ?_
  refine CW_block ?_
  refine CW_loop (m := a_a.length) (fun m30 f' cs' => ∃ (g : Fr) (k32 : Nat) (rest33 : List Int) (c27 : List Int) (F28 : List Nat), m30 = rest33.length ∧ f' = updL g [(0, v0_0.v), (3, (.slice (some ⟨k4, 0, none⟩) (a_a.length : Int).toNat 1)), (4, (.int .i64 (k32 : Int)))] ∧ List.drop k32 a_a = rest33 ∧ Ent cs' [crd (RdS 3 rdInt) v0_0.v a_a, cown (OwnS 3 (roE rdInt)) F28 (.slice (some ⟨k4, 0, none⟩) (a_a.length : Int).toNat 1) c27] ∧ l_toIntS_L1 rest33 k32 c27 = some R) ⟨_, 0, _, _, [k4], rfl, (EqL.cons rfl (EqL.cons rfl (EqL.cons rfl (EqL.nil)))).eq, rfl, (.sel (.rd (.t .h) rfl (.cons .h .nil))), hF⟩ ?_
  clear hF
  rintro m30 _ _ ⟨g31, k32, rest33, c27, F28, rfl, rfl, hd35, hE, hF⟩
  refine K_ent hE ?_
  clear hE
  refine K_pure (c := crd (RdS 3 rdInt) v0_0.v a_a) .h crd_bound (fun hbd40 => ?_)
  rcases rest33 with _ | ⟨x34, rest33⟩
  · have hk36 := List.drop_eq_nil_iff.1 hd35
    have hfe39 : (decide (((k32 : Int) : Int) < (a_a.length : Int))) = false := decide_eq_false (by omega)
    rw [l_toIntS_L1] at hF
    refine K_in ?_
    refine K_region ?_
    refine C_val (V_move (v := (.int .i64 (k32 : Int))) (.tmp rfl rfl)) ?_
    refine C_val (V_move (v := v0_0.v) (.tmp rfl rfl)) ?_
    refine C_at .h (fun hp => V_lenR (l := a_a.length) sl45 (.tmp rfl rfl) (crd_len hp)) ?_
    refine C_val (V_lss (i := (k32 : Int)) (j := (a_a.length : Int)) (.tmp rfl rfl) (.tmp rfl rfl)) ?_
    refine C_nil ?_
    refine CW_cond (b := (decide (((k32 : Int) : Int) < (a_a.length : Int)))) (.tmp rfl rfl) (fun hb => absurd (hfe39.symm.trans hb) (by decide)) (fun _ => ?_)
    refine CW_exit ?_
    refine CThen_exit ?_
    refine CThen_exit ?_
    refine CIn_self ?_
    refine K_region ?_
    refine C_val (V_move (v := (.slice (some ⟨k4, 0, none⟩) (a_a.length : Int).toNat 1)) (.tmp rfl rfl)) ?_
    refine C_val (V_assign (v := (.slice (some ⟨k4, 0, none⟩) (a_a.length : Int).toNat 1)) (.tmp rfl rfl)) ?_
    refine C_nil ?_
    refine CW_ret ?_
    obtain rfl := Option.some.inj hF
    exact End_ret (⟨(some ⟨k4, 0, none⟩), (a_a.length : Int).toNat, 1⟩, F28) (.tmp rfl rfl .nil) rfl (.sel (.cons (.t .h) .nil))
  obtain ⟨hk36, hx37, hd38⟩ := drop_cons hd35
  have hfe39 : (decide (((k32 : Int) : Int) < (a_a.length : Int))) = true := decide_eq_true (by omega)
  rw [l_toIntS_L1] at hF
  refine K_in ?_
  refine K_region ?_
  refine C_val (V_move (v := (.int .i64 (k32 : Int))) (.tmp rfl rfl)) ?_
  refine C_val (V_move (v := v0_0.v) (.tmp rfl rfl)) ?_
  refine C_at .h (fun hp => V_lenR (l := a_a.length) sl45 (.tmp rfl rfl) (crd_len hp)) ?_
  refine C_val (V_lss (i := (k32 : Int)) (j := (a_a.length : Int)) (.tmp rfl rfl) (.tmp rfl rfl)) ?_
  refine C_nil ?_
  refine CW_cond (b := (decide (((k32 : Int) : Int) < (a_a.length : Int)))) (.tmp rfl rfl) (fun _ => ?_) (fun hb => absurd (hfe39.symm.trans hb) (by decide))
  refine CW_skip ?_
  refine K_block ?_
  refine CW_region ?_
  refine C_val (V_move (v := (.slice (some ⟨k4, 0, none⟩) (a_a.length : Int).toNat 1)) (.tmp rfl rfl)) ?_
  refine C_val (V_move (v := (.int .i64 (k32 : Int))) (.tmp rfl rfl)) ?_
  refine C_val (V_move (v := v0_0.v) (.tmp rfl rfl)) ?_
  refine C_val (V_move (v := (.int .i64 (k32 : Int))) (.tmp rfl rfl)) ?_
  refine C_idx (a := x34) sl45 ty3.sz (.tmp rfl rfl) (.tmp rfl rfl) .h (Int.natCast_nonneg k32) hx37 (fun k41 j42 => ?_)
  refine C_ldS (w := (.int .i64 x34)) ag3 (.tmp rfl rfl) .h ls3_0 ?_
  obtain ⟨u46, hx47, hF⟩ := bind_some hF
  have hi45 := chk_some hx47
  refine C_idxO sl45 ty3.sz (.tmp rfl rfl) (.tmp rfl rfl) (.t (.t .h)) hi45 (fun k43 hk44 => ?_)
  obtain ⟨z48, hx49, hF⟩ := bind_some hF
  replace hx49 := Option.some.inj hx49
  refine C_x1 (.cons (.t (.t .h)) .nil) (X_storeO (Ro := (roE rdInt)) (a := x34) (i := (k32 : Int)) ty3.sz rfl (.tmp rfl rfl) (.tmp rfl rfl) hk44 hi45 (Mk_pure (fun _ => rfl)) (fun _ _ _ _ h => by obtain ⟨-, h⟩ := h; cases h; rfl)) (fun F50 => ?_)
  rw [hx49]
  refine C_nil ?_
  refine CW_region ?_
  refine C_val (V_move (v := (.int .i64 (k32 : Int))) (.tmp rfl rfl)) ?_
  refine C_val (V_add (i := (k32 : Int)) (j := 1) (.tmp rfl rfl) (.int _ _)) ?_
  refine C_val (V_assign (v := (.int .i64 (IntKind.i64.wrap ((k32 : Int) + 1)))) (.tmp rfl rfl)) ?_
  refine C_nil ?_
  have hw51 : IntKind.i64.wrap ((k32 : Int) + 1) = ((k32 + 1 : Nat) : Int) := by rw [wrap_in (by omega) (by omega)]; rfl
  rw [hw51]
  exact ⟨_, Nat.lt_succ_self _, _, k32 + 1, rest33, _, F50, rfl, (EqL.cons rfl (EqL.cons rfl (EqL.cons rfl (EqL.nil)))).eq, hd38, (.sel (.rd (.t (.t .h)) rfl (.cons .h .nil))), hF⟩

/-! spec.l1In -/
def s_l1In (a_x : Int) (a_low : Int) (a_high : Int) : Option (Bool) :=
  some ((decide ((a_low : Int) ≤ a_x)) && (decide ((a_x : Int) ≤ a_high)))
theorem s_l1In_ok (a_x : Int) (a_low : Int) (a_high : Int) (R : Bool) (hF : s_l1In a_x a_low a_high = some R) :
    Fw.Spec Try.prog 51 [(.int .i64 a_x), (.int .i64 a_low), (.int .i64 a_high)] [] (fun _ : Unit => (.bool R)) (fun _ => []) := by
  refine Spec_enter (n := 15) Try.func51 rfl rfl (rs := [.tmp 6]) rfl rfl rfl ?_
  intro H0 F0
  unfold s_l1In at hF
  refine K_region ?_
  refine C_val (V_assign (v := (.bool false)) (.bool _)) ?_
  refine C_nil ?_
  refine K_region ?_
  refine C_cut (fun f' cs' => ∃ (g : Fr), f' = updL g [(6, (.bool ((decide ((a_low : Int) ≤ a_x)) && (decide ((a_x : Int) ≤ a_high)))))] ∧ Ent cs' []) ?_ ?_
  · refine C_val (V_move (v := (.int .i64 a_x)) (.tmp rfl rfl)) ?_
    refine C_val (V_move (v := (.int .i64 a_low)) (.tmp rfl rfl)) ?_
    refine C_val (V_geq (i := a_x) (j := a_low) (.tmp rfl rfl) (.tmp rfl rfl)) ?_
    refine C_val (V_move (v := (.bool (decide ((a_low : Int) ≤ a_x)))) (.tmp rfl rfl)) ?_
    rcases Bool.eq_false_or_eq_true (decide ((a_low : Int) ≤ a_x)) with hg1 | hg1
    · rw [hg1]
      try rw [hg1] at hF; dsimp only [cond_true, cond_false] at hF
      refine C_on (t := 10) rfl rfl rfl ?_
      refine C_val (V_move (v := (.int .i64 a_x)) (.tmp rfl rfl)) ?_
      refine C_on (t := 10) rfl rfl rfl ?_
      refine C_val (V_move (v := (.int .i64 a_high)) (.tmp rfl rfl)) ?_
      refine C_on (t := 10) rfl rfl rfl ?_
      refine C_val (V_leq (i := a_x) (j := a_high) (.tmp rfl rfl) (.tmp rfl rfl)) ?_
      refine C_val (V_pick (b := true) (u := (.bool (decide ((a_x : Int) ≤ a_high)))) (v := (.bool false)) (.tmp rfl rfl) (.tmp rfl rfl) (.bool _)) ?_
      refine C_val (V_assign (v := (.bool (decide ((a_x : Int) ≤ a_high)))) (.tmp rfl rfl)) ?_
      refine C_nil ?_
      exact ⟨_, (EqL.cons rfl (EqL.nil)).eq, (.sel .nil)⟩
    rw [hg1]
    try rw [hg1] at hF; dsimp only [cond_true, cond_false] at hF
    refine C_off (t := 10) rfl rfl rfl ?_
    refine C_off (t := 10) rfl rfl rfl ?_
    refine C_off (t := 10) rfl rfl rfl ?_
    refine C_val (V_pick (b := false) (u := undef) (v := (.bool false)) (.tmp rfl rfl) (.tmp rfl rfl) (.bool _)) ?_
    refine C_val (V_assign (v := (.bool false)) (.tmp rfl rfl)) ?_
    refine C_nil ?_
    exact ⟨_, (EqL.cons rfl (EqL.nil)).eq, (.sel .nil)⟩
  rintro _ _ ⟨g2, rfl, hE⟩
  refine K_ent hE ?_
  refine CW_ret ?_
  obtain rfl := Option.some.inj hF
  exact End_ret () (.tmp rfl rfl .nil) rfl (.sel .nil)

/-! spec.IsSchema -/
def s_IsSchema_L1 (a_s : List Int) : List Int → Nat → Option (Bool)
  | [], k4 => (s_l1In (a_s.length : Int) 1 3).bind fun r13 =>
    some r13
  | x6 :: rest5, k4 => (s_l1In x6 1 3).bind fun r18 =>
    if (!r18) then (
      some false)
    else (
      s_IsSchema_L1 a_s rest5 (k4 + 1))
def s_IsSchema (a_s : List Int) : Option (Bool) :=
  s_IsSchema_L1 a_s a_s 0
theorem s_IsSchema_ok (a_s : List Int) (v0_0 : Sv) (R : Bool) (hF : s_IsSchema a_s = some R) :
    Fw.Spec Try.prog 63 [v0_0.v] [crd (RdS 3 rdInt) v0_0.v a_s] (fun _ : Unit => (.bool R)) (fun _ => []) := by
  refine Spec_enter (n := 19) Try.func63 rfl rfl (rs := [.tmp 2]) rfl rfl rfl ?_
  intro H0 F0
  unfold s_IsSchema at hF
  refine K_region ?_
  refine C_val (V_assign (v := (.bool false)) (.bool _)) ?_
  refine C_nil ?_
  refine K_in ?_
  refine K_region ?_
  refine C_val (V_assign (v := (.int .i64 0)) (.int _ _)) ?_
  refine C_nil ?_
  refine CW_block ?_
  refine CW_loop (m := a_s.length) (fun m2 f' cs' => ∃ (g : Fr) (k4 : Nat) (rest5 : List Int), m2 = rest5.length ∧ f' = updL g [(0, v0_0.v), (3, (.int .i64 (k4 : Int)))] ∧ List.drop k4 a_s = rest5 ∧ Ent cs' [crd (RdS 3 rdInt) v0_0.v a_s] ∧ s_IsSchema_L1 a_s rest5 k4 = some R) ⟨_, 0, _, rfl, (EqL.cons rfl (EqL.cons rfl (EqL.nil))).eq, rfl, (.sel (.rd .h rfl .nil)), hF⟩ ?_
  clear hF
  rintro m2 _ _ ⟨g3, k4, rest5, rfl, rfl, hd7, hE, hF⟩
  refine K_ent hE ?_
  clear hE
  refine K_pure (c := crd (RdS 3 rdInt) v0_0.v a_s) .h crd_bound (fun hbd12 => ?_)
  rcases rest5 with _ | ⟨x6, rest5⟩
  · have hk8 := List.drop_eq_nil_iff.1 hd7
    have hfe11 : (decide (((k4 : Int) : Int) < (a_s.length : Int))) = false := decide_eq_false (by omega)
    rw [s_IsSchema_L1] at hF
    refine K_in ?_
    refine K_region ?_
    refine C_val (V_move (v := (.int .i64 (k4 : Int))) (.tmp rfl rfl)) ?_
    refine C_val (V_move (v := v0_0.v) (.tmp rfl rfl)) ?_
    refine C_at .h (fun hp => V_lenR (l := a_s.length) sl45 (.tmp rfl rfl) (crd_len hp)) ?_
    refine C_val (V_lss (i := (k4 : Int)) (j := (a_s.length : Int)) (.tmp rfl rfl) (.tmp rfl rfl)) ?_
    refine C_nil ?_
    refine CW_cond (b := (decide (((k4 : Int) : Int) < (a_s.length : Int)))) (.tmp rfl rfl) (fun hb => absurd (hfe11.symm.trans hb) (by decide)) (fun _ => ?_)
    refine CW_exit ?_
    refine CThen_exit ?_
    refine CThen_exit ?_
    refine CIn_self ?_
    refine K_region ?_
    refine C_val (V_move (v := v0_0.v) (.tmp rfl rfl)) ?_
    refine C_at .h (fun hp => V_lenR (l := a_s.length) sl45 (.tmp rfl rfl) (crd_len hp)) ?_
    obtain ⟨r13, hx14, hF⟩ := bind_some hF
    refine C_x0 .nil (X_callS cf51 (.cons (.tmp rfl rfl) (.cons (.int _ _) (.cons (.int _ _) .nil))) (s_l1In_ok (a_s.length : Int) 1 3 _ hx14)) (fun _ => ?_)
    refine C_val (V_assign (v := (.bool r13)) (.tmp rfl rfl)) ?_
    refine C_nil ?_
    refine CW_ret ?_
    obtain rfl := Option.some.inj hF
    exact End_ret () (.tmp rfl rfl .nil) rfl (.sel .nil)
  obtain ⟨hk8, hx9, hd10⟩ := drop_cons hd7
  have hfe11 : (decide (((k4 : Int) : Int) < (a_s.length : Int))) = true := decide_eq_true (by omega)
  rw [s_IsSchema_L1] at hF
  refine K_in ?_
  refine K_region ?_
  refine C_val (V_move (v := (.int .i64 (k4 : Int))) (.tmp rfl rfl)) ?_
  refine C_val (V_move (v := v0_0.v) (.tmp rfl rfl)) ?_
  refine C_at .h (fun hp => V_lenR (l := a_s.length) sl45 (.tmp rfl rfl) (crd_len hp)) ?_
  refine C_val (V_lss (i := (k4 : Int)) (j := (a_s.length : Int)) (.tmp rfl rfl) (.tmp rfl rfl)) ?_
  refine C_nil ?_
  refine CW_cond (b := (decide (((k4 : Int) : Int) < (a_s.length : Int)))) (.tmp rfl rfl) (fun _ => ?_) (fun hb => absurd (hfe11.symm.trans hb) (by decide))
  refine CW_skip ?_
  refine K_block ?_
  refine K_region ?_
  refine C_val (V_move (v := v0_0.v) (.tmp rfl rfl)) ?_
  refine C_val (V_move (v := (.int .i64 (k4 : Int))) (.tmp rfl rfl)) ?_
  refine C_idx (a := x6) sl45 ty3.sz (.tmp rfl rfl) (.tmp rfl rfl) .h (Int.natCast_nonneg k4) hx9 (fun k16 j17 => ?_)
  refine C_ldS (w := (.int .i64 x6)) ag3 (.tmp rfl rfl) .h ls3_0 ?_
  obtain ⟨r18, hx19, hF⟩ := bind_some hF
  refine C_x0 .nil (X_callS cf51 (.cons (.tmp rfl rfl) (.cons (.int _ _) (.cons (.int _ _) .nil))) (s_l1In_ok x6 1 3 _ hx19)) (fun _ => ?_)
  refine C_val (V_not (b := r18) (.tmp rfl rfl)) ?_
  refine C_nil ?_
  refine CW_cond (b := (!r18)) (.tmp rfl rfl) (fun hb22 => ?_) (fun hb22 => ?_)
  · rw [if_pos hb22] at hF
    refine K_region ?_
    refine C_val (V_assign (v := (.bool false)) (.bool _)) ?_
    refine C_nil ?_
    refine CW_ret ?_
    obtain rfl := Option.some.inj hF
    exact End_ret () (.tmp rfl rfl .nil) rfl (.sel .nil)
  rw [if_neg (by rw [hb22]; exact Bool.false_ne_true)] at hF
  refine CW_skip ?_
  refine CW_region ?_
  refine C_val (V_move (v := (.int .i64 (k4 : Int))) (.tmp rfl rfl)) ?_
  refine C_val (V_add (i := (k4 : Int)) (j := 1) (.tmp rfl rfl) (.int _ _)) ?_
  refine C_val (V_assign (v := (.int .i64 (IntKind.i64.wrap ((k4 : Int) + 1)))) (.tmp rfl rfl)) ?_
  refine C_nil ?_
  have hw21 : IntKind.i64.wrap ((k4 : Int) + 1) = ((k4 + 1 : Nat) : Int) := by rw [wrap_in (by omega) (by omega)]; rfl
  rw [hw21]
  exact ⟨_, Nat.lt_succ_self _, _, k4 + 1, rest5, rfl, (EqL.cons rfl (EqL.cons rfl (EqL.nil))).eq, hd10, (.sel (.rd (.t .h) rfl .nil)), hF⟩

/-! spec.NewMediator -/
def s_NewMediator (a_s : List Int) (a_age : Int) : Option (Mediator × Bool) :=
  ((s_IsSchema a_s).bind fun r4 =>
    bif (!r4) then (some true)
    else ((s_l1In a_age 0 100).bind fun r8 =>
      some (!r8))).bind fun o2 =>
  match o2 with
  | c11 => if c11 then (
      some (({ Schema := [], Methods := [], Rules := [], Source := ({ Facts := [], Version := 0 } : Source), Cache := ({ Entries := [], Age := 0 } : Cache), Now := 0, Log := [], Times := [], Spent := 0, Results := [] } : Mediator), false))
    else (
      (app ([] : List Int) a_s).bind fun z13 =>
      some (({ Schema := z13, Methods := [], Rules := [], Source := ({ Facts := [], Version := 0 } : Source), Cache := ({ Entries := [], Age := a_age } : Cache), Now := 0, Log := [], Times := [], Spent := 0, Results := [] } : Mediator), true))
theorem s_NewMediator_ok (a_s : List Int) (v0_0 : Sv) (a_age : Int) (R : Mediator × Bool) (hF : s_NewMediator a_s a_age = some R) :
    Fw.Spec Try.prog 27 [v0_0.v, (.int .i64 a_age)] [crd (RdS 3 rdInt) v0_0.v a_s] (fun p : Sv × List Nat × Sv × List Nat × Sv × List Nat × Sv × List Nat × Sv × List Nat × Sv × List Nat × Sv × List Nat × Sv × List Nat => (.tuple [(.agg [p.1.v, p.2.2.1.v, p.2.2.2.2.1.v, p.2.2.2.2.2.2.1.v, (.int .i64 R.1.Source.Version), p.2.2.2.2.2.2.2.2.1.v, (.int .i64 R.1.Cache.Age), (.int .i64 R.1.Now), p.2.2.2.2.2.2.2.2.2.2.1.v, p.2.2.2.2.2.2.2.2.2.2.2.2.1.v, (.int .i64 R.1.Spent), p.2.2.2.2.2.2.2.2.2.2.2.2.2.2.1.v].toArray), (.bool R.2)].toArray)) (fun p => [cown (OwnS 3 (roE rdInt)) p.2.1 p.1.v R.1.Schema, cown (OwnS 101 ow101) p.2.2.2.1 p.2.2.1.v R.1.Methods, cown (OwnS 126 ow126) p.2.2.2.2.2.1 p.2.2.2.2.1.v R.1.Rules, cown (OwnS 157 ow157) p.2.2.2.2.2.2.2.1 p.2.2.2.2.2.2.1.v R.1.Source.Facts, cown (OwnS 159 ow159) p.2.2.2.2.2.2.2.2.2.1 p.2.2.2.2.2.2.2.2.1.v R.1.Cache.Entries, cown (OwnS 100 ow100) p.2.2.2.2.2.2.2.2.2.2.2.1 p.2.2.2.2.2.2.2.2.2.2.1.v R.1.Log, cown (OwnS 3 (roE rdInt)) p.2.2.2.2.2.2.2.2.2.2.2.2.2.1 p.2.2.2.2.2.2.2.2.2.2.2.2.1.v R.1.Times, cown (OwnS 128 (OwnS 45 (OwnS 3 (roE rdInt)))) p.2.2.2.2.2.2.2.2.2.2.2.2.2.2.2 p.2.2.2.2.2.2.2.2.2.2.2.2.2.2.1.v R.1.Results]) := by
  refine Spec_enter (n := 21) Try.func27 rfl rfl (rs := [.cell 4 55, .tmp 5]) rfl rfl rfl ?_
  intro H0 F0
  unfold s_NewMediator at hF
  refine K_region ?_
  refine C_new rfl (N_allocT (g := true) ty55 rfl rfl) (fun k1 => ?_)
  refine C_val (V_assign (v := (.bool false)) (.bool _)) ?_
  refine C_nil ?_
  refine K_in ?_
  obtain ⟨o2, hio2, hO3⟩ := bind_some hF
  refine K_region ?_
  refine C_cut (fun f' cs' => ∃ (c11 : Bool) (g : Fr), c11 = o2 ∧ f' = updL g [(0, v0_0.v), (1, (.int .i64 a_age)), (4, (.pointer (some ⟨k1, 0, some 0⟩))), (13, (.bool c11))] ∧ Ent cs' [crd (RdS 3 rdInt) v0_0.v a_s, cbox k1 55 (.agg [(.slice none 0 0), (.slice none 0 0), (.slice none 0 0), (.slice none 0 0), (.int .i64 0), (.slice none 0 0), (.int .i64 0), (.int .i64 0), (.slice none 0 0), (.slice none 0 0), (.int .i64 0), (.slice none 0 0)].toArray)]) ?_ ?_
  · replace hF := hio2
    refine C_val (V_move (v := v0_0.v) (.tmp rfl rfl)) ?_
    obtain ⟨r4, hx5, hF⟩ := bind_some hF
    refine C_x0 (.rd (.t .h) rfl .nil) (X_callS cf63 (.cons (.tmp rfl rfl) .nil) (s_IsSchema_ok a_s v0_0 _ hx5)) (fun _ => ?_)
    refine C_val (V_not (b := r4) (.tmp rfl rfl)) ?_
    refine C_val (V_move (v := (.bool (!r4))) (.tmp rfl rfl)) ?_
    rcases Bool.eq_false_or_eq_true (!r4) with hg7 | hg7
    · rw [hg7]
      try rw [hg7] at hF; dsimp only [cond_true, cond_false] at hF
      refine C_off (t := 9) rfl rfl rfl ?_
      refine C_off (t := 9) rfl rfl rfl ?_
      refine C_off (t := 9) rfl rfl rfl ?_
      refine C_val (V_pick (b := true) (u := (.bool true)) (v := undef) (.tmp rfl rfl) (.bool _) (.tmp rfl rfl)) ?_
      refine C_nil ?_
      obtain rfl := Option.some.inj hF
      exact ⟨_, _, rfl, (EqL.cons rfl (EqL.cons rfl (EqL.cons rfl (EqL.cons rfl (EqL.nil))))).eq, (.sel (.rd (.t .h) rfl (.cons .h .nil)))⟩
    rw [hg7]
    try rw [hg7] at hF; dsimp only [cond_true, cond_false] at hF
    refine C_on (t := 9) rfl rfl rfl ?_
    refine C_val (V_move (v := (.int .i64 a_age)) (.tmp rfl rfl)) ?_
    refine C_on (t := 9) rfl rfl rfl ?_
    obtain ⟨r8, hx9, hF⟩ := bind_some hF
    refine C_x0 .nil (X_callS cf51 (.cons (.tmp rfl rfl) (.cons (.int _ _) (.cons (.int _ _) .nil))) (s_l1In_ok a_age 0 100 _ hx9)) (fun _ => ?_)
    refine C_on (t := 9) rfl rfl rfl ?_
    refine C_val (V_not (b := r8) (.tmp rfl rfl)) ?_
    refine C_val (V_pick (b := false) (u := (.bool true)) (v := (.bool (!r8))) (.tmp rfl rfl) (.bool _) (.tmp rfl rfl)) ?_
    refine C_nil ?_
    obtain rfl := Option.some.inj hF
    exact ⟨_, _, rfl, (EqL.cons rfl (EqL.cons rfl (EqL.cons rfl (EqL.cons rfl (EqL.nil))))).eq, (.sel (.rd (.t .h) rfl (.cons .h .nil)))⟩
  rintro _ _ ⟨c11, g17, rfl, rfl, hE⟩
  replace hF := hO3
  clear hO3
  try dsimp only at hF
  refine K_ent hE ?_
  refine CW_cond (b := c11) (.tmp rfl rfl) (fun hb16 => ?_) (fun hb16 => ?_)
  · rw [if_pos hb16] at hF
    refine K_region ?_
    refine C_val (V_build ty55 rfl (vs := []) .nil (cells := [(.slice none 0 0), (.slice none 0 0), (.slice none 0 0), (.slice none 0 0), (.int .i64 0), (.slice none 0 0), (.int .i64 0), (.int .i64 0), (.slice none 0 0), (.slice none 0 0), (.int .i64 0), (.slice none 0 0)]) rfl) ?_
    refine C_x1 (.cons (.t .h) .nil) (X_storeB (e := (.agg [(.slice none 0 0), (.slice none 0 0), (.slice none 0 0), (.slice none 0 0), (.int .i64 0), (.slice none 0 0), (.int .i64 0), (.int .i64 0), (.slice none 0 0), (.slice none 0 0), (.int .i64 0), (.slice none 0 0)].toArray)) (e' := (.agg [(.slice none 0 0), (.slice none 0 0), (.slice none 0 0), (.slice none 0 0), (.int .i64 0), (.slice none 0 0), (.int .i64 0), (.int .i64 0), (.slice none 0 0), (.slice none 0 0), (.int .i64 0), (.slice none 0 0)].toArray)) (v := (.agg [(.slice none 0 0), (.slice none 0 0), (.slice none 0 0), (.slice none 0 0), (.int .i64 0), (.slice none 0 0), (.int .i64 0), (.int .i64 0), (.slice none 0 0), (.slice none 0 0), (.int .i64 0), (.slice none 0 0)].toArray)) ty55.sz (.tmp rfl rfl) (.tmp rfl rfl) rfl rfl rfl rfl rfl) (fun _ => ?_)
    refine C_val (V_assign (v := (.bool false)) (.bool _)) ?_
    refine C_nil ?_
    refine CW_ret ?_
    obtain rfl := Option.some.inj hF
    exact End_ret (⟨none, 0, 0⟩, [], ⟨none, 0, 0⟩, [], ⟨none, 0, 0⟩, [], ⟨none, 0, 0⟩, [], ⟨none, 0, 0⟩, [], ⟨none, 0, 0⟩, [], ⟨none, 0, 0⟩, [], ⟨none, 0, 0⟩, []) (.cellA rfl rfl .h rfl ag55 ty55.sz rfl rfl (.tmp rfl rfl .nil)) rfl (.conv .nil (own_nil (Ro := (roE rdInt)) (E := 3)) (.cons .nil) (.conv .nil (own_nil (Ro := ow101) (E := 101)) (.cons .nil) (.conv .nil (own_nil (Ro := ow126) (E := 126)) (.cons .nil) (.conv .nil (own_nil (Ro := ow157) (E := 157)) (.cons .nil) (.conv .nil (own_nil (Ro := ow159) (E := 159)) (.cons .nil) (.conv .nil (own_nil (Ro := ow100) (E := 100)) (.cons .nil) (.conv .nil (own_nil (Ro := (roE rdInt)) (E := 3)) (.cons .nil) (.conv .nil (own_nil (Ro := (OwnS 45 (OwnS 3 (roE rdInt)))) (E := 128)) (.cons .nil) (.sel (.cons (.t (.t (.t (.t (.t (.t (.t .h))))))) (.cons (.t (.t (.t (.t (.t (.t .h)))))) (.cons (.t (.t (.t (.t (.t .h))))) (.cons (.t (.t (.t (.t .h)))) (.cons (.t (.t (.t .h))) (.cons (.t (.t .h)) (.cons (.t .h) (.cons .h .nil)))))))))))))))))
  rw [if_neg (by rw [hb16]; exact Bool.false_ne_true)] at hF
  refine CW_skip ?_
  refine K_region ?_
  refine C_new rfl (N_buildSliceT (g := true) sl45 ty3 .nil (vs := []) rfl rfl rfl (by simp)) (fun k12 => ?_)
  refine C_conv (.cons .h .nil) (own_lit (Ro := (roE rdInt)) (E := 3) (F := []) (xs := ([] : List Int)) MkL_nil rfl rfl) apps ?_
  refine C_val (V_move (v := v0_0.v) (.tmp rfl rfl)) ?_
  obtain ⟨z13, hx14, hF⟩ := bind_some hF
  refine C_x1 (.cons .h (.rd .h rfl .nil)) (X_appendO (Ro := (roE rdInt)) sl45 ni45 ty3 rfl rfl rfl (.tmp rfl rfl) (.tmp rfl rfl) hx14 src_rd) (fun p15 => ?_)
  refine C_val (V_move (v := (.int .i64 a_age)) (.tmp rfl rfl)) ?_
  refine C_val (V_build ty52 rfl (vs := [(.int .i64 a_age)]) (.cons (.tmp rfl rfl) .nil) (cells := [(.slice none 0 0), (.int .i64 a_age)]) rfl) ?_
  refine C_val (V_build ty55 rfl (vs := [p15.1.v, (.agg [(.slice none 0 0), (.int .i64 a_age)].toArray)]) (.cons (.tmp rfl rfl) (.cons (.tmp rfl rfl) .nil)) (cells := [p15.1.v, (.slice none 0 0), (.slice none 0 0), (.slice none 0 0), (.int .i64 0), (.slice none 0 0), (.int .i64 a_age), (.int .i64 0), (.slice none 0 0), (.slice none 0 0), (.int .i64 0), (.slice none 0 0)]) rfl) ?_
  refine C_x1 (.cons (.t (.t .h)) .nil) (X_storeB (e := (.agg [(.slice none 0 0), (.slice none 0 0), (.slice none 0 0), (.slice none 0 0), (.int .i64 0), (.slice none 0 0), (.int .i64 0), (.int .i64 0), (.slice none 0 0), (.slice none 0 0), (.int .i64 0), (.slice none 0 0)].toArray)) (e' := (.agg [p15.1.v, (.slice none 0 0), (.slice none 0 0), (.slice none 0 0), (.int .i64 0), (.slice none 0 0), (.int .i64 a_age), (.int .i64 0), (.slice none 0 0), (.slice none 0 0), (.int .i64 0), (.slice none 0 0)].toArray)) (v := (.agg [p15.1.v, (.slice none 0 0), (.slice none 0 0), (.slice none 0 0), (.int .i64 0), (.slice none 0 0), (.int .i64 a_age), (.int .i64 0), (.slice none 0 0), (.slice none 0 0), (.int .i64 0), (.slice none 0 0)].toArray)) ty55.sz (.tmp rfl rfl) (.tmp rfl rfl) rfl rfl rfl rfl rfl) (fun _ => ?_)
  refine C_val (V_assign (v := (.bool true)) (.bool _)) ?_
  refine C_nil ?_
  refine CW_ret ?_
  obtain rfl := Option.some.inj hF
  exact End_ret (p15.1, p15.2, ⟨none, 0, 0⟩, [], ⟨none, 0, 0⟩, [], ⟨none, 0, 0⟩, [], ⟨none, 0, 0⟩, [], ⟨none, 0, 0⟩, [], ⟨none, 0, 0⟩, [], ⟨none, 0, 0⟩, []) (.cellA rfl rfl .h rfl ag55 ty55.sz rfl rfl (.tmp rfl rfl .nil)) rfl (.conv .nil (own_nil (Ro := ow101) (E := 101)) (.cons .nil) (.conv .nil (own_nil (Ro := ow126) (E := 126)) (.cons .nil) (.conv .nil (own_nil (Ro := ow157) (E := 157)) (.cons .nil) (.conv .nil (own_nil (Ro := ow159) (E := 159)) (.cons .nil) (.conv .nil (own_nil (Ro := ow100) (E := 100)) (.cons .nil) (.conv .nil (own_nil (Ro := (roE rdInt)) (E := 3)) (.cons .nil) (.conv .nil (own_nil (Ro := (OwnS 45 (OwnS 3 (roE rdInt)))) (E := 128)) (.cons .nil) (.sel (.cons (.t (.t (.t (.t (.t (.t (.t (.t .h)))))))) (.cons (.t (.t (.t (.t (.t (.t .h)))))) (.cons (.t (.t (.t (.t (.t .h))))) (.cons (.t (.t (.t (.t .h)))) (.cons (.t (.t (.t .h))) (.cons (.t (.t .h)) (.cons (.t .h) (.cons .h .nil))))))))))))))))

/-! impl.within -/
def i_within (a_n : Int) (a_low : Int) (a_high : Int) : Option (Bool) :=
  some ((decide ((a_low : Int) ≤ a_n)) && (decide ((a_n : Int) ≤ a_high)))
theorem i_within_ok (a_n : Int) (a_low : Int) (a_high : Int) (R : Bool) (hF : i_within a_n a_low a_high = some R) :
    Fw.Spec Try.prog 58 [(.int .i64 a_n), (.int .i64 a_low), (.int .i64 a_high)] [] (fun _ : Unit => (.bool R)) (fun _ => []) := by
  refine Spec_enter (n := 15) Try.func58 rfl rfl (rs := [.tmp 6]) rfl rfl rfl ?_
  intro H0 F0
  unfold i_within at hF
  refine K_region ?_
  refine C_val (V_assign (v := (.bool false)) (.bool _)) ?_
  refine C_nil ?_
  refine K_region ?_
  refine C_cut (fun f' cs' => ∃ (g : Fr), f' = updL g [(6, (.bool ((decide ((a_low : Int) ≤ a_n)) && (decide ((a_n : Int) ≤ a_high)))))] ∧ Ent cs' []) ?_ ?_
  · refine C_val (V_move (v := (.int .i64 a_n)) (.tmp rfl rfl)) ?_
    refine C_val (V_move (v := (.int .i64 a_low)) (.tmp rfl rfl)) ?_
    refine C_val (V_geq (i := a_n) (j := a_low) (.tmp rfl rfl) (.tmp rfl rfl)) ?_
    refine C_val (V_move (v := (.bool (decide ((a_low : Int) ≤ a_n)))) (.tmp rfl rfl)) ?_
    rcases Bool.eq_false_or_eq_true (decide ((a_low : Int) ≤ a_n)) with hg1 | hg1
    · rw [hg1]
      try rw [hg1] at hF; dsimp only [cond_true, cond_false] at hF
      refine C_on (t := 10) rfl rfl rfl ?_
      refine C_val (V_move (v := (.int .i64 a_n)) (.tmp rfl rfl)) ?_
      refine C_on (t := 10) rfl rfl rfl ?_
      refine C_val (V_move (v := (.int .i64 a_high)) (.tmp rfl rfl)) ?_
      refine C_on (t := 10) rfl rfl rfl ?_
      refine C_val (V_leq (i := a_n) (j := a_high) (.tmp rfl rfl) (.tmp rfl rfl)) ?_
      refine C_val (V_pick (b := true) (u := (.bool (decide ((a_n : Int) ≤ a_high)))) (v := (.bool false)) (.tmp rfl rfl) (.tmp rfl rfl) (.bool _)) ?_
      refine C_val (V_assign (v := (.bool (decide ((a_n : Int) ≤ a_high)))) (.tmp rfl rfl)) ?_
      refine C_nil ?_
      exact ⟨_, (EqL.cons rfl (EqL.nil)).eq, (.sel .nil)⟩
    rw [hg1]
    try rw [hg1] at hF; dsimp only [cond_true, cond_false] at hF
    refine C_off (t := 10) rfl rfl rfl ?_
    refine C_off (t := 10) rfl rfl rfl ?_
    refine C_off (t := 10) rfl rfl rfl ?_
    refine C_val (V_pick (b := false) (u := undef) (v := (.bool false)) (.tmp rfl rfl) (.tmp rfl rfl) (.bool _)) ?_
    refine C_val (V_assign (v := (.bool false)) (.tmp rfl rfl)) ?_
    refine C_nil ?_
    exact ⟨_, (EqL.cons rfl (EqL.nil)).eq, (.sel .nil)⟩
  rintro _ _ ⟨g2, rfl, hE⟩
  refine K_ent hE ?_
  refine CW_ret ?_
  obtain rfl := Option.some.inj hF
  exact End_ret () (.tmp rfl rfl .nil) rfl (.sel .nil)

/-! impl.IsSchema$1 -/
def i_IsSchema_1 (a_n : Int) : Option (Bool) :=
  (i_within a_n 1 3).bind fun r1 =>
  some (!r1)
theorem i_IsSchema_1_ok (a_n : Int) (R : Bool) (hF : i_IsSchema_1 a_n = some R) :
    Fw.Spec Try.prog 114 [(.int .i64 a_n)] [] (fun _ : Unit => (.bool R)) (fun _ => []) := by
  refine Spec_enter (n := 6) Try.func114 rfl rfl (rs := [.tmp 2]) rfl rfl rfl ?_
  intro H0 F0
  unfold i_IsSchema_1 at hF
  refine K_region ?_
  refine C_val (V_assign (v := (.bool false)) (.bool _)) ?_
  refine C_nil ?_
  refine K_region ?_
  refine C_val (V_move (v := (.int .i64 a_n)) (.tmp rfl rfl)) ?_
  obtain ⟨r1, hx2, hF⟩ := bind_some hF
  refine C_x0 .nil (X_callS cf58 (.cons (.tmp rfl rfl) (.cons (.int _ _) (.cons (.int _ _) .nil))) (i_within_ok a_n 1 3 _ hx2)) (fun _ => ?_)
  refine C_val (V_not (b := r1) (.tmp rfl rfl)) ?_
  refine C_val (V_assign (v := (.bool (!r1))) (.tmp rfl rfl)) ?_
  refine C_nil ?_
  refine CW_ret ?_
  obtain rfl := Option.some.inj hF
  exact End_ret () (.tmp rfl rfl .nil) rfl (.sel .nil)

/-! slices.IndexFunc[[]int,int] -/
def g_slices_IndexFunc_int_int_iIsSchema1_L1 : List Int → Nat → Option (Int)
  | [], k4 => some (-1)
  | x6 :: rest5, k4 => (i_IsSchema_1 x6).bind fun r15 =>
    if r15 then (
      some (k4 : Int))
    else (
      g_slices_IndexFunc_int_int_iIsSchema1_L1 rest5 (k4 + 1))
def g_slices_IndexFunc_int_int_iIsSchema1 (a_s : List Int) : Option (Int) :=
  g_slices_IndexFunc_int_int_iIsSchema1_L1 a_s 0
theorem g_slices_IndexFunc_int_int_iIsSchema1_ok (a_s : List Int) (v0_0 : Sv) (R : Int) (hF : g_slices_IndexFunc_int_int_iIsSchema1 a_s = some R) :
    Fw.Spec Try.prog 145 [v0_0.v, (.func (.func 114) [].toArray [].toArray)] [crd (RdS 3 rdInt) v0_0.v a_s] (fun _ : Unit => (.int .i64 R)) (fun _ => []) := by
  refine Spec_enter (n := 19) Try.func145 rfl rfl (rs := [.tmp 4]) rfl rfl rfl ?_
  intro H0 F0
  unfold g_slices_IndexFunc_int_int_iIsSchema1 at hF
  refine K_region ?_
  refine C_val (V_assign (v := (.int .i64 0)) (.int _ _)) ?_
  refine C_nil ?_
  refine K_in ?_
  refine K_region ?_
  refine C_val (V_move (v := v0_0.v) (.tmp rfl rfl)) ?_
  refine C_at .h (fun hp => V_lenR (l := a_s.length) sl45 (.tmp rfl rfl) (crd_len hp)) ?_
  refine C_val (V_move (v := (.int .i64 0)) (.int _ _)) ?_
  refine C_nil ?_
  refine CW_block ?_
  refine CW_loop (m := a_s.length) (fun m2 f' cs' => ∃ (g : Fr) (k4 : Nat) (rest5 : List Int), m2 = rest5.length ∧ f' = updL g [(0, v0_0.v), (1, (.func (.func 114) [].toArray [].toArray)), (7, (.int .i64 (a_s.length : Int))), (8, (.int .i64 (k4 : Int)))] ∧ List.drop k4 a_s = rest5 ∧ Ent cs' [crd (RdS 3 rdInt) v0_0.v a_s] ∧ g_slices_IndexFunc_int_int_iIsSchema1_L1 rest5 k4 = some R) ⟨_, 0, _, rfl, (EqL.cons rfl (EqL.cons rfl (EqL.cons rfl (EqL.cons rfl (EqL.nil))))).eq, rfl, (.sel (.rd .h rfl .nil)), hF⟩ ?_
  clear hF
  rintro m2 _ _ ⟨g3, k4, rest5, rfl, rfl, hd7, hE, hF⟩
  refine K_ent hE ?_
  clear hE
  refine K_pure (c := crd (RdS 3 rdInt) v0_0.v a_s) .h crd_bound (fun hbd12 => ?_)
  rcases rest5 with _ | ⟨x6, rest5⟩
  · have hk8 := List.drop_eq_nil_iff.1 hd7
    have hfe11 : (decide (((k4 : Int) : Int) < (a_s.length : Int))) = false := decide_eq_false (by omega)
    rw [g_slices_IndexFunc_int_int_iIsSchema1_L1] at hF
    refine K_region ?_
    refine C_val (V_lss (i := (k4 : Int)) (j := (a_s.length : Int)) (.tmp rfl rfl) (.tmp rfl rfl)) ?_
    refine C_nil ?_
    refine K_in ?_
    refine CW_cond (b := (decide (((k4 : Int) : Int) < (a_s.length : Int)))) (.tmp rfl rfl) (fun hb => absurd (hfe11.symm.trans hb) (by decide)) (fun _ => ?_)
    refine CW_exit ?_
    refine CThen_exit ?_
    refine CThen_exit ?_
    refine CIn_self ?_
    refine K_region ?_
    refine C_val (V_assign (v := (.int .i64 (-1))) (.int _ _)) ?_
    refine C_nil ?_
    refine CW_ret ?_
    obtain rfl := Option.some.inj hF
    exact End_ret () (.tmp rfl rfl .nil) rfl (.sel .nil)
  obtain ⟨hk8, hx9, hd10⟩ := drop_cons hd7
  have hfe11 : (decide (((k4 : Int) : Int) < (a_s.length : Int))) = true := decide_eq_true (by omega)
  rw [g_slices_IndexFunc_int_int_iIsSchema1_L1] at hF
  refine K_region ?_
  refine C_val (V_lss (i := (k4 : Int)) (j := (a_s.length : Int)) (.tmp rfl rfl) (.tmp rfl rfl)) ?_
  refine C_nil ?_
  refine K_in ?_
  refine CW_cond (b := (decide (((k4 : Int) : Int) < (a_s.length : Int)))) (.tmp rfl rfl) (fun _ => ?_) (fun hb => absurd (hfe11.symm.trans hb) (by decide))
  refine CW_skip ?_
  refine K_block ?_
  refine K_region ?_
  refine C_val (V_move (v := (.int .i64 (k4 : Int))) (.tmp rfl rfl)) ?_
  refine C_val (V_assign (v := (.int .i64 (k4 : Int))) (.tmp rfl rfl)) ?_
  refine C_nil ?_
  refine K_region ?_
  refine C_val (V_move (v := (.func (.func 114) [].toArray [].toArray)) (.tmp rfl rfl)) ?_
  refine C_val (V_move (v := v0_0.v) (.tmp rfl rfl)) ?_
  refine C_val (V_move (v := (.int .i64 (k4 : Int))) (.tmp rfl rfl)) ?_
  refine C_idx (a := x6) sl45 ty3.sz (.tmp rfl rfl) (.tmp rfl rfl) .h (Int.natCast_nonneg k4) hx9 (fun k13 j14 => ?_)
  refine C_ldS (w := (.int .i64 x6)) ag3 (.tmp rfl rfl) .h ls3_0 ?_
  obtain ⟨r15, hx16, hF⟩ := bind_some hF
  refine C_x0 .nil (X_callCS cf114 (.tmp rfl rfl) (.cons (.tmp rfl rfl) .nil) (i_IsSchema_1_ok x6 _ hx16)) (fun _ => ?_)
  refine C_nil ?_
  refine CW_cond (b := r15) (.tmp rfl rfl) (fun hb19 => ?_) (fun hb19 => ?_)
  · rw [if_pos hb19] at hF
    refine K_region ?_
    refine C_val (V_move (v := (.int .i64 (k4 : Int))) (.tmp rfl rfl)) ?_
    refine C_val (V_assign (v := (.int .i64 (k4 : Int))) (.tmp rfl rfl)) ?_
    refine C_nil ?_
    refine CW_ret ?_
    obtain rfl := Option.some.inj hF
    exact End_ret () (.tmp rfl rfl .nil) rfl (.sel .nil)
  rw [if_neg (by rw [hb19]; exact Bool.false_ne_true)] at hF
  refine CW_skip ?_
  refine CW_region ?_
  refine C_val (V_add (i := (k4 : Int)) (j := 1) (.tmp rfl rfl) (.int _ _)) ?_
  refine C_val (V_move (v := (.int .i64 (IntKind.i64.wrap ((k4 : Int) + 1)))) (.tmp rfl rfl)) ?_
  refine C_nil ?_
  have hw18 : IntKind.i64.wrap ((k4 : Int) + 1) = ((k4 + 1 : Nat) : Int) := by rw [wrap_in (by omega) (by omega)]; rfl
  rw [hw18]
  exact ⟨_, Nat.lt_succ_self _, _, k4 + 1, rest5, rfl, (EqL.cons rfl (EqL.cons rfl (EqL.cons rfl (EqL.cons rfl (EqL.nil))))).eq, hd10, (.sel (.rd (.t .h) rfl .nil)), hF⟩

/-! slices.ContainsFunc[[]int,int] -/
def g_slices_ContainsFunc_int_int_iIsSchema1 (a_s : List Int) : Option (Bool) :=
  (g_slices_IndexFunc_int_int_iIsSchema1 a_s).bind fun r1 =>
  some (decide ((0 : Int) ≤ r1))
theorem g_slices_ContainsFunc_int_int_iIsSchema1_ok (a_s : List Int) (v0_0 : Sv) (R : Bool) (hF : g_slices_ContainsFunc_int_int_iIsSchema1 a_s = some R) :
    Fw.Spec Try.prog 113 [v0_0.v, (.func (.func 114) [].toArray [].toArray)] [crd (RdS 3 rdInt) v0_0.v a_s] (fun _ : Unit => (.bool R)) (fun _ => []) := by
  refine Spec_enter (n := 9) Try.func113 rfl rfl (rs := [.tmp 4]) rfl rfl rfl ?_
  intro H0 F0
  unfold g_slices_ContainsFunc_int_int_iIsSchema1 at hF
  refine K_region ?_
  refine C_val (V_assign (v := (.bool false)) (.bool _)) ?_
  refine C_nil ?_
  refine K_region ?_
  refine C_val (V_move (v := v0_0.v) (.tmp rfl rfl)) ?_
  refine C_val (V_move (v := (.func (.func 114) [].toArray [].toArray)) (.tmp rfl rfl)) ?_
  obtain ⟨r1, hx2, hF⟩ := bind_some hF
  refine C_x0 (.rd .h rfl .nil) (X_callS cf145 (.cons (.tmp rfl rfl) (.cons (.tmp rfl rfl) .nil)) (g_slices_IndexFunc_int_int_iIsSchema1_ok a_s v0_0 _ hx2)) (fun _ => ?_)
  refine C_val (V_geq (i := r1) (j := 0) (.tmp rfl rfl) (.int _ _)) ?_
  refine C_val (V_assign (v := (.bool (decide ((0 : Int) ≤ r1)))) (.tmp rfl rfl)) ?_
  refine C_nil ?_
  refine CW_ret ?_
  obtain rfl := Option.some.inj hF
  exact End_ret () (.tmp rfl rfl .nil) rfl (.sel .nil)

/-! impl.IsSchema -/
def i_IsSchema (a_s : List Int) : Option (Bool) :=
  ((i_within (a_s.length : Int) 1 3).bind fun r3 =>
    bif r3 then ((g_slices_ContainsFunc_int_int_iIsSchema1 a_s).bind fun r7 =>
      some (!r7))
    else (some false)).bind fun o1 =>
  match o1 with
  | c10 => some c10
theorem i_IsSchema_ok (a_s : List Int) (v0_0 : Sv) (R : Bool) (hF : i_IsSchema a_s = some R) :
    Fw.Spec Try.prog 64 [v0_0.v] [crd (RdS 3 rdInt) v0_0.v a_s] (fun _ : Unit => (.bool R)) (fun _ => []) := by
  refine Spec_enter (n := 11) Try.func64 rfl rfl (rs := [.tmp 2]) rfl rfl rfl ?_
  intro H0 F0
  unfold i_IsSchema at hF
  refine K_region ?_
  refine C_val (V_assign (v := (.bool false)) (.bool _)) ?_
  refine C_nil ?_
  obtain ⟨o1, hio1, hO2⟩ := bind_some hF
  refine K_region ?_
  refine C_cut (fun f' cs' => ∃ (c10 : Bool) (g : Fr), c10 = o1 ∧ f' = updL g [(2, (.bool c10))] ∧ Ent cs' []) ?_ ?_
  · replace hF := hio1
    refine C_val (V_move (v := v0_0.v) (.tmp rfl rfl)) ?_
    refine C_at .h (fun hp => V_lenR (l := a_s.length) sl45 (.tmp rfl rfl) (crd_len hp)) ?_
    obtain ⟨r3, hx4, hF⟩ := bind_some hF
    refine C_x0 .nil (X_callS cf58 (.cons (.tmp rfl rfl) (.cons (.int _ _) (.cons (.int _ _) .nil))) (i_within_ok (a_s.length : Int) 1 3 _ hx4)) (fun _ => ?_)
    refine C_val (V_move (v := (.bool r3)) (.tmp rfl rfl)) ?_
    rcases Bool.eq_false_or_eq_true r3 with hg6 | hg6
    · rw [hg6]
      try rw [hg6] at hF; dsimp only [cond_true, cond_false] at hF
      refine C_on (t := 6) rfl rfl rfl ?_
      refine C_val (V_move (v := v0_0.v) (.tmp rfl rfl)) ?_
      refine C_on (t := 6) rfl rfl rfl ?_
      obtain ⟨r7, hx8, hF⟩ := bind_some hF
      refine C_x0 (.rd .h rfl .nil) (X_callS cf113 (.cons (.tmp rfl rfl) (.cons (.fn _) .nil)) (g_slices_ContainsFunc_int_int_iIsSchema1_ok a_s v0_0 _ hx8)) (fun _ => ?_)
      refine C_on (t := 6) rfl rfl rfl ?_
      refine C_val (V_not (b := r7) (.tmp rfl rfl)) ?_
      refine C_val (V_pick (b := true) (u := (.bool (!r7))) (v := (.bool false)) (.tmp rfl rfl) (.tmp rfl rfl) (.bool _)) ?_
      refine C_val (V_assign (v := (.bool (!r7))) (.tmp rfl rfl)) ?_
      refine C_nil ?_
      obtain rfl := Option.some.inj hF
      exact ⟨_, _, rfl, (EqL.cons rfl (EqL.nil)).eq, (.sel .nil)⟩
    rw [hg6]
    try rw [hg6] at hF; dsimp only [cond_true, cond_false] at hF
    refine C_off (t := 6) rfl rfl rfl ?_
    refine C_off (t := 6) rfl rfl rfl ?_
    refine C_off (t := 6) rfl rfl rfl ?_
    refine C_val (V_pick (b := false) (u := undef) (v := (.bool false)) (.tmp rfl rfl) (.tmp rfl rfl) (.bool _)) ?_
    refine C_val (V_assign (v := (.bool false)) (.tmp rfl rfl)) ?_
    refine C_nil ?_
    obtain rfl := Option.some.inj hF
    exact ⟨_, _, rfl, (EqL.cons rfl (EqL.nil)).eq, (.sel .nil)⟩
  rintro _ _ ⟨c10, g11, rfl, rfl, hE⟩
  replace hF := hO2
  clear hO2
  try dsimp only at hF
  refine K_ent hE ?_
  refine CW_ret ?_
  obtain rfl := Option.some.inj hF
  exact End_ret () (.tmp rfl rfl .nil) rfl (.sel .nil)

/-! slices.Clone[[]int,int] -/
def g_slices_Clone_int_int (a_s : List Int) : Option ((List Int)) :=
  (app ([] : List Int) a_s).bind fun z5 =>
  some z5
theorem g_slices_Clone_int_int_ok (a_s : List Int) (v0_0 : Sv) (R : (List Int)) (hF : g_slices_Clone_int_int a_s = some R) :
    Fw.Spec Try.prog 65 [v0_0.v] [crd (RdS 3 rdInt) v0_0.v a_s] (fun p : Sv × List Nat => p.1.v) (fun p => [cown (OwnS 3 (roE rdInt)) p.2 p.1.v R]) := by
  refine Spec_enter (n := 8) Try.func65 rfl rfl (rs := [.tmp 2]) rfl rfl rfl ?_
  intro H0 F0
  unfold g_slices_Clone_int_int at hF
  refine K_region ?_
  refine C_val (V_assign (v := (.slice none 0 0)) EV.nilSlice) ?_
  refine C_nil ?_
  refine K_in ?_
  refine K_region ?_
  refine C_val (V_move (v := v0_0.v) (.tmp rfl rfl)) ?_
  refine C_eqNil (xs := a_s) sl45 (.tmp rfl rfl) .h crd_nilc (fun bn1 hn2 => ?_)
  refine C_nil ?_
  refine CW_cond (b := bn1) (.tmp rfl rfl) (fun hb3 => ?_) (fun hb3 => ?_)
  · have hnil := hn2 hb3
    replace hF : some [] = some R := by rw [hnil] at hF; simpa [app] using hF
    refine K_region ?_
    refine C_val (V_assign (v := (.slice none 0 0)) EV.nilSlice) ?_
    refine C_nil ?_
    refine CW_ret ?_
    obtain rfl := Option.some.inj hF
    exact End_ret (⟨none, 0, 0⟩, []) (.tmp rfl rfl .nil) rfl (.conv .nil (own_nil (Ro := (roE rdInt)) (E := 3)) (.cons .nil) (.sel (.cons .h .nil)))
  refine CW_skip ?_
  refine K_region ?_
  refine C_new rfl (N_buildSliceT (g := true) sl45 ty3 .nil (vs := []) rfl rfl rfl (by simp)) (fun k4 => ?_)
  refine C_conv (.cons .h .nil) (own_lit (Ro := (roE rdInt)) (E := 3) (F := []) (xs := ([] : List Int)) MkL_nil rfl rfl) apps ?_
  refine C_val (V_move (v := v0_0.v) (.tmp rfl rfl)) ?_
  obtain ⟨z5, hx6, hF⟩ := bind_some hF
  refine C_x1 (.cons .h (.rd .h rfl .nil)) (X_appendO (Ro := (roE rdInt)) sl45 ni45 ty3 rfl rfl rfl (.tmp rfl rfl) (.tmp rfl rfl) hx6 src_rd) (fun p7 => ?_)
  refine C_val (V_assign (v := p7.1.v) (.tmp rfl rfl)) ?_
  refine C_nil ?_
  refine CW_ret ?_
  obtain rfl := Option.some.inj hF
  exact End_ret (p7.1, p7.2) (.tmp rfl rfl .nil) rfl (.sel (.cons .h .nil))

/-! impl.NewMediator -/
def i_NewMediator (a_s : List Int) (a_age : Int) : Option (Mediator × Bool) :=
  ((i_IsSchema a_s).bind fun r4 =>
    bif (!r4) then (some true)
    else ((i_within a_age 0 100).bind fun r8 =>
      some (!r8))).bind fun o2 =>
  match o2 with
  | c11 => if c11 then (
      some (({ Schema := [], Methods := [], Rules := [], Source := ({ Facts := [], Version := 0 } : Source), Cache := ({ Entries := [], Age := 0 } : Cache), Now := 0, Log := [], Times := [], Spent := 0, Results := [] } : Mediator), false))
    else (
      (g_slices_Clone_int_int a_s).bind fun r12 =>
      some (({ Schema := r12, Methods := [], Rules := [], Source := ({ Facts := [], Version := 0 } : Source), Cache := ({ Entries := [], Age := a_age } : Cache), Now := 0, Log := [], Times := [], Spent := 0, Results := [] } : Mediator), true))
theorem i_NewMediator_ok (a_s : List Int) (v0_0 : Sv) (a_age : Int) (R : Mediator × Bool) (hF : i_NewMediator a_s a_age = some R) :
    Fw.Spec Try.prog 29 [v0_0.v, (.int .i64 a_age)] [crd (RdS 3 rdInt) v0_0.v a_s] (fun p : Sv × List Nat × Sv × List Nat × Sv × List Nat × Sv × List Nat × Sv × List Nat × Sv × List Nat × Sv × List Nat × Sv × List Nat => (.tuple [(.agg [p.1.v, p.2.2.1.v, p.2.2.2.2.1.v, p.2.2.2.2.2.2.1.v, (.int .i64 R.1.Source.Version), p.2.2.2.2.2.2.2.2.1.v, (.int .i64 R.1.Cache.Age), (.int .i64 R.1.Now), p.2.2.2.2.2.2.2.2.2.2.1.v, p.2.2.2.2.2.2.2.2.2.2.2.2.1.v, (.int .i64 R.1.Spent), p.2.2.2.2.2.2.2.2.2.2.2.2.2.2.1.v].toArray), (.bool R.2)].toArray)) (fun p => [cown (OwnS 3 (roE rdInt)) p.2.1 p.1.v R.1.Schema, cown (OwnS 101 ow101) p.2.2.2.1 p.2.2.1.v R.1.Methods, cown (OwnS 126 ow126) p.2.2.2.2.2.1 p.2.2.2.2.1.v R.1.Rules, cown (OwnS 157 ow157) p.2.2.2.2.2.2.2.1 p.2.2.2.2.2.2.1.v R.1.Source.Facts, cown (OwnS 159 ow159) p.2.2.2.2.2.2.2.2.2.1 p.2.2.2.2.2.2.2.2.1.v R.1.Cache.Entries, cown (OwnS 100 ow100) p.2.2.2.2.2.2.2.2.2.2.2.1 p.2.2.2.2.2.2.2.2.2.2.1.v R.1.Log, cown (OwnS 3 (roE rdInt)) p.2.2.2.2.2.2.2.2.2.2.2.2.2.1 p.2.2.2.2.2.2.2.2.2.2.2.2.1.v R.1.Times, cown (OwnS 128 (OwnS 45 (OwnS 3 (roE rdInt)))) p.2.2.2.2.2.2.2.2.2.2.2.2.2.2.2 p.2.2.2.2.2.2.2.2.2.2.2.2.2.2.1.v R.1.Results]) := by
  refine Spec_enter (n := 20) Try.func29 rfl rfl (rs := [.cell 4 55, .tmp 5]) rfl rfl rfl ?_
  intro H0 F0
  unfold i_NewMediator at hF
  refine K_region ?_
  refine C_new rfl (N_allocT (g := true) ty55 rfl rfl) (fun k1 => ?_)
  refine C_val (V_assign (v := (.bool false)) (.bool _)) ?_
  refine C_nil ?_
  refine K_in ?_
  obtain ⟨o2, hio2, hO3⟩ := bind_some hF
  refine K_region ?_
  refine C_cut (fun f' cs' => ∃ (c11 : Bool) (g : Fr), c11 = o2 ∧ f' = updL g [(0, v0_0.v), (1, (.int .i64 a_age)), (4, (.pointer (some ⟨k1, 0, some 0⟩))), (13, (.bool c11))] ∧ Ent cs' [crd (RdS 3 rdInt) v0_0.v a_s, cbox k1 55 (.agg [(.slice none 0 0), (.slice none 0 0), (.slice none 0 0), (.slice none 0 0), (.int .i64 0), (.slice none 0 0), (.int .i64 0), (.int .i64 0), (.slice none 0 0), (.slice none 0 0), (.int .i64 0), (.slice none 0 0)].toArray)]) ?_ ?_
  · replace hF := hio2
    refine C_val (V_move (v := v0_0.v) (.tmp rfl rfl)) ?_
    obtain ⟨r4, hx5, hF⟩ := bind_some hF
    refine C_x0 (.rd (.t .h) rfl .nil) (X_callS cf64 (.cons (.tmp rfl rfl) .nil) (i_IsSchema_ok a_s v0_0 _ hx5)) (fun _ => ?_)
    refine C_val (V_not (b := r4) (.tmp rfl rfl)) ?_
    refine C_val (V_move (v := (.bool (!r4))) (.tmp rfl rfl)) ?_
    rcases Bool.eq_false_or_eq_true (!r4) with hg7 | hg7
    · rw [hg7]
      try rw [hg7] at hF; dsimp only [cond_true, cond_false] at hF
      refine C_off (t := 9) rfl rfl rfl ?_
      refine C_off (t := 9) rfl rfl rfl ?_
      refine C_off (t := 9) rfl rfl rfl ?_
      refine C_val (V_pick (b := true) (u := (.bool true)) (v := undef) (.tmp rfl rfl) (.bool _) (.tmp rfl rfl)) ?_
      refine C_nil ?_
      obtain rfl := Option.some.inj hF
      exact ⟨_, _, rfl, (EqL.cons rfl (EqL.cons rfl (EqL.cons rfl (EqL.cons rfl (EqL.nil))))).eq, (.sel (.rd (.t .h) rfl (.cons .h .nil)))⟩
    rw [hg7]
    try rw [hg7] at hF; dsimp only [cond_true, cond_false] at hF
    refine C_on (t := 9) rfl rfl rfl ?_
    refine C_val (V_move (v := (.int .i64 a_age)) (.tmp rfl rfl)) ?_
    refine C_on (t := 9) rfl rfl rfl ?_
    obtain ⟨r8, hx9, hF⟩ := bind_some hF
    refine C_x0 .nil (X_callS cf58 (.cons (.tmp rfl rfl) (.cons (.int _ _) (.cons (.int _ _) .nil))) (i_within_ok a_age 0 100 _ hx9)) (fun _ => ?_)
    refine C_on (t := 9) rfl rfl rfl ?_
    refine C_val (V_not (b := r8) (.tmp rfl rfl)) ?_
    refine C_val (V_pick (b := false) (u := (.bool true)) (v := (.bool (!r8))) (.tmp rfl rfl) (.bool _) (.tmp rfl rfl)) ?_
    refine C_nil ?_
    obtain rfl := Option.some.inj hF
    exact ⟨_, _, rfl, (EqL.cons rfl (EqL.cons rfl (EqL.cons rfl (EqL.cons rfl (EqL.nil))))).eq, (.sel (.rd (.t .h) rfl (.cons .h .nil)))⟩
  rintro _ _ ⟨c11, g16, rfl, rfl, hE⟩
  replace hF := hO3
  clear hO3
  try dsimp only at hF
  refine K_ent hE ?_
  refine CW_cond (b := c11) (.tmp rfl rfl) (fun hb15 => ?_) (fun hb15 => ?_)
  · rw [if_pos hb15] at hF
    refine K_region ?_
    refine C_val (V_build ty55 rfl (vs := []) .nil (cells := [(.slice none 0 0), (.slice none 0 0), (.slice none 0 0), (.slice none 0 0), (.int .i64 0), (.slice none 0 0), (.int .i64 0), (.int .i64 0), (.slice none 0 0), (.slice none 0 0), (.int .i64 0), (.slice none 0 0)]) rfl) ?_
    refine C_x1 (.cons (.t .h) .nil) (X_storeB (e := (.agg [(.slice none 0 0), (.slice none 0 0), (.slice none 0 0), (.slice none 0 0), (.int .i64 0), (.slice none 0 0), (.int .i64 0), (.int .i64 0), (.slice none 0 0), (.slice none 0 0), (.int .i64 0), (.slice none 0 0)].toArray)) (e' := (.agg [(.slice none 0 0), (.slice none 0 0), (.slice none 0 0), (.slice none 0 0), (.int .i64 0), (.slice none 0 0), (.int .i64 0), (.int .i64 0), (.slice none 0 0), (.slice none 0 0), (.int .i64 0), (.slice none 0 0)].toArray)) (v := (.agg [(.slice none 0 0), (.slice none 0 0), (.slice none 0 0), (.slice none 0 0), (.int .i64 0), (.slice none 0 0), (.int .i64 0), (.int .i64 0), (.slice none 0 0), (.slice none 0 0), (.int .i64 0), (.slice none 0 0)].toArray)) ty55.sz (.tmp rfl rfl) (.tmp rfl rfl) rfl rfl rfl rfl rfl) (fun _ => ?_)
    refine C_val (V_assign (v := (.bool false)) (.bool _)) ?_
    refine C_nil ?_
    refine CW_ret ?_
    obtain rfl := Option.some.inj hF
    exact End_ret (⟨none, 0, 0⟩, [], ⟨none, 0, 0⟩, [], ⟨none, 0, 0⟩, [], ⟨none, 0, 0⟩, [], ⟨none, 0, 0⟩, [], ⟨none, 0, 0⟩, [], ⟨none, 0, 0⟩, [], ⟨none, 0, 0⟩, []) (.cellA rfl rfl .h rfl ag55 ty55.sz rfl rfl (.tmp rfl rfl .nil)) rfl (.conv .nil (own_nil (Ro := (roE rdInt)) (E := 3)) (.cons .nil) (.conv .nil (own_nil (Ro := ow101) (E := 101)) (.cons .nil) (.conv .nil (own_nil (Ro := ow126) (E := 126)) (.cons .nil) (.conv .nil (own_nil (Ro := ow157) (E := 157)) (.cons .nil) (.conv .nil (own_nil (Ro := ow159) (E := 159)) (.cons .nil) (.conv .nil (own_nil (Ro := ow100) (E := 100)) (.cons .nil) (.conv .nil (own_nil (Ro := (roE rdInt)) (E := 3)) (.cons .nil) (.conv .nil (own_nil (Ro := (OwnS 45 (OwnS 3 (roE rdInt)))) (E := 128)) (.cons .nil) (.sel (.cons (.t (.t (.t (.t (.t (.t (.t .h))))))) (.cons (.t (.t (.t (.t (.t (.t .h)))))) (.cons (.t (.t (.t (.t (.t .h))))) (.cons (.t (.t (.t (.t .h)))) (.cons (.t (.t (.t .h))) (.cons (.t (.t .h)) (.cons (.t .h) (.cons .h .nil)))))))))))))))))
  rw [if_neg (by rw [hb15]; exact Bool.false_ne_true)] at hF
  refine CW_skip ?_
  refine K_region ?_
  refine C_val (V_move (v := v0_0.v) (.tmp rfl rfl)) ?_
  obtain ⟨r12, hx13, hF⟩ := bind_some hF
  refine C_x1 (.rd .h rfl .nil) (X_callS cf65 (.cons (.tmp rfl rfl) .nil) (g_slices_Clone_int_int_ok a_s v0_0 _ hx13)) (fun p14 => ?_)
  refine C_val (V_move (v := (.int .i64 a_age)) (.tmp rfl rfl)) ?_
  refine C_val (V_build ty52 rfl (vs := [(.int .i64 a_age)]) (.cons (.tmp rfl rfl) .nil) (cells := [(.slice none 0 0), (.int .i64 a_age)]) rfl) ?_
  refine C_val (V_build ty55 rfl (vs := [p14.1.v, (.agg [(.slice none 0 0), (.int .i64 a_age)].toArray)]) (.cons (.tmp rfl rfl) (.cons (.tmp rfl rfl) .nil)) (cells := [p14.1.v, (.slice none 0 0), (.slice none 0 0), (.slice none 0 0), (.int .i64 0), (.slice none 0 0), (.int .i64 a_age), (.int .i64 0), (.slice none 0 0), (.slice none 0 0), (.int .i64 0), (.slice none 0 0)]) rfl) ?_
  refine C_x1 (.cons (.t (.t .h)) .nil) (X_storeB (e := (.agg [(.slice none 0 0), (.slice none 0 0), (.slice none 0 0), (.slice none 0 0), (.int .i64 0), (.slice none 0 0), (.int .i64 0), (.int .i64 0), (.slice none 0 0), (.slice none 0 0), (.int .i64 0), (.slice none 0 0)].toArray)) (e' := (.agg [p14.1.v, (.slice none 0 0), (.slice none 0 0), (.slice none 0 0), (.int .i64 0), (.slice none 0 0), (.int .i64 a_age), (.int .i64 0), (.slice none 0 0), (.slice none 0 0), (.int .i64 0), (.slice none 0 0)].toArray)) (v := (.agg [p14.1.v, (.slice none 0 0), (.slice none 0 0), (.slice none 0 0), (.int .i64 0), (.slice none 0 0), (.int .i64 a_age), (.int .i64 0), (.slice none 0 0), (.slice none 0 0), (.int .i64 0), (.slice none 0 0)].toArray)) ty55.sz (.tmp rfl rfl) (.tmp rfl rfl) rfl rfl rfl rfl rfl) (fun _ => ?_)
  refine C_val (V_assign (v := (.bool true)) (.bool _)) ?_
  refine C_nil ?_
  refine CW_ret ?_
  obtain rfl := Option.some.inj hF
  exact End_ret (p14.1, p14.2, ⟨none, 0, 0⟩, [], ⟨none, 0, 0⟩, [], ⟨none, 0, 0⟩, [], ⟨none, 0, 0⟩, [], ⟨none, 0, 0⟩, [], ⟨none, 0, 0⟩, [], ⟨none, 0, 0⟩, []) (.cellA rfl rfl .h rfl ag55 ty55.sz rfl rfl (.tmp rfl rfl .nil)) rfl (.conv .nil (own_nil (Ro := ow101) (E := 101)) (.cons .nil) (.conv .nil (own_nil (Ro := ow126) (E := 126)) (.cons .nil) (.conv .nil (own_nil (Ro := ow157) (E := 157)) (.cons .nil) (.conv .nil (own_nil (Ro := ow159) (E := 159)) (.cons .nil) (.conv .nil (own_nil (Ro := ow100) (E := 100)) (.cons .nil) (.conv .nil (own_nil (Ro := (roE rdInt)) (E := 3)) (.cons .nil) (.conv .nil (own_nil (Ro := (OwnS 45 (OwnS 3 (roE rdInt)))) (E := 128)) (.cons .nil) (.sel (.cons (.t (.t (.t (.t (.t (.t (.t (.t .h)))))))) (.cons (.t (.t (.t (.t (.t (.t .h)))))) (.cons (.t (.t (.t (.t (.t .h))))) (.cons (.t (.t (.t (.t .h)))) (.cons (.t (.t (.t .h))) (.cons (.t (.t .h)) (.cons (.t .h) (.cons .h .nil))))))))))))))))

/-! laws.eqIntS -/
def l_eqIntS_L1 (a_b : List Int) : List Int → Nat → Option (Bool)
  | [], k4 => some true
  | x6 :: rest5, k4 => (ix a_b (k4 : Int)).bind fun x15 =>
    if ((x6 : Int) != x15) then (
      some false)
    else (
      l_eqIntS_L1 a_b rest5 (k4 + 1))
def l_eqIntS (a_a : List Int) (a_b : List Int) : Option (Bool) :=
  if (((a_a.length : Int) : Int) != (a_b.length : Int)) then (
    some false)
  else (
    l_eqIntS_L1 a_b a_a 0)
theorem l_eqIntS_ok (a_a : List Int) (v0_0 : Sv) (a_b : List Int) (v1_0 : Sv) (R : Bool) (hF : l_eqIntS a_a a_b = some R) :
    Fw.Spec Try.prog 31 [v0_0.v, v1_0.v] [crd (RdS 3 rdInt) v0_0.v a_a, crd (RdS 3 rdInt) v1_0.v a_b] (fun _ : Unit => (.bool R)) (fun _ => []) := by
  refine Spec_enter (n := 26) Try.func31 rfl rfl (rs := [.tmp 4]) rfl rfl rfl ?_
  intro H0 F0
  unfold l_eqIntS at hF
  refine K_region ?_
  refine C_val (V_assign (v := (.bool false)) (.bool _)) ?_
  refine C_nil ?_
  refine K_in ?_
  refine K_region ?_
  refine C_val (V_move (v := v0_0.v) (.tmp rfl rfl)) ?_
  refine C_at .h (fun hp => V_lenR (l := a_a.length) sl45 (.tmp rfl rfl) (crd_len hp)) ?_
  refine C_val (V_move (v := v1_0.v) (.tmp rfl rfl)) ?_
  refine C_at (.t .h) (fun hp => V_lenR (l := a_b.length) sl45 (.tmp rfl rfl) (crd_len hp)) ?_
  refine C_val (V_neq (i := (a_a.length : Int)) (j := (a_b.length : Int)) (.tmp rfl rfl) (.tmp rfl rfl)) ?_
  refine C_nil ?_
  refine CW_cond (b := (((a_a.length : Int) : Int) != (a_b.length : Int))) (.tmp rfl rfl) (fun hb23 => ?_) (fun hb23 => ?_)
  · rw [if_pos hb23] at hF
    refine K_region ?_
    refine C_val (V_assign (v := (.bool false)) (.bool _)) ?_
    refine C_nil ?_
    refine CW_ret ?_
    obtain rfl := Option.some.inj hF
    exact End_ret () (.tmp rfl rfl .nil) rfl (.sel .nil)
  rw [if_neg (by rw [hb23]; exact Bool.false_ne_true)] at hF
  refine CW_skip ?_
  refine K_in ?_
  refine K_region ?_
  refine C_val (V_assign (v := (.int .i64 0)) (.int _ _)) ?_
  refine C_nil ?_
  refine CW_block ?_
  refine CW_loop (m := a_a.length) (fun m2 f' cs' => ∃ (g : Fr) (k4 : Nat) (rest5 : List Int), m2 = rest5.length ∧ f' = updL g [(0, v0_0.v), (1, v1_0.v), (5, (.int .i64 (k4 : Int)))] ∧ List.drop k4 a_a = rest5 ∧ Ent cs' [crd (RdS 3 rdInt) v0_0.v a_a, crd (RdS 3 rdInt) v1_0.v a_b] ∧ l_eqIntS_L1 a_b rest5 k4 = some R) ⟨_, 0, _, rfl, (EqL.cons rfl (EqL.cons rfl (EqL.cons rfl (EqL.nil)))).eq, rfl, (.sel (.rd .h rfl (.rd (.t .h) rfl .nil))), hF⟩ ?_
  clear hF
  rintro m2 _ _ ⟨g3, k4, rest5, rfl, rfl, hd7, hE, hF⟩
  refine K_ent hE ?_
  clear hE
  refine K_pure (c := crd (RdS 3 rdInt) v0_0.v a_a) .h crd_bound (fun hbd12 => ?_)
  rcases rest5 with _ | ⟨x6, rest5⟩
  · have hk8 := List.drop_eq_nil_iff.1 hd7
    have hfe11 : (decide (((k4 : Int) : Int) < (a_a.length : Int))) = false := decide_eq_false (by omega)
    rw [l_eqIntS_L1] at hF
    refine K_in ?_
    refine K_region ?_
    refine C_val (V_move (v := (.int .i64 (k4 : Int))) (.tmp rfl rfl)) ?_
    refine C_val (V_move (v := v0_0.v) (.tmp rfl rfl)) ?_
    refine C_at .h (fun hp => V_lenR (l := a_a.length) sl45 (.tmp rfl rfl) (crd_len hp)) ?_
    refine C_val (V_lss (i := (k4 : Int)) (j := (a_a.length : Int)) (.tmp rfl rfl) (.tmp rfl rfl)) ?_
    refine C_nil ?_
    refine CW_cond (b := (decide (((k4 : Int) : Int) < (a_a.length : Int)))) (.tmp rfl rfl) (fun hb => absurd (hfe11.symm.trans hb) (by decide)) (fun _ => ?_)
    refine CW_exit ?_
    refine CThen_exit ?_
    refine CThen_exit ?_
    refine CIn_self ?_
    refine K_region ?_
    refine C_val (V_assign (v := (.bool true)) (.bool _)) ?_
    refine C_nil ?_
    refine CW_ret ?_
    obtain rfl := Option.some.inj hF
    exact End_ret () (.tmp rfl rfl .nil) rfl (.sel .nil)
  obtain ⟨hk8, hx9, hd10⟩ := drop_cons hd7
  have hfe11 : (decide (((k4 : Int) : Int) < (a_a.length : Int))) = true := decide_eq_true (by omega)
  rw [l_eqIntS_L1] at hF
  refine K_in ?_
  refine K_region ?_
  refine C_val (V_move (v := (.int .i64 (k4 : Int))) (.tmp rfl rfl)) ?_
  refine C_val (V_move (v := v0_0.v) (.tmp rfl rfl)) ?_
  refine C_at .h (fun hp => V_lenR (l := a_a.length) sl45 (.tmp rfl rfl) (crd_len hp)) ?_
  refine C_val (V_lss (i := (k4 : Int)) (j := (a_a.length : Int)) (.tmp rfl rfl) (.tmp rfl rfl)) ?_
  refine C_nil ?_
  refine CW_cond (b := (decide (((k4 : Int) : Int) < (a_a.length : Int)))) (.tmp rfl rfl) (fun _ => ?_) (fun hb => absurd (hfe11.symm.trans hb) (by decide))
  refine CW_skip ?_
  refine K_block ?_
  refine K_draw [0, 1, 2, 3, 4, 5, 6, 7, 8] [0, 0, 3, 7, 0, 0, 48, 112, 255] [] mixed (by decide +kernel) ?_
  refine D_val rfl .no (fun ha => V_move (v := v0_0.v) (EN ha (.tmp rfl rfl) rfl)) ?_
  refine D_val rfl .no (fun ha => V_move (v := (.int .i64 (k4 : Int))) (EN ha (.tmp rfl rfl) rfl)) ?_
  refine D_idx (a := x6) sl45 ty3.sz rfl .no (.tmp rfl rfl) (.tmp rfl rfl) rfl rfl .h (Int.natCast_nonneg k4) hx9 (fun k13 j14 => ?_)
  refine D_ldS (w := (.int .i64 x6)) ag3 rfl .no (.tmp rfl rfl) rfl .h ls3_0 ?_
  refine D_val rfl .no (fun ha => V_move (v := v1_0.v) (EN ha (.tmp rfl rfl) rfl)) ?_
  refine D_val rfl .no (fun ha => V_move (v := (.int .i64 (k4 : Int))) (EN ha (.tmp rfl rfl) rfl)) ?_
  obtain ⟨x15, hx16, hF⟩ := bind_some hF
  obtain ⟨hp17, hx18⟩ := ix_some hx16
  refine D_idx (a := x15) sl45 ty3.sz rfl .no (.tmp rfl rfl) (.tmp rfl rfl) rfl rfl (.t (.t .h)) hp17 hx18 (fun k19 j20 => ?_)
  refine D_ldS (w := (.int .i64 x15)) ag3 rfl .no (.tmp rfl rfl) rfl .h ls3_0 ?_
  refine D_val rfl .no (fun ha => V_neq (i := x6) (j := x15) (EN ha (.tmp rfl rfl) rfl) (EN ha (.tmp rfl rfl) rfl)) ?_
  refine D_nil ?_
  refine CW_cond (b := ((x6 : Int) != x15)) (.tmp rfl rfl) (fun hb22 => ?_) (fun hb22 => ?_)
  · rw [if_pos hb22] at hF
    refine K_region ?_
    refine C_val (V_assign (v := (.bool false)) (.bool _)) ?_
    refine C_nil ?_
    refine CW_ret ?_
    obtain rfl := Option.some.inj hF
    exact End_ret () (.tmp rfl rfl .nil) rfl (.sel .nil)
  rw [if_neg (by rw [hb22]; exact Bool.false_ne_true)] at hF
  refine CW_skip ?_
  refine CW_region ?_
  refine C_val (V_move (v := (.int .i64 (k4 : Int))) (.tmp rfl rfl)) ?_
  refine C_val (V_add (i := (k4 : Int)) (j := 1) (.tmp rfl rfl) (.int _ _)) ?_
  refine C_val (V_assign (v := (.int .i64 (IntKind.i64.wrap ((k4 : Int) + 1)))) (.tmp rfl rfl)) ?_
  refine C_nil ?_
  have hw21 : IntKind.i64.wrap ((k4 : Int) + 1) = ((k4 + 1 : Nat) : Int) := by rw [wrap_in (by omega) (by omega)]; rfl
  rw [hw21]
  exact ⟨_, Nat.lt_succ_self _, _, k4 + 1, rest5, rfl, (EqL.cons rfl (EqL.cons rfl (EqL.cons rfl (EqL.nil)))).eq, hd10, (.sel (.rd (.t (.t .h)) rfl (.rd (.t (.t (.t .h))) rfl .nil))), hF⟩

/-! laws.eqMethod -/
def l_eqMethod (a_a : Method) (a_b : Method) : Option (Bool) :=
  if ((a_a.Rel : Int) != a_b.Rel) then (
    some false)
  else (
    (l_eqIntS a_a.Inputs a_b.Inputs).bind fun r3 =>
    if (!r3) then (
      some false)
    else (
      if ((a_a.Limit : Int) != a_b.Limit) then (
        some false)
      else (
        if ((a_a.Cost : Int) != a_b.Cost) then (
          some false)
        else (
          if ((a_a.Quota : Int) != a_b.Quota) then (
            some false)
          else (
            some true)))))
theorem l_eqMethod_ok (a_a : Method) (v0_1 : Sv) (a_b : Method) (v1_1 : Sv) (R : Bool) (hF : l_eqMethod a_a a_b = some R) :
    Fw.Spec Try.prog 60 [(.agg [(.int .i64 a_a.Rel), v0_1.v, (.int .i64 a_a.Limit), (.int .i64 a_a.Cost), (.int .i64 a_a.Quota)].toArray), (.agg [(.int .i64 a_b.Rel), v1_1.v, (.int .i64 a_b.Limit), (.int .i64 a_b.Cost), (.int .i64 a_b.Quota)].toArray)] [crd (RdS 3 rdInt) v0_1.v a_a.Inputs, crd (RdS 3 rdInt) v1_1.v a_b.Inputs] (fun _ : Unit => (.bool R)) (fun _ => []) := by
  refine Spec_enter (n := 31) Try.func60 rfl rfl (rs := [.tmp 4]) rfl rfl rfl ?_
  intro H0 F0
  unfold l_eqMethod at hF
  refine K_region ?_
  refine C_newR rfl (N_box (g := false) (v := (.agg [(.int .i64 a_a.Rel), v0_1.v, (.int .i64 a_a.Limit), (.int .i64 a_a.Cost), (.int .i64 a_a.Quota)].toArray)) ty101.sz (.tmp rfl rfl) rfl) (fun k1 => ?_)
  refine C_newR rfl (N_box (g := false) (v := (.agg [(.int .i64 a_b.Rel), v1_1.v, (.int .i64 a_b.Limit), (.int .i64 a_b.Cost), (.int .i64 a_b.Quota)].toArray)) ty101.sz (.tmp rfl rfl) rfl) (fun k2 => ?_)
  refine C_val (V_assign (v := (.bool false)) (.bool _)) ?_
  refine C_nil ?_
  refine K_in ?_
  refine K_region ?_
  refine C_val (V_fieldAddr (off := 0) fd101_0 (.tmp rfl rfl)) ?_
  refine C_at (.t .h) (fun hp => V_load (v := (.int .i64 a_a.Rel)) ag3 (.tmp rfl rfl) hp.2 rfl rfl) ?_
  refine C_val (V_fieldAddr (off := 0) fd101_0 (.tmp rfl rfl)) ?_
  refine C_at .h (fun hp => V_load (v := (.int .i64 a_b.Rel)) ag3 (.tmp rfl rfl) hp.2 rfl rfl) ?_
  refine C_val (V_neq (i := a_a.Rel) (j := a_b.Rel) (.tmp rfl rfl) (.tmp rfl rfl)) ?_
  refine C_nil ?_
  refine CW_cond (b := ((a_a.Rel : Int) != a_b.Rel)) (.tmp rfl rfl) (fun hb10 => ?_) (fun hb10 => ?_)
  · rw [if_pos hb10] at hF
    refine K_region ?_
    refine C_val (V_assign (v := (.bool false)) (.bool _)) ?_
    refine C_nil ?_
    refine CW_ret ?_
    obtain rfl := Option.some.inj hF
    exact End_ret () (.tmp rfl rfl .nil) rfl (.sel .nil)
  rw [if_neg (by rw [hb10]; exact Bool.false_ne_true)] at hF
  refine CW_skip ?_
  refine K_in ?_
  refine K_region ?_
  refine C_val (V_fieldAddr (off := 1) fd101_1 (.tmp rfl rfl)) ?_
  refine C_at (.t .h) (fun hp => V_load (v := v0_1.v) ag45 (.tmp rfl rfl) hp.2 rfl rfl) ?_
  refine C_val (V_fieldAddr (off := 1) fd101_1 (.tmp rfl rfl)) ?_
  refine C_at .h (fun hp => V_load (v := v1_1.v) ag45 (.tmp rfl rfl) hp.2 rfl rfl) ?_
  obtain ⟨r3, hx4, hF⟩ := bind_some hF
  refine C_x0 (.rd (.t (.t .h)) rfl (.rd (.t (.t (.t .h))) rfl .nil)) (X_callS cf31 (.cons (.tmp rfl rfl) (.cons (.tmp rfl rfl) .nil)) (l_eqIntS_ok a_a.Inputs v0_1 a_b.Inputs v1_1 _ hx4)) (fun _ => ?_)
  refine C_val (V_not (b := r3) (.tmp rfl rfl)) ?_
  refine C_nil ?_
  refine CW_cond (b := (!r3)) (.tmp rfl rfl) (fun hb9 => ?_) (fun hb9 => ?_)
  · rw [if_pos hb9] at hF
    refine K_region ?_
    refine C_val (V_assign (v := (.bool false)) (.bool _)) ?_
    refine C_nil ?_
    refine CW_ret ?_
    obtain rfl := Option.some.inj hF
    exact End_ret () (.tmp rfl rfl .nil) rfl (.sel .nil)
  rw [if_neg (by rw [hb9]; exact Bool.false_ne_true)] at hF
  refine CW_skip ?_
  refine K_in ?_
  refine K_region ?_
  refine C_val (V_fieldAddr (off := 2) fd101_2 (.tmp rfl rfl)) ?_
  refine C_at (.t .h) (fun hp => V_load (v := (.int .i64 a_a.Limit)) ag3 (.tmp rfl rfl) hp.2 rfl rfl) ?_
  refine C_val (V_fieldAddr (off := 2) fd101_2 (.tmp rfl rfl)) ?_
  refine C_at .h (fun hp => V_load (v := (.int .i64 a_b.Limit)) ag3 (.tmp rfl rfl) hp.2 rfl rfl) ?_
  refine C_val (V_neq (i := a_a.Limit) (j := a_b.Limit) (.tmp rfl rfl) (.tmp rfl rfl)) ?_
  refine C_nil ?_
  refine CW_cond (b := ((a_a.Limit : Int) != a_b.Limit)) (.tmp rfl rfl) (fun hb8 => ?_) (fun hb8 => ?_)
  · rw [if_pos hb8] at hF
    refine K_region ?_
    refine C_val (V_assign (v := (.bool false)) (.bool _)) ?_
    refine C_nil ?_
    refine CW_ret ?_
    obtain rfl := Option.some.inj hF
    exact End_ret () (.tmp rfl rfl .nil) rfl (.sel .nil)
  rw [if_neg (by rw [hb8]; exact Bool.false_ne_true)] at hF
  refine CW_skip ?_
  refine K_in ?_
  refine K_region ?_
  refine C_val (V_fieldAddr (off := 3) fd101_3 (.tmp rfl rfl)) ?_
  refine C_at (.t .h) (fun hp => V_load (v := (.int .i64 a_a.Cost)) ag3 (.tmp rfl rfl) hp.2 rfl rfl) ?_
  refine C_val (V_fieldAddr (off := 3) fd101_3 (.tmp rfl rfl)) ?_
  refine C_at .h (fun hp => V_load (v := (.int .i64 a_b.Cost)) ag3 (.tmp rfl rfl) hp.2 rfl rfl) ?_
  refine C_val (V_neq (i := a_a.Cost) (j := a_b.Cost) (.tmp rfl rfl) (.tmp rfl rfl)) ?_
  refine C_nil ?_
  refine CW_cond (b := ((a_a.Cost : Int) != a_b.Cost)) (.tmp rfl rfl) (fun hb7 => ?_) (fun hb7 => ?_)
  · rw [if_pos hb7] at hF
    refine K_region ?_
    refine C_val (V_assign (v := (.bool false)) (.bool _)) ?_
    refine C_nil ?_
    refine CW_ret ?_
    obtain rfl := Option.some.inj hF
    exact End_ret () (.tmp rfl rfl .nil) rfl (.sel .nil)
  rw [if_neg (by rw [hb7]; exact Bool.false_ne_true)] at hF
  refine CW_skip ?_
  refine K_in ?_
  refine K_region ?_
  refine C_val (V_fieldAddr (off := 4) fd101_4 (.tmp rfl rfl)) ?_
  refine C_at (.t .h) (fun hp => V_load (v := (.int .i64 a_a.Quota)) ag3 (.tmp rfl rfl) hp.2 rfl rfl) ?_
  refine C_val (V_fieldAddr (off := 4) fd101_4 (.tmp rfl rfl)) ?_
  refine C_at .h (fun hp => V_load (v := (.int .i64 a_b.Quota)) ag3 (.tmp rfl rfl) hp.2 rfl rfl) ?_
  refine C_val (V_neq (i := a_a.Quota) (j := a_b.Quota) (.tmp rfl rfl) (.tmp rfl rfl)) ?_
  refine C_nil ?_
  refine CW_cond (b := ((a_a.Quota : Int) != a_b.Quota)) (.tmp rfl rfl) (fun hb6 => ?_) (fun hb6 => ?_)
  · rw [if_pos hb6] at hF
    refine K_region ?_
    refine C_val (V_assign (v := (.bool false)) (.bool _)) ?_
    refine C_nil ?_
    refine CW_ret ?_
    obtain rfl := Option.some.inj hF
    exact End_ret () (.tmp rfl rfl .nil) rfl (.sel .nil)
  rw [if_neg (by rw [hb6]; exact Bool.false_ne_true)] at hF
  refine CW_skip ?_
  refine K_region ?_
  refine C_val (V_assign (v := (.bool true)) (.bool _)) ?_
  refine C_nil ?_
  refine CW_ret ?_
  obtain rfl := Option.some.inj hF
  exact End_ret () (.tmp rfl rfl .nil) rfl (.sel .nil)

/-! laws.eqMethodS -/
def l_eqMethodS_L1 (a_b : List Method) : List Method → Nat → Option (Bool)
  | [], k4 => some true
  | x6 :: rest5, k4 => (ix a_b (k4 : Int)).bind fun x16 =>
    (l_eqMethod x6 x16).bind fun r23 =>
    if (!r23) then (
      some false)
    else (
      l_eqMethodS_L1 a_b rest5 (k4 + 1))
def l_eqMethodS (a_a : List Method) (a_b : List Method) : Option (Bool) :=
  if (((a_a.length : Int) : Int) != (a_b.length : Int)) then (
    some false)
  else (
    l_eqMethodS_L1 a_b a_a 0)
theorem l_eqMethodS_ok (a_a : List Method) (v0_0 : Sv) (a_b : List Method) (v1_0 : Sv) (R : Bool) (hF : l_eqMethodS a_a a_b = some R) :
    Fw.Spec Try.prog 21 [v0_0.v, v1_0.v] [crd (RdS 101 rd101) v0_0.v a_a, crd (RdS 101 rd101) v1_0.v a_b] (fun _ : Unit => (.bool R)) (fun _ => []) := by
  refine Spec_enter (n := 27) Try.func21 rfl rfl (rs := [.tmp 4]) rfl rfl rfl ?_
  intro H0 F0
  unfold l_eqMethodS at hF
  refine K_region ?_
  refine C_val (V_assign (v := (.bool false)) (.bool _)) ?_
  refine C_nil ?_
  refine K_in ?_
  refine K_region ?_
  refine C_val (V_move (v := v0_0.v) (.tmp rfl rfl)) ?_
  refine C_at .h (fun hp => V_lenR (l := a_a.length) sl35 (.tmp rfl rfl) (crd_len hp)) ?_
  refine C_val (V_move (v := v1_0.v) (.tmp rfl rfl)) ?_
  refine C_at (.t .h) (fun hp => V_lenR (l := a_b.length) sl35 (.tmp rfl rfl) (crd_len hp)) ?_
  refine C_val (V_neq (i := (a_a.length : Int)) (j := (a_b.length : Int)) (.tmp rfl rfl) (.tmp rfl rfl)) ?_
  refine C_nil ?_
  refine CW_cond (b := (((a_a.length : Int) : Int) != (a_b.length : Int))) (.tmp rfl rfl) (fun hb28 => ?_) (fun hb28 => ?_)
  · rw [if_pos hb28] at hF
    refine K_region ?_
    refine C_val (V_assign (v := (.bool false)) (.bool _)) ?_
    refine C_nil ?_
    refine CW_ret ?_
    obtain rfl := Option.some.inj hF
    exact End_ret () (.tmp rfl rfl .nil) rfl (.sel .nil)
  rw [if_neg (by rw [hb28]; exact Bool.false_ne_true)] at hF
  refine CW_skip ?_
  refine K_in ?_
  refine K_region ?_
  refine C_val (V_assign (v := (.int .i64 0)) (.int _ _)) ?_
  refine C_nil ?_
  refine CW_block ?_
  refine CW_loop (m := a_a.length) (fun m2 f' cs' => ∃ (g : Fr) (k4 : Nat) (rest5 : List Method), m2 = rest5.length ∧ f' = updL g [(0, v0_0.v), (1, v1_0.v), (5, (.int .i64 (k4 : Int)))] ∧ List.drop k4 a_a = rest5 ∧ Ent cs' [crd (RdS 101 rd101) v0_0.v a_a, crd (RdS 101 rd101) v1_0.v a_b] ∧ l_eqMethodS_L1 a_b rest5 k4 = some R) ⟨_, 0, _, rfl, (EqL.cons rfl (EqL.cons rfl (EqL.cons rfl (EqL.nil)))).eq, rfl, (.sel (.rd .h rfl (.rd (.t .h) rfl .nil))), hF⟩ ?_
  clear hF
  rintro m2 _ _ ⟨g3, k4, rest5, rfl, rfl, hd7, hE, hF⟩
  refine K_ent hE ?_
  clear hE
  refine K_pure (c := crd (RdS 101 rd101) v0_0.v a_a) .h crd_bound (fun hbd12 => ?_)
  rcases rest5 with _ | ⟨x6, rest5⟩
  · have hk8 := List.drop_eq_nil_iff.1 hd7
    have hfe11 : (decide (((k4 : Int) : Int) < (a_a.length : Int))) = false := decide_eq_false (by omega)
    rw [l_eqMethodS_L1] at hF
    refine K_in ?_
    refine K_region ?_
    refine C_val (V_move (v := (.int .i64 (k4 : Int))) (.tmp rfl rfl)) ?_
    refine C_val (V_move (v := v0_0.v) (.tmp rfl rfl)) ?_
    refine C_at .h (fun hp => V_lenR (l := a_a.length) sl35 (.tmp rfl rfl) (crd_len hp)) ?_
    refine C_val (V_lss (i := (k4 : Int)) (j := (a_a.length : Int)) (.tmp rfl rfl) (.tmp rfl rfl)) ?_
    refine C_nil ?_
    refine CW_cond (b := (decide (((k4 : Int) : Int) < (a_a.length : Int)))) (.tmp rfl rfl) (fun hb => absurd (hfe11.symm.trans hb) (by decide)) (fun _ => ?_)
    refine CW_exit ?_
    refine CThen_exit ?_
    refine CThen_exit ?_
    refine CIn_self ?_
    refine K_region ?_
    refine C_val (V_assign (v := (.bool true)) (.bool _)) ?_
    refine C_nil ?_
    refine CW_ret ?_
    obtain rfl := Option.some.inj hF
    exact End_ret () (.tmp rfl rfl .nil) rfl (.sel .nil)
  obtain ⟨hk8, hx9, hd10⟩ := drop_cons hd7
  have hfe11 : (decide (((k4 : Int) : Int) < (a_a.length : Int))) = true := decide_eq_true (by omega)
  rw [l_eqMethodS_L1] at hF
  refine K_in ?_
  refine K_region ?_
  refine C_val (V_move (v := (.int .i64 (k4 : Int))) (.tmp rfl rfl)) ?_
  refine C_val (V_move (v := v0_0.v) (.tmp rfl rfl)) ?_
  refine C_at .h (fun hp => V_lenR (l := a_a.length) sl35 (.tmp rfl rfl) (crd_len hp)) ?_
  refine C_val (V_lss (i := (k4 : Int)) (j := (a_a.length : Int)) (.tmp rfl rfl) (.tmp rfl rfl)) ?_
  refine C_nil ?_
  refine CW_cond (b := (decide (((k4 : Int) : Int) < (a_a.length : Int)))) (.tmp rfl rfl) (fun _ => ?_) (fun hb => absurd (hfe11.symm.trans hb) (by decide))
  refine CW_skip ?_
  refine K_block ?_
  refine K_draw [0, 1, 2, 3, 4, 5, 6, 7, 8, 9] [0, 0, 3, 7, 0, 0, 48, 112, 255, 511] [8] mixed (by decide +kernel) ?_
  refine D_val rfl .no (fun ha => V_move (v := v0_0.v) (EN ha (.tmp rfl rfl) rfl)) ?_
  refine D_val rfl .no (fun ha => V_move (v := (.int .i64 (k4 : Int))) (EN ha (.tmp rfl rfl) rfl)) ?_
  refine D_idx (a := x6) sl35 ty101.sz rfl .no (.tmp rfl rfl) (.tmp rfl rfl) rfl rfl .h (Int.natCast_nonneg k4) hx9 (fun k13 j14 => ?_)
  refine D_ldA1 (ul101_0_101 x6) ag101 ty101.sz rfl rfl .no (.tmp rfl rfl) rfl .h la101_0_101 (fun p15 => ?_)
  refine D_val rfl .no (fun ha => V_move (v := v1_0.v) (EN ha (.tmp rfl rfl) rfl)) ?_
  refine D_val rfl .no (fun ha => V_move (v := (.int .i64 (k4 : Int))) (EN ha (.tmp rfl rfl) rfl)) ?_
  obtain ⟨x16, hx17, hF⟩ := bind_some hF
  obtain ⟨hp18, hx19⟩ := ix_some hx17
  refine D_idx (a := x16) sl35 ty101.sz rfl .no (.tmp rfl rfl) (.tmp rfl rfl) rfl rfl (.t (.t (.t .h))) hp18 hx19 (fun k20 j21 => ?_)
  refine D_ldA1 (ul101_0_101 x16) ag101 ty101.sz rfl rfl .no (.tmp rfl rfl) rfl .h la101_0_101 (fun p22 => ?_)
  obtain ⟨r23, hx24, hF⟩ := bind_some hF
  refine D_act0 rfl rfl .no (.rd (.t (.t .h)) rfl (.rd .h rfl .nil)) .nil (fun ha => X_callS cf60 (.cons (EN ha (.tmp rfl rfl) rfl) (.cons (EN ha (.tmp rfl rfl) rfl) .nil)) (l_eqMethod_ok x6 p15 x16 p22 _ hx24)) (fun _ => ?_)
  refine D_val rfl .no (fun ha => V_not (b := r23) (EN ha (.tmp rfl rfl) rfl)) ?_
  refine D_nil ?_
  refine CW_cond (b := (!r23)) (.tmp rfl rfl) (fun hb27 => ?_) (fun hb27 => ?_)
  · rw [if_pos hb27] at hF
    refine K_region ?_
    refine C_val (V_assign (v := (.bool false)) (.bool _)) ?_
    refine C_nil ?_
    refine CW_ret ?_
    obtain rfl := Option.some.inj hF
    exact End_ret () (.tmp rfl rfl .nil) rfl (.sel .nil)
  rw [if_neg (by rw [hb27]; exact Bool.false_ne_true)] at hF
  refine CW_skip ?_
  refine CW_region ?_
  refine C_val (V_move (v := (.int .i64 (k4 : Int))) (.tmp rfl rfl)) ?_
  refine C_val (V_add (i := (k4 : Int)) (j := 1) (.tmp rfl rfl) (.int _ _)) ?_
  refine C_val (V_assign (v := (.int .i64 (IntKind.i64.wrap ((k4 : Int) + 1)))) (.tmp rfl rfl)) ?_
  refine C_nil ?_
  have hw26 : IntKind.i64.wrap ((k4 : Int) + 1) = ((k4 + 1 : Nat) : Int) := by rw [wrap_in (by omega) (by omega)]; rfl
  rw [hw26]
  exact ⟨_, Nat.lt_succ_self _, _, k4 + 1, rest5, rfl, (EqL.cons rfl (EqL.cons rfl (EqL.cons rfl (EqL.nil)))).eq, hd10, (.sel (.rd (.t (.t (.t (.t .h)))) rfl (.rd (.t (.t (.t (.t (.t .h))))) rfl .nil))), hF⟩

/-! laws.eqRule -/
def l_eqRule (a_a : Rule) (a_b : Rule) : Option (Bool) :=
  if ((a_a.From : Int) != a_b.From) then (
    some false)
  else (
    if ((a_a.To : Int) != a_b.To) then (
      some false)
    else (
      (l_eqIntS a_a.Map a_b.Map).bind fun r3 =>
      if (!r3) then (
        some false)
      else (
        some true)))
theorem l_eqRule_ok (a_a : Rule) (v0_2 : Sv) (a_b : Rule) (v1_2 : Sv) (R : Bool) (hF : l_eqRule a_a a_b = some R) :
    Fw.Spec Try.prog 115 [(.agg [(.int .i64 a_a.From), (.int .i64 a_a.To), v0_2.v].toArray), (.agg [(.int .i64 a_b.From), (.int .i64 a_b.To), v1_2.v].toArray)] [crd (RdS 3 rdInt) v0_2.v a_a.Map, crd (RdS 3 rdInt) v1_2.v a_b.Map] (fun _ : Unit => (.bool R)) (fun _ => []) := by
  refine Spec_enter (n := 21) Try.func115 rfl rfl (rs := [.tmp 4]) rfl rfl rfl ?_
  intro H0 F0
  unfold l_eqRule at hF
  refine K_region ?_
  refine C_newR rfl (N_box (g := false) (v := (.agg [(.int .i64 a_a.From), (.int .i64 a_a.To), v0_2.v].toArray)) ty126.sz (.tmp rfl rfl) rfl) (fun k1 => ?_)
  refine C_newR rfl (N_box (g := false) (v := (.agg [(.int .i64 a_b.From), (.int .i64 a_b.To), v1_2.v].toArray)) ty126.sz (.tmp rfl rfl) rfl) (fun k2 => ?_)
  refine C_val (V_assign (v := (.bool false)) (.bool _)) ?_
  refine C_nil ?_
  refine K_in ?_
  refine K_region ?_
  refine C_val (V_fieldAddr (off := 0) fd126_0 (.tmp rfl rfl)) ?_
  refine C_at (.t .h) (fun hp => V_load (v := (.int .i64 a_a.From)) ag3 (.tmp rfl rfl) hp.2 rfl rfl) ?_
  refine C_val (V_fieldAddr (off := 0) fd126_0 (.tmp rfl rfl)) ?_
  refine C_at .h (fun hp => V_load (v := (.int .i64 a_b.From)) ag3 (.tmp rfl rfl) hp.2 rfl rfl) ?_
  refine C_val (V_neq (i := a_a.From) (j := a_b.From) (.tmp rfl rfl) (.tmp rfl rfl)) ?_
  refine C_nil ?_
  refine CW_cond (b := ((a_a.From : Int) != a_b.From)) (.tmp rfl rfl) (fun hb8 => ?_) (fun hb8 => ?_)
  · rw [if_pos hb8] at hF
    refine K_region ?_
    refine C_val (V_assign (v := (.bool false)) (.bool _)) ?_
    refine C_nil ?_
    refine CW_ret ?_
    obtain rfl := Option.some.inj hF
    exact End_ret () (.tmp rfl rfl .nil) rfl (.sel .nil)
  rw [if_neg (by rw [hb8]; exact Bool.false_ne_true)] at hF
  refine CW_skip ?_
  refine K_in ?_
  refine K_region ?_
  refine C_val (V_fieldAddr (off := 1) fd126_1 (.tmp rfl rfl)) ?_
  refine C_at (.t .h) (fun hp => V_load (v := (.int .i64 a_a.To)) ag3 (.tmp rfl rfl) hp.2 rfl rfl) ?_
  refine C_val (V_fieldAddr (off := 1) fd126_1 (.tmp rfl rfl)) ?_
  refine C_at .h (fun hp => V_load (v := (.int .i64 a_b.To)) ag3 (.tmp rfl rfl) hp.2 rfl rfl) ?_
  refine C_val (V_neq (i := a_a.To) (j := a_b.To) (.tmp rfl rfl) (.tmp rfl rfl)) ?_
  refine C_nil ?_
  refine CW_cond (b := ((a_a.To : Int) != a_b.To)) (.tmp rfl rfl) (fun hb7 => ?_) (fun hb7 => ?_)
  · rw [if_pos hb7] at hF
    refine K_region ?_
    refine C_val (V_assign (v := (.bool false)) (.bool _)) ?_
    refine C_nil ?_
    refine CW_ret ?_
    obtain rfl := Option.some.inj hF
    exact End_ret () (.tmp rfl rfl .nil) rfl (.sel .nil)
  rw [if_neg (by rw [hb7]; exact Bool.false_ne_true)] at hF
  refine CW_skip ?_
  refine K_in ?_
  refine K_region ?_
  refine C_val (V_fieldAddr (off := 2) fd126_2 (.tmp rfl rfl)) ?_
  refine C_at (.t .h) (fun hp => V_load (v := v0_2.v) ag45 (.tmp rfl rfl) hp.2 rfl rfl) ?_
  refine C_val (V_fieldAddr (off := 2) fd126_2 (.tmp rfl rfl)) ?_
  refine C_at .h (fun hp => V_load (v := v1_2.v) ag45 (.tmp rfl rfl) hp.2 rfl rfl) ?_
  obtain ⟨r3, hx4, hF⟩ := bind_some hF
  refine C_x0 (.rd (.t (.t .h)) rfl (.rd (.t (.t (.t .h))) rfl .nil)) (X_callS cf31 (.cons (.tmp rfl rfl) (.cons (.tmp rfl rfl) .nil)) (l_eqIntS_ok a_a.Map v0_2 a_b.Map v1_2 _ hx4)) (fun _ => ?_)
  refine C_val (V_not (b := r3) (.tmp rfl rfl)) ?_
  refine C_nil ?_
  refine CW_cond (b := (!r3)) (.tmp rfl rfl) (fun hb6 => ?_) (fun hb6 => ?_)
  · rw [if_pos hb6] at hF
    refine K_region ?_
    refine C_val (V_assign (v := (.bool false)) (.bool _)) ?_
    refine C_nil ?_
    refine CW_ret ?_
    obtain rfl := Option.some.inj hF
    exact End_ret () (.tmp rfl rfl .nil) rfl (.sel .nil)
  rw [if_neg (by rw [hb6]; exact Bool.false_ne_true)] at hF
  refine CW_skip ?_
  refine K_region ?_
  refine C_val (V_assign (v := (.bool true)) (.bool _)) ?_
  refine C_nil ?_
  refine CW_ret ?_
  obtain rfl := Option.some.inj hF
  exact End_ret () (.tmp rfl rfl .nil) rfl (.sel .nil)

/-! laws.eqRuleS -/
def l_eqRuleS_L1 (a_b : List Rule) : List Rule → Nat → Option (Bool)
  | [], k4 => some true
  | x6 :: rest5, k4 => (ix a_b (k4 : Int)).bind fun x16 =>
    (l_eqRule x6 x16).bind fun r23 =>
    if (!r23) then (
      some false)
    else (
      l_eqRuleS_L1 a_b rest5 (k4 + 1))
def l_eqRuleS (a_a : List Rule) (a_b : List Rule) : Option (Bool) :=
  if (((a_a.length : Int) : Int) != (a_b.length : Int)) then (
    some false)
  else (
    l_eqRuleS_L1 a_b a_a 0)
theorem l_eqRuleS_ok (a_a : List Rule) (v0_0 : Sv) (a_b : List Rule) (v1_0 : Sv) (R : Bool) (hF : l_eqRuleS a_a a_b = some R) :
    Fw.Spec Try.prog 66 [v0_0.v, v1_0.v] [crd (RdS 126 rd126) v0_0.v a_a, crd (RdS 126 rd126) v1_0.v a_b] (fun _ : Unit => (.bool R)) (fun _ => []) := by
  refine Spec_enter (n := 27) Try.func66 rfl rfl (rs := [.tmp 4]) rfl rfl rfl ?_
  intro H0 F0
  unfold l_eqRuleS at hF
  refine K_region ?_
  refine C_val (V_assign (v := (.bool false)) (.bool _)) ?_
  refine C_nil ?_
  refine K_in ?_
  refine K_region ?_
  refine C_val (V_move (v := v0_0.v) (.tmp rfl rfl)) ?_
  refine C_at .h (fun hp => V_lenR (l := a_a.length) sl46 (.tmp rfl rfl) (crd_len hp)) ?_
  refine C_val (V_move (v := v1_0.v) (.tmp rfl rfl)) ?_
  refine C_at (.t .h) (fun hp => V_lenR (l := a_b.length) sl46 (.tmp rfl rfl) (crd_len hp)) ?_
  refine C_val (V_neq (i := (a_a.length : Int)) (j := (a_b.length : Int)) (.tmp rfl rfl) (.tmp rfl rfl)) ?_
  refine C_nil ?_
  refine CW_cond (b := (((a_a.length : Int) : Int) != (a_b.length : Int))) (.tmp rfl rfl) (fun hb28 => ?_) (fun hb28 => ?_)
  · rw [if_pos hb28] at hF
    refine K_region ?_
    refine C_val (V_assign (v := (.bool false)) (.bool _)) ?_
    refine C_nil ?_
    refine CW_ret ?_
    obtain rfl := Option.some.inj hF
    exact End_ret () (.tmp rfl rfl .nil) rfl (.sel .nil)
  rw [if_neg (by rw [hb28]; exact Bool.false_ne_true)] at hF
  refine CW_skip ?_
  refine K_in ?_
  refine K_region ?_
  refine C_val (V_assign (v := (.int .i64 0)) (.int _ _)) ?_
  refine C_nil ?_
  refine CW_block ?_
  refine CW_loop (m := a_a.length) (fun m2 f' cs' => ∃ (g : Fr) (k4 : Nat) (rest5 : List Rule), m2 = rest5.length ∧ f' = updL g [(0, v0_0.v), (1, v1_0.v), (5, (.int .i64 (k4 : Int)))] ∧ List.drop k4 a_a = rest5 ∧ Ent cs' [crd (RdS 126 rd126) v0_0.v a_a, crd (RdS 126 rd126) v1_0.v a_b] ∧ l_eqRuleS_L1 a_b rest5 k4 = some R) ⟨_, 0, _, rfl, (EqL.cons rfl (EqL.cons rfl (EqL.cons rfl (EqL.nil)))).eq, rfl, (.sel (.rd .h rfl (.rd (.t .h) rfl .nil))), hF⟩ ?_
  clear hF
  rintro m2 _ _ ⟨g3, k4, rest5, rfl, rfl, hd7, hE, hF⟩
  refine K_ent hE ?_
  clear hE
  refine K_pure (c := crd (RdS 126 rd126) v0_0.v a_a) .h crd_bound (fun hbd12 => ?_)
  rcases rest5 with _ | ⟨x6, rest5⟩
  · have hk8 := List.drop_eq_nil_iff.1 hd7
    have hfe11 : (decide (((k4 : Int) : Int) < (a_a.length : Int))) = false := decide_eq_false (by omega)
    rw [l_eqRuleS_L1] at hF
    refine K_in ?_
    refine K_region ?_
    refine C_val (V_move (v := (.int .i64 (k4 : Int))) (.tmp rfl rfl)) ?_
    refine C_val (V_move (v := v0_0.v) (.tmp rfl rfl)) ?_
    refine C_at .h (fun hp => V_lenR (l := a_a.length) sl46 (.tmp rfl rfl) (crd_len hp)) ?_
    refine C_val (V_lss (i := (k4 : Int)) (j := (a_a.length : Int)) (.tmp rfl rfl) (.tmp rfl rfl)) ?_
    refine C_nil ?_
    refine CW_cond (b := (decide (((k4 : Int) : Int) < (a_a.length : Int)))) (.tmp rfl rfl) (fun hb => absurd (hfe11.symm.trans hb) (by decide)) (fun _ => ?_)
    refine CW_exit ?_
    refine CThen_exit ?_
    refine CThen_exit ?_
    refine CIn_self ?_
    refine K_region ?_
    refine C_val (V_assign (v := (.bool true)) (.bool _)) ?_
    refine C_nil ?_
    refine CW_ret ?_
    obtain rfl := Option.some.inj hF
    exact End_ret () (.tmp rfl rfl .nil) rfl (.sel .nil)
  obtain ⟨hk8, hx9, hd10⟩ := drop_cons hd7
  have hfe11 : (decide (((k4 : Int) : Int) < (a_a.length : Int))) = true := decide_eq_true (by omega)
  rw [l_eqRuleS_L1] at hF
  refine K_in ?_
  refine K_region ?_
  refine C_val (V_move (v := (.int .i64 (k4 : Int))) (.tmp rfl rfl)) ?_
  refine C_val (V_move (v := v0_0.v) (.tmp rfl rfl)) ?_
  refine C_at .h (fun hp => V_lenR (l := a_a.length) sl46 (.tmp rfl rfl) (crd_len hp)) ?_
  refine C_val (V_lss (i := (k4 : Int)) (j := (a_a.length : Int)) (.tmp rfl rfl) (.tmp rfl rfl)) ?_
  refine C_nil ?_
  refine CW_cond (b := (decide (((k4 : Int) : Int) < (a_a.length : Int)))) (.tmp rfl rfl) (fun _ => ?_) (fun hb => absurd (hfe11.symm.trans hb) (by decide))
  refine CW_skip ?_
  refine K_block ?_
  refine K_draw [0, 1, 2, 3, 4, 5, 6, 7, 8, 9] [0, 0, 3, 7, 0, 0, 48, 112, 255, 511] [8] mixed (by decide +kernel) ?_
  refine D_val rfl .no (fun ha => V_move (v := v0_0.v) (EN ha (.tmp rfl rfl) rfl)) ?_
  refine D_val rfl .no (fun ha => V_move (v := (.int .i64 (k4 : Int))) (EN ha (.tmp rfl rfl) rfl)) ?_
  refine D_idx (a := x6) sl46 ty126.sz rfl .no (.tmp rfl rfl) (.tmp rfl rfl) rfl rfl .h (Int.natCast_nonneg k4) hx9 (fun k13 j14 => ?_)
  refine D_ldA1 (ul126_0_126 x6) ag126 ty126.sz rfl rfl .no (.tmp rfl rfl) rfl .h la126_0_126 (fun p15 => ?_)
  refine D_val rfl .no (fun ha => V_move (v := v1_0.v) (EN ha (.tmp rfl rfl) rfl)) ?_
  refine D_val rfl .no (fun ha => V_move (v := (.int .i64 (k4 : Int))) (EN ha (.tmp rfl rfl) rfl)) ?_
  obtain ⟨x16, hx17, hF⟩ := bind_some hF
  obtain ⟨hp18, hx19⟩ := ix_some hx17
  refine D_idx (a := x16) sl46 ty126.sz rfl .no (.tmp rfl rfl) (.tmp rfl rfl) rfl rfl (.t (.t (.t .h))) hp18 hx19 (fun k20 j21 => ?_)
  refine D_ldA1 (ul126_0_126 x16) ag126 ty126.sz rfl rfl .no (.tmp rfl rfl) rfl .h la126_0_126 (fun p22 => ?_)
  obtain ⟨r23, hx24, hF⟩ := bind_some hF
  refine D_act0 rfl rfl .no (.rd (.t (.t .h)) rfl (.rd .h rfl .nil)) .nil (fun ha => X_callS cf115 (.cons (EN ha (.tmp rfl rfl) rfl) (.cons (EN ha (.tmp rfl rfl) rfl) .nil)) (l_eqRule_ok x6 p15 x16 p22 _ hx24)) (fun _ => ?_)
  refine D_val rfl .no (fun ha => V_not (b := r23) (EN ha (.tmp rfl rfl) rfl)) ?_
  refine D_nil ?_
  refine CW_cond (b := (!r23)) (.tmp rfl rfl) (fun hb27 => ?_) (fun hb27 => ?_)
  · rw [if_pos hb27] at hF
    refine K_region ?_
    refine C_val (V_assign (v := (.bool false)) (.bool _)) ?_
    refine C_nil ?_
    refine CW_ret ?_
    obtain rfl := Option.some.inj hF
    exact End_ret () (.tmp rfl rfl .nil) rfl (.sel .nil)
  rw [if_neg (by rw [hb27]; exact Bool.false_ne_true)] at hF
  refine CW_skip ?_
  refine CW_region ?_
  refine C_val (V_move (v := (.int .i64 (k4 : Int))) (.tmp rfl rfl)) ?_
  refine C_val (V_add (i := (k4 : Int)) (j := 1) (.tmp rfl rfl) (.int _ _)) ?_
  refine C_val (V_assign (v := (.int .i64 (IntKind.i64.wrap ((k4 : Int) + 1)))) (.tmp rfl rfl)) ?_
  refine C_nil ?_
  have hw26 : IntKind.i64.wrap ((k4 : Int) + 1) = ((k4 + 1 : Nat) : Int) := by rw [wrap_in (by omega) (by omega)]; rfl
  rw [hw26]
  exact ⟨_, Nat.lt_succ_self _, _, k4 + 1, rest5, rfl, (EqL.cons rfl (EqL.cons rfl (EqL.cons rfl (EqL.nil)))).eq, hd10, (.sel (.rd (.t (.t (.t (.t .h)))) rfl (.rd (.t (.t (.t (.t (.t .h))))) rfl .nil))), hF⟩

/-! laws.eqFact -/
def l_eqFact (a_a : Fact) (a_b : Fact) : Option (Bool) :=
  if ((a_a.Rel : Int) != a_b.Rel) then (
    some false)
  else (
    (l_eqIntS a_a.Values a_b.Values).bind fun r3 =>
    if (!r3) then (
      some false)
    else (
      some true))
theorem l_eqFact_ok (a_a : Fact) (v0_1 : Sv) (a_b : Fact) (v1_1 : Sv) (R : Bool) (hF : l_eqFact a_a a_b = some R) :
    Fw.Spec Try.prog 146 [(.agg [(.int .i64 a_a.Rel), v0_1.v].toArray), (.agg [(.int .i64 a_b.Rel), v1_1.v].toArray)] [crd (RdS 3 rdInt) v0_1.v a_a.Values, crd (RdS 3 rdInt) v1_1.v a_b.Values] (fun _ : Unit => (.bool R)) (fun _ => []) := by
  refine Spec_enter (n := 16) Try.func146 rfl rfl (rs := [.tmp 4]) rfl rfl rfl ?_
  intro H0 F0
  unfold l_eqFact at hF
  refine K_region ?_
  refine C_newR rfl (N_box (g := false) (v := (.agg [(.int .i64 a_a.Rel), v0_1.v].toArray)) ty157.sz (.tmp rfl rfl) rfl) (fun k1 => ?_)
  refine C_newR rfl (N_box (g := false) (v := (.agg [(.int .i64 a_b.Rel), v1_1.v].toArray)) ty157.sz (.tmp rfl rfl) rfl) (fun k2 => ?_)
  refine C_val (V_assign (v := (.bool false)) (.bool _)) ?_
  refine C_nil ?_
  refine K_in ?_
  refine K_region ?_
  refine C_val (V_fieldAddr (off := 0) fd157_0 (.tmp rfl rfl)) ?_
  refine C_at (.t .h) (fun hp => V_load (v := (.int .i64 a_a.Rel)) ag3 (.tmp rfl rfl) hp.2 rfl rfl) ?_
  refine C_val (V_fieldAddr (off := 0) fd157_0 (.tmp rfl rfl)) ?_
  refine C_at .h (fun hp => V_load (v := (.int .i64 a_b.Rel)) ag3 (.tmp rfl rfl) hp.2 rfl rfl) ?_
  refine C_val (V_neq (i := a_a.Rel) (j := a_b.Rel) (.tmp rfl rfl) (.tmp rfl rfl)) ?_
  refine C_nil ?_
  refine CW_cond (b := ((a_a.Rel : Int) != a_b.Rel)) (.tmp rfl rfl) (fun hb7 => ?_) (fun hb7 => ?_)
  · rw [if_pos hb7] at hF
    refine K_region ?_
    refine C_val (V_assign (v := (.bool false)) (.bool _)) ?_
    refine C_nil ?_
    refine CW_ret ?_
    obtain rfl := Option.some.inj hF
    exact End_ret () (.tmp rfl rfl .nil) rfl (.sel .nil)
  rw [if_neg (by rw [hb7]; exact Bool.false_ne_true)] at hF
  refine CW_skip ?_
  refine K_in ?_
  refine K_region ?_
  refine C_val (V_fieldAddr (off := 1) fd157_1 (.tmp rfl rfl)) ?_
  refine C_at (.t .h) (fun hp => V_load (v := v0_1.v) ag45 (.tmp rfl rfl) hp.2 rfl rfl) ?_
  refine C_val (V_fieldAddr (off := 1) fd157_1 (.tmp rfl rfl)) ?_
  refine C_at .h (fun hp => V_load (v := v1_1.v) ag45 (.tmp rfl rfl) hp.2 rfl rfl) ?_
  obtain ⟨r3, hx4, hF⟩ := bind_some hF
  refine C_x0 (.rd (.t (.t .h)) rfl (.rd (.t (.t (.t .h))) rfl .nil)) (X_callS cf31 (.cons (.tmp rfl rfl) (.cons (.tmp rfl rfl) .nil)) (l_eqIntS_ok a_a.Values v0_1 a_b.Values v1_1 _ hx4)) (fun _ => ?_)
  refine C_val (V_not (b := r3) (.tmp rfl rfl)) ?_
  refine C_nil ?_
  refine CW_cond (b := (!r3)) (.tmp rfl rfl) (fun hb6 => ?_) (fun hb6 => ?_)
  · rw [if_pos hb6] at hF
    refine K_region ?_
    refine C_val (V_assign (v := (.bool false)) (.bool _)) ?_
    refine C_nil ?_
    refine CW_ret ?_
    obtain rfl := Option.some.inj hF
    exact End_ret () (.tmp rfl rfl .nil) rfl (.sel .nil)
  rw [if_neg (by rw [hb6]; exact Bool.false_ne_true)] at hF
  refine CW_skip ?_
  refine K_region ?_
  refine C_val (V_assign (v := (.bool true)) (.bool _)) ?_
  refine C_nil ?_
  refine CW_ret ?_
  obtain rfl := Option.some.inj hF
  exact End_ret () (.tmp rfl rfl .nil) rfl (.sel .nil)

/-! laws.eqFactS -/
def l_eqFactS_L1 (a_b : List Fact) : List Fact → Nat → Option (Bool)
  | [], k4 => some true
  | x6 :: rest5, k4 => (ix a_b (k4 : Int)).bind fun x16 =>
    (l_eqFact x6 x16).bind fun r23 =>
    if (!r23) then (
      some false)
    else (
      l_eqFactS_L1 a_b rest5 (k4 + 1))
def l_eqFactS (a_a : List Fact) (a_b : List Fact) : Option (Bool) :=
  if (((a_a.length : Int) : Int) != (a_b.length : Int)) then (
    some false)
  else (
    l_eqFactS_L1 a_b a_a 0)
theorem l_eqFactS_ok (a_a : List Fact) (v0_0 : Sv) (a_b : List Fact) (v1_0 : Sv) (R : Bool) (hF : l_eqFactS a_a a_b = some R) :
    Fw.Spec Try.prog 116 [v0_0.v, v1_0.v] [crd (RdS 157 rd157) v0_0.v a_a, crd (RdS 157 rd157) v1_0.v a_b] (fun _ : Unit => (.bool R)) (fun _ => []) := by
  refine Spec_enter (n := 27) Try.func116 rfl rfl (rs := [.tmp 4]) rfl rfl rfl ?_
  intro H0 F0
  unfold l_eqFactS at hF
  refine K_region ?_
  refine C_val (V_assign (v := (.bool false)) (.bool _)) ?_
  refine C_nil ?_
  refine K_in ?_
  refine K_region ?_
  refine C_val (V_move (v := v0_0.v) (.tmp rfl rfl)) ?_
  refine C_at .h (fun hp => V_lenR (l := a_a.length) sl47 (.tmp rfl rfl) (crd_len hp)) ?_
  refine C_val (V_move (v := v1_0.v) (.tmp rfl rfl)) ?_
  refine C_at (.t .h) (fun hp => V_lenR (l := a_b.length) sl47 (.tmp rfl rfl) (crd_len hp)) ?_
  refine C_val (V_neq (i := (a_a.length : Int)) (j := (a_b.length : Int)) (.tmp rfl rfl) (.tmp rfl rfl)) ?_
  refine C_nil ?_
  refine CW_cond (b := (((a_a.length : Int) : Int) != (a_b.length : Int))) (.tmp rfl rfl) (fun hb28 => ?_) (fun hb28 => ?_)
  · rw [if_pos hb28] at hF
    refine K_region ?_
    refine C_val (V_assign (v := (.bool false)) (.bool _)) ?_
    refine C_nil ?_
    refine CW_ret ?_
    obtain rfl := Option.some.inj hF
    exact End_ret () (.tmp rfl rfl .nil) rfl (.sel .nil)
  rw [if_neg (by rw [hb28]; exact Bool.false_ne_true)] at hF
  refine CW_skip ?_
  refine K_in ?_
  refine K_region ?_
  refine C_val (V_assign (v := (.int .i64 0)) (.int _ _)) ?_
  refine C_nil ?_
  refine CW_block ?_
  refine CW_loop (m := a_a.length) (fun m2 f' cs' => ∃ (g : Fr) (k4 : Nat) (rest5 : List Fact), m2 = rest5.length ∧ f' = updL g [(0, v0_0.v), (1, v1_0.v), (5, (.int .i64 (k4 : Int)))] ∧ List.drop k4 a_a = rest5 ∧ Ent cs' [crd (RdS 157 rd157) v0_0.v a_a, crd (RdS 157 rd157) v1_0.v a_b] ∧ l_eqFactS_L1 a_b rest5 k4 = some R) ⟨_, 0, _, rfl, (EqL.cons rfl (EqL.cons rfl (EqL.cons rfl (EqL.nil)))).eq, rfl, (.sel (.rd .h rfl (.rd (.t .h) rfl .nil))), hF⟩ ?_
  clear hF
  rintro m2 _ _ ⟨g3, k4, rest5, rfl, rfl, hd7, hE, hF⟩
  refine K_ent hE ?_
  clear hE
  refine K_pure (c := crd (RdS 157 rd157) v0_0.v a_a) .h crd_bound (fun hbd12 => ?_)
  rcases rest5 with _ | ⟨x6, rest5⟩
  · have hk8 := List.drop_eq_nil_iff.1 hd7
    have hfe11 : (decide (((k4 : Int) : Int) < (a_a.length : Int))) = false := decide_eq_false (by omega)
    rw [l_eqFactS_L1] at hF
    refine K_in ?_
    refine K_region ?_
    refine C_val (V_move (v := (.int .i64 (k4 : Int))) (.tmp rfl rfl)) ?_
    refine C_val (V_move (v := v0_0.v) (.tmp rfl rfl)) ?_
    refine C_at .h (fun hp => V_lenR (l := a_a.length) sl47 (.tmp rfl rfl) (crd_len hp)) ?_
    refine C_val (V_lss (i := (k4 : Int)) (j := (a_a.length : Int)) (.tmp rfl rfl) (.tmp rfl rfl)) ?_
    refine C_nil ?_
    refine CW_cond (b := (decide (((k4 : Int) : Int) < (a_a.length : Int)))) (.tmp rfl rfl) (fun hb => absurd (hfe11.symm.trans hb) (by decide)) (fun _ => ?_)
    refine CW_exit ?_
    refine CThen_exit ?_
    refine CThen_exit ?_
    refine CIn_self ?_
    refine K_region ?_
    refine C_val (V_assign (v := (.bool true)) (.bool _)) ?_
    refine C_nil ?_
    refine CW_ret ?_
    obtain rfl := Option.some.inj hF
    exact End_ret () (.tmp rfl rfl .nil) rfl (.sel .nil)
  obtain ⟨hk8, hx9, hd10⟩ := drop_cons hd7
  have hfe11 : (decide (((k4 : Int) : Int) < (a_a.length : Int))) = true := decide_eq_true (by omega)
  rw [l_eqFactS_L1] at hF
  refine K_in ?_
  refine K_region ?_
  refine C_val (V_move (v := (.int .i64 (k4 : Int))) (.tmp rfl rfl)) ?_
  refine C_val (V_move (v := v0_0.v) (.tmp rfl rfl)) ?_
  refine C_at .h (fun hp => V_lenR (l := a_a.length) sl47 (.tmp rfl rfl) (crd_len hp)) ?_
  refine C_val (V_lss (i := (k4 : Int)) (j := (a_a.length : Int)) (.tmp rfl rfl) (.tmp rfl rfl)) ?_
  refine C_nil ?_
  refine CW_cond (b := (decide (((k4 : Int) : Int) < (a_a.length : Int)))) (.tmp rfl rfl) (fun _ => ?_) (fun hb => absurd (hfe11.symm.trans hb) (by decide))
  refine CW_skip ?_
  refine K_block ?_
  refine K_draw [0, 1, 2, 3, 4, 5, 6, 7, 8, 9] [0, 0, 3, 7, 0, 0, 48, 112, 255, 511] [8] mixed (by decide +kernel) ?_
  refine D_val rfl .no (fun ha => V_move (v := v0_0.v) (EN ha (.tmp rfl rfl) rfl)) ?_
  refine D_val rfl .no (fun ha => V_move (v := (.int .i64 (k4 : Int))) (EN ha (.tmp rfl rfl) rfl)) ?_
  refine D_idx (a := x6) sl47 ty157.sz rfl .no (.tmp rfl rfl) (.tmp rfl rfl) rfl rfl .h (Int.natCast_nonneg k4) hx9 (fun k13 j14 => ?_)
  refine D_ldA1 (ul157_0_157 x6) ag157 ty157.sz rfl rfl .no (.tmp rfl rfl) rfl .h la157_0_157 (fun p15 => ?_)
  refine D_val rfl .no (fun ha => V_move (v := v1_0.v) (EN ha (.tmp rfl rfl) rfl)) ?_
  refine D_val rfl .no (fun ha => V_move (v := (.int .i64 (k4 : Int))) (EN ha (.tmp rfl rfl) rfl)) ?_
  obtain ⟨x16, hx17, hF⟩ := bind_some hF
  obtain ⟨hp18, hx19⟩ := ix_some hx17
  refine D_idx (a := x16) sl47 ty157.sz rfl .no (.tmp rfl rfl) (.tmp rfl rfl) rfl rfl (.t (.t (.t .h))) hp18 hx19 (fun k20 j21 => ?_)
  refine D_ldA1 (ul157_0_157 x16) ag157 ty157.sz rfl rfl .no (.tmp rfl rfl) rfl .h la157_0_157 (fun p22 => ?_)
  obtain ⟨r23, hx24, hF⟩ := bind_some hF
  refine D_act0 rfl rfl .no (.rd (.t (.t .h)) rfl (.rd .h rfl .nil)) .nil (fun ha => X_callS cf146 (.cons (EN ha (.tmp rfl rfl) rfl) (.cons (EN ha (.tmp rfl rfl) rfl) .nil)) (l_eqFact_ok x6 p15 x16 p22 _ hx24)) (fun _ => ?_)
  refine D_val rfl .no (fun ha => V_not (b := r23) (EN ha (.tmp rfl rfl) rfl)) ?_
  refine D_nil ?_
  refine CW_cond (b := (!r23)) (.tmp rfl rfl) (fun hb27 => ?_) (fun hb27 => ?_)
  · rw [if_pos hb27] at hF
    refine K_region ?_
    refine C_val (V_assign (v := (.bool false)) (.bool _)) ?_
    refine C_nil ?_
    refine CW_ret ?_
    obtain rfl := Option.some.inj hF
    exact End_ret () (.tmp rfl rfl .nil) rfl (.sel .nil)
  rw [if_neg (by rw [hb27]; exact Bool.false_ne_true)] at hF
  refine CW_skip ?_
  refine CW_region ?_
  refine C_val (V_move (v := (.int .i64 (k4 : Int))) (.tmp rfl rfl)) ?_
  refine C_val (V_add (i := (k4 : Int)) (j := 1) (.tmp rfl rfl) (.int _ _)) ?_
  refine C_val (V_assign (v := (.int .i64 (IntKind.i64.wrap ((k4 : Int) + 1)))) (.tmp rfl rfl)) ?_
  refine C_nil ?_
  have hw26 : IntKind.i64.wrap ((k4 : Int) + 1) = ((k4 + 1 : Nat) : Int) := by rw [wrap_in (by omega) (by omega)]; rfl
  rw [hw26]
  exact ⟨_, Nat.lt_succ_self _, _, k4 + 1, rest5, rfl, (EqL.cons rfl (EqL.cons rfl (EqL.cons rfl (EqL.nil)))).eq, hd10, (.sel (.rd (.t (.t (.t (.t .h)))) rfl (.rd (.t (.t (.t (.t (.t .h))))) rfl .nil))), hF⟩

/-! laws.eqSource -/
def l_eqSource (a_a : Source) (a_b : Source) : Option (Bool) :=
  (l_eqFactS a_a.Facts a_b.Facts).bind fun r3 =>
  if (!r3) then (
    some false)
  else (
    if ((a_a.Version : Int) != a_b.Version) then (
      some false)
    else (
      some true))
theorem l_eqSource_ok (a_a : Source) (v0_0 : Sv) (a_b : Source) (v1_0 : Sv) (R : Bool) (hF : l_eqSource a_a a_b = some R) :
    Fw.Spec Try.prog 67 [(.agg [v0_0.v, (.int .i64 a_a.Version)].toArray), (.agg [v1_0.v, (.int .i64 a_b.Version)].toArray)] [crd (RdS 157 rd157) v0_0.v a_a.Facts, crd (RdS 157 rd157) v1_0.v a_b.Facts] (fun _ : Unit => (.bool R)) (fun _ => []) := by
  refine Spec_enter (n := 16) Try.func67 rfl rfl (rs := [.tmp 4]) rfl rfl rfl ?_
  intro H0 F0
  unfold l_eqSource at hF
  refine K_region ?_
  refine C_newR rfl (N_box (g := false) (v := (.agg [v0_0.v, (.int .i64 a_a.Version)].toArray)) ty49.sz (.tmp rfl rfl) rfl) (fun k1 => ?_)
  refine C_newR rfl (N_box (g := false) (v := (.agg [v1_0.v, (.int .i64 a_b.Version)].toArray)) ty49.sz (.tmp rfl rfl) rfl) (fun k2 => ?_)
  refine C_val (V_assign (v := (.bool false)) (.bool _)) ?_
  refine C_nil ?_
  refine K_in ?_
  refine K_region ?_
  refine C_val (V_fieldAddr (off := 0) fd49_0 (.tmp rfl rfl)) ?_
  refine C_at (.t .h) (fun hp => V_load (v := v0_0.v) ag47 (.tmp rfl rfl) hp.2 rfl rfl) ?_
  refine C_val (V_fieldAddr (off := 0) fd49_0 (.tmp rfl rfl)) ?_
  refine C_at .h (fun hp => V_load (v := v1_0.v) ag47 (.tmp rfl rfl) hp.2 rfl rfl) ?_
  obtain ⟨r3, hx4, hF⟩ := bind_some hF
  refine C_x0 (.rd (.t (.t .h)) rfl (.rd (.t (.t (.t .h))) rfl .nil)) (X_callS cf116 (.cons (.tmp rfl rfl) (.cons (.tmp rfl rfl) .nil)) (l_eqFactS_ok a_a.Facts v0_0 a_b.Facts v1_0 _ hx4)) (fun _ => ?_)
  refine C_val (V_not (b := r3) (.tmp rfl rfl)) ?_
  refine C_nil ?_
  refine CW_cond (b := (!r3)) (.tmp rfl rfl) (fun hb7 => ?_) (fun hb7 => ?_)
  · rw [if_pos hb7] at hF
    refine K_region ?_
    refine C_val (V_assign (v := (.bool false)) (.bool _)) ?_
    refine C_nil ?_
    refine CW_ret ?_
    obtain rfl := Option.some.inj hF
    exact End_ret () (.tmp rfl rfl .nil) rfl (.sel .nil)
  rw [if_neg (by rw [hb7]; exact Bool.false_ne_true)] at hF
  refine CW_skip ?_
  refine K_in ?_
  refine K_region ?_
  refine C_val (V_fieldAddr (off := 1) fd49_1 (.tmp rfl rfl)) ?_
  refine C_at (.t .h) (fun hp => V_load (v := (.int .i64 a_a.Version)) ag3 (.tmp rfl rfl) hp.2 rfl rfl) ?_
  refine C_val (V_fieldAddr (off := 1) fd49_1 (.tmp rfl rfl)) ?_
  refine C_at .h (fun hp => V_load (v := (.int .i64 a_b.Version)) ag3 (.tmp rfl rfl) hp.2 rfl rfl) ?_
  refine C_val (V_neq (i := a_a.Version) (j := a_b.Version) (.tmp rfl rfl) (.tmp rfl rfl)) ?_
  refine C_nil ?_
  refine CW_cond (b := ((a_a.Version : Int) != a_b.Version)) (.tmp rfl rfl) (fun hb6 => ?_) (fun hb6 => ?_)
  · rw [if_pos hb6] at hF
    refine K_region ?_
    refine C_val (V_assign (v := (.bool false)) (.bool _)) ?_
    refine C_nil ?_
    refine CW_ret ?_
    obtain rfl := Option.some.inj hF
    exact End_ret () (.tmp rfl rfl .nil) rfl (.sel .nil)
  rw [if_neg (by rw [hb6]; exact Bool.false_ne_true)] at hF
  refine CW_skip ?_
  refine K_region ?_
  refine C_val (V_assign (v := (.bool true)) (.bool _)) ?_
  refine C_nil ?_
  refine CW_ret ?_
  obtain rfl := Option.some.inj hF
  exact End_ret () (.tmp rfl rfl .nil) rfl (.sel .nil)

/-! laws.eqAccess -/
def l_eqAccess (a_a : Access) (a_b : Access) : Option (Bool) :=
  if ((a_a.Method : Int) != a_b.Method) then (
    some false)
  else (
    (l_eqIntS a_a.Values a_b.Values).bind fun r3 =>
    if (!r3) then (
      some false)
    else (
      some true))
theorem l_eqAccess_ok (a_a : Access) (v0_1 : Sv) (a_b : Access) (v1_1 : Sv) (R : Bool) (hF : l_eqAccess a_a a_b = some R) :
    Fw.Spec Try.prog 59 [(.agg [(.int .i64 a_a.Method), v0_1.v].toArray), (.agg [(.int .i64 a_b.Method), v1_1.v].toArray)] [crd (RdS 3 rdInt) v0_1.v a_a.Values, crd (RdS 3 rdInt) v1_1.v a_b.Values] (fun _ : Unit => (.bool R)) (fun _ => []) := by
  refine Spec_enter (n := 16) Try.func59 rfl rfl (rs := [.tmp 4]) rfl rfl rfl ?_
  intro H0 F0
  unfold l_eqAccess at hF
  refine K_region ?_
  refine C_newR rfl (N_box (g := false) (v := (.agg [(.int .i64 a_a.Method), v0_1.v].toArray)) ty100.sz (.tmp rfl rfl) rfl) (fun k1 => ?_)
  refine C_newR rfl (N_box (g := false) (v := (.agg [(.int .i64 a_b.Method), v1_1.v].toArray)) ty100.sz (.tmp rfl rfl) rfl) (fun k2 => ?_)
  refine C_val (V_assign (v := (.bool false)) (.bool _)) ?_
  refine C_nil ?_
  refine K_in ?_
  refine K_region ?_
  refine C_val (V_fieldAddr (off := 0) fd100_0 (.tmp rfl rfl)) ?_
  refine C_at (.t .h) (fun hp => V_load (v := (.int .i64 a_a.Method)) ag3 (.tmp rfl rfl) hp.2 rfl rfl) ?_
  refine C_val (V_fieldAddr (off := 0) fd100_0 (.tmp rfl rfl)) ?_
  refine C_at .h (fun hp => V_load (v := (.int .i64 a_b.Method)) ag3 (.tmp rfl rfl) hp.2 rfl rfl) ?_
  refine C_val (V_neq (i := a_a.Method) (j := a_b.Method) (.tmp rfl rfl) (.tmp rfl rfl)) ?_
  refine C_nil ?_
  refine CW_cond (b := ((a_a.Method : Int) != a_b.Method)) (.tmp rfl rfl) (fun hb7 => ?_) (fun hb7 => ?_)
  · rw [if_pos hb7] at hF
    refine K_region ?_
    refine C_val (V_assign (v := (.bool false)) (.bool _)) ?_
    refine C_nil ?_
    refine CW_ret ?_
    obtain rfl := Option.some.inj hF
    exact End_ret () (.tmp rfl rfl .nil) rfl (.sel .nil)
  rw [if_neg (by rw [hb7]; exact Bool.false_ne_true)] at hF
  refine CW_skip ?_
  refine K_in ?_
  refine K_region ?_
  refine C_val (V_fieldAddr (off := 1) fd100_1 (.tmp rfl rfl)) ?_
  refine C_at (.t .h) (fun hp => V_load (v := v0_1.v) ag45 (.tmp rfl rfl) hp.2 rfl rfl) ?_
  refine C_val (V_fieldAddr (off := 1) fd100_1 (.tmp rfl rfl)) ?_
  refine C_at .h (fun hp => V_load (v := v1_1.v) ag45 (.tmp rfl rfl) hp.2 rfl rfl) ?_
  obtain ⟨r3, hx4, hF⟩ := bind_some hF
  refine C_x0 (.rd (.t (.t .h)) rfl (.rd (.t (.t (.t .h))) rfl .nil)) (X_callS cf31 (.cons (.tmp rfl rfl) (.cons (.tmp rfl rfl) .nil)) (l_eqIntS_ok a_a.Values v0_1 a_b.Values v1_1 _ hx4)) (fun _ => ?_)
  refine C_val (V_not (b := r3) (.tmp rfl rfl)) ?_
  refine C_nil ?_
  refine CW_cond (b := (!r3)) (.tmp rfl rfl) (fun hb6 => ?_) (fun hb6 => ?_)
  · rw [if_pos hb6] at hF
    refine K_region ?_
    refine C_val (V_assign (v := (.bool false)) (.bool _)) ?_
    refine C_nil ?_
    refine CW_ret ?_
    obtain rfl := Option.some.inj hF
    exact End_ret () (.tmp rfl rfl .nil) rfl (.sel .nil)
  rw [if_neg (by rw [hb6]; exact Bool.false_ne_true)] at hF
  refine CW_skip ?_
  refine K_region ?_
  refine C_val (V_assign (v := (.bool true)) (.bool _)) ?_
  refine C_nil ?_
  refine CW_ret ?_
  obtain rfl := Option.some.inj hF
  exact End_ret () (.tmp rfl rfl .nil) rfl (.sel .nil)

/-! laws.eqStored -/
def l_eqStored (a_a : Stored) (a_b : Stored) : Option (Bool) :=
  (l_eqAccess a_a.Access a_b.Access).bind fun r3 =>
  if (!r3) then (
    some false)
  else (
    (l_eqFactS a_a.Facts a_b.Facts).bind fun r6 =>
    if (!r6) then (
      some false)
    else (
      if ((a_a.At : Int) != a_b.At) then (
        some false)
      else (
        some true)))
theorem l_eqStored_ok (a_a : Stored) (v0_1 : Sv) (v0_2 : Sv) (a_b : Stored) (v1_1 : Sv) (v1_2 : Sv) (R : Bool) (hF : l_eqStored a_a a_b = some R) :
    Fw.Spec Try.prog 147 [(.agg [(.int .i64 a_a.Access.Method), v0_1.v, v0_2.v, (.int .i64 a_a.At)].toArray), (.agg [(.int .i64 a_b.Access.Method), v1_1.v, v1_2.v, (.int .i64 a_b.At)].toArray)] [crd (RdS 3 rdInt) v0_1.v a_a.Access.Values, crd (RdS 157 rd157) v0_2.v a_a.Facts, crd (RdS 3 rdInt) v1_1.v a_b.Access.Values, crd (RdS 157 rd157) v1_2.v a_b.Facts] (fun _ : Unit => (.bool R)) (fun _ => []) := by
  refine Spec_enter (n := 22) Try.func147 rfl rfl (rs := [.tmp 4]) rfl rfl rfl ?_
  intro H0 F0
  unfold l_eqStored at hF
  refine K_region ?_
  refine C_newR rfl (N_box (g := false) (v := (.agg [(.int .i64 a_a.Access.Method), v0_1.v, v0_2.v, (.int .i64 a_a.At)].toArray)) ty159.sz (.tmp rfl rfl) rfl) (fun k1 => ?_)
  refine C_newR rfl (N_box (g := false) (v := (.agg [(.int .i64 a_b.Access.Method), v1_1.v, v1_2.v, (.int .i64 a_b.At)].toArray)) ty159.sz (.tmp rfl rfl) rfl) (fun k2 => ?_)
  refine C_val (V_assign (v := (.bool false)) (.bool _)) ?_
  refine C_nil ?_
  refine K_in ?_
  refine K_region ?_
  refine C_val (V_fieldAddr (off := 0) fd159_0 (.tmp rfl rfl)) ?_
  refine C_at (.t .h) (fun hp => V_loadA (s := 2) (l := [(.int .i64 a_a.Access.Method), v0_1.v]) ag100 ty100.sz (.tmp rfl rfl) hp.2 rfl (by decide) (Nat.le_of_ble_eq_true rfl) rfl) ?_
  refine C_val (V_fieldAddr (off := 0) fd159_0 (.tmp rfl rfl)) ?_
  refine C_at .h (fun hp => V_loadA (s := 2) (l := [(.int .i64 a_b.Access.Method), v1_1.v]) ag100 ty100.sz (.tmp rfl rfl) hp.2 rfl (by decide) (Nat.le_of_ble_eq_true rfl) rfl) ?_
  obtain ⟨r3, hx4, hF⟩ := bind_some hF
  refine C_x0 (.rd (.t (.t .h)) rfl (.rd (.t (.t (.t (.t .h)))) rfl .nil)) (X_callS cf59 (.cons (.tmp rfl rfl) (.cons (.tmp rfl rfl) .nil)) (l_eqAccess_ok a_a.Access v0_1 a_b.Access v1_1 _ hx4)) (fun _ => ?_)
  refine C_val (V_not (b := r3) (.tmp rfl rfl)) ?_
  refine C_nil ?_
  refine CW_cond (b := (!r3)) (.tmp rfl rfl) (fun hb11 => ?_) (fun hb11 => ?_)
  · rw [if_pos hb11] at hF
    refine K_region ?_
    refine C_val (V_assign (v := (.bool false)) (.bool _)) ?_
    refine C_nil ?_
    refine CW_ret ?_
    obtain rfl := Option.some.inj hF
    exact End_ret () (.tmp rfl rfl .nil) rfl (.sel .nil)
  rw [if_neg (by rw [hb11]; exact Bool.false_ne_true)] at hF
  refine CW_skip ?_
  refine K_in ?_
  refine K_region ?_
  refine C_val (V_fieldAddr (off := 2) fd159_1 (.tmp rfl rfl)) ?_
  refine C_at (.t .h) (fun hp => V_load (v := v0_2.v) ag47 (.tmp rfl rfl) hp.2 rfl rfl) ?_
  refine C_val (V_fieldAddr (off := 2) fd159_1 (.tmp rfl rfl)) ?_
  refine C_at .h (fun hp => V_load (v := v1_2.v) ag47 (.tmp rfl rfl) hp.2 rfl rfl) ?_
  obtain ⟨r6, hx7, hF⟩ := bind_some hF
  refine C_x0 (.rd (.t (.t (.t .h))) rfl (.rd (.t (.t (.t (.t (.t .h))))) rfl .nil)) (X_callS cf116 (.cons (.tmp rfl rfl) (.cons (.tmp rfl rfl) .nil)) (l_eqFactS_ok a_a.Facts v0_2 a_b.Facts v1_2 _ hx7)) (fun _ => ?_)
  refine C_val (V_not (b := r6) (.tmp rfl rfl)) ?_
  refine C_nil ?_
  refine CW_cond (b := (!r6)) (.tmp rfl rfl) (fun hb10 => ?_) (fun hb10 => ?_)
  · rw [if_pos hb10] at hF
    refine K_region ?_
    refine C_val (V_assign (v := (.bool false)) (.bool _)) ?_
    refine C_nil ?_
    refine CW_ret ?_
    obtain rfl := Option.some.inj hF
    exact End_ret () (.tmp rfl rfl .nil) rfl (.sel .nil)
  rw [if_neg (by rw [hb10]; exact Bool.false_ne_true)] at hF
  refine CW_skip ?_
  refine K_in ?_
  refine K_region ?_
  refine C_val (V_fieldAddr (off := 3) fd159_2 (.tmp rfl rfl)) ?_
  refine C_at (.t .h) (fun hp => V_load (v := (.int .i64 a_a.At)) ag3 (.tmp rfl rfl) hp.2 rfl rfl) ?_
  refine C_val (V_fieldAddr (off := 3) fd159_2 (.tmp rfl rfl)) ?_
  refine C_at .h (fun hp => V_load (v := (.int .i64 a_b.At)) ag3 (.tmp rfl rfl) hp.2 rfl rfl) ?_
  refine C_val (V_neq (i := a_a.At) (j := a_b.At) (.tmp rfl rfl) (.tmp rfl rfl)) ?_
  refine C_nil ?_
  refine CW_cond (b := ((a_a.At : Int) != a_b.At)) (.tmp rfl rfl) (fun hb9 => ?_) (fun hb9 => ?_)
  · rw [if_pos hb9] at hF
    refine K_region ?_
    refine C_val (V_assign (v := (.bool false)) (.bool _)) ?_
    refine C_nil ?_
    refine CW_ret ?_
    obtain rfl := Option.some.inj hF
    exact End_ret () (.tmp rfl rfl .nil) rfl (.sel .nil)
  rw [if_neg (by rw [hb9]; exact Bool.false_ne_true)] at hF
  refine CW_skip ?_
  refine K_region ?_
  refine C_val (V_assign (v := (.bool true)) (.bool _)) ?_
  refine C_nil ?_
  refine CW_ret ?_
  obtain rfl := Option.some.inj hF
  exact End_ret () (.tmp rfl rfl .nil) rfl (.sel .nil)

/-! laws.eqStoredS -/
def l_eqStoredS_L1 (a_b : List Stored) : List Stored → Nat → Option (Bool)
  | [], k4 => some true
  | x6 :: rest5, k4 => (ix a_b (k4 : Int)).bind fun x16 =>
    (l_eqStored x6 x16).bind fun r23 =>
    if (!r23) then (
      some false)
    else (
      l_eqStoredS_L1 a_b rest5 (k4 + 1))
def l_eqStoredS (a_a : List Stored) (a_b : List Stored) : Option (Bool) :=
  if (((a_a.length : Int) : Int) != (a_b.length : Int)) then (
    some false)
  else (
    l_eqStoredS_L1 a_b a_a 0)
theorem l_eqStoredS_ok (a_a : List Stored) (v0_0 : Sv) (a_b : List Stored) (v1_0 : Sv) (R : Bool) (hF : l_eqStoredS a_a a_b = some R) :
    Fw.Spec Try.prog 117 [v0_0.v, v1_0.v] [crd (RdS 159 rd159) v0_0.v a_a, crd (RdS 159 rd159) v1_0.v a_b] (fun _ : Unit => (.bool R)) (fun _ => []) := by
  refine Spec_enter (n := 27) Try.func117 rfl rfl (rs := [.tmp 4]) rfl rfl rfl ?_
  intro H0 F0
  unfold l_eqStoredS at hF
  refine K_region ?_
  refine C_val (V_assign (v := (.bool false)) (.bool _)) ?_
  refine C_nil ?_
  refine K_in ?_
  refine K_region ?_
  refine C_val (V_move (v := v0_0.v) (.tmp rfl rfl)) ?_
  refine C_at .h (fun hp => V_lenR (l := a_a.length) sl50 (.tmp rfl rfl) (crd_len hp)) ?_
  refine C_val (V_move (v := v1_0.v) (.tmp rfl rfl)) ?_
  refine C_at (.t .h) (fun hp => V_lenR (l := a_b.length) sl50 (.tmp rfl rfl) (crd_len hp)) ?_
  refine C_val (V_neq (i := (a_a.length : Int)) (j := (a_b.length : Int)) (.tmp rfl rfl) (.tmp rfl rfl)) ?_
  refine C_nil ?_
  refine CW_cond (b := (((a_a.length : Int) : Int) != (a_b.length : Int))) (.tmp rfl rfl) (fun hb28 => ?_) (fun hb28 => ?_)
  · rw [if_pos hb28] at hF
    refine K_region ?_
    refine C_val (V_assign (v := (.bool false)) (.bool _)) ?_
    refine C_nil ?_
    refine CW_ret ?_
    obtain rfl := Option.some.inj hF
    exact End_ret () (.tmp rfl rfl .nil) rfl (.sel .nil)
  rw [if_neg (by rw [hb28]; exact Bool.false_ne_true)] at hF
  refine CW_skip ?_
  refine K_in ?_
  refine K_region ?_
  refine C_val (V_assign (v := (.int .i64 0)) (.int _ _)) ?_
  refine C_nil ?_
  refine CW_block ?_
  refine CW_loop (m := a_a.length) (fun m2 f' cs' => ∃ (g : Fr) (k4 : Nat) (rest5 : List Stored), m2 = rest5.length ∧ f' = updL g [(0, v0_0.v), (1, v1_0.v), (5, (.int .i64 (k4 : Int)))] ∧ List.drop k4 a_a = rest5 ∧ Ent cs' [crd (RdS 159 rd159) v0_0.v a_a, crd (RdS 159 rd159) v1_0.v a_b] ∧ l_eqStoredS_L1 a_b rest5 k4 = some R) ⟨_, 0, _, rfl, (EqL.cons rfl (EqL.cons rfl (EqL.cons rfl (EqL.nil)))).eq, rfl, (.sel (.rd .h rfl (.rd (.t .h) rfl .nil))), hF⟩ ?_
  clear hF
  rintro m2 _ _ ⟨g3, k4, rest5, rfl, rfl, hd7, hE, hF⟩
  refine K_ent hE ?_
  clear hE
  refine K_pure (c := crd (RdS 159 rd159) v0_0.v a_a) .h crd_bound (fun hbd12 => ?_)
  rcases rest5 with _ | ⟨x6, rest5⟩
  · have hk8 := List.drop_eq_nil_iff.1 hd7
    have hfe11 : (decide (((k4 : Int) : Int) < (a_a.length : Int))) = false := decide_eq_false (by omega)
    rw [l_eqStoredS_L1] at hF
    refine K_in ?_
    refine K_region ?_
    refine C_val (V_move (v := (.int .i64 (k4 : Int))) (.tmp rfl rfl)) ?_
    refine C_val (V_move (v := v0_0.v) (.tmp rfl rfl)) ?_
    refine C_at .h (fun hp => V_lenR (l := a_a.length) sl50 (.tmp rfl rfl) (crd_len hp)) ?_
    refine C_val (V_lss (i := (k4 : Int)) (j := (a_a.length : Int)) (.tmp rfl rfl) (.tmp rfl rfl)) ?_
    refine C_nil ?_
    refine CW_cond (b := (decide (((k4 : Int) : Int) < (a_a.length : Int)))) (.tmp rfl rfl) (fun hb => absurd (hfe11.symm.trans hb) (by decide)) (fun _ => ?_)
    refine CW_exit ?_
    refine CThen_exit ?_
    refine CThen_exit ?_
    refine CIn_self ?_
    refine K_region ?_
    refine C_val (V_assign (v := (.bool true)) (.bool _)) ?_
    refine C_nil ?_
    refine CW_ret ?_
    obtain rfl := Option.some.inj hF
    exact End_ret () (.tmp rfl rfl .nil) rfl (.sel .nil)
  obtain ⟨hk8, hx9, hd10⟩ := drop_cons hd7
  have hfe11 : (decide (((k4 : Int) : Int) < (a_a.length : Int))) = true := decide_eq_true (by omega)
  rw [l_eqStoredS_L1] at hF
  refine K_in ?_
  refine K_region ?_
  refine C_val (V_move (v := (.int .i64 (k4 : Int))) (.tmp rfl rfl)) ?_
  refine C_val (V_move (v := v0_0.v) (.tmp rfl rfl)) ?_
  refine C_at .h (fun hp => V_lenR (l := a_a.length) sl50 (.tmp rfl rfl) (crd_len hp)) ?_
  refine C_val (V_lss (i := (k4 : Int)) (j := (a_a.length : Int)) (.tmp rfl rfl) (.tmp rfl rfl)) ?_
  refine C_nil ?_
  refine CW_cond (b := (decide (((k4 : Int) : Int) < (a_a.length : Int)))) (.tmp rfl rfl) (fun _ => ?_) (fun hb => absurd (hfe11.symm.trans hb) (by decide))
  refine CW_skip ?_
  refine K_block ?_
  refine K_draw [0, 1, 2, 3, 4, 5, 6, 7, 8, 9] [0, 0, 3, 7, 0, 0, 48, 112, 255, 511] [8] mixed (by decide +kernel) ?_
  refine D_val rfl .no (fun ha => V_move (v := v0_0.v) (EN ha (.tmp rfl rfl) rfl)) ?_
  refine D_val rfl .no (fun ha => V_move (v := (.int .i64 (k4 : Int))) (EN ha (.tmp rfl rfl) rfl)) ?_
  refine D_idx (a := x6) sl50 ty159.sz rfl .no (.tmp rfl rfl) (.tmp rfl rfl) rfl rfl .h (Int.natCast_nonneg k4) hx9 (fun k13 j14 => ?_)
  refine D_ldA2 (ul159_0_159 x6) ag159 ty159.sz rfl rfl .no (.tmp rfl rfl) rfl .h la159_0_159 (fun p15 => ?_)
  refine D_val rfl .no (fun ha => V_move (v := v1_0.v) (EN ha (.tmp rfl rfl) rfl)) ?_
  refine D_val rfl .no (fun ha => V_move (v := (.int .i64 (k4 : Int))) (EN ha (.tmp rfl rfl) rfl)) ?_
  obtain ⟨x16, hx17, hF⟩ := bind_some hF
  obtain ⟨hp18, hx19⟩ := ix_some hx17
  refine D_idx (a := x16) sl50 ty159.sz rfl .no (.tmp rfl rfl) (.tmp rfl rfl) rfl rfl (.t (.t (.t (.t .h)))) hp18 hx19 (fun k20 j21 => ?_)
  refine D_ldA2 (ul159_0_159 x16) ag159 ty159.sz rfl rfl .no (.tmp rfl rfl) rfl .h la159_0_159 (fun p22 => ?_)
  obtain ⟨r23, hx24, hF⟩ := bind_some hF
  refine D_act0 rfl rfl .no (.rd (.t (.t (.t .h))) rfl (.rd (.t (.t (.t (.t .h)))) rfl (.rd .h rfl (.rd (.t .h) rfl .nil)))) .nil (fun ha => X_callS cf147 (.cons (EN ha (.tmp rfl rfl) rfl) (.cons (EN ha (.tmp rfl rfl) rfl) .nil)) (l_eqStored_ok x6 p15.1 p15.2 x16 p22.1 p22.2 _ hx24)) (fun _ => ?_)
  refine D_val rfl .no (fun ha => V_not (b := r23) (EN ha (.tmp rfl rfl) rfl)) ?_
  refine D_nil ?_
  refine CW_cond (b := (!r23)) (.tmp rfl rfl) (fun hb27 => ?_) (fun hb27 => ?_)
  · rw [if_pos hb27] at hF
    refine K_region ?_
    refine C_val (V_assign (v := (.bool false)) (.bool _)) ?_
    refine C_nil ?_
    refine CW_ret ?_
    obtain rfl := Option.some.inj hF
    exact End_ret () (.tmp rfl rfl .nil) rfl (.sel .nil)
  rw [if_neg (by rw [hb27]; exact Bool.false_ne_true)] at hF
  refine CW_skip ?_
  refine CW_region ?_
  refine C_val (V_move (v := (.int .i64 (k4 : Int))) (.tmp rfl rfl)) ?_
  refine C_val (V_add (i := (k4 : Int)) (j := 1) (.tmp rfl rfl) (.int _ _)) ?_
  refine C_val (V_assign (v := (.int .i64 (IntKind.i64.wrap ((k4 : Int) + 1)))) (.tmp rfl rfl)) ?_
  refine C_nil ?_
  have hw26 : IntKind.i64.wrap ((k4 : Int) + 1) = ((k4 + 1 : Nat) : Int) := by rw [wrap_in (by omega) (by omega)]; rfl
  rw [hw26]
  exact ⟨_, Nat.lt_succ_self _, _, k4 + 1, rest5, rfl, (EqL.cons rfl (EqL.cons rfl (EqL.cons rfl (EqL.nil)))).eq, hd10, (.sel (.rd (.t (.t (.t (.t (.t (.t .h)))))) rfl (.rd (.t (.t (.t (.t (.t (.t (.t .h))))))) rfl .nil))), hF⟩

/-! laws.eqCache -/
def l_eqCache (a_a : Cache) (a_b : Cache) : Option (Bool) :=
  (l_eqStoredS a_a.Entries a_b.Entries).bind fun r3 =>
  if (!r3) then (
    some false)
  else (
    if ((a_a.Age : Int) != a_b.Age) then (
      some false)
    else (
      some true))
theorem l_eqCache_ok (a_a : Cache) (v0_0 : Sv) (a_b : Cache) (v1_0 : Sv) (R : Bool) (hF : l_eqCache a_a a_b = some R) :
    Fw.Spec Try.prog 68 [(.agg [v0_0.v, (.int .i64 a_a.Age)].toArray), (.agg [v1_0.v, (.int .i64 a_b.Age)].toArray)] [crd (RdS 159 rd159) v0_0.v a_a.Entries, crd (RdS 159 rd159) v1_0.v a_b.Entries] (fun _ : Unit => (.bool R)) (fun _ => []) := by
  refine Spec_enter (n := 16) Try.func68 rfl rfl (rs := [.tmp 4]) rfl rfl rfl ?_
  intro H0 F0
  unfold l_eqCache at hF
  refine K_region ?_
  refine C_newR rfl (N_box (g := false) (v := (.agg [v0_0.v, (.int .i64 a_a.Age)].toArray)) ty52.sz (.tmp rfl rfl) rfl) (fun k1 => ?_)
  refine C_newR rfl (N_box (g := false) (v := (.agg [v1_0.v, (.int .i64 a_b.Age)].toArray)) ty52.sz (.tmp rfl rfl) rfl) (fun k2 => ?_)
  refine C_val (V_assign (v := (.bool false)) (.bool _)) ?_
  refine C_nil ?_
  refine K_in ?_
  refine K_region ?_
  refine C_val (V_fieldAddr (off := 0) fd52_0 (.tmp rfl rfl)) ?_
  refine C_at (.t .h) (fun hp => V_load (v := v0_0.v) ag50 (.tmp rfl rfl) hp.2 rfl rfl) ?_
  refine C_val (V_fieldAddr (off := 0) fd52_0 (.tmp rfl rfl)) ?_
  refine C_at .h (fun hp => V_load (v := v1_0.v) ag50 (.tmp rfl rfl) hp.2 rfl rfl) ?_
  obtain ⟨r3, hx4, hF⟩ := bind_some hF
  refine C_x0 (.rd (.t (.t .h)) rfl (.rd (.t (.t (.t .h))) rfl .nil)) (X_callS cf117 (.cons (.tmp rfl rfl) (.cons (.tmp rfl rfl) .nil)) (l_eqStoredS_ok a_a.Entries v0_0 a_b.Entries v1_0 _ hx4)) (fun _ => ?_)
  refine C_val (V_not (b := r3) (.tmp rfl rfl)) ?_
  refine C_nil ?_
  refine CW_cond (b := (!r3)) (.tmp rfl rfl) (fun hb7 => ?_) (fun hb7 => ?_)
  · rw [if_pos hb7] at hF
    refine K_region ?_
    refine C_val (V_assign (v := (.bool false)) (.bool _)) ?_
    refine C_nil ?_
    refine CW_ret ?_
    obtain rfl := Option.some.inj hF
    exact End_ret () (.tmp rfl rfl .nil) rfl (.sel .nil)
  rw [if_neg (by rw [hb7]; exact Bool.false_ne_true)] at hF
  refine CW_skip ?_
  refine K_in ?_
  refine K_region ?_
  refine C_val (V_fieldAddr (off := 1) fd52_1 (.tmp rfl rfl)) ?_
  refine C_at (.t .h) (fun hp => V_load (v := (.int .i64 a_a.Age)) ag3 (.tmp rfl rfl) hp.2 rfl rfl) ?_
  refine C_val (V_fieldAddr (off := 1) fd52_1 (.tmp rfl rfl)) ?_
  refine C_at .h (fun hp => V_load (v := (.int .i64 a_b.Age)) ag3 (.tmp rfl rfl) hp.2 rfl rfl) ?_
  refine C_val (V_neq (i := a_a.Age) (j := a_b.Age) (.tmp rfl rfl) (.tmp rfl rfl)) ?_
  refine C_nil ?_
  refine CW_cond (b := ((a_a.Age : Int) != a_b.Age)) (.tmp rfl rfl) (fun hb6 => ?_) (fun hb6 => ?_)
  · rw [if_pos hb6] at hF
    refine K_region ?_
    refine C_val (V_assign (v := (.bool false)) (.bool _)) ?_
    refine C_nil ?_
    refine CW_ret ?_
    obtain rfl := Option.some.inj hF
    exact End_ret () (.tmp rfl rfl .nil) rfl (.sel .nil)
  rw [if_neg (by rw [hb6]; exact Bool.false_ne_true)] at hF
  refine CW_skip ?_
  refine K_region ?_
  refine C_val (V_assign (v := (.bool true)) (.bool _)) ?_
  refine C_nil ?_
  refine CW_ret ?_
  obtain rfl := Option.some.inj hF
  exact End_ret () (.tmp rfl rfl .nil) rfl (.sel .nil)

/-! laws.eqAccessS -/
def l_eqAccessS_L1 (a_b : List Access) : List Access → Nat → Option (Bool)
  | [], k4 => some true
  | x6 :: rest5, k4 => (ix a_b (k4 : Int)).bind fun x16 =>
    (l_eqAccess x6 x16).bind fun r23 =>
    if (!r23) then (
      some false)
    else (
      l_eqAccessS_L1 a_b rest5 (k4 + 1))
def l_eqAccessS (a_a : List Access) (a_b : List Access) : Option (Bool) :=
  if (((a_a.length : Int) : Int) != (a_b.length : Int)) then (
    some false)
  else (
    l_eqAccessS_L1 a_b a_a 0)
theorem l_eqAccessS_ok (a_a : List Access) (v0_0 : Sv) (a_b : List Access) (v1_0 : Sv) (R : Bool) (hF : l_eqAccessS a_a a_b = some R) :
    Fw.Spec Try.prog 20 [v0_0.v, v1_0.v] [crd (RdS 100 rd100) v0_0.v a_a, crd (RdS 100 rd100) v1_0.v a_b] (fun _ : Unit => (.bool R)) (fun _ => []) := by
  refine Spec_enter (n := 27) Try.func20 rfl rfl (rs := [.tmp 4]) rfl rfl rfl ?_
  intro H0 F0
  unfold l_eqAccessS at hF
  refine K_region ?_
  refine C_val (V_assign (v := (.bool false)) (.bool _)) ?_
  refine C_nil ?_
  refine K_in ?_
  refine K_region ?_
  refine C_val (V_move (v := v0_0.v) (.tmp rfl rfl)) ?_
  refine C_at .h (fun hp => V_lenR (l := a_a.length) sl33 (.tmp rfl rfl) (crd_len hp)) ?_
  refine C_val (V_move (v := v1_0.v) (.tmp rfl rfl)) ?_
  refine C_at (.t .h) (fun hp => V_lenR (l := a_b.length) sl33 (.tmp rfl rfl) (crd_len hp)) ?_
  refine C_val (V_neq (i := (a_a.length : Int)) (j := (a_b.length : Int)) (.tmp rfl rfl) (.tmp rfl rfl)) ?_
  refine C_nil ?_
  refine CW_cond (b := (((a_a.length : Int) : Int) != (a_b.length : Int))) (.tmp rfl rfl) (fun hb28 => ?_) (fun hb28 => ?_)
  · rw [if_pos hb28] at hF
    refine K_region ?_
    refine C_val (V_assign (v := (.bool false)) (.bool _)) ?_
    refine C_nil ?_
    refine CW_ret ?_
    obtain rfl := Option.some.inj hF
    exact End_ret () (.tmp rfl rfl .nil) rfl (.sel .nil)
  rw [if_neg (by rw [hb28]; exact Bool.false_ne_true)] at hF
  refine CW_skip ?_
  refine K_in ?_
  refine K_region ?_
  refine C_val (V_assign (v := (.int .i64 0)) (.int _ _)) ?_
  refine C_nil ?_
  refine CW_block ?_
  refine CW_loop (m := a_a.length) (fun m2 f' cs' => ∃ (g : Fr) (k4 : Nat) (rest5 : List Access), m2 = rest5.length ∧ f' = updL g [(0, v0_0.v), (1, v1_0.v), (5, (.int .i64 (k4 : Int)))] ∧ List.drop k4 a_a = rest5 ∧ Ent cs' [crd (RdS 100 rd100) v0_0.v a_a, crd (RdS 100 rd100) v1_0.v a_b] ∧ l_eqAccessS_L1 a_b rest5 k4 = some R) ⟨_, 0, _, rfl, (EqL.cons rfl (EqL.cons rfl (EqL.cons rfl (EqL.nil)))).eq, rfl, (.sel (.rd .h rfl (.rd (.t .h) rfl .nil))), hF⟩ ?_
  clear hF
  rintro m2 _ _ ⟨g3, k4, rest5, rfl, rfl, hd7, hE, hF⟩
  refine K_ent hE ?_
  clear hE
  refine K_pure (c := crd (RdS 100 rd100) v0_0.v a_a) .h crd_bound (fun hbd12 => ?_)
  rcases rest5 with _ | ⟨x6, rest5⟩
  · have hk8 := List.drop_eq_nil_iff.1 hd7
    have hfe11 : (decide (((k4 : Int) : Int) < (a_a.length : Int))) = false := decide_eq_false (by omega)
    rw [l_eqAccessS_L1] at hF
    refine K_in ?_
    refine K_region ?_
    refine C_val (V_move (v := (.int .i64 (k4 : Int))) (.tmp rfl rfl)) ?_
    refine C_val (V_move (v := v0_0.v) (.tmp rfl rfl)) ?_
    refine C_at .h (fun hp => V_lenR (l := a_a.length) sl33 (.tmp rfl rfl) (crd_len hp)) ?_
    refine C_val (V_lss (i := (k4 : Int)) (j := (a_a.length : Int)) (.tmp rfl rfl) (.tmp rfl rfl)) ?_
    refine C_nil ?_
    refine CW_cond (b := (decide (((k4 : Int) : Int) < (a_a.length : Int)))) (.tmp rfl rfl) (fun hb => absurd (hfe11.symm.trans hb) (by decide)) (fun _ => ?_)
    refine CW_exit ?_
    refine CThen_exit ?_
    refine CThen_exit ?_
    refine CIn_self ?_
    refine K_region ?_
    refine C_val (V_assign (v := (.bool true)) (.bool _)) ?_
    refine C_nil ?_
    refine CW_ret ?_
    obtain rfl := Option.some.inj hF
    exact End_ret () (.tmp rfl rfl .nil) rfl (.sel .nil)
  obtain ⟨hk8, hx9, hd10⟩ := drop_cons hd7
  have hfe11 : (decide (((k4 : Int) : Int) < (a_a.length : Int))) = true := decide_eq_true (by omega)
  rw [l_eqAccessS_L1] at hF
  refine K_in ?_
  refine K_region ?_
  refine C_val (V_move (v := (.int .i64 (k4 : Int))) (.tmp rfl rfl)) ?_
  refine C_val (V_move (v := v0_0.v) (.tmp rfl rfl)) ?_
  refine C_at .h (fun hp => V_lenR (l := a_a.length) sl33 (.tmp rfl rfl) (crd_len hp)) ?_
  refine C_val (V_lss (i := (k4 : Int)) (j := (a_a.length : Int)) (.tmp rfl rfl) (.tmp rfl rfl)) ?_
  refine C_nil ?_
  refine CW_cond (b := (decide (((k4 : Int) : Int) < (a_a.length : Int)))) (.tmp rfl rfl) (fun _ => ?_) (fun hb => absurd (hfe11.symm.trans hb) (by decide))
  refine CW_skip ?_
  refine K_block ?_
  refine K_draw [0, 1, 2, 3, 4, 5, 6, 7, 8, 9] [0, 0, 3, 7, 0, 0, 48, 112, 255, 511] [8] mixed (by decide +kernel) ?_
  refine D_val rfl .no (fun ha => V_move (v := v0_0.v) (EN ha (.tmp rfl rfl) rfl)) ?_
  refine D_val rfl .no (fun ha => V_move (v := (.int .i64 (k4 : Int))) (EN ha (.tmp rfl rfl) rfl)) ?_
  refine D_idx (a := x6) sl33 ty100.sz rfl .no (.tmp rfl rfl) (.tmp rfl rfl) rfl rfl .h (Int.natCast_nonneg k4) hx9 (fun k13 j14 => ?_)
  refine D_ldA1 (ul100_0_100 x6) ag100 ty100.sz rfl rfl .no (.tmp rfl rfl) rfl .h la100_0_100 (fun p15 => ?_)
  refine D_val rfl .no (fun ha => V_move (v := v1_0.v) (EN ha (.tmp rfl rfl) rfl)) ?_
  refine D_val rfl .no (fun ha => V_move (v := (.int .i64 (k4 : Int))) (EN ha (.tmp rfl rfl) rfl)) ?_
  obtain ⟨x16, hx17, hF⟩ := bind_some hF
  obtain ⟨hp18, hx19⟩ := ix_some hx17
  refine D_idx (a := x16) sl33 ty100.sz rfl .no (.tmp rfl rfl) (.tmp rfl rfl) rfl rfl (.t (.t (.t .h))) hp18 hx19 (fun k20 j21 => ?_)
  refine D_ldA1 (ul100_0_100 x16) ag100 ty100.sz rfl rfl .no (.tmp rfl rfl) rfl .h la100_0_100 (fun p22 => ?_)
  obtain ⟨r23, hx24, hF⟩ := bind_some hF
  refine D_act0 rfl rfl .no (.rd (.t (.t .h)) rfl (.rd .h rfl .nil)) .nil (fun ha => X_callS cf59 (.cons (EN ha (.tmp rfl rfl) rfl) (.cons (EN ha (.tmp rfl rfl) rfl) .nil)) (l_eqAccess_ok x6 p15 x16 p22 _ hx24)) (fun _ => ?_)
  refine D_val rfl .no (fun ha => V_not (b := r23) (EN ha (.tmp rfl rfl) rfl)) ?_
  refine D_nil ?_
  refine CW_cond (b := (!r23)) (.tmp rfl rfl) (fun hb27 => ?_) (fun hb27 => ?_)
  · rw [if_pos hb27] at hF
    refine K_region ?_
    refine C_val (V_assign (v := (.bool false)) (.bool _)) ?_
    refine C_nil ?_
    refine CW_ret ?_
    obtain rfl := Option.some.inj hF
    exact End_ret () (.tmp rfl rfl .nil) rfl (.sel .nil)
  rw [if_neg (by rw [hb27]; exact Bool.false_ne_true)] at hF
  refine CW_skip ?_
  refine CW_region ?_
  refine C_val (V_move (v := (.int .i64 (k4 : Int))) (.tmp rfl rfl)) ?_
  refine C_val (V_add (i := (k4 : Int)) (j := 1) (.tmp rfl rfl) (.int _ _)) ?_
  refine C_val (V_assign (v := (.int .i64 (IntKind.i64.wrap ((k4 : Int) + 1)))) (.tmp rfl rfl)) ?_
  refine C_nil ?_
  have hw26 : IntKind.i64.wrap ((k4 : Int) + 1) = ((k4 + 1 : Nat) : Int) := by rw [wrap_in (by omega) (by omega)]; rfl
  rw [hw26]
  exact ⟨_, Nat.lt_succ_self _, _, k4 + 1, rest5, rfl, (EqL.cons rfl (EqL.cons rfl (EqL.cons rfl (EqL.nil)))).eq, hd10, (.sel (.rd (.t (.t (.t (.t .h)))) rfl (.rd (.t (.t (.t (.t (.t .h))))) rfl .nil))), hF⟩

/-! laws.eqIntSS -/
def l_eqIntSS_L1 (a_b : List (List Int)) : List (List Int) → Nat → Option (Bool)
  | [], k4 => some true
  | x6 :: rest5, k4 => (ix a_b (k4 : Int)).bind fun x16 =>
    (l_eqIntS x6 x16).bind fun r23 =>
    if (!r23) then (
      some false)
    else (
      l_eqIntSS_L1 a_b rest5 (k4 + 1))
def l_eqIntSS (a_a : List (List Int)) (a_b : List (List Int)) : Option (Bool) :=
  if (((a_a.length : Int) : Int) != (a_b.length : Int)) then (
    some false)
  else (
    l_eqIntSS_L1 a_b a_a 0)
theorem l_eqIntSS_ok (a_a : List (List Int)) (v0_0 : Sv) (a_b : List (List Int)) (v1_0 : Sv) (R : Bool) (hF : l_eqIntSS a_a a_b = some R) :
    Fw.Spec Try.prog 118 [v0_0.v, v1_0.v] [crd (RdS 45 (RdS 3 rdInt)) v0_0.v a_a, crd (RdS 45 (RdS 3 rdInt)) v1_0.v a_b] (fun _ : Unit => (.bool R)) (fun _ => []) := by
  refine Spec_enter (n := 27) Try.func118 rfl rfl (rs := [.tmp 4]) rfl rfl rfl ?_
  intro H0 F0
  unfold l_eqIntSS at hF
  refine K_region ?_
  refine C_val (V_assign (v := (.bool false)) (.bool _)) ?_
  refine C_nil ?_
  refine K_in ?_
  refine K_region ?_
  refine C_val (V_move (v := v0_0.v) (.tmp rfl rfl)) ?_
  refine C_at .h (fun hp => V_lenR (l := a_a.length) sl128 (.tmp rfl rfl) (crd_len hp)) ?_
  refine C_val (V_move (v := v1_0.v) (.tmp rfl rfl)) ?_
  refine C_at (.t .h) (fun hp => V_lenR (l := a_b.length) sl128 (.tmp rfl rfl) (crd_len hp)) ?_
  refine C_val (V_neq (i := (a_a.length : Int)) (j := (a_b.length : Int)) (.tmp rfl rfl) (.tmp rfl rfl)) ?_
  refine C_nil ?_
  refine CW_cond (b := (((a_a.length : Int) : Int) != (a_b.length : Int))) (.tmp rfl rfl) (fun hb28 => ?_) (fun hb28 => ?_)
  · rw [if_pos hb28] at hF
    refine K_region ?_
    refine C_val (V_assign (v := (.bool false)) (.bool _)) ?_
    refine C_nil ?_
    refine CW_ret ?_
    obtain rfl := Option.some.inj hF
    exact End_ret () (.tmp rfl rfl .nil) rfl (.sel .nil)
  rw [if_neg (by rw [hb28]; exact Bool.false_ne_true)] at hF
  refine CW_skip ?_
  refine K_in ?_
  refine K_region ?_
  refine C_val (V_assign (v := (.int .i64 0)) (.int _ _)) ?_
  refine C_nil ?_
  refine CW_block ?_
  refine CW_loop (m := a_a.length) (fun m2 f' cs' => ∃ (g : Fr) (k4 : Nat) (rest5 : List (List Int)), m2 = rest5.length ∧ f' = updL g [(0, v0_0.v), (1, v1_0.v), (5, (.int .i64 (k4 : Int)))] ∧ List.drop k4 a_a = rest5 ∧ Ent cs' [crd (RdS 45 (RdS 3 rdInt)) v0_0.v a_a, crd (RdS 45 (RdS 3 rdInt)) v1_0.v a_b] ∧ l_eqIntSS_L1 a_b rest5 k4 = some R) ⟨_, 0, _, rfl, (EqL.cons rfl (EqL.cons rfl (EqL.cons rfl (EqL.nil)))).eq, rfl, (.sel (.rd .h rfl (.rd (.t .h) rfl .nil))), hF⟩ ?_
  clear hF
  rintro m2 _ _ ⟨g3, k4, rest5, rfl, rfl, hd7, hE, hF⟩
  refine K_ent hE ?_
  clear hE
  refine K_pure (c := crd (RdS 45 (RdS 3 rdInt)) v0_0.v a_a) .h crd_bound (fun hbd12 => ?_)
  rcases rest5 with _ | ⟨x6, rest5⟩
  · have hk8 := List.drop_eq_nil_iff.1 hd7
    have hfe11 : (decide (((k4 : Int) : Int) < (a_a.length : Int))) = false := decide_eq_false (by omega)
    rw [l_eqIntSS_L1] at hF
    refine K_in ?_
    refine K_region ?_
    refine C_val (V_move (v := (.int .i64 (k4 : Int))) (.tmp rfl rfl)) ?_
    refine C_val (V_move (v := v0_0.v) (.tmp rfl rfl)) ?_
    refine C_at .h (fun hp => V_lenR (l := a_a.length) sl128 (.tmp rfl rfl) (crd_len hp)) ?_
    refine C_val (V_lss (i := (k4 : Int)) (j := (a_a.length : Int)) (.tmp rfl rfl) (.tmp rfl rfl)) ?_
    refine C_nil ?_
    refine CW_cond (b := (decide (((k4 : Int) : Int) < (a_a.length : Int)))) (.tmp rfl rfl) (fun hb => absurd (hfe11.symm.trans hb) (by decide)) (fun _ => ?_)
    refine CW_exit ?_
    refine CThen_exit ?_
    refine CThen_exit ?_
    refine CIn_self ?_
    refine K_region ?_
    refine C_val (V_assign (v := (.bool true)) (.bool _)) ?_
    refine C_nil ?_
    refine CW_ret ?_
    obtain rfl := Option.some.inj hF
    exact End_ret () (.tmp rfl rfl .nil) rfl (.sel .nil)
  obtain ⟨hk8, hx9, hd10⟩ := drop_cons hd7
  have hfe11 : (decide (((k4 : Int) : Int) < (a_a.length : Int))) = true := decide_eq_true (by omega)
  rw [l_eqIntSS_L1] at hF
  refine K_in ?_
  refine K_region ?_
  refine C_val (V_move (v := (.int .i64 (k4 : Int))) (.tmp rfl rfl)) ?_
  refine C_val (V_move (v := v0_0.v) (.tmp rfl rfl)) ?_
  refine C_at .h (fun hp => V_lenR (l := a_a.length) sl128 (.tmp rfl rfl) (crd_len hp)) ?_
  refine C_val (V_lss (i := (k4 : Int)) (j := (a_a.length : Int)) (.tmp rfl rfl) (.tmp rfl rfl)) ?_
  refine C_nil ?_
  refine CW_cond (b := (decide (((k4 : Int) : Int) < (a_a.length : Int)))) (.tmp rfl rfl) (fun _ => ?_) (fun hb => absurd (hfe11.symm.trans hb) (by decide))
  refine CW_skip ?_
  refine K_block ?_
  refine K_draw [0, 1, 2, 3, 4, 5, 6, 7, 8, 9] [0, 0, 3, 7, 0, 0, 48, 112, 255, 511] [8] mixed (by decide +kernel) ?_
  refine D_val rfl .no (fun ha => V_move (v := v0_0.v) (EN ha (.tmp rfl rfl) rfl)) ?_
  refine D_val rfl .no (fun ha => V_move (v := (.int .i64 (k4 : Int))) (EN ha (.tmp rfl rfl) rfl)) ?_
  refine D_idx (a := x6) sl128 ty45.sz rfl .no (.tmp rfl rfl) (.tmp rfl rfl) rfl rfl .h (Int.natCast_nonneg k4) hx9 (fun k13 j14 => ?_)
  refine D_ldV (R' := (RdS 3 rdInt)) ag45 rfl .no (.tmp rfl rfl) rfl .h lv45_0 (fun w15 => ?_)
  refine D_val rfl .no (fun ha => V_move (v := v1_0.v) (EN ha (.tmp rfl rfl) rfl)) ?_
  refine D_val rfl .no (fun ha => V_move (v := (.int .i64 (k4 : Int))) (EN ha (.tmp rfl rfl) rfl)) ?_
  obtain ⟨x16, hx17, hF⟩ := bind_some hF
  obtain ⟨hp18, hx19⟩ := ix_some hx17
  refine D_idx (a := x16) sl128 ty45.sz rfl .no (.tmp rfl rfl) (.tmp rfl rfl) rfl rfl (.t (.t (.t .h))) hp18 hx19 (fun k20 j21 => ?_)
  refine D_ldV (R' := (RdS 3 rdInt)) ag45 rfl .no (.tmp rfl rfl) rfl .h lv45_0 (fun w22 => ?_)
  obtain ⟨r23, hx24, hF⟩ := bind_some hF
  refine D_act0 rfl rfl .no (.rd (.t (.t .h)) rfl (.rd .h rfl .nil)) .nil (fun ha => X_callS cf31 (.cons (EN ha (.tmp rfl rfl) rfl) (.cons (EN ha (.tmp rfl rfl) rfl) .nil)) (l_eqIntS_ok x6 w15 x16 w22 _ hx24)) (fun _ => ?_)
  refine D_val rfl .no (fun ha => V_not (b := r23) (EN ha (.tmp rfl rfl) rfl)) ?_
  refine D_nil ?_
  refine CW_cond (b := (!r23)) (.tmp rfl rfl) (fun hb27 => ?_) (fun hb27 => ?_)
  · rw [if_pos hb27] at hF
    refine K_region ?_
    refine C_val (V_assign (v := (.bool false)) (.bool _)) ?_
    refine C_nil ?_
    refine CW_ret ?_
    obtain rfl := Option.some.inj hF
    exact End_ret () (.tmp rfl rfl .nil) rfl (.sel .nil)
  rw [if_neg (by rw [hb27]; exact Bool.false_ne_true)] at hF
  refine CW_skip ?_
  refine CW_region ?_
  refine C_val (V_move (v := (.int .i64 (k4 : Int))) (.tmp rfl rfl)) ?_
  refine C_val (V_add (i := (k4 : Int)) (j := 1) (.tmp rfl rfl) (.int _ _)) ?_
  refine C_val (V_assign (v := (.int .i64 (IntKind.i64.wrap ((k4 : Int) + 1)))) (.tmp rfl rfl)) ?_
  refine C_nil ?_
  have hw26 : IntKind.i64.wrap ((k4 : Int) + 1) = ((k4 + 1 : Nat) : Int) := by rw [wrap_in (by omega) (by omega)]; rfl
  rw [hw26]
  exact ⟨_, Nat.lt_succ_self _, _, k4 + 1, rest5, rfl, (EqL.cons rfl (EqL.cons rfl (EqL.cons rfl (EqL.nil)))).eq, hd10, (.sel (.rd (.t (.t (.t (.t .h)))) rfl (.rd (.t (.t (.t (.t (.t .h))))) rfl .nil))), hF⟩

/-! laws.eqIntSSS -/
def l_eqIntSSS_L1 (a_b : List (List (List Int))) : List (List (List Int)) → Nat → Option (Bool)
  | [], k4 => some true
  | x6 :: rest5, k4 => (ix a_b (k4 : Int)).bind fun x16 =>
    (l_eqIntSS x6 x16).bind fun r23 =>
    if (!r23) then (
      some false)
    else (
      l_eqIntSSS_L1 a_b rest5 (k4 + 1))
def l_eqIntSSS (a_a : List (List (List Int))) (a_b : List (List (List Int))) : Option (Bool) :=
  if (((a_a.length : Int) : Int) != (a_b.length : Int)) then (
    some false)
  else (
    l_eqIntSSS_L1 a_b a_a 0)
theorem l_eqIntSSS_ok (a_a : List (List (List Int))) (v0_0 : Sv) (a_b : List (List (List Int))) (v1_0 : Sv) (R : Bool) (hF : l_eqIntSSS a_a a_b = some R) :
    Fw.Spec Try.prog 69 [v0_0.v, v1_0.v] [crd (RdS 128 (RdS 45 (RdS 3 rdInt))) v0_0.v a_a, crd (RdS 128 (RdS 45 (RdS 3 rdInt))) v1_0.v a_b] (fun _ : Unit => (.bool R)) (fun _ => []) := by
  refine Spec_enter (n := 27) Try.func69 rfl rfl (rs := [.tmp 4]) rfl rfl rfl ?_
  intro H0 F0
  unfold l_eqIntSSS at hF
  refine K_region ?_
  refine C_val (V_assign (v := (.bool false)) (.bool _)) ?_
  refine C_nil ?_
  refine K_in ?_
  refine K_region ?_
  refine C_val (V_move (v := v0_0.v) (.tmp rfl rfl)) ?_
  refine C_at .h (fun hp => V_lenR (l := a_a.length) sl53 (.tmp rfl rfl) (crd_len hp)) ?_
  refine C_val (V_move (v := v1_0.v) (.tmp rfl rfl)) ?_
  refine C_at (.t .h) (fun hp => V_lenR (l := a_b.length) sl53 (.tmp rfl rfl) (crd_len hp)) ?_
  refine C_val (V_neq (i := (a_a.length : Int)) (j := (a_b.length : Int)) (.tmp rfl rfl) (.tmp rfl rfl)) ?_
  refine C_nil ?_
  refine CW_cond (b := (((a_a.length : Int) : Int) != (a_b.length : Int))) (.tmp rfl rfl) (fun hb28 => ?_) (fun hb28 => ?_)
  · rw [if_pos hb28] at hF
    refine K_region ?_
    refine C_val (V_assign (v := (.bool false)) (.bool _)) ?_
    refine C_nil ?_
    refine CW_ret ?_
    obtain rfl := Option.some.inj hF
    exact End_ret () (.tmp rfl rfl .nil) rfl (.sel .nil)
  rw [if_neg (by rw [hb28]; exact Bool.false_ne_true)] at hF
  refine CW_skip ?_
  refine K_in ?_
  refine K_region ?_
  refine C_val (V_assign (v := (.int .i64 0)) (.int _ _)) ?_
  refine C_nil ?_
  refine CW_block ?_
  refine CW_loop (m := a_a.length) (fun m2 f' cs' => ∃ (g : Fr) (k4 : Nat) (rest5 : List (List (List Int))), m2 = rest5.length ∧ f' = updL g [(0, v0_0.v), (1, v1_0.v), (5, (.int .i64 (k4 : Int)))] ∧ List.drop k4 a_a = rest5 ∧ Ent cs' [crd (RdS 128 (RdS 45 (RdS 3 rdInt))) v0_0.v a_a, crd (RdS 128 (RdS 45 (RdS 3 rdInt))) v1_0.v a_b] ∧ l_eqIntSSS_L1 a_b rest5 k4 = some R) ⟨_, 0, _, rfl, (EqL.cons rfl (EqL.cons rfl (EqL.cons rfl (EqL.nil)))).eq, rfl, (.sel (.rd .h rfl (.rd (.t .h) rfl .nil))), hF⟩ ?_
  clear hF
  rintro m2 _ _ ⟨g3, k4, rest5, rfl, rfl, hd7, hE, hF⟩
  refine K_ent hE ?_
  clear hE
  refine K_pure (c := crd (RdS 128 (RdS 45 (RdS 3 rdInt))) v0_0.v a_a) .h crd_bound (fun hbd12 => ?_)
  rcases rest5 with _ | ⟨x6, rest5⟩
  · have hk8 := List.drop_eq_nil_iff.1 hd7
    have hfe11 : (decide (((k4 : Int) : Int) < (a_a.length : Int))) = false := decide_eq_false (by omega)
    rw [l_eqIntSSS_L1] at hF
    refine K_in ?_
    refine K_region ?_
    refine C_val (V_move (v := (.int .i64 (k4 : Int))) (.tmp rfl rfl)) ?_
    refine C_val (V_move (v := v0_0.v) (.tmp rfl rfl)) ?_
    refine C_at .h (fun hp => V_lenR (l := a_a.length) sl53 (.tmp rfl rfl) (crd_len hp)) ?_
    refine C_val (V_lss (i := (k4 : Int)) (j := (a_a.length : Int)) (.tmp rfl rfl) (.tmp rfl rfl)) ?_
    refine C_nil ?_
    refine CW_cond (b := (decide (((k4 : Int) : Int) < (a_a.length : Int)))) (.tmp rfl rfl) (fun hb => absurd (hfe11.symm.trans hb) (by decide)) (fun _ => ?_)
    refine CW_exit ?_
    refine CThen_exit ?_
    refine CThen_exit ?_
    refine CIn_self ?_
    refine K_region ?_
    refine C_val (V_assign (v := (.bool true)) (.bool _)) ?_
    refine C_nil ?_
    refine CW_ret ?_
    obtain rfl := Option.some.inj hF
    exact End_ret () (.tmp rfl rfl .nil) rfl (.sel .nil)
  obtain ⟨hk8, hx9, hd10⟩ := drop_cons hd7
  have hfe11 : (decide (((k4 : Int) : Int) < (a_a.length : Int))) = true := decide_eq_true (by omega)
  rw [l_eqIntSSS_L1] at hF
  refine K_in ?_
  refine K_region ?_
  refine C_val (V_move (v := (.int .i64 (k4 : Int))) (.tmp rfl rfl)) ?_
  refine C_val (V_move (v := v0_0.v) (.tmp rfl rfl)) ?_
  refine C_at .h (fun hp => V_lenR (l := a_a.length) sl53 (.tmp rfl rfl) (crd_len hp)) ?_
  refine C_val (V_lss (i := (k4 : Int)) (j := (a_a.length : Int)) (.tmp rfl rfl) (.tmp rfl rfl)) ?_
  refine C_nil ?_
  refine CW_cond (b := (decide (((k4 : Int) : Int) < (a_a.length : Int)))) (.tmp rfl rfl) (fun _ => ?_) (fun hb => absurd (hfe11.symm.trans hb) (by decide))
  refine CW_skip ?_
  refine K_block ?_
  refine K_draw [0, 1, 2, 3, 4, 5, 6, 7, 8, 9] [0, 0, 3, 7, 0, 0, 48, 112, 255, 511] [8] mixed (by decide +kernel) ?_
  refine D_val rfl .no (fun ha => V_move (v := v0_0.v) (EN ha (.tmp rfl rfl) rfl)) ?_
  refine D_val rfl .no (fun ha => V_move (v := (.int .i64 (k4 : Int))) (EN ha (.tmp rfl rfl) rfl)) ?_
  refine D_idx (a := x6) sl53 ty128.sz rfl .no (.tmp rfl rfl) (.tmp rfl rfl) rfl rfl .h (Int.natCast_nonneg k4) hx9 (fun k13 j14 => ?_)
  refine D_ldV (R' := (RdS 45 (RdS 3 rdInt))) ag128 rfl .no (.tmp rfl rfl) rfl .h lv128_0 (fun w15 => ?_)
  refine D_val rfl .no (fun ha => V_move (v := v1_0.v) (EN ha (.tmp rfl rfl) rfl)) ?_
  refine D_val rfl .no (fun ha => V_move (v := (.int .i64 (k4 : Int))) (EN ha (.tmp rfl rfl) rfl)) ?_
  obtain ⟨x16, hx17, hF⟩ := bind_some hF
  obtain ⟨hp18, hx19⟩ := ix_some hx17
  refine D_idx (a := x16) sl53 ty128.sz rfl .no (.tmp rfl rfl) (.tmp rfl rfl) rfl rfl (.t (.t (.t .h))) hp18 hx19 (fun k20 j21 => ?_)
  refine D_ldV (R' := (RdS 45 (RdS 3 rdInt))) ag128 rfl .no (.tmp rfl rfl) rfl .h lv128_0 (fun w22 => ?_)
  obtain ⟨r23, hx24, hF⟩ := bind_some hF
  refine D_act0 rfl rfl .no (.rd (.t (.t .h)) rfl (.rd .h rfl .nil)) .nil (fun ha => X_callS cf118 (.cons (EN ha (.tmp rfl rfl) rfl) (.cons (EN ha (.tmp rfl rfl) rfl) .nil)) (l_eqIntSS_ok x6 w15 x16 w22 _ hx24)) (fun _ => ?_)
  refine D_val rfl .no (fun ha => V_not (b := r23) (EN ha (.tmp rfl rfl) rfl)) ?_
  refine D_nil ?_
  refine CW_cond (b := (!r23)) (.tmp rfl rfl) (fun hb27 => ?_) (fun hb27 => ?_)
  · rw [if_pos hb27] at hF
    refine K_region ?_
    refine C_val (V_assign (v := (.bool false)) (.bool _)) ?_
    refine C_nil ?_
    refine CW_ret ?_
    obtain rfl := Option.some.inj hF
    exact End_ret () (.tmp rfl rfl .nil) rfl (.sel .nil)
  rw [if_neg (by rw [hb27]; exact Bool.false_ne_true)] at hF
  refine CW_skip ?_
  refine CW_region ?_
  refine C_val (V_move (v := (.int .i64 (k4 : Int))) (.tmp rfl rfl)) ?_
  refine C_val (V_add (i := (k4 : Int)) (j := 1) (.tmp rfl rfl) (.int _ _)) ?_
  refine C_val (V_assign (v := (.int .i64 (IntKind.i64.wrap ((k4 : Int) + 1)))) (.tmp rfl rfl)) ?_
  refine C_nil ?_
  have hw26 : IntKind.i64.wrap ((k4 : Int) + 1) = ((k4 + 1 : Nat) : Int) := by rw [wrap_in (by omega) (by omega)]; rfl
  rw [hw26]
  exact ⟨_, Nat.lt_succ_self _, _, k4 + 1, rest5, rfl, (EqL.cons rfl (EqL.cons rfl (EqL.cons rfl (EqL.nil)))).eq, hd10, (.sel (.rd (.t (.t (.t (.t .h)))) rfl (.rd (.t (.t (.t (.t (.t .h))))) rfl .nil))), hF⟩

/-! laws.eqMediator -/
def l_eqMediator (a_a : Mediator) (a_b : Mediator) : Option (Bool) :=
  (l_eqIntS a_a.Schema a_b.Schema).bind fun r3 =>
  if (!r3) then (
    some false)
  else (
    (l_eqMethodS a_a.Methods a_b.Methods).bind fun r6 =>
    if (!r6) then (
      some false)
    else (
      (l_eqRuleS a_a.Rules a_b.Rules).bind fun r9 =>
      if (!r9) then (
        some false)
      else (
        (l_eqSource a_a.Source a_b.Source).bind fun r12 =>
        if (!r12) then (
          some false)
        else (
          (l_eqCache a_a.Cache a_b.Cache).bind fun r15 =>
          if (!r15) then (
            some false)
          else (
            if ((a_a.Now : Int) != a_b.Now) then (
              some false)
            else (
              (l_eqAccessS a_a.Log a_b.Log).bind fun r18 =>
              if (!r18) then (
                some false)
              else (
                (l_eqIntS a_a.Times a_b.Times).bind fun r21 =>
                if (!r21) then (
                  some false)
                else (
                  if ((a_a.Spent : Int) != a_b.Spent) then (
                    some false)
                  else (
                    (l_eqIntSSS a_a.Results a_b.Results).bind fun r24 =>
                    if (!r24) then (
                      some false)
                    else (
                      some true))))))))))
theorem l_eqMediator_ok (a_a : Mediator) (v0_0 : Sv) (v0_1 : Sv) (v0_2 : Sv) (v0_3 : Sv) (v0_5 : Sv) (v0_8 : Sv) (v0_9 : Sv) (v0_11 : Sv) (a_b : Mediator) (v1_0 : Sv) (v1_1 : Sv) (v1_2 : Sv) (v1_3 : Sv) (v1_5 : Sv) (v1_8 : Sv) (v1_9 : Sv) (v1_11 : Sv) (R : Bool) (hF : l_eqMediator a_a a_b = some R) :
    Fw.Spec Try.prog 30 [(.agg [v0_0.v, v0_1.v, v0_2.v, v0_3.v, (.int .i64 a_a.Source.Version), v0_5.v, (.int .i64 a_a.Cache.Age), (.int .i64 a_a.Now), v0_8.v, v0_9.v, (.int .i64 a_a.Spent), v0_11.v].toArray), (.agg [v1_0.v, v1_1.v, v1_2.v, v1_3.v, (.int .i64 a_b.Source.Version), v1_5.v, (.int .i64 a_b.Cache.Age), (.int .i64 a_b.Now), v1_8.v, v1_9.v, (.int .i64 a_b.Spent), v1_11.v].toArray)] [crd (RdS 3 rdInt) v0_0.v a_a.Schema, crd (RdS 101 rd101) v0_1.v a_a.Methods, crd (RdS 126 rd126) v0_2.v a_a.Rules, crd (RdS 157 rd157) v0_3.v a_a.Source.Facts, crd (RdS 159 rd159) v0_5.v a_a.Cache.Entries, crd (RdS 100 rd100) v0_8.v a_a.Log, crd (RdS 3 rdInt) v0_9.v a_a.Times, crd (RdS 128 (RdS 45 (RdS 3 rdInt))) v0_11.v a_a.Results, crd (RdS 3 rdInt) v1_0.v a_b.Schema, crd (RdS 101 rd101) v1_1.v a_b.Methods, crd (RdS 126 rd126) v1_2.v a_b.Rules, crd (RdS 157 rd157) v1_3.v a_b.Source.Facts, crd (RdS 159 rd159) v1_5.v a_b.Cache.Entries, crd (RdS 100 rd100) v1_8.v a_b.Log, crd (RdS 3 rdInt) v1_9.v a_b.Times, crd (RdS 128 (RdS 45 (RdS 3 rdInt))) v1_11.v a_b.Results] (fun _ : Unit => (.bool R)) (fun _ => []) := by
  refine Spec_enter (n := 63) Try.func30 rfl rfl (rs := [.tmp 4]) rfl rfl rfl ?_
  intro H0 F0
  unfold l_eqMediator at hF
  refine K_region ?_
  refine C_newR rfl (N_box (g := false) (v := (.agg [v0_0.v, v0_1.v, v0_2.v, v0_3.v, (.int .i64 a_a.Source.Version), v0_5.v, (.int .i64 a_a.Cache.Age), (.int .i64 a_a.Now), v0_8.v, v0_9.v, (.int .i64 a_a.Spent), v0_11.v].toArray)) ty55.sz (.tmp rfl rfl) rfl) (fun k1 => ?_)
  refine C_newR rfl (N_box (g := false) (v := (.agg [v1_0.v, v1_1.v, v1_2.v, v1_3.v, (.int .i64 a_b.Source.Version), v1_5.v, (.int .i64 a_b.Cache.Age), (.int .i64 a_b.Now), v1_8.v, v1_9.v, (.int .i64 a_b.Spent), v1_11.v].toArray)) ty55.sz (.tmp rfl rfl) rfl) (fun k2 => ?_)
  refine C_val (V_assign (v := (.bool false)) (.bool _)) ?_
  refine C_nil ?_
  refine K_in ?_
  refine K_region ?_
  refine C_val (V_fieldAddr (off := 0) fd55_0 (.tmp rfl rfl)) ?_
  refine C_at (.t .h) (fun hp => V_load (v := v0_0.v) ag45 (.tmp rfl rfl) hp.2 rfl rfl) ?_
  refine C_val (V_fieldAddr (off := 0) fd55_0 (.tmp rfl rfl)) ?_
  refine C_at .h (fun hp => V_load (v := v1_0.v) ag45 (.tmp rfl rfl) hp.2 rfl rfl) ?_
  obtain ⟨r3, hx4, hF⟩ := bind_some hF
  refine C_x0 (.rd (.t (.t .h)) rfl (.rd (.t (.t (.t (.t (.t (.t (.t (.t (.t (.t .h)))))))))) rfl .nil)) (X_callS cf31 (.cons (.tmp rfl rfl) (.cons (.tmp rfl rfl) .nil)) (l_eqIntS_ok a_a.Schema v0_0 a_b.Schema v1_0 _ hx4)) (fun _ => ?_)
  refine C_val (V_not (b := r3) (.tmp rfl rfl)) ?_
  refine C_nil ?_
  refine CW_cond (b := (!r3)) (.tmp rfl rfl) (fun hb36 => ?_) (fun hb36 => ?_)
  · rw [if_pos hb36] at hF
    refine K_region ?_
    refine C_val (V_assign (v := (.bool false)) (.bool _)) ?_
    refine C_nil ?_
    refine CW_ret ?_
    obtain rfl := Option.some.inj hF
    exact End_ret () (.tmp rfl rfl .nil) rfl (.sel .nil)
  rw [if_neg (by rw [hb36]; exact Bool.false_ne_true)] at hF
  refine CW_skip ?_
  refine K_in ?_
  refine K_region ?_
  refine C_val (V_fieldAddr (off := 1) fd55_1 (.tmp rfl rfl)) ?_
  refine C_at (.t .h) (fun hp => V_load (v := v0_1.v) ag35 (.tmp rfl rfl) hp.2 rfl rfl) ?_
  refine C_val (V_fieldAddr (off := 1) fd55_1 (.tmp rfl rfl)) ?_
  refine C_at .h (fun hp => V_load (v := v1_1.v) ag35 (.tmp rfl rfl) hp.2 rfl rfl) ?_
  obtain ⟨r6, hx7, hF⟩ := bind_some hF
  refine C_x0 (.rd (.t (.t (.t .h))) rfl (.rd (.t (.t (.t (.t (.t (.t (.t (.t (.t (.t (.t .h))))))))))) rfl .nil)) (X_callS cf21 (.cons (.tmp rfl rfl) (.cons (.tmp rfl rfl) .nil)) (l_eqMethodS_ok a_a.Methods v0_1 a_b.Methods v1_1 _ hx7)) (fun _ => ?_)
  refine C_val (V_not (b := r6) (.tmp rfl rfl)) ?_
  refine C_nil ?_
  refine CW_cond (b := (!r6)) (.tmp rfl rfl) (fun hb35 => ?_) (fun hb35 => ?_)
  · rw [if_pos hb35] at hF
    refine K_region ?_
    refine C_val (V_assign (v := (.bool false)) (.bool _)) ?_
    refine C_nil ?_
    refine CW_ret ?_
    obtain rfl := Option.some.inj hF
    exact End_ret () (.tmp rfl rfl .nil) rfl (.sel .nil)
  rw [if_neg (by rw [hb35]; exact Bool.false_ne_true)] at hF
  refine CW_skip ?_
  refine K_in ?_
  refine K_region ?_
  refine C_val (V_fieldAddr (off := 2) fd55_2 (.tmp rfl rfl)) ?_
  refine C_at (.t .h) (fun hp => V_load (v := v0_2.v) ag46 (.tmp rfl rfl) hp.2 rfl rfl) ?_
  refine C_val (V_fieldAddr (off := 2) fd55_2 (.tmp rfl rfl)) ?_
  refine C_at .h (fun hp => V_load (v := v1_2.v) ag46 (.tmp rfl rfl) hp.2 rfl rfl) ?_
  obtain ⟨r9, hx10, hF⟩ := bind_some hF
  refine C_x0 (.rd (.t (.t (.t (.t .h)))) rfl (.rd (.t (.t (.t (.t (.t (.t (.t (.t (.t (.t (.t (.t .h)))))))))))) rfl .nil)) (X_callS cf66 (.cons (.tmp rfl rfl) (.cons (.tmp rfl rfl) .nil)) (l_eqRuleS_ok a_a.Rules v0_2 a_b.Rules v1_2 _ hx10)) (fun _ => ?_)
  refine C_val (V_not (b := r9) (.tmp rfl rfl)) ?_
  refine C_nil ?_
  refine CW_cond (b := (!r9)) (.tmp rfl rfl) (fun hb34 => ?_) (fun hb34 => ?_)
  · rw [if_pos hb34] at hF
    refine K_region ?_
    refine C_val (V_assign (v := (.bool false)) (.bool _)) ?_
    refine C_nil ?_
    refine CW_ret ?_
    obtain rfl := Option.some.inj hF
    exact End_ret () (.tmp rfl rfl .nil) rfl (.sel .nil)
  rw [if_neg (by rw [hb34]; exact Bool.false_ne_true)] at hF
  refine CW_skip ?_
  refine K_in ?_
  refine K_region ?_
  refine C_val (V_fieldAddr (off := 3) fd55_3 (.tmp rfl rfl)) ?_
  refine C_at (.t .h) (fun hp => V_loadA (s := 2) (l := [v0_3.v, (.int .i64 a_a.Source.Version)]) ag49 ty49.sz (.tmp rfl rfl) hp.2 rfl (by decide) (Nat.le_of_ble_eq_true rfl) rfl) ?_
  refine C_val (V_fieldAddr (off := 3) fd55_3 (.tmp rfl rfl)) ?_
  refine C_at .h (fun hp => V_loadA (s := 2) (l := [v1_3.v, (.int .i64 a_b.Source.Version)]) ag49 ty49.sz (.tmp rfl rfl) hp.2 rfl (by decide) (Nat.le_of_ble_eq_true rfl) rfl) ?_
  obtain ⟨r12, hx13, hF⟩ := bind_some hF
  refine C_x0 (.rd (.t (.t (.t (.t (.t .h))))) rfl (.rd (.t (.t (.t (.t (.t (.t (.t (.t (.t (.t (.t (.t (.t .h))))))))))))) rfl .nil)) (X_callS cf67 (.cons (.tmp rfl rfl) (.cons (.tmp rfl rfl) .nil)) (l_eqSource_ok a_a.Source v0_3 a_b.Source v1_3 _ hx13)) (fun _ => ?_)
  refine C_val (V_not (b := r12) (.tmp rfl rfl)) ?_
  refine C_nil ?_
  refine CW_cond (b := (!r12)) (.tmp rfl rfl) (fun hb33 => ?_) (fun hb33 => ?_)
  · rw [if_pos hb33] at hF
    refine K_region ?_
    refine C_val (V_assign (v := (.bool false)) (.bool _)) ?_
    refine C_nil ?_
    refine CW_ret ?_
    obtain rfl := Option.some.inj hF
    exact End_ret () (.tmp rfl rfl .nil) rfl (.sel .nil)
  rw [if_neg (by rw [hb33]; exact Bool.false_ne_true)] at hF
  refine CW_skip ?_
  refine K_in ?_
  refine K_region ?_
  refine C_val (V_fieldAddr (off := 5) fd55_4 (.tmp rfl rfl)) ?_
  refine C_at (.t .h) (fun hp => V_loadA (s := 2) (l := [v0_5.v, (.int .i64 a_a.Cache.Age)]) ag52 ty52.sz (.tmp rfl rfl) hp.2 rfl (by decide) (Nat.le_of_ble_eq_true rfl) rfl) ?_
  refine C_val (V_fieldAddr (off := 5) fd55_4 (.tmp rfl rfl)) ?_
  refine C_at .h (fun hp => V_loadA (s := 2) (l := [v1_5.v, (.int .i64 a_b.Cache.Age)]) ag52 ty52.sz (.tmp rfl rfl) hp.2 rfl (by decide) (Nat.le_of_ble_eq_true rfl) rfl) ?_
  obtain ⟨r15, hx16, hF⟩ := bind_some hF
  refine C_x0 (.rd (.t (.t (.t (.t (.t (.t .h)))))) rfl (.rd (.t (.t (.t (.t (.t (.t (.t (.t (.t (.t (.t (.t (.t (.t .h)))))))))))))) rfl .nil)) (X_callS cf68 (.cons (.tmp rfl rfl) (.cons (.tmp rfl rfl) .nil)) (l_eqCache_ok a_a.Cache v0_5 a_b.Cache v1_5 _ hx16)) (fun _ => ?_)
  refine C_val (V_not (b := r15) (.tmp rfl rfl)) ?_
  refine C_nil ?_
  refine CW_cond (b := (!r15)) (.tmp rfl rfl) (fun hb32 => ?_) (fun hb32 => ?_)
  · rw [if_pos hb32] at hF
    refine K_region ?_
    refine C_val (V_assign (v := (.bool false)) (.bool _)) ?_
    refine C_nil ?_
    refine CW_ret ?_
    obtain rfl := Option.some.inj hF
    exact End_ret () (.tmp rfl rfl .nil) rfl (.sel .nil)
  rw [if_neg (by rw [hb32]; exact Bool.false_ne_true)] at hF
  refine CW_skip ?_
  refine K_in ?_
  refine K_region ?_
  refine C_val (V_fieldAddr (off := 7) fd55_5 (.tmp rfl rfl)) ?_
  refine C_at (.t .h) (fun hp => V_load (v := (.int .i64 a_a.Now)) ag3 (.tmp rfl rfl) hp.2 rfl rfl) ?_
  refine C_val (V_fieldAddr (off := 7) fd55_5 (.tmp rfl rfl)) ?_
  refine C_at .h (fun hp => V_load (v := (.int .i64 a_b.Now)) ag3 (.tmp rfl rfl) hp.2 rfl rfl) ?_
  refine C_val (V_neq (i := a_a.Now) (j := a_b.Now) (.tmp rfl rfl) (.tmp rfl rfl)) ?_
  refine C_nil ?_
  refine CW_cond (b := ((a_a.Now : Int) != a_b.Now)) (.tmp rfl rfl) (fun hb31 => ?_) (fun hb31 => ?_)
  · rw [if_pos hb31] at hF
    refine K_region ?_
    refine C_val (V_assign (v := (.bool false)) (.bool _)) ?_
    refine C_nil ?_
    refine CW_ret ?_
    obtain rfl := Option.some.inj hF
    exact End_ret () (.tmp rfl rfl .nil) rfl (.sel .nil)
  rw [if_neg (by rw [hb31]; exact Bool.false_ne_true)] at hF
  refine CW_skip ?_
  refine K_in ?_
  refine K_region ?_
  refine C_val (V_fieldAddr (off := 8) fd55_6 (.tmp rfl rfl)) ?_
  refine C_at (.t .h) (fun hp => V_load (v := v0_8.v) ag33 (.tmp rfl rfl) hp.2 rfl rfl) ?_
  refine C_val (V_fieldAddr (off := 8) fd55_6 (.tmp rfl rfl)) ?_
  refine C_at .h (fun hp => V_load (v := v1_8.v) ag33 (.tmp rfl rfl) hp.2 rfl rfl) ?_
  obtain ⟨r18, hx19, hF⟩ := bind_some hF
  refine C_x0 (.rd (.t (.t (.t (.t (.t (.t (.t .h))))))) rfl (.rd (.t (.t (.t (.t (.t (.t (.t (.t (.t (.t (.t (.t (.t (.t (.t .h))))))))))))))) rfl .nil)) (X_callS cf20 (.cons (.tmp rfl rfl) (.cons (.tmp rfl rfl) .nil)) (l_eqAccessS_ok a_a.Log v0_8 a_b.Log v1_8 _ hx19)) (fun _ => ?_)
  refine C_val (V_not (b := r18) (.tmp rfl rfl)) ?_
  refine C_nil ?_
  refine CW_cond (b := (!r18)) (.tmp rfl rfl) (fun hb30 => ?_) (fun hb30 => ?_)
  · rw [if_pos hb30] at hF
    refine K_region ?_
    refine C_val (V_assign (v := (.bool false)) (.bool _)) ?_
    refine C_nil ?_
    refine CW_ret ?_
    obtain rfl := Option.some.inj hF
    exact End_ret () (.tmp rfl rfl .nil) rfl (.sel .nil)
  rw [if_neg (by rw [hb30]; exact Bool.false_ne_true)] at hF
  refine CW_skip ?_
  refine K_in ?_
  refine K_region ?_
  refine C_val (V_fieldAddr (off := 9) fd55_7 (.tmp rfl rfl)) ?_
  refine C_at (.t .h) (fun hp => V_load (v := v0_9.v) ag45 (.tmp rfl rfl) hp.2 rfl rfl) ?_
  refine C_val (V_fieldAddr (off := 9) fd55_7 (.tmp rfl rfl)) ?_
  refine C_at .h (fun hp => V_load (v := v1_9.v) ag45 (.tmp rfl rfl) hp.2 rfl rfl) ?_
  obtain ⟨r21, hx22, hF⟩ := bind_some hF
  refine C_x0 (.rd (.t (.t (.t (.t (.t (.t (.t (.t .h)))))))) rfl (.rd (.t (.t (.t (.t (.t (.t (.t (.t (.t (.t (.t (.t (.t (.t (.t (.t .h)))))))))))))))) rfl .nil)) (X_callS cf31 (.cons (.tmp rfl rfl) (.cons (.tmp rfl rfl) .nil)) (l_eqIntS_ok a_a.Times v0_9 a_b.Times v1_9 _ hx22)) (fun _ => ?_)
  refine C_val (V_not (b := r21) (.tmp rfl rfl)) ?_
  refine C_nil ?_
  refine CW_cond (b := (!r21)) (.tmp rfl rfl) (fun hb29 => ?_) (fun hb29 => ?_)
  · rw [if_pos hb29] at hF
    refine K_region ?_
    refine C_val (V_assign (v := (.bool false)) (.bool _)) ?_
    refine C_nil ?_
    refine CW_ret ?_
    obtain rfl := Option.some.inj hF
    exact End_ret () (.tmp rfl rfl .nil) rfl (.sel .nil)
  rw [if_neg (by rw [hb29]; exact Bool.false_ne_true)] at hF
  refine CW_skip ?_
  refine K_in ?_
  refine K_region ?_
  refine C_val (V_fieldAddr (off := 10) fd55_8 (.tmp rfl rfl)) ?_
  refine C_at (.t .h) (fun hp => V_load (v := (.int .i64 a_a.Spent)) ag3 (.tmp rfl rfl) hp.2 rfl rfl) ?_
  refine C_val (V_fieldAddr (off := 10) fd55_8 (.tmp rfl rfl)) ?_
  refine C_at .h (fun hp => V_load (v := (.int .i64 a_b.Spent)) ag3 (.tmp rfl rfl) hp.2 rfl rfl) ?_
  refine C_val (V_neq (i := a_a.Spent) (j := a_b.Spent) (.tmp rfl rfl) (.tmp rfl rfl)) ?_
  refine C_nil ?_
  refine CW_cond (b := ((a_a.Spent : Int) != a_b.Spent)) (.tmp rfl rfl) (fun hb28 => ?_) (fun hb28 => ?_)
  · rw [if_pos hb28] at hF
    refine K_region ?_
    refine C_val (V_assign (v := (.bool false)) (.bool _)) ?_
    refine C_nil ?_
    refine CW_ret ?_
    obtain rfl := Option.some.inj hF
    exact End_ret () (.tmp rfl rfl .nil) rfl (.sel .nil)
  rw [if_neg (by rw [hb28]; exact Bool.false_ne_true)] at hF
  refine CW_skip ?_
  refine K_in ?_
  refine K_region ?_
  refine C_val (V_fieldAddr (off := 11) fd55_9 (.tmp rfl rfl)) ?_
  refine C_at (.t .h) (fun hp => V_load (v := v0_11.v) ag53 (.tmp rfl rfl) hp.2 rfl rfl) ?_
  refine C_val (V_fieldAddr (off := 11) fd55_9 (.tmp rfl rfl)) ?_
  refine C_at .h (fun hp => V_load (v := v1_11.v) ag53 (.tmp rfl rfl) hp.2 rfl rfl) ?_
  obtain ⟨r24, hx25, hF⟩ := bind_some hF
  refine C_x0 (.rd (.t (.t (.t (.t (.t (.t (.t (.t (.t .h))))))))) rfl (.rd (.t (.t (.t (.t (.t (.t (.t (.t (.t (.t (.t (.t (.t (.t (.t (.t (.t .h))))))))))))))))) rfl .nil)) (X_callS cf69 (.cons (.tmp rfl rfl) (.cons (.tmp rfl rfl) .nil)) (l_eqIntSSS_ok a_a.Results v0_11 a_b.Results v1_11 _ hx25)) (fun _ => ?_)
  refine C_val (V_not (b := r24) (.tmp rfl rfl)) ?_
  refine C_nil ?_
  refine CW_cond (b := (!r24)) (.tmp rfl rfl) (fun hb27 => ?_) (fun hb27 => ?_)
  · rw [if_pos hb27] at hF
    refine K_region ?_
    refine C_val (V_assign (v := (.bool false)) (.bool _)) ?_
    refine C_nil ?_
    refine CW_ret ?_
    obtain rfl := Option.some.inj hF
    exact End_ret () (.tmp rfl rfl .nil) rfl (.sel .nil)
  rw [if_neg (by rw [hb27]; exact Bool.false_ne_true)] at hF
  refine CW_skip ?_
  refine K_region ?_
  refine C_val (V_assign (v := (.bool true)) (.bool _)) ?_
  refine C_nil ?_
  refine CW_ret ?_
  obtain rfl := Option.some.inj hF
  exact End_ret () (.tmp rfl rfl .nil) rfl (.sel .nil)

/-! laws.markIntS -/
def l_markIntS_L1 : Nat → (List Int) → Int → Int → Option (Int × (List Int))
  | 0, _, _, _ => none
  | m23 + 1, c19, c21, c22 => if (decide ((c22 : Int) < (c19.length : Int))) then (
      (chk (decide (0 ≤ c22) && decide (c22 < (c19.length : Int)))).bind fun u34 =>
      (some (c19.set (c22).toNat c21)).bind fun z36 =>
      l_markIntS_L1 m23 z36 (IntKind.i64.wrap (c21 + 1)) (IntKind.i64.wrap (c22 + 1)))
    else (
      some (c21, c19))
def l_markIntS (a_a : List Int) (a_k : Int) : Option (Int × (List Int)) :=
  l_markIntS_L1 (((a_a.length : Int) - 0).toNat + 2) a_a a_k 0
theorem l_markIntS_ok (a_a : List Int) (v0_0 : Sv) (F0_0 : List Nat) (a_k : Int) (R : Int × (List Int)) (hF : l_markIntS a_a a_k = some R) :
    Fw.Spec Try.prog 32 [v0_0.v, (.int .i64 a_k)] [cown (OwnS 3 (roE rdInt)) F0_0 v0_0.v a_a] (fun _ : List Nat => (.int .i64 R.1)) (fun p => [cown (OwnS 3 (roE rdInt)) p v0_0.v R.2]) := by
  refine Spec_enter (n := 19) Try.func32 rfl rfl (rs := [.tmp 4]) rfl rfl rfl ?_
  intro H0 F0
  unfold l_markIntS at hF
  refine K_region ?_
  refine C_val (V_assign (v := (.int .i64 0)) (.int _ _)) ?_
  refine C_nil ?_
  refine K_in ?_
  refine K_region ?_
  refine C_val (V_assign (v := (.int .i64 0)) (.int _ _)) ?_
  refine C_nil ?_
  refine CW_block ?_
  refine CW_loop (m := (((a_a.length : Int) - 0).toNat + 2)) (fun m23 f' cs' => ∃ (g : Fr) (c19 : List Int) (c21 : Int) (c22 : Int) (F20 : List Nat), f' = updL g [(0, v0_0.v), (1, (.int .i64 c21)), (5, (.int .i64 c22))] ∧ Ent cs' [cown (OwnS 3 (roE rdInt)) F20 v0_0.v c19] ∧ l_markIntS_L1 m23 c19 c21 c22 = some R) ⟨_, _, _, _, F0_0, (EqL.cons rfl (EqL.cons rfl (EqL.cons rfl (EqL.nil)))).eq, (.sel (.cons .h .nil)), hF⟩ ?_
  clear hF
  rintro m23 _ _ ⟨g24, c19, c21, c22, F20, rfl, hE, hF⟩
  refine K_ent hE ?_
  clear hE
  rcases m23 with _ | m23
  · rw [l_markIntS_L1] at hF
    exact absurd hF (by simp)
  rw [l_markIntS_L1] at hF
  refine K_in ?_
  refine K_region ?_
  refine C_val (V_move (v := (.int .i64 c22)) (.tmp rfl rfl)) ?_
  refine C_val (V_move (v := v0_0.v) (.tmp rfl rfl)) ?_
  refine C_at .h (fun hp => V_lenR (l := c19.length) sl45 (.tmp rfl rfl) (cown_len hp)) ?_
  refine C_val (V_lss (i := c22) (j := (c19.length : Int)) (.tmp rfl rfl) (.tmp rfl rfl)) ?_
  refine C_nil ?_
  refine CW_cond (b := (decide ((c22 : Int) < (c19.length : Int)))) (.tmp rfl rfl) (fun hb39 => ?_) (fun hb39 => ?_)
  · rw [if_pos hb39] at hF
    refine CW_skip ?_
    refine K_block ?_
    refine K_region ?_
    refine C_val (V_move (v := v0_0.v) (.tmp rfl rfl)) ?_
    refine C_val (V_move (v := (.int .i64 c22)) (.tmp rfl rfl)) ?_
    refine C_val (V_move (v := (.int .i64 c21)) (.tmp rfl rfl)) ?_
    obtain ⟨u34, hx35, hF⟩ := bind_some hF
    have hi33 := chk_some hx35
    refine C_idxO sl45 ty3.sz (.tmp rfl rfl) (.tmp rfl rfl) .h hi33 (fun k31 hk32 => ?_)
    obtain ⟨z36, hx37, hF⟩ := bind_some hF
    replace hx37 := Option.some.inj hx37
    refine C_x1 (.cons .h .nil) (X_storeO (Ro := (roE rdInt)) (a := c21) (i := c22) ty3.sz rfl (.tmp rfl rfl) (.tmp rfl rfl) hk32 hi33 (Mk_pure (fun _ => rfl)) (fun _ _ _ _ h => by obtain ⟨-, h⟩ := h; cases h; rfl)) (fun F38 => ?_)
    rw [hx37]
    refine C_nil ?_
    refine CW_region ?_
    refine C_val (V_move (v := (.int .i64 c21)) (.tmp rfl rfl)) ?_
    refine C_val (V_add (i := c21) (j := 1) (.tmp rfl rfl) (.int _ _)) ?_
    refine C_val (V_assign (v := (.int .i64 (IntKind.i64.wrap (c21 + 1)))) (.tmp rfl rfl)) ?_
    refine C_nil ?_
    refine CW_region ?_
    refine C_val (V_move (v := (.int .i64 c22)) (.tmp rfl rfl)) ?_
    refine C_val (V_add (i := c22) (j := 1) (.tmp rfl rfl) (.int _ _)) ?_
    refine C_val (V_assign (v := (.int .i64 (IntKind.i64.wrap (c22 + 1)))) (.tmp rfl rfl)) ?_
    refine C_nil ?_
    exact ⟨m23, Nat.lt_succ_self _, _, _, _, _, F38, (EqL.cons rfl (EqL.cons rfl (EqL.cons rfl (EqL.nil)))).eq, (.sel (.cons .h .nil)), hF⟩
  rw [if_neg (by rw [hb39]; exact Bool.false_ne_true)] at hF
  refine CW_exit ?_
  refine CThen_exit ?_
  refine CThen_exit ?_
  refine CIn_self ?_
  refine K_region ?_
  refine C_val (V_move (v := (.int .i64 c21)) (.tmp rfl rfl)) ?_
  refine C_val (V_assign (v := (.int .i64 c21)) (.tmp rfl rfl)) ?_
  refine C_nil ?_
  refine CW_ret ?_
  obtain rfl := Option.some.inj hF
  exact End_ret F20 (.tmp rfl rfl .nil) rfl (.sel (.cons .h .nil))

/-! laws.markMethodS -/
def l_markMethodS_L1 : Nat → (List Method) → Int → Int → Option (Int × (List Method))
  | 0, _, _, _ => none
  | m64 + 1, c60, c62, c63 => if (decide ((c63 : Int) < (c60.length : Int))) then (
      (ix c60 c63).bind fun x75 =>
      (some (c60.set (c63).toNat { x75 with Rel := c62 })).bind fun z79 =>
      (ix z79 c63).bind fun x84 =>
      (l_markIntS x84.Inputs (IntKind.i64.wrap (c62 + 1))).bind fun r89 =>
      (some (z79.set (c63).toNat { x84 with Inputs := r89.2 })).bind fun z92 =>
      (ix z92 c63).bind fun x97 =>
      (some (z92.set (c63).toNat { x97 with Limit := r89.1 })).bind fun z101 =>
      (ix z101 c63).bind fun x106 =>
      (some (z101.set (c63).toNat { x106 with Cost := (IntKind.i64.wrap (r89.1 + 1)) })).bind fun z110 =>
      (ix z110 c63).bind fun x115 =>
      (some (z110.set (c63).toNat { x115 with Quota := (IntKind.i64.wrap ((IntKind.i64.wrap (r89.1 + 1)) + 1)) })).bind fun z119 =>
      l_markMethodS_L1 m64 z119 (IntKind.i64.wrap ((IntKind.i64.wrap ((IntKind.i64.wrap (r89.1 + 1)) + 1)) + 1)) (IntKind.i64.wrap (c63 + 1)))
    else (
      some (c62, c60))
def l_markMethodS (a_a : List Method) (a_k : Int) : Option (Int × (List Method)) :=
  l_markMethodS_L1 (((a_a.length : Int) - 0).toNat + 2) a_a a_k 0
theorem l_markMethodS_ok (a_a : List Method) (v0_0 : Sv) (F0_0 : List Nat) (a_k : Int) (R : Int × (List Method)) (hF : l_markMethodS a_a a_k = some R) :
    Fw.Spec Try.prog 22 [v0_0.v, (.int .i64 a_k)] [cown (OwnS 101 ow101) F0_0 v0_0.v a_a] (fun _ : List Nat => (.int .i64 R.1)) (fun p => [cown (OwnS 101 ow101) p v0_0.v R.2]) := by
  refine Spec_enter (n := 48) Try.func22 rfl rfl (rs := [.tmp 4]) rfl rfl rfl ?_
  intro H0 F0
  unfold l_markMethodS at hF
  refine K_region ?_
  refine C_val (V_assign (v := (.int .i64 0)) (.int _ _)) ?_
  refine C_nil ?_
  refine K_in ?_
  refine K_region ?_
  refine C_val (V_assign (v := (.int .i64 0)) (.int _ _)) ?_
  refine C_nil ?_
  refine CW_block ?_
  refine CW_loop (m := (((a_a.length : Int) - 0).toNat + 2)) (fun m64 f' cs' => ∃ (g : Fr) (c60 : List Method) (c62 : Int) (c63 : Int) (F61 : List Nat), f' = updL g [(0, v0_0.v), (1, (.int .i64 c62)), (5, (.int .i64 c63))] ∧ Ent cs' [cown (OwnS 101 ow101) F61 v0_0.v c60] ∧ l_markMethodS_L1 m64 c60 c62 c63 = some R) ⟨_, _, _, _, F0_0, (EqL.cons rfl (EqL.cons rfl (EqL.cons rfl (EqL.nil)))).eq, (.sel (.cons .h .nil)), hF⟩ ?_
  clear hF
  rintro m64 _ _ ⟨g65, c60, c62, c63, F61, rfl, hE, hF⟩
  refine K_ent hE ?_
  clear hE
  rcases m64 with _ | m64
  · rw [l_markMethodS_L1] at hF
    exact absurd hF (by simp)
  rw [l_markMethodS_L1] at hF
  refine K_in ?_
  refine K_region ?_
  refine C_val (V_move (v := (.int .i64 c63)) (.tmp rfl rfl)) ?_
  refine C_val (V_move (v := v0_0.v) (.tmp rfl rfl)) ?_
  refine C_at .h (fun hp => V_lenR (l := c60.length) sl35 (.tmp rfl rfl) (cown_len hp)) ?_
  refine C_val (V_lss (i := c63) (j := (c60.length : Int)) (.tmp rfl rfl) (.tmp rfl rfl)) ?_
  refine C_nil ?_
  refine CW_cond (b := (decide ((c63 : Int) < (c60.length : Int)))) (.tmp rfl rfl) (fun hb121 => ?_) (fun hb121 => ?_)
  · rw [if_pos hb121] at hF
    refine CW_skip ?_
    refine K_block ?_
    refine K_region ?_
    refine C_val (V_move (v := v0_0.v) (.tmp rfl rfl)) ?_
    refine C_val (V_move (v := (.int .i64 c63)) (.tmp rfl rfl)) ?_
    refine C_val (V_move (v := (.int .i64 c62)) (.tmp rfl rfl)) ?_
    obtain ⟨x75, hx76, hF⟩ := bind_some hF
    have hi74 := ix_chk hx76
    obtain ⟨hp77, hx78⟩ := ix_some hx76
    refine C_idxO sl35 ty101.sz (.tmp rfl rfl) (.tmp rfl rfl) .h hi74 (fun k72 hk73 => ?_)
    refine C_val (V_fieldAddr (off := 0) fd101_0 (.tmp rfl rfl)) ?_
    obtain ⟨z79, hx80, hF⟩ := bind_some hF
    replace hx80 := Option.some.inj hx80
    refine C_x1 (.cons .h .nil) (X_storeF (Ro := ow101) (i := c63) ty3.sz rfl (.tmp rfl rfl) (.tmp rfl rfl) hk73 hx78 rfl rfl fsf101_0 (sf101_0 (d := c62))) (fun _ => ?_)
    rw [hx80]
    refine C_nil ?_
    refine K_region ?_
    refine C_val (V_move (v := (.int .i64 c62)) (.tmp rfl rfl)) ?_
    refine C_val (V_add (i := c62) (j := 1) (.tmp rfl rfl) (.int _ _)) ?_
    refine C_val (V_assign (v := (.int .i64 (IntKind.i64.wrap (c62 + 1)))) (.tmp rfl rfl)) ?_
    refine C_nil ?_
    refine K_region ?_
    refine C_val (V_move (v := v0_0.v) (.tmp rfl rfl)) ?_
    refine C_val (V_move (v := (.int .i64 c63)) (.tmp rfl rfl)) ?_
    obtain ⟨x84, hx85, hF⟩ := bind_some hF
    have hi83 := ix_chk hx85
    obtain ⟨hp86, hx87⟩ := ix_some hx85
    refine C_idxO sl35 ty101.sz (.tmp rfl rfl) (.tmp rfl rfl) .h hi83 (fun k81 hk82 => ?_)
    refine C_val (V_fieldAddr (off := 1) fd101_1 (.tmp rfl rfl)) ?_
    refine C_ldOV ag45 (.tmp rfl rfl) .h hk82 hx87 pt101_1 (fun w88 => ?_)
    refine C_val (V_move (v := (.int .i64 (IntKind.i64.wrap (c62 + 1)))) (.tmp rfl rfl)) ?_
    obtain ⟨r89, hx90, hF⟩ := bind_some hF
    obtain ⟨z92, hx93, hF⟩ := bind_some hF
    replace hx93 := Option.some.inj hx93
    refine C_x1 (.cons .h .nil) (X_part hx87 pt101_1 (fun Fw => X_callS cf32 (.cons (.tmp rfl rfl) (.cons (.tmp rfl rfl) .nil)) (l_markIntS_ok x84.Inputs w88 Fw (IntKind.i64.wrap (c62 + 1)) _ hx90)) rfl) (fun p91 => ?_)
    rw [hx93]
    refine C_val (V_assign (v := (.int .i64 r89.1)) (.tmp rfl rfl)) ?_
    refine C_nil ?_
    refine K_region ?_
    refine C_val (V_move (v := v0_0.v) (.tmp rfl rfl)) ?_
    refine C_val (V_move (v := (.int .i64 c63)) (.tmp rfl rfl)) ?_
    refine C_val (V_move (v := (.int .i64 r89.1)) (.tmp rfl rfl)) ?_
    obtain ⟨x97, hx98, hF⟩ := bind_some hF
    have hi96 := ix_chk hx98
    obtain ⟨hp99, hx100⟩ := ix_some hx98
    refine C_idxO sl35 ty101.sz (.tmp rfl rfl) (.tmp rfl rfl) .h hi96 (fun k94 hk95 => ?_)
    refine C_val (V_fieldAddr (off := 2) fd101_2 (.tmp rfl rfl)) ?_
    obtain ⟨z101, hx102, hF⟩ := bind_some hF
    replace hx102 := Option.some.inj hx102
    refine C_x1 (.cons .h .nil) (X_storeF (Ro := ow101) (i := c63) ty3.sz rfl (.tmp rfl rfl) (.tmp rfl rfl) hk95 hx100 rfl rfl fsf101_2 (sf101_2 (d := r89.1))) (fun _ => ?_)
    rw [hx102]
    refine C_nil ?_
    refine K_region ?_
    refine C_val (V_move (v := (.int .i64 r89.1)) (.tmp rfl rfl)) ?_
    refine C_val (V_add (i := r89.1) (j := 1) (.tmp rfl rfl) (.int _ _)) ?_
    refine C_val (V_assign (v := (.int .i64 (IntKind.i64.wrap (r89.1 + 1)))) (.tmp rfl rfl)) ?_
    refine C_nil ?_
    refine K_region ?_
    refine C_val (V_move (v := v0_0.v) (.tmp rfl rfl)) ?_
    refine C_val (V_move (v := (.int .i64 c63)) (.tmp rfl rfl)) ?_
    refine C_val (V_move (v := (.int .i64 (IntKind.i64.wrap (r89.1 + 1)))) (.tmp rfl rfl)) ?_
    obtain ⟨x106, hx107, hF⟩ := bind_some hF
    have hi105 := ix_chk hx107
    obtain ⟨hp108, hx109⟩ := ix_some hx107
    refine C_idxO sl35 ty101.sz (.tmp rfl rfl) (.tmp rfl rfl) .h hi105 (fun k103 hk104 => ?_)
    refine C_val (V_fieldAddr (off := 3) fd101_3 (.tmp rfl rfl)) ?_
    obtain ⟨z110, hx111, hF⟩ := bind_some hF
    replace hx111 := Option.some.inj hx111
    refine C_x1 (.cons .h .nil) (X_storeF (Ro := ow101) (i := c63) ty3.sz rfl (.tmp rfl rfl) (.tmp rfl rfl) hk104 hx109 rfl rfl fsf101_3 (sf101_3 (d := (IntKind.i64.wrap (r89.1 + 1))))) (fun _ => ?_)
    rw [hx111]
    refine C_nil ?_
    refine K_region ?_
    refine C_val (V_move (v := (.int .i64 (IntKind.i64.wrap (r89.1 + 1)))) (.tmp rfl rfl)) ?_
    refine C_val (V_add (i := (IntKind.i64.wrap (r89.1 + 1))) (j := 1) (.tmp rfl rfl) (.int _ _)) ?_
    refine C_val (V_assign (v := (.int .i64 (IntKind.i64.wrap ((IntKind.i64.wrap (r89.1 + 1)) + 1)))) (.tmp rfl rfl)) ?_
    refine C_nil ?_
    refine K_region ?_
    refine C_val (V_move (v := v0_0.v) (.tmp rfl rfl)) ?_
    refine C_val (V_move (v := (.int .i64 c63)) (.tmp rfl rfl)) ?_
    refine C_val (V_move (v := (.int .i64 (IntKind.i64.wrap ((IntKind.i64.wrap (r89.1 + 1)) + 1)))) (.tmp rfl rfl)) ?_
    obtain ⟨x115, hx116, hF⟩ := bind_some hF
    have hi114 := ix_chk hx116
    obtain ⟨hp117, hx118⟩ := ix_some hx116
    refine C_idxO sl35 ty101.sz (.tmp rfl rfl) (.tmp rfl rfl) .h hi114 (fun k112 hk113 => ?_)
    refine C_val (V_fieldAddr (off := 4) fd101_4 (.tmp rfl rfl)) ?_
    obtain ⟨z119, hx120, hF⟩ := bind_some hF
    replace hx120 := Option.some.inj hx120
    refine C_x1 (.cons .h .nil) (X_storeF (Ro := ow101) (i := c63) ty3.sz rfl (.tmp rfl rfl) (.tmp rfl rfl) hk113 hx118 rfl rfl fsf101_4 (sf101_4 (d := (IntKind.i64.wrap ((IntKind.i64.wrap (r89.1 + 1)) + 1))))) (fun _ => ?_)
    rw [hx120]
    refine C_nil ?_
    refine CW_region ?_
    refine C_val (V_move (v := (.int .i64 (IntKind.i64.wrap ((IntKind.i64.wrap (r89.1 + 1)) + 1)))) (.tmp rfl rfl)) ?_
    refine C_val (V_add (i := (IntKind.i64.wrap ((IntKind.i64.wrap (r89.1 + 1)) + 1))) (j := 1) (.tmp rfl rfl) (.int _ _)) ?_
    refine C_val (V_assign (v := (.int .i64 (IntKind.i64.wrap ((IntKind.i64.wrap ((IntKind.i64.wrap (r89.1 + 1)) + 1)) + 1)))) (.tmp rfl rfl)) ?_
    refine C_nil ?_
    refine CW_region ?_
    refine C_val (V_move (v := (.int .i64 c63)) (.tmp rfl rfl)) ?_
    refine C_val (V_add (i := c63) (j := 1) (.tmp rfl rfl) (.int _ _)) ?_
    refine C_val (V_assign (v := (.int .i64 (IntKind.i64.wrap (c63 + 1)))) (.tmp rfl rfl)) ?_
    refine C_nil ?_
    exact ⟨m64, Nat.lt_succ_self _, _, _, _, _, p91.2, (EqL.cons rfl (EqL.cons rfl (EqL.cons rfl (EqL.nil)))).eq, (.sel (.cons .h .nil)), hF⟩
  rw [if_neg (by rw [hb121]; exact Bool.false_ne_true)] at hF
  refine CW_exit ?_
  refine CThen_exit ?_
  refine CThen_exit ?_
  refine CIn_self ?_
  refine K_region ?_
  refine C_val (V_move (v := (.int .i64 c62)) (.tmp rfl rfl)) ?_
  refine C_val (V_assign (v := (.int .i64 c62)) (.tmp rfl rfl)) ?_
  refine C_nil ?_
  refine CW_ret ?_
  obtain rfl := Option.some.inj hF
  exact End_ret F61 (.tmp rfl rfl .nil) rfl (.sel (.cons .h .nil))

/-! laws.markRuleS -/
def l_markRuleS_L1 : Nat → (List Rule) → Int → Int → Option (Int × (List Rule))
  | 0, _, _, _ => none
  | m46 + 1, c42, c44, c45 => if (decide ((c45 : Int) < (c42.length : Int))) then (
      (ix c42 c45).bind fun x57 =>
      (some (c42.set (c45).toNat { x57 with From := c44 })).bind fun z61 =>
      (ix z61 c45).bind fun x66 =>
      (some (z61.set (c45).toNat { x66 with To := (IntKind.i64.wrap (c44 + 1)) })).bind fun z70 =>
      (ix z70 c45).bind fun x75 =>
      (l_markIntS x75.Map (IntKind.i64.wrap ((IntKind.i64.wrap (c44 + 1)) + 1))).bind fun r80 =>
      (some (z70.set (c45).toNat { x75 with Map := r80.2 })).bind fun z83 =>
      l_markRuleS_L1 m46 z83 r80.1 (IntKind.i64.wrap (c45 + 1)))
    else (
      some (c44, c42))
def l_markRuleS (a_a : List Rule) (a_k : Int) : Option (Int × (List Rule)) :=
  l_markRuleS_L1 (((a_a.length : Int) - 0).toNat + 2) a_a a_k 0
theorem l_markRuleS_ok (a_a : List Rule) (v0_0 : Sv) (F0_0 : List Nat) (a_k : Int) (R : Int × (List Rule)) (hF : l_markRuleS a_a a_k = some R) :
    Fw.Spec Try.prog 70 [v0_0.v, (.int .i64 a_k)] [cown (OwnS 126 ow126) F0_0 v0_0.v a_a] (fun _ : List Nat => (.int .i64 R.1)) (fun p => [cown (OwnS 126 ow126) p v0_0.v R.2]) := by
  refine Spec_enter (n := 34) Try.func70 rfl rfl (rs := [.tmp 4]) rfl rfl rfl ?_
  intro H0 F0
  unfold l_markRuleS at hF
  refine K_region ?_
  refine C_val (V_assign (v := (.int .i64 0)) (.int _ _)) ?_
  refine C_nil ?_
  refine K_in ?_
  refine K_region ?_
  refine C_val (V_assign (v := (.int .i64 0)) (.int _ _)) ?_
  refine C_nil ?_
  refine CW_block ?_
  refine CW_loop (m := (((a_a.length : Int) - 0).toNat + 2)) (fun m46 f' cs' => ∃ (g : Fr) (c42 : List Rule) (c44 : Int) (c45 : Int) (F43 : List Nat), f' = updL g [(0, v0_0.v), (1, (.int .i64 c44)), (5, (.int .i64 c45))] ∧ Ent cs' [cown (OwnS 126 ow126) F43 v0_0.v c42] ∧ l_markRuleS_L1 m46 c42 c44 c45 = some R) ⟨_, _, _, _, F0_0, (EqL.cons rfl (EqL.cons rfl (EqL.cons rfl (EqL.nil)))).eq, (.sel (.cons .h .nil)), hF⟩ ?_
  clear hF
  rintro m46 _ _ ⟨g47, c42, c44, c45, F43, rfl, hE, hF⟩
  refine K_ent hE ?_
  clear hE
  rcases m46 with _ | m46
  · rw [l_markRuleS_L1] at hF
    exact absurd hF (by simp)
  rw [l_markRuleS_L1] at hF
  refine K_in ?_
  refine K_region ?_
  refine C_val (V_move (v := (.int .i64 c45)) (.tmp rfl rfl)) ?_
  refine C_val (V_move (v := v0_0.v) (.tmp rfl rfl)) ?_
  refine C_at .h (fun hp => V_lenR (l := c42.length) sl46 (.tmp rfl rfl) (cown_len hp)) ?_
  refine C_val (V_lss (i := c45) (j := (c42.length : Int)) (.tmp rfl rfl) (.tmp rfl rfl)) ?_
  refine C_nil ?_
  refine CW_cond (b := (decide ((c45 : Int) < (c42.length : Int)))) (.tmp rfl rfl) (fun hb85 => ?_) (fun hb85 => ?_)
  · rw [if_pos hb85] at hF
    refine CW_skip ?_
    refine K_block ?_
    refine K_region ?_
    refine C_val (V_move (v := v0_0.v) (.tmp rfl rfl)) ?_
    refine C_val (V_move (v := (.int .i64 c45)) (.tmp rfl rfl)) ?_
    refine C_val (V_move (v := (.int .i64 c44)) (.tmp rfl rfl)) ?_
    obtain ⟨x57, hx58, hF⟩ := bind_some hF
    have hi56 := ix_chk hx58
    obtain ⟨hp59, hx60⟩ := ix_some hx58
    refine C_idxO sl46 ty126.sz (.tmp rfl rfl) (.tmp rfl rfl) .h hi56 (fun k54 hk55 => ?_)
    refine C_val (V_fieldAddr (off := 0) fd126_0 (.tmp rfl rfl)) ?_
    obtain ⟨z61, hx62, hF⟩ := bind_some hF
    replace hx62 := Option.some.inj hx62
    refine C_x1 (.cons .h .nil) (X_storeF (Ro := ow126) (i := c45) ty3.sz rfl (.tmp rfl rfl) (.tmp rfl rfl) hk55 hx60 rfl rfl fsf126_0 (sf126_0 (d := c44))) (fun _ => ?_)
    rw [hx62]
    refine C_nil ?_
    refine K_region ?_
    refine C_val (V_move (v := (.int .i64 c44)) (.tmp rfl rfl)) ?_
    refine C_val (V_add (i := c44) (j := 1) (.tmp rfl rfl) (.int _ _)) ?_
    refine C_val (V_assign (v := (.int .i64 (IntKind.i64.wrap (c44 + 1)))) (.tmp rfl rfl)) ?_
    refine C_nil ?_
    refine K_region ?_
    refine C_val (V_move (v := v0_0.v) (.tmp rfl rfl)) ?_
    refine C_val (V_move (v := (.int .i64 c45)) (.tmp rfl rfl)) ?_
    refine C_val (V_move (v := (.int .i64 (IntKind.i64.wrap (c44 + 1)))) (.tmp rfl rfl)) ?_
    obtain ⟨x66, hx67, hF⟩ := bind_some hF
    have hi65 := ix_chk hx67
    obtain ⟨hp68, hx69⟩ := ix_some hx67
    refine C_idxO sl46 ty126.sz (.tmp rfl rfl) (.tmp rfl rfl) .h hi65 (fun k63 hk64 => ?_)
    refine C_val (V_fieldAddr (off := 1) fd126_1 (.tmp rfl rfl)) ?_
    obtain ⟨z70, hx71, hF⟩ := bind_some hF
    replace hx71 := Option.some.inj hx71
    refine C_x1 (.cons .h .nil) (X_storeF (Ro := ow126) (i := c45) ty3.sz rfl (.tmp rfl rfl) (.tmp rfl rfl) hk64 hx69 rfl rfl fsf126_1 (sf126_1 (d := (IntKind.i64.wrap (c44 + 1))))) (fun _ => ?_)
    rw [hx71]
    refine C_nil ?_
    refine K_region ?_
    refine C_val (V_move (v := (.int .i64 (IntKind.i64.wrap (c44 + 1)))) (.tmp rfl rfl)) ?_
    refine C_val (V_add (i := (IntKind.i64.wrap (c44 + 1))) (j := 1) (.tmp rfl rfl) (.int _ _)) ?_
    refine C_val (V_assign (v := (.int .i64 (IntKind.i64.wrap ((IntKind.i64.wrap (c44 + 1)) + 1)))) (.tmp rfl rfl)) ?_
    refine C_nil ?_
    refine CW_region ?_
    refine C_val (V_move (v := v0_0.v) (.tmp rfl rfl)) ?_
    refine C_val (V_move (v := (.int .i64 c45)) (.tmp rfl rfl)) ?_
    obtain ⟨x75, hx76, hF⟩ := bind_some hF
    have hi74 := ix_chk hx76
    obtain ⟨hp77, hx78⟩ := ix_some hx76
    refine C_idxO sl46 ty126.sz (.tmp rfl rfl) (.tmp rfl rfl) .h hi74 (fun k72 hk73 => ?_)
    refine C_val (V_fieldAddr (off := 2) fd126_2 (.tmp rfl rfl)) ?_
    refine C_ldOV ag45 (.tmp rfl rfl) .h hk73 hx78 pt126_2 (fun w79 => ?_)
    refine C_val (V_move (v := (.int .i64 (IntKind.i64.wrap ((IntKind.i64.wrap (c44 + 1)) + 1)))) (.tmp rfl rfl)) ?_
    obtain ⟨r80, hx81, hF⟩ := bind_some hF
    obtain ⟨z83, hx84, hF⟩ := bind_some hF
    replace hx84 := Option.some.inj hx84
    refine C_x1 (.cons .h .nil) (X_part hx78 pt126_2 (fun Fw => X_callS cf32 (.cons (.tmp rfl rfl) (.cons (.tmp rfl rfl) .nil)) (l_markIntS_ok x75.Map w79 Fw (IntKind.i64.wrap ((IntKind.i64.wrap (c44 + 1)) + 1)) _ hx81)) rfl) (fun p82 => ?_)
    rw [hx84]
    refine C_val (V_assign (v := (.int .i64 r80.1)) (.tmp rfl rfl)) ?_
    refine C_nil ?_
    refine CW_region ?_
    refine C_val (V_move (v := (.int .i64 c45)) (.tmp rfl rfl)) ?_
    refine C_val (V_add (i := c45) (j := 1) (.tmp rfl rfl) (.int _ _)) ?_
    refine C_val (V_assign (v := (.int .i64 (IntKind.i64.wrap (c45 + 1)))) (.tmp rfl rfl)) ?_
    refine C_nil ?_
    exact ⟨m46, Nat.lt_succ_self _, _, _, _, _, p82.2, (EqL.cons rfl (EqL.cons rfl (EqL.cons rfl (EqL.nil)))).eq, (.sel (.cons .h .nil)), hF⟩
  rw [if_neg (by rw [hb85]; exact Bool.false_ne_true)] at hF
  refine CW_exit ?_
  refine CThen_exit ?_
  refine CThen_exit ?_
  refine CIn_self ?_
  refine K_region ?_
  refine C_val (V_move (v := (.int .i64 c44)) (.tmp rfl rfl)) ?_
  refine C_val (V_assign (v := (.int .i64 c44)) (.tmp rfl rfl)) ?_
  refine C_nil ?_
  refine CW_ret ?_
  obtain rfl := Option.some.inj hF
  exact End_ret F43 (.tmp rfl rfl .nil) rfl (.sel (.cons .h .nil))

/-! laws.markFactS -/
def l_markFactS_L1 : Nat → (List Fact) → Int → Int → Option (Int × (List Fact))
  | 0, _, _, _ => none
  | m37 + 1, c33, c35, c36 => if (decide ((c36 : Int) < (c33.length : Int))) then (
      (ix c33 c36).bind fun x48 =>
      (some (c33.set (c36).toNat { x48 with Rel := c35 })).bind fun z52 =>
      (ix z52 c36).bind fun x57 =>
      (l_markIntS x57.Values (IntKind.i64.wrap (c35 + 1))).bind fun r62 =>
      (some (z52.set (c36).toNat { x57 with Values := r62.2 })).bind fun z65 =>
      l_markFactS_L1 m37 z65 r62.1 (IntKind.i64.wrap (c36 + 1)))
    else (
      some (c35, c33))
def l_markFactS (a_a : List Fact) (a_k : Int) : Option (Int × (List Fact)) :=
  l_markFactS_L1 (((a_a.length : Int) - 0).toNat + 2) a_a a_k 0
theorem l_markFactS_ok (a_a : List Fact) (v0_0 : Sv) (F0_0 : List Nat) (a_k : Int) (R : Int × (List Fact)) (hF : l_markFactS a_a a_k = some R) :
    Fw.Spec Try.prog 119 [v0_0.v, (.int .i64 a_k)] [cown (OwnS 157 ow157) F0_0 v0_0.v a_a] (fun _ : List Nat => (.int .i64 R.1)) (fun p => [cown (OwnS 157 ow157) p v0_0.v R.2]) := by
  refine Spec_enter (n := 27) Try.func119 rfl rfl (rs := [.tmp 4]) rfl rfl rfl ?_
  intro H0 F0
  unfold l_markFactS at hF
  refine K_region ?_
  refine C_val (V_assign (v := (.int .i64 0)) (.int _ _)) ?_
  refine C_nil ?_
  refine K_in ?_
  refine K_region ?_
  refine C_val (V_assign (v := (.int .i64 0)) (.int _ _)) ?_
  refine C_nil ?_
  refine CW_block ?_
  refine CW_loop (m := (((a_a.length : Int) - 0).toNat + 2)) (fun m37 f' cs' => ∃ (g : Fr) (c33 : List Fact) (c35 : Int) (c36 : Int) (F34 : List Nat), f' = updL g [(0, v0_0.v), (1, (.int .i64 c35)), (5, (.int .i64 c36))] ∧ Ent cs' [cown (OwnS 157 ow157) F34 v0_0.v c33] ∧ l_markFactS_L1 m37 c33 c35 c36 = some R) ⟨_, _, _, _, F0_0, (EqL.cons rfl (EqL.cons rfl (EqL.cons rfl (EqL.nil)))).eq, (.sel (.cons .h .nil)), hF⟩ ?_
  clear hF
  rintro m37 _ _ ⟨g38, c33, c35, c36, F34, rfl, hE, hF⟩
  refine K_ent hE ?_
  clear hE
  rcases m37 with _ | m37
  · rw [l_markFactS_L1] at hF
    exact absurd hF (by simp)
  rw [l_markFactS_L1] at hF
  refine K_in ?_
  refine K_region ?_
  refine C_val (V_move (v := (.int .i64 c36)) (.tmp rfl rfl)) ?_
  refine C_val (V_move (v := v0_0.v) (.tmp rfl rfl)) ?_
  refine C_at .h (fun hp => V_lenR (l := c33.length) sl47 (.tmp rfl rfl) (cown_len hp)) ?_
  refine C_val (V_lss (i := c36) (j := (c33.length : Int)) (.tmp rfl rfl) (.tmp rfl rfl)) ?_
  refine C_nil ?_
  refine CW_cond (b := (decide ((c36 : Int) < (c33.length : Int)))) (.tmp rfl rfl) (fun hb67 => ?_) (fun hb67 => ?_)
  · rw [if_pos hb67] at hF
    refine CW_skip ?_
    refine K_block ?_
    refine K_region ?_
    refine C_val (V_move (v := v0_0.v) (.tmp rfl rfl)) ?_
    refine C_val (V_move (v := (.int .i64 c36)) (.tmp rfl rfl)) ?_
    refine C_val (V_move (v := (.int .i64 c35)) (.tmp rfl rfl)) ?_
    obtain ⟨x48, hx49, hF⟩ := bind_some hF
    have hi47 := ix_chk hx49
    obtain ⟨hp50, hx51⟩ := ix_some hx49
    refine C_idxO sl47 ty157.sz (.tmp rfl rfl) (.tmp rfl rfl) .h hi47 (fun k45 hk46 => ?_)
    refine C_val (V_fieldAddr (off := 0) fd157_0 (.tmp rfl rfl)) ?_
    obtain ⟨z52, hx53, hF⟩ := bind_some hF
    replace hx53 := Option.some.inj hx53
    refine C_x1 (.cons .h .nil) (X_storeF (Ro := ow157) (i := c36) ty3.sz rfl (.tmp rfl rfl) (.tmp rfl rfl) hk46 hx51 rfl rfl fsf157_0 (sf157_0 (d := c35))) (fun _ => ?_)
    rw [hx53]
    refine C_nil ?_
    refine K_region ?_
    refine C_val (V_move (v := (.int .i64 c35)) (.tmp rfl rfl)) ?_
    refine C_val (V_add (i := c35) (j := 1) (.tmp rfl rfl) (.int _ _)) ?_
    refine C_val (V_assign (v := (.int .i64 (IntKind.i64.wrap (c35 + 1)))) (.tmp rfl rfl)) ?_
    refine C_nil ?_
    refine CW_region ?_
    refine C_val (V_move (v := v0_0.v) (.tmp rfl rfl)) ?_
    refine C_val (V_move (v := (.int .i64 c36)) (.tmp rfl rfl)) ?_
    obtain ⟨x57, hx58, hF⟩ := bind_some hF
    have hi56 := ix_chk hx58
    obtain ⟨hp59, hx60⟩ := ix_some hx58
    refine C_idxO sl47 ty157.sz (.tmp rfl rfl) (.tmp rfl rfl) .h hi56 (fun k54 hk55 => ?_)
    refine C_val (V_fieldAddr (off := 1) fd157_1 (.tmp rfl rfl)) ?_
    refine C_ldOV ag45 (.tmp rfl rfl) .h hk55 hx60 pt157_1 (fun w61 => ?_)
    refine C_val (V_move (v := (.int .i64 (IntKind.i64.wrap (c35 + 1)))) (.tmp rfl rfl)) ?_
    obtain ⟨r62, hx63, hF⟩ := bind_some hF
    obtain ⟨z65, hx66, hF⟩ := bind_some hF
    replace hx66 := Option.some.inj hx66
    refine C_x1 (.cons .h .nil) (X_part hx60 pt157_1 (fun Fw => X_callS cf32 (.cons (.tmp rfl rfl) (.cons (.tmp rfl rfl) .nil)) (l_markIntS_ok x57.Values w61 Fw (IntKind.i64.wrap (c35 + 1)) _ hx63)) rfl) (fun p64 => ?_)
    rw [hx66]
    refine C_val (V_assign (v := (.int .i64 r62.1)) (.tmp rfl rfl)) ?_
    refine C_nil ?_
    refine CW_region ?_
    refine C_val (V_move (v := (.int .i64 c36)) (.tmp rfl rfl)) ?_
    refine C_val (V_add (i := c36) (j := 1) (.tmp rfl rfl) (.int _ _)) ?_
    refine C_val (V_assign (v := (.int .i64 (IntKind.i64.wrap (c36 + 1)))) (.tmp rfl rfl)) ?_
    refine C_nil ?_
    exact ⟨m37, Nat.lt_succ_self _, _, _, _, _, p64.2, (EqL.cons rfl (EqL.cons rfl (EqL.cons rfl (EqL.nil)))).eq, (.sel (.cons .h .nil)), hF⟩
  rw [if_neg (by rw [hb67]; exact Bool.false_ne_true)] at hF
  refine CW_exit ?_
  refine CThen_exit ?_
  refine CThen_exit ?_
  refine CIn_self ?_
  refine K_region ?_
  refine C_val (V_move (v := (.int .i64 c35)) (.tmp rfl rfl)) ?_
  refine C_val (V_assign (v := (.int .i64 c35)) (.tmp rfl rfl)) ?_
  refine C_nil ?_
  refine CW_ret ?_
  obtain rfl := Option.some.inj hF
  exact End_ret F34 (.tmp rfl rfl .nil) rfl (.sel (.cons .h .nil))

/-! laws.markSource -/
def l_markSource (a_a : Source) (a_k : Int) : Option (Int × Source) :=
  (l_markFactS a_a.Facts a_k).bind fun r2 =>
  some (r2.1, ({ Facts := r2.2, Version := a_a.Version } : Source))
theorem l_markSource_ok (a_a : Source) (v0_0 : Sv) (F0_0 : List Nat) (a_k : Int) (R : Int × Source) (hF : l_markSource a_a a_k = some R) :
    Fw.Spec Try.prog 71 [(.agg [v0_0.v, (.int .i64 a_a.Version)].toArray), (.int .i64 a_k)] [cown (OwnS 157 ow157) F0_0 v0_0.v a_a.Facts] (fun _ : List Nat => (.int .i64 R.1)) (fun p => [cown (OwnS 157 ow157) p v0_0.v R.2.Facts]) := by
  refine Spec_enter (n := 10) Try.func71 rfl rfl (rs := [.tmp 4]) rfl rfl rfl ?_
  intro H0 F0
  unfold l_markSource at hF
  refine K_region ?_
  refine C_newR rfl (N_box (g := false) (v := (.agg [v0_0.v, (.int .i64 a_a.Version)].toArray)) ty49.sz (.tmp rfl rfl) rfl) (fun k1 => ?_)
  refine C_val (V_assign (v := (.int .i64 0)) (.int _ _)) ?_
  refine C_nil ?_
  refine K_region ?_
  refine C_val (V_fieldAddr (off := 0) fd49_0 (.tmp rfl rfl)) ?_
  refine C_at .h (fun hp => V_load (v := v0_0.v) ag47 (.tmp rfl rfl) hp.2 rfl rfl) ?_
  refine C_val (V_move (v := (.int .i64 a_k)) (.tmp rfl rfl)) ?_
  obtain ⟨r2, hx3, hF⟩ := bind_some hF
  refine C_x1 (.cons (.t .h) .nil) (X_callS cf119 (.cons (.tmp rfl rfl) (.cons (.tmp rfl rfl) .nil)) (l_markFactS_ok a_a.Facts v0_0 F0_0 a_k _ hx3)) (fun p4 => ?_)
  refine C_val (V_assign (v := (.int .i64 r2.1)) (.tmp rfl rfl)) ?_
  refine C_nil ?_
  refine K_region ?_
  refine C_val (V_move (v := (.int .i64 r2.1)) (.tmp rfl rfl)) ?_
  refine C_val (V_assign (v := (.int .i64 r2.1)) (.tmp rfl rfl)) ?_
  refine C_nil ?_
  refine CW_ret ?_
  obtain rfl := Option.some.inj hF
  exact End_ret p4 (.tmp rfl rfl .nil) rfl (.sel (.cons .h .nil))

/-! laws.markStoredS -/
def l_markStoredS_L1 : Nat → (List Stored) → Int → Int → Option (Int × (List Stored))
  | 0, _, _, _ => none
  | m59 + 1, c55, c57, c58 => if (decide ((c58 : Int) < (c55.length : Int))) then (
      (ix c55 c58).bind fun x70 =>
      (some (c55.set (c58).toNat { x70 with Access := { x70.Access with Method := c57 } })).bind fun z74 =>
      (ix z74 c58).bind fun x79 =>
      (l_markIntS x79.Access.Values (IntKind.i64.wrap (c57 + 1))).bind fun r84 =>
      (some (z74.set (c58).toNat { x79 with Access := { x79.Access with Values := r84.2 } })).bind fun z87 =>
      (ix z87 c58).bind fun x92 =>
      (l_markFactS x92.Facts r84.1).bind fun r97 =>
      (some (z87.set (c58).toNat { x92 with Facts := r97.2 })).bind fun z100 =>
      (ix z100 c58).bind fun x105 =>
      (some (z100.set (c58).toNat { x105 with At := r97.1 })).bind fun z109 =>
      l_markStoredS_L1 m59 z109 (IntKind.i64.wrap (r97.1 + 1)) (IntKind.i64.wrap (c58 + 1)))
    else (
      some (c57, c55))
def l_markStoredS (a_a : List Stored) (a_k : Int) : Option (Int × (List Stored)) :=
  l_markStoredS_L1 (((a_a.length : Int) - 0).toNat + 2) a_a a_k 0
theorem l_markStoredS_ok (a_a : List Stored) (v0_0 : Sv) (F0_0 : List Nat) (a_k : Int) (R : Int × (List Stored)) (hF : l_markStoredS a_a a_k = some R) :
    Fw.Spec Try.prog 120 [v0_0.v, (.int .i64 a_k)] [cown (OwnS 159 ow159) F0_0 v0_0.v a_a] (fun _ : List Nat => (.int .i64 R.1)) (fun p => [cown (OwnS 159 ow159) p v0_0.v R.2]) := by
  refine Spec_enter (n := 43) Try.func120 rfl rfl (rs := [.tmp 4]) rfl rfl rfl ?_
  intro H0 F0
  unfold l_markStoredS at hF
  refine K_region ?_
  refine C_val (V_assign (v := (.int .i64 0)) (.int _ _)) ?_
  refine C_nil ?_
  refine K_in ?_
  refine K_region ?_
  refine C_val (V_assign (v := (.int .i64 0)) (.int _ _)) ?_
  refine C_nil ?_
  refine CW_block ?_
  refine CW_loop (m := (((a_a.length : Int) - 0).toNat + 2)) (fun m59 f' cs' => ∃ (g : Fr) (c55 : List Stored) (c57 : Int) (c58 : Int) (F56 : List Nat), f' = updL g [(0, v0_0.v), (1, (.int .i64 c57)), (5, (.int .i64 c58))] ∧ Ent cs' [cown (OwnS 159 ow159) F56 v0_0.v c55] ∧ l_markStoredS_L1 m59 c55 c57 c58 = some R) ⟨_, _, _, _, F0_0, (EqL.cons rfl (EqL.cons rfl (EqL.cons rfl (EqL.nil)))).eq, (.sel (.cons .h .nil)), hF⟩ ?_
  clear hF
  rintro m59 _ _ ⟨g60, c55, c57, c58, F56, rfl, hE, hF⟩
  refine K_ent hE ?_
  clear hE
  rcases m59 with _ | m59
  · rw [l_markStoredS_L1] at hF
    exact absurd hF (by simp)
  rw [l_markStoredS_L1] at hF
  refine K_in ?_
  refine K_region ?_
  refine C_val (V_move (v := (.int .i64 c58)) (.tmp rfl rfl)) ?_
  refine C_val (V_move (v := v0_0.v) (.tmp rfl rfl)) ?_
  refine C_at .h (fun hp => V_lenR (l := c55.length) sl50 (.tmp rfl rfl) (cown_len hp)) ?_
  refine C_val (V_lss (i := c58) (j := (c55.length : Int)) (.tmp rfl rfl) (.tmp rfl rfl)) ?_
  refine C_nil ?_
  refine CW_cond (b := (decide ((c58 : Int) < (c55.length : Int)))) (.tmp rfl rfl) (fun hb111 => ?_) (fun hb111 => ?_)
  · rw [if_pos hb111] at hF
    refine CW_skip ?_
    refine K_block ?_
    refine K_region ?_
    refine C_val (V_move (v := v0_0.v) (.tmp rfl rfl)) ?_
    refine C_val (V_move (v := (.int .i64 c58)) (.tmp rfl rfl)) ?_
    refine C_val (V_move (v := (.int .i64 c57)) (.tmp rfl rfl)) ?_
    obtain ⟨x70, hx71, hF⟩ := bind_some hF
    have hi69 := ix_chk hx71
    obtain ⟨hp72, hx73⟩ := ix_some hx71
    refine C_idxO sl50 ty159.sz (.tmp rfl rfl) (.tmp rfl rfl) .h hi69 (fun k67 hk68 => ?_)
    refine C_val (V_fieldAddr (off := 0) fd159_0 (.tmp rfl rfl)) ?_
    refine C_val (V_fieldAddr (off := 0) fd100_0 (.tmp rfl rfl)) ?_
    obtain ⟨z74, hx75, hF⟩ := bind_some hF
    replace hx75 := Option.some.inj hx75
    refine C_x1 (.cons .h .nil) (X_storeF (Ro := ow159) (i := c58) ty3.sz rfl (.tmp rfl rfl) (.tmp rfl rfl) hk68 hx73 rfl rfl fsf159_0 (sf159_0 (d := c57))) (fun _ => ?_)
    rw [hx75]
    refine C_nil ?_
    refine K_region ?_
    refine C_val (V_move (v := (.int .i64 c57)) (.tmp rfl rfl)) ?_
    refine C_val (V_add (i := c57) (j := 1) (.tmp rfl rfl) (.int _ _)) ?_
    refine C_val (V_assign (v := (.int .i64 (IntKind.i64.wrap (c57 + 1)))) (.tmp rfl rfl)) ?_
    refine C_nil ?_
    refine K_region ?_
    refine C_val (V_move (v := v0_0.v) (.tmp rfl rfl)) ?_
    refine C_val (V_move (v := (.int .i64 c58)) (.tmp rfl rfl)) ?_
    obtain ⟨x79, hx80, hF⟩ := bind_some hF
    have hi78 := ix_chk hx80
    obtain ⟨hp81, hx82⟩ := ix_some hx80
    refine C_idxO sl50 ty159.sz (.tmp rfl rfl) (.tmp rfl rfl) .h hi78 (fun k76 hk77 => ?_)
    refine C_val (V_fieldAddr (off := 0) fd159_0 (.tmp rfl rfl)) ?_
    refine C_val (V_fieldAddr (off := 1) fd100_1 (.tmp rfl rfl)) ?_
    refine C_ldOV ag45 (.tmp rfl rfl) .h hk77 hx82 pt159_1 (fun w83 => ?_)
    refine C_val (V_move (v := (.int .i64 (IntKind.i64.wrap (c57 + 1)))) (.tmp rfl rfl)) ?_
    obtain ⟨r84, hx85, hF⟩ := bind_some hF
    obtain ⟨z87, hx88, hF⟩ := bind_some hF
    replace hx88 := Option.some.inj hx88
    refine C_x1 (.cons .h .nil) (X_part hx82 pt159_1 (fun Fw => X_callS cf32 (.cons (.tmp rfl rfl) (.cons (.tmp rfl rfl) .nil)) (l_markIntS_ok x79.Access.Values w83 Fw (IntKind.i64.wrap (c57 + 1)) _ hx85)) rfl) (fun p86 => ?_)
    rw [hx88]
    refine C_val (V_assign (v := (.int .i64 r84.1)) (.tmp rfl rfl)) ?_
    refine C_nil ?_
    refine K_region ?_
    refine C_val (V_move (v := v0_0.v) (.tmp rfl rfl)) ?_
    refine C_val (V_move (v := (.int .i64 c58)) (.tmp rfl rfl)) ?_
    obtain ⟨x92, hx93, hF⟩ := bind_some hF
    have hi91 := ix_chk hx93
    obtain ⟨hp94, hx95⟩ := ix_some hx93
    refine C_idxO sl50 ty159.sz (.tmp rfl rfl) (.tmp rfl rfl) .h hi91 (fun k89 hk90 => ?_)
    refine C_val (V_fieldAddr (off := 2) fd159_1 (.tmp rfl rfl)) ?_
    refine C_ldOV ag47 (.tmp rfl rfl) .h hk90 hx95 pt159_2 (fun w96 => ?_)
    refine C_val (V_move (v := (.int .i64 r84.1)) (.tmp rfl rfl)) ?_
    obtain ⟨r97, hx98, hF⟩ := bind_some hF
    obtain ⟨z100, hx101, hF⟩ := bind_some hF
    replace hx101 := Option.some.inj hx101
    refine C_x1 (.cons .h .nil) (X_part hx95 pt159_2 (fun Fw => X_callS cf119 (.cons (.tmp rfl rfl) (.cons (.tmp rfl rfl) .nil)) (l_markFactS_ok x92.Facts w96 Fw r84.1 _ hx98)) rfl) (fun p99 => ?_)
    rw [hx101]
    refine C_val (V_assign (v := (.int .i64 r97.1)) (.tmp rfl rfl)) ?_
    refine C_nil ?_
    refine K_region ?_
    refine C_val (V_move (v := v0_0.v) (.tmp rfl rfl)) ?_
    refine C_val (V_move (v := (.int .i64 c58)) (.tmp rfl rfl)) ?_
    refine C_val (V_move (v := (.int .i64 r97.1)) (.tmp rfl rfl)) ?_
    obtain ⟨x105, hx106, hF⟩ := bind_some hF
    have hi104 := ix_chk hx106
    obtain ⟨hp107, hx108⟩ := ix_some hx106
    refine C_idxO sl50 ty159.sz (.tmp rfl rfl) (.tmp rfl rfl) .h hi104 (fun k102 hk103 => ?_)
    refine C_val (V_fieldAddr (off := 3) fd159_2 (.tmp rfl rfl)) ?_
    obtain ⟨z109, hx110, hF⟩ := bind_some hF
    replace hx110 := Option.some.inj hx110
    refine C_x1 (.cons .h .nil) (X_storeF (Ro := ow159) (i := c58) ty3.sz rfl (.tmp rfl rfl) (.tmp rfl rfl) hk103 hx108 rfl rfl fsf159_3 (sf159_3 (d := r97.1))) (fun _ => ?_)
    rw [hx110]
    refine C_nil ?_
    refine CW_region ?_
    refine C_val (V_move (v := (.int .i64 r97.1)) (.tmp rfl rfl)) ?_
    refine C_val (V_add (i := r97.1) (j := 1) (.tmp rfl rfl) (.int _ _)) ?_
    refine C_val (V_assign (v := (.int .i64 (IntKind.i64.wrap (r97.1 + 1)))) (.tmp rfl rfl)) ?_
    refine C_nil ?_
    refine CW_region ?_
    refine C_val (V_move (v := (.int .i64 c58)) (.tmp rfl rfl)) ?_
    refine C_val (V_add (i := c58) (j := 1) (.tmp rfl rfl) (.int _ _)) ?_
    refine C_val (V_assign (v := (.int .i64 (IntKind.i64.wrap (c58 + 1)))) (.tmp rfl rfl)) ?_
    refine C_nil ?_
    exact ⟨m59, Nat.lt_succ_self _, _, _, _, _, p99.2, (EqL.cons rfl (EqL.cons rfl (EqL.cons rfl (EqL.nil)))).eq, (.sel (.cons .h .nil)), hF⟩
  rw [if_neg (by rw [hb111]; exact Bool.false_ne_true)] at hF
  refine CW_exit ?_
  refine CThen_exit ?_
  refine CThen_exit ?_
  refine CIn_self ?_
  refine K_region ?_
  refine C_val (V_move (v := (.int .i64 c57)) (.tmp rfl rfl)) ?_
  refine C_val (V_assign (v := (.int .i64 c57)) (.tmp rfl rfl)) ?_
  refine C_nil ?_
  refine CW_ret ?_
  obtain rfl := Option.some.inj hF
  exact End_ret F56 (.tmp rfl rfl .nil) rfl (.sel (.cons .h .nil))

/-! laws.markCache -/
def l_markCache (a_a : Cache) (a_k : Int) : Option (Int × Cache) :=
  (l_markStoredS a_a.Entries a_k).bind fun r2 =>
  some (r2.1, ({ Entries := r2.2, Age := a_a.Age } : Cache))
theorem l_markCache_ok (a_a : Cache) (v0_0 : Sv) (F0_0 : List Nat) (a_k : Int) (R : Int × Cache) (hF : l_markCache a_a a_k = some R) :
    Fw.Spec Try.prog 72 [(.agg [v0_0.v, (.int .i64 a_a.Age)].toArray), (.int .i64 a_k)] [cown (OwnS 159 ow159) F0_0 v0_0.v a_a.Entries] (fun _ : List Nat => (.int .i64 R.1)) (fun p => [cown (OwnS 159 ow159) p v0_0.v R.2.Entries]) := by
  refine Spec_enter (n := 10) Try.func72 rfl rfl (rs := [.tmp 4]) rfl rfl rfl ?_
  intro H0 F0
  unfold l_markCache at hF
  refine K_region ?_
  refine C_newR rfl (N_box (g := false) (v := (.agg [v0_0.v, (.int .i64 a_a.Age)].toArray)) ty52.sz (.tmp rfl rfl) rfl) (fun k1 => ?_)
  refine C_val (V_assign (v := (.int .i64 0)) (.int _ _)) ?_
  refine C_nil ?_
  refine K_region ?_
  refine C_val (V_fieldAddr (off := 0) fd52_0 (.tmp rfl rfl)) ?_
  refine C_at .h (fun hp => V_load (v := v0_0.v) ag50 (.tmp rfl rfl) hp.2 rfl rfl) ?_
  refine C_val (V_move (v := (.int .i64 a_k)) (.tmp rfl rfl)) ?_
  obtain ⟨r2, hx3, hF⟩ := bind_some hF
  refine C_x1 (.cons (.t .h) .nil) (X_callS cf120 (.cons (.tmp rfl rfl) (.cons (.tmp rfl rfl) .nil)) (l_markStoredS_ok a_a.Entries v0_0 F0_0 a_k _ hx3)) (fun p4 => ?_)
  refine C_val (V_assign (v := (.int .i64 r2.1)) (.tmp rfl rfl)) ?_
  refine C_nil ?_
  refine K_region ?_
  refine C_val (V_move (v := (.int .i64 r2.1)) (.tmp rfl rfl)) ?_
  refine C_val (V_assign (v := (.int .i64 r2.1)) (.tmp rfl rfl)) ?_
  refine C_nil ?_
  refine CW_ret ?_
  obtain rfl := Option.some.inj hF
  exact End_ret p4 (.tmp rfl rfl .nil) rfl (.sel (.cons .h .nil))

/-! laws.markAccessS -/
def l_markAccessS_L1 : Nat → (List Access) → Int → Int → Option (Int × (List Access))
  | 0, _, _, _ => none
  | m37 + 1, c33, c35, c36 => if (decide ((c36 : Int) < (c33.length : Int))) then (
      (ix c33 c36).bind fun x48 =>
      (some (c33.set (c36).toNat { x48 with Method := c35 })).bind fun z52 =>
      (ix z52 c36).bind fun x57 =>
      (l_markIntS x57.Values (IntKind.i64.wrap (c35 + 1))).bind fun r62 =>
      (some (z52.set (c36).toNat { x57 with Values := r62.2 })).bind fun z65 =>
      l_markAccessS_L1 m37 z65 r62.1 (IntKind.i64.wrap (c36 + 1)))
    else (
      some (c35, c33))
def l_markAccessS (a_a : List Access) (a_k : Int) : Option (Int × (List Access)) :=
  l_markAccessS_L1 (((a_a.length : Int) - 0).toNat + 2) a_a a_k 0
theorem l_markAccessS_ok (a_a : List Access) (v0_0 : Sv) (F0_0 : List Nat) (a_k : Int) (R : Int × (List Access)) (hF : l_markAccessS a_a a_k = some R) :
    Fw.Spec Try.prog 23 [v0_0.v, (.int .i64 a_k)] [cown (OwnS 100 ow100) F0_0 v0_0.v a_a] (fun _ : List Nat => (.int .i64 R.1)) (fun p => [cown (OwnS 100 ow100) p v0_0.v R.2]) := by
  refine Spec_enter (n := 27) Try.func23 rfl rfl (rs := [.tmp 4]) rfl rfl rfl ?_
  intro H0 F0
  unfold l_markAccessS at hF
  refine K_region ?_
  refine C_val (V_assign (v := (.int .i64 0)) (.int _ _)) ?_
  refine C_nil ?_
  refine K_in ?_
  refine K_region ?_
  refine C_val (V_assign (v := (.int .i64 0)) (.int _ _)) ?_
  refine C_nil ?_
  refine CW_block ?_
  refine CW_loop (m := (((a_a.length : Int) - 0).toNat + 2)) (fun m37 f' cs' => ∃ (g : Fr) (c33 : List Access) (c35 : Int) (c36 : Int) (F34 : List Nat), f' = updL g [(0, v0_0.v), (1, (.int .i64 c35)), (5, (.int .i64 c36))] ∧ Ent cs' [cown (OwnS 100 ow100) F34 v0_0.v c33] ∧ l_markAccessS_L1 m37 c33 c35 c36 = some R) ⟨_, _, _, _, F0_0, (EqL.cons rfl (EqL.cons rfl (EqL.cons rfl (EqL.nil)))).eq, (.sel (.cons .h .nil)), hF⟩ ?_
  clear hF
  rintro m37 _ _ ⟨g38, c33, c35, c36, F34, rfl, hE, hF⟩
  refine K_ent hE ?_
  clear hE
  rcases m37 with _ | m37
  · rw [l_markAccessS_L1] at hF
    exact absurd hF (by simp)
  rw [l_markAccessS_L1] at hF
  refine K_in ?_
  refine K_region ?_
  refine C_val (V_move (v := (.int .i64 c36)) (.tmp rfl rfl)) ?_
  refine C_val (V_move (v := v0_0.v) (.tmp rfl rfl)) ?_
  refine C_at .h (fun hp => V_lenR (l := c33.length) sl33 (.tmp rfl rfl) (cown_len hp)) ?_
  refine C_val (V_lss (i := c36) (j := (c33.length : Int)) (.tmp rfl rfl) (.tmp rfl rfl)) ?_
  refine C_nil ?_
  refine CW_cond (b := (decide ((c36 : Int) < (c33.length : Int)))) (.tmp rfl rfl) (fun hb67 => ?_) (fun hb67 => ?_)
  · rw [if_pos hb67] at hF
    refine CW_skip ?_
    refine K_block ?_
    refine K_region ?_
    refine C_val (V_move (v := v0_0.v) (.tmp rfl rfl)) ?_
    refine C_val (V_move (v := (.int .i64 c36)) (.tmp rfl rfl)) ?_
    refine C_val (V_move (v := (.int .i64 c35)) (.tmp rfl rfl)) ?_
    obtain ⟨x48, hx49, hF⟩ := bind_some hF
    have hi47 := ix_chk hx49
    obtain ⟨hp50, hx51⟩ := ix_some hx49
    refine C_idxO sl33 ty100.sz (.tmp rfl rfl) (.tmp rfl rfl) .h hi47 (fun k45 hk46 => ?_)
    refine C_val (V_fieldAddr (off := 0) fd100_0 (.tmp rfl rfl)) ?_
    obtain ⟨z52, hx53, hF⟩ := bind_some hF
    replace hx53 := Option.some.inj hx53
    refine C_x1 (.cons .h .nil) (X_storeF (Ro := ow100) (i := c36) ty3.sz rfl (.tmp rfl rfl) (.tmp rfl rfl) hk46 hx51 rfl rfl fsf100_0 (sf100_0 (d := c35))) (fun _ => ?_)
    rw [hx53]
    refine C_nil ?_
    refine K_region ?_
    refine C_val (V_move (v := (.int .i64 c35)) (.tmp rfl rfl)) ?_
    refine C_val (V_add (i := c35) (j := 1) (.tmp rfl rfl) (.int _ _)) ?_
    refine C_val (V_assign (v := (.int .i64 (IntKind.i64.wrap (c35 + 1)))) (.tmp rfl rfl)) ?_
    refine C_nil ?_
    refine CW_region ?_
    refine C_val (V_move (v := v0_0.v) (.tmp rfl rfl)) ?_
    refine C_val (V_move (v := (.int .i64 c36)) (.tmp rfl rfl)) ?_
    obtain ⟨x57, hx58, hF⟩ := bind_some hF
    have hi56 := ix_chk hx58
    obtain ⟨hp59, hx60⟩ := ix_some hx58
    refine C_idxO sl33 ty100.sz (.tmp rfl rfl) (.tmp rfl rfl) .h hi56 (fun k54 hk55 => ?_)
    refine C_val (V_fieldAddr (off := 1) fd100_1 (.tmp rfl rfl)) ?_
    refine C_ldOV ag45 (.tmp rfl rfl) .h hk55 hx60 pt100_1 (fun w61 => ?_)
    refine C_val (V_move (v := (.int .i64 (IntKind.i64.wrap (c35 + 1)))) (.tmp rfl rfl)) ?_
    obtain ⟨r62, hx63, hF⟩ := bind_some hF
    obtain ⟨z65, hx66, hF⟩ := bind_some hF
    replace hx66 := Option.some.inj hx66
    refine C_x1 (.cons .h .nil) (X_part hx60 pt100_1 (fun Fw => X_callS cf32 (.cons (.tmp rfl rfl) (.cons (.tmp rfl rfl) .nil)) (l_markIntS_ok x57.Values w61 Fw (IntKind.i64.wrap (c35 + 1)) _ hx63)) rfl) (fun p64 => ?_)
    rw [hx66]
    refine C_val (V_assign (v := (.int .i64 r62.1)) (.tmp rfl rfl)) ?_
    refine C_nil ?_
    refine CW_region ?_
    refine C_val (V_move (v := (.int .i64 c36)) (.tmp rfl rfl)) ?_
    refine C_val (V_add (i := c36) (j := 1) (.tmp rfl rfl) (.int _ _)) ?_
    refine C_val (V_assign (v := (.int .i64 (IntKind.i64.wrap (c36 + 1)))) (.tmp rfl rfl)) ?_
    refine C_nil ?_
    exact ⟨m37, Nat.lt_succ_self _, _, _, _, _, p64.2, (EqL.cons rfl (EqL.cons rfl (EqL.cons rfl (EqL.nil)))).eq, (.sel (.cons .h .nil)), hF⟩
  rw [if_neg (by rw [hb67]; exact Bool.false_ne_true)] at hF
  refine CW_exit ?_
  refine CThen_exit ?_
  refine CThen_exit ?_
  refine CIn_self ?_
  refine K_region ?_
  refine C_val (V_move (v := (.int .i64 c35)) (.tmp rfl rfl)) ?_
  refine C_val (V_assign (v := (.int .i64 c35)) (.tmp rfl rfl)) ?_
  refine C_nil ?_
  refine CW_ret ?_
  obtain rfl := Option.some.inj hF
  exact End_ret F34 (.tmp rfl rfl .nil) rfl (.sel (.cons .h .nil))

/-! laws.markIntSS -/
def l_markIntSS_L1 : Nat → (List (List Int)) → Int → Int → Option (Int × (List (List Int)))
  | 0, _, _, _ => none
  | m28 + 1, c24, c26, c27 => if (decide ((c27 : Int) < (c24.length : Int))) then (
      (ix c24 c27).bind fun x39 =>
      (l_markIntS x39 c26).bind fun r44 =>
      (some (c24.set (c27).toNat r44.2)).bind fun z47 =>
      l_markIntSS_L1 m28 z47 r44.1 (IntKind.i64.wrap (c27 + 1)))
    else (
      some (c26, c24))
def l_markIntSS (a_a : List (List Int)) (a_k : Int) : Option (Int × (List (List Int))) :=
  l_markIntSS_L1 (((a_a.length : Int) - 0).toNat + 2) a_a a_k 0
theorem l_markIntSS_ok (a_a : List (List Int)) (v0_0 : Sv) (F0_0 : List Nat) (a_k : Int) (R : Int × (List (List Int))) (hF : l_markIntSS a_a a_k = some R) :
    Fw.Spec Try.prog 121 [v0_0.v, (.int .i64 a_k)] [cown (OwnS 45 (OwnS 3 (roE rdInt))) F0_0 v0_0.v a_a] (fun _ : List Nat => (.int .i64 R.1)) (fun p => [cown (OwnS 45 (OwnS 3 (roE rdInt))) p v0_0.v R.2]) := by
  refine Spec_enter (n := 19) Try.func121 rfl rfl (rs := [.tmp 4]) rfl rfl rfl ?_
  intro H0 F0
  unfold l_markIntSS at hF
  refine K_region ?_
  refine C_val (V_assign (v := (.int .i64 0)) (.int _ _)) ?_
  refine C_nil ?_
  refine K_in ?_
  refine K_region ?_
  refine C_val (V_assign (v := (.int .i64 0)) (.int _ _)) ?_
  refine C_nil ?_
  refine CW_block ?_
  refine CW_loop (m := (((a_a.length : Int) - 0).toNat + 2)) (fun m28 f' cs' => ∃ (g : Fr) (c24 : List (List Int)) (c26 : Int) (c27 : Int) (F25 : List Nat), f' = updL g [(0, v0_0.v), (1, (.int .i64 c26)), (5, (.int .i64 c27))] ∧ Ent cs' [cown (OwnS 45 (OwnS 3 (roE rdInt))) F25 v0_0.v c24] ∧ l_markIntSS_L1 m28 c24 c26 c27 = some R) ⟨_, _, _, _, F0_0, (EqL.cons rfl (EqL.cons rfl (EqL.cons rfl (EqL.nil)))).eq, (.sel (.cons .h .nil)), hF⟩ ?_
  clear hF
  rintro m28 _ _ ⟨g29, c24, c26, c27, F25, rfl, hE, hF⟩
  refine K_ent hE ?_
  clear hE
  rcases m28 with _ | m28
  · rw [l_markIntSS_L1] at hF
    exact absurd hF (by simp)
  rw [l_markIntSS_L1] at hF
  refine K_in ?_
  refine K_region ?_
  refine C_val (V_move (v := (.int .i64 c27)) (.tmp rfl rfl)) ?_
  refine C_val (V_move (v := v0_0.v) (.tmp rfl rfl)) ?_
  refine C_at .h (fun hp => V_lenR (l := c24.length) sl128 (.tmp rfl rfl) (cown_len hp)) ?_
  refine C_val (V_lss (i := c27) (j := (c24.length : Int)) (.tmp rfl rfl) (.tmp rfl rfl)) ?_
  refine C_nil ?_
  refine CW_cond (b := (decide ((c27 : Int) < (c24.length : Int)))) (.tmp rfl rfl) (fun hb49 => ?_) (fun hb49 => ?_)
  · rw [if_pos hb49] at hF
    refine CW_skip ?_
    refine K_block ?_
    refine CW_region ?_
    refine C_val (V_move (v := v0_0.v) (.tmp rfl rfl)) ?_
    refine C_val (V_move (v := (.int .i64 c27)) (.tmp rfl rfl)) ?_
    obtain ⟨x39, hx40, hF⟩ := bind_some hF
    have hi38 := ix_chk hx40
    obtain ⟨hp41, hx42⟩ := ix_some hx40
    refine C_idxO sl128 ty45.sz (.tmp rfl rfl) (.tmp rfl rfl) .h hi38 (fun k36 hk37 => ?_)
    refine C_ldOV ag45 (.tmp rfl rfl) .h hk37 hx42 pt45_0 (fun w43 => ?_)
    refine C_val (V_move (v := (.int .i64 c26)) (.tmp rfl rfl)) ?_
    obtain ⟨r44, hx45, hF⟩ := bind_some hF
    obtain ⟨z47, hx48, hF⟩ := bind_some hF
    replace hx48 := Option.some.inj hx48
    refine C_x1 (.cons .h .nil) (X_part hx42 pt45_0 (fun Fw => X_callS cf32 (.cons (.tmp rfl rfl) (.cons (.tmp rfl rfl) .nil)) (l_markIntS_ok x39 w43 Fw c26 _ hx45)) rfl) (fun p46 => ?_)
    rw [hx48]
    refine C_val (V_assign (v := (.int .i64 r44.1)) (.tmp rfl rfl)) ?_
    refine C_nil ?_
    refine CW_region ?_
    refine C_val (V_move (v := (.int .i64 c27)) (.tmp rfl rfl)) ?_
    refine C_val (V_add (i := c27) (j := 1) (.tmp rfl rfl) (.int _ _)) ?_
    refine C_val (V_assign (v := (.int .i64 (IntKind.i64.wrap (c27 + 1)))) (.tmp rfl rfl)) ?_
    refine C_nil ?_
    exact ⟨m28, Nat.lt_succ_self _, _, _, _, _, p46.2, (EqL.cons rfl (EqL.cons rfl (EqL.cons rfl (EqL.nil)))).eq, (.sel (.cons .h .nil)), hF⟩
  rw [if_neg (by rw [hb49]; exact Bool.false_ne_true)] at hF
  refine CW_exit ?_
  refine CThen_exit ?_
  refine CThen_exit ?_
  refine CIn_self ?_
  refine K_region ?_
  refine C_val (V_move (v := (.int .i64 c26)) (.tmp rfl rfl)) ?_
  refine C_val (V_assign (v := (.int .i64 c26)) (.tmp rfl rfl)) ?_
  refine C_nil ?_
  refine CW_ret ?_
  obtain rfl := Option.some.inj hF
  exact End_ret F25 (.tmp rfl rfl .nil) rfl (.sel (.cons .h .nil))

/-! laws.markIntSSS -/
def l_markIntSSS_L1 : Nat → (List (List (List Int))) → Int → Int → Option (Int × (List (List (List Int))))
  | 0, _, _, _ => none
  | m28 + 1, c24, c26, c27 => if (decide ((c27 : Int) < (c24.length : Int))) then (
      (ix c24 c27).bind fun x39 =>
      (l_markIntSS x39 c26).bind fun r44 =>
      (some (c24.set (c27).toNat r44.2)).bind fun z47 =>
      l_markIntSSS_L1 m28 z47 r44.1 (IntKind.i64.wrap (c27 + 1)))
    else (
      some (c26, c24))
def l_markIntSSS (a_a : List (List (List Int))) (a_k : Int) : Option (Int × (List (List (List Int)))) :=
  l_markIntSSS_L1 (((a_a.length : Int) - 0).toNat + 2) a_a a_k 0
theorem l_markIntSSS_ok (a_a : List (List (List Int))) (v0_0 : Sv) (F0_0 : List Nat) (a_k : Int) (R : Int × (List (List (List Int)))) (hF : l_markIntSSS a_a a_k = some R) :
    Fw.Spec Try.prog 73 [v0_0.v, (.int .i64 a_k)] [cown (OwnS 128 (OwnS 45 (OwnS 3 (roE rdInt)))) F0_0 v0_0.v a_a] (fun _ : List Nat => (.int .i64 R.1)) (fun p => [cown (OwnS 128 (OwnS 45 (OwnS 3 (roE rdInt)))) p v0_0.v R.2]) := by
  refine Spec_enter (n := 19) Try.func73 rfl rfl (rs := [.tmp 4]) rfl rfl rfl ?_
  intro H0 F0
  unfold l_markIntSSS at hF
  refine K_region ?_
  refine C_val (V_assign (v := (.int .i64 0)) (.int _ _)) ?_
  refine C_nil ?_
  refine K_in ?_
  refine K_region ?_
  refine C_val (V_assign (v := (.int .i64 0)) (.int _ _)) ?_
  refine C_nil ?_
  refine CW_block ?_
  refine CW_loop (m := (((a_a.length : Int) - 0).toNat + 2)) (fun m28 f' cs' => ∃ (g : Fr) (c24 : List (List (List Int))) (c26 : Int) (c27 : Int) (F25 : List Nat), f' = updL g [(0, v0_0.v), (1, (.int .i64 c26)), (5, (.int .i64 c27))] ∧ Ent cs' [cown (OwnS 128 (OwnS 45 (OwnS 3 (roE rdInt)))) F25 v0_0.v c24] ∧ l_markIntSSS_L1 m28 c24 c26 c27 = some R) ⟨_, _, _, _, F0_0, (EqL.cons rfl (EqL.cons rfl (EqL.cons rfl (EqL.nil)))).eq, (.sel (.cons .h .nil)), hF⟩ ?_
  clear hF
  rintro m28 _ _ ⟨g29, c24, c26, c27, F25, rfl, hE, hF⟩
  refine K_ent hE ?_
  clear hE
  rcases m28 with _ | m28
  · rw [l_markIntSSS_L1] at hF
    exact absurd hF (by simp)
  rw [l_markIntSSS_L1] at hF
  refine K_in ?_
  refine K_region ?_
  refine C_val (V_move (v := (.int .i64 c27)) (.tmp rfl rfl)) ?_
  refine C_val (V_move (v := v0_0.v) (.tmp rfl rfl)) ?_
  refine C_at .h (fun hp => V_lenR (l := c24.length) sl53 (.tmp rfl rfl) (cown_len hp)) ?_
  refine C_val (V_lss (i := c27) (j := (c24.length : Int)) (.tmp rfl rfl) (.tmp rfl rfl)) ?_
  refine C_nil ?_
  refine CW_cond (b := (decide ((c27 : Int) < (c24.length : Int)))) (.tmp rfl rfl) (fun hb49 => ?_) (fun hb49 => ?_)
  · rw [if_pos hb49] at hF
    refine CW_skip ?_
    refine K_block ?_
    refine CW_region ?_
    refine C_val (V_move (v := v0_0.v) (.tmp rfl rfl)) ?_
    refine C_val (V_move (v := (.int .i64 c27)) (.tmp rfl rfl)) ?_
    obtain ⟨x39, hx40, hF⟩ := bind_some hF
    have hi38 := ix_chk hx40
    obtain ⟨hp41, hx42⟩ := ix_some hx40
    refine C_idxO sl53 ty128.sz (.tmp rfl rfl) (.tmp rfl rfl) .h hi38 (fun k36 hk37 => ?_)
    refine C_ldOV ag128 (.tmp rfl rfl) .h hk37 hx42 pt128_0 (fun w43 => ?_)
    refine C_val (V_move (v := (.int .i64 c26)) (.tmp rfl rfl)) ?_
    obtain ⟨r44, hx45, hF⟩ := bind_some hF
    obtain ⟨z47, hx48, hF⟩ := bind_some hF
    replace hx48 := Option.some.inj hx48
    refine C_x1 (.cons .h .nil) (X_part hx42 pt128_0 (fun Fw => X_callS cf121 (.cons (.tmp rfl rfl) (.cons (.tmp rfl rfl) .nil)) (l_markIntSS_ok x39 w43 Fw c26 _ hx45)) rfl) (fun p46 => ?_)
    rw [hx48]
    refine C_val (V_assign (v := (.int .i64 r44.1)) (.tmp rfl rfl)) ?_
    refine C_nil ?_
    refine CW_region ?_
    refine C_val (V_move (v := (.int .i64 c27)) (.tmp rfl rfl)) ?_
    refine C_val (V_add (i := c27) (j := 1) (.tmp rfl rfl) (.int _ _)) ?_
    refine C_val (V_assign (v := (.int .i64 (IntKind.i64.wrap (c27 + 1)))) (.tmp rfl rfl)) ?_
    refine C_nil ?_
    exact ⟨m28, Nat.lt_succ_self _, _, _, _, _, p46.2, (EqL.cons rfl (EqL.cons rfl (EqL.cons rfl (EqL.nil)))).eq, (.sel (.cons .h .nil)), hF⟩
  rw [if_neg (by rw [hb49]; exact Bool.false_ne_true)] at hF
  refine CW_exit ?_
  refine CThen_exit ?_
  refine CThen_exit ?_
  refine CIn_self ?_
  refine K_region ?_
  refine C_val (V_move (v := (.int .i64 c26)) (.tmp rfl rfl)) ?_
  refine C_val (V_assign (v := (.int .i64 c26)) (.tmp rfl rfl)) ?_
  refine C_nil ?_
  refine CW_ret ?_
  obtain rfl := Option.some.inj hF
  exact End_ret F25 (.tmp rfl rfl .nil) rfl (.sel (.cons .h .nil))

/-! laws.markMediator -/
def l_markMediator (a_a : Mediator) (a_k : Int) : Option (Int × Mediator) :=
  (l_markIntS a_a.Schema a_k).bind fun r2 =>
  (l_markMethodS a_a.Methods r2.1).bind fun r5 =>
  (l_markRuleS a_a.Rules r5.1).bind fun r8 =>
  (l_markSource a_a.Source r8.1).bind fun r11 =>
  (l_markCache a_a.Cache r11.1).bind fun r14 =>
  (l_markAccessS a_a.Log r14.1).bind fun r17 =>
  (l_markIntS a_a.Times r17.1).bind fun r20 =>
  (l_markIntSSS a_a.Results r20.1).bind fun r23 =>
  some (r23.1, ({ Schema := r2.2, Methods := r5.2, Rules := r8.2, Source := ({ Facts := r11.2.Facts, Version := a_a.Source.Version } : Source), Cache := ({ Entries := r14.2.Entries, Age := a_a.Cache.Age } : Cache), Now := a_a.Now, Log := r17.2, Times := r20.2, Spent := a_a.Spent, Results := r23.2 } : Mediator))
theorem l_markMediator_ok (a_a : Mediator) (v0_0 : Sv) (F0_0 : List Nat) (v0_1 : Sv) (F0_1 : List Nat) (v0_2 : Sv) (F0_2 : List Nat) (v0_3 : Sv) (F0_3 : List Nat) (v0_5 : Sv) (F0_5 : List Nat) (v0_8 : Sv) (F0_8 : List Nat) (v0_9 : Sv) (F0_9 : List Nat) (v0_11 : Sv) (F0_11 : List Nat) (a_k : Int) (R : Int × Mediator) (hF : l_markMediator a_a a_k = some R) :
    Fw.Spec Try.prog 33 [(.agg [v0_0.v, v0_1.v, v0_2.v, v0_3.v, (.int .i64 a_a.Source.Version), v0_5.v, (.int .i64 a_a.Cache.Age), (.int .i64 a_a.Now), v0_8.v, v0_9.v, (.int .i64 a_a.Spent), v0_11.v].toArray), (.int .i64 a_k)] [cown (OwnS 3 (roE rdInt)) F0_0 v0_0.v a_a.Schema, cown (OwnS 101 ow101) F0_1 v0_1.v a_a.Methods, cown (OwnS 126 ow126) F0_2 v0_2.v a_a.Rules, cown (OwnS 157 ow157) F0_3 v0_3.v a_a.Source.Facts, cown (OwnS 159 ow159) F0_5 v0_5.v a_a.Cache.Entries, cown (OwnS 100 ow100) F0_8 v0_8.v a_a.Log, cown (OwnS 3 (roE rdInt)) F0_9 v0_9.v a_a.Times, cown (OwnS 128 (OwnS 45 (OwnS 3 (roE rdInt)))) F0_11 v0_11.v a_a.Results] (fun _ : List Nat × List Nat × List Nat × List Nat × List Nat × List Nat × List Nat × List Nat => (.int .i64 R.1)) (fun p => [cown (OwnS 3 (roE rdInt)) p.1 v0_0.v R.2.Schema, cown (OwnS 101 ow101) p.2.1 v0_1.v R.2.Methods, cown (OwnS 126 ow126) p.2.2.1 v0_2.v R.2.Rules, cown (OwnS 157 ow157) p.2.2.2.1 v0_3.v R.2.Source.Facts, cown (OwnS 159 ow159) p.2.2.2.2.1 v0_5.v R.2.Cache.Entries, cown (OwnS 100 ow100) p.2.2.2.2.2.1 v0_8.v R.2.Log, cown (OwnS 3 (roE rdInt)) p.2.2.2.2.2.2.1 v0_9.v R.2.Times, cown (OwnS 128 (OwnS 45 (OwnS 3 (roE rdInt)))) p.2.2.2.2.2.2.2 v0_11.v R.2.Results]) := by
  refine Spec_enter (n := 38) Try.func33 rfl rfl (rs := [.tmp 4]) rfl rfl rfl ?_
  intro H0 F0
  unfold l_markMediator at hF
  refine K_region ?_
  refine C_newR rfl (N_box (g := false) (v := (.agg [v0_0.v, v0_1.v, v0_2.v, v0_3.v, (.int .i64 a_a.Source.Version), v0_5.v, (.int .i64 a_a.Cache.Age), (.int .i64 a_a.Now), v0_8.v, v0_9.v, (.int .i64 a_a.Spent), v0_11.v].toArray)) ty55.sz (.tmp rfl rfl) rfl) (fun k1 => ?_)
  refine C_val (V_assign (v := (.int .i64 0)) (.int _ _)) ?_
  refine C_nil ?_
  refine K_region ?_
  refine C_val (V_fieldAddr (off := 0) fd55_0 (.tmp rfl rfl)) ?_
  refine C_at .h (fun hp => V_load (v := v0_0.v) ag45 (.tmp rfl rfl) hp.2 rfl rfl) ?_
  refine C_val (V_move (v := (.int .i64 a_k)) (.tmp rfl rfl)) ?_
  obtain ⟨r2, hx3, hF⟩ := bind_some hF
  refine C_x1 (.cons (.t .h) .nil) (X_callS cf32 (.cons (.tmp rfl rfl) (.cons (.tmp rfl rfl) .nil)) (l_markIntS_ok a_a.Schema v0_0 F0_0 a_k _ hx3)) (fun p4 => ?_)
  refine C_val (V_assign (v := (.int .i64 r2.1)) (.tmp rfl rfl)) ?_
  refine C_nil ?_
  refine K_region ?_
  refine C_val (V_fieldAddr (off := 1) fd55_1 (.tmp rfl rfl)) ?_
  refine C_at (.t .h) (fun hp => V_load (v := v0_1.v) ag35 (.tmp rfl rfl) hp.2 rfl rfl) ?_
  refine C_val (V_move (v := (.int .i64 r2.1)) (.tmp rfl rfl)) ?_
  obtain ⟨r5, hx6, hF⟩ := bind_some hF
  refine C_x1 (.cons (.t (.t .h)) .nil) (X_callS cf22 (.cons (.tmp rfl rfl) (.cons (.tmp rfl rfl) .nil)) (l_markMethodS_ok a_a.Methods v0_1 F0_1 r2.1 _ hx6)) (fun p7 => ?_)
  refine C_val (V_assign (v := (.int .i64 r5.1)) (.tmp rfl rfl)) ?_
  refine C_nil ?_
  refine K_region ?_
  refine C_val (V_fieldAddr (off := 2) fd55_2 (.tmp rfl rfl)) ?_
  refine C_at (.t (.t .h)) (fun hp => V_load (v := v0_2.v) ag46 (.tmp rfl rfl) hp.2 rfl rfl) ?_
  refine C_val (V_move (v := (.int .i64 r5.1)) (.tmp rfl rfl)) ?_
  obtain ⟨r8, hx9, hF⟩ := bind_some hF
  refine C_x1 (.cons (.t (.t (.t .h))) .nil) (X_callS cf70 (.cons (.tmp rfl rfl) (.cons (.tmp rfl rfl) .nil)) (l_markRuleS_ok a_a.Rules v0_2 F0_2 r5.1 _ hx9)) (fun p10 => ?_)
  refine C_val (V_assign (v := (.int .i64 r8.1)) (.tmp rfl rfl)) ?_
  refine C_nil ?_
  refine K_region ?_
  refine C_val (V_fieldAddr (off := 3) fd55_3 (.tmp rfl rfl)) ?_
  refine C_at (.t (.t (.t .h))) (fun hp => V_loadA (s := 2) (l := [v0_3.v, (.int .i64 a_a.Source.Version)]) ag49 ty49.sz (.tmp rfl rfl) hp.2 rfl (by decide) (Nat.le_of_ble_eq_true rfl) rfl) ?_
  refine C_val (V_move (v := (.int .i64 r8.1)) (.tmp rfl rfl)) ?_
  obtain ⟨r11, hx12, hF⟩ := bind_some hF
  refine C_x1 (.cons (.t (.t (.t (.t .h)))) .nil) (X_callS cf71 (.cons (.tmp rfl rfl) (.cons (.tmp rfl rfl) .nil)) (l_markSource_ok a_a.Source v0_3 F0_3 r8.1 _ hx12)) (fun p13 => ?_)
  refine C_val (V_assign (v := (.int .i64 r11.1)) (.tmp rfl rfl)) ?_
  refine C_nil ?_
  refine K_region ?_
  refine C_val (V_fieldAddr (off := 5) fd55_4 (.tmp rfl rfl)) ?_
  refine C_at (.t (.t (.t (.t .h)))) (fun hp => V_loadA (s := 2) (l := [v0_5.v, (.int .i64 a_a.Cache.Age)]) ag52 ty52.sz (.tmp rfl rfl) hp.2 rfl (by decide) (Nat.le_of_ble_eq_true rfl) rfl) ?_
  refine C_val (V_move (v := (.int .i64 r11.1)) (.tmp rfl rfl)) ?_
  obtain ⟨r14, hx15, hF⟩ := bind_some hF
  refine C_x1 (.cons (.t (.t (.t (.t (.t .h))))) .nil) (X_callS cf72 (.cons (.tmp rfl rfl) (.cons (.tmp rfl rfl) .nil)) (l_markCache_ok a_a.Cache v0_5 F0_5 r11.1 _ hx15)) (fun p16 => ?_)
  refine C_val (V_assign (v := (.int .i64 r14.1)) (.tmp rfl rfl)) ?_
  refine C_nil ?_
  refine K_region ?_
  refine C_val (V_fieldAddr (off := 8) fd55_6 (.tmp rfl rfl)) ?_
  refine C_at (.t (.t (.t (.t (.t .h))))) (fun hp => V_load (v := v0_8.v) ag33 (.tmp rfl rfl) hp.2 rfl rfl) ?_
  refine C_val (V_move (v := (.int .i64 r14.1)) (.tmp rfl rfl)) ?_
  obtain ⟨r17, hx18, hF⟩ := bind_some hF
  refine C_x1 (.cons (.t (.t (.t (.t (.t (.t .h)))))) .nil) (X_callS cf23 (.cons (.tmp rfl rfl) (.cons (.tmp rfl rfl) .nil)) (l_markAccessS_ok a_a.Log v0_8 F0_8 r14.1 _ hx18)) (fun p19 => ?_)
  refine C_val (V_assign (v := (.int .i64 r17.1)) (.tmp rfl rfl)) ?_
  refine C_nil ?_
  refine K_region ?_
  refine C_val (V_fieldAddr (off := 9) fd55_7 (.tmp rfl rfl)) ?_
  refine C_at (.t (.t (.t (.t (.t (.t .h)))))) (fun hp => V_load (v := v0_9.v) ag45 (.tmp rfl rfl) hp.2 rfl rfl) ?_
  refine C_val (V_move (v := (.int .i64 r17.1)) (.tmp rfl rfl)) ?_
  obtain ⟨r20, hx21, hF⟩ := bind_some hF
  refine C_x1 (.cons (.t (.t (.t (.t (.t (.t (.t .h))))))) .nil) (X_callS cf32 (.cons (.tmp rfl rfl) (.cons (.tmp rfl rfl) .nil)) (l_markIntS_ok a_a.Times v0_9 F0_9 r17.1 _ hx21)) (fun p22 => ?_)
  refine C_val (V_assign (v := (.int .i64 r20.1)) (.tmp rfl rfl)) ?_
  refine C_nil ?_
  refine K_region ?_
  refine C_val (V_fieldAddr (off := 11) fd55_9 (.tmp rfl rfl)) ?_
  refine C_at (.t (.t (.t (.t (.t (.t (.t .h))))))) (fun hp => V_load (v := v0_11.v) ag53 (.tmp rfl rfl) hp.2 rfl rfl) ?_
  refine C_val (V_move (v := (.int .i64 r20.1)) (.tmp rfl rfl)) ?_
  obtain ⟨r23, hx24, hF⟩ := bind_some hF
  refine C_x1 (.cons (.t (.t (.t (.t (.t (.t (.t (.t .h)))))))) .nil) (X_callS cf73 (.cons (.tmp rfl rfl) (.cons (.tmp rfl rfl) .nil)) (l_markIntSSS_ok a_a.Results v0_11 F0_11 r20.1 _ hx24)) (fun p25 => ?_)
  refine C_val (V_assign (v := (.int .i64 r23.1)) (.tmp rfl rfl)) ?_
  refine C_nil ?_
  refine K_region ?_
  refine C_val (V_move (v := (.int .i64 r23.1)) (.tmp rfl rfl)) ?_
  refine C_val (V_assign (v := (.int .i64 r23.1)) (.tmp rfl rfl)) ?_
  refine C_nil ?_
  refine CW_ret ?_
  obtain rfl := Option.some.inj hF
  exact End_ret (p4, p7, p10, p13, p16, p19, p22, p25) (.tmp rfl rfl .nil) rfl (.sel (.cons (.t (.t (.t (.t (.t (.t (.t .h))))))) (.cons (.t (.t (.t (.t (.t (.t .h)))))) (.cons (.t (.t (.t (.t (.t .h))))) (.cons (.t (.t (.t (.t .h)))) (.cons (.t (.t (.t .h))) (.cons (.t (.t .h)) (.cons (.t .h) (.cons .h .nil)))))))))

/-! laws.heldIntS -/
def l_heldIntS_L1 : List Int → Nat → Int → Option (Int)
  | [], k5, c1 => some c1
  | x7 :: rest6, k5, c1 => if ((x7 : Int) != c1) then (
      some (-1))
    else (
      l_heldIntS_L1 rest6 (k5 + 1) (IntKind.i64.wrap (c1 + 1)))
def l_heldIntS (a_a : List Int) (a_k : Int) : Option (Int) :=
  l_heldIntS_L1 a_a 0 a_k
theorem l_heldIntS_ok (a_a : List Int) (v0_0 : Sv) (a_k : Int) (R : Int) (hF : l_heldIntS a_a a_k = some R) :
    Fw.Spec Try.prog 37 [v0_0.v, (.int .i64 a_k)] [crd (RdS 3 rdInt) v0_0.v a_a] (fun _ : Unit => (.int .i64 R)) (fun _ => []) := by
  refine Spec_enter (n := 21) Try.func37 rfl rfl (rs := [.tmp 4]) rfl rfl rfl ?_
  intro H0 F0
  unfold l_heldIntS at hF
  refine K_region ?_
  refine C_val (V_assign (v := (.int .i64 0)) (.int _ _)) ?_
  refine C_nil ?_
  refine K_in ?_
  refine K_region ?_
  refine C_val (V_assign (v := (.int .i64 0)) (.int _ _)) ?_
  refine C_nil ?_
  refine CW_block ?_
  refine CW_loop (m := a_a.length) (fun m3 f' cs' => ∃ (g : Fr) (k5 : Nat) (rest6 : List Int) (c1 : Int), m3 = rest6.length ∧ f' = updL g [(0, v0_0.v), (1, (.int .i64 c1)), (5, (.int .i64 (k5 : Int)))] ∧ List.drop k5 a_a = rest6 ∧ Ent cs' [crd (RdS 3 rdInt) v0_0.v a_a] ∧ l_heldIntS_L1 rest6 k5 c1 = some R) ⟨_, 0, _, _, rfl, (EqL.cons rfl (EqL.cons rfl (EqL.cons rfl (EqL.nil)))).eq, rfl, (.sel (.rd .h rfl .nil)), hF⟩ ?_
  clear hF
  rintro m3 _ _ ⟨g4, k5, rest6, c1, rfl, rfl, hd8, hE, hF⟩
  refine K_ent hE ?_
  clear hE
  refine K_pure (c := crd (RdS 3 rdInt) v0_0.v a_a) .h crd_bound (fun hbd13 => ?_)
  rcases rest6 with _ | ⟨x7, rest6⟩
  · have hk9 := List.drop_eq_nil_iff.1 hd8
    have hfe12 : (decide (((k5 : Int) : Int) < (a_a.length : Int))) = false := decide_eq_false (by omega)
    rw [l_heldIntS_L1] at hF
    refine K_in ?_
    refine K_region ?_
    refine C_val (V_move (v := (.int .i64 (k5 : Int))) (.tmp rfl rfl)) ?_
    refine C_val (V_move (v := v0_0.v) (.tmp rfl rfl)) ?_
    refine C_at .h (fun hp => V_lenR (l := a_a.length) sl45 (.tmp rfl rfl) (crd_len hp)) ?_
    refine C_val (V_lss (i := (k5 : Int)) (j := (a_a.length : Int)) (.tmp rfl rfl) (.tmp rfl rfl)) ?_
    refine C_nil ?_
    refine CW_cond (b := (decide (((k5 : Int) : Int) < (a_a.length : Int)))) (.tmp rfl rfl) (fun hb => absurd (hfe12.symm.trans hb) (by decide)) (fun _ => ?_)
    refine CW_exit ?_
    refine CThen_exit ?_
    refine CThen_exit ?_
    refine CIn_self ?_
    refine K_region ?_
    refine C_val (V_move (v := (.int .i64 c1)) (.tmp rfl rfl)) ?_
    refine C_val (V_assign (v := (.int .i64 c1)) (.tmp rfl rfl)) ?_
    refine C_nil ?_
    refine CW_ret ?_
    obtain rfl := Option.some.inj hF
    exact End_ret () (.tmp rfl rfl .nil) rfl (.sel .nil)
  obtain ⟨hk9, hx10, hd11⟩ := drop_cons hd8
  have hfe12 : (decide (((k5 : Int) : Int) < (a_a.length : Int))) = true := decide_eq_true (by omega)
  rw [l_heldIntS_L1] at hF
  refine K_in ?_
  refine K_region ?_
  refine C_val (V_move (v := (.int .i64 (k5 : Int))) (.tmp rfl rfl)) ?_
  refine C_val (V_move (v := v0_0.v) (.tmp rfl rfl)) ?_
  refine C_at .h (fun hp => V_lenR (l := a_a.length) sl45 (.tmp rfl rfl) (crd_len hp)) ?_
  refine C_val (V_lss (i := (k5 : Int)) (j := (a_a.length : Int)) (.tmp rfl rfl) (.tmp rfl rfl)) ?_
  refine C_nil ?_
  refine CW_cond (b := (decide (((k5 : Int) : Int) < (a_a.length : Int)))) (.tmp rfl rfl) (fun _ => ?_) (fun hb => absurd (hfe12.symm.trans hb) (by decide))
  refine CW_skip ?_
  refine K_block ?_
  refine K_in ?_
  refine K_region ?_
  refine C_val (V_move (v := v0_0.v) (.tmp rfl rfl)) ?_
  refine C_val (V_move (v := (.int .i64 (k5 : Int))) (.tmp rfl rfl)) ?_
  refine C_idx (a := x7) sl45 ty3.sz (.tmp rfl rfl) (.tmp rfl rfl) .h (Int.natCast_nonneg k5) hx10 (fun k14 j15 => ?_)
  refine C_ldS (w := (.int .i64 x7)) ag3 (.tmp rfl rfl) .h ls3_0 ?_
  refine C_val (V_move (v := (.int .i64 c1)) (.tmp rfl rfl)) ?_
  refine C_val (V_neq (i := x7) (j := c1) (.tmp rfl rfl) (.tmp rfl rfl)) ?_
  refine C_nil ?_
  refine CW_cond (b := ((x7 : Int) != c1)) (.tmp rfl rfl) (fun hb17 => ?_) (fun hb17 => ?_)
  · rw [if_pos hb17] at hF
    refine K_region ?_
    refine C_val (V_assign (v := (.int .i64 (-1))) (.int _ _)) ?_
    refine C_nil ?_
    refine CW_ret ?_
    obtain rfl := Option.some.inj hF
    exact End_ret () (.tmp rfl rfl .nil) rfl (.sel .nil)
  rw [if_neg (by rw [hb17]; exact Bool.false_ne_true)] at hF
  refine CW_skip ?_
  refine CW_region ?_
  refine C_val (V_move (v := (.int .i64 c1)) (.tmp rfl rfl)) ?_
  refine C_val (V_add (i := c1) (j := 1) (.tmp rfl rfl) (.int _ _)) ?_
  refine C_val (V_assign (v := (.int .i64 (IntKind.i64.wrap (c1 + 1)))) (.tmp rfl rfl)) ?_
  refine C_nil ?_
  refine CW_region ?_
  refine C_val (V_move (v := (.int .i64 (k5 : Int))) (.tmp rfl rfl)) ?_
  refine C_val (V_add (i := (k5 : Int)) (j := 1) (.tmp rfl rfl) (.int _ _)) ?_
  refine C_val (V_assign (v := (.int .i64 (IntKind.i64.wrap ((k5 : Int) + 1)))) (.tmp rfl rfl)) ?_
  refine C_nil ?_
  have hw16 : IntKind.i64.wrap ((k5 : Int) + 1) = ((k5 + 1 : Nat) : Int) := by rw [wrap_in (by omega) (by omega)]; rfl
  rw [hw16]
  exact ⟨_, Nat.lt_succ_self _, _, k5 + 1, rest6, _, rfl, (EqL.cons rfl (EqL.cons rfl (EqL.cons rfl (EqL.nil)))).eq, hd11, (.sel (.rd (.t .h) rfl .nil)), hF⟩

/-! laws.heldMethodS -/
def l_heldMethodS_L1 : List Method → Nat → Int → Option (Int)
  | [], k5, c1 => some c1
  | x7 :: rest6, k5, c1 => if ((x7.Rel : Int) != c1) then (
      some (-1))
    else (
      (l_heldIntS x7.Inputs (IntKind.i64.wrap (c1 + 1))).bind fun r19 =>
      if (decide ((r19 : Int) < 0)) then (
        some (-1))
      else (
        if ((x7.Limit : Int) != r19) then (
          some (-1))
        else (
          if ((x7.Cost : Int) != (IntKind.i64.wrap (r19 + 1))) then (
            some (-1))
          else (
            if ((x7.Quota : Int) != (IntKind.i64.wrap ((IntKind.i64.wrap (r19 + 1)) + 1))) then (
              some (-1))
            else (
              l_heldMethodS_L1 rest6 (k5 + 1) (IntKind.i64.wrap ((IntKind.i64.wrap ((IntKind.i64.wrap (r19 + 1)) + 1)) + 1)))))))
def l_heldMethodS (a_a : List Method) (a_k : Int) : Option (Int) :=
  l_heldMethodS_L1 a_a 0 a_k
theorem l_heldMethodS_ok (a_a : List Method) (v0_0 : Sv) (a_k : Int) (R : Int) (hF : l_heldMethodS a_a a_k = some R) :
    Fw.Spec Try.prog 74 [v0_0.v, (.int .i64 a_k)] [crd (RdS 101 rd101) v0_0.v a_a] (fun _ : Unit => (.int .i64 R)) (fun _ => []) := by
  refine Spec_enter (n := 58) Try.func74 rfl rfl (rs := [.tmp 4]) rfl rfl rfl ?_
  intro H0 F0
  unfold l_heldMethodS at hF
  refine K_region ?_
  refine C_val (V_assign (v := (.int .i64 0)) (.int _ _)) ?_
  refine C_nil ?_
  refine K_in ?_
  refine K_region ?_
  refine C_val (V_assign (v := (.int .i64 0)) (.int _ _)) ?_
  refine C_nil ?_
  refine CW_block ?_
  refine CW_loop (m := a_a.length) (fun m3 f' cs' => ∃ (g : Fr) (k5 : Nat) (rest6 : List Method) (c1 : Int), m3 = rest6.length ∧ f' = updL g [(0, v0_0.v), (1, (.int .i64 c1)), (5, (.int .i64 (k5 : Int)))] ∧ List.drop k5 a_a = rest6 ∧ Ent cs' [crd (RdS 101 rd101) v0_0.v a_a] ∧ l_heldMethodS_L1 rest6 k5 c1 = some R) ⟨_, 0, _, _, rfl, (EqL.cons rfl (EqL.cons rfl (EqL.cons rfl (EqL.nil)))).eq, rfl, (.sel (.rd .h rfl .nil)), hF⟩ ?_
  clear hF
  rintro m3 _ _ ⟨g4, k5, rest6, c1, rfl, rfl, hd8, hE, hF⟩
  refine K_ent hE ?_
  clear hE
  refine K_pure (c := crd (RdS 101 rd101) v0_0.v a_a) .h crd_bound (fun hbd13 => ?_)
  rcases rest6 with _ | ⟨x7, rest6⟩
  · have hk9 := List.drop_eq_nil_iff.1 hd8
    have hfe12 : (decide (((k5 : Int) : Int) < (a_a.length : Int))) = false := decide_eq_false (by omega)
    rw [l_heldMethodS_L1] at hF
    refine K_in ?_
    refine K_region ?_
    refine C_val (V_move (v := (.int .i64 (k5 : Int))) (.tmp rfl rfl)) ?_
    refine C_val (V_move (v := v0_0.v) (.tmp rfl rfl)) ?_
    refine C_at .h (fun hp => V_lenR (l := a_a.length) sl35 (.tmp rfl rfl) (crd_len hp)) ?_
    refine C_val (V_lss (i := (k5 : Int)) (j := (a_a.length : Int)) (.tmp rfl rfl) (.tmp rfl rfl)) ?_
    refine C_nil ?_
    refine CW_cond (b := (decide (((k5 : Int) : Int) < (a_a.length : Int)))) (.tmp rfl rfl) (fun hb => absurd (hfe12.symm.trans hb) (by decide)) (fun _ => ?_)
    refine CW_exit ?_
    refine CThen_exit ?_
    refine CThen_exit ?_
    refine CIn_self ?_
    refine K_region ?_
    refine C_val (V_move (v := (.int .i64 c1)) (.tmp rfl rfl)) ?_
    refine C_val (V_assign (v := (.int .i64 c1)) (.tmp rfl rfl)) ?_
    refine C_nil ?_
    refine CW_ret ?_
    obtain rfl := Option.some.inj hF
    exact End_ret () (.tmp rfl rfl .nil) rfl (.sel .nil)
  obtain ⟨hk9, hx10, hd11⟩ := drop_cons hd8
  have hfe12 : (decide (((k5 : Int) : Int) < (a_a.length : Int))) = true := decide_eq_true (by omega)
  rw [l_heldMethodS_L1] at hF
  refine K_in ?_
  refine K_region ?_
  refine C_val (V_move (v := (.int .i64 (k5 : Int))) (.tmp rfl rfl)) ?_
  refine C_val (V_move (v := v0_0.v) (.tmp rfl rfl)) ?_
  refine C_at .h (fun hp => V_lenR (l := a_a.length) sl35 (.tmp rfl rfl) (crd_len hp)) ?_
  refine C_val (V_lss (i := (k5 : Int)) (j := (a_a.length : Int)) (.tmp rfl rfl) (.tmp rfl rfl)) ?_
  refine C_nil ?_
  refine CW_cond (b := (decide (((k5 : Int) : Int) < (a_a.length : Int)))) (.tmp rfl rfl) (fun _ => ?_) (fun hb => absurd (hfe12.symm.trans hb) (by decide))
  refine CW_skip ?_
  refine K_block ?_
  refine K_in ?_
  refine K_region ?_
  refine C_val (V_move (v := v0_0.v) (.tmp rfl rfl)) ?_
  refine C_val (V_move (v := (.int .i64 (k5 : Int))) (.tmp rfl rfl)) ?_
  refine C_idx (a := x7) sl35 ty101.sz (.tmp rfl rfl) (.tmp rfl rfl) .h (Int.natCast_nonneg k5) hx10 (fun k14 j15 => ?_)
  refine C_val (V_fieldAddr (off := 0) fd101_0 (.tmp rfl rfl)) ?_
  refine C_ldS (w := (.int .i64 x7.Rel)) ag3 (.tmp rfl rfl) .h ls101_0 ?_
  refine C_val (V_move (v := (.int .i64 c1)) (.tmp rfl rfl)) ?_
  refine C_val (V_neq (i := x7.Rel) (j := c1) (.tmp rfl rfl) (.tmp rfl rfl)) ?_
  refine C_nil ?_
  refine CW_cond (b := ((x7.Rel : Int) != c1)) (.tmp rfl rfl) (fun hb33 => ?_) (fun hb33 => ?_)
  · rw [if_pos hb33] at hF
    refine K_region ?_
    refine C_val (V_assign (v := (.int .i64 (-1))) (.int _ _)) ?_
    refine C_nil ?_
    refine CW_ret ?_
    obtain rfl := Option.some.inj hF
    exact End_ret () (.tmp rfl rfl .nil) rfl (.sel .nil)
  rw [if_neg (by rw [hb33]; exact Bool.false_ne_true)] at hF
  refine CW_skip ?_
  refine K_region ?_
  refine C_val (V_move (v := (.int .i64 c1)) (.tmp rfl rfl)) ?_
  refine C_val (V_add (i := c1) (j := 1) (.tmp rfl rfl) (.int _ _)) ?_
  refine C_val (V_assign (v := (.int .i64 (IntKind.i64.wrap (c1 + 1)))) (.tmp rfl rfl)) ?_
  refine C_nil ?_
  refine K_region ?_
  refine C_val (V_move (v := v0_0.v) (.tmp rfl rfl)) ?_
  refine C_val (V_move (v := (.int .i64 (k5 : Int))) (.tmp rfl rfl)) ?_
  refine C_idx (a := x7) sl35 ty101.sz (.tmp rfl rfl) (.tmp rfl rfl) (.t .h) (Int.natCast_nonneg k5) hx10 (fun k16 j17 => ?_)
  refine C_val (V_fieldAddr (off := 1) fd101_1 (.tmp rfl rfl)) ?_
  refine C_ldV (R' := (RdS 3 rdInt)) ag45 (.tmp rfl rfl) .h lv101_1 (fun w18 => ?_)
  refine C_val (V_move (v := (.int .i64 (IntKind.i64.wrap (c1 + 1)))) (.tmp rfl rfl)) ?_
  obtain ⟨r19, hx20, hF⟩ := bind_some hF
  refine C_x0 (.rd .h rfl .nil) (X_callS cf37 (.cons (.tmp rfl rfl) (.cons (.tmp rfl rfl) .nil)) (l_heldIntS_ok x7.Inputs w18 (IntKind.i64.wrap (c1 + 1)) _ hx20)) (fun _ => ?_)
  refine C_val (V_assign (v := (.int .i64 r19)) (.tmp rfl rfl)) ?_
  refine C_nil ?_
  refine K_in ?_
  refine K_region ?_
  refine C_val (V_move (v := (.int .i64 r19)) (.tmp rfl rfl)) ?_
  refine C_val (V_lss (i := r19) (j := 0) (.tmp rfl rfl) (.int _ _)) ?_
  refine C_nil ?_
  refine CW_cond (b := (decide ((r19 : Int) < 0))) (.tmp rfl rfl) (fun hb32 => ?_) (fun hb32 => ?_)
  · rw [if_pos hb32] at hF
    refine K_region ?_
    refine C_val (V_assign (v := (.int .i64 (-1))) (.int _ _)) ?_
    refine C_nil ?_
    refine CW_ret ?_
    obtain rfl := Option.some.inj hF
    exact End_ret () (.tmp rfl rfl .nil) rfl (.sel .nil)
  rw [if_neg (by rw [hb32]; exact Bool.false_ne_true)] at hF
  refine CW_skip ?_
  refine K_in ?_
  refine K_region ?_
  refine C_val (V_move (v := v0_0.v) (.tmp rfl rfl)) ?_
  refine C_val (V_move (v := (.int .i64 (k5 : Int))) (.tmp rfl rfl)) ?_
  refine C_idx (a := x7) sl35 ty101.sz (.tmp rfl rfl) (.tmp rfl rfl) (.t (.t (.t .h))) (Int.natCast_nonneg k5) hx10 (fun k22 j23 => ?_)
  refine C_val (V_fieldAddr (off := 2) fd101_2 (.tmp rfl rfl)) ?_
  refine C_ldS (w := (.int .i64 x7.Limit)) ag3 (.tmp rfl rfl) .h ls101_2 ?_
  refine C_val (V_move (v := (.int .i64 r19)) (.tmp rfl rfl)) ?_
  refine C_val (V_neq (i := x7.Limit) (j := r19) (.tmp rfl rfl) (.tmp rfl rfl)) ?_
  refine C_nil ?_
  refine CW_cond (b := ((x7.Limit : Int) != r19)) (.tmp rfl rfl) (fun hb31 => ?_) (fun hb31 => ?_)
  · rw [if_pos hb31] at hF
    refine K_region ?_
    refine C_val (V_assign (v := (.int .i64 (-1))) (.int _ _)) ?_
    refine C_nil ?_
    refine CW_ret ?_
    obtain rfl := Option.some.inj hF
    exact End_ret () (.tmp rfl rfl .nil) rfl (.sel .nil)
  rw [if_neg (by rw [hb31]; exact Bool.false_ne_true)] at hF
  refine CW_skip ?_
  refine K_region ?_
  refine C_val (V_move (v := (.int .i64 r19)) (.tmp rfl rfl)) ?_
  refine C_val (V_add (i := r19) (j := 1) (.tmp rfl rfl) (.int _ _)) ?_
  refine C_val (V_assign (v := (.int .i64 (IntKind.i64.wrap (r19 + 1)))) (.tmp rfl rfl)) ?_
  refine C_nil ?_
  refine K_in ?_
  refine K_region ?_
  refine C_val (V_move (v := v0_0.v) (.tmp rfl rfl)) ?_
  refine C_val (V_move (v := (.int .i64 (k5 : Int))) (.tmp rfl rfl)) ?_
  refine C_idx (a := x7) sl35 ty101.sz (.tmp rfl rfl) (.tmp rfl rfl) (.t (.t (.t (.t .h)))) (Int.natCast_nonneg k5) hx10 (fun k24 j25 => ?_)
  refine C_val (V_fieldAddr (off := 3) fd101_3 (.tmp rfl rfl)) ?_
  refine C_ldS (w := (.int .i64 x7.Cost)) ag3 (.tmp rfl rfl) .h ls101_3 ?_
  refine C_val (V_move (v := (.int .i64 (IntKind.i64.wrap (r19 + 1)))) (.tmp rfl rfl)) ?_
  refine C_val (V_neq (i := x7.Cost) (j := (IntKind.i64.wrap (r19 + 1))) (.tmp rfl rfl) (.tmp rfl rfl)) ?_
  refine C_nil ?_
  refine CW_cond (b := ((x7.Cost : Int) != (IntKind.i64.wrap (r19 + 1)))) (.tmp rfl rfl) (fun hb30 => ?_) (fun hb30 => ?_)
  · rw [if_pos hb30] at hF
    refine K_region ?_
    refine C_val (V_assign (v := (.int .i64 (-1))) (.int _ _)) ?_
    refine C_nil ?_
    refine CW_ret ?_
    obtain rfl := Option.some.inj hF
    exact End_ret () (.tmp rfl rfl .nil) rfl (.sel .nil)
  rw [if_neg (by rw [hb30]; exact Bool.false_ne_true)] at hF
  refine CW_skip ?_
  refine K_region ?_
  refine C_val (V_move (v := (.int .i64 (IntKind.i64.wrap (r19 + 1)))) (.tmp rfl rfl)) ?_
  refine C_val (V_add (i := (IntKind.i64.wrap (r19 + 1))) (j := 1) (.tmp rfl rfl) (.int _ _)) ?_
  refine C_val (V_assign (v := (.int .i64 (IntKind.i64.wrap ((IntKind.i64.wrap (r19 + 1)) + 1)))) (.tmp rfl rfl)) ?_
  refine C_nil ?_
  refine K_in ?_
  refine K_region ?_
  refine C_val (V_move (v := v0_0.v) (.tmp rfl rfl)) ?_
  refine C_val (V_move (v := (.int .i64 (k5 : Int))) (.tmp rfl rfl)) ?_
  refine C_idx (a := x7) sl35 ty101.sz (.tmp rfl rfl) (.tmp rfl rfl) (.t (.t (.t (.t (.t .h))))) (Int.natCast_nonneg k5) hx10 (fun k26 j27 => ?_)
  refine C_val (V_fieldAddr (off := 4) fd101_4 (.tmp rfl rfl)) ?_
  refine C_ldS (w := (.int .i64 x7.Quota)) ag3 (.tmp rfl rfl) .h ls101_4 ?_
  refine C_val (V_move (v := (.int .i64 (IntKind.i64.wrap ((IntKind.i64.wrap (r19 + 1)) + 1)))) (.tmp rfl rfl)) ?_
  refine C_val (V_neq (i := x7.Quota) (j := (IntKind.i64.wrap ((IntKind.i64.wrap (r19 + 1)) + 1))) (.tmp rfl rfl) (.tmp rfl rfl)) ?_
  refine C_nil ?_
  refine CW_cond (b := ((x7.Quota : Int) != (IntKind.i64.wrap ((IntKind.i64.wrap (r19 + 1)) + 1)))) (.tmp rfl rfl) (fun hb29 => ?_) (fun hb29 => ?_)
  · rw [if_pos hb29] at hF
    refine K_region ?_
    refine C_val (V_assign (v := (.int .i64 (-1))) (.int _ _)) ?_
    refine C_nil ?_
    refine CW_ret ?_
    obtain rfl := Option.some.inj hF
    exact End_ret () (.tmp rfl rfl .nil) rfl (.sel .nil)
  rw [if_neg (by rw [hb29]; exact Bool.false_ne_true)] at hF
  refine CW_skip ?_
  refine CW_region ?_
  refine C_val (V_move (v := (.int .i64 (IntKind.i64.wrap ((IntKind.i64.wrap (r19 + 1)) + 1)))) (.tmp rfl rfl)) ?_
  refine C_val (V_add (i := (IntKind.i64.wrap ((IntKind.i64.wrap (r19 + 1)) + 1))) (j := 1) (.tmp rfl rfl) (.int _ _)) ?_
  refine C_val (V_assign (v := (.int .i64 (IntKind.i64.wrap ((IntKind.i64.wrap ((IntKind.i64.wrap (r19 + 1)) + 1)) + 1)))) (.tmp rfl rfl)) ?_
  refine C_nil ?_
  refine CW_region ?_
  refine C_val (V_move (v := (.int .i64 (k5 : Int))) (.tmp rfl rfl)) ?_
  refine C_val (V_add (i := (k5 : Int)) (j := 1) (.tmp rfl rfl) (.int _ _)) ?_
  refine C_val (V_assign (v := (.int .i64 (IntKind.i64.wrap ((k5 : Int) + 1)))) (.tmp rfl rfl)) ?_
  refine C_nil ?_
  have hw28 : IntKind.i64.wrap ((k5 : Int) + 1) = ((k5 + 1 : Nat) : Int) := by rw [wrap_in (by omega) (by omega)]; rfl
  rw [hw28]
  exact ⟨_, Nat.lt_succ_self _, _, k5 + 1, rest6, _, rfl, (EqL.cons rfl (EqL.cons rfl (EqL.cons rfl (EqL.nil)))).eq, hd11, (.sel (.rd (.t (.t (.t (.t (.t (.t .h)))))) rfl .nil)), hF⟩

/-! laws.heldRuleS -/
def l_heldRuleS_L1 : List Rule → Nat → Int → Option (Int)
  | [], k5, c1 => some c1
  | x7 :: rest6, k5, c1 => if ((x7.From : Int) != c1) then (
      some (-1))
    else (
      if ((x7.To : Int) != (IntKind.i64.wrap (c1 + 1))) then (
        some (-1))
      else (
        (l_heldIntS x7.Map (IntKind.i64.wrap ((IntKind.i64.wrap (c1 + 1)) + 1))).bind fun r21 =>
        if (decide ((r21 : Int) < 0)) then (
          some (-1))
        else (
          l_heldRuleS_L1 rest6 (k5 + 1) r21)))
def l_heldRuleS (a_a : List Rule) (a_k : Int) : Option (Int) :=
  l_heldRuleS_L1 a_a 0 a_k
theorem l_heldRuleS_ok (a_a : List Rule) (v0_0 : Sv) (a_k : Int) (R : Int) (hF : l_heldRuleS a_a a_k = some R) :
    Fw.Spec Try.prog 75 [v0_0.v, (.int .i64 a_k)] [crd (RdS 126 rd126) v0_0.v a_a] (fun _ : Unit => (.int .i64 R)) (fun _ => []) := by
  refine Spec_enter (n := 40) Try.func75 rfl rfl (rs := [.tmp 4]) rfl rfl rfl ?_
  intro H0 F0
  unfold l_heldRuleS at hF
  refine K_region ?_
  refine C_val (V_assign (v := (.int .i64 0)) (.int _ _)) ?_
  refine C_nil ?_
  refine K_in ?_
  refine K_region ?_
  refine C_val (V_assign (v := (.int .i64 0)) (.int _ _)) ?_
  refine C_nil ?_
  refine CW_block ?_
  refine CW_loop (m := a_a.length) (fun m3 f' cs' => ∃ (g : Fr) (k5 : Nat) (rest6 : List Rule) (c1 : Int), m3 = rest6.length ∧ f' = updL g [(0, v0_0.v), (1, (.int .i64 c1)), (5, (.int .i64 (k5 : Int)))] ∧ List.drop k5 a_a = rest6 ∧ Ent cs' [crd (RdS 126 rd126) v0_0.v a_a] ∧ l_heldRuleS_L1 rest6 k5 c1 = some R) ⟨_, 0, _, _, rfl, (EqL.cons rfl (EqL.cons rfl (EqL.cons rfl (EqL.nil)))).eq, rfl, (.sel (.rd .h rfl .nil)), hF⟩ ?_
  clear hF
  rintro m3 _ _ ⟨g4, k5, rest6, c1, rfl, rfl, hd8, hE, hF⟩
  refine K_ent hE ?_
  clear hE
  refine K_pure (c := crd (RdS 126 rd126) v0_0.v a_a) .h crd_bound (fun hbd13 => ?_)
  rcases rest6 with _ | ⟨x7, rest6⟩
  · have hk9 := List.drop_eq_nil_iff.1 hd8
    have hfe12 : (decide (((k5 : Int) : Int) < (a_a.length : Int))) = false := decide_eq_false (by omega)
    rw [l_heldRuleS_L1] at hF
    refine K_in ?_
    refine K_region ?_
    refine C_val (V_move (v := (.int .i64 (k5 : Int))) (.tmp rfl rfl)) ?_
    refine C_val (V_move (v := v0_0.v) (.tmp rfl rfl)) ?_
    refine C_at .h (fun hp => V_lenR (l := a_a.length) sl46 (.tmp rfl rfl) (crd_len hp)) ?_
    refine C_val (V_lss (i := (k5 : Int)) (j := (a_a.length : Int)) (.tmp rfl rfl) (.tmp rfl rfl)) ?_
    refine C_nil ?_
    refine CW_cond (b := (decide (((k5 : Int) : Int) < (a_a.length : Int)))) (.tmp rfl rfl) (fun hb => absurd (hfe12.symm.trans hb) (by decide)) (fun _ => ?_)
    refine CW_exit ?_
    refine CThen_exit ?_
    refine CThen_exit ?_
    refine CIn_self ?_
    refine K_region ?_
    refine C_val (V_move (v := (.int .i64 c1)) (.tmp rfl rfl)) ?_
    refine C_val (V_assign (v := (.int .i64 c1)) (.tmp rfl rfl)) ?_
    refine C_nil ?_
    refine CW_ret ?_
    obtain rfl := Option.some.inj hF
    exact End_ret () (.tmp rfl rfl .nil) rfl (.sel .nil)
  obtain ⟨hk9, hx10, hd11⟩ := drop_cons hd8
  have hfe12 : (decide (((k5 : Int) : Int) < (a_a.length : Int))) = true := decide_eq_true (by omega)
  rw [l_heldRuleS_L1] at hF
  refine K_in ?_
  refine K_region ?_
  refine C_val (V_move (v := (.int .i64 (k5 : Int))) (.tmp rfl rfl)) ?_
  refine C_val (V_move (v := v0_0.v) (.tmp rfl rfl)) ?_
  refine C_at .h (fun hp => V_lenR (l := a_a.length) sl46 (.tmp rfl rfl) (crd_len hp)) ?_
  refine C_val (V_lss (i := (k5 : Int)) (j := (a_a.length : Int)) (.tmp rfl rfl) (.tmp rfl rfl)) ?_
  refine C_nil ?_
  refine CW_cond (b := (decide (((k5 : Int) : Int) < (a_a.length : Int)))) (.tmp rfl rfl) (fun _ => ?_) (fun hb => absurd (hfe12.symm.trans hb) (by decide))
  refine CW_skip ?_
  refine K_block ?_
  refine K_in ?_
  refine K_region ?_
  refine C_val (V_move (v := v0_0.v) (.tmp rfl rfl)) ?_
  refine C_val (V_move (v := (.int .i64 (k5 : Int))) (.tmp rfl rfl)) ?_
  refine C_idx (a := x7) sl46 ty126.sz (.tmp rfl rfl) (.tmp rfl rfl) .h (Int.natCast_nonneg k5) hx10 (fun k14 j15 => ?_)
  refine C_val (V_fieldAddr (off := 0) fd126_0 (.tmp rfl rfl)) ?_
  refine C_ldS (w := (.int .i64 x7.From)) ag3 (.tmp rfl rfl) .h ls126_0 ?_
  refine C_val (V_move (v := (.int .i64 c1)) (.tmp rfl rfl)) ?_
  refine C_val (V_neq (i := x7.From) (j := c1) (.tmp rfl rfl) (.tmp rfl rfl)) ?_
  refine C_nil ?_
  refine CW_cond (b := ((x7.From : Int) != c1)) (.tmp rfl rfl) (fun hb27 => ?_) (fun hb27 => ?_)
  · rw [if_pos hb27] at hF
    refine K_region ?_
    refine C_val (V_assign (v := (.int .i64 (-1))) (.int _ _)) ?_
    refine C_nil ?_
    refine CW_ret ?_
    obtain rfl := Option.some.inj hF
    exact End_ret () (.tmp rfl rfl .nil) rfl (.sel .nil)
  rw [if_neg (by rw [hb27]; exact Bool.false_ne_true)] at hF
  refine CW_skip ?_
  refine K_region ?_
  refine C_val (V_move (v := (.int .i64 c1)) (.tmp rfl rfl)) ?_
  refine C_val (V_add (i := c1) (j := 1) (.tmp rfl rfl) (.int _ _)) ?_
  refine C_val (V_assign (v := (.int .i64 (IntKind.i64.wrap (c1 + 1)))) (.tmp rfl rfl)) ?_
  refine C_nil ?_
  refine K_in ?_
  refine K_region ?_
  refine C_val (V_move (v := v0_0.v) (.tmp rfl rfl)) ?_
  refine C_val (V_move (v := (.int .i64 (k5 : Int))) (.tmp rfl rfl)) ?_
  refine C_idx (a := x7) sl46 ty126.sz (.tmp rfl rfl) (.tmp rfl rfl) (.t .h) (Int.natCast_nonneg k5) hx10 (fun k16 j17 => ?_)
  refine C_val (V_fieldAddr (off := 1) fd126_1 (.tmp rfl rfl)) ?_
  refine C_ldS (w := (.int .i64 x7.To)) ag3 (.tmp rfl rfl) .h ls126_1 ?_
  refine C_val (V_move (v := (.int .i64 (IntKind.i64.wrap (c1 + 1)))) (.tmp rfl rfl)) ?_
  refine C_val (V_neq (i := x7.To) (j := (IntKind.i64.wrap (c1 + 1))) (.tmp rfl rfl) (.tmp rfl rfl)) ?_
  refine C_nil ?_
  refine CW_cond (b := ((x7.To : Int) != (IntKind.i64.wrap (c1 + 1)))) (.tmp rfl rfl) (fun hb26 => ?_) (fun hb26 => ?_)
  · rw [if_pos hb26] at hF
    refine K_region ?_
    refine C_val (V_assign (v := (.int .i64 (-1))) (.int _ _)) ?_
    refine C_nil ?_
    refine CW_ret ?_
    obtain rfl := Option.some.inj hF
    exact End_ret () (.tmp rfl rfl .nil) rfl (.sel .nil)
  rw [if_neg (by rw [hb26]; exact Bool.false_ne_true)] at hF
  refine CW_skip ?_
  refine K_region ?_
  refine C_val (V_move (v := (.int .i64 (IntKind.i64.wrap (c1 + 1)))) (.tmp rfl rfl)) ?_
  refine C_val (V_add (i := (IntKind.i64.wrap (c1 + 1))) (j := 1) (.tmp rfl rfl) (.int _ _)) ?_
  refine C_val (V_assign (v := (.int .i64 (IntKind.i64.wrap ((IntKind.i64.wrap (c1 + 1)) + 1)))) (.tmp rfl rfl)) ?_
  refine C_nil ?_
  refine K_region ?_
  refine C_val (V_move (v := v0_0.v) (.tmp rfl rfl)) ?_
  refine C_val (V_move (v := (.int .i64 (k5 : Int))) (.tmp rfl rfl)) ?_
  refine C_idx (a := x7) sl46 ty126.sz (.tmp rfl rfl) (.tmp rfl rfl) (.t (.t .h)) (Int.natCast_nonneg k5) hx10 (fun k18 j19 => ?_)
  refine C_val (V_fieldAddr (off := 2) fd126_2 (.tmp rfl rfl)) ?_
  refine C_ldV (R' := (RdS 3 rdInt)) ag45 (.tmp rfl rfl) .h lv126_2 (fun w20 => ?_)
  refine C_val (V_move (v := (.int .i64 (IntKind.i64.wrap ((IntKind.i64.wrap (c1 + 1)) + 1)))) (.tmp rfl rfl)) ?_
  obtain ⟨r21, hx22, hF⟩ := bind_some hF
  refine C_x0 (.rd .h rfl .nil) (X_callS cf37 (.cons (.tmp rfl rfl) (.cons (.tmp rfl rfl) .nil)) (l_heldIntS_ok x7.Map w20 (IntKind.i64.wrap ((IntKind.i64.wrap (c1 + 1)) + 1)) _ hx22)) (fun _ => ?_)
  refine C_val (V_assign (v := (.int .i64 r21)) (.tmp rfl rfl)) ?_
  refine C_nil ?_
  refine K_region ?_
  refine C_val (V_move (v := (.int .i64 r21)) (.tmp rfl rfl)) ?_
  refine C_val (V_lss (i := r21) (j := 0) (.tmp rfl rfl) (.int _ _)) ?_
  refine C_nil ?_
  refine CW_cond (b := (decide ((r21 : Int) < 0))) (.tmp rfl rfl) (fun hb25 => ?_) (fun hb25 => ?_)
  · rw [if_pos hb25] at hF
    refine K_region ?_
    refine C_val (V_assign (v := (.int .i64 (-1))) (.int _ _)) ?_
    refine C_nil ?_
    refine CW_ret ?_
    obtain rfl := Option.some.inj hF
    exact End_ret () (.tmp rfl rfl .nil) rfl (.sel .nil)
  rw [if_neg (by rw [hb25]; exact Bool.false_ne_true)] at hF
  refine CW_skip ?_
  refine CW_region ?_
  refine C_val (V_move (v := (.int .i64 (k5 : Int))) (.tmp rfl rfl)) ?_
  refine C_val (V_add (i := (k5 : Int)) (j := 1) (.tmp rfl rfl) (.int _ _)) ?_
  refine C_val (V_assign (v := (.int .i64 (IntKind.i64.wrap ((k5 : Int) + 1)))) (.tmp rfl rfl)) ?_
  refine C_nil ?_
  have hw24 : IntKind.i64.wrap ((k5 : Int) + 1) = ((k5 + 1 : Nat) : Int) := by rw [wrap_in (by omega) (by omega)]; rfl
  rw [hw24]
  exact ⟨_, Nat.lt_succ_self _, _, k5 + 1, rest6, _, rfl, (EqL.cons rfl (EqL.cons rfl (EqL.cons rfl (EqL.nil)))).eq, hd11, (.sel (.rd (.t (.t (.t (.t .h)))) rfl .nil)), hF⟩

end Go.Proofs.Ytabpeldbccicaaa
