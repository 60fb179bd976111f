/-
  Functions of the program as Lean functions, and that the calls return what these say: part 1. No conditions.
-/
import Derived.Test.YtfkhlplpbhadhaaGreatDoorFcDigestOf
import Derived.Shelf.Strings.OnBuilder
import Derived.Shelf.Strconv.Itoa3
import Derived.Test.YtfkhlplpbhadhaaGreatDoorProg
import Derived.KernelRfl
set_option maxRecDepth 100000
set_option linter.unusedVariables false
namespace Go.Proofs.YtfkhlplpbhadhaaGreatDoor
open Go Go.Fw

instance : LaidP Tryz.prog := ⟨fun w => Lib.TabIs Tryz.prog w "internal/strconv.uint64pow10" .u64 Lib.pow10Tab⟩

structure Method where
  Rel : Int
  Inputs : List Int
  Limit : Int
  Cost : Int
  Quota : Int
structure Rule where
  From : Int
  To : Int
  Map : List Int
structure Fact where
  Rel : Int
  Values : List Int
structure Source where
  Facts : List Fact
  Version : Int
structure Access where
  Method : Int
  Values : List Int
structure Stored where
  Access : Access
  Facts : List Fact
  At : Int
structure Cache where
  Entries : List Stored
  Age : Int
structure Mediator where
  Schema : List Int
  Methods : List Method
  Rules : List Rule
  Source : Source
  Cache : Cache
  Now : Int
  Log : List Access
  Times : List Int
  Spent : Int
  Results : List (List (List Int))
theorem ty34 : TY Tryz.prog 34 12 224 (.agg [(.slice none 0 0), (.slice none 0 0), (.slice none 0 0), (.slice none 0 0), (.int .i64 0), (.slice none 0 0), (.int .i64 0), (.int .i64 0), (.slice none 0 0), (.slice none 0 0), (.int .i64 0), (.slice none 0 0)].toArray) := by unfold TY; kernel_rfl
theorem ag34 : AG Tryz.prog 34 true := by unfold AG; kernel_rfl
theorem cf5 : CF Tryz.prog 5 := fun _ _ => Tryz.call5 _ _
theorem fd34_0 : FD Tryz.prog 34 0 0 := by unfold FD; kernel_rfl
theorem ag22 : AG Tryz.prog 22 false := by unfold AG; kernel_rfl
theorem cf12 : CF Tryz.prog 12 := fun _ _ => Tryz.call12 _ _
theorem sl22 : SL Tryz.prog 22 3 := by unfold SL; kernel_rfl
theorem fd34_1 : FD Tryz.prog 34 1 1 := by unfold FD; kernel_rfl
theorem ag23 : AG Tryz.prog 23 false := by unfold AG; kernel_rfl
theorem cf13 : CF Tryz.prog 13 := fun _ _ => Tryz.call13 _ _
theorem sl23 : SL Tryz.prog 23 89 := by unfold SL; kernel_rfl
def rd89 (H : AHeap) (v : Value) (a : Method) : Prop := ∃ v0 : Sv, v = .agg [(.int .i64 a.Rel), v0.v, (.int .i64 a.Limit), (.int .i64 a.Cost), (.int .i64 a.Quota)].toArray ∧ (RdS 3 rdInt) H v0.v a.Inputs
instance : Mono rd89 := ⟨fun h hi => by
  obtain ⟨v0, h, h0⟩ := h
  exact ⟨v0, h, Mono.up h0 hi⟩⟩
instance : Cells rd89 5 := ⟨fun h => by
  obtain ⟨v0, rfl, h0⟩ := h
  exact ⟨rfl, rfl⟩⟩
theorem ty89 : TY Tryz.prog 89 5 56 (.agg [(.int .i64 0), (.slice none 0 0), (.int .i64 0), (.int .i64 0), (.int .i64 0)].toArray) := by unfold TY; kernel_rfl
def ul89_0_89 (a : Method) (p : Sv) : List Value := [(.int .i64 a.Rel), p.v, (.int .i64 a.Limit), (.int .i64 a.Cost), (.int .i64 a.Quota)]
theorem la89_0_89 {a : Method} : ∀ H e, rd89 H e a → ∃ i : Sv, 0 + 5 ≤ e.cells.size ∧ (e.cells.toList.drop 0).take 5 = ul89_0_89 a i ∧ ∀ c ∈ ([crd (RdS 3 rdInt) i.v a.Inputs] : List Comp), c.P H ∧ c.F = [] := by
  intro H e h
  obtain ⟨v0, rfl, h0⟩ := h
  refine ⟨v0, Nat.le_of_ble_eq_true rfl, rfl, fun c hc => by
    simp only [List.mem_cons, List.not_mem_nil, or_false] at hc
    rcases hc with rfl
    · exact ⟨h0, rfl⟩
⟩
theorem ag89 : AG Tryz.prog 89 true := by unfold AG; kernel_rfl
theorem cf47 : CF Tryz.prog 47 := fun _ _ => Tryz.call47 _ _
theorem fd89_1 : FD Tryz.prog 89 1 1 := by unfold FD; kernel_rfl
theorem fd34_2 : FD Tryz.prog 34 2 2 := by unfold FD; kernel_rfl
theorem ag24 : AG Tryz.prog 24 false := by unfold AG; kernel_rfl
theorem cf14 : CF Tryz.prog 14 := fun _ _ => Tryz.call14 _ _
theorem sl24 : SL Tryz.prog 24 92 := by unfold SL; kernel_rfl
def rd92 (H : AHeap) (v : Value) (a : Rule) : Prop := ∃ v0 : Sv, v = .agg [(.int .i64 a.From), (.int .i64 a.To), v0.v].toArray ∧ (RdS 3 rdInt) H v0.v a.Map
instance : Mono rd92 := ⟨fun h hi => by
  obtain ⟨v0, h, h0⟩ := h
  exact ⟨v0, h, Mono.up h0 hi⟩⟩
instance : Cells rd92 3 := ⟨fun h => by
  obtain ⟨v0, rfl, h0⟩ := h
  exact ⟨rfl, rfl⟩⟩
theorem ty92 : TY Tryz.prog 92 3 40 (.agg [(.int .i64 0), (.int .i64 0), (.slice none 0 0)].toArray) := by unfold TY; kernel_rfl
def ul92_0_92 (a : Rule) (p : Sv) : List Value := [(.int .i64 a.From), (.int .i64 a.To), p.v]
theorem la92_0_92 {a : Rule} : ∀ H e, rd92 H e a → ∃ i : Sv, 0 + 3 ≤ e.cells.size ∧ (e.cells.toList.drop 0).take 3 = ul92_0_92 a i ∧ ∀ c ∈ ([crd (RdS 3 rdInt) i.v a.Map] : List Comp), c.P H ∧ c.F = [] := by
  intro H e h
  obtain ⟨v0, rfl, h0⟩ := h
  refine ⟨v0, Nat.le_of_ble_eq_true rfl, rfl, fun c hc => by
    simp only [List.mem_cons, List.not_mem_nil, or_false] at hc
    rcases hc with rfl
    · exact ⟨h0, rfl⟩
⟩
theorem ag92 : AG Tryz.prog 92 true := by unfold AG; kernel_rfl
theorem cf48 : CF Tryz.prog 48 := fun _ _ => Tryz.call48 _ _
theorem fd92_2 : FD Tryz.prog 92 2 2 := by unfold FD; kernel_rfl
theorem fd34_3 : FD Tryz.prog 34 3 3 := by unfold FD; kernel_rfl
theorem ag27 : AG Tryz.prog 27 true := by unfold AG; kernel_rfl
theorem ty27 : TY Tryz.prog 27 2 32 (.agg [(.slice none 0 0), (.int .i64 0)].toArray) := by unfold TY; kernel_rfl
theorem cf15 : CF Tryz.prog 15 := fun _ _ => Tryz.call15 _ _
theorem fd27_0 : FD Tryz.prog 27 0 0 := by unfold FD; kernel_rfl
theorem ag25 : AG Tryz.prog 25 false := by unfold AG; kernel_rfl
theorem cf49 : CF Tryz.prog 49 := fun _ _ => Tryz.call49 _ _
theorem sl25 : SL Tryz.prog 25 139 := by unfold SL; kernel_rfl
def rd139 (H : AHeap) (v : Value) (a : Fact) : Prop := ∃ v0 : Sv, v = .agg [(.int .i64 a.Rel), v0.v].toArray ∧ (RdS 3 rdInt) H v0.v a.Values
instance : Mono rd139 := ⟨fun h hi => by
  obtain ⟨v0, h, h0⟩ := h
  exact ⟨v0, h, Mono.up h0 hi⟩⟩
instance : Cells rd139 2 := ⟨fun h => by
  obtain ⟨v0, rfl, h0⟩ := h
  exact ⟨rfl, rfl⟩⟩
theorem ty139 : TY Tryz.prog 139 2 32 (.agg [(.int .i64 0), (.slice none 0 0)].toArray) := by unfold TY; kernel_rfl
def ul139_0_139 (a : Fact) (p : Sv) : List Value := [(.int .i64 a.Rel), p.v]
theorem la139_0_139 {a : Fact} : ∀ H e, rd139 H e a → ∃ i : Sv, 0 + 2 ≤ e.cells.size ∧ (e.cells.toList.drop 0).take 2 = ul139_0_139 a i ∧ ∀ c ∈ ([crd (RdS 3 rdInt) i.v a.Values] : List Comp), c.P H ∧ c.F = [] := by
  intro H e h
  obtain ⟨v0, rfl, h0⟩ := h
  refine ⟨v0, Nat.le_of_ble_eq_true rfl, rfl, fun c hc => by
    simp only [List.mem_cons, List.not_mem_nil, or_false] at hc
    rcases hc with rfl
    · exact ⟨h0, rfl⟩
⟩
theorem ag139 : AG Tryz.prog 139 true := by unfold AG; kernel_rfl
theorem cf93 : CF Tryz.prog 93 := fun _ _ => Tryz.call93 _ _
theorem fd139_1 : FD Tryz.prog 139 1 1 := by unfold FD; kernel_rfl
theorem fd34_4 : FD Tryz.prog 34 4 5 := by unfold FD; kernel_rfl
theorem ag30 : AG Tryz.prog 30 true := by unfold AG; kernel_rfl
theorem ty30 : TY Tryz.prog 30 2 32 (.agg [(.slice none 0 0), (.int .i64 0)].toArray) := by unfold TY; kernel_rfl
theorem cf16 : CF Tryz.prog 16 := fun _ _ => Tryz.call16 _ _
theorem fd30_0 : FD Tryz.prog 30 0 0 := by unfold FD; kernel_rfl
theorem ag28 : AG Tryz.prog 28 false := by unfold AG; kernel_rfl
theorem cf50 : CF Tryz.prog 50 := fun _ _ => Tryz.call50 _ _
theorem sl28 : SL Tryz.prog 28 142 := by unfold SL; kernel_rfl
def rd142 (H : AHeap) (v : Value) (a : Stored) : Prop := ∃ v0 v1 : Sv, v = .agg [(.int .i64 a.Access.Method), v0.v, v1.v, (.int .i64 a.At)].toArray ∧ (RdS 3 rdInt) H v0.v a.Access.Values ∧ (RdS 139 rd139) H v1.v a.Facts
instance : Mono rd142 := ⟨fun h hi => by
  obtain ⟨v0, v1, h, h0, h1⟩ := h
  exact ⟨v0, v1, h, Mono.up h0 hi, Mono.up h1 hi⟩⟩
instance : Cells rd142 4 := ⟨fun h => by
  obtain ⟨v0, v1, rfl, h0, h1⟩ := h
  exact ⟨rfl, rfl⟩⟩
theorem ty142 : TY Tryz.prog 142 4 64 (.agg [(.int .i64 0), (.slice none 0 0), (.slice none 0 0), (.int .i64 0)].toArray) := by unfold TY; kernel_rfl
def ul142_0_142 (a : Stored) (p : Sv × Sv) : List Value := [(.int .i64 a.Access.Method), p.1.v, p.2.v, (.int .i64 a.At)]
theorem la142_0_142 {a : Stored} : ∀ H e, rd142 H e a → ∃ i : Sv × Sv, 0 + 4 ≤ e.cells.size ∧ (e.cells.toList.drop 0).take 4 = ul142_0_142 a i ∧ ∀ c ∈ ([crd (RdS 3 rdInt) i.1.v a.Access.Values, crd (RdS 139 rd139) i.2.v a.Facts] : List Comp), c.P H ∧ c.F = [] := by
  intro H e h
  obtain ⟨v0, v1, rfl, h0, h1⟩ := h
  refine ⟨(v0, v1), Nat.le_of_ble_eq_true rfl, rfl, fun c hc => by
    simp only [List.mem_cons, List.not_mem_nil, or_false] at hc
    rcases hc with rfl | rfl
    · exact ⟨h0, rfl⟩
    · exact ⟨h1, rfl⟩
⟩
theorem ag142 : AG Tryz.prog 142 true := by unfold AG; kernel_rfl
theorem cf94 : CF Tryz.prog 94 := fun _ _ => Tryz.call94 _ _
theorem fd142_0 : FD Tryz.prog 142 0 0 := by unfold FD; kernel_rfl
theorem ag97 : AG Tryz.prog 97 true := by unfold AG; kernel_rfl
theorem ty97 : TY Tryz.prog 97 2 32 (.agg [(.int .i64 0), (.slice none 0 0)].toArray) := by unfold TY; kernel_rfl
theorem cf51 : CF Tryz.prog 51 := fun _ _ => Tryz.call51 _ _
theorem fd97_1 : FD Tryz.prog 97 1 1 := by unfold FD; kernel_rfl
theorem fd142_1 : FD Tryz.prog 142 1 2 := by unfold FD; kernel_rfl
theorem fd34_6 : FD Tryz.prog 34 6 8 := by unfold FD; kernel_rfl
theorem ag31 : AG Tryz.prog 31 false := by unfold AG; kernel_rfl
theorem cf17 : CF Tryz.prog 17 := fun _ _ => Tryz.call17 _ _
theorem sl31 : SL Tryz.prog 31 97 := by unfold SL; kernel_rfl
def rd97 (H : AHeap) (v : Value) (a : Access) : Prop := ∃ v0 : Sv, v = .agg [(.int .i64 a.Method), v0.v].toArray ∧ (RdS 3 rdInt) H v0.v a.Values
instance : Mono rd97 := ⟨fun h hi => by
  obtain ⟨v0, h, h0⟩ := h
  exact ⟨v0, h, Mono.up h0 hi⟩⟩
instance : Cells rd97 2 := ⟨fun h => by
  obtain ⟨v0, rfl, h0⟩ := h
  exact ⟨rfl, rfl⟩⟩
def ul97_0_97 (a : Access) (p : Sv) : List Value := [(.int .i64 a.Method), p.v]
theorem la97_0_97 {a : Access} : ∀ H e, rd97 H e a → ∃ i : Sv, 0 + 2 ≤ e.cells.size ∧ (e.cells.toList.drop 0).take 2 = ul97_0_97 a i ∧ ∀ c ∈ ([crd (RdS 3 rdInt) i.v a.Values] : List Comp), c.P H ∧ c.F = [] := by
  intro H e h
  obtain ⟨v0, rfl, h0⟩ := h
  refine ⟨v0, Nat.le_of_ble_eq_true rfl, rfl, fun c hc => by
    simp only [List.mem_cons, List.not_mem_nil, or_false] at hc
    rcases hc with rfl
    · exact ⟨h0, rfl⟩
⟩
theorem fd34_7 : FD Tryz.prog 34 7 9 := by unfold FD; kernel_rfl
theorem fd34_9 : FD Tryz.prog 34 9 11 := by unfold FD; kernel_rfl
theorem ag32 : AG Tryz.prog 32 false := by unfold AG; kernel_rfl
theorem cf18 : CF Tryz.prog 18 := fun _ _ => Tryz.call18 _ _
theorem sl32 : SL Tryz.prog 32 83 := by unfold SL; kernel_rfl
theorem ty83 : TY Tryz.prog 83 1 24 (.slice none 0 0) := by unfold TY; kernel_rfl
theorem lv83_0 {a : List (List Int)} : ∀ H e, (RdS 22 (RdS 3 rdInt)) H e a → ∃ w : Sv, e.cells.toList[0]? = some w.v ∧ (RdS 22 (RdS 3 rdInt)) H w.v a := by
  intro H e h
  obtain ⟨a0, m, rfl⟩ := RdS.len h
  exact ⟨⟨a0, _, m⟩, rfl, h⟩
theorem ag83 : AG Tryz.prog 83 false := by unfold AG; kernel_rfl
theorem cf52 : CF Tryz.prog 52 := fun _ _ => Tryz.call52 _ _
theorem sl83 : SL Tryz.prog 83 22 := by unfold SL; kernel_rfl
theorem ty22 : TY Tryz.prog 22 1 24 (.slice none 0 0) := by unfold TY; kernel_rfl
theorem lv22_0 {a : List Int} : ∀ H e, (RdS 3 rdInt) H e a → ∃ w : Sv, e.cells.toList[0]? = some w.v ∧ (RdS 3 rdInt) H w.v a := by
  intro H e h
  obtain ⟨a0, m, rfl⟩ := RdS.len h
  exact ⟨⟨a0, _, m⟩, rfl, h⟩
theorem cf7 : CF Tryz.prog 7 := fun _ _ => Tryz.call7 _ _
theorem ty47 : TY Tryz.prog 47 12 224 (.agg [(.slice none 0 0), (.slice none 0 0), (.slice none 0 0), (.slice none 0 0), (.int .i64 0), (.slice none 0 0), (.int .i64 0), (.int .i64 0), (.slice none 0 0), (.slice none 0 0), (.int .i64 0), (.slice none 0 0)].toArray) := by unfold TY; kernel_rfl
theorem cf21 : CF Tryz.prog 21 := fun _ _ => Tryz.call21 _ _
theorem ty3 : TY Tryz.prog 3 1 8 (.int .i64 0) := by unfold TY; kernel_rfl
theorem ls3_0 {a : Int} : ∀ H e, rdInt H e a → e.cells.toList[0]? = some (.int .i64 a) := by
  intro H e h
  subst h
  rfl
theorem ag3 : AG Tryz.prog 3 false := by unfold AG; kernel_rfl
theorem fd47_0 : FD Tryz.prog 47 0 0 := by unfold FD; kernel_rfl
theorem cf22 : CF Tryz.prog 22 := fun _ _ => Tryz.call22 _ _
theorem sl37 : SL Tryz.prog 37 108 := by unfold SL; kernel_rfl
theorem ty108 : TY Tryz.prog 108 5 56 (.agg [(.int .i64 0), (.slice none 0 0), (.int .i64 0), (.int .i64 0), (.int .i64 0)].toArray) := by unfold TY; kernel_rfl
def rd108 (H : AHeap) (v : Value) (a : Method) : Prop := ∃ v0 : Sv, v = .agg [(.int .i64 a.Rel), v0.v, (.int .i64 a.Limit), (.int .i64 a.Cost), (.int .i64 a.Quota)].toArray ∧ (RdS 3 rdInt) H v0.v a.Inputs
instance : Mono rd108 := ⟨fun h hi => by
  obtain ⟨v0, h, h0⟩ := h
  exact ⟨v0, h, Mono.up h0 hi⟩⟩
instance : Cells rd108 5 := ⟨fun h => by
  obtain ⟨v0, rfl, h0⟩ := h
  exact ⟨rfl, rfl⟩⟩
def ow108 : ORel Method := fun F H v a => ∃ (v0 : Sv) (F0 : List Nat), v = .agg [(.int .i64 a.Rel), v0.v, (.int .i64 a.Limit), (.int .i64 a.Cost), (.int .i64 a.Quota)].toArray ∧ F0 = F ∧ (OwnS 3 (roE rdInt)) F0 H v0.v a.Inputs
instance : Keep ow108 := ⟨fun h hi hg => by
  obtain ⟨v0, F0, rfl, rfl, h0⟩ := h
  exact ⟨v0, F0, rfl, rfl, Keep.keep h0 hi (fun k hk => hg k (by simp [hk]))⟩⟩
instance : Local ow108 := ⟨fun h hg => by
  obtain ⟨v0, F0, rfl, rfl, h0⟩ := h
  exact ⟨v0, F0, rfl, rfl, Local.keep h0 (fun k hk => hg k (by simp [hk]))⟩⟩
instance : Owns ow108 := ⟨fun h k hk => by
  obtain ⟨v0, F0, rfl, rfl, h0⟩ := h
  exact Owns.owns h0 k hk
⟩
instance : OCells ow108 5 := ⟨fun h => by
  obtain ⟨v0, F0, rfl, rfl, h0⟩ := h
  exact ⟨rfl, rfl⟩⟩
instance : Frz ow108 rd108 := ⟨fun h hg => by
  obtain ⟨v0, F0, rfl, rfl, h0⟩ := h
  exact ⟨v0, rfl, Frz.frz h0 (fun k hk => hg k (by simp [hk]))⟩⟩
theorem cf61 : CF Tryz.prog 61 := fun _ _ => Tryz.call61 _ _
theorem fd89_0 : FD Tryz.prog 89 0 0 := by unfold FD; kernel_rfl
theorem fd108_0 : FD Tryz.prog 108 0 0 := by unfold FD; kernel_rfl
theorem fd108_1 : FD Tryz.prog 108 1 1 := by unfold FD; kernel_rfl
theorem fd89_2 : FD Tryz.prog 89 2 2 := by unfold FD; kernel_rfl
theorem fd108_2 : FD Tryz.prog 108 2 2 := by unfold FD; kernel_rfl
theorem fd89_3 : FD Tryz.prog 89 3 3 := by unfold FD; kernel_rfl
theorem fd108_3 : FD Tryz.prog 108 3 3 := by unfold FD; kernel_rfl
theorem fd89_4 : FD Tryz.prog 89 4 4 := by unfold FD; kernel_rfl
theorem fd108_4 : FD Tryz.prog 108 4 4 := by unfold FD; kernel_rfl
theorem ag108 : AG Tryz.prog 108 true := by unfold AG; kernel_rfl
theorem mk108 {a : Method} {v0 : Sv} {F0 : List Nat} : Mk ow108 F0 (.agg [(.int .i64 a.Rel), v0.v, (.int .i64 a.Limit), (.int .i64 a.Cost), (.int .i64 a.Quota)].toArray) a [cown (OwnS 3 (roE rdInt)) F0 v0.v a.Inputs] :=
  ⟨fun H h => ⟨v0, F0, rfl, rfl, h (cown (OwnS 3 (roE rdInt)) F0 v0.v a.Inputs) (by simp)⟩, by simp [cown]⟩
theorem fd47_1 : FD Tryz.prog 47 1 1 := by unfold FD; kernel_rfl
theorem ty37 : TY Tryz.prog 37 1 24 (.slice none 0 0) := by unfold TY; kernel_rfl
theorem cf23 : CF Tryz.prog 23 := fun _ _ => Tryz.call23 _ _
theorem sl38 : SL Tryz.prog 38 110 := by unfold SL; kernel_rfl
theorem ty110 : TY Tryz.prog 110 3 40 (.agg [(.int .i64 0), (.int .i64 0), (.slice none 0 0)].toArray) := by unfold TY; kernel_rfl
def rd110 (H : AHeap) (v : Value) (a : Rule) : Prop := ∃ v0 : Sv, v = .agg [(.int .i64 a.From), (.int .i64 a.To), v0.v].toArray ∧ (RdS 3 rdInt) H v0.v a.Map
instance : Mono rd110 := ⟨fun h hi => by
  obtain ⟨v0, h, h0⟩ := h
  exact ⟨v0, h, Mono.up h0 hi⟩⟩
instance : Cells rd110 3 := ⟨fun h => by
  obtain ⟨v0, rfl, h0⟩ := h
  exact ⟨rfl, rfl⟩⟩
def ow110 : ORel Rule := fun F H v a => ∃ (v0 : Sv) (F0 : List Nat), v = .agg [(.int .i64 a.From), (.int .i64 a.To), v0.v].toArray ∧ F0 = F ∧ (OwnS 3 (roE rdInt)) F0 H v0.v a.Map
instance : Keep ow110 := ⟨fun h hi hg => by
  obtain ⟨v0, F0, rfl, rfl, h0⟩ := h
  exact ⟨v0, F0, rfl, rfl, Keep.keep h0 hi (fun k hk => hg k (by simp [hk]))⟩⟩
instance : Local ow110 := ⟨fun h hg => by
  obtain ⟨v0, F0, rfl, rfl, h0⟩ := h
  exact ⟨v0, F0, rfl, rfl, Local.keep h0 (fun k hk => hg k (by simp [hk]))⟩⟩
instance : Owns ow110 := ⟨fun h k hk => by
  obtain ⟨v0, F0, rfl, rfl, h0⟩ := h
  exact Owns.owns h0 k hk
⟩
instance : OCells ow110 3 := ⟨fun h => by
  obtain ⟨v0, F0, rfl, rfl, h0⟩ := h
  exact ⟨rfl, rfl⟩⟩
instance : Frz ow110 rd110 := ⟨fun h hg => by
  obtain ⟨v0, F0, rfl, rfl, h0⟩ := h
  exact ⟨v0, rfl, Frz.frz h0 (fun k hk => hg k (by simp [hk]))⟩⟩
theorem cf62 : CF Tryz.prog 62 := fun _ _ => Tryz.call62 _ _
theorem fd92_0 : FD Tryz.prog 92 0 0 := by unfold FD; kernel_rfl
theorem fd110_0 : FD Tryz.prog 110 0 0 := by unfold FD; kernel_rfl
theorem fd92_1 : FD Tryz.prog 92 1 1 := by unfold FD; kernel_rfl
theorem fd110_1 : FD Tryz.prog 110 1 1 := by unfold FD; kernel_rfl
theorem fd110_2 : FD Tryz.prog 110 2 2 := by unfold FD; kernel_rfl
theorem ag110 : AG Tryz.prog 110 true := by unfold AG; kernel_rfl
theorem mk110 {a : Rule} {v0 : Sv} {F0 : List Nat} : Mk ow110 F0 (.agg [(.int .i64 a.From), (.int .i64 a.To), v0.v].toArray) a [cown (OwnS 3 (roE rdInt)) F0 v0.v a.Map] :=
  ⟨fun H h => ⟨v0, F0, rfl, rfl, h (cown (OwnS 3 (roE rdInt)) F0 v0.v a.Map) (by simp)⟩, by simp [cown]⟩
theorem fd47_2 : FD Tryz.prog 47 2 2 := by unfold FD; kernel_rfl
theorem ty38 : TY Tryz.prog 38 1 24 (.slice none 0 0) := by unfold TY; kernel_rfl
theorem cf24 : CF Tryz.prog 24 := fun _ _ => Tryz.call24 _ _
theorem ty41 : TY Tryz.prog 41 2 32 (.agg [(.slice none 0 0), (.int .i64 0)].toArray) := by unfold TY; kernel_rfl
theorem cf63 : CF Tryz.prog 63 := fun _ _ => Tryz.call63 _ _
theorem sl39 : SL Tryz.prog 39 80 := by unfold SL; kernel_rfl
theorem ty80 : TY Tryz.prog 80 2 32 (.agg [(.int .i64 0), (.slice none 0 0)].toArray) := by unfold TY; kernel_rfl
def rd80 (H : AHeap) (v : Value) (a : Fact) : Prop := ∃ v0 : Sv, v = .agg [(.int .i64 a.Rel), v0.v].toArray ∧ (RdS 3 rdInt) H v0.v a.Values
instance : Mono rd80 := ⟨fun h hi => by
  obtain ⟨v0, h, h0⟩ := h
  exact ⟨v0, h, Mono.up h0 hi⟩⟩
instance : Cells rd80 2 := ⟨fun h => by
  obtain ⟨v0, rfl, h0⟩ := h
  exact ⟨rfl, rfl⟩⟩
def ow80 : ORel Fact := fun F H v a => ∃ (v0 : Sv) (F0 : List Nat), v = .agg [(.int .i64 a.Rel), v0.v].toArray ∧ F0 = F ∧ (OwnS 3 (roE rdInt)) F0 H v0.v a.Values
instance : Keep ow80 := ⟨fun h hi hg => by
  obtain ⟨v0, F0, rfl, rfl, h0⟩ := h
  exact ⟨v0, F0, rfl, rfl, Keep.keep h0 hi (fun k hk => hg k (by simp [hk]))⟩⟩
instance : Local ow80 := ⟨fun h hg => by
  obtain ⟨v0, F0, rfl, rfl, h0⟩ := h
  exact ⟨v0, F0, rfl, rfl, Local.keep h0 (fun k hk => hg k (by simp [hk]))⟩⟩
instance : Owns ow80 := ⟨fun h k hk => by
  obtain ⟨v0, F0, rfl, rfl, h0⟩ := h
  exact Owns.owns h0 k hk
⟩
instance : OCells ow80 2 := ⟨fun h => by
  obtain ⟨v0, F0, rfl, rfl, h0⟩ := h
  exact ⟨rfl, rfl⟩⟩
instance : Frz ow80 rd80 := ⟨fun h hg => by
  obtain ⟨v0, F0, rfl, rfl, h0⟩ := h
  exact ⟨v0, rfl, Frz.frz h0 (fun k hk => hg k (by simp [hk]))⟩⟩
theorem cf100 : CF Tryz.prog 100 := fun _ _ => Tryz.call100 _ _
theorem fd139_0 : FD Tryz.prog 139 0 0 := by unfold FD; kernel_rfl
theorem fd80_0 : FD Tryz.prog 80 0 0 := by unfold FD; kernel_rfl
theorem fd80_1 : FD Tryz.prog 80 1 1 := by unfold FD; kernel_rfl
theorem ag80 : AG Tryz.prog 80 true := by unfold AG; kernel_rfl
theorem mk80 {a : Fact} {v0 : Sv} {F0 : List Nat} : Mk ow80 F0 (.agg [(.int .i64 a.Rel), v0.v].toArray) a [cown (OwnS 3 (roE rdInt)) F0 v0.v a.Values] :=
  ⟨fun H h => ⟨v0, F0, rfl, rfl, h (cown (OwnS 3 (roE rdInt)) F0 v0.v a.Values) (by simp)⟩, by simp [cown]⟩
theorem fd41_0 : FD Tryz.prog 41 0 0 := by unfold FD; kernel_rfl
theorem ty39 : TY Tryz.prog 39 1 24 (.slice none 0 0) := by unfold TY; kernel_rfl
theorem fd27_1 : FD Tryz.prog 27 1 1 := by unfold FD; kernel_rfl
theorem fd41_1 : FD Tryz.prog 41 1 1 := by unfold FD; kernel_rfl
theorem ag41 : AG Tryz.prog 41 true := by unfold AG; kernel_rfl
theorem fd47_3 : FD Tryz.prog 47 3 3 := by unfold FD; kernel_rfl
theorem cf25 : CF Tryz.prog 25 := fun _ _ => Tryz.call25 _ _
theorem ty44 : TY Tryz.prog 44 2 32 (.agg [(.slice none 0 0), (.int .i64 0)].toArray) := by unfold TY; kernel_rfl
theorem cf64 : CF Tryz.prog 64 := fun _ _ => Tryz.call64 _ _
theorem sl42 : SL Tryz.prog 42 147 := by unfold SL; kernel_rfl
theorem ty147 : TY Tryz.prog 147 4 64 (.agg [(.int .i64 0), (.slice none 0 0), (.slice none 0 0), (.int .i64 0)].toArray) := by unfold TY; kernel_rfl
def rd147 (H : AHeap) (v : Value) (a : Stored) : Prop := ∃ v0 v1 : Sv, v = .agg [(.int .i64 a.Access.Method), v0.v, v1.v, (.int .i64 a.At)].toArray ∧ (RdS 3 rdInt) H v0.v a.Access.Values ∧ (RdS 80 rd80) H v1.v a.Facts
instance : Mono rd147 := ⟨fun h hi => by
  obtain ⟨v0, v1, h, h0, h1⟩ := h
  exact ⟨v0, v1, h, Mono.up h0 hi, Mono.up h1 hi⟩⟩
instance : Cells rd147 4 := ⟨fun h => by
  obtain ⟨v0, v1, rfl, h0, h1⟩ := h
  exact ⟨rfl, rfl⟩⟩
def ow147 : ORel Stored := fun F H v a => ∃ (v0 v1 : Sv) (F0 F1 : List Nat), v = .agg [(.int .i64 a.Access.Method), v0.v, v1.v, (.int .i64 a.At)].toArray ∧ F = (F0 ++ F1) ∧ (OwnS 3 (roE rdInt)) F0 H v0.v a.Access.Values ∧ (OwnS 80 ow80) F1 H v1.v a.Facts
instance : Keep ow147 := ⟨fun h hi hg => by
  obtain ⟨v0, v1, F0, F1, rfl, rfl, h0, h1⟩ := h
  exact ⟨v0, v1, F0, F1, rfl, rfl, Keep.keep h0 hi (fun k hk => hg k (by simp [hk])), Keep.keep h1 hi (fun k hk => hg k (by simp [hk]))⟩⟩
instance : Local ow147 := ⟨fun h hg => by
  obtain ⟨v0, v1, F0, F1, rfl, rfl, h0, h1⟩ := h
  exact ⟨v0, v1, F0, F1, rfl, rfl, Local.keep h0 (fun k hk => hg k (by simp [hk])), Local.keep h1 (fun k hk => hg k (by simp [hk]))⟩⟩
instance : Owns ow147 := ⟨fun h k hk => by
  obtain ⟨v0, v1, F0, F1, rfl, rfl, h0, h1⟩ := h
  simp only [List.mem_append] at hk
  rcases hk with hk | hk
  · exact Owns.owns h0 k hk
  · exact Owns.owns h1 k hk
⟩
instance : OCells ow147 4 := ⟨fun h => by
  obtain ⟨v0, v1, F0, F1, rfl, rfl, h0, h1⟩ := h
  exact ⟨rfl, rfl⟩⟩
instance : Frz ow147 rd147 := ⟨fun h hg => by
  obtain ⟨v0, v1, F0, F1, rfl, rfl, h0, h1⟩ := h
  exact ⟨v0, v1, rfl, Frz.frz h0 (fun k hk => hg k (by simp [hk])), Frz.frz h1 (fun k hk => hg k (by simp [hk]))⟩⟩
theorem cf101 : CF Tryz.prog 101 := fun _ _ => Tryz.call101 _ _
theorem cf65 : CF Tryz.prog 65 := fun _ _ => Tryz.call65 _ _
theorem ty105 : TY Tryz.prog 105 2 32 (.agg [(.int .i64 0), (.slice none 0 0)].toArray) := by unfold TY; kernel_rfl
theorem fd97_0 : FD Tryz.prog 97 0 0 := by unfold FD; kernel_rfl
theorem fd105_0 : FD Tryz.prog 105 0 0 := by unfold FD; kernel_rfl
theorem fd105_1 : FD Tryz.prog 105 1 1 := by unfold FD; kernel_rfl
theorem ag105 : AG Tryz.prog 105 true := by unfold AG; kernel_rfl
theorem fd147_0 : FD Tryz.prog 147 0 0 := by unfold FD; kernel_rfl
theorem fd147_1 : FD Tryz.prog 147 1 2 := by unfold FD; kernel_rfl
theorem fd142_2 : FD Tryz.prog 142 2 3 := by unfold FD; kernel_rfl
theorem fd147_2 : FD Tryz.prog 147 2 3 := by unfold FD; kernel_rfl
theorem ag147 : AG Tryz.prog 147 true := by unfold AG; kernel_rfl
theorem mk147 {a : Stored} {v0 v1 : Sv} {F0 F1 : List Nat} : Mk ow147 (F0 ++ F1) (.agg [(.int .i64 a.Access.Method), v0.v, v1.v, (.int .i64 a.At)].toArray) a [cown (OwnS 3 (roE rdInt)) F0 v0.v a.Access.Values, cown (OwnS 80 ow80) F1 v1.v a.Facts] :=
  ⟨fun H h => ⟨v0, v1, F0, F1, rfl, rfl, h (cown (OwnS 3 (roE rdInt)) F0 v0.v a.Access.Values) (by simp), h (cown (OwnS 80 ow80) F1 v1.v a.Facts) (by simp)⟩, by simp [cown]⟩
theorem fd44_0 : FD Tryz.prog 44 0 0 := by unfold FD; kernel_rfl
theorem ty42 : TY Tryz.prog 42 1 24 (.slice none 0 0) := by unfold TY; kernel_rfl
theorem fd30_1 : FD Tryz.prog 30 1 1 := by unfold FD; kernel_rfl
theorem fd44_1 : FD Tryz.prog 44 1 1 := by unfold FD; kernel_rfl
theorem ag44 : AG Tryz.prog 44 true := by unfold AG; kernel_rfl
theorem fd47_4 : FD Tryz.prog 47 4 5 := by unfold FD; kernel_rfl
theorem fd34_5 : FD Tryz.prog 34 5 7 := by unfold FD; kernel_rfl
theorem fd47_5 : FD Tryz.prog 47 5 7 := by unfold FD; kernel_rfl
theorem cf26 : CF Tryz.prog 26 := fun _ _ => Tryz.call26 _ _
theorem sl45 : SL Tryz.prog 45 105 := by unfold SL; kernel_rfl
def rd105 (H : AHeap) (v : Value) (a : Access) : Prop := ∃ v0 : Sv, v = .agg [(.int .i64 a.Method), v0.v].toArray ∧ (RdS 3 rdInt) H v0.v a.Values
instance : Mono rd105 := ⟨fun h hi => by
  obtain ⟨v0, h, h0⟩ := h
  exact ⟨v0, h, Mono.up h0 hi⟩⟩
instance : Cells rd105 2 := ⟨fun h => by
  obtain ⟨v0, rfl, h0⟩ := h
  exact ⟨rfl, rfl⟩⟩
def ow105 : ORel Access := fun F H v a => ∃ (v0 : Sv) (F0 : List Nat), v = .agg [(.int .i64 a.Method), v0.v].toArray ∧ F0 = F ∧ (OwnS 3 (roE rdInt)) F0 H v0.v a.Values
instance : Keep ow105 := ⟨fun h hi hg => by
  obtain ⟨v0, F0, rfl, rfl, h0⟩ := h
  exact ⟨v0, F0, rfl, rfl, Keep.keep h0 hi (fun k hk => hg k (by simp [hk]))⟩⟩
instance : Local ow105 := ⟨fun h hg => by
  obtain ⟨v0, F0, rfl, rfl, h0⟩ := h
  exact ⟨v0, F0, rfl, rfl, Local.keep h0 (fun k hk => hg k (by simp [hk]))⟩⟩
instance : Owns ow105 := ⟨fun h k hk => by
  obtain ⟨v0, F0, rfl, rfl, h0⟩ := h
  exact Owns.owns h0 k hk
⟩
instance : OCells ow105 2 := ⟨fun h => by
  obtain ⟨v0, F0, rfl, rfl, h0⟩ := h
  exact ⟨rfl, rfl⟩⟩
instance : Frz ow105 rd105 := ⟨fun h hg => by
  obtain ⟨v0, F0, rfl, rfl, h0⟩ := h
  exact ⟨v0, rfl, Frz.frz h0 (fun k hk => hg k (by simp [hk]))⟩⟩
theorem mk105 {a : Access} {v0 : Sv} {F0 : List Nat} : Mk ow105 F0 (.agg [(.int .i64 a.Method), v0.v].toArray) a [cown (OwnS 3 (roE rdInt)) F0 v0.v a.Values] :=
  ⟨fun H h => ⟨v0, F0, rfl, rfl, h (cown (OwnS 3 (roE rdInt)) F0 v0.v a.Values) (by simp)⟩, by simp [cown]⟩
theorem fd47_6 : FD Tryz.prog 47 6 8 := by unfold FD; kernel_rfl
theorem ty45 : TY Tryz.prog 45 1 24 (.slice none 0 0) := by unfold TY; kernel_rfl
theorem fd47_7 : FD Tryz.prog 47 7 9 := by unfold FD; kernel_rfl
theorem fd34_8 : FD Tryz.prog 34 8 10 := by unfold FD; kernel_rfl
theorem fd47_8 : FD Tryz.prog 47 8 10 := by unfold FD; kernel_rfl
theorem cf27 : CF Tryz.prog 27 := fun _ _ => Tryz.call27 _ _
theorem cf66 : CF Tryz.prog 66 := fun _ _ => Tryz.call66 _ _
theorem fd47_9 : FD Tryz.prog 47 9 11 := by unfold FD; kernel_rfl
theorem ty32 : TY Tryz.prog 32 1 24 (.slice none 0 0) := by unfold TY; kernel_rfl
theorem ag47 : AG Tryz.prog 47 true := by unfold AG; kernel_rfl
theorem cf10 : CF Tryz.prog 10 := fun _ _ => Tryz.call10 _ _
theorem mixed : Tryz.prog.follows .mixedOrders = true := by kernel_rfl
theorem cf38 : CF Tryz.prog 38 := fun _ _ => Tryz.call38 _ _
theorem ag39 : AG Tryz.prog 39 false := by unfold AG; kernel_rfl
theorem cf19 : CF Tryz.prog 19 := fun _ _ => Tryz.call19 _ _
theorem cf53 : CF Tryz.prog 53 := fun _ _ => Tryz.call53 _ _
theorem cf59 : CF Tryz.prog 59 := fun _ _ => Tryz.call59 _ _
theorem ag37 : AG Tryz.prog 37 false := by unfold AG; kernel_rfl
theorem cf54 : CF Tryz.prog 54 := fun _ _ => Tryz.call54 _ _
def ul108_0_108 (a : Method) (p : Sv) : List Value := [(.int .i64 a.Rel), p.v, (.int .i64 a.Limit), (.int .i64 a.Cost), (.int .i64 a.Quota)]
theorem la108_0_108 {a : Method} : ∀ H e, rd108 H e a → ∃ i : Sv, 0 + 5 ≤ e.cells.size ∧ (e.cells.toList.drop 0).take 5 = ul108_0_108 a i ∧ ∀ c ∈ ([crd (RdS 3 rdInt) i.v a.Inputs] : List Comp), c.P H ∧ c.F = [] := by
  intro H e h
  obtain ⟨v0, rfl, h0⟩ := h
  refine ⟨v0, Nat.le_of_ble_eq_true rfl, rfl, fun c hc => by
    simp only [List.mem_cons, List.not_mem_nil, or_false] at hc
    rcases hc with rfl
    · exact ⟨h0, rfl⟩
⟩
theorem cf95 : CF Tryz.prog 95 := fun _ _ => Tryz.call95 _ _
theorem ag38 : AG Tryz.prog 38 false := by unfold AG; kernel_rfl
theorem cf55 : CF Tryz.prog 55 := fun _ _ => Tryz.call55 _ _
def ul110_0_110 (a : Rule) (p : Sv) : List Value := [(.int .i64 a.From), (.int .i64 a.To), p.v]
theorem la110_0_110 {a : Rule} : ∀ H e, rd110 H e a → ∃ i : Sv, 0 + 3 ≤ e.cells.size ∧ (e.cells.toList.drop 0).take 3 = ul110_0_110 a i ∧ ∀ c ∈ ([crd (RdS 3 rdInt) i.v a.Map] : List Comp), c.P H ∧ c.F = [] := by
  intro H e h
  obtain ⟨v0, rfl, h0⟩ := h
  refine ⟨v0, Nat.le_of_ble_eq_true rfl, rfl, fun c hc => by
    simp only [List.mem_cons, List.not_mem_nil, or_false] at hc
    rcases hc with rfl
    · exact ⟨h0, rfl⟩
⟩
theorem cf96 : CF Tryz.prog 96 := fun _ _ => Tryz.call96 _ _
theorem cf56 : CF Tryz.prog 56 := fun _ _ => Tryz.call56 _ _
theorem cf97 : CF Tryz.prog 97 := fun _ _ => Tryz.call97 _ _
def ul80_0_80 (a : Fact) (p : Sv) : List Value := [(.int .i64 a.Rel), p.v]
theorem la80_0_80 {a : Fact} : ∀ H e, rd80 H e a → ∃ i : Sv, 0 + 2 ≤ e.cells.size ∧ (e.cells.toList.drop 0).take 2 = ul80_0_80 a i ∧ ∀ c ∈ ([crd (RdS 3 rdInt) i.v a.Values] : List Comp), c.P H ∧ c.F = [] := by
  intro H e h
  obtain ⟨v0, rfl, h0⟩ := h
  refine ⟨v0, Nat.le_of_ble_eq_true rfl, rfl, fun c hc => by
    simp only [List.mem_cons, List.not_mem_nil, or_false] at hc
    rcases hc with rfl
    · exact ⟨h0, rfl⟩
⟩
theorem cf125 : CF Tryz.prog 125 := fun _ _ => Tryz.call125 _ _
theorem cf126 : CF Tryz.prog 126 := fun _ _ => Tryz.call126 _ _
theorem cf57 : CF Tryz.prog 57 := fun _ _ => Tryz.call57 _ _
theorem ag42 : AG Tryz.prog 42 false := by unfold AG; kernel_rfl
def ul147_0_147 (a : Stored) (p : Sv × Sv) : List Value := [(.int .i64 a.Access.Method), p.1.v, p.2.v, (.int .i64 a.At)]
theorem la147_0_147 {a : Stored} : ∀ H e, rd147 H e a → ∃ i : Sv × Sv, 0 + 4 ≤ e.cells.size ∧ (e.cells.toList.drop 0).take 4 = ul147_0_147 a i ∧ ∀ c ∈ ([crd (RdS 3 rdInt) i.1.v a.Access.Values, crd (RdS 80 rd80) i.2.v a.Facts] : List Comp), c.P H ∧ c.F = [] := by
  intro H e h
  obtain ⟨v0, v1, rfl, h0, h1⟩ := h
  refine ⟨(v0, v1), Nat.le_of_ble_eq_true rfl, rfl, fun c hc => by
    simp only [List.mem_cons, List.not_mem_nil, or_false] at hc
    rcases hc with rfl | rfl
    · exact ⟨h0, rfl⟩
    · exact ⟨h1, rfl⟩
⟩
theorem cf58 : CF Tryz.prog 58 := fun _ _ => Tryz.call58 _ _
theorem lv108_1 {a : Method} : ∀ H e, rd108 H e a → ∃ w : Sv, e.cells.toList[1]? = some w.v ∧ (RdS 3 rdInt) H w.v a.Inputs := by
  intro H e h
  obtain ⟨v0, rfl, h0⟩ := h
  exact ⟨v0, rfl, h0⟩
def ul147_0_105 (a : Stored) (p : Sv) : List Value := [(.int .i64 a.Access.Method), p.v]
theorem la147_0_105 {a : Stored} : ∀ H e, rd147 H e a → ∃ i : Sv, 0 + 2 ≤ e.cells.size ∧ (e.cells.toList.drop 0).take 2 = ul147_0_105 a i ∧ ∀ c ∈ ([crd (RdS 3 rdInt) i.v a.Access.Values] : List Comp), c.P H ∧ c.F = [] := by
  intro H e h
  obtain ⟨v0, v1, rfl, h0, h1⟩ := h
  refine ⟨v0, Nat.le_of_ble_eq_true rfl, rfl, fun c hc => by
    simp only [List.mem_cons, List.not_mem_nil, or_false] at hc
    rcases hc with rfl
    · exact ⟨h0, rfl⟩
⟩
theorem cf98 : CF Tryz.prog 98 := fun _ _ => Tryz.call98 _ _
theorem cf127 : CF Tryz.prog 127 := fun _ _ => Tryz.call127 _ _
theorem cf99 : CF Tryz.prog 99 := fun _ _ => Tryz.call99 _ _
theorem ag45 : AG Tryz.prog 45 false := by unfold AG; kernel_rfl
theorem cf60 : CF Tryz.prog 60 := fun _ _ => Tryz.call60 _ _
def ul105_0_105 (a : Access) (p : Sv) : List Value := [(.int .i64 a.Method), p.v]
theorem la105_0_105 {a : Access} : ∀ H e, rd105 H e a → ∃ i : Sv, 0 + 2 ≤ e.cells.size ∧ (e.cells.toList.drop 0).take 2 = ul105_0_105 a i ∧ ∀ c ∈ ([crd (RdS 3 rdInt) i.v a.Values] : List Comp), c.P H ∧ c.F = [] := by
  intro H e h
  obtain ⟨v0, rfl, h0⟩ := h
  refine ⟨v0, Nat.le_of_ble_eq_true rfl, rfl, fun c hc => by
    simp only [List.mem_cons, List.not_mem_nil, or_false] at hc
    rcases hc with rfl
    · exact ⟨h0, rfl⟩
⟩
theorem cf39 : CF Tryz.prog 39 := fun _ _ => Tryz.call39 _ _
theorem cf20 : CF Tryz.prog 20 := fun _ _ => Tryz.call20 _ _
theorem ik3 : IK Tryz.prog 3 .i64 := by unfold IK; kernel_rfl
theorem ik5 : IK Tryz.prog 5 .u8 := by unfold IK; kernel_rfl
theorem sl107 : SL Tryz.prog 107 5 := by unfold SL; kernel_rfl
theorem ty5 : TY Tryz.prog 5 1 1 (.int .u8 0) := by unfold TY; kernel_rfl
theorem str9 : Tryz.prog.underlying 9 = some .string := by kernel_rfl
theorem cf87 : CF Tryz.prog 87 := fun _ _ => Tryz.call87 _ _
theorem st9 : Fw.ST Tryz.prog 9 := by unfold Fw.ST; kernel_rfl
theorem cf40 : CF Tryz.prog 40 := fun _ _ => Tryz.call40 _ _
theorem cf88 : CF Tryz.prog 88 := fun _ _ => Tryz.call88 _ _
theorem cf121 : CF Tryz.prog 121 := fun _ _ => Tryz.call121 _ _
theorem cf41 : CF Tryz.prog 41 := fun _ _ => Tryz.call41 _ _
theorem cf11 : CF Tryz.prog 11 := fun _ _ => Tryz.call11 _ _
theorem cf28 : CF Tryz.prog 28 := fun _ _ => Tryz.call28 _ _
theorem cf67 : CF Tryz.prog 67 := fun _ _ => Tryz.call67 _ _
theorem cf102 : CF Tryz.prog 102 := fun _ _ => Tryz.call102 _ _
theorem cf76 : CF Tryz.prog 76 := fun _ _ => Tryz.call76 _ _
theorem cf114 : CF Tryz.prog 114 := fun _ _ => Tryz.call114 _ _
theorem cf141 : CF Tryz.prog 141 := fun _ _ => Tryz.call141 _ _
theorem cf128 : CF Tryz.prog 128 := fun _ _ => Tryz.call128 _ _
theorem cf103 : CF Tryz.prog 103 := fun _ _ => Tryz.call103 _ _
theorem cf129 : CF Tryz.prog 129 := fun _ _ => Tryz.call129 _ _
theorem cf104 : CF Tryz.prog 104 := fun _ _ => Tryz.call104 _ _
theorem cf105 : CF Tryz.prog 105 := fun _ _ => Tryz.call105 _ _
theorem cf130 : CF Tryz.prog 130 := fun _ _ => Tryz.call130 _ _
theorem cf131 : CF Tryz.prog 131 := fun _ _ => Tryz.call131 _ _
theorem cf145 : CF Tryz.prog 145 := fun _ _ => Tryz.call145 _ _
theorem cf146 : CF Tryz.prog 146 := fun _ _ => Tryz.call146 _ _
theorem cf147 : CF Tryz.prog 147 := fun _ _ => Tryz.call147 _ _
theorem cf68 : CF Tryz.prog 68 := fun _ _ => Tryz.call68 _ _
theorem cf106 : CF Tryz.prog 106 := fun _ _ => Tryz.call106 _ _
theorem cf132 : CF Tryz.prog 132 := fun _ _ => Tryz.call132 _ _
theorem cf107 : CF Tryz.prog 107 := fun _ _ => Tryz.call107 _ _
theorem cf108 : CF Tryz.prog 108 := fun _ _ => Tryz.call108 _ _
theorem cf133 : CF Tryz.prog 133 := fun _ _ => Tryz.call133 _ _
theorem cf148 : CF Tryz.prog 148 := fun _ _ => Tryz.call148 _ _
theorem cf69 : CF Tryz.prog 69 := fun _ _ => Tryz.call69 _ _
theorem cf109 : CF Tryz.prog 109 := fun _ _ => Tryz.call109 _ _
theorem cf134 : CF Tryz.prog 134 := fun _ _ => Tryz.call134 _ _
theorem cf90 : CF Tryz.prog 90 := fun _ _ => Tryz.call90 _ _
theorem cf122 : CF Tryz.prog 122 := fun _ _ => Tryz.call122 _ _
theorem cf123 : CF Tryz.prog 123 := fun _ _ => Tryz.call123 _ _
theorem cf135 : CF Tryz.prog 135 := fun _ _ => Tryz.call135 _ _
theorem cf138 : CF Tryz.prog 138 := fun _ _ => Tryz.call138 _ _
theorem cf152 : CF Tryz.prog 152 := fun _ _ => Tryz.call152 _ _
theorem cf139 : CF Tryz.prog 139 := fun _ _ => Tryz.call139 _ _
theorem cf137 : CF Tryz.prog 137 := fun _ _ => Tryz.call137 _ _
theorem cf70 : CF Tryz.prog 70 := fun _ _ => Tryz.call70 _ _
theorem cf110 : CF Tryz.prog 110 := fun _ _ => Tryz.call110 _ _
theorem cf74 : CF Tryz.prog 74 := fun _ _ => Tryz.call74 _ _
theorem cf136 : CF Tryz.prog 136 := fun _ _ => Tryz.call136 _ _
theorem cf150 : CF Tryz.prog 150 := fun _ _ => Tryz.call150 _ _
theorem cf158 : CF Tryz.prog 158 := fun _ _ => Tryz.call158 _ _
theorem cf164 : CF Tryz.prog 164 := fun _ _ => Tryz.call164 _ _
theorem ni22 : NotInt Tryz.prog 22 := .inr ⟨3, by kernel_rfl⟩
theorem ni39 : NotInt Tryz.prog 39 := .inr ⟨80, by kernel_rfl⟩
theorem cf149 : CF Tryz.prog 149 := fun _ _ => Tryz.call149 _ _
theorem cf151 : CF Tryz.prog 151 := fun _ _ => Tryz.call151 _ _
theorem cf157 : CF Tryz.prog 157 := fun _ _ => Tryz.call157 _ _
theorem cf71 : CF Tryz.prog 71 := fun _ _ => Tryz.call71 _ _
theorem cf111 : CF Tryz.prog 111 := fun _ _ => Tryz.call111 _ _
theorem cf72 : CF Tryz.prog 72 := fun _ _ => Tryz.call72 _ _
theorem cf112 : CF Tryz.prog 112 := fun _ _ => Tryz.call112 _ _
theorem cf73 : CF Tryz.prog 73 := fun _ _ => Tryz.call73 _ _
theorem cf75 : CF Tryz.prog 75 := fun _ _ => Tryz.call75 _ _
theorem cf113 : CF Tryz.prog 113 := fun _ _ => Tryz.call113 _ _
theorem cf140 : CF Tryz.prog 140 := fun _ _ => Tryz.call140 _ _
theorem cf115 : CF Tryz.prog 115 := fun _ _ => Tryz.call115 _ _
theorem ty84 : TY Tryz.prog 84 1 8 (.int .i64 0) := by unfold TY; kernel_rfl
theorem cf42 : CF Tryz.prog 42 := fun _ _ => Tryz.call42 _ _
theorem ag84 : AG Tryz.prog 84 false := by unfold AG; kernel_rfl
theorem cf45 : CF Tryz.prog 45 := fun _ _ => Tryz.call45 _ _
theorem cf92 : CF Tryz.prog 92 := fun _ _ => Tryz.call92 _ _
theorem sl68 : SL Tryz.prog 68 9 := by unfold SL; kernel_rfl
theorem ty9 : TY Tryz.prog 9 1 16 (.string ⟨[].toArray⟩) := by unfold TY; kernel_rfl
theorem cf30 : CF Tryz.prog 30 := fun _ _ => Tryz.call30 _ _
def lays156_ren : Go.Shelf.Ren := ⟨fun | 156 => 30 | 165 => 78 | 166 => 79 | 169 => 80 | 240 => 117 | 241 => 118 | 276 => 143 | 277 => 144 | n => n, fun | 31 => 68 | 9 => 9 | 3 => 3 | 4 => 4 | 0 => 0 | 20 => 20 | 72 => 121 | 76 => 125 | 70 => 119 | 37 => 107 | 75 => 124 | 127 => 159 | 164 => 174 | 5 => 5 | 80 => 127 | n => n, fun | n => n⟩
theorem lays156 : Go.Proofs.Lays.n156 Tryz.prog lays156_ren := {
  mixed := by kernel_rfl
  f156 := Tryz.func30.trans (congrArg some (by kernel_rfl))
  f165 := Tryz.func78.trans (congrArg some (by kernel_rfl))
  f166 := Tryz.func79.trans (congrArg some (by kernel_rfl))
  f169 := Tryz.func80.trans (congrArg some (by kernel_rfl))
  f240 := Tryz.func117.trans (congrArg some (by kernel_rfl))
  f241 := Tryz.func118.trans (congrArg some (by kernel_rfl))
  f276 := Tryz.func143.trans (congrArg some (by kernel_rfl))
  f277 := Tryz.func144.trans (congrArg some (by kernel_rfl))
  t0 := Tryz.underlying0
  a0 := Tryz.isAgg0
  z0 := Tryz.sizeOf0
  v0 := Tryz.zeroValue0
  t3 := Tryz.underlying3
  a3 := Tryz.isAgg3
  z3 := Tryz.sizeOf3
  v3 := Tryz.zeroValue3
  t4 := Tryz.underlying4
  a4 := Tryz.isAgg4
  z4 := Tryz.sizeOf4
  v4 := Tryz.zeroValue4
  t9 := Tryz.underlying9
  a9 := Tryz.isAgg9
  z9 := Tryz.sizeOf9
  v9 := Tryz.zeroValue9
  t20 := Tryz.underlying20
  a20 := Tryz.isAgg20
  z20 := Tryz.sizeOf20
  v20 := Tryz.zeroValue20
  t31 := Tryz.underlying68
  a31 := Tryz.isAgg68
  z31 := Tryz.sizeOf68
  v31 := Tryz.zeroValue68
  t37 := Tryz.underlying107
  a37 := Tryz.isAgg107
  z37 := Tryz.sizeOf107
  v37 := Tryz.zeroValue107
  t70 := Tryz.underlying119
  a70 := Tryz.isAgg119
  z70 := Tryz.sizeOf119
  v70 := Tryz.zeroValue119
  t72 := Tryz.underlying121
  a72 := Tryz.isAgg121
  z72 := Tryz.sizeOf121
  v72 := Tryz.zeroValue121
  t75 := Tryz.underlying124
  a75 := Tryz.isAgg124
  z75 := Tryz.sizeOf124
  v75 := Tryz.zeroValue124
  t76 := Tryz.underlying125
  a76 := Tryz.isAgg125
  z76 := Tryz.sizeOf125
  v76 := Tryz.zeroValue125
  t127 := Tryz.underlying159
  a127 := Tryz.isAgg159
  z127 := Tryz.sizeOf159
  v127 := Tryz.zeroValue159
  t164 := Tryz.underlying174
  a164 := Tryz.isAgg174
  z164 := Tryz.sizeOf174
  v164 := Tryz.zeroValue174 }
theorem extra : Go.Proofs.Builder.Extra Tryz.prog lays156_ren := {
  sizeBuilder := by kernel_rfl
  liesBuilder := by kernel_rfl
  t5 := Tryz.underlying5
  a5 := Tryz.isAgg5
  z5 := Tryz.sizeOf5
  v5 := Tryz.zeroValue5
  infoByte := by kernel_rfl
  cellsByte := by kernel_rfl
  sizeByte := by kernel_rfl
  neB5 := by decide }
theorem cf124 : CF Tryz.prog 124 := fun _ _ => Tryz.call124 _ _
theorem cf29 : CF Tryz.prog 29 := fun _ _ => Tryz.call29 _ _
theorem cf77 : CF Tryz.prog 77 := fun _ _ => Tryz.call77 _ _
def laysM171_ren : Go.Shelf.Ren := ⟨fun | 171 => 77 | 243 => 116 | 246 => 142 | 283 => 153 | 284 => 154 | 285 => 155 | 286 => 156 | 129 => 160 | 317 => 159 | 318 => 161 | 319 => 162 | 320 => 163 | 337 => 165 | 338 => 166 | n => n, fun | 3 => 3 | 9 => 9 | 2 => 2 | 4 => 4 | 171 => 180 | 0 => 0 | 53 => 181 | 37 => 107 | 5 => 5 | 173 => 184 | 212 => 190 | 51 => 191 | 20 => 20 | 213 => 192 | 46 => 193 | 232 => 196 | 233 => 197 | n => n, fun | 17 => 1 | 18 => 2 | 19 => 3 | n => n⟩
theorem laysM171 : Go.Proofs.LaysM.n171 Tryz.prog laysM171_ren := {
  mixed := by kernel_rfl
  f129 := Tryz.func160.trans (congrArg some (by kernel_rfl))
  f171 := Tryz.func77.trans (congrArg some (by kernel_rfl))
  f243 := Tryz.func116.trans (congrArg some (by kernel_rfl))
  f246 := Tryz.func142.trans (congrArg some (by kernel_rfl))
  f283 := Tryz.func153.trans (congrArg some (by kernel_rfl))
  f284 := Tryz.func154.trans (congrArg some (by kernel_rfl))
  f285 := Tryz.func155.trans (congrArg some (by kernel_rfl))
  f286 := Tryz.func156.trans (congrArg some (by kernel_rfl))
  f317 := Tryz.func159.trans (congrArg some (by kernel_rfl))
  f318 := Tryz.func161.trans (congrArg some (by kernel_rfl))
  f319 := Tryz.func162.trans (congrArg some (by kernel_rfl))
  f320 := Tryz.func163.trans (congrArg some (by kernel_rfl))
  f337 := Tryz.func165.trans (congrArg some (by kernel_rfl))
  f338 := Tryz.func166.trans (congrArg some (by kernel_rfl))
  t0 := Tryz.underlying0
  a0 := Tryz.isAgg0
  z0 := Tryz.sizeOf0
  v0 := Tryz.zeroValue0
  t2 := Tryz.underlying2
  a2 := Tryz.isAgg2
  z2 := Tryz.sizeOf2
  v2 := Tryz.zeroValue2
  t3 := Tryz.underlying3
  a3 := Tryz.isAgg3
  z3 := Tryz.sizeOf3
  v3 := Tryz.zeroValue3
  t4 := Tryz.underlying4
  a4 := Tryz.isAgg4
  z4 := Tryz.sizeOf4
  v4 := Tryz.zeroValue4
  t5 := Tryz.underlying5
  a5 := Tryz.isAgg5
  z5 := Tryz.sizeOf5
  v5 := Tryz.zeroValue5
  t9 := Tryz.underlying9
  a9 := Tryz.isAgg9
  z9 := Tryz.sizeOf9
  v9 := Tryz.zeroValue9
  t20 := Tryz.underlying20
  a20 := Tryz.isAgg20
  z20 := Tryz.sizeOf20
  v20 := Tryz.zeroValue20
  t37 := Tryz.underlying107
  a37 := Tryz.isAgg107
  z37 := Tryz.sizeOf107
  v37 := Tryz.zeroValue107
  t46 := Tryz.underlying193
  a46 := Tryz.isAgg193
  z46 := Tryz.sizeOf193
  v46 := Tryz.zeroValue193
  t51 := Tryz.underlying191
  a51 := Tryz.isAgg191
  z51 := Tryz.sizeOf191
  v51 := Tryz.zeroValue191
  t53 := Tryz.underlying181
  a53 := Tryz.isAgg181
  z53 := Tryz.sizeOf181
  v53 := Tryz.zeroValue181
  t171 := Tryz.underlying180
  a171 := Tryz.isAgg180
  z171 := Tryz.sizeOf180
  v171 := Tryz.zeroValue180
  t173 := Tryz.underlying184
  a173 := Tryz.isAgg184
  z173 := Tryz.sizeOf184
  v173 := Tryz.zeroValue184
  t212 := Tryz.underlying190
  a212 := Tryz.isAgg190
  z212 := Tryz.sizeOf190
  v212 := Tryz.zeroValue190
  t213 := Tryz.underlying192
  a213 := Tryz.isAgg192
  z213 := Tryz.sizeOf192
  t232 := Tryz.underlying196
  a232 := Tryz.isAgg196
  z232 := Tryz.sizeOf196
  v232 := Tryz.zeroValue196
  t233 := Tryz.underlying197
  a233 := Tryz.isAgg197
  z233 := Tryz.sizeOf197
  v233 := Tryz.zeroValue197
  g17 := by kernel_rfl
  g18 := by kernel_rfl
  g19 := by kernel_rfl
  i0 := by kernel_rfl
  i2 := by kernel_rfl
  i3 := by kernel_rfl
  i4 := by kernel_rfl
  i5 := by kernel_rfl
  i9 := by kernel_rfl
  i20 := by kernel_rfl
  i37 := by kernel_rfl
  i46 := by kernel_rfl
  i51 := by kernel_rfl
  i53 := by kernel_rfl
  i171 := by kernel_rfl
  i173 := by kernel_rfl
  i212 := by kernel_rfl
  i232 := by kernel_rfl
  i233 := by kernel_rfl
  m17 := by kernel_rfl
  m18 := by kernel_rfl
  m19 := by kernel_rfl }
theorem cf91 : CF Tryz.prog 91 := fun _ _ => Tryz.call91 _ _
theorem ni68 : NotInt Tryz.prog 68 := .inr ⟨9, by kernel_rfl⟩
theorem cf46 : CF Tryz.prog 46 := fun _ _ => Tryz.call46 _ _
theorem cf43 : CF Tryz.prog 43 := fun _ _ => Tryz.call43 _ _
theorem cf44 : CF Tryz.prog 44 := fun _ _ => Tryz.call44 _ _
theorem cf89 : CF Tryz.prog 89 := fun _ _ => Tryz.call89 _ _
theorem cf9 : CF Tryz.prog 9 := fun _ _ => Tryz.call9 _ _
theorem cf31 : CF Tryz.prog 31 := fun _ _ => Tryz.call31 _ _
theorem cf32 : CF Tryz.prog 32 := fun _ _ => Tryz.call32 _ _
theorem cf81 : CF Tryz.prog 81 := fun _ _ => Tryz.call81 _ _
theorem cf33 : CF Tryz.prog 33 := fun _ _ => Tryz.call33 _ _
theorem cf82 : CF Tryz.prog 82 := fun _ _ => Tryz.call82 _ _
theorem cf34 : CF Tryz.prog 34 := fun _ _ => Tryz.call34 _ _
theorem cf83 : CF Tryz.prog 83 := fun _ _ => Tryz.call83 _ _
theorem cf119 : CF Tryz.prog 119 := fun _ _ => Tryz.call119 _ _
theorem cf35 : CF Tryz.prog 35 := fun _ _ => Tryz.call35 _ _
theorem cf84 : CF Tryz.prog 84 := fun _ _ => Tryz.call84 _ _
theorem cf120 : CF Tryz.prog 120 := fun _ _ => Tryz.call120 _ _
theorem cf85 : CF Tryz.prog 85 := fun _ _ => Tryz.call85 _ _
theorem cf36 : CF Tryz.prog 36 := fun _ _ => Tryz.call36 _ _
theorem cf37 : CF Tryz.prog 37 := fun _ _ => Tryz.call37 _ _
theorem cf86 : CF Tryz.prog 86 := fun _ _ => Tryz.call86 _ _
def rd34 (H : AHeap) (v : Value) (a : Mediator) : Prop := ∃ v0 v1 v2 v3 v4 v5 v6 v7 : Sv, v = .agg [v0.v, v1.v, v2.v, v3.v, (.int .i64 a.Source.Version), v4.v, (.int .i64 a.Cache.Age), (.int .i64 a.Now), v5.v, v6.v, (.int .i64 a.Spent), v7.v].toArray ∧ (RdS 3 rdInt) H v0.v a.Schema ∧ (RdS 89 rd89) H v1.v a.Methods ∧ (RdS 92 rd92) H v2.v a.Rules ∧ (RdS 139 rd139) H v3.v a.Source.Facts ∧ (RdS 142 rd142) H v4.v a.Cache.Entries ∧ (RdS 97 rd97) H v5.v a.Log ∧ (RdS 3 rdInt) H v6.v a.Times ∧ (RdS 83 (RdS 22 (RdS 3 rdInt))) H v7.v a.Results
instance : Mono rd34 := ⟨fun h hi => by
  obtain ⟨v0, v1, v2, v3, v4, v5, v6, v7, h, h0, h1, h2, h3, h4, h5, h6, h7⟩ := h
  exact ⟨v0, v1, v2, v3, v4, v5, v6, v7, h, Mono.up h0 hi, Mono.up h1 hi, Mono.up h2 hi, Mono.up h3 hi, Mono.up h4 hi, Mono.up h5 hi, Mono.up h6 hi, Mono.up h7 hi⟩⟩
instance : Cells rd34 12 := ⟨fun h => by
  obtain ⟨v0, v1, v2, v3, v4, v5, v6, v7, rfl, h0, h1, h2, h3, h4, h5, h6, h7⟩ := h
  exact ⟨rfl, rfl⟩⟩
theorem fa89_0 : fieldAt Tryz.prog 89 0 = some (3, 0, 1) := by kernel_rfl
theorem fa89_1 : fieldAt Tryz.prog 89 1 = some (22, 1, 1) := by kernel_rfl
theorem fa89_2 : fieldAt Tryz.prog 89 2 = some (3, 2, 1) := by kernel_rfl
theorem fa89_3 : fieldAt Tryz.prog 89 3 = some (3, 3, 1) := by kernel_rfl
theorem fa89_4 : fieldAt Tryz.prog 89 4 = some (3, 4, 1) := by kernel_rfl
def wf89 (a : Method) : Prop := wfInt a.Rel ∧ (wfSl wfInt) a.Inputs ∧ wfInt a.Limit ∧ wfInt a.Cost ∧ wfInt a.Quota
theorem sh89 : ∀ H v a, rd89 H v a → isAgV v = aggT Tryz.prog 89 := by
  intro H v a h
  obtain ⟨v1, rfl, _⟩ := h
  kernel_rfl
theorem op89 : Opn Tryz.prog 89 rd89 wf89 := by
  intro T enc w fuel cs x h hw ρ H hr hF
  have hl := opn_len fa89_0 h (n := 5) ty89.sz.cells
  obtain ⟨ρ0, H0, av0, a0, r0, f0, u0, i0, v0, q0, w0⟩ := opn_field fa89_0 h hw (Opn.int (by kernel_rfl)) hr hF
  obtain ⟨ρ1, H1, av1, a1, r1, f1, u1, i1, v1, q1, w1⟩ := opn_field fa89_1 h hw (Opn.slice (s := 1) (by kernel_rfl) (by kernel_rfl) (by decide) (Nat.lt_of_lt_of_le (by decide) (Nat.le_of_eq (show 8 = _ from by kernel_rfl))) (Opn.int (by kernel_rfl))) r0 f0
  obtain ⟨ρ2, H2, av2, a2, r2, f2, u2, i2, v2, q2, w2⟩ := opn_field fa89_2 h hw (Opn.int (by kernel_rfl)) r1 f1
  obtain ⟨ρ3, H3, av3, a3, r3, f3, u3, i3, v3, q3, w3⟩ := opn_field fa89_3 h hw (Opn.int (by kernel_rfl)) r2 f2
  obtain ⟨ρ4, H4, av4, a4, r4, f4, u4, i4, v4, q4, w4⟩ := opn_field fa89_4 h hw (Opn.int (by kernel_rfl)) r3 f3
  obtain rfl : av0 = (.int .i64 a0) := q0
  replace v0 := v0.up (((u1.trans u2).trans u3).trans u4)
  obtain ⟨sa1, sm1, rfl⟩ := RdS.len q1
  replace v1 := v1.one rfl
  replace v1 := v1.up ((u2.trans u3).trans u4)
  obtain rfl : av2 = (.int .i64 a2) := q2
  replace v2 := v2.up (u3.trans u4)
  obtain rfl : av3 = (.int .i64 a3) := q3
  replace v3 := v3.up u4
  obtain rfl : av4 = (.int .i64 a4) := q4
  have hv := RelVs.field (o := 0) v0 (RelVs.field (o := 1) v1 (RelVs.field (o := 2) v2 (RelVs.field (o := 3) v3 (RelVs.field (o := 4) v4 (RelVs.end hl)))))
  rw [List.drop_zero] at hv
  refine ⟨ρ4, H4, (.agg [(.int .i64 a0), (.slice sa1 a1.length sm1), (.int .i64 a2), (.int .i64 a3), (.int .i64 a4)].toArray : Value), ({ Rel := a0, Inputs := a1, Limit := a2, Cost := a3, Quota := a4 } : Method), r4, f4, ((((u0.trans u1).trans u2).trans u3).trans u4), ((((i0.trans i1).trans i2).trans i3).trans i4), ?_, ?_, w0, w1, w2, w3, w4⟩
  · exact hv
  · exact ⟨⟨sa1, _, sm1⟩, rfl, (Mono.up q1 ((i2.trans i3).trans i4))⟩
theorem fa92_0 : fieldAt Tryz.prog 92 0 = some (3, 0, 1) := by kernel_rfl
theorem fa92_1 : fieldAt Tryz.prog 92 1 = some (3, 1, 1) := by kernel_rfl
theorem fa92_2 : fieldAt Tryz.prog 92 2 = some (22, 2, 1) := by kernel_rfl
def wf92 (a : Rule) : Prop := wfInt a.From ∧ wfInt a.To ∧ (wfSl wfInt) a.Map
theorem sh92 : ∀ H v a, rd92 H v a → isAgV v = aggT Tryz.prog 92 := by
  intro H v a h
  obtain ⟨v2, rfl, _⟩ := h
  kernel_rfl
theorem op92 : Opn Tryz.prog 92 rd92 wf92 := by
  intro T enc w fuel cs x h hw ρ H hr hF
  have hl := opn_len fa92_0 h (n := 3) ty92.sz.cells
  obtain ⟨ρ0, H0, av0, a0, r0, f0, u0, i0, v0, q0, w0⟩ := opn_field fa92_0 h hw (Opn.int (by kernel_rfl)) hr hF
  obtain ⟨ρ1, H1, av1, a1, r1, f1, u1, i1, v1, q1, w1⟩ := opn_field fa92_1 h hw (Opn.int (by kernel_rfl)) r0 f0
  obtain ⟨ρ2, H2, av2, a2, r2, f2, u2, i2, v2, q2, w2⟩ := opn_field fa92_2 h hw (Opn.slice (s := 1) (by kernel_rfl) (by kernel_rfl) (by decide) (Nat.lt_of_lt_of_le (by decide) (Nat.le_of_eq (show 8 = _ from by kernel_rfl))) (Opn.int (by kernel_rfl))) r1 f1
  obtain rfl : av0 = (.int .i64 a0) := q0
  replace v0 := v0.up (u1.trans u2)
  obtain rfl : av1 = (.int .i64 a1) := q1
  replace v1 := v1.up u2
  obtain ⟨sa2, sm2, rfl⟩ := RdS.len q2
  replace v2 := v2.one rfl
  have hv := RelVs.field (o := 0) v0 (RelVs.field (o := 1) v1 (RelVs.field (o := 2) v2 (RelVs.end hl)))
  rw [List.drop_zero] at hv
  refine ⟨ρ2, H2, (.agg [(.int .i64 a0), (.int .i64 a1), (.slice sa2 a2.length sm2)].toArray : Value), ({ From := a0, To := a1, Map := a2 } : Rule), r2, f2, ((u0.trans u1).trans u2), ((i0.trans i1).trans i2), ?_, ?_, w0, w1, w2⟩
  · exact hv
  · exact ⟨⟨sa2, _, sm2⟩, rfl, q2⟩
def rd27 (H : AHeap) (v : Value) (a : Source) : Prop := ∃ v0 : Sv, v = .agg [v0.v, (.int .i64 a.Version)].toArray ∧ (RdS 139 rd139) H v0.v a.Facts
instance : Mono rd27 := ⟨fun h hi => by
  obtain ⟨v0, h, h0⟩ := h
  exact ⟨v0, h, Mono.up h0 hi⟩⟩
instance : Cells rd27 2 := ⟨fun h => by
  obtain ⟨v0, rfl, h0⟩ := h
  exact ⟨rfl, rfl⟩⟩
theorem fa139_0 : fieldAt Tryz.prog 139 0 = some (3, 0, 1) := by kernel_rfl
theorem fa139_1 : fieldAt Tryz.prog 139 1 = some (22, 1, 1) := by kernel_rfl
def wf139 (a : Fact) : Prop := wfInt a.Rel ∧ (wfSl wfInt) a.Values
theorem sh139 : ∀ H v a, rd139 H v a → isAgV v = aggT Tryz.prog 139 := by
  intro H v a h
  obtain ⟨v1, rfl, _⟩ := h
  kernel_rfl
theorem op139 : Opn Tryz.prog 139 rd139 wf139 := by
  intro T enc w fuel cs x h hw ρ H hr hF
  have hl := opn_len fa139_0 h (n := 2) ty139.sz.cells
  obtain ⟨ρ0, H0, av0, a0, r0, f0, u0, i0, v0, q0, w0⟩ := opn_field fa139_0 h hw (Opn.int (by kernel_rfl)) hr hF
  obtain ⟨ρ1, H1, av1, a1, r1, f1, u1, i1, v1, q1, w1⟩ := opn_field fa139_1 h hw (Opn.slice (s := 1) (by kernel_rfl) (by kernel_rfl) (by decide) (Nat.lt_of_lt_of_le (by decide) (Nat.le_of_eq (show 8 = _ from by kernel_rfl))) (Opn.int (by kernel_rfl))) r0 f0
  obtain rfl : av0 = (.int .i64 a0) := q0
  replace v0 := v0.up u1
  obtain ⟨sa1, sm1, rfl⟩ := RdS.len q1
  replace v1 := v1.one rfl
  have hv := RelVs.field (o := 0) v0 (RelVs.field (o := 1) v1 (RelVs.end hl))
  rw [List.drop_zero] at hv
  refine ⟨ρ1, H1, (.agg [(.int .i64 a0), (.slice sa1 a1.length sm1)].toArray : Value), ({ Rel := a0, Values := a1 } : Fact), r1, f1, (u0.trans u1), (i0.trans i1), ?_, ?_, w0, w1⟩
  · exact hv
  · exact ⟨⟨sa1, _, sm1⟩, rfl, q1⟩
theorem fa27_0 : fieldAt Tryz.prog 27 0 = some (25, 0, 1) := by kernel_rfl
theorem fa27_1 : fieldAt Tryz.prog 27 1 = some (3, 1, 1) := by kernel_rfl
def wf27 (a : Source) : Prop := (wfSl wf139) a.Facts ∧ wfInt a.Version
theorem sh27 : ∀ H v a, rd27 H v a → isAgV v = aggT Tryz.prog 27 := by
  intro H v a h
  obtain ⟨v0, rfl, _⟩ := h
  kernel_rfl
theorem op27 : Opn Tryz.prog 27 rd27 wf27 := by
  intro T enc w fuel cs x h hw ρ H hr hF
  have hl := opn_len fa27_0 h (n := 2) ty27.sz.cells
  obtain ⟨ρ0, H0, av0, a0, r0, f0, u0, i0, v0, q0, w0⟩ := opn_field fa27_0 h hw (Opn.slice (s := 2) (by kernel_rfl) (by kernel_rfl) (by decide) (Nat.lt_of_lt_of_le (by decide) (Nat.le_of_eq (show 32 = _ from by kernel_rfl))) op139) hr hF
  obtain ⟨ρ1, H1, av1, a1, r1, f1, u1, i1, v1, q1, w1⟩ := opn_field fa27_1 h hw (Opn.int (by kernel_rfl)) r0 f0
  obtain ⟨sa0, sm0, rfl⟩ := RdS.len q0
  replace v0 := v0.one rfl
  replace v0 := v0.up u1
  obtain rfl : av1 = (.int .i64 a1) := q1
  have hv := RelVs.field (o := 0) v0 (RelVs.field (o := 1) v1 (RelVs.end hl))
  rw [List.drop_zero] at hv
  refine ⟨ρ1, H1, (.agg [(.slice sa0 a0.length sm0), (.int .i64 a1)].toArray : Value), ({ Facts := a0, Version := a1 } : Source), r1, f1, (u0.trans u1), (i0.trans i1), ?_, ?_, w0, w1⟩
  · exact hv
  · exact ⟨⟨sa0, _, sm0⟩, rfl, (Mono.up q0 i1)⟩
def rd30 (H : AHeap) (v : Value) (a : Cache) : Prop := ∃ v0 : Sv, v = .agg [v0.v, (.int .i64 a.Age)].toArray ∧ (RdS 142 rd142) H v0.v a.Entries
instance : Mono rd30 := ⟨fun h hi => by
  obtain ⟨v0, h, h0⟩ := h
  exact ⟨v0, h, Mono.up h0 hi⟩⟩
instance : Cells rd30 2 := ⟨fun h => by
  obtain ⟨v0, rfl, h0⟩ := h
  exact ⟨rfl, rfl⟩⟩
theorem fa97_0 : fieldAt Tryz.prog 97 0 = some (3, 0, 1) := by kernel_rfl
theorem fa97_1 : fieldAt Tryz.prog 97 1 = some (22, 1, 1) := by kernel_rfl
def wf97 (a : Access) : Prop := wfInt a.Method ∧ (wfSl wfInt) a.Values
theorem sh97 : ∀ H v a, rd97 H v a → isAgV v = aggT Tryz.prog 97 := by
  intro H v a h
  obtain ⟨v1, rfl, _⟩ := h
  kernel_rfl
theorem op97 : Opn Tryz.prog 97 rd97 wf97 := by
  intro T enc w fuel cs x h hw ρ H hr hF
  have hl := opn_len fa97_0 h (n := 2) ty97.sz.cells
  obtain ⟨ρ0, H0, av0, a0, r0, f0, u0, i0, v0, q0, w0⟩ := opn_field fa97_0 h hw (Opn.int (by kernel_rfl)) hr hF
  obtain ⟨ρ1, H1, av1, a1, r1, f1, u1, i1, v1, q1, w1⟩ := opn_field fa97_1 h hw (Opn.slice (s := 1) (by kernel_rfl) (by kernel_rfl) (by decide) (Nat.lt_of_lt_of_le (by decide) (Nat.le_of_eq (show 8 = _ from by kernel_rfl))) (Opn.int (by kernel_rfl))) r0 f0
  obtain rfl : av0 = (.int .i64 a0) := q0
  replace v0 := v0.up u1
  obtain ⟨sa1, sm1, rfl⟩ := RdS.len q1
  replace v1 := v1.one rfl
  have hv := RelVs.field (o := 0) v0 (RelVs.field (o := 1) v1 (RelVs.end hl))
  rw [List.drop_zero] at hv
  refine ⟨ρ1, H1, (.agg [(.int .i64 a0), (.slice sa1 a1.length sm1)].toArray : Value), ({ Method := a0, Values := a1 } : Access), r1, f1, (u0.trans u1), (i0.trans i1), ?_, ?_, w0, w1⟩
  · exact hv
  · exact ⟨⟨sa1, _, sm1⟩, rfl, q1⟩
theorem fa142_0 : fieldAt Tryz.prog 142 0 = some (97, 0, 2) := by kernel_rfl
theorem fa142_1 : fieldAt Tryz.prog 142 1 = some (25, 2, 1) := by kernel_rfl
theorem fa142_2 : fieldAt Tryz.prog 142 2 = some (3, 3, 1) := by kernel_rfl
def wf142 (a : Stored) : Prop := wf97 a.Access ∧ (wfSl wf139) a.Facts ∧ wfInt a.At
theorem sh142 : ∀ H v a, rd142 H v a → isAgV v = aggT Tryz.prog 142 := by
  intro H v a h
  obtain ⟨v1, v2, rfl, _, _⟩ := h
  kernel_rfl
theorem op142 : Opn Tryz.prog 142 rd142 wf142 := by
  intro T enc w fuel cs x h hw ρ H hr hF
  have hl := opn_len fa142_0 h (n := 4) ty142.sz.cells
  obtain ⟨ρ0, H0, av0, a0, r0, f0, u0, i0, v0, q0, w0⟩ := opn_field fa142_0 h hw op97 hr hF
  obtain ⟨ρ1, H1, av1, a1, r1, f1, u1, i1, v1, q1, w1⟩ := opn_field fa142_1 h hw (Opn.slice (s := 2) (by kernel_rfl) (by kernel_rfl) (by decide) (Nat.lt_of_lt_of_le (by decide) (Nat.le_of_eq (show 32 = _ from by kernel_rfl))) op139) r0 f0
  obtain ⟨ρ2, H2, av2, a2, r2, f2, u2, i2, v2, q2, w2⟩ := opn_field fa142_2 h hw (Opn.int (by kernel_rfl)) r1 f1
  obtain ⟨xav0_0, rfl, gav0_0⟩ := q0
  replace v0 := v0.up (u1.trans u2)
  obtain ⟨sa1, sm1, rfl⟩ := RdS.len q1
  replace v1 := v1.one rfl
  replace v1 := v1.up u2
  obtain rfl : av2 = (.int .i64 a2) := q2
  have hv := RelVs.field (o := 0) v0 (RelVs.field (o := 2) v1 (RelVs.field (o := 3) v2 (RelVs.end hl)))
  rw [List.drop_zero] at hv
  refine ⟨ρ2, H2, (.agg [(.int .i64 a0.Method), xav0_0.v, (.slice sa1 a1.length sm1), (.int .i64 a2)].toArray : Value), ({ Access := a0, Facts := a1, At := a2 } : Stored), r2, f2, ((u0.trans u1).trans u2), ((i0.trans i1).trans i2), ?_, ?_, w0, w1, w2⟩
  · exact hv
  · exact ⟨xav0_0, ⟨sa1, _, sm1⟩, rfl, (Mono.up gav0_0 (i1.trans i2)), (Mono.up q1 i2)⟩
theorem fa30_0 : fieldAt Tryz.prog 30 0 = some (28, 0, 1) := by kernel_rfl
theorem fa30_1 : fieldAt Tryz.prog 30 1 = some (3, 1, 1) := by kernel_rfl
def wf30 (a : Cache) : Prop := (wfSl wf142) a.Entries ∧ wfInt a.Age
theorem sh30 : ∀ H v a, rd30 H v a → isAgV v = aggT Tryz.prog 30 := by
  intro H v a h
  obtain ⟨v0, rfl, _⟩ := h
  kernel_rfl
theorem op30 : Opn Tryz.prog 30 rd30 wf30 := by
  intro T enc w fuel cs x h hw ρ H hr hF
  have hl := opn_len fa30_0 h (n := 2) ty30.sz.cells
  obtain ⟨ρ0, H0, av0, a0, r0, f0, u0, i0, v0, q0, w0⟩ := opn_field fa30_0 h hw (Opn.slice (s := 4) (by kernel_rfl) (by kernel_rfl) (by decide) (Nat.lt_of_lt_of_le (by decide) (Nat.le_of_eq (show 64 = _ from by kernel_rfl))) op142) hr hF
  obtain ⟨ρ1, H1, av1, a1, r1, f1, u1, i1, v1, q1, w1⟩ := opn_field fa30_1 h hw (Opn.int (by kernel_rfl)) r0 f0
  obtain ⟨sa0, sm0, rfl⟩ := RdS.len q0
  replace v0 := v0.one rfl
  replace v0 := v0.up u1
  obtain rfl : av1 = (.int .i64 a1) := q1
  have hv := RelVs.field (o := 0) v0 (RelVs.field (o := 1) v1 (RelVs.end hl))
  rw [List.drop_zero] at hv
  refine ⟨ρ1, H1, (.agg [(.slice sa0 a0.length sm0), (.int .i64 a1)].toArray : Value), ({ Entries := a0, Age := a1 } : Cache), r1, f1, (u0.trans u1), (i0.trans i1), ?_, ?_, w0, w1⟩
  · exact hv
  · exact ⟨⟨sa0, _, sm0⟩, rfl, (Mono.up q0 i1)⟩
theorem fa34_0 : fieldAt Tryz.prog 34 0 = some (22, 0, 1) := by kernel_rfl
theorem fa34_1 : fieldAt Tryz.prog 34 1 = some (23, 1, 1) := by kernel_rfl
theorem fa34_2 : fieldAt Tryz.prog 34 2 = some (24, 2, 1) := by kernel_rfl
theorem fa34_3 : fieldAt Tryz.prog 34 3 = some (27, 3, 2) := by kernel_rfl
theorem fa34_4 : fieldAt Tryz.prog 34 4 = some (30, 5, 2) := by kernel_rfl
theorem fa34_5 : fieldAt Tryz.prog 34 5 = some (3, 7, 1) := by kernel_rfl
theorem fa34_6 : fieldAt Tryz.prog 34 6 = some (31, 8, 1) := by kernel_rfl
theorem fa34_7 : fieldAt Tryz.prog 34 7 = some (22, 9, 1) := by kernel_rfl
theorem fa34_8 : fieldAt Tryz.prog 34 8 = some (3, 10, 1) := by kernel_rfl
theorem fa34_9 : fieldAt Tryz.prog 34 9 = some (32, 11, 1) := by kernel_rfl
def wf34 (a : Mediator) : Prop := (wfSl wfInt) a.Schema ∧ (wfSl wf89) a.Methods ∧ (wfSl wf92) a.Rules ∧ wf27 a.Source ∧ wf30 a.Cache ∧ wfInt a.Now ∧ (wfSl wf97) a.Log ∧ (wfSl wfInt) a.Times ∧ wfInt a.Spent ∧ (wfSl (wfSl (wfSl wfInt))) a.Results
theorem sh34 : ∀ H v a, rd34 H v a → isAgV v = aggT Tryz.prog 34 := by
  intro H v a h
  obtain ⟨v0, v1, v2, v3, v5, v8, v9, v11, rfl, _, _, _, _, _, _, _, _⟩ := h
  kernel_rfl
theorem op34 : Opn Tryz.prog 34 rd34 wf34 := by
  intro T enc w fuel cs x h hw ρ H hr hF
  have hl := opn_len fa34_0 h (n := 12) ty34.sz.cells
  obtain ⟨ρ0, H0, av0, a0, r0, f0, u0, i0, v0, q0, w0⟩ := opn_field fa34_0 h hw (Opn.slice (s := 1) (by kernel_rfl) (by kernel_rfl) (by decide) (Nat.lt_of_lt_of_le (by decide) (Nat.le_of_eq (show 8 = _ from by kernel_rfl))) (Opn.int (by kernel_rfl))) hr hF
  obtain ⟨ρ1, H1, av1, a1, r1, f1, u1, i1, v1, q1, w1⟩ := opn_field fa34_1 h hw (Opn.slice (s := 5) (by kernel_rfl) (by kernel_rfl) (by decide) (Nat.lt_of_lt_of_le (by decide) (Nat.le_of_eq (show 56 = _ from by kernel_rfl))) op89) r0 f0
  obtain ⟨ρ2, H2, av2, a2, r2, f2, u2, i2, v2, q2, w2⟩ := opn_field fa34_2 h hw (Opn.slice (s := 3) (by kernel_rfl) (by kernel_rfl) (by decide) (Nat.lt_of_lt_of_le (by decide) (Nat.le_of_eq (show 40 = _ from by kernel_rfl))) op92) r1 f1
  obtain ⟨ρ3, H3, av3, a3, r3, f3, u3, i3, v3, q3, w3⟩ := opn_field fa34_3 h hw op27 r2 f2
  obtain ⟨ρ4, H4, av4, a4, r4, f4, u4, i4, v4, q4, w4⟩ := opn_field fa34_4 h hw op30 r3 f3
  obtain ⟨ρ5, H5, av5, a5, r5, f5, u5, i5, v5, q5, w5⟩ := opn_field fa34_5 h hw (Opn.int (by kernel_rfl)) r4 f4
  obtain ⟨ρ6, H6, av6, a6, r6, f6, u6, i6, v6, q6, w6⟩ := opn_field fa34_6 h hw (Opn.slice (s := 2) (by kernel_rfl) (by kernel_rfl) (by decide) (Nat.lt_of_lt_of_le (by decide) (Nat.le_of_eq (show 32 = _ from by kernel_rfl))) op97) r5 f5
  obtain ⟨ρ7, H7, av7, a7, r7, f7, u7, i7, v7, q7, w7⟩ := opn_field fa34_7 h hw (Opn.slice (s := 1) (by kernel_rfl) (by kernel_rfl) (by decide) (Nat.lt_of_lt_of_le (by decide) (Nat.le_of_eq (show 8 = _ from by kernel_rfl))) (Opn.int (by kernel_rfl))) r6 f6
  obtain ⟨ρ8, H8, av8, a8, r8, f8, u8, i8, v8, q8, w8⟩ := opn_field fa34_8 h hw (Opn.int (by kernel_rfl)) r7 f7
  obtain ⟨ρ9, H9, av9, a9, r9, f9, u9, i9, v9, q9, w9⟩ := opn_field fa34_9 h hw (Opn.slice (s := 1) (by kernel_rfl) (by kernel_rfl) (by decide) (Nat.lt_of_lt_of_le (by decide) (Nat.le_of_eq (show 24 = _ from by kernel_rfl))) (Opn.slice (s := 1) (by kernel_rfl) (by kernel_rfl) (by decide) (Nat.lt_of_lt_of_le (by decide) (Nat.le_of_eq (show 24 = _ from by kernel_rfl))) (Opn.slice (s := 1) (by kernel_rfl) (by kernel_rfl) (by decide) (Nat.lt_of_lt_of_le (by decide) (Nat.le_of_eq (show 8 = _ from by kernel_rfl))) (Opn.int (by kernel_rfl))))) r8 f8
  obtain ⟨sa0, sm0, rfl⟩ := RdS.len q0
  replace v0 := v0.one rfl
  replace v0 := v0.up ((((((((u1.trans u2).trans u3).trans u4).trans u5).trans u6).trans u7).trans u8).trans u9)
  obtain ⟨sa1, sm1, rfl⟩ := RdS.len q1
  replace v1 := v1.one rfl
  replace v1 := v1.up (((((((u2.trans u3).trans u4).trans u5).trans u6).trans u7).trans u8).trans u9)
  obtain ⟨sa2, sm2, rfl⟩ := RdS.len q2
  replace v2 := v2.one rfl
  replace v2 := v2.up ((((((u3.trans u4).trans u5).trans u6).trans u7).trans u8).trans u9)
  obtain ⟨xav3_0, rfl, gav3_0⟩ := q3
  replace v3 := v3.up (((((u4.trans u5).trans u6).trans u7).trans u8).trans u9)
  obtain ⟨xav4_0, rfl, gav4_0⟩ := q4
  replace v4 := v4.up ((((u5.trans u6).trans u7).trans u8).trans u9)
  obtain rfl : av5 = (.int .i64 a5) := q5
  replace v5 := v5.up (((u6.trans u7).trans u8).trans u9)
  obtain ⟨sa6, sm6, rfl⟩ := RdS.len q6
  replace v6 := v6.one rfl
  replace v6 := v6.up ((u7.trans u8).trans u9)
  obtain ⟨sa7, sm7, rfl⟩ := RdS.len q7
  replace v7 := v7.one rfl
  replace v7 := v7.up (u8.trans u9)
  obtain rfl : av8 = (.int .i64 a8) := q8
  replace v8 := v8.up u9
  obtain ⟨sa9, sm9, rfl⟩ := RdS.len q9
  replace v9 := v9.one rfl
  have hv := RelVs.field (o := 0) v0 (RelVs.field (o := 1) v1 (RelVs.field (o := 2) v2 (RelVs.field (o := 3) v3 (RelVs.field (o := 5) v4 (RelVs.field (o := 7) v5 (RelVs.field (o := 8) v6 (RelVs.field (o := 9) v7 (RelVs.field (o := 10) v8 (RelVs.field (o := 11) v9 (RelVs.end hl))))))))))
  rw [List.drop_zero] at hv
  refine ⟨ρ9, H9, (.agg [(.slice sa0 a0.length sm0), (.slice sa1 a1.length sm1), (.slice sa2 a2.length sm2), xav3_0.v, (.int .i64 a3.Version), xav4_0.v, (.int .i64 a4.Age), (.int .i64 a5), (.slice sa6 a6.length sm6), (.slice sa7 a7.length sm7), (.int .i64 a8), (.slice sa9 a9.length sm9)].toArray : Value), ({ Schema := a0, Methods := a1, Rules := a2, Source := a3, Cache := a4, Now := a5, Log := a6, Times := a7, Spent := a8, Results := a9 } : Mediator), r9, f9, (((((((((u0.trans u1).trans u2).trans u3).trans u4).trans u5).trans u6).trans u7).trans u8).trans u9), (((((((((i0.trans i1).trans i2).trans i3).trans i4).trans i5).trans i6).trans i7).trans i8).trans i9), ?_, ?_, w0, w1, w2, w3, w4, w5, w6, w7, w8, w9⟩
  · exact hv
  · exact ⟨⟨sa0, _, sm0⟩, ⟨sa1, _, sm1⟩, ⟨sa2, _, sm2⟩, xav3_0, xav4_0, ⟨sa6, _, sm6⟩, ⟨sa7, _, sm7⟩, ⟨sa9, _, sm9⟩, rfl, (Mono.up q0 ((((((((i1.trans i2).trans i3).trans i4).trans i5).trans i6).trans i7).trans i8).trans i9)), (Mono.up q1 (((((((i2.trans i3).trans i4).trans i5).trans i6).trans i7).trans i8).trans i9)), (Mono.up q2 ((((((i3.trans i4).trans i5).trans i6).trans i7).trans i8).trans i9)), (Mono.up gav3_0 (((((i4.trans i5).trans i6).trans i7).trans i8).trans i9)), (Mono.up gav4_0 ((((i5.trans i6).trans i7).trans i8).trans i9)), (Mono.up q6 ((i7.trans i8).trans i9)), (Mono.up q7 (i8.trans i9)), q9⟩

/-! laws.szIntS -/
def l_szIntS (a_a : List Int) (a_left : Int) : Option (Int) :=
  if (decide (((IntKind.i64.wrap (a_left - (a_a.length : Int))) : Int) < 0)) then (
    some (-1))
  else (
    some (IntKind.i64.wrap (a_left - (a_a.length : Int))))
theorem l_szIntS_ok (a_a : List Int) (v0_0 : Sv) (a_left : Int) (R : Int) (hF : l_szIntS a_a a_left = some R) :
    Fw.Spec Tryz.prog 12 [v0_0.v, (.int .i64 a_left)] [crd (RdS 3 rdInt) v0_0.v a_a] (fun _ : Unit => (.int .i64 R)) (fun _ => []) := by
  refine Spec_enter (n := 12) Tryz.func12 rfl rfl (rs := [.tmp 4]) rfl rfl rfl ?_
  intro H0 F0
  unfold l_szIntS at hF
  refine K_region (C_val (V_assign (v := (.int .i64 0)) (.int _ _)) ?_)
  refine C_nil (K_region (Cm (.int .i64 a_left) rfl rfl ?_))
  refine Cm v0_0.v rfl rfl ?_
  refine C_at .h (fun hp => V_lenR (l := a_a.length) sl22 (.tmp rfl rfl) (crd_len hp)) ?_
  refine C_val (V_sub (i := a_left) (j := (a_a.length : Int)) (.tmp rfl rfl) (.tmp rfl rfl)) ?_
  refine Ca (.int .i64 (IntKind.i64.wrap (a_left - (a_a.length : Int)))) rfl rfl ?_
  refine C_nil (K_in (K_region (Cm (.int .i64 (IntKind.i64.wrap (a_left - (a_a.length : Int)))) rfl rfl ?_)))
  refine C_val (V_lss (i := (IntKind.i64.wrap (a_left - (a_a.length : Int)))) (j := 0) (.tmp rfl rfl) (.int _ _)) ?_
  refine C_nil (CW_cond (b := (decide (((IntKind.i64.wrap (a_left - (a_a.length : Int))) : Int) < 0))) (.tmp rfl rfl) (fun hb1 => ?_) (fun hb1 => ?_))
  · rw [if_pos hb1] at hF
    refine K_region (C_val (V_assign (v := (.int .i64 (-1))) (.int _ _)) ?_)
    refine C_nil (CW_ret ?_)
    obtain rfl := Option.some.inj hF
    exact End_ret () (.tmp rfl rfl .nil) rfl (.sel .nil)
  rw [if_neg (by rw [hb1]; exact Bool.false_ne_true)] at hF
  refine CW_skip (K_region (Cm (.int .i64 (IntKind.i64.wrap (a_left - (a_a.length : Int)))) rfl rfl ?_))
  refine Ca (.int .i64 (IntKind.i64.wrap (a_left - (a_a.length : Int)))) rfl rfl ?_
  refine C_nil (CW_ret ?_)
  obtain rfl := Option.some.inj hF
  exact End_ret () (.tmp rfl rfl .nil) rfl (.sel .nil)

/-! laws.szMethod -/
def l_szMethod (a_a : Method) (a_left : Int) : Option (Int) :=
  (l_szIntS a_a.Inputs a_left).bind fun r2 =>
  if (decide ((r2 : Int) < 0)) then (
    some (-1))
  else (
    some r2)
theorem l_szMethod_ok (a_a : Method) (v0_1 : Sv) (a_left : Int) (R : Int) (hF : l_szMethod a_a a_left = some R) :
    Fw.Spec Tryz.prog 47 [(.agg [(.int .i64 a_a.Rel), v0_1.v, (.int .i64 a_a.Limit), (.int .i64 a_a.Cost), (.int .i64 a_a.Quota)].toArray), (.int .i64 a_left)] [crd (RdS 3 rdInt) v0_1.v a_a.Inputs] (fun _ : Unit => (.int .i64 R)) (fun _ => []) := by
  refine Spec_enter (n := 12) Tryz.func47 rfl rfl (rs := [.tmp 4]) rfl rfl rfl ?_
  intro H0 F0
  unfold l_szMethod at hF
  refine K_region (C_newR rfl (N_box (g := false) (v := (.agg [(.int .i64 a_a.Rel), v0_1.v, (.int .i64 a_a.Limit), (.int .i64 a_a.Cost), (.int .i64 a_a.Quota)].toArray)) ty89.sz (.tmp rfl rfl) rfl) (fun k1 => ?_))
  refine C_val (V_assign (v := (.int .i64 0)) (.int _ _)) ?_
  refine C_nil (K_region (C_val (V_fieldAddr (off := 1) fd89_1 (.tmp rfl rfl)) ?_))
  refine C_at .h (fun hp => V_load (v := v0_1.v) ag22 (.tmp rfl rfl) hp.2 rfl rfl) ?_
  refine Cm (.int .i64 a_left) rfl rfl ?_
  obtain ⟨r2, hx3, hF⟩ := bind_some hF
  refine C_x0 (.rd (.t .h) rfl .nil) (X_callS cf12 (.cons (.tmp rfl rfl) (.cons (.tmp rfl rfl) .nil)) (l_szIntS_ok a_a.Inputs v0_1 a_left _ hx3)) (fun _ => ?_)
  refine Ca (.int .i64 r2) rfl rfl ?_
  refine C_nil (K_in (K_region (Cm (.int .i64 r2) rfl rfl ?_)))
  refine C_val (V_lss (i := r2) (j := 0) (.tmp rfl rfl) (.int _ _)) ?_
  refine C_nil (CW_cond (b := (decide ((r2 : Int) < 0))) (.tmp rfl rfl) (fun hb5 => ?_) (fun hb5 => ?_))
  · rw [if_pos hb5] at hF
    refine K_region (C_val (V_assign (v := (.int .i64 (-1))) (.int _ _)) ?_)
    refine C_nil (CW_ret ?_)
    obtain rfl := Option.some.inj hF
    exact End_ret () (.tmp rfl rfl .nil) rfl (.sel .nil)
  rw [if_neg (by rw [hb5]; exact Bool.false_ne_true)] at hF
  refine CW_skip (K_region (Cm (.int .i64 r2) rfl rfl ?_))
  refine Ca (.int .i64 r2) rfl rfl ?_
  refine C_nil (CW_ret ?_)
  obtain rfl := Option.some.inj hF
  exact End_ret () (.tmp rfl rfl .nil) rfl (.sel .nil)

/-! laws.szMethodS -/
def l_szMethodS_L1 : List Method → Nat → Int → Option (Int)
  | [], k5, c1 => some c1
  | x7 :: rest6, k5, c1 => (l_szMethod x7 c1).bind fun r17 =>
    if (decide ((r17 : Int) < 0)) then (
      some (-1))
    else (
      l_szMethodS_L1 rest6 (k5 + 1) r17)
def l_szMethodS (a_a : List Method) (a_left : Int) : Option (Int) :=
  if (decide (((IntKind.i64.wrap (a_left - (a_a.length : Int))) : Int) < 0)) then (
    some (-1))
  else (
    l_szMethodS_L1 a_a 0 (IntKind.i64.wrap (a_left - (a_a.length : Int))))
theorem l_szMethodS_ok (a_a : List Method) (v0_0 : Sv) (a_left : Int) (R : Int) (hF : l_szMethodS a_a a_left = some R) :
    Fw.Spec Tryz.prog 13 [v0_0.v, (.int .i64 a_left)] [crd (RdS 89 rd89) v0_0.v a_a] (fun _ : Unit => (.int .i64 R)) (fun _ => []) := by
  refine Spec_enter (n := 27) Tryz.func13 rfl rfl (rs := [.tmp 4]) rfl rfl rfl ?_
  intro H0 F0
  unfold l_szMethodS at hF
  refine K_region (C_val (V_assign (v := (.int .i64 0)) (.int _ _)) ?_)
  refine C_nil (K_region (Cm (.int .i64 a_left) rfl rfl ?_))
  refine Cm v0_0.v rfl rfl ?_
  refine C_at .h (fun hp => V_lenR (l := a_a.length) sl23 (.tmp rfl rfl) (crd_len hp)) ?_
  refine C_val (V_sub (i := a_left) (j := (a_a.length : Int)) (.tmp rfl rfl) (.tmp rfl rfl)) ?_
  refine Ca (.int .i64 (IntKind.i64.wrap (a_left - (a_a.length : Int)))) rfl rfl ?_
  refine C_nil (K_in (K_region (Cm (.int .i64 (IntKind.i64.wrap (a_left - (a_a.length : Int)))) rfl rfl ?_)))
  refine C_val (V_lss (i := (IntKind.i64.wrap (a_left - (a_a.length : Int)))) (j := 0) (.tmp rfl rfl) (.int _ _)) ?_
  refine C_nil (CW_cond (b := (decide (((IntKind.i64.wrap (a_left - (a_a.length : Int))) : Int) < 0))) (.tmp rfl rfl) (fun hb22 => ?_) (fun hb22 => ?_))
  · rw [if_pos hb22] at hF
    refine K_region (C_val (V_assign (v := (.int .i64 (-1))) (.int _ _)) ?_)
    refine C_nil (CW_ret ?_)
    obtain rfl := Option.some.inj hF
    exact End_ret () (.tmp rfl rfl .nil) rfl (.sel .nil)
  rw [if_neg (by rw [hb22]; exact Bool.false_ne_true)] at hF
  refine CW_skip (K_in (K_region (C_val (V_assign (v := (.int .i64 0)) (.int _ _)) ?_)))
  refine C_nil (CW_block (CW_loop (m := a_a.length) (fun m3 f' cs' => ∃ (g : Fr) (k5 : Nat) (rest6 : List Method) (c1 : Int), m3 = rest6.length ∧ f' = updL g [(0, v0_0.v), (1, (.int .i64 c1)), (5, (.int .i64 (k5 : Int)))] ∧ List.drop k5 a_a = rest6 ∧ Ent cs' [crd (RdS 89 rd89) v0_0.v a_a] ∧ l_szMethodS_L1 rest6 k5 c1 = some R) ⟨_, 0, _, _, rfl, (EqL.cons rfl (EqL.cons rfl (EqL.cons rfl (EqL.nil)))).eq, rfl, (.sel (.rd .h rfl .nil)), hF⟩ ?_))
  clear hF
  rintro m3 _ _ ⟨g4, k5, rest6, c1, rfl, rfl, hd8, hE, hF⟩
  refine K_ent hE ?_
  clear hE
  refine K_pure (c := crd (RdS 89 rd89) v0_0.v a_a) .h crd_bound (fun hbd13 => ?_)
  rcases rest6 with _ | ⟨x7, rest6⟩
  · have hk9 := List.drop_eq_nil_iff.1 hd8
    have hfe12 : (decide (((k5 : Int) : Int) < (a_a.length : Int))) = false := decide_eq_false (by omega)
    rw [l_szMethodS_L1] at hF
    refine K_in (K_region (Cm (.int .i64 (k5 : Int)) rfl rfl ?_))
    refine Cm v0_0.v rfl rfl ?_
    refine C_at .h (fun hp => V_lenR (l := a_a.length) sl23 (.tmp rfl rfl) (crd_len hp)) ?_
    refine C_val (V_lss (i := (k5 : Int)) (j := (a_a.length : Int)) (.tmp rfl rfl) (.tmp rfl rfl)) ?_
    refine C_nil (CW_cond (b := (decide (((k5 : Int) : Int) < (a_a.length : Int)))) (.tmp rfl rfl) (fun hb => absurd (hfe12.symm.trans hb) (by decide)) (fun _ => ?_))
    refine CW_exit ?_
    iterate 2 refine CThen_exit ?_
    refine CIn_self (K_region (Cm (.int .i64 c1) rfl rfl ?_))
    refine Ca (.int .i64 c1) rfl rfl ?_
    refine C_nil (CW_ret ?_)
    obtain rfl := Option.some.inj hF
    exact End_ret () (.tmp rfl rfl .nil) rfl (.sel .nil)
  obtain ⟨hk9, hx10, hd11⟩ := drop_cons hd8
  have hfe12 : (decide (((k5 : Int) : Int) < (a_a.length : Int))) = true := decide_eq_true (by omega)
  rw [l_szMethodS_L1] at hF
  refine K_in (K_region (Cm (.int .i64 (k5 : Int)) rfl rfl ?_))
  refine Cm v0_0.v rfl rfl ?_
  refine C_at .h (fun hp => V_lenR (l := a_a.length) sl23 (.tmp rfl rfl) (crd_len hp)) ?_
  refine C_val (V_lss (i := (k5 : Int)) (j := (a_a.length : Int)) (.tmp rfl rfl) (.tmp rfl rfl)) ?_
  refine C_nil (CW_cond (b := (decide (((k5 : Int) : Int) < (a_a.length : Int)))) (.tmp rfl rfl) (fun _ => ?_) (fun hb => absurd (hfe12.symm.trans hb) (by decide)))
  refine CW_skip (K_block (K_region (Cm v0_0.v rfl rfl ?_)))
  refine Cm (.int .i64 (k5 : Int)) rfl rfl ?_
  refine C_idx (a := x7) sl23 ty89.sz (.tmp rfl rfl) (.tmp rfl rfl) .h (Int.natCast_nonneg k5) hx10 (fun k14 j15 => ?_)
  refine C_ldA1 (ul89_0_89 x7) ag89 ty89.sz rfl (.tmp rfl rfl) .h la89_0_89 (fun p16 => ?_)
  refine Cm (.int .i64 c1) rfl rfl ?_
  obtain ⟨r17, hx18, hF⟩ := bind_some hF
  refine C_x0 (.rd .h rfl .nil) (X_callS cf47 (.cons (.tmp rfl rfl) (.cons (.tmp rfl rfl) .nil)) (l_szMethod_ok x7 p16 c1 _ hx18)) (fun _ => ?_)
  refine Ca (.int .i64 r17) rfl rfl ?_
  refine C_nil (K_region (Cm (.int .i64 r17) rfl rfl ?_))
  refine C_val (V_lss (i := r17) (j := 0) (.tmp rfl rfl) (.int _ _)) ?_
  refine C_nil (CW_cond (b := (decide ((r17 : Int) < 0))) (.tmp rfl rfl) (fun hb21 => ?_) (fun hb21 => ?_))
  · rw [if_pos hb21] at hF
    refine K_region (C_val (V_assign (v := (.int .i64 (-1))) (.int _ _)) ?_)
    refine C_nil (CW_ret ?_)
    obtain rfl := Option.some.inj hF
    exact End_ret () (.tmp rfl rfl .nil) rfl (.sel .nil)
  rw [if_neg (by rw [hb21]; exact Bool.false_ne_true)] at hF
  refine CW_skip (CW_region (Cm (.int .i64 (k5 : Int)) rfl rfl ?_))
  refine C_val (V_add (i := (k5 : Int)) (j := 1) (.tmp rfl rfl) (.int _ _)) ?_
  refine Ca (.int .i64 (IntKind.i64.wrap ((k5 : Int) + 1))) rfl rfl ?_
  refine C_nil ?_
  have hw20 : IntKind.i64.wrap ((k5 : Int) + 1) = ((k5 + 1 : Nat) : Int) := by rw [wrap_in (by omega) (by omega)]; rfl
  rw [hw20]
  exact ⟨_, Nat.lt_succ_self _, _, k5 + 1, rest6, _, rfl, (EqL.cons rfl (EqL.cons rfl (EqL.cons rfl (EqL.nil)))).eq, hd11, (.sel (.rd (.t (.t .h)) rfl .nil)), hF⟩

/-! laws.szRule -/
def l_szRule (a_a : Rule) (a_left : Int) : Option (Int) :=
  (l_szIntS a_a.Map a_left).bind fun r2 =>
  if (decide ((r2 : Int) < 0)) then (
    some (-1))
  else (
    some r2)
theorem l_szRule_ok (a_a : Rule) (v0_2 : Sv) (a_left : Int) (R : Int) (hF : l_szRule a_a a_left = some R) :
    Fw.Spec Tryz.prog 48 [(.agg [(.int .i64 a_a.From), (.int .i64 a_a.To), v0_2.v].toArray), (.int .i64 a_left)] [crd (RdS 3 rdInt) v0_2.v a_a.Map] (fun _ : Unit => (.int .i64 R)) (fun _ => []) := by
  refine Spec_enter (n := 12) Tryz.func48 rfl rfl (rs := [.tmp 4]) rfl rfl rfl ?_
  intro H0 F0
  unfold l_szRule at hF
  refine K_region (C_newR rfl (N_box (g := false) (v := (.agg [(.int .i64 a_a.From), (.int .i64 a_a.To), v0_2.v].toArray)) ty92.sz (.tmp rfl rfl) rfl) (fun k1 => ?_))
  refine C_val (V_assign (v := (.int .i64 0)) (.int _ _)) ?_
  refine C_nil (K_region (C_val (V_fieldAddr (off := 2) fd92_2 (.tmp rfl rfl)) ?_))
  refine C_at .h (fun hp => V_load (v := v0_2.v) ag22 (.tmp rfl rfl) hp.2 rfl rfl) ?_
  refine Cm (.int .i64 a_left) rfl rfl ?_
  obtain ⟨r2, hx3, hF⟩ := bind_some hF
  refine C_x0 (.rd (.t .h) rfl .nil) (X_callS cf12 (.cons (.tmp rfl rfl) (.cons (.tmp rfl rfl) .nil)) (l_szIntS_ok a_a.Map v0_2 a_left _ hx3)) (fun _ => ?_)
  refine Ca (.int .i64 r2) rfl rfl ?_
  refine C_nil (K_in (K_region (Cm (.int .i64 r2) rfl rfl ?_)))
  refine C_val (V_lss (i := r2) (j := 0) (.tmp rfl rfl) (.int _ _)) ?_
  refine C_nil (CW_cond (b := (decide ((r2 : Int) < 0))) (.tmp rfl rfl) (fun hb5 => ?_) (fun hb5 => ?_))
  · rw [if_pos hb5] at hF
    refine K_region (C_val (V_assign (v := (.int .i64 (-1))) (.int _ _)) ?_)
    refine C_nil (CW_ret ?_)
    obtain rfl := Option.some.inj hF
    exact End_ret () (.tmp rfl rfl .nil) rfl (.sel .nil)
  rw [if_neg (by rw [hb5]; exact Bool.false_ne_true)] at hF
  refine CW_skip (K_region (Cm (.int .i64 r2) rfl rfl ?_))
  refine Ca (.int .i64 r2) rfl rfl ?_
  refine C_nil (CW_ret ?_)
  obtain rfl := Option.some.inj hF
  exact End_ret () (.tmp rfl rfl .nil) rfl (.sel .nil)

/-! laws.szRuleS -/
def l_szRuleS_L1 : List Rule → Nat → Int → Option (Int)
  | [], k5, c1 => some c1
  | x7 :: rest6, k5, c1 => (l_szRule x7 c1).bind fun r17 =>
    if (decide ((r17 : Int) < 0)) then (
      some (-1))
    else (
      l_szRuleS_L1 rest6 (k5 + 1) r17)
def l_szRuleS (a_a : List Rule) (a_left : Int) : Option (Int) :=
  if (decide (((IntKind.i64.wrap (a_left - (a_a.length : Int))) : Int) < 0)) then (
    some (-1))
  else (
    l_szRuleS_L1 a_a 0 (IntKind.i64.wrap (a_left - (a_a.length : Int))))
theorem l_szRuleS_ok (a_a : List Rule) (v0_0 : Sv) (a_left : Int) (R : Int) (hF : l_szRuleS a_a a_left = some R) :
    Fw.Spec Tryz.prog 14 [v0_0.v, (.int .i64 a_left)] [crd (RdS 92 rd92) v0_0.v a_a] (fun _ : Unit => (.int .i64 R)) (fun _ => []) := by
  refine Spec_enter (n := 27) Tryz.func14 rfl rfl (rs := [.tmp 4]) rfl rfl rfl ?_
  intro H0 F0
  unfold l_szRuleS at hF
  refine K_region (C_val (V_assign (v := (.int .i64 0)) (.int _ _)) ?_)
  refine C_nil (K_region (Cm (.int .i64 a_left) rfl rfl ?_))
  refine Cm v0_0.v rfl rfl ?_
  refine C_at .h (fun hp => V_lenR (l := a_a.length) sl24 (.tmp rfl rfl) (crd_len hp)) ?_
  refine C_val (V_sub (i := a_left) (j := (a_a.length : Int)) (.tmp rfl rfl) (.tmp rfl rfl)) ?_
  refine Ca (.int .i64 (IntKind.i64.wrap (a_left - (a_a.length : Int)))) rfl rfl ?_
  refine C_nil (K_in (K_region (Cm (.int .i64 (IntKind.i64.wrap (a_left - (a_a.length : Int)))) rfl rfl ?_)))
  refine C_val (V_lss (i := (IntKind.i64.wrap (a_left - (a_a.length : Int)))) (j := 0) (.tmp rfl rfl) (.int _ _)) ?_
  refine C_nil (CW_cond (b := (decide (((IntKind.i64.wrap (a_left - (a_a.length : Int))) : Int) < 0))) (.tmp rfl rfl) (fun hb22 => ?_) (fun hb22 => ?_))
  · rw [if_pos hb22] at hF
    refine K_region (C_val (V_assign (v := (.int .i64 (-1))) (.int _ _)) ?_)
    refine C_nil (CW_ret ?_)
    obtain rfl := Option.some.inj hF
    exact End_ret () (.tmp rfl rfl .nil) rfl (.sel .nil)
  rw [if_neg (by rw [hb22]; exact Bool.false_ne_true)] at hF
  refine CW_skip (K_in (K_region (C_val (V_assign (v := (.int .i64 0)) (.int _ _)) ?_)))
  refine C_nil (CW_block (CW_loop (m := a_a.length) (fun m3 f' cs' => ∃ (g : Fr) (k5 : Nat) (rest6 : List Rule) (c1 : Int), m3 = rest6.length ∧ f' = updL g [(0, v0_0.v), (1, (.int .i64 c1)), (5, (.int .i64 (k5 : Int)))] ∧ List.drop k5 a_a = rest6 ∧ Ent cs' [crd (RdS 92 rd92) v0_0.v a_a] ∧ l_szRuleS_L1 rest6 k5 c1 = some R) ⟨_, 0, _, _, rfl, (EqL.cons rfl (EqL.cons rfl (EqL.cons rfl (EqL.nil)))).eq, rfl, (.sel (.rd .h rfl .nil)), hF⟩ ?_))
  clear hF
  rintro m3 _ _ ⟨g4, k5, rest6, c1, rfl, rfl, hd8, hE, hF⟩
  refine K_ent hE ?_
  clear hE
  refine K_pure (c := crd (RdS 92 rd92) v0_0.v a_a) .h crd_bound (fun hbd13 => ?_)
  rcases rest6 with _ | ⟨x7, rest6⟩
  · have hk9 := List.drop_eq_nil_iff.1 hd8
    have hfe12 : (decide (((k5 : Int) : Int) < (a_a.length : Int))) = false := decide_eq_false (by omega)
    rw [l_szRuleS_L1] at hF
    refine K_in (K_region (Cm (.int .i64 (k5 : Int)) rfl rfl ?_))
    refine Cm v0_0.v rfl rfl ?_
    refine C_at .h (fun hp => V_lenR (l := a_a.length) sl24 (.tmp rfl rfl) (crd_len hp)) ?_
    refine C_val (V_lss (i := (k5 : Int)) (j := (a_a.length : Int)) (.tmp rfl rfl) (.tmp rfl rfl)) ?_
    refine C_nil (CW_cond (b := (decide (((k5 : Int) : Int) < (a_a.length : Int)))) (.tmp rfl rfl) (fun hb => absurd (hfe12.symm.trans hb) (by decide)) (fun _ => ?_))
    refine CW_exit ?_
    iterate 2 refine CThen_exit ?_
    refine CIn_self (K_region (Cm (.int .i64 c1) rfl rfl ?_))
    refine Ca (.int .i64 c1) rfl rfl ?_
    refine C_nil (CW_ret ?_)
    obtain rfl := Option.some.inj hF
    exact End_ret () (.tmp rfl rfl .nil) rfl (.sel .nil)
  obtain ⟨hk9, hx10, hd11⟩ := drop_cons hd8
  have hfe12 : (decide (((k5 : Int) : Int) < (a_a.length : Int))) = true := decide_eq_true (by omega)
  rw [l_szRuleS_L1] at hF
  refine K_in (K_region (Cm (.int .i64 (k5 : Int)) rfl rfl ?_))
  refine Cm v0_0.v rfl rfl ?_
  refine C_at .h (fun hp => V_lenR (l := a_a.length) sl24 (.tmp rfl rfl) (crd_len hp)) ?_
  refine C_val (V_lss (i := (k5 : Int)) (j := (a_a.length : Int)) (.tmp rfl rfl) (.tmp rfl rfl)) ?_
  refine C_nil (CW_cond (b := (decide (((k5 : Int) : Int) < (a_a.length : Int)))) (.tmp rfl rfl) (fun _ => ?_) (fun hb => absurd (hfe12.symm.trans hb) (by decide)))
  refine CW_skip (K_block (K_region (Cm v0_0.v rfl rfl ?_)))
  refine Cm (.int .i64 (k5 : Int)) rfl rfl ?_
  refine C_idx (a := x7) sl24 ty92.sz (.tmp rfl rfl) (.tmp rfl rfl) .h (Int.natCast_nonneg k5) hx10 (fun k14 j15 => ?_)
  refine C_ldA1 (ul92_0_92 x7) ag92 ty92.sz rfl (.tmp rfl rfl) .h la92_0_92 (fun p16 => ?_)
  refine Cm (.int .i64 c1) rfl rfl ?_
  obtain ⟨r17, hx18, hF⟩ := bind_some hF
  refine C_x0 (.rd .h rfl .nil) (X_callS cf48 (.cons (.tmp rfl rfl) (.cons (.tmp rfl rfl) .nil)) (l_szRule_ok x7 p16 c1 _ hx18)) (fun _ => ?_)
  refine Ca (.int .i64 r17) rfl rfl ?_
  refine C_nil (K_region (Cm (.int .i64 r17) rfl rfl ?_))
  refine C_val (V_lss (i := r17) (j := 0) (.tmp rfl rfl) (.int _ _)) ?_
  refine C_nil (CW_cond (b := (decide ((r17 : Int) < 0))) (.tmp rfl rfl) (fun hb21 => ?_) (fun hb21 => ?_))
  · rw [if_pos hb21] at hF
    refine K_region (C_val (V_assign (v := (.int .i64 (-1))) (.int _ _)) ?_)
    refine C_nil (CW_ret ?_)
    obtain rfl := Option.some.inj hF
    exact End_ret () (.tmp rfl rfl .nil) rfl (.sel .nil)
  rw [if_neg (by rw [hb21]; exact Bool.false_ne_true)] at hF
  refine CW_skip (CW_region (Cm (.int .i64 (k5 : Int)) rfl rfl ?_))
  refine C_val (V_add (i := (k5 : Int)) (j := 1) (.tmp rfl rfl) (.int _ _)) ?_
  refine Ca (.int .i64 (IntKind.i64.wrap ((k5 : Int) + 1))) rfl rfl ?_
  refine C_nil ?_
  have hw20 : IntKind.i64.wrap ((k5 : Int) + 1) = ((k5 + 1 : Nat) : Int) := by rw [wrap_in (by omega) (by omega)]; rfl
  rw [hw20]
  exact ⟨_, Nat.lt_succ_self _, _, k5 + 1, rest6, _, rfl, (EqL.cons rfl (EqL.cons rfl (EqL.cons rfl (EqL.nil)))).eq, hd11, (.sel (.rd (.t (.t .h)) rfl .nil)), hF⟩

/-! laws.szFact -/
def l_szFact (a_a : Fact) (a_left : Int) : Option (Int) :=
  (l_szIntS a_a.Values a_left).bind fun r2 =>
  if (decide ((r2 : Int) < 0)) then (
    some (-1))
  else (
    some r2)
theorem l_szFact_ok (a_a : Fact) (v0_1 : Sv) (a_left : Int) (R : Int) (hF : l_szFact a_a a_left = some R) :
    Fw.Spec Tryz.prog 93 [(.agg [(.int .i64 a_a.Rel), v0_1.v].toArray), (.int .i64 a_left)] [crd (RdS 3 rdInt) v0_1.v a_a.Values] (fun _ : Unit => (.int .i64 R)) (fun _ => []) := by
  refine Spec_enter (n := 12) Tryz.func93 rfl rfl (rs := [.tmp 4]) rfl rfl rfl ?_
  intro H0 F0
  unfold l_szFact at hF
  refine K_region (C_newR rfl (N_box (g := false) (v := (.agg [(.int .i64 a_a.Rel), v0_1.v].toArray)) ty139.sz (.tmp rfl rfl) rfl) (fun k1 => ?_))
  refine C_val (V_assign (v := (.int .i64 0)) (.int _ _)) ?_
  refine C_nil (K_region (C_val (V_fieldAddr (off := 1) fd139_1 (.tmp rfl rfl)) ?_))
  refine C_at .h (fun hp => V_load (v := v0_1.v) ag22 (.tmp rfl rfl) hp.2 rfl rfl) ?_
  refine Cm (.int .i64 a_left) rfl rfl ?_
  obtain ⟨r2, hx3, hF⟩ := bind_some hF
  refine C_x0 (.rd (.t .h) rfl .nil) (X_callS cf12 (.cons (.tmp rfl rfl) (.cons (.tmp rfl rfl) .nil)) (l_szIntS_ok a_a.Values v0_1 a_left _ hx3)) (fun _ => ?_)
  refine Ca (.int .i64 r2) rfl rfl ?_
  refine C_nil (K_in (K_region (Cm (.int .i64 r2) rfl rfl ?_)))
  refine C_val (V_lss (i := r2) (j := 0) (.tmp rfl rfl) (.int _ _)) ?_
  refine C_nil (CW_cond (b := (decide ((r2 : Int) < 0))) (.tmp rfl rfl) (fun hb5 => ?_) (fun hb5 => ?_))
  · rw [if_pos hb5] at hF
    refine K_region (C_val (V_assign (v := (.int .i64 (-1))) (.int _ _)) ?_)
    refine C_nil (CW_ret ?_)
    obtain rfl := Option.some.inj hF
    exact End_ret () (.tmp rfl rfl .nil) rfl (.sel .nil)
  rw [if_neg (by rw [hb5]; exact Bool.false_ne_true)] at hF
  refine CW_skip (K_region (Cm (.int .i64 r2) rfl rfl ?_))
  refine Ca (.int .i64 r2) rfl rfl ?_
  refine C_nil (CW_ret ?_)
  obtain rfl := Option.some.inj hF
  exact End_ret () (.tmp rfl rfl .nil) rfl (.sel .nil)

/-! laws.szFactS -/
def l_szFactS_L1 : List Fact → Nat → Int → Option (Int)
  | [], k5, c1 => some c1
  | x7 :: rest6, k5, c1 => (l_szFact x7 c1).bind fun r17 =>
    if (decide ((r17 : Int) < 0)) then (
      some (-1))
    else (
      l_szFactS_L1 rest6 (k5 + 1) r17)
def l_szFactS (a_a : List Fact) (a_left : Int) : Option (Int) :=
  if (decide (((IntKind.i64.wrap (a_left - (a_a.length : Int))) : Int) < 0)) then (
    some (-1))
  else (
    l_szFactS_L1 a_a 0 (IntKind.i64.wrap (a_left - (a_a.length : Int))))
theorem l_szFactS_ok (a_a : List Fact) (v0_0 : Sv) (a_left : Int) (R : Int) (hF : l_szFactS a_a a_left = some R) :
    Fw.Spec Tryz.prog 49 [v0_0.v, (.int .i64 a_left)] [crd (RdS 139 rd139) v0_0.v a_a] (fun _ : Unit => (.int .i64 R)) (fun _ => []) := by
  refine Spec_enter (n := 27) Tryz.func49 rfl rfl (rs := [.tmp 4]) rfl rfl rfl ?_
  intro H0 F0
  unfold l_szFactS at hF
  refine K_region (C_val (V_assign (v := (.int .i64 0)) (.int _ _)) ?_)
  refine C_nil (K_region (Cm (.int .i64 a_left) rfl rfl ?_))
  refine Cm v0_0.v rfl rfl ?_
  refine C_at .h (fun hp => V_lenR (l := a_a.length) sl25 (.tmp rfl rfl) (crd_len hp)) ?_
  refine C_val (V_sub (i := a_left) (j := (a_a.length : Int)) (.tmp rfl rfl) (.tmp rfl rfl)) ?_
  refine Ca (.int .i64 (IntKind.i64.wrap (a_left - (a_a.length : Int)))) rfl rfl ?_
  refine C_nil (K_in (K_region (Cm (.int .i64 (IntKind.i64.wrap (a_left - (a_a.length : Int)))) rfl rfl ?_)))
  refine C_val (V_lss (i := (IntKind.i64.wrap (a_left - (a_a.length : Int)))) (j := 0) (.tmp rfl rfl) (.int _ _)) ?_
  refine C_nil (CW_cond (b := (decide (((IntKind.i64.wrap (a_left - (a_a.length : Int))) : Int) < 0))) (.tmp rfl rfl) (fun hb22 => ?_) (fun hb22 => ?_))
  · rw [if_pos hb22] at hF
    refine K_region (C_val (V_assign (v := (.int .i64 (-1))) (.int _ _)) ?_)
    refine C_nil (CW_ret ?_)
    obtain rfl := Option.some.inj hF
    exact End_ret () (.tmp rfl rfl .nil) rfl (.sel .nil)
  rw [if_neg (by rw [hb22]; exact Bool.false_ne_true)] at hF
  refine CW_skip (K_in (K_region (C_val (V_assign (v := (.int .i64 0)) (.int _ _)) ?_)))
  refine C_nil (CW_block (CW_loop (m := a_a.length) (fun m3 f' cs' => ∃ (g : Fr) (k5 : Nat) (rest6 : List Fact) (c1 : Int), m3 = rest6.length ∧ f' = updL g [(0, v0_0.v), (1, (.int .i64 c1)), (5, (.int .i64 (k5 : Int)))] ∧ List.drop k5 a_a = rest6 ∧ Ent cs' [crd (RdS 139 rd139) v0_0.v a_a] ∧ l_szFactS_L1 rest6 k5 c1 = some R) ⟨_, 0, _, _, rfl, (EqL.cons rfl (EqL.cons rfl (EqL.cons rfl (EqL.nil)))).eq, rfl, (.sel (.rd .h rfl .nil)), hF⟩ ?_))
  clear hF
  rintro m3 _ _ ⟨g4, k5, rest6, c1, rfl, rfl, hd8, hE, hF⟩
  refine K_ent hE ?_
  clear hE
  refine K_pure (c := crd (RdS 139 rd139) v0_0.v a_a) .h crd_bound (fun hbd13 => ?_)
  rcases rest6 with _ | ⟨x7, rest6⟩
  · have hk9 := List.drop_eq_nil_iff.1 hd8
    have hfe12 : (decide (((k5 : Int) : Int) < (a_a.length : Int))) = false := decide_eq_false (by omega)
    rw [l_szFactS_L1] at hF
    refine K_in (K_region (Cm (.int .i64 (k5 : Int)) rfl rfl ?_))
    refine Cm v0_0.v rfl rfl ?_
    refine C_at .h (fun hp => V_lenR (l := a_a.length) sl25 (.tmp rfl rfl) (crd_len hp)) ?_
    refine C_val (V_lss (i := (k5 : Int)) (j := (a_a.length : Int)) (.tmp rfl rfl) (.tmp rfl rfl)) ?_
    refine C_nil (CW_cond (b := (decide (((k5 : Int) : Int) < (a_a.length : Int)))) (.tmp rfl rfl) (fun hb => absurd (hfe12.symm.trans hb) (by decide)) (fun _ => ?_))
    refine CW_exit ?_
    iterate 2 refine CThen_exit ?_
    refine CIn_self (K_region (Cm (.int .i64 c1) rfl rfl ?_))
    refine Ca (.int .i64 c1) rfl rfl ?_
    refine C_nil (CW_ret ?_)
    obtain rfl := Option.some.inj hF
    exact End_ret () (.tmp rfl rfl .nil) rfl (.sel .nil)
  obtain ⟨hk9, hx10, hd11⟩ := drop_cons hd8
  have hfe12 : (decide (((k5 : Int) : Int) < (a_a.length : Int))) = true := decide_eq_true (by omega)
  rw [l_szFactS_L1] at hF
  refine K_in (K_region (Cm (.int .i64 (k5 : Int)) rfl rfl ?_))
  refine Cm v0_0.v rfl rfl ?_
  refine C_at .h (fun hp => V_lenR (l := a_a.length) sl25 (.tmp rfl rfl) (crd_len hp)) ?_
  refine C_val (V_lss (i := (k5 : Int)) (j := (a_a.length : Int)) (.tmp rfl rfl) (.tmp rfl rfl)) ?_
  refine C_nil (CW_cond (b := (decide (((k5 : Int) : Int) < (a_a.length : Int)))) (.tmp rfl rfl) (fun _ => ?_) (fun hb => absurd (hfe12.symm.trans hb) (by decide)))
  refine CW_skip (K_block (K_region (Cm v0_0.v rfl rfl ?_)))
  refine Cm (.int .i64 (k5 : Int)) rfl rfl ?_
  refine C_idx (a := x7) sl25 ty139.sz (.tmp rfl rfl) (.tmp rfl rfl) .h (Int.natCast_nonneg k5) hx10 (fun k14 j15 => ?_)
  refine C_ldA1 (ul139_0_139 x7) ag139 ty139.sz rfl (.tmp rfl rfl) .h la139_0_139 (fun p16 => ?_)
  refine Cm (.int .i64 c1) rfl rfl ?_
  obtain ⟨r17, hx18, hF⟩ := bind_some hF
  refine C_x0 (.rd .h rfl .nil) (X_callS cf93 (.cons (.tmp rfl rfl) (.cons (.tmp rfl rfl) .nil)) (l_szFact_ok x7 p16 c1 _ hx18)) (fun _ => ?_)
  refine Ca (.int .i64 r17) rfl rfl ?_
  refine C_nil (K_region (Cm (.int .i64 r17) rfl rfl ?_))
  refine C_val (V_lss (i := r17) (j := 0) (.tmp rfl rfl) (.int _ _)) ?_
  refine C_nil (CW_cond (b := (decide ((r17 : Int) < 0))) (.tmp rfl rfl) (fun hb21 => ?_) (fun hb21 => ?_))
  · rw [if_pos hb21] at hF
    refine K_region (C_val (V_assign (v := (.int .i64 (-1))) (.int _ _)) ?_)
    refine C_nil (CW_ret ?_)
    obtain rfl := Option.some.inj hF
    exact End_ret () (.tmp rfl rfl .nil) rfl (.sel .nil)
  rw [if_neg (by rw [hb21]; exact Bool.false_ne_true)] at hF
  refine CW_skip (CW_region (Cm (.int .i64 (k5 : Int)) rfl rfl ?_))
  refine C_val (V_add (i := (k5 : Int)) (j := 1) (.tmp rfl rfl) (.int _ _)) ?_
  refine Ca (.int .i64 (IntKind.i64.wrap ((k5 : Int) + 1))) rfl rfl ?_
  refine C_nil ?_
  have hw20 : IntKind.i64.wrap ((k5 : Int) + 1) = ((k5 + 1 : Nat) : Int) := by rw [wrap_in (by omega) (by omega)]; rfl
  rw [hw20]
  exact ⟨_, Nat.lt_succ_self _, _, k5 + 1, rest6, _, rfl, (EqL.cons rfl (EqL.cons rfl (EqL.cons rfl (EqL.nil)))).eq, hd11, (.sel (.rd (.t (.t .h)) rfl .nil)), hF⟩

/-! laws.szSource -/
def l_szSource (a_a : Source) (a_left : Int) : Option (Int) :=
  (l_szFactS a_a.Facts a_left).bind fun r2 =>
  if (decide ((r2 : Int) < 0)) then (
    some (-1))
  else (
    some r2)
theorem l_szSource_ok (a_a : Source) (v0_0 : Sv) (a_left : Int) (R : Int) (hF : l_szSource a_a a_left = some R) :
    Fw.Spec Tryz.prog 15 [(.agg [v0_0.v, (.int .i64 a_a.Version)].toArray), (.int .i64 a_left)] [crd (RdS 139 rd139) v0_0.v a_a.Facts] (fun _ : Unit => (.int .i64 R)) (fun _ => []) := by
  refine Spec_enter (n := 12) Tryz.func15 rfl rfl (rs := [.tmp 4]) rfl rfl rfl ?_
  intro H0 F0
  unfold l_szSource at hF
  refine K_region (C_newR rfl (N_box (g := false) (v := (.agg [v0_0.v, (.int .i64 a_a.Version)].toArray)) ty27.sz (.tmp rfl rfl) rfl) (fun k1 => ?_))
  refine C_val (V_assign (v := (.int .i64 0)) (.int _ _)) ?_
  refine C_nil (K_region (C_val (V_fieldAddr (off := 0) fd27_0 (.tmp rfl rfl)) ?_))
  refine C_at .h (fun hp => V_load (v := v0_0.v) ag25 (.tmp rfl rfl) hp.2 rfl rfl) ?_
  refine Cm (.int .i64 a_left) rfl rfl ?_
  obtain ⟨r2, hx3, hF⟩ := bind_some hF
  refine C_x0 (.rd (.t .h) rfl .nil) (X_callS cf49 (.cons (.tmp rfl rfl) (.cons (.tmp rfl rfl) .nil)) (l_szFactS_ok a_a.Facts v0_0 a_left _ hx3)) (fun _ => ?_)
  refine Ca (.int .i64 r2) rfl rfl ?_
  refine C_nil (K_in (K_region (Cm (.int .i64 r2) rfl rfl ?_)))
  refine C_val (V_lss (i := r2) (j := 0) (.tmp rfl rfl) (.int _ _)) ?_
  refine C_nil (CW_cond (b := (decide ((r2 : Int) < 0))) (.tmp rfl rfl) (fun hb5 => ?_) (fun hb5 => ?_))
  · rw [if_pos hb5] at hF
    refine K_region (C_val (V_assign (v := (.int .i64 (-1))) (.int _ _)) ?_)
    refine C_nil (CW_ret ?_)
    obtain rfl := Option.some.inj hF
    exact End_ret () (.tmp rfl rfl .nil) rfl (.sel .nil)
  rw [if_neg (by rw [hb5]; exact Bool.false_ne_true)] at hF
  refine CW_skip (K_region (Cm (.int .i64 r2) rfl rfl ?_))
  refine Ca (.int .i64 r2) rfl rfl ?_
  refine C_nil (CW_ret ?_)
  obtain rfl := Option.some.inj hF
  exact End_ret () (.tmp rfl rfl .nil) rfl (.sel .nil)

/-! laws.szAccess -/
def l_szAccess (a_a : Access) (a_left : Int) : Option (Int) :=
  (l_szIntS a_a.Values a_left).bind fun r2 =>
  if (decide ((r2 : Int) < 0)) then (
    some (-1))
  else (
    some r2)
theorem l_szAccess_ok (a_a : Access) (v0_1 : Sv) (a_left : Int) (R : Int) (hF : l_szAccess a_a a_left = some R) :
    Fw.Spec Tryz.prog 51 [(.agg [(.int .i64 a_a.Method), v0_1.v].toArray), (.int .i64 a_left)] [crd (RdS 3 rdInt) v0_1.v a_a.Values] (fun _ : Unit => (.int .i64 R)) (fun _ => []) := by
  refine Spec_enter (n := 12) Tryz.func51 rfl rfl (rs := [.tmp 4]) rfl rfl rfl ?_
  intro H0 F0
  unfold l_szAccess at hF
  refine K_region (C_newR rfl (N_box (g := false) (v := (.agg [(.int .i64 a_a.Method), v0_1.v].toArray)) ty97.sz (.tmp rfl rfl) rfl) (fun k1 => ?_))
  refine C_val (V_assign (v := (.int .i64 0)) (.int _ _)) ?_
  refine C_nil (K_region (C_val (V_fieldAddr (off := 1) fd97_1 (.tmp rfl rfl)) ?_))
  refine C_at .h (fun hp => V_load (v := v0_1.v) ag22 (.tmp rfl rfl) hp.2 rfl rfl) ?_
  refine Cm (.int .i64 a_left) rfl rfl ?_
  obtain ⟨r2, hx3, hF⟩ := bind_some hF
  refine C_x0 (.rd (.t .h) rfl .nil) (X_callS cf12 (.cons (.tmp rfl rfl) (.cons (.tmp rfl rfl) .nil)) (l_szIntS_ok a_a.Values v0_1 a_left _ hx3)) (fun _ => ?_)
  refine Ca (.int .i64 r2) rfl rfl ?_
  refine C_nil (K_in (K_region (Cm (.int .i64 r2) rfl rfl ?_)))
  refine C_val (V_lss (i := r2) (j := 0) (.tmp rfl rfl) (.int _ _)) ?_
  refine C_nil (CW_cond (b := (decide ((r2 : Int) < 0))) (.tmp rfl rfl) (fun hb5 => ?_) (fun hb5 => ?_))
  · rw [if_pos hb5] at hF
    refine K_region (C_val (V_assign (v := (.int .i64 (-1))) (.int _ _)) ?_)
    refine C_nil (CW_ret ?_)
    obtain rfl := Option.some.inj hF
    exact End_ret () (.tmp rfl rfl .nil) rfl (.sel .nil)
  rw [if_neg (by rw [hb5]; exact Bool.false_ne_true)] at hF
  refine CW_skip (K_region (Cm (.int .i64 r2) rfl rfl ?_))
  refine Ca (.int .i64 r2) rfl rfl ?_
  refine C_nil (CW_ret ?_)
  obtain rfl := Option.some.inj hF
  exact End_ret () (.tmp rfl rfl .nil) rfl (.sel .nil)

/-! laws.szStored -/
def l_szStored (a_a : Stored) (a_left : Int) : Option (Int) :=
  (l_szAccess a_a.Access a_left).bind fun r2 =>
  if (decide ((r2 : Int) < 0)) then (
    some (-1))
  else (
    (l_szFactS a_a.Facts r2).bind fun r5 =>
    if (decide ((r5 : Int) < 0)) then (
      some (-1))
    else (
      some r5))
theorem l_szStored_ok (a_a : Stored) (v0_1 : Sv) (v0_2 : Sv) (a_left : Int) (R : Int) (hF : l_szStored a_a a_left = some R) :
    Fw.Spec Tryz.prog 94 [(.agg [(.int .i64 a_a.Access.Method), v0_1.v, v0_2.v, (.int .i64 a_a.At)].toArray), (.int .i64 a_left)] [crd (RdS 3 rdInt) v0_1.v a_a.Access.Values, crd (RdS 139 rd139) v0_2.v a_a.Facts] (fun _ : Unit => (.int .i64 R)) (fun _ => []) := by
  refine Spec_enter (n := 18) Tryz.func94 rfl rfl (rs := [.tmp 4]) rfl rfl rfl ?_
  intro H0 F0
  unfold l_szStored at hF
  refine K_region (C_newR rfl (N_box (g := false) (v := (.agg [(.int .i64 a_a.Access.Method), v0_1.v, v0_2.v, (.int .i64 a_a.At)].toArray)) ty142.sz (.tmp rfl rfl) rfl) (fun k1 => ?_))
  refine C_val (V_assign (v := (.int .i64 0)) (.int _ _)) ?_
  refine C_nil (K_region (C_val (V_fieldAddr (off := 0) fd142_0 (.tmp rfl rfl)) ?_))
  refine C_at .h (fun hp => V_loadA (s := 2) (l := [(.int .i64 a_a.Access.Method), v0_1.v]) ag97 ty97.sz (.tmp rfl rfl) hp.2 rfl (by decide) (Nat.le_of_ble_eq_true rfl) rfl) ?_
  refine Cm (.int .i64 a_left) rfl rfl ?_
  obtain ⟨r2, hx3, hF⟩ := bind_some hF
  refine C_x0 (.rd (.t .h) rfl .nil) (X_callS cf51 (.cons (.tmp rfl rfl) (.cons (.tmp rfl rfl) .nil)) (l_szAccess_ok a_a.Access v0_1 a_left _ hx3)) (fun _ => ?_)
  refine Ca (.int .i64 r2) rfl rfl ?_
  refine C_nil (K_in (K_region (Cm (.int .i64 r2) rfl rfl ?_)))
  refine C_val (V_lss (i := r2) (j := 0) (.tmp rfl rfl) (.int _ _)) ?_
  refine C_nil (CW_cond (b := (decide ((r2 : Int) < 0))) (.tmp rfl rfl) (fun hb9 => ?_) (fun hb9 => ?_))
  · rw [if_pos hb9] at hF
    refine K_region (C_val (V_assign (v := (.int .i64 (-1))) (.int _ _)) ?_)
    refine C_nil (CW_ret ?_)
    obtain rfl := Option.some.inj hF
    exact End_ret () (.tmp rfl rfl .nil) rfl (.sel .nil)
  rw [if_neg (by rw [hb9]; exact Bool.false_ne_true)] at hF
  refine CW_skip (K_region (C_val (V_fieldAddr (off := 2) fd142_1 (.tmp rfl rfl)) ?_))
  refine C_at .h (fun hp => V_load (v := v0_2.v) ag25 (.tmp rfl rfl) hp.2 rfl rfl) ?_
  refine Cm (.int .i64 r2) rfl rfl ?_
  obtain ⟨r5, hx6, hF⟩ := bind_some hF
  refine C_x0 (.rd (.t (.t .h)) rfl .nil) (X_callS cf49 (.cons (.tmp rfl rfl) (.cons (.tmp rfl rfl) .nil)) (l_szFactS_ok a_a.Facts v0_2 r2 _ hx6)) (fun _ => ?_)
  refine Ca (.int .i64 r5) rfl rfl ?_
  refine C_nil (K_in (K_region (Cm (.int .i64 r5) rfl rfl ?_)))
  refine C_val (V_lss (i := r5) (j := 0) (.tmp rfl rfl) (.int _ _)) ?_
  refine C_nil (CW_cond (b := (decide ((r5 : Int) < 0))) (.tmp rfl rfl) (fun hb8 => ?_) (fun hb8 => ?_))
  · rw [if_pos hb8] at hF
    refine K_region (C_val (V_assign (v := (.int .i64 (-1))) (.int _ _)) ?_)
    refine C_nil (CW_ret ?_)
    obtain rfl := Option.some.inj hF
    exact End_ret () (.tmp rfl rfl .nil) rfl (.sel .nil)
  rw [if_neg (by rw [hb8]; exact Bool.false_ne_true)] at hF
  refine CW_skip (K_region (Cm (.int .i64 r5) rfl rfl ?_))
  refine Ca (.int .i64 r5) rfl rfl ?_
  refine C_nil (CW_ret ?_)
  obtain rfl := Option.some.inj hF
  exact End_ret () (.tmp rfl rfl .nil) rfl (.sel .nil)

/-! laws.szStoredS -/
def l_szStoredS_L1 : List Stored → Nat → Int → Option (Int)
  | [], k5, c1 => some c1
  | x7 :: rest6, k5, c1 => (l_szStored x7 c1).bind fun r17 =>
    if (decide ((r17 : Int) < 0)) then (
      some (-1))
    else (
      l_szStoredS_L1 rest6 (k5 + 1) r17)
def l_szStoredS (a_a : List Stored) (a_left : Int) : Option (Int) :=
  if (decide (((IntKind.i64.wrap (a_left - (a_a.length : Int))) : Int) < 0)) then (
    some (-1))
  else (
    l_szStoredS_L1 a_a 0 (IntKind.i64.wrap (a_left - (a_a.length : Int))))
theorem l_szStoredS_ok (a_a : List Stored) (v0_0 : Sv) (a_left : Int) (R : Int) (hF : l_szStoredS a_a a_left = some R) :
    Fw.Spec Tryz.prog 50 [v0_0.v, (.int .i64 a_left)] [crd (RdS 142 rd142) v0_0.v a_a] (fun _ : Unit => (.int .i64 R)) (fun _ => []) := by
  refine Spec_enter (n := 27) Tryz.func50 rfl rfl (rs := [.tmp 4]) rfl rfl rfl ?_
  intro H0 F0
  unfold l_szStoredS at hF
  refine K_region (C_val (V_assign (v := (.int .i64 0)) (.int _ _)) ?_)
  refine C_nil (K_region (Cm (.int .i64 a_left) rfl rfl ?_))
  refine Cm v0_0.v rfl rfl ?_
  refine C_at .h (fun hp => V_lenR (l := a_a.length) sl28 (.tmp rfl rfl) (crd_len hp)) ?_
  refine C_val (V_sub (i := a_left) (j := (a_a.length : Int)) (.tmp rfl rfl) (.tmp rfl rfl)) ?_
  refine Ca (.int .i64 (IntKind.i64.wrap (a_left - (a_a.length : Int)))) rfl rfl ?_
  refine C_nil (K_in (K_region (Cm (.int .i64 (IntKind.i64.wrap (a_left - (a_a.length : Int)))) rfl rfl ?_)))
  refine C_val (V_lss (i := (IntKind.i64.wrap (a_left - (a_a.length : Int)))) (j := 0) (.tmp rfl rfl) (.int _ _)) ?_
  refine C_nil (CW_cond (b := (decide (((IntKind.i64.wrap (a_left - (a_a.length : Int))) : Int) < 0))) (.tmp rfl rfl) (fun hb22 => ?_) (fun hb22 => ?_))
  · rw [if_pos hb22] at hF
    refine K_region (C_val (V_assign (v := (.int .i64 (-1))) (.int _ _)) ?_)
    refine C_nil (CW_ret ?_)
    obtain rfl := Option.some.inj hF
    exact End_ret () (.tmp rfl rfl .nil) rfl (.sel .nil)
  rw [if_neg (by rw [hb22]; exact Bool.false_ne_true)] at hF
  refine CW_skip (K_in (K_region (C_val (V_assign (v := (.int .i64 0)) (.int _ _)) ?_)))
  refine C_nil (CW_block (CW_loop (m := a_a.length) (fun m3 f' cs' => ∃ (g : Fr) (k5 : Nat) (rest6 : List Stored) (c1 : Int), m3 = rest6.length ∧ f' = updL g [(0, v0_0.v), (1, (.int .i64 c1)), (5, (.int .i64 (k5 : Int)))] ∧ List.drop k5 a_a = rest6 ∧ Ent cs' [crd (RdS 142 rd142) v0_0.v a_a] ∧ l_szStoredS_L1 rest6 k5 c1 = some R) ⟨_, 0, _, _, rfl, (EqL.cons rfl (EqL.cons rfl (EqL.cons rfl (EqL.nil)))).eq, rfl, (.sel (.rd .h rfl .nil)), hF⟩ ?_))
  clear hF
  rintro m3 _ _ ⟨g4, k5, rest6, c1, rfl, rfl, hd8, hE, hF⟩
  refine K_ent hE ?_
  clear hE
  refine K_pure (c := crd (RdS 142 rd142) v0_0.v a_a) .h crd_bound (fun hbd13 => ?_)
  rcases rest6 with _ | ⟨x7, rest6⟩
  · have hk9 := List.drop_eq_nil_iff.1 hd8
    have hfe12 : (decide (((k5 : Int) : Int) < (a_a.length : Int))) = false := decide_eq_false (by omega)
    rw [l_szStoredS_L1] at hF
    refine K_in (K_region (Cm (.int .i64 (k5 : Int)) rfl rfl ?_))
    refine Cm v0_0.v rfl rfl ?_
    refine C_at .h (fun hp => V_lenR (l := a_a.length) sl28 (.tmp rfl rfl) (crd_len hp)) ?_
    refine C_val (V_lss (i := (k5 : Int)) (j := (a_a.length : Int)) (.tmp rfl rfl) (.tmp rfl rfl)) ?_
    refine C_nil (CW_cond (b := (decide (((k5 : Int) : Int) < (a_a.length : Int)))) (.tmp rfl rfl) (fun hb => absurd (hfe12.symm.trans hb) (by decide)) (fun _ => ?_))
    refine CW_exit ?_
    iterate 2 refine CThen_exit ?_
    refine CIn_self (K_region (Cm (.int .i64 c1) rfl rfl ?_))
    refine Ca (.int .i64 c1) rfl rfl ?_
    refine C_nil (CW_ret ?_)
    obtain rfl := Option.some.inj hF
    exact End_ret () (.tmp rfl rfl .nil) rfl (.sel .nil)
  obtain ⟨hk9, hx10, hd11⟩ := drop_cons hd8
  have hfe12 : (decide (((k5 : Int) : Int) < (a_a.length : Int))) = true := decide_eq_true (by omega)
  rw [l_szStoredS_L1] at hF
  refine K_in (K_region (Cm (.int .i64 (k5 : Int)) rfl rfl ?_))
  refine Cm v0_0.v rfl rfl ?_
  refine C_at .h (fun hp => V_lenR (l := a_a.length) sl28 (.tmp rfl rfl) (crd_len hp)) ?_
  refine C_val (V_lss (i := (k5 : Int)) (j := (a_a.length : Int)) (.tmp rfl rfl) (.tmp rfl rfl)) ?_
  refine C_nil (CW_cond (b := (decide (((k5 : Int) : Int) < (a_a.length : Int)))) (.tmp rfl rfl) (fun _ => ?_) (fun hb => absurd (hfe12.symm.trans hb) (by decide)))
  refine CW_skip (K_block (K_region (Cm v0_0.v rfl rfl ?_)))
  refine Cm (.int .i64 (k5 : Int)) rfl rfl ?_
  refine C_idx (a := x7) sl28 ty142.sz (.tmp rfl rfl) (.tmp rfl rfl) .h (Int.natCast_nonneg k5) hx10 (fun k14 j15 => ?_)
  refine C_ldA2 (ul142_0_142 x7) ag142 ty142.sz rfl (.tmp rfl rfl) .h la142_0_142 (fun p16 => ?_)
  refine Cm (.int .i64 c1) rfl rfl ?_
  obtain ⟨r17, hx18, hF⟩ := bind_some hF
  refine C_x0 (.rd .h rfl (.rd (.t .h) rfl .nil)) (X_callS cf94 (.cons (.tmp rfl rfl) (.cons (.tmp rfl rfl) .nil)) (l_szStored_ok x7 p16.1 p16.2 c1 _ hx18)) (fun _ => ?_)
  refine Ca (.int .i64 r17) rfl rfl ?_
  refine C_nil (K_region (Cm (.int .i64 r17) rfl rfl ?_))
  refine C_val (V_lss (i := r17) (j := 0) (.tmp rfl rfl) (.int _ _)) ?_
  refine C_nil (CW_cond (b := (decide ((r17 : Int) < 0))) (.tmp rfl rfl) (fun hb21 => ?_) (fun hb21 => ?_))
  · rw [if_pos hb21] at hF
    refine K_region (C_val (V_assign (v := (.int .i64 (-1))) (.int _ _)) ?_)
    refine C_nil (CW_ret ?_)
    obtain rfl := Option.some.inj hF
    exact End_ret () (.tmp rfl rfl .nil) rfl (.sel .nil)
  rw [if_neg (by rw [hb21]; exact Bool.false_ne_true)] at hF
  refine CW_skip (CW_region (Cm (.int .i64 (k5 : Int)) rfl rfl ?_))
  refine C_val (V_add (i := (k5 : Int)) (j := 1) (.tmp rfl rfl) (.int _ _)) ?_
  refine Ca (.int .i64 (IntKind.i64.wrap ((k5 : Int) + 1))) rfl rfl ?_
  refine C_nil ?_
  have hw20 : IntKind.i64.wrap ((k5 : Int) + 1) = ((k5 + 1 : Nat) : Int) := by rw [wrap_in (by omega) (by omega)]; rfl
  rw [hw20]
  exact ⟨_, Nat.lt_succ_self _, _, k5 + 1, rest6, _, rfl, (EqL.cons rfl (EqL.cons rfl (EqL.cons rfl (EqL.nil)))).eq, hd11, (.sel (.rd (.t (.t (.t .h))) rfl .nil)), hF⟩

/-! laws.szCache -/
def l_szCache (a_a : Cache) (a_left : Int) : Option (Int) :=
  (l_szStoredS a_a.Entries a_left).bind fun r2 =>
  if (decide ((r2 : Int) < 0)) then (
    some (-1))
  else (
    some r2)
theorem l_szCache_ok (a_a : Cache) (v0_0 : Sv) (a_left : Int) (R : Int) (hF : l_szCache a_a a_left = some R) :
    Fw.Spec Tryz.prog 16 [(.agg [v0_0.v, (.int .i64 a_a.Age)].toArray), (.int .i64 a_left)] [crd (RdS 142 rd142) v0_0.v a_a.Entries] (fun _ : Unit => (.int .i64 R)) (fun _ => []) := by
  refine Spec_enter (n := 12) Tryz.func16 rfl rfl (rs := [.tmp 4]) rfl rfl rfl ?_
  intro H0 F0
  unfold l_szCache at hF
  refine K_region (C_newR rfl (N_box (g := false) (v := (.agg [v0_0.v, (.int .i64 a_a.Age)].toArray)) ty30.sz (.tmp rfl rfl) rfl) (fun k1 => ?_))
  refine C_val (V_assign (v := (.int .i64 0)) (.int _ _)) ?_
  refine C_nil (K_region (C_val (V_fieldAddr (off := 0) fd30_0 (.tmp rfl rfl)) ?_))
  refine C_at .h (fun hp => V_load (v := v0_0.v) ag28 (.tmp rfl rfl) hp.2 rfl rfl) ?_
  refine Cm (.int .i64 a_left) rfl rfl ?_
  obtain ⟨r2, hx3, hF⟩ := bind_some hF
  refine C_x0 (.rd (.t .h) rfl .nil) (X_callS cf50 (.cons (.tmp rfl rfl) (.cons (.tmp rfl rfl) .nil)) (l_szStoredS_ok a_a.Entries v0_0 a_left _ hx3)) (fun _ => ?_)
  refine Ca (.int .i64 r2) rfl rfl ?_
  refine C_nil (K_in (K_region (Cm (.int .i64 r2) rfl rfl ?_)))
  refine C_val (V_lss (i := r2) (j := 0) (.tmp rfl rfl) (.int _ _)) ?_
  refine C_nil (CW_cond (b := (decide ((r2 : Int) < 0))) (.tmp rfl rfl) (fun hb5 => ?_) (fun hb5 => ?_))
  · rw [if_pos hb5] at hF
    refine K_region (C_val (V_assign (v := (.int .i64 (-1))) (.int _ _)) ?_)
    refine C_nil (CW_ret ?_)
    obtain rfl := Option.some.inj hF
    exact End_ret () (.tmp rfl rfl .nil) rfl (.sel .nil)
  rw [if_neg (by rw [hb5]; exact Bool.false_ne_true)] at hF
  refine CW_skip (K_region (Cm (.int .i64 r2) rfl rfl ?_))
  refine Ca (.int .i64 r2) rfl rfl ?_
  refine C_nil (CW_ret ?_)
  obtain rfl := Option.some.inj hF
  exact End_ret () (.tmp rfl rfl .nil) rfl (.sel .nil)

/-! laws.szAccessS -/
def l_szAccessS_L1 : List Access → Nat → Int → Option (Int)
  | [], k5, c1 => some c1
  | x7 :: rest6, k5, c1 => (l_szAccess x7 c1).bind fun r17 =>
    if (decide ((r17 : Int) < 0)) then (
      some (-1))
    else (
      l_szAccessS_L1 rest6 (k5 + 1) r17)
def l_szAccessS (a_a : List Access) (a_left : Int) : Option (Int) :=
  if (decide (((IntKind.i64.wrap (a_left - (a_a.length : Int))) : Int) < 0)) then (
    some (-1))
  else (
    l_szAccessS_L1 a_a 0 (IntKind.i64.wrap (a_left - (a_a.length : Int))))
theorem l_szAccessS_ok (a_a : List Access) (v0_0 : Sv) (a_left : Int) (R : Int) (hF : l_szAccessS a_a a_left = some R) :
    Fw.Spec Tryz.prog 17 [v0_0.v, (.int .i64 a_left)] [crd (RdS 97 rd97) v0_0.v a_a] (fun _ : Unit => (.int .i64 R)) (fun _ => []) := by
  refine Spec_enter (n := 27) Tryz.func17 rfl rfl (rs := [.tmp 4]) rfl rfl rfl ?_
  intro H0 F0
  unfold l_szAccessS at hF
  refine K_region (C_val (V_assign (v := (.int .i64 0)) (.int _ _)) ?_)
  refine C_nil (K_region (Cm (.int .i64 a_left) rfl rfl ?_))
  refine Cm v0_0.v rfl rfl ?_
  refine C_at .h (fun hp => V_lenR (l := a_a.length) sl31 (.tmp rfl rfl) (crd_len hp)) ?_
  refine C_val (V_sub (i := a_left) (j := (a_a.length : Int)) (.tmp rfl rfl) (.tmp rfl rfl)) ?_
  refine Ca (.int .i64 (IntKind.i64.wrap (a_left - (a_a.length : Int)))) rfl rfl ?_
  refine C_nil (K_in (K_region (Cm (.int .i64 (IntKind.i64.wrap (a_left - (a_a.length : Int)))) rfl rfl ?_)))
  refine C_val (V_lss (i := (IntKind.i64.wrap (a_left - (a_a.length : Int)))) (j := 0) (.tmp rfl rfl) (.int _ _)) ?_
  refine C_nil (CW_cond (b := (decide (((IntKind.i64.wrap (a_left - (a_a.length : Int))) : Int) < 0))) (.tmp rfl rfl) (fun hb22 => ?_) (fun hb22 => ?_))
  · rw [if_pos hb22] at hF
    refine K_region (C_val (V_assign (v := (.int .i64 (-1))) (.int _ _)) ?_)
    refine C_nil (CW_ret ?_)
    obtain rfl := Option.some.inj hF
    exact End_ret () (.tmp rfl rfl .nil) rfl (.sel .nil)
  rw [if_neg (by rw [hb22]; exact Bool.false_ne_true)] at hF
  refine CW_skip (K_in (K_region (C_val (V_assign (v := (.int .i64 0)) (.int _ _)) ?_)))
  refine C_nil (CW_block (CW_loop (m := a_a.length) (fun m3 f' cs' => ∃ (g : Fr) (k5 : Nat) (rest6 : List Access) (c1 : Int), m3 = rest6.length ∧ f' = updL g [(0, v0_0.v), (1, (.int .i64 c1)), (5, (.int .i64 (k5 : Int)))] ∧ List.drop k5 a_a = rest6 ∧ Ent cs' [crd (RdS 97 rd97) v0_0.v a_a] ∧ l_szAccessS_L1 rest6 k5 c1 = some R) ⟨_, 0, _, _, rfl, (EqL.cons rfl (EqL.cons rfl (EqL.cons rfl (EqL.nil)))).eq, rfl, (.sel (.rd .h rfl .nil)), hF⟩ ?_))
  clear hF
  rintro m3 _ _ ⟨g4, k5, rest6, c1, rfl, rfl, hd8, hE, hF⟩
  refine K_ent hE ?_
  clear hE
  refine K_pure (c := crd (RdS 97 rd97) v0_0.v a_a) .h crd_bound (fun hbd13 => ?_)
  rcases rest6 with _ | ⟨x7, rest6⟩
  · have hk9 := List.drop_eq_nil_iff.1 hd8
    have hfe12 : (decide (((k5 : Int) : Int) < (a_a.length : Int))) = false := decide_eq_false (by omega)
    rw [l_szAccessS_L1] at hF
    refine K_in (K_region (Cm (.int .i64 (k5 : Int)) rfl rfl ?_))
    refine Cm v0_0.v rfl rfl ?_
    refine C_at .h (fun hp => V_lenR (l := a_a.length) sl31 (.tmp rfl rfl) (crd_len hp)) ?_
    refine C_val (V_lss (i := (k5 : Int)) (j := (a_a.length : Int)) (.tmp rfl rfl) (.tmp rfl rfl)) ?_
    refine C_nil (CW_cond (b := (decide (((k5 : Int) : Int) < (a_a.length : Int)))) (.tmp rfl rfl) (fun hb => absurd (hfe12.symm.trans hb) (by decide)) (fun _ => ?_))
    refine CW_exit ?_
    iterate 2 refine CThen_exit ?_
    refine CIn_self (K_region (Cm (.int .i64 c1) rfl rfl ?_))
    refine Ca (.int .i64 c1) rfl rfl ?_
    refine C_nil (CW_ret ?_)
    obtain rfl := Option.some.inj hF
    exact End_ret () (.tmp rfl rfl .nil) rfl (.sel .nil)
  obtain ⟨hk9, hx10, hd11⟩ := drop_cons hd8
  have hfe12 : (decide (((k5 : Int) : Int) < (a_a.length : Int))) = true := decide_eq_true (by omega)
  rw [l_szAccessS_L1] at hF
  refine K_in (K_region (Cm (.int .i64 (k5 : Int)) rfl rfl ?_))
  refine Cm v0_0.v rfl rfl ?_
  refine C_at .h (fun hp => V_lenR (l := a_a.length) sl31 (.tmp rfl rfl) (crd_len hp)) ?_
  refine C_val (V_lss (i := (k5 : Int)) (j := (a_a.length : Int)) (.tmp rfl rfl) (.tmp rfl rfl)) ?_
  refine C_nil (CW_cond (b := (decide (((k5 : Int) : Int) < (a_a.length : Int)))) (.tmp rfl rfl) (fun _ => ?_) (fun hb => absurd (hfe12.symm.trans hb) (by decide)))
  refine CW_skip (K_block (K_region (Cm v0_0.v rfl rfl ?_)))
  refine Cm (.int .i64 (k5 : Int)) rfl rfl ?_
  refine C_idx (a := x7) sl31 ty97.sz (.tmp rfl rfl) (.tmp rfl rfl) .h (Int.natCast_nonneg k5) hx10 (fun k14 j15 => ?_)
  refine C_ldA1 (ul97_0_97 x7) ag97 ty97.sz rfl (.tmp rfl rfl) .h la97_0_97 (fun p16 => ?_)
  refine Cm (.int .i64 c1) rfl rfl ?_
  obtain ⟨r17, hx18, hF⟩ := bind_some hF
  refine C_x0 (.rd .h rfl .nil) (X_callS cf51 (.cons (.tmp rfl rfl) (.cons (.tmp rfl rfl) .nil)) (l_szAccess_ok x7 p16 c1 _ hx18)) (fun _ => ?_)
  refine Ca (.int .i64 r17) rfl rfl ?_
  refine C_nil (K_region (Cm (.int .i64 r17) rfl rfl ?_))
  refine C_val (V_lss (i := r17) (j := 0) (.tmp rfl rfl) (.int _ _)) ?_
  refine C_nil (CW_cond (b := (decide ((r17 : Int) < 0))) (.tmp rfl rfl) (fun hb21 => ?_) (fun hb21 => ?_))
  · rw [if_pos hb21] at hF
    refine K_region (C_val (V_assign (v := (.int .i64 (-1))) (.int _ _)) ?_)
    refine C_nil (CW_ret ?_)
    obtain rfl := Option.some.inj hF
    exact End_ret () (.tmp rfl rfl .nil) rfl (.sel .nil)
  rw [if_neg (by rw [hb21]; exact Bool.false_ne_true)] at hF
  refine CW_skip (CW_region (Cm (.int .i64 (k5 : Int)) rfl rfl ?_))
  refine C_val (V_add (i := (k5 : Int)) (j := 1) (.tmp rfl rfl) (.int _ _)) ?_
  refine Ca (.int .i64 (IntKind.i64.wrap ((k5 : Int) + 1))) rfl rfl ?_
  refine C_nil ?_
  have hw20 : IntKind.i64.wrap ((k5 : Int) + 1) = ((k5 + 1 : Nat) : Int) := by rw [wrap_in (by omega) (by omega)]; rfl
  rw [hw20]
  exact ⟨_, Nat.lt_succ_self _, _, k5 + 1, rest6, _, rfl, (EqL.cons rfl (EqL.cons rfl (EqL.cons rfl (EqL.nil)))).eq, hd11, (.sel (.rd (.t (.t .h)) rfl .nil)), hF⟩

/-! laws.szIntSS -/
def l_szIntSS_L1 : List (List Int) → Nat → Int → Option (Int)
  | [], k5, c1 => some c1
  | x7 :: rest6, k5, c1 => (l_szIntS x7 c1).bind fun r17 =>
    if (decide ((r17 : Int) < 0)) then (
      some (-1))
    else (
      l_szIntSS_L1 rest6 (k5 + 1) r17)
def l_szIntSS (a_a : List (List Int)) (a_left : Int) : Option (Int) :=
  if (decide (((IntKind.i64.wrap (a_left - (a_a.length : Int))) : Int) < 0)) then (
    some (-1))
  else (
    l_szIntSS_L1 a_a 0 (IntKind.i64.wrap (a_left - (a_a.length : Int))))
theorem l_szIntSS_ok (a_a : List (List Int)) (v0_0 : Sv) (a_left : Int) (R : Int) (hF : l_szIntSS a_a a_left = some R) :
    Fw.Spec Tryz.prog 52 [v0_0.v, (.int .i64 a_left)] [crd (RdS 22 (RdS 3 rdInt)) v0_0.v a_a] (fun _ : Unit => (.int .i64 R)) (fun _ => []) := by
  refine Spec_enter (n := 27) Tryz.func52 rfl rfl (rs := [.tmp 4]) rfl rfl rfl ?_
  intro H0 F0
  unfold l_szIntSS at hF
  refine K_region (C_val (V_assign (v := (.int .i64 0)) (.int _ _)) ?_)
  refine C_nil (K_region (Cm (.int .i64 a_left) rfl rfl ?_))
  refine Cm v0_0.v rfl rfl ?_
  refine C_at .h (fun hp => V_lenR (l := a_a.length) sl83 (.tmp rfl rfl) (crd_len hp)) ?_
  refine C_val (V_sub (i := a_left) (j := (a_a.length : Int)) (.tmp rfl rfl) (.tmp rfl rfl)) ?_
  refine Ca (.int .i64 (IntKind.i64.wrap (a_left - (a_a.length : Int)))) rfl rfl ?_
  refine C_nil (K_in (K_region (Cm (.int .i64 (IntKind.i64.wrap (a_left - (a_a.length : Int)))) rfl rfl ?_)))
  refine C_val (V_lss (i := (IntKind.i64.wrap (a_left - (a_a.length : Int)))) (j := 0) (.tmp rfl rfl) (.int _ _)) ?_
  refine C_nil (CW_cond (b := (decide (((IntKind.i64.wrap (a_left - (a_a.length : Int))) : Int) < 0))) (.tmp rfl rfl) (fun hb22 => ?_) (fun hb22 => ?_))
  · rw [if_pos hb22] at hF
    refine K_region (C_val (V_assign (v := (.int .i64 (-1))) (.int _ _)) ?_)
    refine C_nil (CW_ret ?_)
    obtain rfl := Option.some.inj hF
    exact End_ret () (.tmp rfl rfl .nil) rfl (.sel .nil)
  rw [if_neg (by rw [hb22]; exact Bool.false_ne_true)] at hF
  refine CW_skip (K_in (K_region (C_val (V_assign (v := (.int .i64 0)) (.int _ _)) ?_)))
  refine C_nil (CW_block (CW_loop (m := a_a.length) (fun m3 f' cs' => ∃ (g : Fr) (k5 : Nat) (rest6 : List (List Int)) (c1 : Int), m3 = rest6.length ∧ f' = updL g [(0, v0_0.v), (1, (.int .i64 c1)), (5, (.int .i64 (k5 : Int)))] ∧ List.drop k5 a_a = rest6 ∧ Ent cs' [crd (RdS 22 (RdS 3 rdInt)) v0_0.v a_a] ∧ l_szIntSS_L1 rest6 k5 c1 = some R) ⟨_, 0, _, _, rfl, (EqL.cons rfl (EqL.cons rfl (EqL.cons rfl (EqL.nil)))).eq, rfl, (.sel (.rd .h rfl .nil)), hF⟩ ?_))
  clear hF
  rintro m3 _ _ ⟨g4, k5, rest6, c1, rfl, rfl, hd8, hE, hF⟩
  refine K_ent hE ?_
  clear hE
  refine K_pure (c := crd (RdS 22 (RdS 3 rdInt)) v0_0.v a_a) .h crd_bound (fun hbd13 => ?_)
  rcases rest6 with _ | ⟨x7, rest6⟩
  · have hk9 := List.drop_eq_nil_iff.1 hd8
    have hfe12 : (decide (((k5 : Int) : Int) < (a_a.length : Int))) = false := decide_eq_false (by omega)
    rw [l_szIntSS_L1] at hF
    refine K_in (K_region (Cm (.int .i64 (k5 : Int)) rfl rfl ?_))
    refine Cm v0_0.v rfl rfl ?_
    refine C_at .h (fun hp => V_lenR (l := a_a.length) sl83 (.tmp rfl rfl) (crd_len hp)) ?_
    refine C_val (V_lss (i := (k5 : Int)) (j := (a_a.length : Int)) (.tmp rfl rfl) (.tmp rfl rfl)) ?_
    refine C_nil (CW_cond (b := (decide (((k5 : Int) : Int) < (a_a.length : Int)))) (.tmp rfl rfl) (fun hb => absurd (hfe12.symm.trans hb) (by decide)) (fun _ => ?_))
    refine CW_exit ?_
    iterate 2 refine CThen_exit ?_
    refine CIn_self (K_region (Cm (.int .i64 c1) rfl rfl ?_))
    refine Ca (.int .i64 c1) rfl rfl ?_
    refine C_nil (CW_ret ?_)
    obtain rfl := Option.some.inj hF
    exact End_ret () (.tmp rfl rfl .nil) rfl (.sel .nil)
  obtain ⟨hk9, hx10, hd11⟩ := drop_cons hd8
  have hfe12 : (decide (((k5 : Int) : Int) < (a_a.length : Int))) = true := decide_eq_true (by omega)
  rw [l_szIntSS_L1] at hF
  refine K_in (K_region (Cm (.int .i64 (k5 : Int)) rfl rfl ?_))
  refine Cm v0_0.v rfl rfl ?_
  refine C_at .h (fun hp => V_lenR (l := a_a.length) sl83 (.tmp rfl rfl) (crd_len hp)) ?_
  refine C_val (V_lss (i := (k5 : Int)) (j := (a_a.length : Int)) (.tmp rfl rfl) (.tmp rfl rfl)) ?_
  refine C_nil (CW_cond (b := (decide (((k5 : Int) : Int) < (a_a.length : Int)))) (.tmp rfl rfl) (fun _ => ?_) (fun hb => absurd (hfe12.symm.trans hb) (by decide)))
  refine CW_skip (K_block (K_region (Cm v0_0.v rfl rfl ?_)))
  refine Cm (.int .i64 (k5 : Int)) rfl rfl ?_
  refine C_idx (a := x7) sl83 ty22.sz (.tmp rfl rfl) (.tmp rfl rfl) .h (Int.natCast_nonneg k5) hx10 (fun k14 j15 => ?_)
  refine C_ldV (R' := (RdS 3 rdInt)) ag22 (.tmp rfl rfl) .h lv22_0 (fun w16 => ?_)
  refine Cm (.int .i64 c1) rfl rfl ?_
  obtain ⟨r17, hx18, hF⟩ := bind_some hF
  refine C_x0 (.rd .h rfl .nil) (X_callS cf12 (.cons (.tmp rfl rfl) (.cons (.tmp rfl rfl) .nil)) (l_szIntS_ok x7 w16 c1 _ hx18)) (fun _ => ?_)
  refine Ca (.int .i64 r17) rfl rfl ?_
  refine C_nil (K_region (Cm (.int .i64 r17) rfl rfl ?_))
  refine C_val (V_lss (i := r17) (j := 0) (.tmp rfl rfl) (.int _ _)) ?_
  refine C_nil (CW_cond (b := (decide ((r17 : Int) < 0))) (.tmp rfl rfl) (fun hb21 => ?_) (fun hb21 => ?_))
  · rw [if_pos hb21] at hF
    refine K_region (C_val (V_assign (v := (.int .i64 (-1))) (.int _ _)) ?_)
    refine C_nil (CW_ret ?_)
    obtain rfl := Option.some.inj hF
    exact End_ret () (.tmp rfl rfl .nil) rfl (.sel .nil)
  rw [if_neg (by rw [hb21]; exact Bool.false_ne_true)] at hF
  refine CW_skip (CW_region (Cm (.int .i64 (k5 : Int)) rfl rfl ?_))
  refine C_val (V_add (i := (k5 : Int)) (j := 1) (.tmp rfl rfl) (.int _ _)) ?_
  refine Ca (.int .i64 (IntKind.i64.wrap ((k5 : Int) + 1))) rfl rfl ?_
  refine C_nil ?_
  have hw20 : IntKind.i64.wrap ((k5 : Int) + 1) = ((k5 + 1 : Nat) : Int) := by rw [wrap_in (by omega) (by omega)]; rfl
  rw [hw20]
  exact ⟨_, Nat.lt_succ_self _, _, k5 + 1, rest6, _, rfl, (EqL.cons rfl (EqL.cons rfl (EqL.cons rfl (EqL.nil)))).eq, hd11, (.sel (.rd (.t (.t .h)) rfl .nil)), hF⟩

/-! laws.szIntSSS -/
def l_szIntSSS_L1 : List (List (List Int)) → Nat → Int → Option (Int)
  | [], k5, c1 => some c1
  | x7 :: rest6, k5, c1 => (l_szIntSS x7 c1).bind fun r17 =>
    if (decide ((r17 : Int) < 0)) then (
      some (-1))
    else (
      l_szIntSSS_L1 rest6 (k5 + 1) r17)
def l_szIntSSS (a_a : List (List (List Int))) (a_left : Int) : Option (Int) :=
  if (decide (((IntKind.i64.wrap (a_left - (a_a.length : Int))) : Int) < 0)) then (
    some (-1))
  else (
    l_szIntSSS_L1 a_a 0 (IntKind.i64.wrap (a_left - (a_a.length : Int))))
theorem l_szIntSSS_ok (a_a : List (List (List Int))) (v0_0 : Sv) (a_left : Int) (R : Int) (hF : l_szIntSSS a_a a_left = some R) :
    Fw.Spec Tryz.prog 18 [v0_0.v, (.int .i64 a_left)] [crd (RdS 83 (RdS 22 (RdS 3 rdInt))) v0_0.v a_a] (fun _ : Unit => (.int .i64 R)) (fun _ => []) := by
  refine Spec_enter (n := 27) Tryz.func18 rfl rfl (rs := [.tmp 4]) rfl rfl rfl ?_
  intro H0 F0
  unfold l_szIntSSS at hF
  refine K_region (C_val (V_assign (v := (.int .i64 0)) (.int _ _)) ?_)
  refine C_nil (K_region (Cm (.int .i64 a_left) rfl rfl ?_))
  refine Cm v0_0.v rfl rfl ?_
  refine C_at .h (fun hp => V_lenR (l := a_a.length) sl32 (.tmp rfl rfl) (crd_len hp)) ?_
  refine C_val (V_sub (i := a_left) (j := (a_a.length : Int)) (.tmp rfl rfl) (.tmp rfl rfl)) ?_
  refine Ca (.int .i64 (IntKind.i64.wrap (a_left - (a_a.length : Int)))) rfl rfl ?_
  refine C_nil (K_in (K_region (Cm (.int .i64 (IntKind.i64.wrap (a_left - (a_a.length : Int)))) rfl rfl ?_)))
  refine C_val (V_lss (i := (IntKind.i64.wrap (a_left - (a_a.length : Int)))) (j := 0) (.tmp rfl rfl) (.int _ _)) ?_
  refine C_nil (CW_cond (b := (decide (((IntKind.i64.wrap (a_left - (a_a.length : Int))) : Int) < 0))) (.tmp rfl rfl) (fun hb22 => ?_) (fun hb22 => ?_))
  · rw [if_pos hb22] at hF
    refine K_region (C_val (V_assign (v := (.int .i64 (-1))) (.int _ _)) ?_)
    refine C_nil (CW_ret ?_)
    obtain rfl := Option.some.inj hF
    exact End_ret () (.tmp rfl rfl .nil) rfl (.sel .nil)
  rw [if_neg (by rw [hb22]; exact Bool.false_ne_true)] at hF
  refine CW_skip (K_in (K_region (C_val (V_assign (v := (.int .i64 0)) (.int _ _)) ?_)))
  refine C_nil (CW_block (CW_loop (m := a_a.length) (fun m3 f' cs' => ∃ (g : Fr) (k5 : Nat) (rest6 : List (List (List Int))) (c1 : Int), m3 = rest6.length ∧ f' = updL g [(0, v0_0.v), (1, (.int .i64 c1)), (5, (.int .i64 (k5 : Int)))] ∧ List.drop k5 a_a = rest6 ∧ Ent cs' [crd (RdS 83 (RdS 22 (RdS 3 rdInt))) v0_0.v a_a] ∧ l_szIntSSS_L1 rest6 k5 c1 = some R) ⟨_, 0, _, _, rfl, (EqL.cons rfl (EqL.cons rfl (EqL.cons rfl (EqL.nil)))).eq, rfl, (.sel (.rd .h rfl .nil)), hF⟩ ?_))
  clear hF
  rintro m3 _ _ ⟨g4, k5, rest6, c1, rfl, rfl, hd8, hE, hF⟩
  refine K_ent hE ?_
  clear hE
  refine K_pure (c := crd (RdS 83 (RdS 22 (RdS 3 rdInt))) v0_0.v a_a) .h crd_bound (fun hbd13 => ?_)
  rcases rest6 with _ | ⟨x7, rest6⟩
  · have hk9 := List.drop_eq_nil_iff.1 hd8
    have hfe12 : (decide (((k5 : Int) : Int) < (a_a.length : Int))) = false := decide_eq_false (by omega)
    rw [l_szIntSSS_L1] at hF
    refine K_in (K_region (Cm (.int .i64 (k5 : Int)) rfl rfl ?_))
    refine Cm v0_0.v rfl rfl ?_
    refine C_at .h (fun hp => V_lenR (l := a_a.length) sl32 (.tmp rfl rfl) (crd_len hp)) ?_
    refine C_val (V_lss (i := (k5 : Int)) (j := (a_a.length : Int)) (.tmp rfl rfl) (.tmp rfl rfl)) ?_
    refine C_nil (CW_cond (b := (decide (((k5 : Int) : Int) < (a_a.length : Int)))) (.tmp rfl rfl) (fun hb => absurd (hfe12.symm.trans hb) (by decide)) (fun _ => ?_))
    refine CW_exit ?_
    iterate 2 refine CThen_exit ?_
    refine CIn_self (K_region (Cm (.int .i64 c1) rfl rfl ?_))
    refine Ca (.int .i64 c1) rfl rfl ?_
    refine C_nil (CW_ret ?_)
    obtain rfl := Option.some.inj hF
    exact End_ret () (.tmp rfl rfl .nil) rfl (.sel .nil)
  obtain ⟨hk9, hx10, hd11⟩ := drop_cons hd8
  have hfe12 : (decide (((k5 : Int) : Int) < (a_a.length : Int))) = true := decide_eq_true (by omega)
  rw [l_szIntSSS_L1] at hF
  refine K_in (K_region (Cm (.int .i64 (k5 : Int)) rfl rfl ?_))
  refine Cm v0_0.v rfl rfl ?_
  refine C_at .h (fun hp => V_lenR (l := a_a.length) sl32 (.tmp rfl rfl) (crd_len hp)) ?_
  refine C_val (V_lss (i := (k5 : Int)) (j := (a_a.length : Int)) (.tmp rfl rfl) (.tmp rfl rfl)) ?_
  refine C_nil (CW_cond (b := (decide (((k5 : Int) : Int) < (a_a.length : Int)))) (.tmp rfl rfl) (fun _ => ?_) (fun hb => absurd (hfe12.symm.trans hb) (by decide)))
  refine CW_skip (K_block (K_region (Cm v0_0.v rfl rfl ?_)))
  refine Cm (.int .i64 (k5 : Int)) rfl rfl ?_
  refine C_idx (a := x7) sl32 ty83.sz (.tmp rfl rfl) (.tmp rfl rfl) .h (Int.natCast_nonneg k5) hx10 (fun k14 j15 => ?_)
  refine C_ldV (R' := (RdS 22 (RdS 3 rdInt))) ag83 (.tmp rfl rfl) .h lv83_0 (fun w16 => ?_)
  refine Cm (.int .i64 c1) rfl rfl ?_
  obtain ⟨r17, hx18, hF⟩ := bind_some hF
  refine C_x0 (.rd .h rfl .nil) (X_callS cf52 (.cons (.tmp rfl rfl) (.cons (.tmp rfl rfl) .nil)) (l_szIntSS_ok x7 w16 c1 _ hx18)) (fun _ => ?_)
  refine Ca (.int .i64 r17) rfl rfl ?_
  refine C_nil (K_region (Cm (.int .i64 r17) rfl rfl ?_))
  refine C_val (V_lss (i := r17) (j := 0) (.tmp rfl rfl) (.int _ _)) ?_
  refine C_nil (CW_cond (b := (decide ((r17 : Int) < 0))) (.tmp rfl rfl) (fun hb21 => ?_) (fun hb21 => ?_))
  · rw [if_pos hb21] at hF
    refine K_region (C_val (V_assign (v := (.int .i64 (-1))) (.int _ _)) ?_)
    refine C_nil (CW_ret ?_)
    obtain rfl := Option.some.inj hF
    exact End_ret () (.tmp rfl rfl .nil) rfl (.sel .nil)
  rw [if_neg (by rw [hb21]; exact Bool.false_ne_true)] at hF
  refine CW_skip (CW_region (Cm (.int .i64 (k5 : Int)) rfl rfl ?_))
  refine C_val (V_add (i := (k5 : Int)) (j := 1) (.tmp rfl rfl) (.int _ _)) ?_
  refine Ca (.int .i64 (IntKind.i64.wrap ((k5 : Int) + 1))) rfl rfl ?_
  refine C_nil ?_
  have hw20 : IntKind.i64.wrap ((k5 : Int) + 1) = ((k5 + 1 : Nat) : Int) := by rw [wrap_in (by omega) (by omega)]; rfl
  rw [hw20]
  exact ⟨_, Nat.lt_succ_self _, _, k5 + 1, rest6, _, rfl, (EqL.cons rfl (EqL.cons rfl (EqL.cons rfl (EqL.nil)))).eq, hd11, (.sel (.rd (.t (.t .h)) rfl .nil)), hF⟩

/-! laws.szMediator -/
def l_szMediator (a_a : Mediator) (a_left : Int) : Option (Int) :=
  (l_szIntS a_a.Schema a_left).bind fun r2 =>
  if (decide ((r2 : Int) < 0)) then (
    some (-1))
  else (
    (l_szMethodS a_a.Methods r2).bind fun r5 =>
    if (decide ((r5 : Int) < 0)) then (
      some (-1))
    else (
      (l_szRuleS a_a.Rules r5).bind fun r8 =>
      if (decide ((r8 : Int) < 0)) then (
        some (-1))
      else (
        (l_szSource a_a.Source r8).bind fun r11 =>
        if (decide ((r11 : Int) < 0)) then (
          some (-1))
        else (
          (l_szCache a_a.Cache r11).bind fun r14 =>
          if (decide ((r14 : Int) < 0)) then (
            some (-1))
          else (
            (l_szAccessS a_a.Log r14).bind fun r17 =>
            if (decide ((r17 : Int) < 0)) then (
              some (-1))
            else (
              (l_szIntS a_a.Times r17).bind fun r20 =>
              if (decide ((r20 : Int) < 0)) then (
                some (-1))
              else (
                (l_szIntSSS a_a.Results r20).bind fun r23 =>
                if (decide ((r23 : Int) < 0)) then (
                  some (-1))
                else (
                  some r23))))))))
theorem l_szMediator_ok (a_a : Mediator) (v0_0 : Sv) (v0_1 : Sv) (v0_2 : Sv) (v0_3 : Sv) (v0_5 : Sv) (v0_8 : Sv) (v0_9 : Sv) (v0_11 : Sv) (a_left : Int) (R : Int) (hF : l_szMediator a_a a_left = some R) :
    Fw.Spec Tryz.prog 5 [(.agg [v0_0.v, v0_1.v, v0_2.v, v0_3.v, (.int .i64 a_a.Source.Version), v0_5.v, (.int .i64 a_a.Cache.Age), (.int .i64 a_a.Now), v0_8.v, v0_9.v, (.int .i64 a_a.Spent), v0_11.v].toArray), (.int .i64 a_left)] [crd (RdS 3 rdInt) v0_0.v a_a.Schema, crd (RdS 89 rd89) v0_1.v a_a.Methods, crd (RdS 92 rd92) v0_2.v a_a.Rules, crd (RdS 139 rd139) v0_3.v a_a.Source.Facts, crd (RdS 142 rd142) v0_5.v a_a.Cache.Entries, crd (RdS 97 rd97) v0_8.v a_a.Log, crd (RdS 3 rdInt) v0_9.v a_a.Times, crd (RdS 83 (RdS 22 (RdS 3 rdInt))) v0_11.v a_a.Results] (fun _ : Unit => (.int .i64 R)) (fun _ => []) := by
  refine Spec_enter (n := 54) Tryz.func5 rfl rfl (rs := [.tmp 4]) rfl rfl rfl ?_
  intro H0 F0
  unfold l_szMediator at hF
  refine K_region (C_newR rfl (N_box (g := false) (v := (.agg [v0_0.v, v0_1.v, v0_2.v, v0_3.v, (.int .i64 a_a.Source.Version), v0_5.v, (.int .i64 a_a.Cache.Age), (.int .i64 a_a.Now), v0_8.v, v0_9.v, (.int .i64 a_a.Spent), v0_11.v].toArray)) ty34.sz (.tmp rfl rfl) rfl) (fun k1 => ?_))
  refine C_val (V_assign (v := (.int .i64 0)) (.int _ _)) ?_
  refine C_nil (K_region (C_val (V_fieldAddr (off := 0) fd34_0 (.tmp rfl rfl)) ?_))
  refine C_at .h (fun hp => V_load (v := v0_0.v) ag22 (.tmp rfl rfl) hp.2 rfl rfl) ?_
  refine Cm (.int .i64 a_left) rfl rfl ?_
  obtain ⟨r2, hx3, hF⟩ := bind_some hF
  refine C_x0 (.rd (.t .h) rfl .nil) (X_callS cf12 (.cons (.tmp rfl rfl) (.cons (.tmp rfl rfl) .nil)) (l_szIntS_ok a_a.Schema v0_0 a_left _ hx3)) (fun _ => ?_)
  refine Ca (.int .i64 r2) rfl rfl ?_
  refine C_nil (K_in (K_region (Cm (.int .i64 r2) rfl rfl ?_)))
  refine C_val (V_lss (i := r2) (j := 0) (.tmp rfl rfl) (.int _ _)) ?_
  refine C_nil (CW_cond (b := (decide ((r2 : Int) < 0))) (.tmp rfl rfl) (fun hb33 => ?_) (fun hb33 => ?_))
  · rw [if_pos hb33] at hF
    refine K_region (C_val (V_assign (v := (.int .i64 (-1))) (.int _ _)) ?_)
    refine C_nil (CW_ret ?_)
    obtain rfl := Option.some.inj hF
    exact End_ret () (.tmp rfl rfl .nil) rfl (.sel .nil)
  rw [if_neg (by rw [hb33]; exact Bool.false_ne_true)] at hF
  refine CW_skip (K_region (C_val (V_fieldAddr (off := 1) fd34_1 (.tmp rfl rfl)) ?_))
  refine C_at .h (fun hp => V_load (v := v0_1.v) ag23 (.tmp rfl rfl) hp.2 rfl rfl) ?_
  refine Cm (.int .i64 r2) rfl rfl ?_
  obtain ⟨r5, hx6, hF⟩ := bind_some hF
  refine C_x0 (.rd (.t (.t .h)) rfl .nil) (X_callS cf13 (.cons (.tmp rfl rfl) (.cons (.tmp rfl rfl) .nil)) (l_szMethodS_ok a_a.Methods v0_1 r2 _ hx6)) (fun _ => ?_)
  refine Ca (.int .i64 r5) rfl rfl ?_
  refine C_nil (K_in (K_region (Cm (.int .i64 r5) rfl rfl ?_)))
  refine C_val (V_lss (i := r5) (j := 0) (.tmp rfl rfl) (.int _ _)) ?_
  refine C_nil (CW_cond (b := (decide ((r5 : Int) < 0))) (.tmp rfl rfl) (fun hb32 => ?_) (fun hb32 => ?_))
  · rw [if_pos hb32] at hF
    refine K_region (C_val (V_assign (v := (.int .i64 (-1))) (.int _ _)) ?_)
    refine C_nil (CW_ret ?_)
    obtain rfl := Option.some.inj hF
    exact End_ret () (.tmp rfl rfl .nil) rfl (.sel .nil)
  rw [if_neg (by rw [hb32]; exact Bool.false_ne_true)] at hF
  refine CW_skip (K_region (C_val (V_fieldAddr (off := 2) fd34_2 (.tmp rfl rfl)) ?_))
  refine C_at .h (fun hp => V_load (v := v0_2.v) ag24 (.tmp rfl rfl) hp.2 rfl rfl) ?_
  refine Cm (.int .i64 r5) rfl rfl ?_
  obtain ⟨r8, hx9, hF⟩ := bind_some hF
  refine C_x0 (.rd (.t (.t (.t .h))) rfl .nil) (X_callS cf14 (.cons (.tmp rfl rfl) (.cons (.tmp rfl rfl) .nil)) (l_szRuleS_ok a_a.Rules v0_2 r5 _ hx9)) (fun _ => ?_)
  refine Ca (.int .i64 r8) rfl rfl ?_
  refine C_nil (K_in (K_region (Cm (.int .i64 r8) rfl rfl ?_)))
  refine C_val (V_lss (i := r8) (j := 0) (.tmp rfl rfl) (.int _ _)) ?_
  refine C_nil (CW_cond (b := (decide ((r8 : Int) < 0))) (.tmp rfl rfl) (fun hb31 => ?_) (fun hb31 => ?_))
  · rw [if_pos hb31] at hF
    refine K_region (C_val (V_assign (v := (.int .i64 (-1))) (.int _ _)) ?_)
    refine C_nil (CW_ret ?_)
    obtain rfl := Option.some.inj hF
    exact End_ret () (.tmp rfl rfl .nil) rfl (.sel .nil)
  rw [if_neg (by rw [hb31]; exact Bool.false_ne_true)] at hF
  refine CW_skip (K_region (C_val (V_fieldAddr (off := 3) fd34_3 (.tmp rfl rfl)) ?_))
  refine C_at .h (fun hp => V_loadA (s := 2) (l := [v0_3.v, (.int .i64 a_a.Source.Version)]) ag27 ty27.sz (.tmp rfl rfl) hp.2 rfl (by decide) (Nat.le_of_ble_eq_true rfl) rfl) ?_
  refine Cm (.int .i64 r8) rfl rfl ?_
  obtain ⟨r11, hx12, hF⟩ := bind_some hF
  refine C_x0 (.rd (.t (.t (.t (.t .h)))) rfl .nil) (X_callS cf15 (.cons (.tmp rfl rfl) (.cons (.tmp rfl rfl) .nil)) (l_szSource_ok a_a.Source v0_3 r8 _ hx12)) (fun _ => ?_)
  refine Ca (.int .i64 r11) rfl rfl ?_
  refine C_nil (K_in (K_region (Cm (.int .i64 r11) rfl rfl ?_)))
  refine C_val (V_lss (i := r11) (j := 0) (.tmp rfl rfl) (.int _ _)) ?_
  refine C_nil (CW_cond (b := (decide ((r11 : Int) < 0))) (.tmp rfl rfl) (fun hb30 => ?_) (fun hb30 => ?_))
  · rw [if_pos hb30] at hF
    refine K_region (C_val (V_assign (v := (.int .i64 (-1))) (.int _ _)) ?_)
    refine C_nil (CW_ret ?_)
    obtain rfl := Option.some.inj hF
    exact End_ret () (.tmp rfl rfl .nil) rfl (.sel .nil)
  rw [if_neg (by rw [hb30]; exact Bool.false_ne_true)] at hF
  refine CW_skip (K_region (C_val (V_fieldAddr (off := 5) fd34_4 (.tmp rfl rfl)) ?_))
  refine C_at .h (fun hp => V_loadA (s := 2) (l := [v0_5.v, (.int .i64 a_a.Cache.Age)]) ag30 ty30.sz (.tmp rfl rfl) hp.2 rfl (by decide) (Nat.le_of_ble_eq_true rfl) rfl) ?_
  refine Cm (.int .i64 r11) rfl rfl ?_
  obtain ⟨r14, hx15, hF⟩ := bind_some hF
  refine C_x0 (.rd (.t (.t (.t (.t (.t .h))))) rfl .nil) (X_callS cf16 (.cons (.tmp rfl rfl) (.cons (.tmp rfl rfl) .nil)) (l_szCache_ok a_a.Cache v0_5 r11 _ hx15)) (fun _ => ?_)
  refine Ca (.int .i64 r14) rfl rfl ?_
  refine C_nil (K_in (K_region (Cm (.int .i64 r14) rfl rfl ?_)))
  refine C_val (V_lss (i := r14) (j := 0) (.tmp rfl rfl) (.int _ _)) ?_
  refine C_nil (CW_cond (b := (decide ((r14 : Int) < 0))) (.tmp rfl rfl) (fun hb29 => ?_) (fun hb29 => ?_))
  · rw [if_pos hb29] at hF
    refine K_region (C_val (V_assign (v := (.int .i64 (-1))) (.int _ _)) ?_)
    refine C_nil (CW_ret ?_)
    obtain rfl := Option.some.inj hF
    exact End_ret () (.tmp rfl rfl .nil) rfl (.sel .nil)
  rw [if_neg (by rw [hb29]; exact Bool.false_ne_true)] at hF
  refine CW_skip (K_region (C_val (V_fieldAddr (off := 8) fd34_6 (.tmp rfl rfl)) ?_))
  refine C_at .h (fun hp => V_load (v := v0_8.v) ag31 (.tmp rfl rfl) hp.2 rfl rfl) ?_
  refine Cm (.int .i64 r14) rfl rfl ?_
  obtain ⟨r17, hx18, hF⟩ := bind_some hF
  refine C_x0 (.rd (.t (.t (.t (.t (.t (.t .h)))))) rfl .nil) (X_callS cf17 (.cons (.tmp rfl rfl) (.cons (.tmp rfl rfl) .nil)) (l_szAccessS_ok a_a.Log v0_8 r14 _ hx18)) (fun _ => ?_)
  refine Ca (.int .i64 r17) rfl rfl ?_
  refine C_nil (K_in (K_region (Cm (.int .i64 r17) rfl rfl ?_)))
  refine C_val (V_lss (i := r17) (j := 0) (.tmp rfl rfl) (.int _ _)) ?_
  refine C_nil (CW_cond (b := (decide ((r17 : Int) < 0))) (.tmp rfl rfl) (fun hb28 => ?_) (fun hb28 => ?_))
  · rw [if_pos hb28] at hF
    refine K_region (C_val (V_assign (v := (.int .i64 (-1))) (.int _ _)) ?_)
    refine C_nil (CW_ret ?_)
    obtain rfl := Option.some.inj hF
    exact End_ret () (.tmp rfl rfl .nil) rfl (.sel .nil)
  rw [if_neg (by rw [hb28]; exact Bool.false_ne_true)] at hF
  refine CW_skip (K_region (C_val (V_fieldAddr (off := 9) fd34_7 (.tmp rfl rfl)) ?_))
  refine C_at .h (fun hp => V_load (v := v0_9.v) ag22 (.tmp rfl rfl) hp.2 rfl rfl) ?_
  refine Cm (.int .i64 r17) rfl rfl ?_
  obtain ⟨r20, hx21, hF⟩ := bind_some hF
  refine C_x0 (.rd (.t (.t (.t (.t (.t (.t (.t .h))))))) rfl .nil) (X_callS cf12 (.cons (.tmp rfl rfl) (.cons (.tmp rfl rfl) .nil)) (l_szIntS_ok a_a.Times v0_9 r17 _ hx21)) (fun _ => ?_)
  refine Ca (.int .i64 r20) rfl rfl ?_
  refine C_nil (K_in (K_region (Cm (.int .i64 r20) rfl rfl ?_)))
  refine C_val (V_lss (i := r20) (j := 0) (.tmp rfl rfl) (.int _ _)) ?_
  refine C_nil (CW_cond (b := (decide ((r20 : Int) < 0))) (.tmp rfl rfl) (fun hb27 => ?_) (fun hb27 => ?_))
  · rw [if_pos hb27] at hF
    refine K_region (C_val (V_assign (v := (.int .i64 (-1))) (.int _ _)) ?_)
    refine C_nil (CW_ret ?_)
    obtain rfl := Option.some.inj hF
    exact End_ret () (.tmp rfl rfl .nil) rfl (.sel .nil)
  rw [if_neg (by rw [hb27]; exact Bool.false_ne_true)] at hF
  refine CW_skip (K_region (C_val (V_fieldAddr (off := 11) fd34_9 (.tmp rfl rfl)) ?_))
  refine C_at .h (fun hp => V_load (v := v0_11.v) ag32 (.tmp rfl rfl) hp.2 rfl rfl) ?_
  refine Cm (.int .i64 r20) rfl rfl ?_
  obtain ⟨r23, hx24, hF⟩ := bind_some hF
  refine C_x0 (.rd (.t (.t (.t (.t (.t (.t (.t (.t .h)))))))) rfl .nil) (X_callS cf18 (.cons (.tmp rfl rfl) (.cons (.tmp rfl rfl) .nil)) (l_szIntSSS_ok a_a.Results v0_11 r20 _ hx24)) (fun _ => ?_)
  refine Ca (.int .i64 r23) rfl rfl ?_
  refine C_nil (K_in (K_region (Cm (.int .i64 r23) rfl rfl ?_)))
  refine C_val (V_lss (i := r23) (j := 0) (.tmp rfl rfl) (.int _ _)) ?_
  refine C_nil (CW_cond (b := (decide ((r23 : Int) < 0))) (.tmp rfl rfl) (fun hb26 => ?_) (fun hb26 => ?_))
  · rw [if_pos hb26] at hF
    refine K_region (C_val (V_assign (v := (.int .i64 (-1))) (.int _ _)) ?_)
    refine C_nil (CW_ret ?_)
    obtain rfl := Option.some.inj hF
    exact End_ret () (.tmp rfl rfl .nil) rfl (.sel .nil)
  rw [if_neg (by rw [hb26]; exact Bool.false_ne_true)] at hF
  refine CW_skip (K_region (Cm (.int .i64 r23) rfl rfl ?_))
  refine Ca (.int .i64 r23) rfl rfl ?_
  refine C_nil (CW_ret ?_)
  obtain rfl := Option.some.inj hF
  exact End_ret () (.tmp rfl rfl .nil) rfl (.sel .nil)

/-! laws.toIntS -/
def l_toIntS_L1 : List Int → Nat → (List Int) → Option ((List Int))
  | [], k32, c27 => some c27
  | x34 :: rest33, k32, c27 => (chk (decide (0 ≤ (k32 : Int)) && decide ((k32 : Int) < (c27.length : Int)))).bind fun u46 =>
    (some (c27.set ((k32 : Int)).toNat x34)).bind fun z48 =>
    l_toIntS_L1 rest33 (k32 + 1) z48
def l_toIntS (a_a : List Int) : Option ((List Int)) :=
  (mkz (a_a.length : Int) (0 : Int)).bind fun z1 =>
  l_toIntS_L1 a_a 0 z1
theorem l_toIntS_ok (a_a : List Int) (v0_0 : Sv) (R : (List Int)) (hF : l_toIntS a_a = some R) :
    Fw.Spec Tryz.prog 21 [v0_0.v] [crd (RdS 3 rdInt) v0_0.v a_a] (fun p : Sv × List Nat => p.1.v) (fun p => [cown (OwnS 3 (roE rdInt)) p.2 p.1.v R]) := by
  refine Spec_enter (n := 22) Tryz.func21 rfl rfl (rs := [.tmp 2]) rfl rfl rfl ?_
  intro H0 F0
  unfold l_toIntS at hF
  refine K_region (C_val (V_assign (v := (.slice none 0 0)) EV.nilSlice) ?_)
  refine C_nil (K_region (Cm v0_0.v rfl rfl ?_))
  refine C_at .h (fun hp => V_lenR (l := a_a.length) sl22 (.tmp rfl rfl) (crd_len hp)) ?_
  obtain ⟨z1, hx2, hF⟩ := bind_some hF
  have hm3 := mkz_some hx2
  refine C_new rfl (N_makeSlice (g := true) (c := (a_a.length : Int)) sl22 ty3 rfl rfl (by decide) (.tmp rfl rfl) hm3.2.1 hm3.2.2) (fun k4 => ?_)
  refine C_conv (.cons .h .nil) (own_make (Ro := (roE rdInt)) (E := 3) (a := (0 : Int)) hx2 (fun _ => ⟨rfl, rfl⟩)) apps ?_
  refine Ca (.slice (some ⟨k4, 0, none⟩) (a_a.length : Int).toNat 1) rfl rfl ?_
  refine C_nil (K_in (K_region (C_val (V_assign (v := (.int .i64 0)) (.int _ _)) ?_)))
  refine C_nil (CW_block (CW_loop (m := a_a.length) (fun m30 f' cs' => ∃ (g : Fr) (k32 : Nat) (rest33 : List Int) (c27 : List Int) (F28 : List Nat), m30 = rest33.length ∧ f' = updL g [(0, v0_0.v), (3, (.slice (some ⟨k4, 0, none⟩) (a_a.length : Int).toNat 1)), (4, (.int .i64 (k32 : Int)))] ∧ List.drop k32 a_a = rest33 ∧ Ent cs' [crd (RdS 3 rdInt) v0_0.v a_a, cown (OwnS 3 (roE rdInt)) F28 (.slice (some ⟨k4, 0, none⟩) (a_a.length : Int).toNat 1) c27] ∧ l_toIntS_L1 rest33 k32 c27 = some R) ⟨_, 0, _, _, [k4], rfl, (EqL.cons rfl (EqL.cons rfl (EqL.cons rfl (EqL.nil)))).eq, rfl, (.sel (.rd (.t .h) rfl (.cons .h .nil))), hF⟩ ?_))
  clear hF
  rintro m30 _ _ ⟨g31, k32, rest33, c27, F28, rfl, rfl, hd35, hE, hF⟩
  refine K_ent hE ?_
  clear hE
  refine K_pure (c := crd (RdS 3 rdInt) v0_0.v a_a) .h crd_bound (fun hbd40 => ?_)
  rcases rest33 with _ | ⟨x34, rest33⟩
  · have hk36 := List.drop_eq_nil_iff.1 hd35
    have hfe39 : (decide (((k32 : Int) : Int) < (a_a.length : Int))) = false := decide_eq_false (by omega)
    rw [l_toIntS_L1] at hF
    refine K_in (K_region (Cm (.int .i64 (k32 : Int)) rfl rfl ?_))
    refine Cm v0_0.v rfl rfl ?_
    refine C_at .h (fun hp => V_lenR (l := a_a.length) sl22 (.tmp rfl rfl) (crd_len hp)) ?_
    refine C_val (V_lss (i := (k32 : Int)) (j := (a_a.length : Int)) (.tmp rfl rfl) (.tmp rfl rfl)) ?_
    refine C_nil (CW_cond (b := (decide (((k32 : Int) : Int) < (a_a.length : Int)))) (.tmp rfl rfl) (fun hb => absurd (hfe39.symm.trans hb) (by decide)) (fun _ => ?_))
    refine CW_exit ?_
    iterate 2 refine CThen_exit ?_
    refine CIn_self (K_region (Cm (.slice (some ⟨k4, 0, none⟩) (a_a.length : Int).toNat 1) rfl rfl ?_))
    refine Ca (.slice (some ⟨k4, 0, none⟩) (a_a.length : Int).toNat 1) rfl rfl ?_
    refine C_nil (CW_ret ?_)
    obtain rfl := Option.some.inj hF
    exact End_ret (⟨(some ⟨k4, 0, none⟩), (a_a.length : Int).toNat, 1⟩, F28) (.tmp rfl rfl .nil) rfl (.sel (.cons (.t .h) .nil))
  obtain ⟨hk36, hx37, hd38⟩ := drop_cons hd35
  have hfe39 : (decide (((k32 : Int) : Int) < (a_a.length : Int))) = true := decide_eq_true (by omega)
  rw [l_toIntS_L1] at hF
  refine K_in (K_region (Cm (.int .i64 (k32 : Int)) rfl rfl ?_))
  refine Cm v0_0.v rfl rfl ?_
  refine C_at .h (fun hp => V_lenR (l := a_a.length) sl22 (.tmp rfl rfl) (crd_len hp)) ?_
  refine C_val (V_lss (i := (k32 : Int)) (j := (a_a.length : Int)) (.tmp rfl rfl) (.tmp rfl rfl)) ?_
  refine C_nil (CW_cond (b := (decide (((k32 : Int) : Int) < (a_a.length : Int)))) (.tmp rfl rfl) (fun _ => ?_) (fun hb => absurd (hfe39.symm.trans hb) (by decide)))
  refine CW_skip (K_block (CW_region (Cm (.slice (some ⟨k4, 0, none⟩) (a_a.length : Int).toNat 1) rfl rfl ?_)))
  refine Cm (.int .i64 (k32 : Int)) rfl rfl ?_
  refine Cm v0_0.v rfl rfl ?_
  refine Cm (.int .i64 (k32 : Int)) rfl rfl ?_
  refine C_idx (a := x34) sl22 ty3.sz (.tmp rfl rfl) (.tmp rfl rfl) .h (Int.natCast_nonneg k32) hx37 (fun k41 j42 => ?_)
  refine C_ldS (w := (.int .i64 x34)) ag3 (.tmp rfl rfl) .h ls3_0 ?_
  obtain ⟨u46, hx47, hF⟩ := bind_some hF
  have hi45 := chk_some hx47
  refine C_idxO sl22 ty3.sz (.tmp rfl rfl) (.tmp rfl rfl) (.t (.t .h)) hi45 (fun k43 hk44 => ?_)
  obtain ⟨z48, hx49, hF⟩ := bind_some hF
  replace hx49 := Option.some.inj hx49
  refine C_x1 (.cons (.t (.t .h)) .nil) (X_storeO (Ro := (roE rdInt)) (a := x34) (i := (k32 : Int)) ty3.sz rfl (.tmp rfl rfl) (.tmp rfl rfl) hk44 hi45 (Mk_pure (fun _ => rfl)) (fun _ _ _ _ h => by obtain ⟨-, h⟩ := h; cases h; rfl)) (fun F50 => ?_)
  rw [hx49]
  refine C_nil (CW_region (Cm (.int .i64 (k32 : Int)) rfl rfl ?_))
  refine C_val (V_add (i := (k32 : Int)) (j := 1) (.tmp rfl rfl) (.int _ _)) ?_
  refine Ca (.int .i64 (IntKind.i64.wrap ((k32 : Int) + 1))) rfl rfl ?_
  refine C_nil ?_
  have hw51 : IntKind.i64.wrap ((k32 : Int) + 1) = ((k32 + 1 : Nat) : Int) := by rw [wrap_in (by omega) (by omega)]; rfl
  rw [hw51]
  exact ⟨_, Nat.lt_succ_self _, _, k32 + 1, rest33, _, F50, rfl, (EqL.cons rfl (EqL.cons rfl (EqL.cons rfl (EqL.nil)))).eq, hd38, (.sel (.rd (.t (.t .h)) rfl (.cons .h .nil))), hF⟩

/-! laws.toMethod -/
def l_toMethod (a_a : Method) : Option (Method) :=
  (l_toIntS a_a.Inputs).bind fun r4 =>
  some ({ Rel := a_a.Rel, Inputs := r4, Limit := a_a.Limit, Cost := a_a.Cost, Quota := a_a.Quota } : Method)
theorem l_toMethod_ok (a_a : Method) (v0_1 : Sv) (R : Method) (hF : l_toMethod a_a = some R) :
    Fw.Spec Tryz.prog 61 [(.agg [(.int .i64 a_a.Rel), v0_1.v, (.int .i64 a_a.Limit), (.int .i64 a_a.Cost), (.int .i64 a_a.Quota)].toArray)] [crd (RdS 3 rdInt) v0_1.v a_a.Inputs] (fun p : Sv × List Nat => (.agg [(.int .i64 R.Rel), p.1.v, (.int .i64 R.Limit), (.int .i64 R.Cost), (.int .i64 R.Quota)].toArray)) (fun p => [cown (OwnS 3 (roE rdInt)) p.2 p.1.v R.Inputs]) := by
  refine Spec_enter (n := 21) Tryz.func61 rfl rfl (rs := [.cell 2 108]) rfl rfl rfl ?_
  intro H0 F0
  unfold l_toMethod at hF
  refine K_region (C_newR rfl (N_box (g := false) (v := (.agg [(.int .i64 a_a.Rel), v0_1.v, (.int .i64 a_a.Limit), (.int .i64 a_a.Cost), (.int .i64 a_a.Quota)].toArray)) ty89.sz (.tmp rfl rfl) rfl) (fun k1 => ?_))
  refine C_new rfl (N_allocT (g := true) ty108 rfl rfl) (fun k2 => ?_)
  refine C_nil (K_region (C_new rfl (N_allocT (g := true) ty108 rfl rfl) (fun k3 => ?_)))
  refine C_nil (K_region (C_val (V_fieldAddr (off := 0) fd89_0 (.tmp rfl rfl)) ?_))
  refine C_at (.t (.t .h)) (fun hp => V_load (v := (.int .i64 a_a.Rel)) ag3 (.tmp rfl rfl) hp.2 rfl rfl) ?_
  refine C_val (V_fieldAddr (off := 0) fd108_0 (.tmp rfl rfl)) ?_
  refine C_x1 (.cons .h .nil) (X_storeB (e' := (.agg [(.int .i64 a_a.Rel), (.slice none 0 0), (.int .i64 0), (.int .i64 0), (.int .i64 0)].toArray)) (v := (.int .i64 a_a.Rel)) ty3.sz (.tmp rfl rfl) (.tmp rfl rfl) rfl rfl rfl rfl rfl) (fun _ => ?_)
  refine C_nil (K_region (C_val (V_fieldAddr (off := 1) fd89_1 (.tmp rfl rfl)) ?_))
  refine C_at (.t (.t .h)) (fun hp => V_load (v := v0_1.v) ag22 (.tmp rfl rfl) hp.2 rfl rfl) ?_
  obtain ⟨r4, hx5, hF⟩ := bind_some hF
  refine C_x1 (.rd (.t (.t (.t .h))) rfl .nil) (X_callS cf21 (.cons (.tmp rfl rfl) .nil) (l_toIntS_ok a_a.Inputs v0_1 _ hx5)) (fun p6 => ?_)
  refine C_val (V_fieldAddr (off := 1) fd108_1 (.tmp rfl rfl)) ?_
  refine C_x1 (.cons (.t .h) .nil) (X_storeB (e' := (.agg [(.int .i64 a_a.Rel), p6.1.v, (.int .i64 0), (.int .i64 0), (.int .i64 0)].toArray)) ty22.sz (.tmp rfl rfl) (.tmp rfl rfl) rfl rfl rfl rfl rfl) (fun _ => ?_)
  refine C_nil (K_region (C_val (V_fieldAddr (off := 2) fd89_2 (.tmp rfl rfl)) ?_))
  refine C_at (.t (.t (.t .h))) (fun hp => V_load (v := (.int .i64 a_a.Limit)) ag3 (.tmp rfl rfl) hp.2 rfl rfl) ?_
  refine C_val (V_fieldAddr (off := 2) fd108_2 (.tmp rfl rfl)) ?_
  refine C_x1 (.cons .h .nil) (X_storeB (e' := (.agg [(.int .i64 a_a.Rel), p6.1.v, (.int .i64 a_a.Limit), (.int .i64 0), (.int .i64 0)].toArray)) (v := (.int .i64 a_a.Limit)) ty3.sz (.tmp rfl rfl) (.tmp rfl rfl) rfl rfl rfl rfl rfl) (fun _ => ?_)
  refine C_nil (K_region (C_val (V_fieldAddr (off := 3) fd89_3 (.tmp rfl rfl)) ?_))
  refine C_at (.t (.t (.t .h))) (fun hp => V_load (v := (.int .i64 a_a.Cost)) ag3 (.tmp rfl rfl) hp.2 rfl rfl) ?_
  refine C_val (V_fieldAddr (off := 3) fd108_3 (.tmp rfl rfl)) ?_
  refine C_x1 (.cons .h .nil) (X_storeB (e' := (.agg [(.int .i64 a_a.Rel), p6.1.v, (.int .i64 a_a.Limit), (.int .i64 a_a.Cost), (.int .i64 0)].toArray)) (v := (.int .i64 a_a.Cost)) ty3.sz (.tmp rfl rfl) (.tmp rfl rfl) rfl rfl rfl rfl rfl) (fun _ => ?_)
  refine C_nil (K_region (C_val (V_fieldAddr (off := 4) fd89_4 (.tmp rfl rfl)) ?_))
  refine C_at (.t (.t (.t .h))) (fun hp => V_load (v := (.int .i64 a_a.Quota)) ag3 (.tmp rfl rfl) hp.2 rfl rfl) ?_
  refine C_val (V_fieldAddr (off := 4) fd108_4 (.tmp rfl rfl)) ?_
  refine C_x1 (.cons .h .nil) (X_storeB (e' := (.agg [(.int .i64 a_a.Rel), p6.1.v, (.int .i64 a_a.Limit), (.int .i64 a_a.Cost), (.int .i64 a_a.Quota)].toArray)) (v := (.int .i64 a_a.Quota)) ty3.sz (.tmp rfl rfl) (.tmp rfl rfl) rfl rfl rfl rfl rfl) (fun _ => ?_)
  refine C_nil (K_region (C_at .h (fun hp => V_loadBox ag108 ty108.sz rfl (.tmp rfl rfl) hp.2 rfl) ?_))
  refine C_x1 (.cons (.t (.t .h)) .nil) (X_storeB (e' := (.agg [(.int .i64 a_a.Rel), p6.1.v, (.int .i64 a_a.Limit), (.int .i64 a_a.Cost), (.int .i64 a_a.Quota)].toArray)) (v := (.agg [(.int .i64 a_a.Rel), p6.1.v, (.int .i64 a_a.Limit), (.int .i64 a_a.Cost), (.int .i64 a_a.Quota)].toArray)) ty108.sz (.tmp rfl rfl) (.tmp rfl rfl) rfl rfl rfl rfl rfl) (fun _ => ?_)
  refine C_nil (CW_ret ?_)
  obtain rfl := Option.some.inj hF
  exact End_ret (p6.1, p6.2) (.cellA rfl rfl .h rfl ag108 ty108.sz rfl rfl .nil) rfl (.sel (.cons (.t (.t .h)) .nil))

/-! laws.toMethodS -/
def l_toMethodS_L1 : List Method → Nat → (List Method) → Option ((List Method))
  | [], k36, c31 => some c31
  | x38 :: rest37, k36, c31 => (l_toMethod x38).bind fun r48 =>
    (chk (decide (0 ≤ (k36 : Int)) && decide ((k36 : Int) < (c31.length : Int)))).bind fun u54 =>
    (some (c31.set ((k36 : Int)).toNat r48)).bind fun z56 =>
    l_toMethodS_L1 rest37 (k36 + 1) z56
def l_toMethodS (a_a : List Method) : Option ((List Method)) :=
  (mkz (a_a.length : Int) (({ Rel := 0, Inputs := [], Limit := 0, Cost := 0, Quota := 0 } : Method) : Method)).bind fun z1 =>
  l_toMethodS_L1 a_a 0 z1
theorem l_toMethodS_ok (a_a : List Method) (v0_0 : Sv) (R : (List Method)) (hF : l_toMethodS a_a = some R) :
    Fw.Spec Tryz.prog 22 [v0_0.v] [crd (RdS 89 rd89) v0_0.v a_a] (fun p : Sv × List Nat => p.1.v) (fun p => [cown (OwnS 108 ow108) p.2 p.1.v R]) := by
  refine Spec_enter (n := 23) Tryz.func22 rfl rfl (rs := [.tmp 2]) rfl rfl rfl ?_
  intro H0 F0
  unfold l_toMethodS at hF
  refine K_region (C_val (V_assign (v := (.slice none 0 0)) EV.nilSlice) ?_)
  refine C_nil (K_region (Cm v0_0.v rfl rfl ?_))
  refine C_at .h (fun hp => V_lenR (l := a_a.length) sl23 (.tmp rfl rfl) (crd_len hp)) ?_
  obtain ⟨z1, hx2, hF⟩ := bind_some hF
  have hm3 := mkz_some hx2
  refine C_new rfl (N_makeSlice (g := true) (c := (a_a.length : Int)) sl37 ty108 rfl rfl (by decide) (.tmp rfl rfl) hm3.2.1 hm3.2.2) (fun k4 => ?_)
  refine C_conv (.cons .h .nil) (own_make (Ro := ow108) (E := 108) (a := (({ Rel := 0, Inputs := [], Limit := 0, Cost := 0, Quota := 0 } : Method) : Method)) hx2 (fun _ => ⟨⟨none, 0, 0⟩, [], rfl, rfl, .inl ⟨rfl, rfl, rfl⟩⟩)) apps ?_
  refine Ca (.slice (some ⟨k4, 0, none⟩) (a_a.length : Int).toNat 1) rfl rfl ?_
  refine C_nil (K_in (K_region (C_val (V_assign (v := (.int .i64 0)) (.int _ _)) ?_)))
  refine C_nil (CW_block (CW_loop (m := a_a.length) (fun m34 f' cs' => ∃ (g : Fr) (k36 : Nat) (rest37 : List Method) (c31 : List Method) (F32 : List Nat), m34 = rest37.length ∧ f' = updL g [(0, v0_0.v), (3, (.slice (some ⟨k4, 0, none⟩) (a_a.length : Int).toNat 1)), (4, (.int .i64 (k36 : Int)))] ∧ List.drop k36 a_a = rest37 ∧ Ent cs' [crd (RdS 89 rd89) v0_0.v a_a, cown (OwnS 108 ow108) F32 (.slice (some ⟨k4, 0, none⟩) (a_a.length : Int).toNat 1) c31] ∧ l_toMethodS_L1 rest37 k36 c31 = some R) ⟨_, 0, _, _, [k4], rfl, (EqL.cons rfl (EqL.cons rfl (EqL.cons rfl (EqL.nil)))).eq, rfl, (.sel (.rd (.t .h) rfl (.cons .h .nil))), hF⟩ ?_))
  clear hF
  rintro m34 _ _ ⟨g35, k36, rest37, c31, F32, rfl, rfl, hd39, hE, hF⟩
  refine K_ent hE ?_
  clear hE
  refine K_pure (c := crd (RdS 89 rd89) v0_0.v a_a) .h crd_bound (fun hbd44 => ?_)
  rcases rest37 with _ | ⟨x38, rest37⟩
  · have hk40 := List.drop_eq_nil_iff.1 hd39
    have hfe43 : (decide (((k36 : Int) : Int) < (a_a.length : Int))) = false := decide_eq_false (by omega)
    rw [l_toMethodS_L1] at hF
    refine K_in (K_region (Cm (.int .i64 (k36 : Int)) rfl rfl ?_))
    refine Cm v0_0.v rfl rfl ?_
    refine C_at .h (fun hp => V_lenR (l := a_a.length) sl23 (.tmp rfl rfl) (crd_len hp)) ?_
    refine C_val (V_lss (i := (k36 : Int)) (j := (a_a.length : Int)) (.tmp rfl rfl) (.tmp rfl rfl)) ?_
    refine C_nil (CW_cond (b := (decide (((k36 : Int) : Int) < (a_a.length : Int)))) (.tmp rfl rfl) (fun hb => absurd (hfe43.symm.trans hb) (by decide)) (fun _ => ?_))
    refine CW_exit ?_
    iterate 2 refine CThen_exit ?_
    refine CIn_self (K_region (Cm (.slice (some ⟨k4, 0, none⟩) (a_a.length : Int).toNat 1) rfl rfl ?_))
    refine Ca (.slice (some ⟨k4, 0, none⟩) (a_a.length : Int).toNat 1) rfl rfl ?_
    refine C_nil (CW_ret ?_)
    obtain rfl := Option.some.inj hF
    exact End_ret (⟨(some ⟨k4, 0, none⟩), (a_a.length : Int).toNat, 1⟩, F32) (.tmp rfl rfl .nil) rfl (.sel (.cons (.t .h) .nil))
  obtain ⟨hk40, hx41, hd42⟩ := drop_cons hd39
  have hfe43 : (decide (((k36 : Int) : Int) < (a_a.length : Int))) = true := decide_eq_true (by omega)
  rw [l_toMethodS_L1] at hF
  refine K_in (K_region (Cm (.int .i64 (k36 : Int)) rfl rfl ?_))
  refine Cm v0_0.v rfl rfl ?_
  refine C_at .h (fun hp => V_lenR (l := a_a.length) sl23 (.tmp rfl rfl) (crd_len hp)) ?_
  refine C_val (V_lss (i := (k36 : Int)) (j := (a_a.length : Int)) (.tmp rfl rfl) (.tmp rfl rfl)) ?_
  refine C_nil (CW_cond (b := (decide (((k36 : Int) : Int) < (a_a.length : Int)))) (.tmp rfl rfl) (fun _ => ?_) (fun hb => absurd (hfe43.symm.trans hb) (by decide)))
  refine CW_skip (K_block (CW_region (Cm (.slice (some ⟨k4, 0, none⟩) (a_a.length : Int).toNat 1) rfl rfl ?_)))
  refine Cm (.int .i64 (k36 : Int)) rfl rfl ?_
  refine Cm v0_0.v rfl rfl ?_
  refine Cm (.int .i64 (k36 : Int)) rfl rfl ?_
  refine C_idx (a := x38) sl23 ty89.sz (.tmp rfl rfl) (.tmp rfl rfl) .h (Int.natCast_nonneg k36) hx41 (fun k45 j46 => ?_)
  refine C_ldA1 (ul89_0_89 x38) ag89 ty89.sz rfl (.tmp rfl rfl) .h la89_0_89 (fun p47 => ?_)
  obtain ⟨r48, hx49, hF⟩ := bind_some hF
  refine C_x1 (.rd .h rfl .nil) (X_callS cf61 (.cons (.tmp rfl rfl) .nil) (l_toMethod_ok x38 p47 _ hx49)) (fun p50 => ?_)
  obtain ⟨u54, hx55, hF⟩ := bind_some hF
  have hi53 := chk_some hx55
  refine C_idxO sl37 ty108.sz (.tmp rfl rfl) (.tmp rfl rfl) (.t (.t (.t (.t .h)))) hi53 (fun k51 hk52 => ?_)
  obtain ⟨z56, hx57, hF⟩ := bind_some hF
  replace hx57 := Option.some.inj hx57
  refine C_x1 (.cons (.t (.t (.t (.t .h)))) (.cons .h .nil)) (X_storeO (Ro := ow108) (a := r48) (i := (k36 : Int)) ty108.sz rfl (.tmp rfl rfl) (.tmp rfl rfl) hk52 hi53 mk108 (fun _ _ _ _ h => by obtain ⟨_, _, rfl, rfl, _⟩ := h; rfl)) (fun F58 => ?_)
  rw [hx57]
  refine C_nil (CW_region (Cm (.int .i64 (k36 : Int)) rfl rfl ?_))
  refine C_val (V_add (i := (k36 : Int)) (j := 1) (.tmp rfl rfl) (.int _ _)) ?_
  refine Ca (.int .i64 (IntKind.i64.wrap ((k36 : Int) + 1))) rfl rfl ?_
  refine C_nil ?_
  have hw59 : IntKind.i64.wrap ((k36 : Int) + 1) = ((k36 + 1 : Nat) : Int) := by rw [wrap_in (by omega) (by omega)]; rfl
  rw [hw59]
  exact ⟨_, Nat.lt_succ_self _, _, k36 + 1, rest37, _, F58, rfl, (EqL.cons rfl (EqL.cons rfl (EqL.cons rfl (EqL.nil)))).eq, hd42, (.sel (.rd (.t (.t (.t .h))) rfl (.cons .h .nil))), hF⟩

/-! laws.toRule -/
def l_toRule (a_a : Rule) : Option (Rule) :=
  (l_toIntS a_a.Map).bind fun r4 =>
  some ({ From := a_a.From, To := a_a.To, Map := r4 } : Rule)
theorem l_toRule_ok (a_a : Rule) (v0_2 : Sv) (R : Rule) (hF : l_toRule a_a = some R) :
    Fw.Spec Tryz.prog 62 [(.agg [(.int .i64 a_a.From), (.int .i64 a_a.To), v0_2.v].toArray)] [crd (RdS 3 rdInt) v0_2.v a_a.Map] (fun p : Sv × List Nat => (.agg [(.int .i64 R.From), (.int .i64 R.To), p.1.v].toArray)) (fun p => [cown (OwnS 3 (roE rdInt)) p.2 p.1.v R.Map]) := by
  refine Spec_enter (n := 15) Tryz.func62 rfl rfl (rs := [.cell 2 110]) rfl rfl rfl ?_
  intro H0 F0
  unfold l_toRule at hF
  refine K_region (C_newR rfl (N_box (g := false) (v := (.agg [(.int .i64 a_a.From), (.int .i64 a_a.To), v0_2.v].toArray)) ty92.sz (.tmp rfl rfl) rfl) (fun k1 => ?_))
  refine C_new rfl (N_allocT (g := true) ty110 rfl rfl) (fun k2 => ?_)
  refine C_nil (K_region (C_new rfl (N_allocT (g := true) ty110 rfl rfl) (fun k3 => ?_)))
  refine C_nil (K_region (C_val (V_fieldAddr (off := 0) fd92_0 (.tmp rfl rfl)) ?_))
  refine C_at (.t (.t .h)) (fun hp => V_load (v := (.int .i64 a_a.From)) ag3 (.tmp rfl rfl) hp.2 rfl rfl) ?_
  refine C_val (V_fieldAddr (off := 0) fd110_0 (.tmp rfl rfl)) ?_
  refine C_x1 (.cons .h .nil) (X_storeB (e' := (.agg [(.int .i64 a_a.From), (.int .i64 0), (.slice none 0 0)].toArray)) (v := (.int .i64 a_a.From)) ty3.sz (.tmp rfl rfl) (.tmp rfl rfl) rfl rfl rfl rfl rfl) (fun _ => ?_)
  refine C_nil (K_region (C_val (V_fieldAddr (off := 1) fd92_1 (.tmp rfl rfl)) ?_))
  refine C_at (.t (.t .h)) (fun hp => V_load (v := (.int .i64 a_a.To)) ag3 (.tmp rfl rfl) hp.2 rfl rfl) ?_
  refine C_val (V_fieldAddr (off := 1) fd110_1 (.tmp rfl rfl)) ?_
  refine C_x1 (.cons .h .nil) (X_storeB (e' := (.agg [(.int .i64 a_a.From), (.int .i64 a_a.To), (.slice none 0 0)].toArray)) (v := (.int .i64 a_a.To)) ty3.sz (.tmp rfl rfl) (.tmp rfl rfl) rfl rfl rfl rfl rfl) (fun _ => ?_)
  refine C_nil (K_region (C_val (V_fieldAddr (off := 2) fd92_2 (.tmp rfl rfl)) ?_))
  refine C_at (.t (.t .h)) (fun hp => V_load (v := v0_2.v) ag22 (.tmp rfl rfl) hp.2 rfl rfl) ?_
  obtain ⟨r4, hx5, hF⟩ := bind_some hF
  refine C_x1 (.rd (.t (.t (.t .h))) rfl .nil) (X_callS cf21 (.cons (.tmp rfl rfl) .nil) (l_toIntS_ok a_a.Map v0_2 _ hx5)) (fun p6 => ?_)
  refine C_val (V_fieldAddr (off := 2) fd110_2 (.tmp rfl rfl)) ?_
  refine C_x1 (.cons (.t .h) .nil) (X_storeB (e' := (.agg [(.int .i64 a_a.From), (.int .i64 a_a.To), p6.1.v].toArray)) ty22.sz (.tmp rfl rfl) (.tmp rfl rfl) rfl rfl rfl rfl rfl) (fun _ => ?_)
  refine C_nil (K_region (C_at .h (fun hp => V_loadBox ag110 ty110.sz rfl (.tmp rfl rfl) hp.2 rfl) ?_))
  refine C_x1 (.cons (.t (.t .h)) .nil) (X_storeB (e' := (.agg [(.int .i64 a_a.From), (.int .i64 a_a.To), p6.1.v].toArray)) (v := (.agg [(.int .i64 a_a.From), (.int .i64 a_a.To), p6.1.v].toArray)) ty110.sz (.tmp rfl rfl) (.tmp rfl rfl) rfl rfl rfl rfl rfl) (fun _ => ?_)
  refine C_nil (CW_ret ?_)
  obtain rfl := Option.some.inj hF
  exact End_ret (p6.1, p6.2) (.cellA rfl rfl .h rfl ag110 ty110.sz rfl rfl .nil) rfl (.sel (.cons (.t (.t .h)) .nil))

/-! laws.toRuleS -/
def l_toRuleS_L1 : List Rule → Nat → (List Rule) → Option ((List Rule))
  | [], k36, c31 => some c31
  | x38 :: rest37, k36, c31 => (l_toRule x38).bind fun r48 =>
    (chk (decide (0 ≤ (k36 : Int)) && decide ((k36 : Int) < (c31.length : Int)))).bind fun u54 =>
    (some (c31.set ((k36 : Int)).toNat r48)).bind fun z56 =>
    l_toRuleS_L1 rest37 (k36 + 1) z56
def l_toRuleS (a_a : List Rule) : Option ((List Rule)) :=
  (mkz (a_a.length : Int) (({ From := 0, To := 0, Map := [] } : Rule) : Rule)).bind fun z1 =>
  l_toRuleS_L1 a_a 0 z1
theorem l_toRuleS_ok (a_a : List Rule) (v0_0 : Sv) (R : (List Rule)) (hF : l_toRuleS a_a = some R) :
    Fw.Spec Tryz.prog 23 [v0_0.v] [crd (RdS 92 rd92) v0_0.v a_a] (fun p : Sv × List Nat => p.1.v) (fun p => [cown (OwnS 110 ow110) p.2 p.1.v R]) := by
  refine Spec_enter (n := 23) Tryz.func23 rfl rfl (rs := [.tmp 2]) rfl rfl rfl ?_
  intro H0 F0
  unfold l_toRuleS at hF
  refine K_region (C_val (V_assign (v := (.slice none 0 0)) EV.nilSlice) ?_)
  refine C_nil (K_region (Cm v0_0.v rfl rfl ?_))
  refine C_at .h (fun hp => V_lenR (l := a_a.length) sl24 (.tmp rfl rfl) (crd_len hp)) ?_
  obtain ⟨z1, hx2, hF⟩ := bind_some hF
  have hm3 := mkz_some hx2
  refine C_new rfl (N_makeSlice (g := true) (c := (a_a.length : Int)) sl38 ty110 rfl rfl (by decide) (.tmp rfl rfl) hm3.2.1 hm3.2.2) (fun k4 => ?_)
  refine C_conv (.cons .h .nil) (own_make (Ro := ow110) (E := 110) (a := (({ From := 0, To := 0, Map := [] } : Rule) : Rule)) hx2 (fun _ => ⟨⟨none, 0, 0⟩, [], rfl, rfl, .inl ⟨rfl, rfl, rfl⟩⟩)) apps ?_
  refine Ca (.slice (some ⟨k4, 0, none⟩) (a_a.length : Int).toNat 1) rfl rfl ?_
  refine C_nil (K_in (K_region (C_val (V_assign (v := (.int .i64 0)) (.int _ _)) ?_)))
  refine C_nil (CW_block (CW_loop (m := a_a.length) (fun m34 f' cs' => ∃ (g : Fr) (k36 : Nat) (rest37 : List Rule) (c31 : List Rule) (F32 : List Nat), m34 = rest37.length ∧ f' = updL g [(0, v0_0.v), (3, (.slice (some ⟨k4, 0, none⟩) (a_a.length : Int).toNat 1)), (4, (.int .i64 (k36 : Int)))] ∧ List.drop k36 a_a = rest37 ∧ Ent cs' [crd (RdS 92 rd92) v0_0.v a_a, cown (OwnS 110 ow110) F32 (.slice (some ⟨k4, 0, none⟩) (a_a.length : Int).toNat 1) c31] ∧ l_toRuleS_L1 rest37 k36 c31 = some R) ⟨_, 0, _, _, [k4], rfl, (EqL.cons rfl (EqL.cons rfl (EqL.cons rfl (EqL.nil)))).eq, rfl, (.sel (.rd (.t .h) rfl (.cons .h .nil))), hF⟩ ?_))
  clear hF
  rintro m34 _ _ ⟨g35, k36, rest37, c31, F32, rfl, rfl, hd39, hE, hF⟩
  refine K_ent hE ?_
  clear hE
  refine K_pure (c := crd (RdS 92 rd92) v0_0.v a_a) .h crd_bound (fun hbd44 => ?_)
  rcases rest37 with _ | ⟨x38, rest37⟩
  · have hk40 := List.drop_eq_nil_iff.1 hd39
    have hfe43 : (decide (((k36 : Int) : Int) < (a_a.length : Int))) = false := decide_eq_false (by omega)
    rw [l_toRuleS_L1] at hF
    refine K_in (K_region (Cm (.int .i64 (k36 : Int)) rfl rfl ?_))
    refine Cm v0_0.v rfl rfl ?_
    refine C_at .h (fun hp => V_lenR (l := a_a.length) sl24 (.tmp rfl rfl) (crd_len hp)) ?_
    refine C_val (V_lss (i := (k36 : Int)) (j := (a_a.length : Int)) (.tmp rfl rfl) (.tmp rfl rfl)) ?_
    refine C_nil (CW_cond (b := (decide (((k36 : Int) : Int) < (a_a.length : Int)))) (.tmp rfl rfl) (fun hb => absurd (hfe43.symm.trans hb) (by decide)) (fun _ => ?_))
    refine CW_exit ?_
    iterate 2 refine CThen_exit ?_
    refine CIn_self (K_region (Cm (.slice (some ⟨k4, 0, none⟩) (a_a.length : Int).toNat 1) rfl rfl ?_))
    refine Ca (.slice (some ⟨k4, 0, none⟩) (a_a.length : Int).toNat 1) rfl rfl ?_
    refine C_nil (CW_ret ?_)
    obtain rfl := Option.some.inj hF
    exact End_ret (⟨(some ⟨k4, 0, none⟩), (a_a.length : Int).toNat, 1⟩, F32) (.tmp rfl rfl .nil) rfl (.sel (.cons (.t .h) .nil))
  obtain ⟨hk40, hx41, hd42⟩ := drop_cons hd39
  have hfe43 : (decide (((k36 : Int) : Int) < (a_a.length : Int))) = true := decide_eq_true (by omega)
  rw [l_toRuleS_L1] at hF
  refine K_in (K_region (Cm (.int .i64 (k36 : Int)) rfl rfl ?_))
  refine Cm v0_0.v rfl rfl ?_
  refine C_at .h (fun hp => V_lenR (l := a_a.length) sl24 (.tmp rfl rfl) (crd_len hp)) ?_
  refine C_val (V_lss (i := (k36 : Int)) (j := (a_a.length : Int)) (.tmp rfl rfl) (.tmp rfl rfl)) ?_
  refine C_nil (CW_cond (b := (decide (((k36 : Int) : Int) < (a_a.length : Int)))) (.tmp rfl rfl) (fun _ => ?_) (fun hb => absurd (hfe43.symm.trans hb) (by decide)))
  refine CW_skip (K_block (CW_region (Cm (.slice (some ⟨k4, 0, none⟩) (a_a.length : Int).toNat 1) rfl rfl ?_)))
  refine Cm (.int .i64 (k36 : Int)) rfl rfl ?_
  refine Cm v0_0.v rfl rfl ?_
  refine Cm (.int .i64 (k36 : Int)) rfl rfl ?_
  refine C_idx (a := x38) sl24 ty92.sz (.tmp rfl rfl) (.tmp rfl rfl) .h (Int.natCast_nonneg k36) hx41 (fun k45 j46 => ?_)
  refine C_ldA1 (ul92_0_92 x38) ag92 ty92.sz rfl (.tmp rfl rfl) .h la92_0_92 (fun p47 => ?_)
  obtain ⟨r48, hx49, hF⟩ := bind_some hF
  refine C_x1 (.rd .h rfl .nil) (X_callS cf62 (.cons (.tmp rfl rfl) .nil) (l_toRule_ok x38 p47 _ hx49)) (fun p50 => ?_)
  obtain ⟨u54, hx55, hF⟩ := bind_some hF
  have hi53 := chk_some hx55
  refine C_idxO sl38 ty110.sz (.tmp rfl rfl) (.tmp rfl rfl) (.t (.t (.t (.t .h)))) hi53 (fun k51 hk52 => ?_)
  obtain ⟨z56, hx57, hF⟩ := bind_some hF
  replace hx57 := Option.some.inj hx57
  refine C_x1 (.cons (.t (.t (.t (.t .h)))) (.cons .h .nil)) (X_storeO (Ro := ow110) (a := r48) (i := (k36 : Int)) ty110.sz rfl (.tmp rfl rfl) (.tmp rfl rfl) hk52 hi53 mk110 (fun _ _ _ _ h => by obtain ⟨_, _, rfl, rfl, _⟩ := h; rfl)) (fun F58 => ?_)
  rw [hx57]
  refine C_nil (CW_region (Cm (.int .i64 (k36 : Int)) rfl rfl ?_))
  refine C_val (V_add (i := (k36 : Int)) (j := 1) (.tmp rfl rfl) (.int _ _)) ?_
  refine Ca (.int .i64 (IntKind.i64.wrap ((k36 : Int) + 1))) rfl rfl ?_
  refine C_nil ?_
  have hw59 : IntKind.i64.wrap ((k36 : Int) + 1) = ((k36 + 1 : Nat) : Int) := by rw [wrap_in (by omega) (by omega)]; rfl
  rw [hw59]
  exact ⟨_, Nat.lt_succ_self _, _, k36 + 1, rest37, _, F58, rfl, (EqL.cons rfl (EqL.cons rfl (EqL.cons rfl (EqL.nil)))).eq, hd42, (.sel (.rd (.t (.t (.t .h))) rfl (.cons .h .nil))), hF⟩

/-! laws.toFact -/
def l_toFact (a_a : Fact) : Option (Fact) :=
  (l_toIntS a_a.Values).bind fun r4 =>
  some ({ Rel := a_a.Rel, Values := r4 } : Fact)
theorem l_toFact_ok (a_a : Fact) (v0_1 : Sv) (R : Fact) (hF : l_toFact a_a = some R) :
    Fw.Spec Tryz.prog 100 [(.agg [(.int .i64 a_a.Rel), v0_1.v].toArray)] [crd (RdS 3 rdInt) v0_1.v a_a.Values] (fun p : Sv × List Nat => (.agg [(.int .i64 R.Rel), p.1.v].toArray)) (fun p => [cown (OwnS 3 (roE rdInt)) p.2 p.1.v R.Values]) := by
  refine Spec_enter (n := 12) Tryz.func100 rfl rfl (rs := [.cell 2 80]) rfl rfl rfl ?_
  intro H0 F0
  unfold l_toFact at hF
  refine K_region (C_newR rfl (N_box (g := false) (v := (.agg [(.int .i64 a_a.Rel), v0_1.v].toArray)) ty139.sz (.tmp rfl rfl) rfl) (fun k1 => ?_))
  refine C_new rfl (N_allocT (g := true) ty80 rfl rfl) (fun k2 => ?_)
  refine C_nil (K_region (C_new rfl (N_allocT (g := true) ty80 rfl rfl) (fun k3 => ?_)))
  refine C_nil (K_region (C_val (V_fieldAddr (off := 0) fd139_0 (.tmp rfl rfl)) ?_))
  refine C_at (.t (.t .h)) (fun hp => V_load (v := (.int .i64 a_a.Rel)) ag3 (.tmp rfl rfl) hp.2 rfl rfl) ?_
  refine C_val (V_fieldAddr (off := 0) fd80_0 (.tmp rfl rfl)) ?_
  refine C_x1 (.cons .h .nil) (X_storeB (e' := (.agg [(.int .i64 a_a.Rel), (.slice none 0 0)].toArray)) (v := (.int .i64 a_a.Rel)) ty3.sz (.tmp rfl rfl) (.tmp rfl rfl) rfl rfl rfl rfl rfl) (fun _ => ?_)
  refine C_nil (K_region (C_val (V_fieldAddr (off := 1) fd139_1 (.tmp rfl rfl)) ?_))
  refine C_at (.t (.t .h)) (fun hp => V_load (v := v0_1.v) ag22 (.tmp rfl rfl) hp.2 rfl rfl) ?_
  obtain ⟨r4, hx5, hF⟩ := bind_some hF
  refine C_x1 (.rd (.t (.t (.t .h))) rfl .nil) (X_callS cf21 (.cons (.tmp rfl rfl) .nil) (l_toIntS_ok a_a.Values v0_1 _ hx5)) (fun p6 => ?_)
  refine C_val (V_fieldAddr (off := 1) fd80_1 (.tmp rfl rfl)) ?_
  refine C_x1 (.cons (.t .h) .nil) (X_storeB (e' := (.agg [(.int .i64 a_a.Rel), p6.1.v].toArray)) ty22.sz (.tmp rfl rfl) (.tmp rfl rfl) rfl rfl rfl rfl rfl) (fun _ => ?_)
  refine C_nil (K_region (C_at .h (fun hp => V_loadBox ag80 ty80.sz rfl (.tmp rfl rfl) hp.2 rfl) ?_))
  refine C_x1 (.cons (.t (.t .h)) .nil) (X_storeB (e' := (.agg [(.int .i64 a_a.Rel), p6.1.v].toArray)) (v := (.agg [(.int .i64 a_a.Rel), p6.1.v].toArray)) ty80.sz (.tmp rfl rfl) (.tmp rfl rfl) rfl rfl rfl rfl rfl) (fun _ => ?_)
  refine C_nil (CW_ret ?_)
  obtain rfl := Option.some.inj hF
  exact End_ret (p6.1, p6.2) (.cellA rfl rfl .h rfl ag80 ty80.sz rfl rfl .nil) rfl (.sel (.cons (.t (.t .h)) .nil))

/-! laws.toFactS -/
def l_toFactS_L1 : List Fact → Nat → (List Fact) → Option ((List Fact))
  | [], k36, c31 => some c31
  | x38 :: rest37, k36, c31 => (l_toFact x38).bind fun r48 =>
    (chk (decide (0 ≤ (k36 : Int)) && decide ((k36 : Int) < (c31.length : Int)))).bind fun u54 =>
    (some (c31.set ((k36 : Int)).toNat r48)).bind fun z56 =>
    l_toFactS_L1 rest37 (k36 + 1) z56
def l_toFactS (a_a : List Fact) : Option ((List Fact)) :=
  (mkz (a_a.length : Int) (({ Rel := 0, Values := [] } : Fact) : Fact)).bind fun z1 =>
  l_toFactS_L1 a_a 0 z1
theorem l_toFactS_ok (a_a : List Fact) (v0_0 : Sv) (R : (List Fact)) (hF : l_toFactS a_a = some R) :
    Fw.Spec Tryz.prog 63 [v0_0.v] [crd (RdS 139 rd139) v0_0.v a_a] (fun p : Sv × List Nat => p.1.v) (fun p => [cown (OwnS 80 ow80) p.2 p.1.v R]) := by
  refine Spec_enter (n := 23) Tryz.func63 rfl rfl (rs := [.tmp 2]) rfl rfl rfl ?_
  intro H0 F0
  unfold l_toFactS at hF
  refine K_region (C_val (V_assign (v := (.slice none 0 0)) EV.nilSlice) ?_)
  refine C_nil (K_region (Cm v0_0.v rfl rfl ?_))
  refine C_at .h (fun hp => V_lenR (l := a_a.length) sl25 (.tmp rfl rfl) (crd_len hp)) ?_
  obtain ⟨z1, hx2, hF⟩ := bind_some hF
  have hm3 := mkz_some hx2
  refine C_new rfl (N_makeSlice (g := true) (c := (a_a.length : Int)) sl39 ty80 rfl rfl (by decide) (.tmp rfl rfl) hm3.2.1 hm3.2.2) (fun k4 => ?_)
  refine C_conv (.cons .h .nil) (own_make (Ro := ow80) (E := 80) (a := (({ Rel := 0, Values := [] } : Fact) : Fact)) hx2 (fun _ => ⟨⟨none, 0, 0⟩, [], rfl, rfl, .inl ⟨rfl, rfl, rfl⟩⟩)) apps ?_
  refine Ca (.slice (some ⟨k4, 0, none⟩) (a_a.length : Int).toNat 1) rfl rfl ?_
  refine C_nil (K_in (K_region (C_val (V_assign (v := (.int .i64 0)) (.int _ _)) ?_)))
  refine C_nil (CW_block (CW_loop (m := a_a.length) (fun m34 f' cs' => ∃ (g : Fr) (k36 : Nat) (rest37 : List Fact) (c31 : List Fact) (F32 : List Nat), m34 = rest37.length ∧ f' = updL g [(0, v0_0.v), (3, (.slice (some ⟨k4, 0, none⟩) (a_a.length : Int).toNat 1)), (4, (.int .i64 (k36 : Int)))] ∧ List.drop k36 a_a = rest37 ∧ Ent cs' [crd (RdS 139 rd139) v0_0.v a_a, cown (OwnS 80 ow80) F32 (.slice (some ⟨k4, 0, none⟩) (a_a.length : Int).toNat 1) c31] ∧ l_toFactS_L1 rest37 k36 c31 = some R) ⟨_, 0, _, _, [k4], rfl, (EqL.cons rfl (EqL.cons rfl (EqL.cons rfl (EqL.nil)))).eq, rfl, (.sel (.rd (.t .h) rfl (.cons .h .nil))), hF⟩ ?_))
  clear hF
  rintro m34 _ _ ⟨g35, k36, rest37, c31, F32, rfl, rfl, hd39, hE, hF⟩
  refine K_ent hE ?_
  clear hE
  refine K_pure (c := crd (RdS 139 rd139) v0_0.v a_a) .h crd_bound (fun hbd44 => ?_)
  rcases rest37 with _ | ⟨x38, rest37⟩
  · have hk40 := List.drop_eq_nil_iff.1 hd39
    have hfe43 : (decide (((k36 : Int) : Int) < (a_a.length : Int))) = false := decide_eq_false (by omega)
    rw [l_toFactS_L1] at hF
    refine K_in (K_region (Cm (.int .i64 (k36 : Int)) rfl rfl ?_))
    refine Cm v0_0.v rfl rfl ?_
    refine C_at .h (fun hp => V_lenR (l := a_a.length) sl25 (.tmp rfl rfl) (crd_len hp)) ?_
    refine C_val (V_lss (i := (k36 : Int)) (j := (a_a.length : Int)) (.tmp rfl rfl) (.tmp rfl rfl)) ?_
    refine C_nil (CW_cond (b := (decide (((k36 : Int) : Int) < (a_a.length : Int)))) (.tmp rfl rfl) (fun hb => absurd (hfe43.symm.trans hb) (by decide)) (fun _ => ?_))
    refine CW_exit ?_
    iterate 2 refine CThen_exit ?_
    refine CIn_self (K_region (Cm (.slice (some ⟨k4, 0, none⟩) (a_a.length : Int).toNat 1) rfl rfl ?_))
    refine Ca (.slice (some ⟨k4, 0, none⟩) (a_a.length : Int).toNat 1) rfl rfl ?_
    refine C_nil (CW_ret ?_)
    obtain rfl := Option.some.inj hF
    exact End_ret (⟨(some ⟨k4, 0, none⟩), (a_a.length : Int).toNat, 1⟩, F32) (.tmp rfl rfl .nil) rfl (.sel (.cons (.t .h) .nil))
  obtain ⟨hk40, hx41, hd42⟩ := drop_cons hd39
  have hfe43 : (decide (((k36 : Int) : Int) < (a_a.length : Int))) = true := decide_eq_true (by omega)
  rw [l_toFactS_L1] at hF
  refine K_in (K_region (Cm (.int .i64 (k36 : Int)) rfl rfl ?_))
  refine Cm v0_0.v rfl rfl ?_
  refine C_at .h (fun hp => V_lenR (l := a_a.length) sl25 (.tmp rfl rfl) (crd_len hp)) ?_
  refine C_val (V_lss (i := (k36 : Int)) (j := (a_a.length : Int)) (.tmp rfl rfl) (.tmp rfl rfl)) ?_
  refine C_nil (CW_cond (b := (decide (((k36 : Int) : Int) < (a_a.length : Int)))) (.tmp rfl rfl) (fun _ => ?_) (fun hb => absurd (hfe43.symm.trans hb) (by decide)))
  refine CW_skip (K_block (CW_region (Cm (.slice (some ⟨k4, 0, none⟩) (a_a.length : Int).toNat 1) rfl rfl ?_)))
  refine Cm (.int .i64 (k36 : Int)) rfl rfl ?_
  refine Cm v0_0.v rfl rfl ?_
  refine Cm (.int .i64 (k36 : Int)) rfl rfl ?_
  refine C_idx (a := x38) sl25 ty139.sz (.tmp rfl rfl) (.tmp rfl rfl) .h (Int.natCast_nonneg k36) hx41 (fun k45 j46 => ?_)
  refine C_ldA1 (ul139_0_139 x38) ag139 ty139.sz rfl (.tmp rfl rfl) .h la139_0_139 (fun p47 => ?_)
  obtain ⟨r48, hx49, hF⟩ := bind_some hF
  refine C_x1 (.rd .h rfl .nil) (X_callS cf100 (.cons (.tmp rfl rfl) .nil) (l_toFact_ok x38 p47 _ hx49)) (fun p50 => ?_)
  obtain ⟨u54, hx55, hF⟩ := bind_some hF
  have hi53 := chk_some hx55
  refine C_idxO sl39 ty80.sz (.tmp rfl rfl) (.tmp rfl rfl) (.t (.t (.t (.t .h)))) hi53 (fun k51 hk52 => ?_)
  obtain ⟨z56, hx57, hF⟩ := bind_some hF
  replace hx57 := Option.some.inj hx57
  refine C_x1 (.cons (.t (.t (.t (.t .h)))) (.cons .h .nil)) (X_storeO (Ro := ow80) (a := r48) (i := (k36 : Int)) ty80.sz rfl (.tmp rfl rfl) (.tmp rfl rfl) hk52 hi53 mk80 (fun _ _ _ _ h => by obtain ⟨_, _, rfl, rfl, _⟩ := h; rfl)) (fun F58 => ?_)
  rw [hx57]
  refine C_nil (CW_region (Cm (.int .i64 (k36 : Int)) rfl rfl ?_))
  refine C_val (V_add (i := (k36 : Int)) (j := 1) (.tmp rfl rfl) (.int _ _)) ?_
  refine Ca (.int .i64 (IntKind.i64.wrap ((k36 : Int) + 1))) rfl rfl ?_
  refine C_nil ?_
  have hw59 : IntKind.i64.wrap ((k36 : Int) + 1) = ((k36 + 1 : Nat) : Int) := by rw [wrap_in (by omega) (by omega)]; rfl
  rw [hw59]
  exact ⟨_, Nat.lt_succ_self _, _, k36 + 1, rest37, _, F58, rfl, (EqL.cons rfl (EqL.cons rfl (EqL.cons rfl (EqL.nil)))).eq, hd42, (.sel (.rd (.t (.t (.t .h))) rfl (.cons .h .nil))), hF⟩

/-! laws.toSource -/
def l_toSource (a_a : Source) : Option (Source) :=
  (l_toFactS a_a.Facts).bind fun r4 =>
  some ({ Facts := r4, Version := a_a.Version } : Source)
theorem l_toSource_ok (a_a : Source) (v0_0 : Sv) (R : Source) (hF : l_toSource a_a = some R) :
    Fw.Spec Tryz.prog 24 [(.agg [v0_0.v, (.int .i64 a_a.Version)].toArray)] [crd (RdS 139 rd139) v0_0.v a_a.Facts] (fun p : Sv × List Nat => (.agg [p.1.v, (.int .i64 R.Version)].toArray)) (fun p => [cown (OwnS 80 ow80) p.2 p.1.v R.Facts]) := by
  refine Spec_enter (n := 12) Tryz.func24 rfl rfl (rs := [.cell 2 41]) rfl rfl rfl ?_
  intro H0 F0
  unfold l_toSource at hF
  refine K_region (C_newR rfl (N_box (g := false) (v := (.agg [v0_0.v, (.int .i64 a_a.Version)].toArray)) ty27.sz (.tmp rfl rfl) rfl) (fun k1 => ?_))
  refine C_new rfl (N_allocT (g := true) ty41 rfl rfl) (fun k2 => ?_)
  refine C_nil (K_region (C_new rfl (N_allocT (g := true) ty41 rfl rfl) (fun k3 => ?_)))
  refine C_nil (K_region (C_val (V_fieldAddr (off := 0) fd27_0 (.tmp rfl rfl)) ?_))
  refine C_at (.t (.t .h)) (fun hp => V_load (v := v0_0.v) ag25 (.tmp rfl rfl) hp.2 rfl rfl) ?_
  obtain ⟨r4, hx5, hF⟩ := bind_some hF
  refine C_x1 (.rd (.t (.t (.t .h))) rfl .nil) (X_callS cf63 (.cons (.tmp rfl rfl) .nil) (l_toFactS_ok a_a.Facts v0_0 _ hx5)) (fun p6 => ?_)
  refine C_val (V_fieldAddr (off := 0) fd41_0 (.tmp rfl rfl)) ?_
  refine C_x1 (.cons (.t .h) .nil) (X_storeB (e' := (.agg [p6.1.v, (.int .i64 0)].toArray)) ty39.sz (.tmp rfl rfl) (.tmp rfl rfl) rfl rfl rfl rfl rfl) (fun _ => ?_)
  refine C_nil (K_region (C_val (V_fieldAddr (off := 1) fd27_1 (.tmp rfl rfl)) ?_))
  refine C_at (.t (.t (.t .h))) (fun hp => V_load (v := (.int .i64 a_a.Version)) ag3 (.tmp rfl rfl) hp.2 rfl rfl) ?_
  refine C_val (V_fieldAddr (off := 1) fd41_1 (.tmp rfl rfl)) ?_
  refine C_x1 (.cons .h .nil) (X_storeB (e' := (.agg [p6.1.v, (.int .i64 a_a.Version)].toArray)) (v := (.int .i64 a_a.Version)) ty3.sz (.tmp rfl rfl) (.tmp rfl rfl) rfl rfl rfl rfl rfl) (fun _ => ?_)
  refine C_nil (K_region (C_at .h (fun hp => V_loadBox ag41 ty41.sz rfl (.tmp rfl rfl) hp.2 rfl) ?_))
  refine C_x1 (.cons (.t (.t .h)) .nil) (X_storeB (e' := (.agg [p6.1.v, (.int .i64 a_a.Version)].toArray)) (v := (.agg [p6.1.v, (.int .i64 a_a.Version)].toArray)) ty41.sz (.tmp rfl rfl) (.tmp rfl rfl) rfl rfl rfl rfl rfl) (fun _ => ?_)
  refine C_nil (CW_ret ?_)
  obtain rfl := Option.some.inj hF
  exact End_ret (p6.1, p6.2) (.cellA rfl rfl .h rfl ag41 ty41.sz rfl rfl .nil) rfl (.sel (.cons (.t (.t .h)) .nil))

/-! laws.toAccess -/
def l_toAccess (a_a : Access) : Option (Access) :=
  (l_toIntS a_a.Values).bind fun r4 =>
  some ({ Method := a_a.Method, Values := r4 } : Access)
theorem l_toAccess_ok (a_a : Access) (v0_1 : Sv) (R : Access) (hF : l_toAccess a_a = some R) :
    Fw.Spec Tryz.prog 65 [(.agg [(.int .i64 a_a.Method), v0_1.v].toArray)] [crd (RdS 3 rdInt) v0_1.v a_a.Values] (fun p : Sv × List Nat => (.agg [(.int .i64 R.Method), p.1.v].toArray)) (fun p => [cown (OwnS 3 (roE rdInt)) p.2 p.1.v R.Values]) := by
  refine Spec_enter (n := 12) Tryz.func65 rfl rfl (rs := [.cell 2 105]) rfl rfl rfl ?_
  intro H0 F0
  unfold l_toAccess at hF
  refine K_region (C_newR rfl (N_box (g := false) (v := (.agg [(.int .i64 a_a.Method), v0_1.v].toArray)) ty97.sz (.tmp rfl rfl) rfl) (fun k1 => ?_))
  refine C_new rfl (N_allocT (g := true) ty105 rfl rfl) (fun k2 => ?_)
  refine C_nil (K_region (C_new rfl (N_allocT (g := true) ty105 rfl rfl) (fun k3 => ?_)))
  refine C_nil (K_region (C_val (V_fieldAddr (off := 0) fd97_0 (.tmp rfl rfl)) ?_))
  refine C_at (.t (.t .h)) (fun hp => V_load (v := (.int .i64 a_a.Method)) ag3 (.tmp rfl rfl) hp.2 rfl rfl) ?_
  refine C_val (V_fieldAddr (off := 0) fd105_0 (.tmp rfl rfl)) ?_
  refine C_x1 (.cons .h .nil) (X_storeB (e' := (.agg [(.int .i64 a_a.Method), (.slice none 0 0)].toArray)) (v := (.int .i64 a_a.Method)) ty3.sz (.tmp rfl rfl) (.tmp rfl rfl) rfl rfl rfl rfl rfl) (fun _ => ?_)
  refine C_nil (K_region (C_val (V_fieldAddr (off := 1) fd97_1 (.tmp rfl rfl)) ?_))
  refine C_at (.t (.t .h)) (fun hp => V_load (v := v0_1.v) ag22 (.tmp rfl rfl) hp.2 rfl rfl) ?_
  obtain ⟨r4, hx5, hF⟩ := bind_some hF
  refine C_x1 (.rd (.t (.t (.t .h))) rfl .nil) (X_callS cf21 (.cons (.tmp rfl rfl) .nil) (l_toIntS_ok a_a.Values v0_1 _ hx5)) (fun p6 => ?_)
  refine C_val (V_fieldAddr (off := 1) fd105_1 (.tmp rfl rfl)) ?_
  refine C_x1 (.cons (.t .h) .nil) (X_storeB (e' := (.agg [(.int .i64 a_a.Method), p6.1.v].toArray)) ty22.sz (.tmp rfl rfl) (.tmp rfl rfl) rfl rfl rfl rfl rfl) (fun _ => ?_)
  refine C_nil (K_region (C_at .h (fun hp => V_loadBox ag105 ty105.sz rfl (.tmp rfl rfl) hp.2 rfl) ?_))
  refine C_x1 (.cons (.t (.t .h)) .nil) (X_storeB (e' := (.agg [(.int .i64 a_a.Method), p6.1.v].toArray)) (v := (.agg [(.int .i64 a_a.Method), p6.1.v].toArray)) ty105.sz (.tmp rfl rfl) (.tmp rfl rfl) rfl rfl rfl rfl rfl) (fun _ => ?_)
  refine C_nil (CW_ret ?_)
  obtain rfl := Option.some.inj hF
  exact End_ret (p6.1, p6.2) (.cellA rfl rfl .h rfl ag105 ty105.sz rfl rfl .nil) rfl (.sel (.cons (.t (.t .h)) .nil))

/-! laws.toStored -/
def l_toStored (a_a : Stored) : Option (Stored) :=
  (l_toAccess a_a.Access).bind fun r4 =>
  (l_toFactS a_a.Facts).bind fun r7 =>
  some ({ Access := r4, Facts := r7, At := a_a.At } : Stored)
theorem l_toStored_ok (a_a : Stored) (v0_1 : Sv) (v0_2 : Sv) (R : Stored) (hF : l_toStored a_a = some R) :
    Fw.Spec Tryz.prog 101 [(.agg [(.int .i64 a_a.Access.Method), v0_1.v, v0_2.v, (.int .i64 a_a.At)].toArray)] [crd (RdS 3 rdInt) v0_1.v a_a.Access.Values, crd (RdS 139 rd139) v0_2.v a_a.Facts] (fun p : Sv × List Nat × Sv × List Nat => (.agg [(.int .i64 R.Access.Method), p.1.v, p.2.2.1.v, (.int .i64 R.At)].toArray)) (fun p => [cown (OwnS 3 (roE rdInt)) p.2.1 p.1.v R.Access.Values, cown (OwnS 80 ow80) p.2.2.2 p.2.2.1.v R.Facts]) := by
  refine Spec_enter (n := 16) Tryz.func101 rfl rfl (rs := [.cell 2 147]) rfl rfl rfl ?_
  intro H0 F0
  unfold l_toStored at hF
  refine K_region (C_newR rfl (N_box (g := false) (v := (.agg [(.int .i64 a_a.Access.Method), v0_1.v, v0_2.v, (.int .i64 a_a.At)].toArray)) ty142.sz (.tmp rfl rfl) rfl) (fun k1 => ?_))
  refine C_new rfl (N_allocT (g := true) ty147 rfl rfl) (fun k2 => ?_)
  refine C_nil (K_region (C_new rfl (N_allocT (g := true) ty147 rfl rfl) (fun k3 => ?_)))
  refine C_nil (K_region (C_val (V_fieldAddr (off := 0) fd142_0 (.tmp rfl rfl)) ?_))
  refine C_at (.t (.t .h)) (fun hp => V_loadA (s := 2) (l := [(.int .i64 a_a.Access.Method), v0_1.v]) ag97 ty97.sz (.tmp rfl rfl) hp.2 rfl (by decide) (Nat.le_of_ble_eq_true rfl) rfl) ?_
  obtain ⟨r4, hx5, hF⟩ := bind_some hF
  refine C_x1 (.rd (.t (.t (.t .h))) rfl .nil) (X_callS cf65 (.cons (.tmp rfl rfl) .nil) (l_toAccess_ok a_a.Access v0_1 _ hx5)) (fun p6 => ?_)
  refine C_val (V_fieldAddr (off := 0) fd147_0 (.tmp rfl rfl)) ?_
  refine C_x1 (.cons (.t .h) .nil) (X_storeB (e' := (.agg [(.int .i64 r4.Method), p6.1.v, (.slice none 0 0), (.int .i64 0)].toArray)) (v := (.agg [(.int .i64 r4.Method), p6.1.v].toArray)) ty105.sz (.tmp rfl rfl) (.tmp rfl rfl) rfl rfl rfl rfl rfl) (fun _ => ?_)
  refine C_nil (K_region (C_val (V_fieldAddr (off := 2) fd142_1 (.tmp rfl rfl)) ?_))
  refine C_at (.t (.t (.t .h))) (fun hp => V_load (v := v0_2.v) ag25 (.tmp rfl rfl) hp.2 rfl rfl) ?_
  obtain ⟨r7, hx8, hF⟩ := bind_some hF
  refine C_x1 (.rd (.t (.t (.t (.t (.t .h))))) rfl .nil) (X_callS cf63 (.cons (.tmp rfl rfl) .nil) (l_toFactS_ok a_a.Facts v0_2 _ hx8)) (fun p9 => ?_)
  refine C_val (V_fieldAddr (off := 2) fd147_1 (.tmp rfl rfl)) ?_
  refine C_x1 (.cons (.t .h) .nil) (X_storeB (e' := (.agg [(.int .i64 r4.Method), p6.1.v, p9.1.v, (.int .i64 0)].toArray)) ty39.sz (.tmp rfl rfl) (.tmp rfl rfl) rfl rfl rfl rfl rfl) (fun _ => ?_)
  refine C_nil (K_region (C_val (V_fieldAddr (off := 3) fd142_2 (.tmp rfl rfl)) ?_))
  refine C_at (.t (.t (.t (.t .h)))) (fun hp => V_load (v := (.int .i64 a_a.At)) ag3 (.tmp rfl rfl) hp.2 rfl rfl) ?_
  refine C_val (V_fieldAddr (off := 3) fd147_2 (.tmp rfl rfl)) ?_
  refine C_x1 (.cons .h .nil) (X_storeB (e' := (.agg [(.int .i64 r4.Method), p6.1.v, p9.1.v, (.int .i64 a_a.At)].toArray)) (v := (.int .i64 a_a.At)) ty3.sz (.tmp rfl rfl) (.tmp rfl rfl) rfl rfl rfl rfl rfl) (fun _ => ?_)
  refine C_nil (K_region (C_at .h (fun hp => V_loadBox ag147 ty147.sz rfl (.tmp rfl rfl) hp.2 rfl) ?_))
  refine C_x1 (.cons (.t (.t (.t .h))) .nil) (X_storeB (e' := (.agg [(.int .i64 r4.Method), p6.1.v, p9.1.v, (.int .i64 a_a.At)].toArray)) (v := (.agg [(.int .i64 r4.Method), p6.1.v, p9.1.v, (.int .i64 a_a.At)].toArray)) ty147.sz (.tmp rfl rfl) (.tmp rfl rfl) rfl rfl rfl rfl rfl) (fun _ => ?_)
  refine C_nil (CW_ret ?_)
  obtain rfl := Option.some.inj hF
  exact End_ret (p6.1, p6.2, p9.1, p9.2) (.cellA rfl rfl .h rfl ag147 ty147.sz rfl rfl .nil) rfl (.sel (.cons (.t (.t (.t .h))) (.cons (.t (.t .h)) .nil)))

/-! laws.toStoredS -/
def l_toStoredS_L1 : List Stored → Nat → (List Stored) → Option ((List Stored))
  | [], k36, c31 => some c31
  | x38 :: rest37, k36, c31 => (l_toStored x38).bind fun r48 =>
    (chk (decide (0 ≤ (k36 : Int)) && decide ((k36 : Int) < (c31.length : Int)))).bind fun u54 =>
    (some (c31.set ((k36 : Int)).toNat r48)).bind fun z56 =>
    l_toStoredS_L1 rest37 (k36 + 1) z56
def l_toStoredS (a_a : List Stored) : Option ((List Stored)) :=
  (mkz (a_a.length : Int) (({ Access := ({ Method := 0, Values := [] } : Access), Facts := [], At := 0 } : Stored) : Stored)).bind fun z1 =>
  l_toStoredS_L1 a_a 0 z1
theorem l_toStoredS_ok (a_a : List Stored) (v0_0 : Sv) (R : (List Stored)) (hF : l_toStoredS a_a = some R) :
    Fw.Spec Tryz.prog 64 [v0_0.v] [crd (RdS 142 rd142) v0_0.v a_a] (fun p : Sv × List Nat => p.1.v) (fun p => [cown (OwnS 147 ow147) p.2 p.1.v R]) := by
  refine Spec_enter (n := 23) Tryz.func64 rfl rfl (rs := [.tmp 2]) rfl rfl rfl ?_
  intro H0 F0
  unfold l_toStoredS at hF
  refine K_region (C_val (V_assign (v := (.slice none 0 0)) EV.nilSlice) ?_)
  refine C_nil (K_region (Cm v0_0.v rfl rfl ?_))
  refine C_at .h (fun hp => V_lenR (l := a_a.length) sl28 (.tmp rfl rfl) (crd_len hp)) ?_
  obtain ⟨z1, hx2, hF⟩ := bind_some hF
  have hm3 := mkz_some hx2
  refine C_new rfl (N_makeSlice (g := true) (c := (a_a.length : Int)) sl42 ty147 rfl rfl (by decide) (.tmp rfl rfl) hm3.2.1 hm3.2.2) (fun k4 => ?_)
  refine C_conv (.cons .h .nil) (own_make (Ro := ow147) (E := 147) (a := (({ Access := ({ Method := 0, Values := [] } : Access), Facts := [], At := 0 } : Stored) : Stored)) hx2 (fun _ => ⟨⟨none, 0, 0⟩, ⟨none, 0, 0⟩, [], [], rfl, rfl, .inl ⟨rfl, rfl, rfl⟩, .inl ⟨rfl, rfl, rfl⟩⟩)) apps ?_
  refine Ca (.slice (some ⟨k4, 0, none⟩) (a_a.length : Int).toNat 1) rfl rfl ?_
  refine C_nil (K_in (K_region (C_val (V_assign (v := (.int .i64 0)) (.int _ _)) ?_)))
  refine C_nil (CW_block (CW_loop (m := a_a.length) (fun m34 f' cs' => ∃ (g : Fr) (k36 : Nat) (rest37 : List Stored) (c31 : List Stored) (F32 : List Nat), m34 = rest37.length ∧ f' = updL g [(0, v0_0.v), (3, (.slice (some ⟨k4, 0, none⟩) (a_a.length : Int).toNat 1)), (4, (.int .i64 (k36 : Int)))] ∧ List.drop k36 a_a = rest37 ∧ Ent cs' [crd (RdS 142 rd142) v0_0.v a_a, cown (OwnS 147 ow147) F32 (.slice (some ⟨k4, 0, none⟩) (a_a.length : Int).toNat 1) c31] ∧ l_toStoredS_L1 rest37 k36 c31 = some R) ⟨_, 0, _, _, [k4], rfl, (EqL.cons rfl (EqL.cons rfl (EqL.cons rfl (EqL.nil)))).eq, rfl, (.sel (.rd (.t .h) rfl (.cons .h .nil))), hF⟩ ?_))
  clear hF
  rintro m34 _ _ ⟨g35, k36, rest37, c31, F32, rfl, rfl, hd39, hE, hF⟩
  refine K_ent hE ?_
  clear hE
  refine K_pure (c := crd (RdS 142 rd142) v0_0.v a_a) .h crd_bound (fun hbd44 => ?_)
  rcases rest37 with _ | ⟨x38, rest37⟩
  · have hk40 := List.drop_eq_nil_iff.1 hd39
    have hfe43 : (decide (((k36 : Int) : Int) < (a_a.length : Int))) = false := decide_eq_false (by omega)
    rw [l_toStoredS_L1] at hF
    refine K_in (K_region (Cm (.int .i64 (k36 : Int)) rfl rfl ?_))
    refine Cm v0_0.v rfl rfl ?_
    refine C_at .h (fun hp => V_lenR (l := a_a.length) sl28 (.tmp rfl rfl) (crd_len hp)) ?_
    refine C_val (V_lss (i := (k36 : Int)) (j := (a_a.length : Int)) (.tmp rfl rfl) (.tmp rfl rfl)) ?_
    refine C_nil (CW_cond (b := (decide (((k36 : Int) : Int) < (a_a.length : Int)))) (.tmp rfl rfl) (fun hb => absurd (hfe43.symm.trans hb) (by decide)) (fun _ => ?_))
    refine CW_exit ?_
    iterate 2 refine CThen_exit ?_
    refine CIn_self (K_region (Cm (.slice (some ⟨k4, 0, none⟩) (a_a.length : Int).toNat 1) rfl rfl ?_))
    refine Ca (.slice (some ⟨k4, 0, none⟩) (a_a.length : Int).toNat 1) rfl rfl ?_
    refine C_nil (CW_ret ?_)
    obtain rfl := Option.some.inj hF
    exact End_ret (⟨(some ⟨k4, 0, none⟩), (a_a.length : Int).toNat, 1⟩, F32) (.tmp rfl rfl .nil) rfl (.sel (.cons (.t .h) .nil))
  obtain ⟨hk40, hx41, hd42⟩ := drop_cons hd39
  have hfe43 : (decide (((k36 : Int) : Int) < (a_a.length : Int))) = true := decide_eq_true (by omega)
  rw [l_toStoredS_L1] at hF
  refine K_in (K_region (Cm (.int .i64 (k36 : Int)) rfl rfl ?_))
  refine Cm v0_0.v rfl rfl ?_
  refine C_at .h (fun hp => V_lenR (l := a_a.length) sl28 (.tmp rfl rfl) (crd_len hp)) ?_
  refine C_val (V_lss (i := (k36 : Int)) (j := (a_a.length : Int)) (.tmp rfl rfl) (.tmp rfl rfl)) ?_
  refine C_nil (CW_cond (b := (decide (((k36 : Int) : Int) < (a_a.length : Int)))) (.tmp rfl rfl) (fun _ => ?_) (fun hb => absurd (hfe43.symm.trans hb) (by decide)))
  refine CW_skip (K_block (CW_region (Cm (.slice (some ⟨k4, 0, none⟩) (a_a.length : Int).toNat 1) rfl rfl ?_)))
  refine Cm (.int .i64 (k36 : Int)) rfl rfl ?_
  refine Cm v0_0.v rfl rfl ?_
  refine Cm (.int .i64 (k36 : Int)) rfl rfl ?_
  refine C_idx (a := x38) sl28 ty142.sz (.tmp rfl rfl) (.tmp rfl rfl) .h (Int.natCast_nonneg k36) hx41 (fun k45 j46 => ?_)
  refine C_ldA2 (ul142_0_142 x38) ag142 ty142.sz rfl (.tmp rfl rfl) .h la142_0_142 (fun p47 => ?_)
  obtain ⟨r48, hx49, hF⟩ := bind_some hF
  refine C_x2 (.rd .h rfl (.rd (.t .h) rfl .nil)) (X_callS cf101 (.cons (.tmp rfl rfl) .nil) (l_toStored_ok x38 p47.1 p47.2 _ hx49)) (fun p50 => ?_)
  obtain ⟨u54, hx55, hF⟩ := bind_some hF
  have hi53 := chk_some hx55
  refine C_idxO sl42 ty147.sz (.tmp rfl rfl) (.tmp rfl rfl) (.t (.t (.t (.t (.t (.t .h)))))) hi53 (fun k51 hk52 => ?_)
  obtain ⟨z56, hx57, hF⟩ := bind_some hF
  replace hx57 := Option.some.inj hx57
  refine C_x1 (.cons (.t (.t (.t (.t (.t (.t .h)))))) (.cons .h (.cons .h .nil))) (X_storeO (Ro := ow147) (a := r48) (i := (k36 : Int)) ty147.sz rfl (.tmp rfl rfl) (.tmp rfl rfl) hk52 hi53 mk147 (fun _ _ _ _ h => by obtain ⟨_, _, _, _, rfl, rfl, _⟩ := h; rfl)) (fun F58 => ?_)
  rw [hx57]
  refine C_nil (CW_region (Cm (.int .i64 (k36 : Int)) rfl rfl ?_))
  refine C_val (V_add (i := (k36 : Int)) (j := 1) (.tmp rfl rfl) (.int _ _)) ?_
  refine Ca (.int .i64 (IntKind.i64.wrap ((k36 : Int) + 1))) rfl rfl ?_
  refine C_nil ?_
  have hw59 : IntKind.i64.wrap ((k36 : Int) + 1) = ((k36 + 1 : Nat) : Int) := by rw [wrap_in (by omega) (by omega)]; rfl
  rw [hw59]
  exact ⟨_, Nat.lt_succ_self _, _, k36 + 1, rest37, _, F58, rfl, (EqL.cons rfl (EqL.cons rfl (EqL.cons rfl (EqL.nil)))).eq, hd42, (.sel (.rd (.t (.t (.t (.t .h)))) rfl (.cons .h .nil))), hF⟩

/-! laws.toCache -/
def l_toCache (a_a : Cache) : Option (Cache) :=
  (l_toStoredS a_a.Entries).bind fun r4 =>
  some ({ Entries := r4, Age := a_a.Age } : Cache)
theorem l_toCache_ok (a_a : Cache) (v0_0 : Sv) (R : Cache) (hF : l_toCache a_a = some R) :
    Fw.Spec Tryz.prog 25 [(.agg [v0_0.v, (.int .i64 a_a.Age)].toArray)] [crd (RdS 142 rd142) v0_0.v a_a.Entries] (fun p : Sv × List Nat => (.agg [p.1.v, (.int .i64 R.Age)].toArray)) (fun p => [cown (OwnS 147 ow147) p.2 p.1.v R.Entries]) := by
  refine Spec_enter (n := 12) Tryz.func25 rfl rfl (rs := [.cell 2 44]) rfl rfl rfl ?_
  intro H0 F0
  unfold l_toCache at hF
  refine K_region (C_newR rfl (N_box (g := false) (v := (.agg [v0_0.v, (.int .i64 a_a.Age)].toArray)) ty30.sz (.tmp rfl rfl) rfl) (fun k1 => ?_))
  refine C_new rfl (N_allocT (g := true) ty44 rfl rfl) (fun k2 => ?_)
  refine C_nil (K_region (C_new rfl (N_allocT (g := true) ty44 rfl rfl) (fun k3 => ?_)))
  refine C_nil (K_region (C_val (V_fieldAddr (off := 0) fd30_0 (.tmp rfl rfl)) ?_))
  refine C_at (.t (.t .h)) (fun hp => V_load (v := v0_0.v) ag28 (.tmp rfl rfl) hp.2 rfl rfl) ?_
  obtain ⟨r4, hx5, hF⟩ := bind_some hF
  refine C_x1 (.rd (.t (.t (.t .h))) rfl .nil) (X_callS cf64 (.cons (.tmp rfl rfl) .nil) (l_toStoredS_ok a_a.Entries v0_0 _ hx5)) (fun p6 => ?_)
  refine C_val (V_fieldAddr (off := 0) fd44_0 (.tmp rfl rfl)) ?_
  refine C_x1 (.cons (.t .h) .nil) (X_storeB (e' := (.agg [p6.1.v, (.int .i64 0)].toArray)) ty42.sz (.tmp rfl rfl) (.tmp rfl rfl) rfl rfl rfl rfl rfl) (fun _ => ?_)
  refine C_nil (K_region (C_val (V_fieldAddr (off := 1) fd30_1 (.tmp rfl rfl)) ?_))
  refine C_at (.t (.t (.t .h))) (fun hp => V_load (v := (.int .i64 a_a.Age)) ag3 (.tmp rfl rfl) hp.2 rfl rfl) ?_
  refine C_val (V_fieldAddr (off := 1) fd44_1 (.tmp rfl rfl)) ?_
  refine C_x1 (.cons .h .nil) (X_storeB (e' := (.agg [p6.1.v, (.int .i64 a_a.Age)].toArray)) (v := (.int .i64 a_a.Age)) ty3.sz (.tmp rfl rfl) (.tmp rfl rfl) rfl rfl rfl rfl rfl) (fun _ => ?_)
  refine C_nil (K_region (C_at .h (fun hp => V_loadBox ag44 ty44.sz rfl (.tmp rfl rfl) hp.2 rfl) ?_))
  refine C_x1 (.cons (.t (.t .h)) .nil) (X_storeB (e' := (.agg [p6.1.v, (.int .i64 a_a.Age)].toArray)) (v := (.agg [p6.1.v, (.int .i64 a_a.Age)].toArray)) ty44.sz (.tmp rfl rfl) (.tmp rfl rfl) rfl rfl rfl rfl rfl) (fun _ => ?_)
  refine C_nil (CW_ret ?_)
  obtain rfl := Option.some.inj hF
  exact End_ret (p6.1, p6.2) (.cellA rfl rfl .h rfl ag44 ty44.sz rfl rfl .nil) rfl (.sel (.cons (.t (.t .h)) .nil))

/-! laws.toAccessS -/
def l_toAccessS_L1 : List Access → Nat → (List Access) → Option ((List Access))
  | [], k36, c31 => some c31
  | x38 :: rest37, k36, c31 => (l_toAccess x38).bind fun r48 =>
    (chk (decide (0 ≤ (k36 : Int)) && decide ((k36 : Int) < (c31.length : Int)))).bind fun u54 =>
    (some (c31.set ((k36 : Int)).toNat r48)).bind fun z56 =>
    l_toAccessS_L1 rest37 (k36 + 1) z56
def l_toAccessS (a_a : List Access) : Option ((List Access)) :=
  (mkz (a_a.length : Int) (({ Method := 0, Values := [] } : Access) : Access)).bind fun z1 =>
  l_toAccessS_L1 a_a 0 z1
theorem l_toAccessS_ok (a_a : List Access) (v0_0 : Sv) (R : (List Access)) (hF : l_toAccessS a_a = some R) :
    Fw.Spec Tryz.prog 26 [v0_0.v] [crd (RdS 97 rd97) v0_0.v a_a] (fun p : Sv × List Nat => p.1.v) (fun p => [cown (OwnS 105 ow105) p.2 p.1.v R]) := by
  refine Spec_enter (n := 23) Tryz.func26 rfl rfl (rs := [.tmp 2]) rfl rfl rfl ?_
  intro H0 F0
  unfold l_toAccessS at hF
  refine K_region (C_val (V_assign (v := (.slice none 0 0)) EV.nilSlice) ?_)
  refine C_nil (K_region (Cm v0_0.v rfl rfl ?_))
  refine C_at .h (fun hp => V_lenR (l := a_a.length) sl31 (.tmp rfl rfl) (crd_len hp)) ?_
  obtain ⟨z1, hx2, hF⟩ := bind_some hF
  have hm3 := mkz_some hx2
  refine C_new rfl (N_makeSlice (g := true) (c := (a_a.length : Int)) sl45 ty105 rfl rfl (by decide) (.tmp rfl rfl) hm3.2.1 hm3.2.2) (fun k4 => ?_)
  refine C_conv (.cons .h .nil) (own_make (Ro := ow105) (E := 105) (a := (({ Method := 0, Values := [] } : Access) : Access)) hx2 (fun _ => ⟨⟨none, 0, 0⟩, [], rfl, rfl, .inl ⟨rfl, rfl, rfl⟩⟩)) apps ?_
  refine Ca (.slice (some ⟨k4, 0, none⟩) (a_a.length : Int).toNat 1) rfl rfl ?_
  refine C_nil (K_in (K_region (C_val (V_assign (v := (.int .i64 0)) (.int _ _)) ?_)))
  refine C_nil (CW_block (CW_loop (m := a_a.length) (fun m34 f' cs' => ∃ (g : Fr) (k36 : Nat) (rest37 : List Access) (c31 : List Access) (F32 : List Nat), m34 = rest37.length ∧ f' = updL g [(0, v0_0.v), (3, (.slice (some ⟨k4, 0, none⟩) (a_a.length : Int).toNat 1)), (4, (.int .i64 (k36 : Int)))] ∧ List.drop k36 a_a = rest37 ∧ Ent cs' [crd (RdS 97 rd97) v0_0.v a_a, cown (OwnS 105 ow105) F32 (.slice (some ⟨k4, 0, none⟩) (a_a.length : Int).toNat 1) c31] ∧ l_toAccessS_L1 rest37 k36 c31 = some R) ⟨_, 0, _, _, [k4], rfl, (EqL.cons rfl (EqL.cons rfl (EqL.cons rfl (EqL.nil)))).eq, rfl, (.sel (.rd (.t .h) rfl (.cons .h .nil))), hF⟩ ?_))
  clear hF
  rintro m34 _ _ ⟨g35, k36, rest37, c31, F32, rfl, rfl, hd39, hE, hF⟩
  refine K_ent hE ?_
  clear hE
  refine K_pure (c := crd (RdS 97 rd97) v0_0.v a_a) .h crd_bound (fun hbd44 => ?_)
  rcases rest37 with _ | ⟨x38, rest37⟩
  · have hk40 := List.drop_eq_nil_iff.1 hd39
    have hfe43 : (decide (((k36 : Int) : Int) < (a_a.length : Int))) = false := decide_eq_false (by omega)
    rw [l_toAccessS_L1] at hF
    refine K_in (K_region (Cm (.int .i64 (k36 : Int)) rfl rfl ?_))
    refine Cm v0_0.v rfl rfl ?_
    refine C_at .h (fun hp => V_lenR (l := a_a.length) sl31 (.tmp rfl rfl) (crd_len hp)) ?_
    refine C_val (V_lss (i := (k36 : Int)) (j := (a_a.length : Int)) (.tmp rfl rfl) (.tmp rfl rfl)) ?_
    refine C_nil (CW_cond (b := (decide (((k36 : Int) : Int) < (a_a.length : Int)))) (.tmp rfl rfl) (fun hb => absurd (hfe43.symm.trans hb) (by decide)) (fun _ => ?_))
    refine CW_exit ?_
    iterate 2 refine CThen_exit ?_
    refine CIn_self (K_region (Cm (.slice (some ⟨k4, 0, none⟩) (a_a.length : Int).toNat 1) rfl rfl ?_))
    refine Ca (.slice (some ⟨k4, 0, none⟩) (a_a.length : Int).toNat 1) rfl rfl ?_
    refine C_nil (CW_ret ?_)
    obtain rfl := Option.some.inj hF
    exact End_ret (⟨(some ⟨k4, 0, none⟩), (a_a.length : Int).toNat, 1⟩, F32) (.tmp rfl rfl .nil) rfl (.sel (.cons (.t .h) .nil))
  obtain ⟨hk40, hx41, hd42⟩ := drop_cons hd39
  have hfe43 : (decide (((k36 : Int) : Int) < (a_a.length : Int))) = true := decide_eq_true (by omega)
  rw [l_toAccessS_L1] at hF
  refine K_in (K_region (Cm (.int .i64 (k36 : Int)) rfl rfl ?_))
  refine Cm v0_0.v rfl rfl ?_
  refine C_at .h (fun hp => V_lenR (l := a_a.length) sl31 (.tmp rfl rfl) (crd_len hp)) ?_
  refine C_val (V_lss (i := (k36 : Int)) (j := (a_a.length : Int)) (.tmp rfl rfl) (.tmp rfl rfl)) ?_
  refine C_nil (CW_cond (b := (decide (((k36 : Int) : Int) < (a_a.length : Int)))) (.tmp rfl rfl) (fun _ => ?_) (fun hb => absurd (hfe43.symm.trans hb) (by decide)))
  refine CW_skip (K_block (CW_region (Cm (.slice (some ⟨k4, 0, none⟩) (a_a.length : Int).toNat 1) rfl rfl ?_)))
  refine Cm (.int .i64 (k36 : Int)) rfl rfl ?_
  refine Cm v0_0.v rfl rfl ?_
  refine Cm (.int .i64 (k36 : Int)) rfl rfl ?_
  refine C_idx (a := x38) sl31 ty97.sz (.tmp rfl rfl) (.tmp rfl rfl) .h (Int.natCast_nonneg k36) hx41 (fun k45 j46 => ?_)
  refine C_ldA1 (ul97_0_97 x38) ag97 ty97.sz rfl (.tmp rfl rfl) .h la97_0_97 (fun p47 => ?_)
  obtain ⟨r48, hx49, hF⟩ := bind_some hF
  refine C_x1 (.rd .h rfl .nil) (X_callS cf65 (.cons (.tmp rfl rfl) .nil) (l_toAccess_ok x38 p47 _ hx49)) (fun p50 => ?_)
  obtain ⟨u54, hx55, hF⟩ := bind_some hF
  have hi53 := chk_some hx55
  refine C_idxO sl45 ty105.sz (.tmp rfl rfl) (.tmp rfl rfl) (.t (.t (.t (.t .h)))) hi53 (fun k51 hk52 => ?_)
  obtain ⟨z56, hx57, hF⟩ := bind_some hF
  replace hx57 := Option.some.inj hx57
  refine C_x1 (.cons (.t (.t (.t (.t .h)))) (.cons .h .nil)) (X_storeO (Ro := ow105) (a := r48) (i := (k36 : Int)) ty105.sz rfl (.tmp rfl rfl) (.tmp rfl rfl) hk52 hi53 mk105 (fun _ _ _ _ h => by obtain ⟨_, _, rfl, rfl, _⟩ := h; rfl)) (fun F58 => ?_)
  rw [hx57]
  refine C_nil (CW_region (Cm (.int .i64 (k36 : Int)) rfl rfl ?_))
  refine C_val (V_add (i := (k36 : Int)) (j := 1) (.tmp rfl rfl) (.int _ _)) ?_
  refine Ca (.int .i64 (IntKind.i64.wrap ((k36 : Int) + 1))) rfl rfl ?_
  refine C_nil ?_
  have hw59 : IntKind.i64.wrap ((k36 : Int) + 1) = ((k36 + 1 : Nat) : Int) := by rw [wrap_in (by omega) (by omega)]; rfl
  rw [hw59]
  exact ⟨_, Nat.lt_succ_self _, _, k36 + 1, rest37, _, F58, rfl, (EqL.cons rfl (EqL.cons rfl (EqL.cons rfl (EqL.nil)))).eq, hd42, (.sel (.rd (.t (.t (.t .h))) rfl (.cons .h .nil))), hF⟩

/-! laws.toIntSS -/
def l_toIntSS_L1 : List (List Int) → Nat → (List (List Int)) → Option ((List (List Int)))
  | [], k36, c31 => some c31
  | x38 :: rest37, k36, c31 => (l_toIntS x38).bind fun r48 =>
    (chk (decide (0 ≤ (k36 : Int)) && decide ((k36 : Int) < (c31.length : Int)))).bind fun u54 =>
    (some (c31.set ((k36 : Int)).toNat r48)).bind fun z56 =>
    l_toIntSS_L1 rest37 (k36 + 1) z56
def l_toIntSS (a_a : List (List Int)) : Option ((List (List Int))) :=
  (mkz (a_a.length : Int) ([] : List Int)).bind fun z1 =>
  l_toIntSS_L1 a_a 0 z1
theorem l_toIntSS_ok (a_a : List (List Int)) (v0_0 : Sv) (R : (List (List Int))) (hF : l_toIntSS a_a = some R) :
    Fw.Spec Tryz.prog 66 [v0_0.v] [crd (RdS 22 (RdS 3 rdInt)) v0_0.v a_a] (fun p : Sv × List Nat => p.1.v) (fun p => [cown (OwnS 22 (OwnS 3 (roE rdInt))) p.2 p.1.v R]) := by
  refine Spec_enter (n := 23) Tryz.func66 rfl rfl (rs := [.tmp 2]) rfl rfl rfl ?_
  intro H0 F0
  unfold l_toIntSS at hF
  refine K_region (C_val (V_assign (v := (.slice none 0 0)) EV.nilSlice) ?_)
  refine C_nil (K_region (Cm v0_0.v rfl rfl ?_))
  refine C_at .h (fun hp => V_lenR (l := a_a.length) sl83 (.tmp rfl rfl) (crd_len hp)) ?_
  obtain ⟨z1, hx2, hF⟩ := bind_some hF
  have hm3 := mkz_some hx2
  refine C_new rfl (N_makeSlice (g := true) (c := (a_a.length : Int)) sl83 ty22 rfl rfl (by decide) (.tmp rfl rfl) hm3.2.1 hm3.2.2) (fun k4 => ?_)
  refine C_conv (.cons .h .nil) (own_make (Ro := (OwnS 3 (roE rdInt))) (E := 22) (a := ([] : List Int)) hx2 (fun _ => (.inl ⟨rfl, rfl, rfl⟩))) apps ?_
  refine Ca (.slice (some ⟨k4, 0, none⟩) (a_a.length : Int).toNat 1) rfl rfl ?_
  refine C_nil (K_in (K_region (C_val (V_assign (v := (.int .i64 0)) (.int _ _)) ?_)))
  refine C_nil (CW_block (CW_loop (m := a_a.length) (fun m34 f' cs' => ∃ (g : Fr) (k36 : Nat) (rest37 : List (List Int)) (c31 : List (List Int)) (F32 : List Nat), m34 = rest37.length ∧ f' = updL g [(0, v0_0.v), (3, (.slice (some ⟨k4, 0, none⟩) (a_a.length : Int).toNat 1)), (4, (.int .i64 (k36 : Int)))] ∧ List.drop k36 a_a = rest37 ∧ Ent cs' [crd (RdS 22 (RdS 3 rdInt)) v0_0.v a_a, cown (OwnS 22 (OwnS 3 (roE rdInt))) F32 (.slice (some ⟨k4, 0, none⟩) (a_a.length : Int).toNat 1) c31] ∧ l_toIntSS_L1 rest37 k36 c31 = some R) ⟨_, 0, _, _, [k4], rfl, (EqL.cons rfl (EqL.cons rfl (EqL.cons rfl (EqL.nil)))).eq, rfl, (.sel (.rd (.t .h) rfl (.cons .h .nil))), hF⟩ ?_))
  clear hF
  rintro m34 _ _ ⟨g35, k36, rest37, c31, F32, rfl, rfl, hd39, hE, hF⟩
  refine K_ent hE ?_
  clear hE
  refine K_pure (c := crd (RdS 22 (RdS 3 rdInt)) v0_0.v a_a) .h crd_bound (fun hbd44 => ?_)
  rcases rest37 with _ | ⟨x38, rest37⟩
  · have hk40 := List.drop_eq_nil_iff.1 hd39
    have hfe43 : (decide (((k36 : Int) : Int) < (a_a.length : Int))) = false := decide_eq_false (by omega)
    rw [l_toIntSS_L1] at hF
    refine K_in (K_region (Cm (.int .i64 (k36 : Int)) rfl rfl ?_))
    refine Cm v0_0.v rfl rfl ?_
    refine C_at .h (fun hp => V_lenR (l := a_a.length) sl83 (.tmp rfl rfl) (crd_len hp)) ?_
    refine C_val (V_lss (i := (k36 : Int)) (j := (a_a.length : Int)) (.tmp rfl rfl) (.tmp rfl rfl)) ?_
    refine C_nil (CW_cond (b := (decide (((k36 : Int) : Int) < (a_a.length : Int)))) (.tmp rfl rfl) (fun hb => absurd (hfe43.symm.trans hb) (by decide)) (fun _ => ?_))
    refine CW_exit ?_
    iterate 2 refine CThen_exit ?_
    refine CIn_self (K_region (Cm (.slice (some ⟨k4, 0, none⟩) (a_a.length : Int).toNat 1) rfl rfl ?_))
    refine Ca (.slice (some ⟨k4, 0, none⟩) (a_a.length : Int).toNat 1) rfl rfl ?_
    refine C_nil (CW_ret ?_)
    obtain rfl := Option.some.inj hF
    exact End_ret (⟨(some ⟨k4, 0, none⟩), (a_a.length : Int).toNat, 1⟩, F32) (.tmp rfl rfl .nil) rfl (.sel (.cons (.t .h) .nil))
  obtain ⟨hk40, hx41, hd42⟩ := drop_cons hd39
  have hfe43 : (decide (((k36 : Int) : Int) < (a_a.length : Int))) = true := decide_eq_true (by omega)
  rw [l_toIntSS_L1] at hF
  refine K_in (K_region (Cm (.int .i64 (k36 : Int)) rfl rfl ?_))
  refine Cm v0_0.v rfl rfl ?_
  refine C_at .h (fun hp => V_lenR (l := a_a.length) sl83 (.tmp rfl rfl) (crd_len hp)) ?_
  refine C_val (V_lss (i := (k36 : Int)) (j := (a_a.length : Int)) (.tmp rfl rfl) (.tmp rfl rfl)) ?_
  refine C_nil (CW_cond (b := (decide (((k36 : Int) : Int) < (a_a.length : Int)))) (.tmp rfl rfl) (fun _ => ?_) (fun hb => absurd (hfe43.symm.trans hb) (by decide)))
  refine CW_skip (K_block (CW_region (Cm (.slice (some ⟨k4, 0, none⟩) (a_a.length : Int).toNat 1) rfl rfl ?_)))
  refine Cm (.int .i64 (k36 : Int)) rfl rfl ?_
  refine Cm v0_0.v rfl rfl ?_
  refine Cm (.int .i64 (k36 : Int)) rfl rfl ?_
  refine C_idx (a := x38) sl83 ty22.sz (.tmp rfl rfl) (.tmp rfl rfl) .h (Int.natCast_nonneg k36) hx41 (fun k45 j46 => ?_)
  refine C_ldV (R' := (RdS 3 rdInt)) ag22 (.tmp rfl rfl) .h lv22_0 (fun w47 => ?_)
  obtain ⟨r48, hx49, hF⟩ := bind_some hF
  refine C_x1 (.rd .h rfl .nil) (X_callS cf21 (.cons (.tmp rfl rfl) .nil) (l_toIntS_ok x38 w47 _ hx49)) (fun p50 => ?_)
  obtain ⟨u54, hx55, hF⟩ := bind_some hF
  have hi53 := chk_some hx55
  refine C_idxO sl83 ty22.sz (.tmp rfl rfl) (.tmp rfl rfl) (.t (.t (.t (.t .h)))) hi53 (fun k51 hk52 => ?_)
  obtain ⟨z56, hx57, hF⟩ := bind_some hF
  replace hx57 := Option.some.inj hx57
  refine C_x1 (.cons (.t (.t (.t (.t .h)))) (.cons .h .nil)) (X_storeO (Ro := (OwnS 3 (roE rdInt))) (a := r48) (i := (k36 : Int)) ty22.sz rfl (.tmp rfl rfl) (.tmp rfl rfl) hk52 hi53 Mk_own (fun _ _ _ _ h => by obtain ⟨_, _, rfl⟩ := OwnS.len h; rfl)) (fun F58 => ?_)
  rw [hx57]
  refine C_nil (CW_region (Cm (.int .i64 (k36 : Int)) rfl rfl ?_))
  refine C_val (V_add (i := (k36 : Int)) (j := 1) (.tmp rfl rfl) (.int _ _)) ?_
  refine Ca (.int .i64 (IntKind.i64.wrap ((k36 : Int) + 1))) rfl rfl ?_
  refine C_nil ?_
  have hw59 : IntKind.i64.wrap ((k36 : Int) + 1) = ((k36 + 1 : Nat) : Int) := by rw [wrap_in (by omega) (by omega)]; rfl
  rw [hw59]
  exact ⟨_, Nat.lt_succ_self _, _, k36 + 1, rest37, _, F58, rfl, (EqL.cons rfl (EqL.cons rfl (EqL.cons rfl (EqL.nil)))).eq, hd42, (.sel (.rd (.t (.t (.t .h))) rfl (.cons .h .nil))), hF⟩

/-! laws.toIntSSS -/
def l_toIntSSS_L1 : List (List (List Int)) → Nat → (List (List (List Int))) → Option ((List (List (List Int))))
  | [], k36, c31 => some c31
  | x38 :: rest37, k36, c31 => (l_toIntSS x38).bind fun r48 =>
    (chk (decide (0 ≤ (k36 : Int)) && decide ((k36 : Int) < (c31.length : Int)))).bind fun u54 =>
    (some (c31.set ((k36 : Int)).toNat r48)).bind fun z56 =>
    l_toIntSSS_L1 rest37 (k36 + 1) z56
def l_toIntSSS (a_a : List (List (List Int))) : Option ((List (List (List Int)))) :=
  (mkz (a_a.length : Int) ([] : List (List Int))).bind fun z1 =>
  l_toIntSSS_L1 a_a 0 z1
theorem l_toIntSSS_ok (a_a : List (List (List Int))) (v0_0 : Sv) (R : (List (List (List Int)))) (hF : l_toIntSSS a_a = some R) :
    Fw.Spec Tryz.prog 27 [v0_0.v] [crd (RdS 83 (RdS 22 (RdS 3 rdInt))) v0_0.v a_a] (fun p : Sv × List Nat => p.1.v) (fun p => [cown (OwnS 83 (OwnS 22 (OwnS 3 (roE rdInt)))) p.2 p.1.v R]) := by
  refine Spec_enter (n := 23) Tryz.func27 rfl rfl (rs := [.tmp 2]) rfl rfl rfl ?_
  intro H0 F0
  unfold l_toIntSSS at hF
  refine K_region (C_val (V_assign (v := (.slice none 0 0)) EV.nilSlice) ?_)
  refine C_nil (K_region (Cm v0_0.v rfl rfl ?_))
  refine C_at .h (fun hp => V_lenR (l := a_a.length) sl32 (.tmp rfl rfl) (crd_len hp)) ?_
  obtain ⟨z1, hx2, hF⟩ := bind_some hF
  have hm3 := mkz_some hx2
  refine C_new rfl (N_makeSlice (g := true) (c := (a_a.length : Int)) sl32 ty83 rfl rfl (by decide) (.tmp rfl rfl) hm3.2.1 hm3.2.2) (fun k4 => ?_)
  refine C_conv (.cons .h .nil) (own_make (Ro := (OwnS 22 (OwnS 3 (roE rdInt)))) (E := 83) (a := ([] : List (List Int))) hx2 (fun _ => (.inl ⟨rfl, rfl, rfl⟩))) apps ?_
  refine Ca (.slice (some ⟨k4, 0, none⟩) (a_a.length : Int).toNat 1) rfl rfl ?_
  refine C_nil (K_in (K_region (C_val (V_assign (v := (.int .i64 0)) (.int _ _)) ?_)))
  refine C_nil (CW_block (CW_loop (m := a_a.length) (fun m34 f' cs' => ∃ (g : Fr) (k36 : Nat) (rest37 : List (List (List Int))) (c31 : List (List (List Int))) (F32 : List Nat), m34 = rest37.length ∧ f' = updL g [(0, v0_0.v), (3, (.slice (some ⟨k4, 0, none⟩) (a_a.length : Int).toNat 1)), (4, (.int .i64 (k36 : Int)))] ∧ List.drop k36 a_a = rest37 ∧ Ent cs' [crd (RdS 83 (RdS 22 (RdS 3 rdInt))) v0_0.v a_a, cown (OwnS 83 (OwnS 22 (OwnS 3 (roE rdInt)))) F32 (.slice (some ⟨k4, 0, none⟩) (a_a.length : Int).toNat 1) c31] ∧ l_toIntSSS_L1 rest37 k36 c31 = some R) ⟨_, 0, _, _, [k4], rfl, (EqL.cons rfl (EqL.cons rfl (EqL.cons rfl (EqL.nil)))).eq, rfl, (.sel (.rd (.t .h) rfl (.cons .h .nil))), hF⟩ ?_))
  clear hF
  rintro m34 _ _ ⟨g35, k36, rest37, c31, F32, rfl, rfl, hd39, hE, hF⟩
  refine K_ent hE ?_
  clear hE
  refine K_pure (c := crd (RdS 83 (RdS 22 (RdS 3 rdInt))) v0_0.v a_a) .h crd_bound (fun hbd44 => ?_)
  rcases rest37 with _ | ⟨x38, rest37⟩
  · have hk40 := List.drop_eq_nil_iff.1 hd39
    have hfe43 : (decide (((k36 : Int) : Int) < (a_a.length : Int))) = false := decide_eq_false (by omega)
    rw [l_toIntSSS_L1] at hF
    refine K_in (K_region (Cm (.int .i64 (k36 : Int)) rfl rfl ?_))
    refine Cm v0_0.v rfl rfl ?_
    refine C_at .h (fun hp => V_lenR (l := a_a.length) sl32 (.tmp rfl rfl) (crd_len hp)) ?_
    refine C_val (V_lss (i := (k36 : Int)) (j := (a_a.length : Int)) (.tmp rfl rfl) (.tmp rfl rfl)) ?_
    refine C_nil (CW_cond (b := (decide (((k36 : Int) : Int) < (a_a.length : Int)))) (.tmp rfl rfl) (fun hb => absurd (hfe43.symm.trans hb) (by decide)) (fun _ => ?_))
    refine CW_exit ?_
    iterate 2 refine CThen_exit ?_
    refine CIn_self (K_region (Cm (.slice (some ⟨k4, 0, none⟩) (a_a.length : Int).toNat 1) rfl rfl ?_))
    refine Ca (.slice (some ⟨k4, 0, none⟩) (a_a.length : Int).toNat 1) rfl rfl ?_
    refine C_nil (CW_ret ?_)
    obtain rfl := Option.some.inj hF
    exact End_ret (⟨(some ⟨k4, 0, none⟩), (a_a.length : Int).toNat, 1⟩, F32) (.tmp rfl rfl .nil) rfl (.sel (.cons (.t .h) .nil))
  obtain ⟨hk40, hx41, hd42⟩ := drop_cons hd39
  have hfe43 : (decide (((k36 : Int) : Int) < (a_a.length : Int))) = true := decide_eq_true (by omega)
  rw [l_toIntSSS_L1] at hF
  refine K_in (K_region (Cm (.int .i64 (k36 : Int)) rfl rfl ?_))
  refine Cm v0_0.v rfl rfl ?_
  refine C_at .h (fun hp => V_lenR (l := a_a.length) sl32 (.tmp rfl rfl) (crd_len hp)) ?_
  refine C_val (V_lss (i := (k36 : Int)) (j := (a_a.length : Int)) (.tmp rfl rfl) (.tmp rfl rfl)) ?_
  refine C_nil (CW_cond (b := (decide (((k36 : Int) : Int) < (a_a.length : Int)))) (.tmp rfl rfl) (fun _ => ?_) (fun hb => absurd (hfe43.symm.trans hb) (by decide)))
  refine CW_skip (K_block (CW_region (Cm (.slice (some ⟨k4, 0, none⟩) (a_a.length : Int).toNat 1) rfl rfl ?_)))
  refine Cm (.int .i64 (k36 : Int)) rfl rfl ?_
  refine Cm v0_0.v rfl rfl ?_
  refine Cm (.int .i64 (k36 : Int)) rfl rfl ?_
  refine C_idx (a := x38) sl32 ty83.sz (.tmp rfl rfl) (.tmp rfl rfl) .h (Int.natCast_nonneg k36) hx41 (fun k45 j46 => ?_)
  refine C_ldV (R' := (RdS 22 (RdS 3 rdInt))) ag83 (.tmp rfl rfl) .h lv83_0 (fun w47 => ?_)
  obtain ⟨r48, hx49, hF⟩ := bind_some hF
  refine C_x1 (.rd .h rfl .nil) (X_callS cf66 (.cons (.tmp rfl rfl) .nil) (l_toIntSS_ok x38 w47 _ hx49)) (fun p50 => ?_)
  obtain ⟨u54, hx55, hF⟩ := bind_some hF
  have hi53 := chk_some hx55
  refine C_idxO sl32 ty83.sz (.tmp rfl rfl) (.tmp rfl rfl) (.t (.t (.t (.t .h)))) hi53 (fun k51 hk52 => ?_)
  obtain ⟨z56, hx57, hF⟩ := bind_some hF
  replace hx57 := Option.some.inj hx57
  refine C_x1 (.cons (.t (.t (.t (.t .h)))) (.cons .h .nil)) (X_storeO (Ro := (OwnS 22 (OwnS 3 (roE rdInt)))) (a := r48) (i := (k36 : Int)) ty83.sz rfl (.tmp rfl rfl) (.tmp rfl rfl) hk52 hi53 Mk_own (fun _ _ _ _ h => by obtain ⟨_, _, rfl⟩ := OwnS.len h; rfl)) (fun F58 => ?_)
  rw [hx57]
  refine C_nil (CW_region (Cm (.int .i64 (k36 : Int)) rfl rfl ?_))
  refine C_val (V_add (i := (k36 : Int)) (j := 1) (.tmp rfl rfl) (.int _ _)) ?_
  refine Ca (.int .i64 (IntKind.i64.wrap ((k36 : Int) + 1))) rfl rfl ?_
  refine C_nil ?_
  have hw59 : IntKind.i64.wrap ((k36 : Int) + 1) = ((k36 + 1 : Nat) : Int) := by rw [wrap_in (by omega) (by omega)]; rfl
  rw [hw59]
  exact ⟨_, Nat.lt_succ_self _, _, k36 + 1, rest37, _, F58, rfl, (EqL.cons rfl (EqL.cons rfl (EqL.cons rfl (EqL.nil)))).eq, hd42, (.sel (.rd (.t (.t (.t .h))) rfl (.cons .h .nil))), hF⟩

/-! laws.toMediator -/
def l_toMediator (a_a : Mediator) : Option (Mediator) :=
  (l_toIntS a_a.Schema).bind fun r4 =>
  (l_toMethodS a_a.Methods).bind fun r7 =>
  (l_toRuleS a_a.Rules).bind fun r10 =>
  (l_toSource a_a.Source).bind fun r13 =>
  (l_toCache a_a.Cache).bind fun r16 =>
  (l_toAccessS a_a.Log).bind fun r19 =>
  (l_toIntS a_a.Times).bind fun r22 =>
  (l_toIntSSS a_a.Results).bind fun r25 =>
  some ({ Schema := r4, Methods := r7, Rules := r10, Source := r13, Cache := r16, Now := a_a.Now, Log := r19, Times := r22, Spent := a_a.Spent, Results := r25 } : Mediator)
theorem l_toMediator_ok (a_a : Mediator) (v0_0 : Sv) (v0_1 : Sv) (v0_2 : Sv) (v0_3 : Sv) (v0_5 : Sv) (v0_8 : Sv) (v0_9 : Sv) (v0_11 : Sv) (R : Mediator) (hF : l_toMediator a_a = some R) :
    Fw.Spec Tryz.prog 7 [(.agg [v0_0.v, v0_1.v, v0_2.v, v0_3.v, (.int .i64 a_a.Source.Version), v0_5.v, (.int .i64 a_a.Cache.Age), (.int .i64 a_a.Now), v0_8.v, v0_9.v, (.int .i64 a_a.Spent), v0_11.v].toArray)] [crd (RdS 3 rdInt) v0_0.v a_a.Schema, crd (RdS 89 rd89) v0_1.v a_a.Methods, crd (RdS 92 rd92) v0_2.v a_a.Rules, crd (RdS 139 rd139) v0_3.v a_a.Source.Facts, crd (RdS 142 rd142) v0_5.v a_a.Cache.Entries, crd (RdS 97 rd97) v0_8.v a_a.Log, crd (RdS 3 rdInt) v0_9.v a_a.Times, crd (RdS 83 (RdS 22 (RdS 3 rdInt))) v0_11.v a_a.Results] (fun p : Sv × List Nat × Sv × List Nat × Sv × List Nat × Sv × List Nat × Sv × List Nat × Sv × List Nat × Sv × List Nat × Sv × List Nat => (.agg [p.1.v, p.2.2.1.v, p.2.2.2.2.1.v, p.2.2.2.2.2.2.1.v, (.int .i64 R.Source.Version), p.2.2.2.2.2.2.2.2.1.v, (.int .i64 R.Cache.Age), (.int .i64 R.Now), p.2.2.2.2.2.2.2.2.2.2.1.v, p.2.2.2.2.2.2.2.2.2.2.2.2.1.v, (.int .i64 R.Spent), p.2.2.2.2.2.2.2.2.2.2.2.2.2.2.1.v].toArray)) (fun p => [cown (OwnS 3 (roE rdInt)) p.2.1 p.1.v R.Schema, cown (OwnS 108 ow108) p.2.2.2.1 p.2.2.1.v R.Methods, cown (OwnS 110 ow110) p.2.2.2.2.2.1 p.2.2.2.2.1.v R.Rules, cown (OwnS 80 ow80) p.2.2.2.2.2.2.2.1 p.2.2.2.2.2.2.1.v R.Source.Facts, cown (OwnS 147 ow147) p.2.2.2.2.2.2.2.2.2.1 p.2.2.2.2.2.2.2.2.1.v R.Cache.Entries, cown (OwnS 105 ow105) p.2.2.2.2.2.2.2.2.2.2.2.1 p.2.2.2.2.2.2.2.2.2.2.1.v R.Log, cown (OwnS 3 (roE rdInt)) p.2.2.2.2.2.2.2.2.2.2.2.2.2.1 p.2.2.2.2.2.2.2.2.2.2.2.2.1.v R.Times, cown (OwnS 83 (OwnS 22 (OwnS 3 (roE rdInt)))) p.2.2.2.2.2.2.2.2.2.2.2.2.2.2.2 p.2.2.2.2.2.2.2.2.2.2.2.2.2.2.1.v R.Results]) := by
  refine Spec_enter (n := 43) Tryz.func7 rfl rfl (rs := [.cell 2 47]) rfl rfl rfl ?_
  intro H0 F0
  unfold l_toMediator at hF
  refine K_region (C_newR rfl (N_box (g := false) (v := (.agg [v0_0.v, v0_1.v, v0_2.v, v0_3.v, (.int .i64 a_a.Source.Version), v0_5.v, (.int .i64 a_a.Cache.Age), (.int .i64 a_a.Now), v0_8.v, v0_9.v, (.int .i64 a_a.Spent), v0_11.v].toArray)) ty34.sz (.tmp rfl rfl) rfl) (fun k1 => ?_))
  refine C_new rfl (N_allocT (g := true) ty47 rfl rfl) (fun k2 => ?_)
  refine C_nil (K_region (C_new rfl (N_allocT (g := true) ty47 rfl rfl) (fun k3 => ?_)))
  refine C_nil (K_region (C_val (V_fieldAddr (off := 0) fd34_0 (.tmp rfl rfl)) ?_))
  refine C_at (.t (.t .h)) (fun hp => V_load (v := v0_0.v) ag22 (.tmp rfl rfl) hp.2 rfl rfl) ?_
  obtain ⟨r4, hx5, hF⟩ := bind_some hF
  refine C_x1 (.rd (.t (.t (.t .h))) rfl .nil) (X_callS cf21 (.cons (.tmp rfl rfl) .nil) (l_toIntS_ok a_a.Schema v0_0 _ hx5)) (fun p6 => ?_)
  refine C_val (V_fieldAddr (off := 0) fd47_0 (.tmp rfl rfl)) ?_
  refine C_x1 (.cons (.t .h) .nil) (X_storeB (e' := (.agg [p6.1.v, (.slice none 0 0), (.slice none 0 0), (.slice none 0 0), (.int .i64 0), (.slice none 0 0), (.int .i64 0), (.int .i64 0), (.slice none 0 0), (.slice none 0 0), (.int .i64 0), (.slice none 0 0)].toArray)) ty22.sz (.tmp rfl rfl) (.tmp rfl rfl) rfl rfl rfl rfl rfl) (fun _ => ?_)
  refine C_nil (K_region (C_val (V_fieldAddr (off := 1) fd34_1 (.tmp rfl rfl)) ?_))
  refine C_at (.t (.t (.t .h))) (fun hp => V_load (v := v0_1.v) ag23 (.tmp rfl rfl) hp.2 rfl rfl) ?_
  obtain ⟨r7, hx8, hF⟩ := bind_some hF
  refine C_x1 (.rd (.t (.t (.t (.t (.t .h))))) rfl .nil) (X_callS cf22 (.cons (.tmp rfl rfl) .nil) (l_toMethodS_ok a_a.Methods v0_1 _ hx8)) (fun p9 => ?_)
  refine C_val (V_fieldAddr (off := 1) fd47_1 (.tmp rfl rfl)) ?_
  refine C_x1 (.cons (.t .h) .nil) (X_storeB (e' := (.agg [p6.1.v, p9.1.v, (.slice none 0 0), (.slice none 0 0), (.int .i64 0), (.slice none 0 0), (.int .i64 0), (.int .i64 0), (.slice none 0 0), (.slice none 0 0), (.int .i64 0), (.slice none 0 0)].toArray)) ty37.sz (.tmp rfl rfl) (.tmp rfl rfl) rfl rfl rfl rfl rfl) (fun _ => ?_)
  refine C_nil (K_region (C_val (V_fieldAddr (off := 2) fd34_2 (.tmp rfl rfl)) ?_))
  refine C_at (.t (.t (.t (.t .h)))) (fun hp => V_load (v := v0_2.v) ag24 (.tmp rfl rfl) hp.2 rfl rfl) ?_
  obtain ⟨r10, hx11, hF⟩ := bind_some hF
  refine C_x1 (.rd (.t (.t (.t (.t (.t (.t (.t .h))))))) rfl .nil) (X_callS cf23 (.cons (.tmp rfl rfl) .nil) (l_toRuleS_ok a_a.Rules v0_2 _ hx11)) (fun p12 => ?_)
  refine C_val (V_fieldAddr (off := 2) fd47_2 (.tmp rfl rfl)) ?_
  refine C_x1 (.cons (.t .h) .nil) (X_storeB (e' := (.agg [p6.1.v, p9.1.v, p12.1.v, (.slice none 0 0), (.int .i64 0), (.slice none 0 0), (.int .i64 0), (.int .i64 0), (.slice none 0 0), (.slice none 0 0), (.int .i64 0), (.slice none 0 0)].toArray)) ty38.sz (.tmp rfl rfl) (.tmp rfl rfl) rfl rfl rfl rfl rfl) (fun _ => ?_)
  refine C_nil (K_region (C_val (V_fieldAddr (off := 3) fd34_3 (.tmp rfl rfl)) ?_))
  refine C_at (.t (.t (.t (.t (.t .h))))) (fun hp => V_loadA (s := 2) (l := [v0_3.v, (.int .i64 a_a.Source.Version)]) ag27 ty27.sz (.tmp rfl rfl) hp.2 rfl (by decide) (Nat.le_of_ble_eq_true rfl) rfl) ?_
  obtain ⟨r13, hx14, hF⟩ := bind_some hF
  refine C_x1 (.rd (.t (.t (.t (.t (.t (.t (.t (.t (.t .h))))))))) rfl .nil) (X_callS cf24 (.cons (.tmp rfl rfl) .nil) (l_toSource_ok a_a.Source v0_3 _ hx14)) (fun p15 => ?_)
  refine C_val (V_fieldAddr (off := 3) fd47_3 (.tmp rfl rfl)) ?_
  refine C_x1 (.cons (.t .h) .nil) (X_storeB (e' := (.agg [p6.1.v, p9.1.v, p12.1.v, p15.1.v, (.int .i64 r13.Version), (.slice none 0 0), (.int .i64 0), (.int .i64 0), (.slice none 0 0), (.slice none 0 0), (.int .i64 0), (.slice none 0 0)].toArray)) (v := (.agg [p15.1.v, (.int .i64 r13.Version)].toArray)) ty41.sz (.tmp rfl rfl) (.tmp rfl rfl) rfl rfl rfl rfl rfl) (fun _ => ?_)
  refine C_nil (K_region (C_val (V_fieldAddr (off := 5) fd34_4 (.tmp rfl rfl)) ?_))
  refine C_at (.t (.t (.t (.t (.t (.t .h)))))) (fun hp => V_loadA (s := 2) (l := [v0_5.v, (.int .i64 a_a.Cache.Age)]) ag30 ty30.sz (.tmp rfl rfl) hp.2 rfl (by decide) (Nat.le_of_ble_eq_true rfl) rfl) ?_
  obtain ⟨r16, hx17, hF⟩ := bind_some hF
  refine C_x1 (.rd (.t (.t (.t (.t (.t (.t (.t (.t (.t (.t (.t .h))))))))))) rfl .nil) (X_callS cf25 (.cons (.tmp rfl rfl) .nil) (l_toCache_ok a_a.Cache v0_5 _ hx17)) (fun p18 => ?_)
  refine C_val (V_fieldAddr (off := 5) fd47_4 (.tmp rfl rfl)) ?_
  refine C_x1 (.cons (.t .h) .nil) (X_storeB (e' := (.agg [p6.1.v, p9.1.v, p12.1.v, p15.1.v, (.int .i64 r13.Version), p18.1.v, (.int .i64 r16.Age), (.int .i64 0), (.slice none 0 0), (.slice none 0 0), (.int .i64 0), (.slice none 0 0)].toArray)) (v := (.agg [p18.1.v, (.int .i64 r16.Age)].toArray)) ty44.sz (.tmp rfl rfl) (.tmp rfl rfl) rfl rfl rfl rfl rfl) (fun _ => ?_)
  refine C_nil (K_region (C_val (V_fieldAddr (off := 7) fd34_5 (.tmp rfl rfl)) ?_))
  refine C_at (.t (.t (.t (.t (.t (.t (.t .h))))))) (fun hp => V_load (v := (.int .i64 a_a.Now)) ag3 (.tmp rfl rfl) hp.2 rfl rfl) ?_
  refine C_val (V_fieldAddr (off := 7) fd47_5 (.tmp rfl rfl)) ?_
  refine C_x1 (.cons .h .nil) (X_storeB (e' := (.agg [p6.1.v, p9.1.v, p12.1.v, p15.1.v, (.int .i64 r13.Version), p18.1.v, (.int .i64 r16.Age), (.int .i64 a_a.Now), (.slice none 0 0), (.slice none 0 0), (.int .i64 0), (.slice none 0 0)].toArray)) (v := (.int .i64 a_a.Now)) ty3.sz (.tmp rfl rfl) (.tmp rfl rfl) rfl rfl rfl rfl rfl) (fun _ => ?_)
  refine C_nil (K_region (C_val (V_fieldAddr (off := 8) fd34_6 (.tmp rfl rfl)) ?_))
  refine C_at (.t (.t (.t (.t (.t (.t (.t .h))))))) (fun hp => V_load (v := v0_8.v) ag31 (.tmp rfl rfl) hp.2 rfl rfl) ?_
  obtain ⟨r19, hx20, hF⟩ := bind_some hF
  refine C_x1 (.rd (.t (.t (.t (.t (.t (.t (.t (.t (.t (.t (.t (.t (.t .h))))))))))))) rfl .nil) (X_callS cf26 (.cons (.tmp rfl rfl) .nil) (l_toAccessS_ok a_a.Log v0_8 _ hx20)) (fun p21 => ?_)
  refine C_val (V_fieldAddr (off := 8) fd47_6 (.tmp rfl rfl)) ?_
  refine C_x1 (.cons (.t .h) .nil) (X_storeB (e' := (.agg [p6.1.v, p9.1.v, p12.1.v, p15.1.v, (.int .i64 r13.Version), p18.1.v, (.int .i64 r16.Age), (.int .i64 a_a.Now), p21.1.v, (.slice none 0 0), (.int .i64 0), (.slice none 0 0)].toArray)) ty45.sz (.tmp rfl rfl) (.tmp rfl rfl) rfl rfl rfl rfl rfl) (fun _ => ?_)
  refine C_nil (K_region (C_val (V_fieldAddr (off := 9) fd34_7 (.tmp rfl rfl)) ?_))
  refine C_at (.t (.t (.t (.t (.t (.t (.t (.t .h)))))))) (fun hp => V_load (v := v0_9.v) ag22 (.tmp rfl rfl) hp.2 rfl rfl) ?_
  obtain ⟨r22, hx23, hF⟩ := bind_some hF
  refine C_x1 (.rd (.t (.t (.t (.t (.t (.t (.t (.t (.t (.t (.t (.t (.t (.t (.t .h))))))))))))))) rfl .nil) (X_callS cf21 (.cons (.tmp rfl rfl) .nil) (l_toIntS_ok a_a.Times v0_9 _ hx23)) (fun p24 => ?_)
  refine C_val (V_fieldAddr (off := 9) fd47_7 (.tmp rfl rfl)) ?_
  refine C_x1 (.cons (.t .h) .nil) (X_storeB (e' := (.agg [p6.1.v, p9.1.v, p12.1.v, p15.1.v, (.int .i64 r13.Version), p18.1.v, (.int .i64 r16.Age), (.int .i64 a_a.Now), p21.1.v, p24.1.v, (.int .i64 0), (.slice none 0 0)].toArray)) ty22.sz (.tmp rfl rfl) (.tmp rfl rfl) rfl rfl rfl rfl rfl) (fun _ => ?_)
  refine C_nil (K_region (C_val (V_fieldAddr (off := 10) fd34_8 (.tmp rfl rfl)) ?_))
  refine C_at (.t (.t (.t (.t (.t (.t (.t (.t (.t .h))))))))) (fun hp => V_load (v := (.int .i64 a_a.Spent)) ag3 (.tmp rfl rfl) hp.2 rfl rfl) ?_
  refine C_val (V_fieldAddr (off := 10) fd47_8 (.tmp rfl rfl)) ?_
  refine C_x1 (.cons .h .nil) (X_storeB (e' := (.agg [p6.1.v, p9.1.v, p12.1.v, p15.1.v, (.int .i64 r13.Version), p18.1.v, (.int .i64 r16.Age), (.int .i64 a_a.Now), p21.1.v, p24.1.v, (.int .i64 a_a.Spent), (.slice none 0 0)].toArray)) (v := (.int .i64 a_a.Spent)) ty3.sz (.tmp rfl rfl) (.tmp rfl rfl) rfl rfl rfl rfl rfl) (fun _ => ?_)
  refine C_nil (K_region (C_val (V_fieldAddr (off := 11) fd34_9 (.tmp rfl rfl)) ?_))
  refine C_at (.t (.t (.t (.t (.t (.t (.t (.t (.t .h))))))))) (fun hp => V_load (v := v0_11.v) ag32 (.tmp rfl rfl) hp.2 rfl rfl) ?_
  obtain ⟨r25, hx26, hF⟩ := bind_some hF
  refine C_x1 (.rd (.t (.t (.t (.t (.t (.t (.t (.t (.t (.t (.t (.t (.t (.t (.t (.t (.t .h))))))))))))))))) rfl .nil) (X_callS cf27 (.cons (.tmp rfl rfl) .nil) (l_toIntSSS_ok a_a.Results v0_11 _ hx26)) (fun p27 => ?_)
  refine C_val (V_fieldAddr (off := 11) fd47_9 (.tmp rfl rfl)) ?_
  refine C_x1 (.cons (.t .h) .nil) (X_storeB (e' := (.agg [p6.1.v, p9.1.v, p12.1.v, p15.1.v, (.int .i64 r13.Version), p18.1.v, (.int .i64 r16.Age), (.int .i64 a_a.Now), p21.1.v, p24.1.v, (.int .i64 a_a.Spent), p27.1.v].toArray)) ty32.sz (.tmp rfl rfl) (.tmp rfl rfl) rfl rfl rfl rfl rfl) (fun _ => ?_)
  refine C_nil (K_region (C_at .h (fun hp => V_loadBox ag47 ty47.sz rfl (.tmp rfl rfl) hp.2 rfl) ?_))
  refine C_x1 (.cons (.t (.t (.t (.t (.t (.t (.t (.t (.t .h))))))))) .nil) (X_storeB (e' := (.agg [p6.1.v, p9.1.v, p12.1.v, p15.1.v, (.int .i64 r13.Version), p18.1.v, (.int .i64 r16.Age), (.int .i64 a_a.Now), p21.1.v, p24.1.v, (.int .i64 a_a.Spent), p27.1.v].toArray)) (v := (.agg [p6.1.v, p9.1.v, p12.1.v, p15.1.v, (.int .i64 r13.Version), p18.1.v, (.int .i64 r16.Age), (.int .i64 a_a.Now), p21.1.v, p24.1.v, (.int .i64 a_a.Spent), p27.1.v].toArray)) ty47.sz (.tmp rfl rfl) (.tmp rfl rfl) rfl rfl rfl rfl rfl) (fun _ => ?_)
  refine C_nil (CW_ret ?_)
  obtain rfl := Option.some.inj hF
  exact End_ret (p6.1, p6.2, p9.1, p9.2, p12.1, p12.2, p15.1, p15.2, p18.1, p18.2, p21.1, p21.2, p24.1, p24.2, p27.1, p27.2) (.cellA rfl rfl .h rfl ag47 ty47.sz rfl rfl .nil) rfl (.sel (.cons (.t (.t (.t (.t (.t (.t (.t (.t (.t .h))))))))) (.cons (.t (.t (.t (.t (.t (.t (.t (.t .h)))))))) (.cons (.t (.t (.t (.t (.t (.t (.t .h))))))) (.cons (.t (.t (.t (.t (.t (.t .h)))))) (.cons (.t (.t (.t (.t (.t .h))))) (.cons (.t (.t (.t (.t .h)))) (.cons (.t (.t (.t .h))) (.cons (.t (.t .h)) .nil)))))))))

/-! spec.l35Mix -/
def s_l35Mix (a_h : Int) (a_x : Int) : Option (Int) :=
  some (Int.tmod (IntKind.i64.wrap ((IntKind.i64.wrap ((IntKind.i64.wrap (a_h * 131)) + a_x)) + 7)) 1000003)
theorem s_l35Mix_ok (a_h : Int) (a_x : Int) (R : Int) (hF : s_l35Mix a_h a_x = some R) :
    Fw.Spec Tryz.prog 38 [(.int .i64 a_h), (.int .i64 a_x)] [] (fun _ : Unit => (.int .i64 R)) (fun _ => []) := by
  refine Spec_enter (n := 11) Tryz.func38 rfl rfl (rs := [.tmp 4]) rfl rfl rfl ?_
  intro H0 F0
  unfold s_l35Mix at hF
  refine K_region (C_val (V_assign (v := (.int .i64 0)) (.int _ _)) ?_)
  refine C_nil (K_region (Cm (.int .i64 a_h) rfl rfl ?_))
  refine C_val (V_mul (i := a_h) (j := 131) (.tmp rfl rfl) (.int _ _)) ?_
  refine Cm (.int .i64 a_x) rfl rfl ?_
  refine C_val (V_add (i := (IntKind.i64.wrap (a_h * 131))) (j := a_x) (.tmp rfl rfl) (.tmp rfl rfl)) ?_
  refine C_val (V_add (i := (IntKind.i64.wrap ((IntKind.i64.wrap (a_h * 131)) + a_x))) (j := 7) (.tmp rfl rfl) (.int _ _)) ?_
  refine C_val (V_rem (i := (IntKind.i64.wrap ((IntKind.i64.wrap ((IntKind.i64.wrap (a_h * 131)) + a_x)) + 7))) (j := 1000003) (.tmp rfl rfl) (.int _ _) (by decide)) ?_
  refine Ca (.int .i64 (Int.tmod (IntKind.i64.wrap ((IntKind.i64.wrap ((IntKind.i64.wrap (a_h * 131)) + a_x)) + 7)) 1000003)) rfl rfl ?_
  refine C_nil (CW_ret ?_)
  obtain rfl := Option.some.inj hF
  exact End_ret () (.tmp rfl rfl .nil) rfl (.sel .nil)

/-! spec.l1In -/
def s_l1In (a_x : Int) (a_low : Int) (a_high : Int) : Option (Bool) :=
  some ((decide ((a_low : Int) ≤ a_x)) && (decide ((a_x : Int) ≤ a_high)))
theorem s_l1In_ok (a_x : Int) (a_low : Int) (a_high : Int) (R : Bool) (hF : s_l1In a_x a_low a_high = some R) :
    Fw.Spec Tryz.prog 59 [(.int .i64 a_x), (.int .i64 a_low), (.int .i64 a_high)] [] (fun _ : Unit => (.bool R)) (fun _ => []) := by
  refine Spec_enter (n := 15) Tryz.func59 rfl rfl (rs := [.tmp 6]) rfl rfl rfl ?_
  intro H0 F0
  unfold s_l1In at hF
  refine K_region (C_val (V_assign (v := (.bool false)) (.bool _)) ?_)
  refine C_nil (K_region (C_cut (fun f' cs' => ∃ (g : Fr), f' = updL g [(6, (.bool ((decide ((a_low : Int) ≤ a_x)) && (decide ((a_x : Int) ≤ a_high)))))] ∧ Ent cs' []) ?_ ?_))
  · refine Cm (.int .i64 a_x) rfl rfl ?_
    refine Cm (.int .i64 a_low) rfl rfl ?_
    refine C_val (V_geq (i := a_x) (j := a_low) (.tmp rfl rfl) (.tmp rfl rfl)) ?_
    refine Cm (.bool (decide ((a_low : Int) ≤ a_x))) rfl rfl ?_
    rcases Bool.eq_false_or_eq_true (decide ((a_low : Int) ≤ a_x)) with hg1 | hg1
    · rw [hg1]
      try rw [hg1] at hF; dsimp only [cond_true, cond_false] at hF
      refine C_on (t := 10) rfl rfl rfl ?_
      refine Cm (.int .i64 a_x) rfl rfl ?_
      refine C_on (t := 10) rfl rfl rfl ?_
      refine Cm (.int .i64 a_high) rfl rfl ?_
      refine C_on (t := 10) rfl rfl rfl ?_
      refine C_val (V_leq (i := a_x) (j := a_high) (.tmp rfl rfl) (.tmp rfl rfl)) ?_
      refine C_val (V_pick (b := true) (u := (.bool (decide ((a_x : Int) ≤ a_high)))) (v := (.bool false)) (.tmp rfl rfl) (.tmp rfl rfl) (.bool _)) ?_
      refine Ca (.bool (decide ((a_x : Int) ≤ a_high))) rfl rfl ?_
      refine C_nil ?_
      exact ⟨_, (EqL.cons rfl (EqL.nil)).eq, (.sel .nil)⟩
    rw [hg1]
    try rw [hg1] at hF; dsimp only [cond_true, cond_false] at hF
    iterate 3 refine C_off (t := 10) rfl rfl rfl ?_
    refine C_val (V_pick (b := false) (u := undef) (v := (.bool false)) (.tmp rfl rfl) (.tmp rfl rfl) (.bool _)) ?_
    refine Ca (.bool false) rfl rfl ?_
    refine C_nil ?_
    exact ⟨_, (EqL.cons rfl (EqL.nil)).eq, (.sel .nil)⟩
  rintro _ _ ⟨g2, rfl, hE⟩
  refine K_ent hE ?_
  refine CW_ret ?_
  obtain rfl := Option.some.inj hF
  exact End_ret () (.tmp rfl rfl .nil) rfl (.sel .nil)

/-! spec.IsSchema -/
def s_IsSchema_L1 (a_s : List Int) : List Int → Nat → Option (Bool)
  | [], k4 => (s_l1In (a_s.length : Int) 1 3).bind fun r13 =>
    some r13
  | x6 :: rest5, k4 => (s_l1In x6 1 3).bind fun r18 =>
    if (!r18) then (
      some false)
    else (
      s_IsSchema_L1 a_s rest5 (k4 + 1))
def s_IsSchema (a_s : List Int) : Option (Bool) :=
  s_IsSchema_L1 a_s a_s 0
theorem s_IsSchema_ok (a_s : List Int) (v0_0 : Sv) (R : Bool) (hF : s_IsSchema a_s = some R) :
    Fw.Spec Tryz.prog 53 [v0_0.v] [crd (RdS 3 rdInt) v0_0.v a_s] (fun _ : Unit => (.bool R)) (fun _ => []) := by
  refine Spec_enter (n := 19) Tryz.func53 rfl rfl (rs := [.tmp 2]) rfl rfl rfl ?_
  intro H0 F0
  unfold s_IsSchema at hF
  refine K_region (C_val (V_assign (v := (.bool false)) (.bool _)) ?_)
  refine C_nil (K_in (K_region (C_val (V_assign (v := (.int .i64 0)) (.int _ _)) ?_)))
  refine C_nil (CW_block (CW_loop (m := a_s.length) (fun m2 f' cs' => ∃ (g : Fr) (k4 : Nat) (rest5 : List Int), m2 = rest5.length ∧ f' = updL g [(0, v0_0.v), (3, (.int .i64 (k4 : Int)))] ∧ List.drop k4 a_s = rest5 ∧ Ent cs' [crd (RdS 3 rdInt) v0_0.v a_s] ∧ s_IsSchema_L1 a_s rest5 k4 = some R) ⟨_, 0, _, rfl, (EqL.cons rfl (EqL.cons rfl (EqL.nil))).eq, rfl, (.sel (.rd .h rfl .nil)), hF⟩ ?_))
  clear hF
  rintro m2 _ _ ⟨g3, k4, rest5, rfl, rfl, hd7, hE, hF⟩
  refine K_ent hE ?_
  clear hE
  refine K_pure (c := crd (RdS 3 rdInt) v0_0.v a_s) .h crd_bound (fun hbd12 => ?_)
  rcases rest5 with _ | ⟨x6, rest5⟩
  · have hk8 := List.drop_eq_nil_iff.1 hd7
    have hfe11 : (decide (((k4 : Int) : Int) < (a_s.length : Int))) = false := decide_eq_false (by omega)
    rw [s_IsSchema_L1] at hF
    refine K_in (K_region (Cm (.int .i64 (k4 : Int)) rfl rfl ?_))
    refine Cm v0_0.v rfl rfl ?_
    refine C_at .h (fun hp => V_lenR (l := a_s.length) sl22 (.tmp rfl rfl) (crd_len hp)) ?_
    refine C_val (V_lss (i := (k4 : Int)) (j := (a_s.length : Int)) (.tmp rfl rfl) (.tmp rfl rfl)) ?_
    refine C_nil (CW_cond (b := (decide (((k4 : Int) : Int) < (a_s.length : Int)))) (.tmp rfl rfl) (fun hb => absurd (hfe11.symm.trans hb) (by decide)) (fun _ => ?_))
    refine CW_exit ?_
    iterate 2 refine CThen_exit ?_
    refine CIn_self (K_region (Cm v0_0.v rfl rfl ?_))
    refine C_at .h (fun hp => V_lenR (l := a_s.length) sl22 (.tmp rfl rfl) (crd_len hp)) ?_
    obtain ⟨r13, hx14, hF⟩ := bind_some hF
    refine C_x0 .nil (X_callS cf59 (.cons (.tmp rfl rfl) (.cons (.int _ _) (.cons (.int _ _) .nil))) (s_l1In_ok (a_s.length : Int) 1 3 _ hx14)) (fun _ => ?_)
    refine Ca (.bool r13) rfl rfl ?_
    refine C_nil (CW_ret ?_)
    obtain rfl := Option.some.inj hF
    exact End_ret () (.tmp rfl rfl .nil) rfl (.sel .nil)
  obtain ⟨hk8, hx9, hd10⟩ := drop_cons hd7
  have hfe11 : (decide (((k4 : Int) : Int) < (a_s.length : Int))) = true := decide_eq_true (by omega)
  rw [s_IsSchema_L1] at hF
  refine K_in (K_region (Cm (.int .i64 (k4 : Int)) rfl rfl ?_))
  refine Cm v0_0.v rfl rfl ?_
  refine C_at .h (fun hp => V_lenR (l := a_s.length) sl22 (.tmp rfl rfl) (crd_len hp)) ?_
  refine C_val (V_lss (i := (k4 : Int)) (j := (a_s.length : Int)) (.tmp rfl rfl) (.tmp rfl rfl)) ?_
  refine C_nil (CW_cond (b := (decide (((k4 : Int) : Int) < (a_s.length : Int)))) (.tmp rfl rfl) (fun _ => ?_) (fun hb => absurd (hfe11.symm.trans hb) (by decide)))
  refine CW_skip (K_block (K_region (Cm v0_0.v rfl rfl ?_)))
  refine Cm (.int .i64 (k4 : Int)) rfl rfl ?_
  refine C_idx (a := x6) sl22 ty3.sz (.tmp rfl rfl) (.tmp rfl rfl) .h (Int.natCast_nonneg k4) hx9 (fun k16 j17 => ?_)
  refine C_ldS (w := (.int .i64 x6)) ag3 (.tmp rfl rfl) .h ls3_0 ?_
  obtain ⟨r18, hx19, hF⟩ := bind_some hF
  refine C_x0 .nil (X_callS cf59 (.cons (.tmp rfl rfl) (.cons (.int _ _) (.cons (.int _ _) .nil))) (s_l1In_ok x6 1 3 _ hx19)) (fun _ => ?_)
  refine C_val (V_not (b := r18) (.tmp rfl rfl)) ?_
  refine C_nil (CW_cond (b := (!r18)) (.tmp rfl rfl) (fun hb22 => ?_) (fun hb22 => ?_))
  · rw [if_pos hb22] at hF
    refine K_region (C_val (V_assign (v := (.bool false)) (.bool _)) ?_)
    refine C_nil (CW_ret ?_)
    obtain rfl := Option.some.inj hF
    exact End_ret () (.tmp rfl rfl .nil) rfl (.sel .nil)
  rw [if_neg (by rw [hb22]; exact Bool.false_ne_true)] at hF
  refine CW_skip (CW_region (Cm (.int .i64 (k4 : Int)) rfl rfl ?_))
  refine C_val (V_add (i := (k4 : Int)) (j := 1) (.tmp rfl rfl) (.int _ _)) ?_
  refine Ca (.int .i64 (IntKind.i64.wrap ((k4 : Int) + 1))) rfl rfl ?_
  refine C_nil ?_
  have hw21 : IntKind.i64.wrap ((k4 : Int) + 1) = ((k4 + 1 : Nat) : Int) := by rw [wrap_in (by omega) (by omega)]; rfl
  rw [hw21]
  exact ⟨_, Nat.lt_succ_self _, _, k4 + 1, rest5, rfl, (EqL.cons rfl (EqL.cons rfl (EqL.nil))).eq, hd10, (.sel (.rd (.t .h) rfl .nil)), hF⟩

/-! spec.IsMethod -/
def s_IsMethod_L1 (a_s : List Int) (a_m : Method) : List Int → Nat → Option (Bool)
  | [], k27 => some true
  | x29 :: rest28, k27 => ((ix a_s a_m.Rel).bind fun x40 =>
      (s_l1In x29 0 (IntKind.i64.wrap (x40 - 1))).bind fun r46 =>
      bif (!r46) then (some true)
      else (bif (decide ((0 : Int) < (k27 : Int))) then ((ix a_m.Inputs (IntKind.i64.wrap ((k27 : Int) - 1))).bind fun x53 =>
          some (decide ((x29 : Int) ≤ x53)))
        else (some false))).bind fun o36 =>
    match o36 with
    | c59 => if c59 then (
        some false)
      else (
        s_IsMethod_L1 a_s a_m rest28 (k27 + 1))
def s_IsMethod (a_s : List Int) (a_m : Method) : Option (Bool) :=
  ((s_IsSchema a_s).bind fun r4 =>
    bif (!r4) then (some true)
    else ((s_l1In a_m.Rel 0 (IntKind.i64.wrap ((a_s.length : Int) - 1))).bind fun r8 =>
      bif (!r8) then (some true)
      else ((s_l1In a_m.Limit 0 9).bind fun r12 =>
        bif (!r12) then (some true)
        else ((s_l1In a_m.Cost 0 99).bind fun r16 =>
          bif (!r16) then (some true)
          else ((s_l1In a_m.Quota 1 99).bind fun r20 =>
            some (!r20)))))).bind fun o2 =>
  match o2 with
  | c23 => if c23 then (
      some false)
    else (
      s_IsMethod_L1 a_s a_m a_m.Inputs 0)
theorem s_IsMethod_ok (a_s : List Int) (v0_0 : Sv) (a_m : Method) (v1_1 : Sv) (R : Bool) (hF : s_IsMethod a_s a_m = some R) :
    Fw.Spec Tryz.prog 95 [v0_0.v, (.agg [(.int .i64 a_m.Rel), v1_1.v, (.int .i64 a_m.Limit), (.int .i64 a_m.Cost), (.int .i64 a_m.Quota)].toArray)] [crd (RdS 3 rdInt) v0_0.v a_s, crd (RdS 3 rdInt) v1_1.v a_m.Inputs] (fun _ : Unit => (.bool R)) (fun _ => []) := by
  refine Spec_enter (n := 74) Tryz.func95 rfl rfl (rs := [.tmp 4]) rfl rfl rfl ?_
  intro H0 F0
  unfold s_IsMethod at hF
  refine K_region (C_newR rfl (N_box (g := false) (v := (.agg [(.int .i64 a_m.Rel), v1_1.v, (.int .i64 a_m.Limit), (.int .i64 a_m.Cost), (.int .i64 a_m.Quota)].toArray)) ty108.sz (.tmp rfl rfl) rfl) (fun k1 => ?_))
  refine C_val (V_assign (v := (.bool false)) (.bool _)) ?_
  refine C_nil (K_in ?_)
  obtain ⟨o2, hio2, hO3⟩ := bind_some hF
  refine K_region (C_cut (fun f' cs' => ∃ (c23 : Bool) (g : Fr), c23 = o2 ∧ f' = updL g [(0, v0_0.v), (3, (.pointer (some ⟨k1, 0, some 0⟩))), (35, (.bool c23))] ∧ Ent cs' [crd (RdS 3 rdInt) v0_0.v a_s, cboR k1 108 (.agg [(.int .i64 a_m.Rel), v1_1.v, (.int .i64 a_m.Limit), (.int .i64 a_m.Cost), (.int .i64 a_m.Quota)].toArray), crd (RdS 3 rdInt) v1_1.v a_m.Inputs]) ?_ ?_)
  · replace hF := hio2
    refine Cm v0_0.v rfl rfl ?_
    obtain ⟨r4, hx5, hF⟩ := bind_some hF
    refine C_x0 (.rd (.t .h) rfl .nil) (X_callS cf53 (.cons (.tmp rfl rfl) .nil) (s_IsSchema_ok a_s v0_0 _ hx5)) (fun _ => ?_)
    refine C_val (V_not (b := r4) (.tmp rfl rfl)) ?_
    refine Cm (.bool (!r4)) rfl rfl ?_
    rcases Bool.eq_false_or_eq_true (!r4) with hg7 | hg7
    · rw [hg7]
      try rw [hg7] at hF; dsimp only [cond_true, cond_false] at hF
      iterate 7 refine C_off (t := 9) rfl rfl rfl ?_
      refine C_val (V_pick (b := true) (u := (.bool true)) (v := undef) (.tmp rfl rfl) (.bool _) (.tmp rfl rfl)) ?_
      refine Cm (.bool true) rfl rfl ?_
      iterate 4 refine C_off (t := 18) rfl rfl rfl ?_
      refine C_val (V_pick (b := true) (u := (.bool true)) (v := undef) (.tmp rfl rfl) (.bool _) (.tmp rfl rfl)) ?_
      refine Cm (.bool true) rfl rfl ?_
      iterate 4 refine C_off (t := 24) rfl rfl rfl ?_
      refine C_val (V_pick (b := true) (u := (.bool true)) (v := undef) (.tmp rfl rfl) (.bool _) (.tmp rfl rfl)) ?_
      refine Cm (.bool true) rfl rfl ?_
      iterate 4 refine C_off (t := 30) rfl rfl rfl ?_
      refine C_val (V_pick (b := true) (u := (.bool true)) (v := undef) (.tmp rfl rfl) (.bool _) (.tmp rfl rfl)) ?_
      refine C_nil ?_
      obtain rfl := Option.some.inj hF
      exact ⟨_, _, rfl, (EqL.cons rfl (EqL.cons rfl (EqL.cons rfl (EqL.nil)))).eq, (.sel (.rd (.t .h) rfl (.rd .h rfl (.rd (.t (.t .h)) rfl .nil))))⟩
    rw [hg7]
    try rw [hg7] at hF; dsimp only [cond_true, cond_false] at hF
    refine C_on (t := 9) rfl rfl rfl ?_
    refine C_val (V_fieldAddr (off := 0) fd108_0 (.tmp rfl rfl)) ?_
    refine C_on (t := 9) rfl rfl rfl ?_
    refine C_at .h (fun hp => V_load (v := (.int .i64 a_m.Rel)) ag3 (.tmp rfl rfl) hp.2 rfl rfl) ?_
    refine C_on (t := 9) rfl rfl rfl ?_
    refine Cm v0_0.v rfl rfl ?_
    refine C_on (t := 9) rfl rfl rfl ?_
    refine C_at (.t .h) (fun hp => V_lenR (l := a_s.length) sl22 (.tmp rfl rfl) (crd_len hp)) ?_
    refine C_on (t := 9) rfl rfl rfl ?_
    refine C_val (V_sub (i := (a_s.length : Int)) (j := 1) (.tmp rfl rfl) (.int _ _)) ?_
    refine C_on (t := 9) rfl rfl rfl ?_
    obtain ⟨r8, hx9, hF⟩ := bind_some hF
    refine C_x0 .nil (X_callS cf59 (.cons (.tmp rfl rfl) (.cons (.int _ _) (.cons (.tmp rfl rfl) .nil))) (s_l1In_ok a_m.Rel 0 (IntKind.i64.wrap ((a_s.length : Int) - 1)) _ hx9)) (fun _ => ?_)
    refine C_on (t := 9) rfl rfl rfl ?_
    refine C_val (V_not (b := r8) (.tmp rfl rfl)) ?_
    refine C_val (V_pick (b := false) (u := (.bool true)) (v := (.bool (!r8))) (.tmp rfl rfl) (.bool _) (.tmp rfl rfl)) ?_
    refine Cm (.bool (!r8)) rfl rfl ?_
    rcases Bool.eq_false_or_eq_true (!r8) with hg11 | hg11
    · rw [hg11]
      try rw [hg11] at hF; dsimp only [cond_true, cond_false] at hF
      iterate 4 refine C_off (t := 18) rfl rfl rfl ?_
      refine C_val (V_pick (b := true) (u := (.bool true)) (v := undef) (.tmp rfl rfl) (.bool _) (.tmp rfl rfl)) ?_
      refine Cm (.bool true) rfl rfl ?_
      iterate 4 refine C_off (t := 24) rfl rfl rfl ?_
      refine C_val (V_pick (b := true) (u := (.bool true)) (v := undef) (.tmp rfl rfl) (.bool _) (.tmp rfl rfl)) ?_
      refine Cm (.bool true) rfl rfl ?_
      iterate 4 refine C_off (t := 30) rfl rfl rfl ?_
      refine C_val (V_pick (b := true) (u := (.bool true)) (v := undef) (.tmp rfl rfl) (.bool _) (.tmp rfl rfl)) ?_
      refine C_nil ?_
      obtain rfl := Option.some.inj hF
      exact ⟨_, _, rfl, (EqL.cons rfl (EqL.cons rfl (EqL.cons rfl (EqL.nil)))).eq, (.sel (.rd (.t .h) rfl (.rd .h rfl (.rd (.t (.t .h)) rfl .nil))))⟩
    rw [hg11]
    try rw [hg11] at hF; dsimp only [cond_true, cond_false] at hF
    refine C_on (t := 18) rfl rfl rfl ?_
    refine C_val (V_fieldAddr (off := 2) fd108_2 (.tmp rfl rfl)) ?_
    refine C_on (t := 18) rfl rfl rfl ?_
    refine C_at .h (fun hp => V_load (v := (.int .i64 a_m.Limit)) ag3 (.tmp rfl rfl) hp.2 rfl rfl) ?_
    refine C_on (t := 18) rfl rfl rfl ?_
    obtain ⟨r12, hx13, hF⟩ := bind_some hF
    refine C_x0 .nil (X_callS cf59 (.cons (.tmp rfl rfl) (.cons (.int _ _) (.cons (.int _ _) .nil))) (s_l1In_ok a_m.Limit 0 9 _ hx13)) (fun _ => ?_)
    refine C_on (t := 18) rfl rfl rfl ?_
    refine C_val (V_not (b := r12) (.tmp rfl rfl)) ?_
    refine C_val (V_pick (b := false) (u := (.bool true)) (v := (.bool (!r12))) (.tmp rfl rfl) (.bool _) (.tmp rfl rfl)) ?_
    refine Cm (.bool (!r12)) rfl rfl ?_
    rcases Bool.eq_false_or_eq_true (!r12) with hg15 | hg15
    · rw [hg15]
      try rw [hg15] at hF; dsimp only [cond_true, cond_false] at hF
      iterate 4 refine C_off (t := 24) rfl rfl rfl ?_
      refine C_val (V_pick (b := true) (u := (.bool true)) (v := undef) (.tmp rfl rfl) (.bool _) (.tmp rfl rfl)) ?_
      refine Cm (.bool true) rfl rfl ?_
      iterate 4 refine C_off (t := 30) rfl rfl rfl ?_
      refine C_val (V_pick (b := true) (u := (.bool true)) (v := undef) (.tmp rfl rfl) (.bool _) (.tmp rfl rfl)) ?_
      refine C_nil ?_
      obtain rfl := Option.some.inj hF
      exact ⟨_, _, rfl, (EqL.cons rfl (EqL.cons rfl (EqL.cons rfl (EqL.nil)))).eq, (.sel (.rd (.t .h) rfl (.rd .h rfl (.rd (.t (.t .h)) rfl .nil))))⟩
    rw [hg15]
    try rw [hg15] at hF; dsimp only [cond_true, cond_false] at hF
    refine C_on (t := 24) rfl rfl rfl ?_
    refine C_val (V_fieldAddr (off := 3) fd108_3 (.tmp rfl rfl)) ?_
    refine C_on (t := 24) rfl rfl rfl ?_
    refine C_at .h (fun hp => V_load (v := (.int .i64 a_m.Cost)) ag3 (.tmp rfl rfl) hp.2 rfl rfl) ?_
    refine C_on (t := 24) rfl rfl rfl ?_
    obtain ⟨r16, hx17, hF⟩ := bind_some hF
    refine C_x0 .nil (X_callS cf59 (.cons (.tmp rfl rfl) (.cons (.int _ _) (.cons (.int _ _) .nil))) (s_l1In_ok a_m.Cost 0 99 _ hx17)) (fun _ => ?_)
    refine C_on (t := 24) rfl rfl rfl ?_
    refine C_val (V_not (b := r16) (.tmp rfl rfl)) ?_
    refine C_val (V_pick (b := false) (u := (.bool true)) (v := (.bool (!r16))) (.tmp rfl rfl) (.bool _) (.tmp rfl rfl)) ?_
    refine Cm (.bool (!r16)) rfl rfl ?_
    rcases Bool.eq_false_or_eq_true (!r16) with hg19 | hg19
    · rw [hg19]
      try rw [hg19] at hF; dsimp only [cond_true, cond_false] at hF
      iterate 4 refine C_off (t := 30) rfl rfl rfl ?_
      refine C_val (V_pick (b := true) (u := (.bool true)) (v := undef) (.tmp rfl rfl) (.bool _) (.tmp rfl rfl)) ?_
      refine C_nil ?_
      obtain rfl := Option.some.inj hF
      exact ⟨_, _, rfl, (EqL.cons rfl (EqL.cons rfl (EqL.cons rfl (EqL.nil)))).eq, (.sel (.rd (.t .h) rfl (.rd .h rfl (.rd (.t (.t .h)) rfl .nil))))⟩
    rw [hg19]
    try rw [hg19] at hF; dsimp only [cond_true, cond_false] at hF
    refine C_on (t := 30) rfl rfl rfl ?_
    refine C_val (V_fieldAddr (off := 4) fd108_4 (.tmp rfl rfl)) ?_
    refine C_on (t := 30) rfl rfl rfl ?_
    refine C_at .h (fun hp => V_load (v := (.int .i64 a_m.Quota)) ag3 (.tmp rfl rfl) hp.2 rfl rfl) ?_
    refine C_on (t := 30) rfl rfl rfl ?_
    obtain ⟨r20, hx21, hF⟩ := bind_some hF
    refine C_x0 .nil (X_callS cf59 (.cons (.tmp rfl rfl) (.cons (.int _ _) (.cons (.int _ _) .nil))) (s_l1In_ok a_m.Quota 1 99 _ hx21)) (fun _ => ?_)
    refine C_on (t := 30) rfl rfl rfl ?_
    refine C_val (V_not (b := r20) (.tmp rfl rfl)) ?_
    refine C_val (V_pick (b := false) (u := (.bool true)) (v := (.bool (!r20))) (.tmp rfl rfl) (.bool _) (.tmp rfl rfl)) ?_
    refine C_nil ?_
    obtain rfl := Option.some.inj hF
    exact ⟨_, _, rfl, (EqL.cons rfl (EqL.cons rfl (EqL.cons rfl (EqL.nil)))).eq, (.sel (.rd (.t .h) rfl (.rd .h rfl (.rd (.t (.t .h)) rfl .nil))))⟩
  rintro _ _ ⟨c23, g64, rfl, rfl, hE⟩
  replace hF := hO3
  clear hO3
  try dsimp only at hF
  refine K_ent hE ?_
  refine CW_cond (b := c23) (.tmp rfl rfl) (fun hb63 => ?_) (fun hb63 => ?_)
  · rw [if_pos hb63] at hF
    refine K_region (C_val (V_assign (v := (.bool false)) (.bool _)) ?_)
    refine C_nil (CW_ret ?_)
    obtain rfl := Option.some.inj hF
    exact End_ret () (.tmp rfl rfl .nil) rfl (.sel .nil)
  rw [if_neg (by rw [hb63]; exact Bool.false_ne_true)] at hF
  refine CW_skip (K_in (K_region (C_val (V_assign (v := (.int .i64 0)) (.int _ _)) ?_)))
  refine C_nil (CW_block (CW_loop (m := a_m.Inputs.length) (fun m25 f' cs' => ∃ (g : Fr) (k27 : Nat) (rest28 : List Int), m25 = rest28.length ∧ f' = updL g [(0, v0_0.v), (3, (.pointer (some ⟨k1, 0, some 0⟩))), (5, (.int .i64 (k27 : Int)))] ∧ List.drop k27 a_m.Inputs = rest28 ∧ Ent cs' [crd (RdS 3 rdInt) v0_0.v a_s, cboR k1 108 (.agg [(.int .i64 a_m.Rel), v1_1.v, (.int .i64 a_m.Limit), (.int .i64 a_m.Cost), (.int .i64 a_m.Quota)].toArray), crd (RdS 3 rdInt) v1_1.v a_m.Inputs] ∧ s_IsMethod_L1 a_s a_m rest28 k27 = some R) ⟨_, 0, _, rfl, (EqL.cons rfl (EqL.cons rfl (EqL.cons rfl (EqL.nil)))).eq, rfl, (.sel (.rd .h rfl (.rd (.t .h) rfl (.rd (.t (.t .h)) rfl .nil)))), hF⟩ ?_))
  clear hF
  rintro m25 _ _ ⟨g26, k27, rest28, rfl, rfl, hd30, hE, hF⟩
  refine K_ent hE ?_
  clear hE
  refine K_pure (c := crd (RdS 3 rdInt) v1_1.v a_m.Inputs) (.t (.t .h)) crd_bound (fun hbd35 => ?_)
  rcases rest28 with _ | ⟨x29, rest28⟩
  · have hk31 := List.drop_eq_nil_iff.1 hd30
    have hfe34 : (decide (((k27 : Int) : Int) < (a_m.Inputs.length : Int))) = false := decide_eq_false (by omega)
    rw [s_IsMethod_L1] at hF
    refine K_in (K_region (Cm (.int .i64 (k27 : Int)) rfl rfl ?_))
    refine C_val (V_fieldAddr (off := 1) fd108_1 (.tmp rfl rfl)) ?_
    refine C_at (.t .h) (fun hp => V_load (v := v1_1.v) ag22 (.tmp rfl rfl) hp.2 rfl rfl) ?_
    refine C_at (.t (.t .h)) (fun hp => V_lenR (l := a_m.Inputs.length) sl22 (.tmp rfl rfl) (crd_len hp)) ?_
    refine C_val (V_lss (i := (k27 : Int)) (j := (a_m.Inputs.length : Int)) (.tmp rfl rfl) (.tmp rfl rfl)) ?_
    refine C_nil (CW_cond (b := (decide (((k27 : Int) : Int) < (a_m.Inputs.length : Int)))) (.tmp rfl rfl) (fun hb => absurd (hfe34.symm.trans hb) (by decide)) (fun _ => ?_))
    refine CW_exit ?_
    iterate 2 refine CThen_exit ?_
    refine CIn_self (K_region (C_val (V_assign (v := (.bool true)) (.bool _)) ?_))
    refine C_nil (CW_ret ?_)
    obtain rfl := Option.some.inj hF
    exact End_ret () (.tmp rfl rfl .nil) rfl (.sel .nil)
  obtain ⟨hk31, hx32, hd33⟩ := drop_cons hd30
  have hfe34 : (decide (((k27 : Int) : Int) < (a_m.Inputs.length : Int))) = true := decide_eq_true (by omega)
  rw [s_IsMethod_L1] at hF
  refine K_in (K_region (Cm (.int .i64 (k27 : Int)) rfl rfl ?_))
  refine C_val (V_fieldAddr (off := 1) fd108_1 (.tmp rfl rfl)) ?_
  refine C_at (.t .h) (fun hp => V_load (v := v1_1.v) ag22 (.tmp rfl rfl) hp.2 rfl rfl) ?_
  refine C_at (.t (.t .h)) (fun hp => V_lenR (l := a_m.Inputs.length) sl22 (.tmp rfl rfl) (crd_len hp)) ?_
  refine C_val (V_lss (i := (k27 : Int)) (j := (a_m.Inputs.length : Int)) (.tmp rfl rfl) (.tmp rfl rfl)) ?_
  refine C_nil (CW_cond (b := (decide (((k27 : Int) : Int) < (a_m.Inputs.length : Int)))) (.tmp rfl rfl) (fun _ => ?_) (fun hb => absurd (hfe34.symm.trans hb) (by decide)))
  refine CW_skip (K_block ?_)
  obtain ⟨o36, hio36, hO37⟩ := bind_some hF
  refine K_draw [0, 1, 2, 3, 4, 5, 6, 7, 8, 9, 10, 11, 12, 13, 14, 15, 16, 17, 18, 19, 20, 21, 22, 23, 24, 25, 26, 27, 28, 29, 30] [0, 1, 0, 7, 15, 0, 0, 64, 224, 480, 992, 2047, 4095, 8191, 16383, 32767, 65535, 131071, 262143, 131071, 1048575, 2097151, 131071, 4325375, 131071, 16908287, 63045631, 130154495, 268435455, 536870911, 1073741823] [11] mixed (by decide +kernel) ?_
  refine D_cut (fun f' cs' => ∃ (c59 : Bool) (g : Fr), c59 = o36 ∧ f' = updL g [(0, v0_0.v), (3, (.pointer (some ⟨k1, 0, some 0⟩))), (5, (.int .i64 (k27 : Int))), (73, (.bool c59))] ∧ Ent cs' [crd (RdS 3 rdInt) v0_0.v a_s, cboR k1 108 (.agg [(.int .i64 a_m.Rel), v1_1.v, (.int .i64 a_m.Limit), (.int .i64 a_m.Cost), (.int .i64 a_m.Quota)].toArray), crd (RdS 3 rdInt) v1_1.v a_m.Inputs]) ?_ ?_
  · replace hF := hio36
    refine D_val rfl .no (fun ha => V_fieldAddr (off := 1) fd108_1 (EN ha (.tmp rfl rfl) rfl)) ?_
    refine D_at rfl .no (.t .h) rfl (fun ha hp => V_load (v := v1_1.v) ag22 (EN ha (.tmp rfl rfl) rfl) hp.2 rfl rfl) ?_
    refine Dm (.int .i64 (k27 : Int)) rfl rfl rfl rfl ?_
    refine D_idx (a := x29) sl22 ty3.sz rfl .no (.tmp rfl rfl) (.tmp rfl rfl) rfl rfl (.t (.t .h)) (Int.natCast_nonneg k27) hx32 (fun k38 j39 => ?_)
    refine D_ldS (w := (.int .i64 x29)) ag3 rfl .no (.tmp rfl rfl) rfl .h ls3_0 ?_
    refine Dm v0_0.v rfl rfl rfl rfl ?_
    refine D_val rfl .no (fun ha => V_fieldAddr (off := 0) fd108_0 (EN ha (.tmp rfl rfl) rfl)) ?_
    refine D_at rfl .no (.t (.t .h)) rfl (fun ha hp => V_load (v := (.int .i64 a_m.Rel)) ag3 (EN ha (.tmp rfl rfl) rfl) hp.2 rfl rfl) ?_
    obtain ⟨x40, hx41, hF⟩ := bind_some hF
    obtain ⟨hp42, hx43⟩ := ix_some hx41
    refine D_idx (a := x40) sl22 ty3.sz rfl .no (.tmp rfl rfl) (.tmp rfl rfl) rfl rfl (.t .h) hp42 hx43 (fun k44 j45 => ?_)
    refine D_ldS (w := (.int .i64 x40)) ag3 rfl .no (.tmp rfl rfl) rfl .h ls3_0 ?_
    refine D_val rfl .no (fun ha => V_sub (i := x40) (j := 1) (EN ha (.tmp rfl rfl) rfl) (EN ha (.int _ _) rfl)) ?_
    obtain ⟨r46, hx47, hF⟩ := bind_some hF
    refine D_act0 rfl rfl .no .nil .nil (fun ha => X_callS cf59 (.cons (EN ha (.tmp rfl rfl) rfl) (.cons (EN ha (.int _ _) rfl) (.cons (EN ha (.tmp rfl rfl) rfl) .nil))) (s_l1In_ok x29 0 (IntKind.i64.wrap (x40 - 1)) _ hx47)) (fun _ => ?_)
    refine D_val rfl .no (fun ha => V_not (b := r46) (EN ha (.tmp rfl rfl) rfl)) ?_
    refine Dm (.bool (!r46)) rfl rfl rfl rfl ?_
    rcases Bool.eq_false_or_eq_true (!r46) with hg49 | hg49
    · rw [hg49]
      try rw [hg49] at hF; dsimp only [cond_true, cond_false] at hF
      iterate 3 refine D_off 56 rfl rfl rfl rfl ?_
      iterate 12 refine D_offU 59 rfl rfl rfl rfl ?_
      refine D_off 56 rfl rfl rfl rfl ?_
      refine D_val rfl .no (fun ha => V_pick (b := true) (u := (.bool true)) (v := undef) (EN ha (.tmp rfl rfl) rfl) (EN ha (.bool _) rfl) (EN ha (.tmp rfl rfl) rfl)) ?_
      refine D_nil ?_
      obtain rfl := Option.some.inj hF
      exact ⟨_, _, rfl, (EqL.cons rfl (EqL.cons rfl (EqL.cons rfl (EqL.cons rfl (EqL.nil))))).eq, (.sel (.rd (.t (.t .h)) rfl (.rd (.t (.t (.t .h))) rfl (.rd (.t (.t (.t (.t .h)))) rfl .nil))))⟩
    rw [hg49]
    try rw [hg49] at hF; dsimp only [cond_true, cond_false] at hF
    refine D_val rfl (.on 56 rfl rfl rfl) (fun ha => V_move (v := (.int .i64 (k27 : Int))) (EN ha (.tmp rfl rfl) rfl)) ?_
    refine D_val rfl (.on 56 rfl rfl rfl) (fun ha => V_gtr (i := (k27 : Int)) (j := 0) (EN ha (.tmp rfl rfl) rfl) (EN ha (.int _ _) rfl)) ?_
    refine D_val rfl (.on 56 rfl rfl rfl) (fun ha => V_move (v := (.bool (decide ((0 : Int) < (k27 : Int))))) (EN ha (.tmp rfl rfl) rfl)) ?_
    rcases Bool.eq_false_or_eq_true (decide ((0 : Int) < (k27 : Int))) with hg50 | hg50
    · rw [hg50]
      try rw [hg50] at hF; dsimp only [cond_true, cond_false] at hF
      refine D_val rfl (.on 59 rfl rfl rfl) (fun ha => V_fieldAddr (off := 1) fd108_1 (EN ha (.tmp rfl rfl) rfl)) ?_
      refine D_at rfl (.on 59 rfl rfl rfl) (.t (.t (.t .h))) rfl (fun ha hp => V_load (v := v1_1.v) ag22 (EN ha (.tmp rfl rfl) rfl) hp.2 rfl rfl) ?_
      refine D_val rfl (.on 59 rfl rfl rfl) (fun ha => V_move (v := (.int .i64 (k27 : Int))) (EN ha (.tmp rfl rfl) rfl)) ?_
      refine D_idx (a := x29) sl22 ty3.sz rfl (.on 59 rfl rfl rfl) (.tmp rfl rfl) (.tmp rfl rfl) rfl rfl (.t (.t (.t (.t .h)))) (Int.natCast_nonneg k27) hx32 (fun k51 j52 => ?_)
      refine D_ldS (w := (.int .i64 x29)) ag3 rfl (.on 59 rfl rfl rfl) (.tmp rfl rfl) rfl .h ls3_0 ?_
      refine D_val rfl (.on 59 rfl rfl rfl) (fun ha => V_fieldAddr (off := 1) fd108_1 (EN ha (.tmp rfl rfl) rfl)) ?_
      refine D_at rfl (.on 59 rfl rfl rfl) (.t (.t (.t (.t .h)))) rfl (fun ha hp => V_load (v := v1_1.v) ag22 (EN ha (.tmp rfl rfl) rfl) hp.2 rfl rfl) ?_
      refine D_val rfl (.on 59 rfl rfl rfl) (fun ha => V_move (v := (.int .i64 (k27 : Int))) (EN ha (.tmp rfl rfl) rfl)) ?_
      refine D_val rfl (.on 59 rfl rfl rfl) (fun ha => V_sub (i := (k27 : Int)) (j := 1) (EN ha (.tmp rfl rfl) rfl) (EN ha (.int _ _) rfl)) ?_
      obtain ⟨x53, hx54, hF⟩ := bind_some hF
      obtain ⟨hp55, hx56⟩ := ix_some hx54
      refine D_idx (a := x53) sl22 ty3.sz rfl (.on 59 rfl rfl rfl) (.tmp rfl rfl) (.tmp rfl rfl) rfl rfl (.t (.t (.t (.t (.t .h))))) hp55 hx56 (fun k57 j58 => ?_)
      refine D_ldS (w := (.int .i64 x53)) ag3 rfl (.on 59 rfl rfl rfl) (.tmp rfl rfl) rfl .h ls3_0 ?_
      refine D_val rfl (.on 59 rfl rfl rfl) (fun ha => V_leq (i := x29) (j := x53) (EN ha (.tmp rfl rfl) rfl) (EN ha (.tmp rfl rfl) rfl)) ?_
      refine D_val rfl (.on 56 rfl rfl rfl) (fun ha => V_pick (b := true) (u := (.bool (decide ((x29 : Int) ≤ x53)))) (v := (.bool false)) (EN ha (.tmp rfl rfl) rfl) (EN ha (.tmp rfl rfl) rfl) (EN ha (.bool _) rfl)) ?_
      refine D_val rfl .no (fun ha => V_pick (b := false) (u := (.bool true)) (v := (.bool (decide ((x29 : Int) ≤ x53)))) (EN ha (.tmp rfl rfl) rfl) (EN ha (.bool _) rfl) (EN ha (.tmp rfl rfl) rfl)) ?_
      refine D_nil ?_
      obtain rfl := Option.some.inj hF
      exact ⟨_, _, rfl, (EqL.cons rfl (EqL.cons rfl (EqL.cons rfl (EqL.cons rfl (EqL.nil))))).eq, (.sel (.rd (.t (.t (.t (.t .h)))) rfl (.rd (.t (.t (.t (.t (.t .h))))) rfl (.rd (.t (.t (.t (.t (.t (.t .h)))))) rfl .nil))))⟩
    rw [hg50]
    try rw [hg50] at hF; dsimp only [cond_true, cond_false] at hF
    iterate 12 refine D_off 59 rfl rfl rfl rfl ?_
    refine D_val rfl (.on 56 rfl rfl rfl) (fun ha => V_pick (b := false) (u := undef) (v := (.bool false)) (EN ha (.tmp rfl rfl) rfl) (EN ha (.tmp rfl rfl) rfl) (EN ha (.bool _) rfl)) ?_
    refine D_val rfl .no (fun ha => V_pick (b := false) (u := (.bool true)) (v := (.bool false)) (EN ha (.tmp rfl rfl) rfl) (EN ha (.bool _) rfl) (EN ha (.tmp rfl rfl) rfl)) ?_
    refine D_nil ?_
    obtain rfl := Option.some.inj hF
    exact ⟨_, _, rfl, (EqL.cons rfl (EqL.cons rfl (EqL.cons rfl (EqL.cons rfl (EqL.nil))))).eq, (.sel (.rd (.t (.t .h)) rfl (.rd (.t (.t (.t .h))) rfl (.rd (.t (.t (.t (.t .h)))) rfl .nil))))⟩
  rintro _ _ ⟨c59, g62, rfl, rfl, hE⟩
  replace hF := hO37
  clear hO37
  try dsimp only at hF
  refine K_ent hE ?_
  refine CW_cond (b := c59) (.tmp rfl rfl) (fun hb61 => ?_) (fun hb61 => ?_)
  · rw [if_pos hb61] at hF
    refine K_region (C_val (V_assign (v := (.bool false)) (.bool _)) ?_)
    refine C_nil (CW_ret ?_)
    obtain rfl := Option.some.inj hF
    exact End_ret () (.tmp rfl rfl .nil) rfl (.sel .nil)
  rw [if_neg (by rw [hb61]; exact Bool.false_ne_true)] at hF
  refine CW_skip (CW_region (Cm (.int .i64 (k27 : Int)) rfl rfl ?_))
  refine C_val (V_add (i := (k27 : Int)) (j := 1) (.tmp rfl rfl) (.int _ _)) ?_
  refine Ca (.int .i64 (IntKind.i64.wrap ((k27 : Int) + 1))) rfl rfl ?_
  refine C_nil ?_
  have hw60 : IntKind.i64.wrap ((k27 : Int) + 1) = ((k27 + 1 : Nat) : Int) := by rw [wrap_in (by omega) (by omega)]; rfl
  rw [hw60]
  exact ⟨_, Nat.lt_succ_self _, _, k27 + 1, rest28, rfl, (EqL.cons rfl (EqL.cons rfl (EqL.cons rfl (EqL.nil)))).eq, hd33, (.sel (.rd .h rfl (.rd (.t .h) rfl (.rd (.t (.t .h)) rfl .nil)))), hF⟩

/-! spec.AreMethods -/
def s_AreMethods_L1 (a_s : List Int) (a_l : List Method) : List Method → Nat → Option (Bool)
  | [], k4 => ((s_IsSchema a_s).bind fun r15 =>
      bif r15 then (some (decide (((a_l.length : Int) : Int) ≤ 5)))
      else (some false)).bind fun o13 =>
    match o13 with
    | c19 => some c19
  | x6 :: rest5, k4 => (s_IsMethod a_s x6).bind fun r24 =>
    if (!r24) then (
      some false)
    else (
      s_AreMethods_L1 a_s a_l rest5 (k4 + 1))
def s_AreMethods (a_s : List Int) (a_l : List Method) : Option (Bool) :=
  s_AreMethods_L1 a_s a_l a_l 0
theorem s_AreMethods_ok (a_s : List Int) (v0_0 : Sv) (a_l : List Method) (v1_0 : Sv) (R : Bool) (hF : s_AreMethods a_s a_l = some R) :
    Fw.Spec Tryz.prog 54 [v0_0.v, v1_0.v] [crd (RdS 3 rdInt) v0_0.v a_s, crd (RdS 108 rd108) v1_0.v a_l] (fun _ : Unit => (.bool R)) (fun _ => []) := by
  refine Spec_enter (n := 26) Tryz.func54 rfl rfl (rs := [.tmp 4]) rfl rfl rfl ?_
  intro H0 F0
  unfold s_AreMethods at hF
  refine K_region (C_val (V_assign (v := (.bool false)) (.bool _)) ?_)
  refine C_nil (K_in (K_region (C_val (V_assign (v := (.int .i64 0)) (.int _ _)) ?_)))
  refine C_nil (CW_block (CW_loop (m := a_l.length) (fun m2 f' cs' => ∃ (g : Fr) (k4 : Nat) (rest5 : List Method), m2 = rest5.length ∧ f' = updL g [(0, v0_0.v), (1, v1_0.v), (5, (.int .i64 (k4 : Int)))] ∧ List.drop k4 a_l = rest5 ∧ Ent cs' [crd (RdS 3 rdInt) v0_0.v a_s, crd (RdS 108 rd108) v1_0.v a_l] ∧ s_AreMethods_L1 a_s a_l rest5 k4 = some R) ⟨_, 0, _, rfl, (EqL.cons rfl (EqL.cons rfl (EqL.cons rfl (EqL.nil)))).eq, rfl, (.sel (.rd .h rfl (.rd (.t .h) rfl .nil))), hF⟩ ?_))
  clear hF
  rintro m2 _ _ ⟨g3, k4, rest5, rfl, rfl, hd7, hE, hF⟩
  refine K_ent hE ?_
  clear hE
  refine K_pure (c := crd (RdS 108 rd108) v1_0.v a_l) (.t .h) crd_bound (fun hbd12 => ?_)
  rcases rest5 with _ | ⟨x6, rest5⟩
  · have hk8 := List.drop_eq_nil_iff.1 hd7
    have hfe11 : (decide (((k4 : Int) : Int) < (a_l.length : Int))) = false := decide_eq_false (by omega)
    rw [s_AreMethods_L1] at hF
    refine K_in (K_region (Cm (.int .i64 (k4 : Int)) rfl rfl ?_))
    refine Cm v1_0.v rfl rfl ?_
    refine C_at (.t .h) (fun hp => V_lenR (l := a_l.length) sl37 (.tmp rfl rfl) (crd_len hp)) ?_
    refine C_val (V_lss (i := (k4 : Int)) (j := (a_l.length : Int)) (.tmp rfl rfl) (.tmp rfl rfl)) ?_
    refine C_nil (CW_cond (b := (decide (((k4 : Int) : Int) < (a_l.length : Int)))) (.tmp rfl rfl) (fun hb => absurd (hfe11.symm.trans hb) (by decide)) (fun _ => ?_))
    refine CW_exit ?_
    iterate 2 refine CThen_exit ?_
    refine CIn_self ?_
    obtain ⟨o13, hio13, hO14⟩ := bind_some hF
    refine K_region (C_cut (fun f' cs' => ∃ (c19 : Bool) (g : Fr), c19 = o13 ∧ f' = updL g [(4, (.bool c19))] ∧ Ent cs' []) ?_ ?_)
    · replace hF := hio13
      refine Cm v0_0.v rfl rfl ?_
      obtain ⟨r15, hx16, hF⟩ := bind_some hF
      refine C_x0 (.rd .h rfl .nil) (X_callS cf53 (.cons (.tmp rfl rfl) .nil) (s_IsSchema_ok a_s v0_0 _ hx16)) (fun _ => ?_)
      refine Cm (.bool r15) rfl rfl ?_
      rcases Bool.eq_false_or_eq_true r15 with hg18 | hg18
      · rw [hg18]
        try rw [hg18] at hF; dsimp only [cond_true, cond_false] at hF
        refine C_on (t := 21) rfl rfl rfl ?_
        refine Cm v1_0.v rfl rfl ?_
        refine C_on (t := 21) rfl rfl rfl ?_
        refine C_at (.t .h) (fun hp => V_lenR (l := a_l.length) sl37 (.tmp rfl rfl) (crd_len hp)) ?_
        refine C_on (t := 21) rfl rfl rfl ?_
        refine C_val (V_leq (i := (a_l.length : Int)) (j := 5) (.tmp rfl rfl) (.int _ _)) ?_
        refine C_val (V_pick (b := true) (u := (.bool (decide (((a_l.length : Int) : Int) ≤ 5)))) (v := (.bool false)) (.tmp rfl rfl) (.tmp rfl rfl) (.bool _)) ?_
        refine Ca (.bool (decide (((a_l.length : Int) : Int) ≤ 5))) rfl rfl ?_
        refine C_nil ?_
        obtain rfl := Option.some.inj hF
        exact ⟨_, _, rfl, (EqL.cons rfl (EqL.nil)).eq, (.sel .nil)⟩
      rw [hg18]
      try rw [hg18] at hF; dsimp only [cond_true, cond_false] at hF
      iterate 3 refine C_off (t := 21) rfl rfl rfl ?_
      refine C_val (V_pick (b := false) (u := undef) (v := (.bool false)) (.tmp rfl rfl) (.tmp rfl rfl) (.bool _)) ?_
      refine Ca (.bool false) rfl rfl ?_
      refine C_nil ?_
      obtain rfl := Option.some.inj hF
      exact ⟨_, _, rfl, (EqL.cons rfl (EqL.nil)).eq, (.sel .nil)⟩
    rintro _ _ ⟨c19, g20, rfl, rfl, hE⟩
    replace hF := hO14
    clear hO14
    try dsimp only at hF
    refine K_ent hE ?_
    refine CW_ret ?_
    obtain rfl := Option.some.inj hF
    exact End_ret () (.tmp rfl rfl .nil) rfl (.sel .nil)
  obtain ⟨hk8, hx9, hd10⟩ := drop_cons hd7
  have hfe11 : (decide (((k4 : Int) : Int) < (a_l.length : Int))) = true := decide_eq_true (by omega)
  rw [s_AreMethods_L1] at hF
  refine K_in (K_region (Cm (.int .i64 (k4 : Int)) rfl rfl ?_))
  refine Cm v1_0.v rfl rfl ?_
  refine C_at (.t .h) (fun hp => V_lenR (l := a_l.length) sl37 (.tmp rfl rfl) (crd_len hp)) ?_
  refine C_val (V_lss (i := (k4 : Int)) (j := (a_l.length : Int)) (.tmp rfl rfl) (.tmp rfl rfl)) ?_
  refine C_nil (CW_cond (b := (decide (((k4 : Int) : Int) < (a_l.length : Int)))) (.tmp rfl rfl) (fun _ => ?_) (fun hb => absurd (hfe11.symm.trans hb) (by decide)))
  refine CW_skip (K_block (K_region (Cm v0_0.v rfl rfl ?_)))
  refine Cm v1_0.v rfl rfl ?_
  refine Cm (.int .i64 (k4 : Int)) rfl rfl ?_
  refine C_idx (a := x6) sl37 ty108.sz (.tmp rfl rfl) (.tmp rfl rfl) (.t .h) (Int.natCast_nonneg k4) hx9 (fun k21 j22 => ?_)
  refine C_ldA1 (ul108_0_108 x6) ag108 ty108.sz rfl (.tmp rfl rfl) .h la108_0_108 (fun p23 => ?_)
  obtain ⟨r24, hx25, hF⟩ := bind_some hF
  refine C_x0 (.rd (.t (.t .h)) rfl (.rd .h rfl .nil)) (X_callS cf95 (.cons (.tmp rfl rfl) (.cons (.tmp rfl rfl) .nil)) (s_IsMethod_ok a_s v0_0 x6 p23 _ hx25)) (fun _ => ?_)
  refine C_val (V_not (b := r24) (.tmp rfl rfl)) ?_
  refine C_nil (CW_cond (b := (!r24)) (.tmp rfl rfl) (fun hb28 => ?_) (fun hb28 => ?_))
  · rw [if_pos hb28] at hF
    refine K_region (C_val (V_assign (v := (.bool false)) (.bool _)) ?_)
    refine C_nil (CW_ret ?_)
    obtain rfl := Option.some.inj hF
    exact End_ret () (.tmp rfl rfl .nil) rfl (.sel .nil)
  rw [if_neg (by rw [hb28]; exact Bool.false_ne_true)] at hF
  refine CW_skip (CW_region (Cm (.int .i64 (k4 : Int)) rfl rfl ?_))
  refine C_val (V_add (i := (k4 : Int)) (j := 1) (.tmp rfl rfl) (.int _ _)) ?_
  refine Ca (.int .i64 (IntKind.i64.wrap ((k4 : Int) + 1))) rfl rfl ?_
  refine C_nil ?_
  have hw27 : IntKind.i64.wrap ((k4 : Int) + 1) = ((k4 + 1 : Nat) : Int) := by rw [wrap_in (by omega) (by omega)]; rfl
  rw [hw27]
  exact ⟨_, Nat.lt_succ_self _, _, k4 + 1, rest5, rfl, (EqL.cons rfl (EqL.cons rfl (EqL.cons rfl (EqL.nil)))).eq, hd10, (.sel (.rd (.t (.t .h)) rfl (.rd (.t (.t (.t .h))) rfl .nil))), hF⟩

/-! spec.IsRule -/
def s_IsRule_L1 (a_s : List Int) (a_r : Rule) : List Int → Nat → Option (Bool)
  | [], k26 => some true
  | x28 :: rest27, k26 => (ix a_s a_r.From).bind fun x37 =>
    (s_l1In x28 0 (IntKind.i64.wrap (x37 - 1))).bind fun r43 =>
    if (!r43) then (
      some false)
    else (
      s_IsRule_L1 a_s a_r rest27 (k26 + 1))
def s_IsRule (a_s : List Int) (a_r : Rule) : Option (Bool) :=
  ((s_IsSchema a_s).bind fun r4 =>
    bif (!r4) then (some true)
    else ((s_l1In a_r.From 0 (IntKind.i64.wrap ((a_s.length : Int) - 1))).bind fun r8 =>
      bif (!r8) then (some true)
      else ((s_l1In a_r.To 0 (IntKind.i64.wrap ((a_s.length : Int) - 1))).bind fun r12 =>
        bif (!r12) then (some true)
        else ((ix a_s a_r.To).bind fun x16 =>
          some (((a_r.Map.length : Int) : Int) != x16))))).bind fun o2 =>
  match o2 with
  | c22 => if c22 then (
      some false)
    else (
      s_IsRule_L1 a_s a_r a_r.Map 0)
theorem s_IsRule_ok (a_s : List Int) (v0_0 : Sv) (a_r : Rule) (v1_2 : Sv) (R : Bool) (hF : s_IsRule a_s a_r = some R) :
    Fw.Spec Tryz.prog 96 [v0_0.v, (.agg [(.int .i64 a_r.From), (.int .i64 a_r.To), v1_2.v].toArray)] [crd (RdS 3 rdInt) v0_0.v a_s, crd (RdS 3 rdInt) v1_2.v a_r.Map] (fun _ : Unit => (.bool R)) (fun _ => []) := by
  refine Spec_enter (n := 58) Tryz.func96 rfl rfl (rs := [.tmp 4]) rfl rfl rfl ?_
  intro H0 F0
  unfold s_IsRule at hF
  refine K_region (C_newR rfl (N_box (g := false) (v := (.agg [(.int .i64 a_r.From), (.int .i64 a_r.To), v1_2.v].toArray)) ty110.sz (.tmp rfl rfl) rfl) (fun k1 => ?_))
  refine C_val (V_assign (v := (.bool false)) (.bool _)) ?_
  refine C_nil (K_in ?_)
  obtain ⟨o2, hio2, hO3⟩ := bind_some hF
  refine K_draw [0, 1, 2, 3, 4, 5, 6, 7, 8, 9, 10, 11, 12, 13, 14, 15, 16, 17, 18, 19, 20, 21, 22, 23, 24, 25, 26, 27, 28, 29, 30, 31] [0, 1, 3, 7, 15, 31, 15, 79, 207, 511, 1023, 2047, 4095, 8191, 16383, 8191, 40959, 106495, 262143, 524287, 1048575, 2097151, 4194303, 8388607, 16777215, 4194303, 4194303, 71303167, 239075327, 507510783, 1073741823, 2147483647] [1, 9, 18] mixed (by decide +kernel) ?_
  refine D_cut (fun f' cs' => ∃ (c22 : Bool) (g : Fr), c22 = o2 ∧ f' = updL g [(0, v0_0.v), (3, (.pointer (some ⟨k1, 0, some 0⟩))), (37, (.bool c22))] ∧ Ent cs' [crd (RdS 3 rdInt) v0_0.v a_s, cboR k1 110 (.agg [(.int .i64 a_r.From), (.int .i64 a_r.To), v1_2.v].toArray), crd (RdS 3 rdInt) v1_2.v a_r.Map]) ?_ ?_
  · replace hF := hio2
    refine Dm v0_0.v rfl rfl rfl rfl ?_
    obtain ⟨r4, hx5, hF⟩ := bind_some hF
    refine D_act0 rfl rfl .no (.rd (.t .h) rfl .nil) .nil (fun ha => X_callS cf53 (.cons (EN ha (.tmp rfl rfl) rfl) .nil) (s_IsSchema_ok a_s v0_0 _ hx5)) (fun _ => ?_)
    refine D_val rfl .no (fun ha => V_not (b := r4) (EN ha (.tmp rfl rfl) rfl)) ?_
    refine Dm (.bool (!r4)) rfl rfl rfl rfl ?_
    rcases Bool.eq_false_or_eq_true (!r4) with hg7 | hg7
    · rw [hg7]
      try rw [hg7] at hF; dsimp only [cond_true, cond_false] at hF
      iterate 7 refine D_off 9 rfl rfl rfl rfl ?_
      refine D_val rfl .no (fun ha => V_pick (b := true) (u := (.bool true)) (v := undef) (EN ha (.tmp rfl rfl) rfl) (EN ha (.bool _) rfl) (EN ha (.tmp rfl rfl) rfl)) ?_
      refine Dm (.bool true) rfl rfl rfl rfl ?_
      iterate 7 refine D_off 18 rfl rfl rfl rfl ?_
      refine D_val rfl .no (fun ha => V_pick (b := true) (u := (.bool true)) (v := undef) (EN ha (.tmp rfl rfl) rfl) (EN ha (.bool _) rfl) (EN ha (.tmp rfl rfl) rfl)) ?_
      refine Dm (.bool true) rfl rfl rfl rfl ?_
      iterate 9 refine D_off 27 rfl rfl rfl rfl ?_
      refine D_val rfl .no (fun ha => V_pick (b := true) (u := (.bool true)) (v := undef) (EN ha (.tmp rfl rfl) rfl) (EN ha (.bool _) rfl) (EN ha (.tmp rfl rfl) rfl)) ?_
      refine D_nil ?_
      obtain rfl := Option.some.inj hF
      exact ⟨_, _, rfl, (EqL.cons rfl (EqL.cons rfl (EqL.cons rfl (EqL.nil)))).eq, (.sel (.rd (.t .h) rfl (.rd .h rfl (.rd (.t (.t .h)) rfl .nil))))⟩
    rw [hg7]
    try rw [hg7] at hF; dsimp only [cond_true, cond_false] at hF
    refine D_val rfl (.on 9 rfl rfl rfl) (fun ha => V_fieldAddr (off := 0) fd110_0 (EN ha (.tmp rfl rfl) rfl)) ?_
    refine D_at rfl (.on 9 rfl rfl rfl) .h rfl (fun ha hp => V_load (v := (.int .i64 a_r.From)) ag3 (EN ha (.tmp rfl rfl) rfl) hp.2 rfl rfl) ?_
    refine D_val rfl (.on 9 rfl rfl rfl) (fun ha => V_move (v := v0_0.v) (EN ha (.tmp rfl rfl) rfl)) ?_
    refine D_at rfl (.on 9 rfl rfl rfl) (.t .h) rfl (fun ha hp => V_lenR (l := a_s.length) sl22 (EN ha (.tmp rfl rfl) rfl) (crd_len hp)) ?_
    refine D_val rfl (.on 9 rfl rfl rfl) (fun ha => V_sub (i := (a_s.length : Int)) (j := 1) (EN ha (.tmp rfl rfl) rfl) (EN ha (.int _ _) rfl)) ?_
    obtain ⟨r8, hx9, hF⟩ := bind_some hF
    refine D_act0 rfl rfl (.on 9 rfl rfl rfl) .nil .nil (fun ha => X_callS cf59 (.cons (EN ha (.tmp rfl rfl) rfl) (.cons (EN ha (.int _ _) rfl) (.cons (EN ha (.tmp rfl rfl) rfl) .nil))) (s_l1In_ok a_r.From 0 (IntKind.i64.wrap ((a_s.length : Int) - 1)) _ hx9)) (fun _ => ?_)
    refine D_val rfl (.on 9 rfl rfl rfl) (fun ha => V_not (b := r8) (EN ha (.tmp rfl rfl) rfl)) ?_
    refine D_val rfl .no (fun ha => V_pick (b := false) (u := (.bool true)) (v := (.bool (!r8))) (EN ha (.tmp rfl rfl) rfl) (EN ha (.bool _) rfl) (EN ha (.tmp rfl rfl) rfl)) ?_
    refine Dm (.bool (!r8)) rfl rfl rfl rfl ?_
    rcases Bool.eq_false_or_eq_true (!r8) with hg11 | hg11
    · rw [hg11]
      try rw [hg11] at hF; dsimp only [cond_true, cond_false] at hF
      iterate 7 refine D_off 18 rfl rfl rfl rfl ?_
      refine D_val rfl .no (fun ha => V_pick (b := true) (u := (.bool true)) (v := undef) (EN ha (.tmp rfl rfl) rfl) (EN ha (.bool _) rfl) (EN ha (.tmp rfl rfl) rfl)) ?_
      refine Dm (.bool true) rfl rfl rfl rfl ?_
      iterate 9 refine D_off 27 rfl rfl rfl rfl ?_
      refine D_val rfl .no (fun ha => V_pick (b := true) (u := (.bool true)) (v := undef) (EN ha (.tmp rfl rfl) rfl) (EN ha (.bool _) rfl) (EN ha (.tmp rfl rfl) rfl)) ?_
      refine D_nil ?_
      obtain rfl := Option.some.inj hF
      exact ⟨_, _, rfl, (EqL.cons rfl (EqL.cons rfl (EqL.cons rfl (EqL.nil)))).eq, (.sel (.rd (.t .h) rfl (.rd .h rfl (.rd (.t (.t .h)) rfl .nil))))⟩
    rw [hg11]
    try rw [hg11] at hF; dsimp only [cond_true, cond_false] at hF
    refine D_val rfl (.on 18 rfl rfl rfl) (fun ha => V_fieldAddr (off := 1) fd110_1 (EN ha (.tmp rfl rfl) rfl)) ?_
    refine D_at rfl (.on 18 rfl rfl rfl) .h rfl (fun ha hp => V_load (v := (.int .i64 a_r.To)) ag3 (EN ha (.tmp rfl rfl) rfl) hp.2 rfl rfl) ?_
    refine D_val rfl (.on 18 rfl rfl rfl) (fun ha => V_move (v := v0_0.v) (EN ha (.tmp rfl rfl) rfl)) ?_
    refine D_at rfl (.on 18 rfl rfl rfl) (.t .h) rfl (fun ha hp => V_lenR (l := a_s.length) sl22 (EN ha (.tmp rfl rfl) rfl) (crd_len hp)) ?_
    refine D_val rfl (.on 18 rfl rfl rfl) (fun ha => V_sub (i := (a_s.length : Int)) (j := 1) (EN ha (.tmp rfl rfl) rfl) (EN ha (.int _ _) rfl)) ?_
    obtain ⟨r12, hx13, hF⟩ := bind_some hF
    refine D_act0 rfl rfl (.on 18 rfl rfl rfl) .nil .nil (fun ha => X_callS cf59 (.cons (EN ha (.tmp rfl rfl) rfl) (.cons (EN ha (.int _ _) rfl) (.cons (EN ha (.tmp rfl rfl) rfl) .nil))) (s_l1In_ok a_r.To 0 (IntKind.i64.wrap ((a_s.length : Int) - 1)) _ hx13)) (fun _ => ?_)
    refine D_val rfl (.on 18 rfl rfl rfl) (fun ha => V_not (b := r12) (EN ha (.tmp rfl rfl) rfl)) ?_
    refine D_val rfl .no (fun ha => V_pick (b := false) (u := (.bool true)) (v := (.bool (!r12))) (EN ha (.tmp rfl rfl) rfl) (EN ha (.bool _) rfl) (EN ha (.tmp rfl rfl) rfl)) ?_
    refine Dm (.bool (!r12)) rfl rfl rfl rfl ?_
    rcases Bool.eq_false_or_eq_true (!r12) with hg15 | hg15
    · rw [hg15]
      try rw [hg15] at hF; dsimp only [cond_true, cond_false] at hF
      iterate 9 refine D_off 27 rfl rfl rfl rfl ?_
      refine D_val rfl .no (fun ha => V_pick (b := true) (u := (.bool true)) (v := undef) (EN ha (.tmp rfl rfl) rfl) (EN ha (.bool _) rfl) (EN ha (.tmp rfl rfl) rfl)) ?_
      refine D_nil ?_
      obtain rfl := Option.some.inj hF
      exact ⟨_, _, rfl, (EqL.cons rfl (EqL.cons rfl (EqL.cons rfl (EqL.nil)))).eq, (.sel (.rd (.t .h) rfl (.rd .h rfl (.rd (.t (.t .h)) rfl .nil))))⟩
    rw [hg15]
    try rw [hg15] at hF; dsimp only [cond_true, cond_false] at hF
    refine D_val rfl (.on 27 rfl rfl rfl) (fun ha => V_fieldAddr (off := 2) fd110_2 (EN ha (.tmp rfl rfl) rfl)) ?_
    refine D_at rfl (.on 27 rfl rfl rfl) .h rfl (fun ha hp => V_load (v := v1_2.v) ag22 (EN ha (.tmp rfl rfl) rfl) hp.2 rfl rfl) ?_
    refine D_at rfl (.on 27 rfl rfl rfl) (.t (.t .h)) rfl (fun ha hp => V_lenR (l := a_r.Map.length) sl22 (EN ha (.tmp rfl rfl) rfl) (crd_len hp)) ?_
    refine D_val rfl (.on 27 rfl rfl rfl) (fun ha => V_move (v := v0_0.v) (EN ha (.tmp rfl rfl) rfl)) ?_
    refine D_val rfl (.on 27 rfl rfl rfl) (fun ha => V_fieldAddr (off := 1) fd110_1 (EN ha (.tmp rfl rfl) rfl)) ?_
    refine D_at rfl (.on 27 rfl rfl rfl) .h rfl (fun ha hp => V_load (v := (.int .i64 a_r.To)) ag3 (EN ha (.tmp rfl rfl) rfl) hp.2 rfl rfl) ?_
    obtain ⟨x16, hx17, hF⟩ := bind_some hF
    obtain ⟨hp18, hx19⟩ := ix_some hx17
    refine D_idx (a := x16) sl22 ty3.sz rfl (.on 27 rfl rfl rfl) (.tmp rfl rfl) (.tmp rfl rfl) rfl rfl (.t .h) hp18 hx19 (fun k20 j21 => ?_)
    refine D_ldS (w := (.int .i64 x16)) ag3 rfl (.on 27 rfl rfl rfl) (.tmp rfl rfl) rfl .h ls3_0 ?_
    refine D_val rfl (.on 27 rfl rfl rfl) (fun ha => V_neq (i := (a_r.Map.length : Int)) (j := x16) (EN ha (.tmp rfl rfl) rfl) (EN ha (.tmp rfl rfl) rfl)) ?_
    refine D_val rfl .no (fun ha => V_pick (b := false) (u := (.bool true)) (v := (.bool (((a_r.Map.length : Int) : Int) != x16))) (EN ha (.tmp rfl rfl) rfl) (EN ha (.bool _) rfl) (EN ha (.tmp rfl rfl) rfl)) ?_
    refine D_nil ?_
    obtain rfl := Option.some.inj hF
    exact ⟨_, _, rfl, (EqL.cons rfl (EqL.cons rfl (EqL.cons rfl (EqL.nil)))).eq, (.sel (.rd (.t (.t .h)) rfl (.rd (.t .h) rfl (.rd (.t (.t (.t .h))) rfl .nil))))⟩
  rintro _ _ ⟨c22, g49, rfl, rfl, hE⟩
  replace hF := hO3
  clear hO3
  try dsimp only at hF
  refine K_ent hE ?_
  refine CW_cond (b := c22) (.tmp rfl rfl) (fun hb48 => ?_) (fun hb48 => ?_)
  · rw [if_pos hb48] at hF
    refine K_region (C_val (V_assign (v := (.bool false)) (.bool _)) ?_)
    refine C_nil (CW_ret ?_)
    obtain rfl := Option.some.inj hF
    exact End_ret () (.tmp rfl rfl .nil) rfl (.sel .nil)
  rw [if_neg (by rw [hb48]; exact Bool.false_ne_true)] at hF
  refine CW_skip (K_in (K_region (C_val (V_assign (v := (.int .i64 0)) (.int _ _)) ?_)))
  refine C_nil (CW_block (CW_loop (m := a_r.Map.length) (fun m24 f' cs' => ∃ (g : Fr) (k26 : Nat) (rest27 : List Int), m24 = rest27.length ∧ f' = updL g [(0, v0_0.v), (3, (.pointer (some ⟨k1, 0, some 0⟩))), (5, (.int .i64 (k26 : Int)))] ∧ List.drop k26 a_r.Map = rest27 ∧ Ent cs' [crd (RdS 3 rdInt) v0_0.v a_s, cboR k1 110 (.agg [(.int .i64 a_r.From), (.int .i64 a_r.To), v1_2.v].toArray), crd (RdS 3 rdInt) v1_2.v a_r.Map] ∧ s_IsRule_L1 a_s a_r rest27 k26 = some R) ⟨_, 0, _, rfl, (EqL.cons rfl (EqL.cons rfl (EqL.cons rfl (EqL.nil)))).eq, rfl, (.sel (.rd .h rfl (.rd (.t .h) rfl (.rd (.t (.t .h)) rfl .nil)))), hF⟩ ?_))
  clear hF
  rintro m24 _ _ ⟨g25, k26, rest27, rfl, rfl, hd29, hE, hF⟩
  refine K_ent hE ?_
  clear hE
  refine K_pure (c := crd (RdS 3 rdInt) v1_2.v a_r.Map) (.t (.t .h)) crd_bound (fun hbd34 => ?_)
  rcases rest27 with _ | ⟨x28, rest27⟩
  · have hk30 := List.drop_eq_nil_iff.1 hd29
    have hfe33 : (decide (((k26 : Int) : Int) < (a_r.Map.length : Int))) = false := decide_eq_false (by omega)
    rw [s_IsRule_L1] at hF
    refine K_in (K_region (Cm (.int .i64 (k26 : Int)) rfl rfl ?_))
    refine C_val (V_fieldAddr (off := 2) fd110_2 (.tmp rfl rfl)) ?_
    refine C_at (.t .h) (fun hp => V_load (v := v1_2.v) ag22 (.tmp rfl rfl) hp.2 rfl rfl) ?_
    refine C_at (.t (.t .h)) (fun hp => V_lenR (l := a_r.Map.length) sl22 (.tmp rfl rfl) (crd_len hp)) ?_
    refine C_val (V_lss (i := (k26 : Int)) (j := (a_r.Map.length : Int)) (.tmp rfl rfl) (.tmp rfl rfl)) ?_
    refine C_nil (CW_cond (b := (decide (((k26 : Int) : Int) < (a_r.Map.length : Int)))) (.tmp rfl rfl) (fun hb => absurd (hfe33.symm.trans hb) (by decide)) (fun _ => ?_))
    refine CW_exit ?_
    iterate 2 refine CThen_exit ?_
    refine CIn_self (K_region (C_val (V_assign (v := (.bool true)) (.bool _)) ?_))
    refine C_nil (CW_ret ?_)
    obtain rfl := Option.some.inj hF
    exact End_ret () (.tmp rfl rfl .nil) rfl (.sel .nil)
  obtain ⟨hk30, hx31, hd32⟩ := drop_cons hd29
  have hfe33 : (decide (((k26 : Int) : Int) < (a_r.Map.length : Int))) = true := decide_eq_true (by omega)
  rw [s_IsRule_L1] at hF
  refine K_in (K_region (Cm (.int .i64 (k26 : Int)) rfl rfl ?_))
  refine C_val (V_fieldAddr (off := 2) fd110_2 (.tmp rfl rfl)) ?_
  refine C_at (.t .h) (fun hp => V_load (v := v1_2.v) ag22 (.tmp rfl rfl) hp.2 rfl rfl) ?_
  refine C_at (.t (.t .h)) (fun hp => V_lenR (l := a_r.Map.length) sl22 (.tmp rfl rfl) (crd_len hp)) ?_
  refine C_val (V_lss (i := (k26 : Int)) (j := (a_r.Map.length : Int)) (.tmp rfl rfl) (.tmp rfl rfl)) ?_
  refine C_nil (CW_cond (b := (decide (((k26 : Int) : Int) < (a_r.Map.length : Int)))) (.tmp rfl rfl) (fun _ => ?_) (fun hb => absurd (hfe33.symm.trans hb) (by decide)))
  refine CW_skip (K_block (K_draw [0, 1, 2, 3, 4, 5, 6, 7, 8, 9, 10, 11, 12] [0, 1, 0, 7, 15, 0, 0, 64, 224, 480, 992, 2047, 4095] [11] mixed (by decide +kernel) ?_))
  refine D_val rfl .no (fun ha => V_fieldAddr (off := 2) fd110_2 (EN ha (.tmp rfl rfl) rfl)) ?_
  refine D_at rfl .no (.t .h) rfl (fun ha hp => V_load (v := v1_2.v) ag22 (EN ha (.tmp rfl rfl) rfl) hp.2 rfl rfl) ?_
  refine Dm (.int .i64 (k26 : Int)) rfl rfl rfl rfl ?_
  refine D_idx (a := x28) sl22 ty3.sz rfl .no (.tmp rfl rfl) (.tmp rfl rfl) rfl rfl (.t (.t .h)) (Int.natCast_nonneg k26) hx31 (fun k35 j36 => ?_)
  refine D_ldS (w := (.int .i64 x28)) ag3 rfl .no (.tmp rfl rfl) rfl .h ls3_0 ?_
  refine Dm v0_0.v rfl rfl rfl rfl ?_
  refine D_val rfl .no (fun ha => V_fieldAddr (off := 0) fd110_0 (EN ha (.tmp rfl rfl) rfl)) ?_
  refine D_at rfl .no (.t (.t .h)) rfl (fun ha hp => V_load (v := (.int .i64 a_r.From)) ag3 (EN ha (.tmp rfl rfl) rfl) hp.2 rfl rfl) ?_
  obtain ⟨x37, hx38, hF⟩ := bind_some hF
  obtain ⟨hp39, hx40⟩ := ix_some hx38
  refine D_idx (a := x37) sl22 ty3.sz rfl .no (.tmp rfl rfl) (.tmp rfl rfl) rfl rfl (.t .h) hp39 hx40 (fun k41 j42 => ?_)
  refine D_ldS (w := (.int .i64 x37)) ag3 rfl .no (.tmp rfl rfl) rfl .h ls3_0 ?_
  refine D_val rfl .no (fun ha => V_sub (i := x37) (j := 1) (EN ha (.tmp rfl rfl) rfl) (EN ha (.int _ _) rfl)) ?_
  obtain ⟨r43, hx44, hF⟩ := bind_some hF
  refine D_act0 rfl rfl .no .nil .nil (fun ha => X_callS cf59 (.cons (EN ha (.tmp rfl rfl) rfl) (.cons (EN ha (.int _ _) rfl) (.cons (EN ha (.tmp rfl rfl) rfl) .nil))) (s_l1In_ok x28 0 (IntKind.i64.wrap (x37 - 1)) _ hx44)) (fun _ => ?_)
  refine D_val rfl .no (fun ha => V_not (b := r43) (EN ha (.tmp rfl rfl) rfl)) ?_
  refine D_nil (CW_cond (b := (!r43)) (.tmp rfl rfl) (fun hb47 => ?_) (fun hb47 => ?_))
  · rw [if_pos hb47] at hF
    refine K_region (C_val (V_assign (v := (.bool false)) (.bool _)) ?_)
    refine C_nil (CW_ret ?_)
    obtain rfl := Option.some.inj hF
    exact End_ret () (.tmp rfl rfl .nil) rfl (.sel .nil)
  rw [if_neg (by rw [hb47]; exact Bool.false_ne_true)] at hF
  refine CW_skip (CW_region (Cm (.int .i64 (k26 : Int)) rfl rfl ?_))
  refine C_val (V_add (i := (k26 : Int)) (j := 1) (.tmp rfl rfl) (.int _ _)) ?_
  refine Ca (.int .i64 (IntKind.i64.wrap ((k26 : Int) + 1))) rfl rfl ?_
  refine C_nil ?_
  have hw46 : IntKind.i64.wrap ((k26 : Int) + 1) = ((k26 + 1 : Nat) : Int) := by rw [wrap_in (by omega) (by omega)]; rfl
  rw [hw46]
  exact ⟨_, Nat.lt_succ_self _, _, k26 + 1, rest27, rfl, (EqL.cons rfl (EqL.cons rfl (EqL.cons rfl (EqL.nil)))).eq, hd32, (.sel (.rd (.t (.t .h)) rfl (.rd (.t (.t (.t .h))) rfl (.rd (.t (.t (.t (.t .h)))) rfl .nil)))), hF⟩

end Go.Proofs.YtfkhlplpbhadhaaGreatDoor
