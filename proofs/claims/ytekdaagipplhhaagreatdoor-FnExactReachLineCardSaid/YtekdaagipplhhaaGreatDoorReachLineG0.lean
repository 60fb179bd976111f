/-
  Functions of the program as Lean functions, and that the calls return what these say: part 1. No conditions.
-/
import Derived.Test.YtekdaagipplhhaaGreatDoorFcReachLine
import Derived.Shelf.Sort.Plain
import Derived.Shelf.Slices.In.SortNone
import Derived.Shelf.Slices.CompactI
import Derived.Shelf.Strconv.Itoa3
import Derived.Shelf.Strings.OnBuilder
import Derived.Test.YtekdaagipplhhaaGreatDoorProg
import Derived.KernelRfl
set_option maxRecDepth 100000
set_option linter.unusedVariables false
namespace Go.Proofs.YtekdaagipplhhaaGreatDoor
open Go Go.Fw

instance : LaidP Tryz.prog := ⟨fun w => Lib.TabIs Tryz.prog w "internal/strconv.uint64pow10" .u64 Lib.pow10Tab⟩

structure Method where
  Rel : Int
  Inputs : List Int
  Limit : Int
  Cost : Int
  Quota : Int
structure Fact where
  Rel : Int
  Values : List Int
theorem sl22 : SL Tryz.prog 22 3 := by unfold SL; kernel_rfl
theorem cf15 : CF Tryz.prog 15 := fun _ _ => Tryz.call15 _ _
theorem sl23 : SL Tryz.prog 23 103 := by unfold SL; kernel_rfl
def rd103 (H : AHeap) (v : Value) (a : Method) : Prop := ∃ v0 : Sv, v = .agg [(.int .i64 a.Rel), v0.v, (.int .i64 a.Limit), (.int .i64 a.Cost), (.int .i64 a.Quota)].toArray ∧ (RdS 3 rdInt) H v0.v a.Inputs
instance : Mono rd103 := ⟨fun h hi => by
  obtain ⟨v0, h, h0⟩ := h
  exact ⟨v0, h, Mono.up h0 hi⟩⟩
instance : Cells rd103 5 := ⟨fun h => by
  obtain ⟨v0, rfl, h0⟩ := h
  exact ⟨rfl, rfl⟩⟩
theorem ty103 : TY Tryz.prog 103 5 56 (.agg [(.int .i64 0), (.slice none 0 0), (.int .i64 0), (.int .i64 0), (.int .i64 0)].toArray) := by unfold TY; kernel_rfl
def ul103_0_103 (a : Method) (p : Sv) : List Value := [(.int .i64 a.Rel), p.v, (.int .i64 a.Limit), (.int .i64 a.Cost), (.int .i64 a.Quota)]
theorem la103_0_103 {a : Method} : ∀ H e, rd103 H e a → ∃ i : Sv, 0 + 5 ≤ e.cells.size ∧ (e.cells.toList.drop 0).take 5 = ul103_0_103 a i ∧ ∀ c ∈ ([crd (RdS 3 rdInt) i.v a.Inputs] : List Comp), c.P H ∧ c.F = [] := by
  intro H e h
  obtain ⟨v0, rfl, h0⟩ := h
  refine ⟨v0, Nat.le_of_ble_eq_true rfl, rfl, fun c hc => by
    simp only [List.mem_cons, List.not_mem_nil, or_false] at hc
    rcases hc with rfl
    · exact ⟨h0, rfl⟩
⟩
theorem ag103 : AG Tryz.prog 103 true := by unfold AG; kernel_rfl
theorem cf62 : CF Tryz.prog 62 := fun _ _ => Tryz.call62 _ _
theorem fd103_1 : FD Tryz.prog 103 1 1 := by unfold FD; kernel_rfl
theorem ag22 : AG Tryz.prog 22 false := by unfold AG; kernel_rfl
theorem cf30 : CF Tryz.prog 30 := fun _ _ => Tryz.call30 _ _
theorem cf16 : CF Tryz.prog 16 := fun _ _ => Tryz.call16 _ _
theorem sl25 : SL Tryz.prog 25 106 := by unfold SL; kernel_rfl
def rd106 (H : AHeap) (v : Value) (a : Fact) : Prop := ∃ v0 : Sv, v = .agg [(.int .i64 a.Rel), v0.v].toArray ∧ (RdS 3 rdInt) H v0.v a.Values
instance : Mono rd106 := ⟨fun h hi => by
  obtain ⟨v0, h, h0⟩ := h
  exact ⟨v0, h, Mono.up h0 hi⟩⟩
instance : Cells rd106 2 := ⟨fun h => by
  obtain ⟨v0, rfl, h0⟩ := h
  exact ⟨rfl, rfl⟩⟩
theorem ty106 : TY Tryz.prog 106 2 32 (.agg [(.int .i64 0), (.slice none 0 0)].toArray) := by unfold TY; kernel_rfl
def ul106_0_106 (a : Fact) (p : Sv) : List Value := [(.int .i64 a.Rel), p.v]
theorem la106_0_106 {a : Fact} : ∀ H e, rd106 H e a → ∃ i : Sv, 0 + 2 ≤ e.cells.size ∧ (e.cells.toList.drop 0).take 2 = ul106_0_106 a i ∧ ∀ c ∈ ([crd (RdS 3 rdInt) i.v a.Values] : List Comp), c.P H ∧ c.F = [] := by
  intro H e h
  obtain ⟨v0, rfl, h0⟩ := h
  refine ⟨v0, Nat.le_of_ble_eq_true rfl, rfl, fun c hc => by
    simp only [List.mem_cons, List.not_mem_nil, or_false] at hc
    rcases hc with rfl
    · exact ⟨h0, rfl⟩
⟩
theorem ag106 : AG Tryz.prog 106 true := by unfold AG; kernel_rfl
theorem cf63 : CF Tryz.prog 63 := fun _ _ => Tryz.call63 _ _
theorem fd106_1 : FD Tryz.prog 106 1 1 := by unfold FD; kernel_rfl
theorem cf18 : CF Tryz.prog 18 := fun _ _ => Tryz.call18 _ _
theorem ty3 : TY Tryz.prog 3 1 8 (.int .i64 0) := by unfold TY; kernel_rfl
theorem ls3_0 {a : Int} : ∀ H e, rdInt H e a → e.cells.toList[0]? = some (.int .i64 a) := by
  intro H e h
  subst h
  rfl
theorem ag3 : AG Tryz.prog 3 false := by unfold AG; kernel_rfl
theorem cf19 : CF Tryz.prog 19 := fun _ _ => Tryz.call19 _ _
theorem sl38 : SL Tryz.prog 38 112 := by unfold SL; kernel_rfl
theorem ty112 : TY Tryz.prog 112 5 56 (.agg [(.int .i64 0), (.slice none 0 0), (.int .i64 0), (.int .i64 0), (.int .i64 0)].toArray) := by unfold TY; kernel_rfl
def rd112 (H : AHeap) (v : Value) (a : Method) : Prop := ∃ v0 : Sv, v = .agg [(.int .i64 a.Rel), v0.v, (.int .i64 a.Limit), (.int .i64 a.Cost), (.int .i64 a.Quota)].toArray ∧ (RdS 3 rdInt) H v0.v a.Inputs
instance : Mono rd112 := ⟨fun h hi => by
  obtain ⟨v0, h, h0⟩ := h
  exact ⟨v0, h, Mono.up h0 hi⟩⟩
instance : Cells rd112 5 := ⟨fun h => by
  obtain ⟨v0, rfl, h0⟩ := h
  exact ⟨rfl, rfl⟩⟩
def ow112 : ORel Method := fun F H v a => ∃ (v0 : Sv) (F0 : List Nat), v = .agg [(.int .i64 a.Rel), v0.v, (.int .i64 a.Limit), (.int .i64 a.Cost), (.int .i64 a.Quota)].toArray ∧ F0 = F ∧ (OwnS 3 (roE rdInt)) F0 H v0.v a.Inputs
instance : Keep ow112 := ⟨fun h hi hg => by
  obtain ⟨v0, F0, rfl, rfl, h0⟩ := h
  exact ⟨v0, F0, rfl, rfl, Keep.keep h0 hi (fun k hk => hg k (by simp [hk]))⟩⟩
instance : Local ow112 := ⟨fun h hg => by
  obtain ⟨v0, F0, rfl, rfl, h0⟩ := h
  exact ⟨v0, F0, rfl, rfl, Local.keep h0 (fun k hk => hg k (by simp [hk]))⟩⟩
instance : Owns ow112 := ⟨fun h k hk => by
  obtain ⟨v0, F0, rfl, rfl, h0⟩ := h
  exact Owns.owns h0 k hk
⟩
instance : OCells ow112 5 := ⟨fun h => by
  obtain ⟨v0, F0, rfl, rfl, h0⟩ := h
  exact ⟨rfl, rfl⟩⟩
instance : Frz ow112 rd112 := ⟨fun h hg => by
  obtain ⟨v0, F0, rfl, rfl, h0⟩ := h
  exact ⟨v0, rfl, Frz.frz h0 (fun k hk => hg k (by simp [hk]))⟩⟩
theorem cf67 : CF Tryz.prog 67 := fun _ _ => Tryz.call67 _ _
theorem fd103_0 : FD Tryz.prog 103 0 0 := by unfold FD; kernel_rfl
theorem fd112_0 : FD Tryz.prog 112 0 0 := by unfold FD; kernel_rfl
theorem fd112_1 : FD Tryz.prog 112 1 1 := by unfold FD; kernel_rfl
theorem ty22 : TY Tryz.prog 22 1 24 (.slice none 0 0) := by unfold TY; kernel_rfl
theorem fd103_2 : FD Tryz.prog 103 2 2 := by unfold FD; kernel_rfl
theorem fd112_2 : FD Tryz.prog 112 2 2 := by unfold FD; kernel_rfl
theorem fd103_3 : FD Tryz.prog 103 3 3 := by unfold FD; kernel_rfl
theorem fd112_3 : FD Tryz.prog 112 3 3 := by unfold FD; kernel_rfl
theorem fd103_4 : FD Tryz.prog 103 4 4 := by unfold FD; kernel_rfl
theorem fd112_4 : FD Tryz.prog 112 4 4 := by unfold FD; kernel_rfl
theorem ag112 : AG Tryz.prog 112 true := by unfold AG; kernel_rfl
theorem mk112 {a : Method} {v0 : Sv} {F0 : List Nat} : Mk ow112 F0 (.agg [(.int .i64 a.Rel), v0.v, (.int .i64 a.Limit), (.int .i64 a.Cost), (.int .i64 a.Quota)].toArray) a [cown (OwnS 3 (roE rdInt)) F0 v0.v a.Inputs] :=
  ⟨fun H h => ⟨v0, F0, rfl, rfl, h (cown (OwnS 3 (roE rdInt)) F0 v0.v a.Inputs) (by simp)⟩, by simp [cown]⟩
theorem cf20 : CF Tryz.prog 20 := fun _ _ => Tryz.call20 _ _
theorem sl40 : SL Tryz.prog 40 114 := by unfold SL; kernel_rfl
theorem ty114 : TY Tryz.prog 114 2 32 (.agg [(.int .i64 0), (.slice none 0 0)].toArray) := by unfold TY; kernel_rfl
def rd114 (H : AHeap) (v : Value) (a : Fact) : Prop := ∃ v0 : Sv, v = .agg [(.int .i64 a.Rel), v0.v].toArray ∧ (RdS 3 rdInt) H v0.v a.Values
instance : Mono rd114 := ⟨fun h hi => by
  obtain ⟨v0, h, h0⟩ := h
  exact ⟨v0, h, Mono.up h0 hi⟩⟩
instance : Cells rd114 2 := ⟨fun h => by
  obtain ⟨v0, rfl, h0⟩ := h
  exact ⟨rfl, rfl⟩⟩
def ow114 : ORel Fact := fun F H v a => ∃ (v0 : Sv) (F0 : List Nat), v = .agg [(.int .i64 a.Rel), v0.v].toArray ∧ F0 = F ∧ (OwnS 3 (roE rdInt)) F0 H v0.v a.Values
instance : Keep ow114 := ⟨fun h hi hg => by
  obtain ⟨v0, F0, rfl, rfl, h0⟩ := h
  exact ⟨v0, F0, rfl, rfl, Keep.keep h0 hi (fun k hk => hg k (by simp [hk]))⟩⟩
instance : Local ow114 := ⟨fun h hg => by
  obtain ⟨v0, F0, rfl, rfl, h0⟩ := h
  exact ⟨v0, F0, rfl, rfl, Local.keep h0 (fun k hk => hg k (by simp [hk]))⟩⟩
instance : Owns ow114 := ⟨fun h k hk => by
  obtain ⟨v0, F0, rfl, rfl, h0⟩ := h
  exact Owns.owns h0 k hk
⟩
instance : OCells ow114 2 := ⟨fun h => by
  obtain ⟨v0, F0, rfl, rfl, h0⟩ := h
  exact ⟨rfl, rfl⟩⟩
instance : Frz ow114 rd114 := ⟨fun h hg => by
  obtain ⟨v0, F0, rfl, rfl, h0⟩ := h
  exact ⟨v0, rfl, Frz.frz h0 (fun k hk => hg k (by simp [hk]))⟩⟩
theorem cf68 : CF Tryz.prog 68 := fun _ _ => Tryz.call68 _ _
theorem fd106_0 : FD Tryz.prog 106 0 0 := by unfold FD; kernel_rfl
theorem fd114_0 : FD Tryz.prog 114 0 0 := by unfold FD; kernel_rfl
theorem fd114_1 : FD Tryz.prog 114 1 1 := by unfold FD; kernel_rfl
theorem ag114 : AG Tryz.prog 114 true := by unfold AG; kernel_rfl
theorem mk114 {a : Fact} {v0 : Sv} {F0 : List Nat} : Mk ow114 F0 (.agg [(.int .i64 a.Rel), v0.v].toArray) a [cown (OwnS 3 (roE rdInt)) F0 v0.v a.Values] :=
  ⟨fun H h => ⟨v0, F0, rfl, rfl, h (cown (OwnS 3 (roE rdInt)) F0 v0.v a.Values) (by simp)⟩, by simp [cown]⟩
theorem cf17 : CF Tryz.prog 17 := fun _ _ => Tryz.call17 _ _
theorem cf64 : CF Tryz.prog 64 := fun _ _ => Tryz.call64 _ _
theorem cf91 : CF Tryz.prog 91 := fun _ _ => Tryz.call91 _ _
theorem cf96 : CF Tryz.prog 96 := fun _ _ => Tryz.call96 _ _
def ul112_0_112 (a : Method) (p : Sv) : List Value := [(.int .i64 a.Rel), p.v, (.int .i64 a.Limit), (.int .i64 a.Cost), (.int .i64 a.Quota)]
theorem la112_0_112 {a : Method} : ∀ H e, rd112 H e a → ∃ i : Sv, 0 + 5 ≤ e.cells.size ∧ (e.cells.toList.drop 0).take 5 = ul112_0_112 a i ∧ ∀ c ∈ ([crd (RdS 3 rdInt) i.v a.Inputs] : List Comp), c.P H ∧ c.F = [] := by
  intro H e h
  obtain ⟨v0, rfl, h0⟩ := h
  refine ⟨v0, Nat.le_of_ble_eq_true rfl, rfl, fun c hc => by
    simp only [List.mem_cons, List.not_mem_nil, or_false] at hc
    rcases hc with rfl
    · exact ⟨h0, rfl⟩
⟩
theorem cf123 : CF Tryz.prog 123 := fun _ _ => Tryz.call123 _ _
theorem mixed : Tryz.prog.follows .mixedOrders = true := by kernel_rfl
theorem cf65 : CF Tryz.prog 65 := fun _ _ => Tryz.call65 _ _
def ul114_0_114 (a : Fact) (p : Sv) : List Value := [(.int .i64 a.Rel), p.v]
theorem la114_0_114 {a : Fact} : ∀ H e, rd114 H e a → ∃ i : Sv, 0 + 2 ≤ e.cells.size ∧ (e.cells.toList.drop 0).take 2 = ul114_0_114 a i ∧ ∀ c ∈ ([crd (RdS 3 rdInt) i.v a.Values] : List Comp), c.P H ∧ c.F = [] := by
  intro H e h
  obtain ⟨v0, rfl, h0⟩ := h
  refine ⟨v0, Nat.le_of_ble_eq_true rfl, rfl, fun c hc => by
    simp only [List.mem_cons, List.not_mem_nil, or_false] at hc
    rcases hc with rfl
    · exact ⟨h0, rfl⟩
⟩
theorem cf124 : CF Tryz.prog 124 := fun _ _ => Tryz.call124 _ _
theorem cf125 : CF Tryz.prog 125 := fun _ _ => Tryz.call125 _ _
theorem cf66 : CF Tryz.prog 66 := fun _ _ => Tryz.call66 _ _
structure Access where
  Method : Int
  Values : List Int
structure Reached where
  Facts : List Fact
  Values : List Int
  Log : List Access
  Rounds : Int
theorem ty110 : TY Tryz.prog 110 4 80 (.agg [(.slice none 0 0), (.slice none 0 0), (.slice none 0 0), (.int .i64 0)].toArray) := by unfold TY; kernel_rfl
theorem cf126 : CF Tryz.prog 126 := fun _ _ => Tryz.call126 _ _
theorem ag110 : AG Tryz.prog 110 true := by unfold AG; kernel_rfl
def rd80 (H : AHeap) (v : Value) (a : Access) : Prop := ∃ v0 : Sv, v = .agg [(.int .i64 a.Method), v0.v].toArray ∧ (RdS 3 rdInt) H v0.v a.Values
instance : Mono rd80 := ⟨fun h hi => by
  obtain ⟨v0, h, h0⟩ := h
  exact ⟨v0, h, Mono.up h0 hi⟩⟩
instance : Cells rd80 2 := ⟨fun h => by
  obtain ⟨v0, rfl, h0⟩ := h
  exact ⟨rfl, rfl⟩⟩
def ow80 : ORel Access := fun F H v a => ∃ (v0 : Sv) (F0 : List Nat), v = .agg [(.int .i64 a.Method), v0.v].toArray ∧ F0 = F ∧ (OwnS 3 (roE rdInt)) F0 H v0.v a.Values
instance : Keep ow80 := ⟨fun h hi hg => by
  obtain ⟨v0, F0, rfl, rfl, h0⟩ := h
  exact ⟨v0, F0, rfl, rfl, Keep.keep h0 hi (fun k hk => hg k (by simp [hk]))⟩⟩
instance : Local ow80 := ⟨fun h hg => by
  obtain ⟨v0, F0, rfl, rfl, h0⟩ := h
  exact ⟨v0, F0, rfl, rfl, Local.keep h0 (fun k hk => hg k (by simp [hk]))⟩⟩
instance : Owns ow80 := ⟨fun h k hk => by
  obtain ⟨v0, F0, rfl, rfl, h0⟩ := h
  exact Owns.owns h0 k hk
⟩
instance : OCells ow80 2 := ⟨fun h => by
  obtain ⟨v0, F0, rfl, rfl, h0⟩ := h
  exact ⟨rfl, rfl⟩⟩
instance : Frz ow80 rd80 := ⟨fun h hg => by
  obtain ⟨v0, F0, rfl, rfl, h0⟩ := h
  exact ⟨v0, rfl, Frz.frz h0 (fun k hk => hg k (by simp [hk]))⟩⟩
theorem fd110_1 : FD Tryz.prog 110 1 1 := by unfold FD; kernel_rfl
theorem cf168 : CF Tryz.prog 168 := fun _ _ => Tryz.call168 _ _
theorem cf185 : CF Tryz.prog 185 := fun _ _ => Tryz.call185 _ _
theorem ni22 : NotInt Tryz.prog 22 := .inr ⟨3, by kernel_rfl⟩
theorem cf127 : CF Tryz.prog 127 := fun _ _ => Tryz.call127 _ _
theorem cf169 : CF Tryz.prog 169 := fun _ _ => Tryz.call169 _ _
theorem fd110_0 : FD Tryz.prog 110 0 0 := by unfold FD; kernel_rfl
theorem ag40 : AG Tryz.prog 40 false := by unfold AG; kernel_rfl
theorem fd110_3 : FD Tryz.prog 110 3 3 := by unfold FD; kernel_rfl
theorem cf170 : CF Tryz.prog 170 := fun _ _ => Tryz.call170 _ _
theorem cf208 : CF Tryz.prog 208 := fun _ _ => Tryz.call208 _ _
theorem ls114_0 {a : Fact} : ∀ H e, rd114 H e a → e.cells.toList[0]? = some (.int .i64 a.Rel) := by
  intro H e h
  obtain ⟨_, rfl, _⟩ := h
  rfl
theorem lv114_1 {a : Fact} : ∀ H e, rd114 H e a → ∃ w : Sv, e.cells.toList[1]? = some w.v ∧ (RdS 3 rdInt) H w.v a.Values := by
  intro H e h
  obtain ⟨v0, rfl, h0⟩ := h
  exact ⟨v0, rfl, h0⟩
theorem cf187 : CF Tryz.prog 187 := fun _ _ => Tryz.call187 _ _
theorem ni40 : NotInt Tryz.prog 40 := .inr ⟨114, by kernel_rfl⟩
theorem fd110_2 : FD Tryz.prog 110 2 2 := by unfold FD; kernel_rfl
theorem ag46 : AG Tryz.prog 46 false := by unfold AG; kernel_rfl
theorem cf209 : CF Tryz.prog 209 := fun _ _ => Tryz.call209 _ _
theorem sl46 : SL Tryz.prog 46 80 := by unfold SL; kernel_rfl
theorem ty80 : TY Tryz.prog 80 2 32 (.agg [(.int .i64 0), (.slice none 0 0)].toArray) := by unfold TY; kernel_rfl
theorem fd80_0 : FD Tryz.prog 80 0 0 := by unfold FD; kernel_rfl
theorem ls80_0 {a : Access} : ∀ H e, rd80 H e a → e.cells.toList[0]? = some (.int .i64 a.Method) := by
  intro H e h
  obtain ⟨_, rfl, _⟩ := h
  rfl
theorem fd80_1 : FD Tryz.prog 80 1 1 := by unfold FD; kernel_rfl
theorem lv80_1 {a : Access} : ∀ H e, rd80 H e a → ∃ w : Sv, e.cells.toList[1]? = some w.v ∧ (RdS 3 rdInt) H w.v a.Values := by
  intro H e h
  obtain ⟨v0, rfl, h0⟩ := h
  exact ⟨v0, rfl, h0⟩
theorem cf226 : CF Tryz.prog 226 := fun _ _ => Tryz.call226 _ _
theorem ag80 : AG Tryz.prog 80 true := by unfold AG; kernel_rfl
theorem mk80 {a : Access} {v0 : Sv} {F0 : List Nat} : Mk ow80 F0 (.agg [(.int .i64 a.Method), v0.v].toArray) a [cown (OwnS 3 (roE rdInt)) F0 v0.v a.Values] :=
  ⟨fun H h => ⟨v0, F0, rfl, rfl, h (cown (OwnS 3 (roE rdInt)) F0 v0.v a.Values) (by simp)⟩, by simp [cown]⟩
theorem ni46 : NotInt Tryz.prog 46 := .inr ⟨80, by kernel_rfl⟩
theorem ty46 : TY Tryz.prog 46 1 24 (.slice none 0 0) := by unfold TY; kernel_rfl
theorem cf171 : CF Tryz.prog 171 := fun _ _ => Tryz.call171 _ _
theorem cf210 : CF Tryz.prog 210 := fun _ _ => Tryz.call210 _ _
theorem ls112_2 {a : Method} : ∀ H e, rd112 H e a → e.cells.toList[2]? = some (.int .i64 a.Limit) := by
  intro H e h
  obtain ⟨_, rfl, _⟩ := h
  rfl
theorem lv112_1 {a : Method} : ∀ H e, rd112 H e a → ∃ w : Sv, e.cells.toList[1]? = some w.v ∧ (RdS 3 rdInt) H w.v a.Inputs := by
  intro H e h
  obtain ⟨v0, rfl, h0⟩ := h
  exact ⟨v0, rfl, h0⟩
theorem cf247 : CF Tryz.prog 247 := fun _ _ => Tryz.call247 _ _
theorem sl139 : SL Tryz.prog 139 22 := by unfold SL; kernel_rfl
theorem lv22_0 {a : List Int} : ∀ H e, (RdS 3 rdInt) H e a → ∃ w : Sv, e.cells.toList[0]? = some w.v ∧ (RdS 3 rdInt) H w.v a := by
  intro H e h
  obtain ⟨a0, m, rfl⟩ := RdS.len h
  exact ⟨⟨a0, _, m⟩, rfl, h⟩
theorem ni139 : NotInt Tryz.prog 139 := .inr ⟨22, by kernel_rfl⟩
theorem cf248 : CF Tryz.prog 248 := fun _ _ => Tryz.call248 _ _
def ul80_0_80 (a : Access) (p : Sv) : List Value := [(.int .i64 a.Method), p.v]
theorem la80_0_80 {a : Access} : ∀ H e, rd80 H e a → ∃ i : Sv, 0 + 2 ≤ e.cells.size ∧ (e.cells.toList.drop 0).take 2 = ul80_0_80 a i ∧ ∀ c ∈ ([crd (RdS 3 rdInt) i.v a.Values] : List Comp), c.P H ∧ c.F = [] := by
  intro H e h
  obtain ⟨v0, rfl, h0⟩ := h
  refine ⟨v0, Nat.le_of_ble_eq_true rfl, rfl, fun c hc => by
    simp only [List.mem_cons, List.not_mem_nil, or_false] at hc
    rcases hc with rfl
    · exact ⟨h0, rfl⟩
⟩
theorem cf272 : CF Tryz.prog 272 := fun _ _ => Tryz.call272 _ _
theorem cf227 : CF Tryz.prog 227 := fun _ _ => Tryz.call227 _ _
theorem mr80 {a : Access} {v0 : Sv} : Mk (roE rd80) [] (.agg [(.int .i64 a.Method), v0.v].toArray) a [crd (RdS 3 rdInt) v0.v a.Values] :=
  ⟨fun H h => ⟨rfl, v0, rfl, h (crd (RdS 3 rdInt) v0.v a.Values) (by simp)⟩, by simp [crd]⟩
theorem cf211 : CF Tryz.prog 211 := fun _ _ => Tryz.call211 _ _
theorem cf149 : CF Tryz.prog 149 := fun _ _ => Tryz.call149 _ _
theorem cf140 : CF Tryz.prog 140 := fun _ _ => Tryz.call140 _ _
theorem cf142 : CF Tryz.prog 142 := fun _ _ => Tryz.call142 _ _
theorem ty40 : TY Tryz.prog 40 1 24 (.slice none 0 0) := by unfold TY; kernel_rfl
theorem cf38 : CF Tryz.prog 38 := fun _ _ => Tryz.call38 _ _
theorem ik3 : IK Tryz.prog 3 .i64 := by unfold IK; kernel_rfl
theorem ik5 : IK Tryz.prog 5 .u8 := by unfold IK; kernel_rfl
theorem sl146 : SL Tryz.prog 146 5 := by unfold SL; kernel_rfl
theorem ty5 : TY Tryz.prog 5 1 1 (.int .u8 0) := by unfold TY; kernel_rfl
theorem str9 : Tryz.prog.underlying 9 = some .string := by kernel_rfl
theorem cf39 : CF Tryz.prog 39 := fun _ _ => Tryz.call39 _ _
theorem cf98 : CF Tryz.prog 98 := fun _ _ => Tryz.call98 _ _
theorem cf77 : CF Tryz.prog 77 := fun _ _ => Tryz.call77 _ _
theorem cf21 : CF Tryz.prog 21 := fun _ _ => Tryz.call21 _ _
theorem cf69 : CF Tryz.prog 69 := fun _ _ => Tryz.call69 _ _
theorem cf128 : CF Tryz.prog 128 := fun _ _ => Tryz.call128 _ _
theorem cf111 : CF Tryz.prog 111 := fun _ _ => Tryz.call111 _ _
theorem cf158 : CF Tryz.prog 158 := fun _ _ => Tryz.call158 _ _
theorem cf204 : CF Tryz.prog 204 := fun _ _ => Tryz.call204 _ _
theorem cf172 : CF Tryz.prog 172 := fun _ _ => Tryz.call172 _ _
theorem cf129 : CF Tryz.prog 129 := fun _ _ => Tryz.call129 _ _
theorem cf173 : CF Tryz.prog 173 := fun _ _ => Tryz.call173 _ _
theorem cf130 : CF Tryz.prog 130 := fun _ _ => Tryz.call130 _ _
theorem cf131 : CF Tryz.prog 131 := fun _ _ => Tryz.call131 _ _
theorem cf174 : CF Tryz.prog 174 := fun _ _ => Tryz.call174 _ _
theorem cf175 : CF Tryz.prog 175 := fun _ _ => Tryz.call175 _ _
theorem cf212 : CF Tryz.prog 212 := fun _ _ => Tryz.call212 _ _
theorem cf213 : CF Tryz.prog 213 := fun _ _ => Tryz.call213 _ _
theorem cf214 : CF Tryz.prog 214 := fun _ _ => Tryz.call214 _ _
theorem cf70 : CF Tryz.prog 70 := fun _ _ => Tryz.call70 _ _
theorem cf132 : CF Tryz.prog 132 := fun _ _ => Tryz.call132 _ _
theorem cf112 : CF Tryz.prog 112 := fun _ _ => Tryz.call112 _ _
theorem cf160 : CF Tryz.prog 160 := fun _ _ => Tryz.call160 _ _
theorem cf161 : CF Tryz.prog 161 := fun _ _ => Tryz.call161 _ _
theorem cf133 : CF Tryz.prog 133 := fun _ _ => Tryz.call133 _ _
theorem cf177 : CF Tryz.prog 177 := fun _ _ => Tryz.call177 _ _
theorem cf215 : CF Tryz.prog 215 := fun _ _ => Tryz.call215 _ _
theorem cf178 : CF Tryz.prog 178 := fun _ _ => Tryz.call178 _ _
theorem cf176 : CF Tryz.prog 176 := fun _ _ => Tryz.call176 _ _
theorem cf71 : CF Tryz.prog 71 := fun _ _ => Tryz.call71 _ _
theorem cf134 : CF Tryz.prog 134 := fun _ _ => Tryz.call134 _ _
theorem cf179 : CF Tryz.prog 179 := fun _ _ => Tryz.call179 _ _
theorem cf216 : CF Tryz.prog 216 := fun _ _ => Tryz.call216 _ _
theorem cf249 : CF Tryz.prog 249 := fun _ _ => Tryz.call249 _ _
theorem lo3_0 {a : Int} : ∀ F H e, (roE rdInt) F H e a → e.cells.toList[0]? = some (.int .i64 a) := by
  intro F H e h
  obtain ⟨-, h⟩ := h
  subst h
  rfl
theorem cf217 : CF Tryz.prog 217 := fun _ _ => Tryz.call217 _ _
def lays189_ren : Go.Shelf.Ren := ⟨fun | 189 => 217 | 125 => 251 | 257 => 250 | 128 => 281 | 129 => 268 | 294 => 273 | 295 => 274 | 296 => 275 | 297 => 276 | 298 => 277 | 299 => 278 | 216 => 203 | 300 => 279 | 301 => 280 | 328 => 290 | 329 => 291 | 330 => 292 | 331 => 293 | 332 => 294 | 215 => 215 | 343 => 296 | n => n, fun | 28 => 22 | 3 => 3 | 46 => 261 | 0 => 0 | 51 => 269 | 53 => 251 | 4 => 4 | 183 => 273 | 182 => 272 | 131 => 277 | 5 => 5 | 9 => 9 | 218 => 282 | 222 => 286 | 228 => 291 | 229 => 292 | n => n, fun | n => n⟩
theorem lays189 : Go.Proofs.Lays.n189 Tryz.prog lays189_ren := {
  mixed := by kernel_rfl
  f125 := Tryz.func251.trans (congrArg some (by kernel_rfl))
  f128 := Tryz.func281.trans (congrArg some (by kernel_rfl))
  f129 := Tryz.func268.trans (congrArg some (by kernel_rfl))
  f189 := Tryz.func217.trans (congrArg some (by kernel_rfl))
  f215 := Tryz.func215.trans (congrArg some (by kernel_rfl))
  f216 := Tryz.func203.trans (congrArg some (by kernel_rfl))
  f257 := Tryz.func250.trans (congrArg some (by kernel_rfl))
  f294 := Tryz.func273.trans (congrArg some (by kernel_rfl))
  f295 := Tryz.func274.trans (congrArg some (by kernel_rfl))
  f296 := Tryz.func275.trans (congrArg some (by kernel_rfl))
  f297 := Tryz.func276.trans (congrArg some (by kernel_rfl))
  f298 := Tryz.func277.trans (congrArg some (by kernel_rfl))
  f299 := Tryz.func278.trans (congrArg some (by kernel_rfl))
  f300 := Tryz.func279.trans (congrArg some (by kernel_rfl))
  f301 := Tryz.func280.trans (congrArg some (by kernel_rfl))
  f328 := Tryz.func290.trans (congrArg some (by kernel_rfl))
  f329 := Tryz.func291.trans (congrArg some (by kernel_rfl))
  f330 := Tryz.func292.trans (congrArg some (by kernel_rfl))
  f331 := Tryz.func293.trans (congrArg some (by kernel_rfl))
  f332 := Tryz.func294.trans (congrArg some (by kernel_rfl))
  f343 := Tryz.func296.trans (congrArg some (by kernel_rfl))
  t0 := Tryz.underlying0
  a0 := Tryz.isAgg0
  z0 := Tryz.sizeOf0
  v0 := Tryz.zeroValue0
  t3 := Tryz.underlying3
  a3 := Tryz.isAgg3
  z3 := Tryz.sizeOf3
  v3 := Tryz.zeroValue3
  t4 := Tryz.underlying4
  a4 := Tryz.isAgg4
  z4 := Tryz.sizeOf4
  v4 := Tryz.zeroValue4
  t5 := Tryz.underlying5
  a5 := Tryz.isAgg5
  z5 := Tryz.sizeOf5
  v5 := Tryz.zeroValue5
  t9 := Tryz.underlying9
  a9 := Tryz.isAgg9
  z9 := Tryz.sizeOf9
  v9 := Tryz.zeroValue9
  t28 := Tryz.underlying22
  a28 := Tryz.isAgg22
  z28 := Tryz.sizeOf22
  v28 := Tryz.zeroValue22
  t46 := Tryz.underlying261
  a46 := Tryz.isAgg261
  z46 := Tryz.sizeOf261
  v46 := Tryz.zeroValue261
  t51 := Tryz.underlying269
  a51 := Tryz.isAgg269
  z51 := Tryz.sizeOf269
  v51 := Tryz.zeroValue269
  t53 := Tryz.underlying251
  a53 := Tryz.isAgg251
  z53 := Tryz.sizeOf251
  v53 := Tryz.zeroValue251
  t131 := Tryz.underlying277
  a131 := Tryz.isAgg277
  z131 := Tryz.sizeOf277
  v131 := Tryz.zeroValue277
  t182 := Tryz.underlying272
  a182 := Tryz.isAgg272
  z182 := Tryz.sizeOf272
  v182 := Tryz.zeroValue272
  t183 := Tryz.underlying273
  a183 := Tryz.isAgg273
  z183 := Tryz.sizeOf273
  v183 := Tryz.zeroValue273
  t218 := Tryz.underlying282
  a218 := Tryz.isAgg282
  z218 := Tryz.sizeOf282
  v218 := Tryz.zeroValue282
  t222 := Tryz.underlying286
  a222 := Tryz.isAgg286
  z222 := Tryz.sizeOf286
  v222 := Tryz.zeroValue286
  t228 := Tryz.underlying291
  a228 := Tryz.isAgg291
  z228 := Tryz.sizeOf291
  v228 := Tryz.zeroValue291
  t229 := Tryz.underlying292
  a229 := Tryz.isAgg292
  z229 := Tryz.sizeOf292
  v229 := Tryz.zeroValue292 }
theorem cf218 : CF Tryz.prog 218 := fun _ _ => Tryz.call218 _ _
def lays2020_ren : Go.Shelf.Ren := ⟨fun | 20 => 218 | n => n, fun | 22 => 22 | 3 => 3 | 4 => 4 | 0 => 0 | n => n, fun | n => n⟩
theorem lays2020 : Go.Proofs.Lays2.n20 Tryz.prog lays2020_ren := {
  mixed := by kernel_rfl
  f20 := Tryz.func218.trans (congrArg some (by kernel_rfl))
  t0 := Tryz.underlying0
  a0 := Tryz.isAgg0
  z0 := Tryz.sizeOf0
  v0 := Tryz.zeroValue0
  t3 := Tryz.underlying3
  a3 := Tryz.isAgg3
  z3 := Tryz.sizeOf3
  v3 := Tryz.zeroValue3
  t4 := Tryz.underlying4
  a4 := Tryz.isAgg4
  z4 := Tryz.sizeOf4
  v4 := Tryz.zeroValue4
  t22 := Tryz.underlying22
  a22 := Tryz.isAgg22
  z22 := Tryz.sizeOf22
  v22 := Tryz.zeroValue22
  i3 := by kernel_rfl }
theorem cf135 : CF Tryz.prog 135 := fun _ _ => Tryz.call135 _ _
theorem cf180 : CF Tryz.prog 180 := fun _ _ => Tryz.call180 _ _
theorem cf219 : CF Tryz.prog 219 := fun _ _ => Tryz.call219 _ _
theorem cf235 : CF Tryz.prog 235 := fun _ _ => Tryz.call235 _ _
theorem cf220 : CF Tryz.prog 220 := fun _ _ => Tryz.call220 _ _
theorem cf107 : CF Tryz.prog 107 := fun _ _ => Tryz.call107 _ _
theorem cf156 : CF Tryz.prog 156 := fun _ _ => Tryz.call156 _ _
theorem cf252 : CF Tryz.prog 252 := fun _ _ => Tryz.call252 _ _
theorem cf253 : CF Tryz.prog 253 := fun _ _ => Tryz.call253 _ _
theorem cf263 : CF Tryz.prog 263 := fun _ _ => Tryz.call263 _ _
theorem cf181 : CF Tryz.prog 181 := fun _ _ => Tryz.call181 _ _
theorem cf222 : CF Tryz.prog 222 := fun _ _ => Tryz.call222 _ _
theorem cf198 : CF Tryz.prog 198 := fun _ _ => Tryz.call198 _ _
theorem cf221 : CF Tryz.prog 221 := fun _ _ => Tryz.call221 _ _
theorem cf223 : CF Tryz.prog 223 := fun _ _ => Tryz.call223 _ _
theorem cf195 : CF Tryz.prog 195 := fun _ _ => Tryz.call195 _ _
theorem cf144 : CF Tryz.prog 144 := fun _ _ => Tryz.call144 _ _
theorem cf194 : CF Tryz.prog 194 := fun _ _ => Tryz.call194 _ _
theorem cf236 : CF Tryz.prog 236 := fun _ _ => Tryz.call236 _ _
theorem cf237 : CF Tryz.prog 237 := fun _ _ => Tryz.call237 _ _
theorem cf196 : CF Tryz.prog 196 := fun _ _ => Tryz.call196 _ _
theorem cf197 : CF Tryz.prog 197 := fun _ _ => Tryz.call197 _ _
theorem hov238 : ∀ args w, (callFunc 238 args).run Tryz.prog w = ((Extern.SlicesOverlaps.overlaps #[40, 40] #[4] args).run Tryz.prog w).andThen fun v w' => .ok (.value v) w' := fun args w => run_callFunc_extern Tryz.func238 (by kernel_rfl) (by kernel_rfl) (by kernel_rfl) (e := Extern.SlicesOverlaps.overlaps #[40, 40] #[4]) (by kernel_rfl) args w
theorem cf182 : CF Tryz.prog 182 := fun _ _ => Tryz.call182 _ _
theorem cf47 : CF Tryz.prog 47 := fun _ _ => Tryz.call47 _ _
theorem cf113 : CF Tryz.prog 113 := fun _ _ => Tryz.call113 _ _
def laysM171_ren : Go.Shelf.Ren := ⟨fun | 171 => 113 | 243 => 162 | 246 => 205 | 283 => 241 | 284 => 242 | 285 => 243 | 286 => 244 | 129 => 268 | 317 => 267 | 318 => 269 | 319 => 270 | 320 => 271 | 337 => 288 | 338 => 289 | n => n, fun | 3 => 3 | 9 => 9 | 2 => 2 | 4 => 4 | 171 => 250 | 0 => 0 | 53 => 251 | 37 => 146 | 5 => 5 | 173 => 254 | 212 => 268 | 51 => 269 | 20 => 20 | 213 => 270 | 46 => 261 | 232 => 289 | 233 => 290 | n => n, fun | 17 => 0 | 18 => 2 | 19 => 3 | n => n⟩
theorem laysM171 : Go.Proofs.LaysM.n171 Tryz.prog laysM171_ren := {
  mixed := by kernel_rfl
  f129 := Tryz.func268.trans (congrArg some (by kernel_rfl))
  f171 := Tryz.func113.trans (congrArg some (by kernel_rfl))
  f243 := Tryz.func162.trans (congrArg some (by kernel_rfl))
  f246 := Tryz.func205.trans (congrArg some (by kernel_rfl))
  f283 := Tryz.func241.trans (congrArg some (by kernel_rfl))
  f284 := Tryz.func242.trans (congrArg some (by kernel_rfl))
  f285 := Tryz.func243.trans (congrArg some (by kernel_rfl))
  f286 := Tryz.func244.trans (congrArg some (by kernel_rfl))
  f317 := Tryz.func267.trans (congrArg some (by kernel_rfl))
  f318 := Tryz.func269.trans (congrArg some (by kernel_rfl))
  f319 := Tryz.func270.trans (congrArg some (by kernel_rfl))
  f320 := Tryz.func271.trans (congrArg some (by kernel_rfl))
  f337 := Tryz.func288.trans (congrArg some (by kernel_rfl))
  f338 := Tryz.func289.trans (congrArg some (by kernel_rfl))
  t0 := Tryz.underlying0
  a0 := Tryz.isAgg0
  z0 := Tryz.sizeOf0
  v0 := Tryz.zeroValue0
  t2 := Tryz.underlying2
  a2 := Tryz.isAgg2
  z2 := Tryz.sizeOf2
  v2 := Tryz.zeroValue2
  t3 := Tryz.underlying3
  a3 := Tryz.isAgg3
  z3 := Tryz.sizeOf3
  v3 := Tryz.zeroValue3
  t4 := Tryz.underlying4
  a4 := Tryz.isAgg4
  z4 := Tryz.sizeOf4
  v4 := Tryz.zeroValue4
  t5 := Tryz.underlying5
  a5 := Tryz.isAgg5
  z5 := Tryz.sizeOf5
  v5 := Tryz.zeroValue5
  t9 := Tryz.underlying9
  a9 := Tryz.isAgg9
  z9 := Tryz.sizeOf9
  v9 := Tryz.zeroValue9
  t20 := Tryz.underlying20
  a20 := Tryz.isAgg20
  z20 := Tryz.sizeOf20
  v20 := Tryz.zeroValue20
  t37 := Tryz.underlying146
  a37 := Tryz.isAgg146
  z37 := Tryz.sizeOf146
  v37 := Tryz.zeroValue146
  t46 := Tryz.underlying261
  a46 := Tryz.isAgg261
  z46 := Tryz.sizeOf261
  v46 := Tryz.zeroValue261
  t51 := Tryz.underlying269
  a51 := Tryz.isAgg269
  z51 := Tryz.sizeOf269
  v51 := Tryz.zeroValue269
  t53 := Tryz.underlying251
  a53 := Tryz.isAgg251
  z53 := Tryz.sizeOf251
  v53 := Tryz.zeroValue251
  t171 := Tryz.underlying250
  a171 := Tryz.isAgg250
  z171 := Tryz.sizeOf250
  v171 := Tryz.zeroValue250
  t173 := Tryz.underlying254
  a173 := Tryz.isAgg254
  z173 := Tryz.sizeOf254
  v173 := Tryz.zeroValue254
  t212 := Tryz.underlying268
  a212 := Tryz.isAgg268
  z212 := Tryz.sizeOf268
  v212 := Tryz.zeroValue268
  t213 := Tryz.underlying270
  a213 := Tryz.isAgg270
  z213 := Tryz.sizeOf270
  t232 := Tryz.underlying289
  a232 := Tryz.isAgg289
  z232 := Tryz.sizeOf289
  v232 := Tryz.zeroValue289
  t233 := Tryz.underlying290
  a233 := Tryz.isAgg290
  z233 := Tryz.sizeOf290
  v233 := Tryz.zeroValue290
  g17 := by kernel_rfl
  g18 := by kernel_rfl
  g19 := by kernel_rfl
  i0 := by kernel_rfl
  i2 := by kernel_rfl
  i3 := by kernel_rfl
  i4 := by kernel_rfl
  i5 := by kernel_rfl
  i9 := by kernel_rfl
  i20 := by kernel_rfl
  i37 := by kernel_rfl
  i46 := by kernel_rfl
  i51 := by kernel_rfl
  i53 := by kernel_rfl
  i171 := by kernel_rfl
  i173 := by kernel_rfl
  i212 := by kernel_rfl
  i232 := by kernel_rfl
  i233 := by kernel_rfl
  m17 := by kernel_rfl
  m18 := by kernel_rfl
  m19 := by kernel_rfl }
theorem cf48 : CF Tryz.prog 48 := fun _ _ => Tryz.call48 _ _
theorem sl36 : SL Tryz.prog 36 9 := by unfold SL; kernel_rfl
theorem ty9 : TY Tryz.prog 9 1 16 (.string ⟨[].toArray⟩) := by unfold TY; kernel_rfl
theorem cf115 : CF Tryz.prog 115 := fun _ _ => Tryz.call115 _ _
def lays156_ren : Go.Shelf.Ren := ⟨fun | 156 => 115 | 165 => 164 | 166 => 165 | 169 => 166 | 240 => 206 | 241 => 207 | 276 => 245 | 277 => 246 | n => n, fun | 31 => 36 | 9 => 9 | 3 => 3 | 4 => 4 | 0 => 0 | 20 => 20 | 72 => 196 | 76 => 200 | 70 => 194 | 37 => 146 | 75 => 199 | 127 => 232 | 164 => 256 | 5 => 5 | 80 => 202 | n => n, fun | n => n⟩
theorem lays156 : Go.Proofs.Lays.n156 Tryz.prog lays156_ren := {
  mixed := by kernel_rfl
  f156 := Tryz.func115.trans (congrArg some (by kernel_rfl))
  f165 := Tryz.func164.trans (congrArg some (by kernel_rfl))
  f166 := Tryz.func165.trans (congrArg some (by kernel_rfl))
  f169 := Tryz.func166.trans (congrArg some (by kernel_rfl))
  f240 := Tryz.func206.trans (congrArg some (by kernel_rfl))
  f241 := Tryz.func207.trans (congrArg some (by kernel_rfl))
  f276 := Tryz.func245.trans (congrArg some (by kernel_rfl))
  f277 := Tryz.func246.trans (congrArg some (by kernel_rfl))
  t0 := Tryz.underlying0
  a0 := Tryz.isAgg0
  z0 := Tryz.sizeOf0
  v0 := Tryz.zeroValue0
  t3 := Tryz.underlying3
  a3 := Tryz.isAgg3
  z3 := Tryz.sizeOf3
  v3 := Tryz.zeroValue3
  t4 := Tryz.underlying4
  a4 := Tryz.isAgg4
  z4 := Tryz.sizeOf4
  v4 := Tryz.zeroValue4
  t9 := Tryz.underlying9
  a9 := Tryz.isAgg9
  z9 := Tryz.sizeOf9
  v9 := Tryz.zeroValue9
  t20 := Tryz.underlying20
  a20 := Tryz.isAgg20
  z20 := Tryz.sizeOf20
  v20 := Tryz.zeroValue20
  t31 := Tryz.underlying36
  a31 := Tryz.isAgg36
  z31 := Tryz.sizeOf36
  v31 := Tryz.zeroValue36
  t37 := Tryz.underlying146
  a37 := Tryz.isAgg146
  z37 := Tryz.sizeOf146
  v37 := Tryz.zeroValue146
  t70 := Tryz.underlying194
  a70 := Tryz.isAgg194
  z70 := Tryz.sizeOf194
  v70 := Tryz.zeroValue194
  t72 := Tryz.underlying196
  a72 := Tryz.isAgg196
  z72 := Tryz.sizeOf196
  v72 := Tryz.zeroValue196
  t75 := Tryz.underlying199
  a75 := Tryz.isAgg199
  z75 := Tryz.sizeOf199
  v75 := Tryz.zeroValue199
  t76 := Tryz.underlying200
  a76 := Tryz.isAgg200
  z76 := Tryz.sizeOf200
  v76 := Tryz.zeroValue200
  t127 := Tryz.underlying232
  a127 := Tryz.isAgg232
  z127 := Tryz.sizeOf232
  v127 := Tryz.zeroValue232
  t164 := Tryz.underlying256
  a164 := Tryz.isAgg256
  z164 := Tryz.sizeOf256
  v164 := Tryz.zeroValue256 }
theorem extra : Go.Proofs.Builder.Extra Tryz.prog lays156_ren := {
  sizeBuilder := by kernel_rfl
  liesBuilder := by kernel_rfl
  t5 := Tryz.underlying5
  a5 := Tryz.isAgg5
  z5 := Tryz.sizeOf5
  v5 := Tryz.zeroValue5
  infoByte := by kernel_rfl
  cellsByte := by kernel_rfl
  sizeByte := by kernel_rfl
  neB5 := by decide }
theorem cf114 : CF Tryz.prog 114 := fun _ _ => Tryz.call114 _ _
theorem cf163 : CF Tryz.prog 163 := fun _ _ => Tryz.call163 _ _
theorem cf83 : CF Tryz.prog 83 := fun _ _ => Tryz.call83 _ _
theorem ni36 : NotInt Tryz.prog 36 := .inr ⟨9, by kernel_rfl⟩
theorem cf22 : CF Tryz.prog 22 := fun _ _ => Tryz.call22 _ _
theorem cf23 : CF Tryz.prog 23 := fun _ _ => Tryz.call23 _ _
theorem cf72 : CF Tryz.prog 72 := fun _ _ => Tryz.call72 _ _
theorem cf24 : CF Tryz.prog 24 := fun _ _ => Tryz.call24 _ _
theorem cf73 : CF Tryz.prog 73 := fun _ _ => Tryz.call73 _ _
theorem fa103_0 : fieldAt Tryz.prog 103 0 = some (3, 0, 1) := by kernel_rfl
theorem fa103_1 : fieldAt Tryz.prog 103 1 = some (22, 1, 1) := by kernel_rfl
theorem fa103_2 : fieldAt Tryz.prog 103 2 = some (3, 2, 1) := by kernel_rfl
theorem fa103_3 : fieldAt Tryz.prog 103 3 = some (3, 3, 1) := by kernel_rfl
theorem fa103_4 : fieldAt Tryz.prog 103 4 = some (3, 4, 1) := by kernel_rfl
def wf103 (a : Method) : Prop := wfInt a.Rel ∧ (wfSl wfInt) a.Inputs ∧ wfInt a.Limit ∧ wfInt a.Cost ∧ wfInt a.Quota
theorem sh103 : ∀ H v a, rd103 H v a → isAgV v = aggT Tryz.prog 103 := by
  intro H v a h
  obtain ⟨v1, rfl, _⟩ := h
  kernel_rfl
theorem op103 : Opn Tryz.prog 103 rd103 wf103 := by
  intro T enc w fuel cs x h hw ρ H hr hF
  have hl := opn_len fa103_0 h (n := 5) ty103.sz.cells
  obtain ⟨ρ0, H0, av0, a0, r0, f0, u0, i0, v0, q0, w0⟩ := opn_field fa103_0 h hw (Opn.int (by kernel_rfl)) hr hF
  obtain ⟨ρ1, H1, av1, a1, r1, f1, u1, i1, v1, q1, w1⟩ := opn_field fa103_1 h hw (Opn.slice (s := 1) (by kernel_rfl) (by kernel_rfl) (by decide) (Nat.lt_of_lt_of_le (by decide) (Nat.le_of_eq (show 8 = _ from by kernel_rfl))) (Opn.int (by kernel_rfl))) r0 f0
  obtain ⟨ρ2, H2, av2, a2, r2, f2, u2, i2, v2, q2, w2⟩ := opn_field fa103_2 h hw (Opn.int (by kernel_rfl)) r1 f1
  obtain ⟨ρ3, H3, av3, a3, r3, f3, u3, i3, v3, q3, w3⟩ := opn_field fa103_3 h hw (Opn.int (by kernel_rfl)) r2 f2
  obtain ⟨ρ4, H4, av4, a4, r4, f4, u4, i4, v4, q4, w4⟩ := opn_field fa103_4 h hw (Opn.int (by kernel_rfl)) r3 f3
  obtain rfl : av0 = (.int .i64 a0) := q0
  replace v0 := v0.up (((u1.trans u2).trans u3).trans u4)
  obtain ⟨sa1, sm1, rfl⟩ := RdS.len q1
  replace v1 := v1.one rfl
  replace v1 := v1.up ((u2.trans u3).trans u4)
  obtain rfl : av2 = (.int .i64 a2) := q2
  replace v2 := v2.up (u3.trans u4)
  obtain rfl : av3 = (.int .i64 a3) := q3
  replace v3 := v3.up u4
  obtain rfl : av4 = (.int .i64 a4) := q4
  have hv := RelVs.field (o := 0) v0 (RelVs.field (o := 1) v1 (RelVs.field (o := 2) v2 (RelVs.field (o := 3) v3 (RelVs.field (o := 4) v4 (RelVs.end hl)))))
  rw [List.drop_zero] at hv
  refine ⟨ρ4, H4, (.agg [(.int .i64 a0), (.slice sa1 a1.length sm1), (.int .i64 a2), (.int .i64 a3), (.int .i64 a4)].toArray : Value), ({ Rel := a0, Inputs := a1, Limit := a2, Cost := a3, Quota := a4 } : Method), r4, f4, ((((u0.trans u1).trans u2).trans u3).trans u4), ((((i0.trans i1).trans i2).trans i3).trans i4), ?_, ?_, w0, w1, w2, w3, w4⟩
  · exact hv
  · exact ⟨⟨sa1, _, sm1⟩, rfl, (Mono.up q1 ((i2.trans i3).trans i4))⟩
theorem fa106_0 : fieldAt Tryz.prog 106 0 = some (3, 0, 1) := by kernel_rfl
theorem fa106_1 : fieldAt Tryz.prog 106 1 = some (22, 1, 1) := by kernel_rfl
def wf106 (a : Fact) : Prop := wfInt a.Rel ∧ (wfSl wfInt) a.Values
theorem sh106 : ∀ H v a, rd106 H v a → isAgV v = aggT Tryz.prog 106 := by
  intro H v a h
  obtain ⟨v1, rfl, _⟩ := h
  kernel_rfl
theorem op106 : Opn Tryz.prog 106 rd106 wf106 := by
  intro T enc w fuel cs x h hw ρ H hr hF
  have hl := opn_len fa106_0 h (n := 2) ty106.sz.cells
  obtain ⟨ρ0, H0, av0, a0, r0, f0, u0, i0, v0, q0, w0⟩ := opn_field fa106_0 h hw (Opn.int (by kernel_rfl)) hr hF
  obtain ⟨ρ1, H1, av1, a1, r1, f1, u1, i1, v1, q1, w1⟩ := opn_field fa106_1 h hw (Opn.slice (s := 1) (by kernel_rfl) (by kernel_rfl) (by decide) (Nat.lt_of_lt_of_le (by decide) (Nat.le_of_eq (show 8 = _ from by kernel_rfl))) (Opn.int (by kernel_rfl))) r0 f0
  obtain rfl : av0 = (.int .i64 a0) := q0
  replace v0 := v0.up u1
  obtain ⟨sa1, sm1, rfl⟩ := RdS.len q1
  replace v1 := v1.one rfl
  have hv := RelVs.field (o := 0) v0 (RelVs.field (o := 1) v1 (RelVs.end hl))
  rw [List.drop_zero] at hv
  refine ⟨ρ1, H1, (.agg [(.int .i64 a0), (.slice sa1 a1.length sm1)].toArray : Value), ({ Rel := a0, Values := a1 } : Fact), r1, f1, (u0.trans u1), (i0.trans i1), ?_, ?_, w0, w1⟩
  · exact hv
  · exact ⟨⟨sa1, _, sm1⟩, rfl, q1⟩

/-! laws.szIntS -/
def l_szIntS (a_a : List Int) (a_left : Int) : Option (Int) :=
  if (decide (((IntKind.i64.wrap (a_left - (a_a.length : Int))) : Int) < 0)) then (
    some (-1))
  else (
    some (IntKind.i64.wrap (a_left - (a_a.length : Int))))
theorem l_szIntS_ok (a_a : List Int) (v0_0 : Sv) (a_left : Int) (R : Int) (hF : l_szIntS a_a a_left = some R) :
    Fw.Spec Tryz.prog 30 [v0_0.v, (.int .i64 a_left)] [crd (RdS 3 rdInt) v0_0.v a_a] (fun _ : Unit => (.int .i64 R)) (fun _ => []) := by
  refine Spec_enter (n := 12) Tryz.func30 rfl rfl (rs := [.tmp 4]) rfl rfl rfl ?_
  intro H0 F0
  unfold l_szIntS at hF
  refine K_region (C_val (V_assign (v := (.int .i64 0)) (.int _ _)) ?_)
  refine C_nil (K_region (Cm (.int .i64 a_left) rfl rfl ?_))
  refine Cm v0_0.v rfl rfl ?_
  refine C_at .h (fun hp => V_lenR (l := a_a.length) sl22 (.tmp rfl rfl) (crd_len hp)) ?_
  refine C_val (V_sub (i := a_left) (j := (a_a.length : Int)) (.tmp rfl rfl) (.tmp rfl rfl)) ?_
  refine Ca (.int .i64 (IntKind.i64.wrap (a_left - (a_a.length : Int)))) rfl rfl ?_
  refine C_nil (K_in (K_region (Cm (.int .i64 (IntKind.i64.wrap (a_left - (a_a.length : Int)))) rfl rfl ?_)))
  refine C_val (V_lss (i := (IntKind.i64.wrap (a_left - (a_a.length : Int)))) (j := 0) (.tmp rfl rfl) (.int _ _)) ?_
  refine C_nil (CW_cond (b := (decide (((IntKind.i64.wrap (a_left - (a_a.length : Int))) : Int) < 0))) (.tmp rfl rfl) (fun hb1 => ?_) (fun hb1 => ?_))
  · rw [if_pos hb1] at hF
    refine K_region (C_val (V_assign (v := (.int .i64 (-1))) (.int _ _)) ?_)
    refine C_nil (CW_ret ?_)
    obtain rfl := Option.some.inj hF
    exact End_ret () (.tmp rfl rfl .nil) rfl (.sel .nil)
  rw [if_neg (by rw [hb1]; exact Bool.false_ne_true)] at hF
  refine CW_skip (K_region (Cm (.int .i64 (IntKind.i64.wrap (a_left - (a_a.length : Int)))) rfl rfl ?_))
  refine Ca (.int .i64 (IntKind.i64.wrap (a_left - (a_a.length : Int)))) rfl rfl ?_
  refine C_nil (CW_ret ?_)
  obtain rfl := Option.some.inj hF
  exact End_ret () (.tmp rfl rfl .nil) rfl (.sel .nil)

/-! laws.szMethod -/
def l_szMethod (a_a : Method) (a_left : Int) : Option (Int) :=
  (l_szIntS a_a.Inputs a_left).bind fun r2 =>
  if (decide ((r2 : Int) < 0)) then (
    some (-1))
  else (
    some r2)
theorem l_szMethod_ok (a_a : Method) (v0_1 : Sv) (a_left : Int) (R : Int) (hF : l_szMethod a_a a_left = some R) :
    Fw.Spec Tryz.prog 62 [(.agg [(.int .i64 a_a.Rel), v0_1.v, (.int .i64 a_a.Limit), (.int .i64 a_a.Cost), (.int .i64 a_a.Quota)].toArray), (.int .i64 a_left)] [crd (RdS 3 rdInt) v0_1.v a_a.Inputs] (fun _ : Unit => (.int .i64 R)) (fun _ => []) := by
  refine Spec_enter (n := 12) Tryz.func62 rfl rfl (rs := [.tmp 4]) rfl rfl rfl ?_
  intro H0 F0
  unfold l_szMethod at hF
  refine K_region (C_newR rfl (N_box (g := false) (v := (.agg [(.int .i64 a_a.Rel), v0_1.v, (.int .i64 a_a.Limit), (.int .i64 a_a.Cost), (.int .i64 a_a.Quota)].toArray)) ty103.sz (.tmp rfl rfl) rfl) (fun k1 => ?_))
  refine C_val (V_assign (v := (.int .i64 0)) (.int _ _)) ?_
  refine C_nil (K_region (C_val (V_fieldAddr (off := 1) fd103_1 (.tmp rfl rfl)) ?_))
  refine C_at .h (fun hp => V_load (v := v0_1.v) ag22 (.tmp rfl rfl) hp.2 rfl rfl) ?_
  refine Cm (.int .i64 a_left) rfl rfl ?_
  obtain ⟨r2, hx3, hF⟩ := bind_some hF
  refine C_x0 (.rd (.t .h) rfl .nil) (X_callS cf30 (.cons (.tmp rfl rfl) (.cons (.tmp rfl rfl) .nil)) (l_szIntS_ok a_a.Inputs v0_1 a_left _ hx3)) (fun _ => ?_)
  refine Ca (.int .i64 r2) rfl rfl ?_
  refine C_nil (K_in (K_region (Cm (.int .i64 r2) rfl rfl ?_)))
  refine C_val (V_lss (i := r2) (j := 0) (.tmp rfl rfl) (.int _ _)) ?_
  refine C_nil (CW_cond (b := (decide ((r2 : Int) < 0))) (.tmp rfl rfl) (fun hb5 => ?_) (fun hb5 => ?_))
  · rw [if_pos hb5] at hF
    refine K_region (C_val (V_assign (v := (.int .i64 (-1))) (.int _ _)) ?_)
    refine C_nil (CW_ret ?_)
    obtain rfl := Option.some.inj hF
    exact End_ret () (.tmp rfl rfl .nil) rfl (.sel .nil)
  rw [if_neg (by rw [hb5]; exact Bool.false_ne_true)] at hF
  refine CW_skip (K_region (Cm (.int .i64 r2) rfl rfl ?_))
  refine Ca (.int .i64 r2) rfl rfl ?_
  refine C_nil (CW_ret ?_)
  obtain rfl := Option.some.inj hF
  exact End_ret () (.tmp rfl rfl .nil) rfl (.sel .nil)

/-! laws.szMethodS -/
def l_szMethodS_L1 : List Method → Nat → Int → Option (Int)
  | [], k5, c1 => some c1
  | x7 :: rest6, k5, c1 => (l_szMethod x7 c1).bind fun r17 =>
    if (decide ((r17 : Int) < 0)) then (
      some (-1))
    else (
      l_szMethodS_L1 rest6 (k5 + 1) r17)
def l_szMethodS (a_a : List Method) (a_left : Int) : Option (Int) :=
  if (decide (((IntKind.i64.wrap (a_left - (a_a.length : Int))) : Int) < 0)) then (
    some (-1))
  else (
    l_szMethodS_L1 a_a 0 (IntKind.i64.wrap (a_left - (a_a.length : Int))))
theorem l_szMethodS_ok (a_a : List Method) (v0_0 : Sv) (a_left : Int) (R : Int) (hF : l_szMethodS a_a a_left = some R) :
    Fw.Spec Tryz.prog 15 [v0_0.v, (.int .i64 a_left)] [crd (RdS 103 rd103) v0_0.v a_a] (fun _ : Unit => (.int .i64 R)) (fun _ => []) := by
  refine Spec_enter (n := 27) Tryz.func15 rfl rfl (rs := [.tmp 4]) rfl rfl rfl ?_
  intro H0 F0
  unfold l_szMethodS at hF
  refine K_region (C_val (V_assign (v := (.int .i64 0)) (.int _ _)) ?_)
  refine C_nil (K_region (Cm (.int .i64 a_left) rfl rfl ?_))
  refine Cm v0_0.v rfl rfl ?_
  refine C_at .h (fun hp => V_lenR (l := a_a.length) sl23 (.tmp rfl rfl) (crd_len hp)) ?_
  refine C_val (V_sub (i := a_left) (j := (a_a.length : Int)) (.tmp rfl rfl) (.tmp rfl rfl)) ?_
  refine Ca (.int .i64 (IntKind.i64.wrap (a_left - (a_a.length : Int)))) rfl rfl ?_
  refine C_nil (K_in (K_region (Cm (.int .i64 (IntKind.i64.wrap (a_left - (a_a.length : Int)))) rfl rfl ?_)))
  refine C_val (V_lss (i := (IntKind.i64.wrap (a_left - (a_a.length : Int)))) (j := 0) (.tmp rfl rfl) (.int _ _)) ?_
  refine C_nil (CW_cond (b := (decide (((IntKind.i64.wrap (a_left - (a_a.length : Int))) : Int) < 0))) (.tmp rfl rfl) (fun hb22 => ?_) (fun hb22 => ?_))
  · rw [if_pos hb22] at hF
    refine K_region (C_val (V_assign (v := (.int .i64 (-1))) (.int _ _)) ?_)
    refine C_nil (CW_ret ?_)
    obtain rfl := Option.some.inj hF
    exact End_ret () (.tmp rfl rfl .nil) rfl (.sel .nil)
  rw [if_neg (by rw [hb22]; exact Bool.false_ne_true)] at hF
  refine CW_skip (K_in (K_region (C_val (V_assign (v := (.int .i64 0)) (.int _ _)) ?_)))
  refine C_nil (CW_block (CW_loop (m := a_a.length) (fun m3 f' cs' => ∃ (g : Fr) (k5 : Nat) (rest6 : List Method) (c1 : Int), m3 = rest6.length ∧ f' = updL g [(0, v0_0.v), (1, (.int .i64 c1)), (5, (.int .i64 (k5 : Int)))] ∧ List.drop k5 a_a = rest6 ∧ Ent cs' [crd (RdS 103 rd103) v0_0.v a_a] ∧ l_szMethodS_L1 rest6 k5 c1 = some R) ⟨_, 0, _, _, rfl, (EqL.cons rfl (EqL.cons rfl (EqL.cons rfl (EqL.nil)))).eq, rfl, (.sel (.rd .h rfl .nil)), hF⟩ ?_))
  clear hF
  rintro m3 _ _ ⟨g4, k5, rest6, c1, rfl, rfl, hd8, hE, hF⟩
  refine K_ent hE ?_
  clear hE
  refine K_pure (c := crd (RdS 103 rd103) v0_0.v a_a) .h crd_bound (fun hbd13 => ?_)
  rcases rest6 with _ | ⟨x7, rest6⟩
  · have hk9 := List.drop_eq_nil_iff.1 hd8
    have hfe12 : (decide (((k5 : Int) : Int) < (a_a.length : Int))) = false := decide_eq_false (by omega)
    rw [l_szMethodS_L1] at hF
    refine K_in (K_region (Cm (.int .i64 (k5 : Int)) rfl rfl ?_))
    refine Cm v0_0.v rfl rfl ?_
    refine C_at .h (fun hp => V_lenR (l := a_a.length) sl23 (.tmp rfl rfl) (crd_len hp)) ?_
    refine C_val (V_lss (i := (k5 : Int)) (j := (a_a.length : Int)) (.tmp rfl rfl) (.tmp rfl rfl)) ?_
    refine C_nil (CW_cond (b := (decide (((k5 : Int) : Int) < (a_a.length : Int)))) (.tmp rfl rfl) (fun hb => absurd (hfe12.symm.trans hb) (by decide)) (fun _ => ?_))
    refine CW_exit ?_
    iterate 2 refine CThen_exit ?_
    refine CIn_self (K_region (Cm (.int .i64 c1) rfl rfl ?_))
    refine Ca (.int .i64 c1) rfl rfl ?_
    refine C_nil (CW_ret ?_)
    obtain rfl := Option.some.inj hF
    exact End_ret () (.tmp rfl rfl .nil) rfl (.sel .nil)
  obtain ⟨hk9, hx10, hd11⟩ := drop_cons hd8
  have hfe12 : (decide (((k5 : Int) : Int) < (a_a.length : Int))) = true := decide_eq_true (by omega)
  rw [l_szMethodS_L1] at hF
  refine K_in (K_region (Cm (.int .i64 (k5 : Int)) rfl rfl ?_))
  refine Cm v0_0.v rfl rfl ?_
  refine C_at .h (fun hp => V_lenR (l := a_a.length) sl23 (.tmp rfl rfl) (crd_len hp)) ?_
  refine C_val (V_lss (i := (k5 : Int)) (j := (a_a.length : Int)) (.tmp rfl rfl) (.tmp rfl rfl)) ?_
  refine C_nil (CW_cond (b := (decide (((k5 : Int) : Int) < (a_a.length : Int)))) (.tmp rfl rfl) (fun _ => ?_) (fun hb => absurd (hfe12.symm.trans hb) (by decide)))
  refine CW_skip (K_block (K_region (Cm v0_0.v rfl rfl ?_)))
  refine Cm (.int .i64 (k5 : Int)) rfl rfl ?_
  refine C_idx (a := x7) sl23 ty103.sz (.tmp rfl rfl) (.tmp rfl rfl) .h (Int.natCast_nonneg k5) hx10 (fun k14 j15 => ?_)
  refine C_ldA1 (ul103_0_103 x7) ag103 ty103.sz rfl (.tmp rfl rfl) .h la103_0_103 (fun p16 => ?_)
  refine Cm (.int .i64 c1) rfl rfl ?_
  obtain ⟨r17, hx18, hF⟩ := bind_some hF
  refine C_x0 (.rd .h rfl .nil) (X_callS cf62 (.cons (.tmp rfl rfl) (.cons (.tmp rfl rfl) .nil)) (l_szMethod_ok x7 p16 c1 _ hx18)) (fun _ => ?_)
  refine Ca (.int .i64 r17) rfl rfl ?_
  refine C_nil (K_region (Cm (.int .i64 r17) rfl rfl ?_))
  refine C_val (V_lss (i := r17) (j := 0) (.tmp rfl rfl) (.int _ _)) ?_
  refine C_nil (CW_cond (b := (decide ((r17 : Int) < 0))) (.tmp rfl rfl) (fun hb21 => ?_) (fun hb21 => ?_))
  · rw [if_pos hb21] at hF
    refine K_region (C_val (V_assign (v := (.int .i64 (-1))) (.int _ _)) ?_)
    refine C_nil (CW_ret ?_)
    obtain rfl := Option.some.inj hF
    exact End_ret () (.tmp rfl rfl .nil) rfl (.sel .nil)
  rw [if_neg (by rw [hb21]; exact Bool.false_ne_true)] at hF
  refine CW_skip (CW_region (Cm (.int .i64 (k5 : Int)) rfl rfl ?_))
  refine C_val (V_add (i := (k5 : Int)) (j := 1) (.tmp rfl rfl) (.int _ _)) ?_
  refine Ca (.int .i64 (IntKind.i64.wrap ((k5 : Int) + 1))) rfl rfl ?_
  refine C_nil ?_
  have hw20 : IntKind.i64.wrap ((k5 : Int) + 1) = ((k5 + 1 : Nat) : Int) := by rw [wrap_in (by omega) (by omega)]; rfl
  rw [hw20]
  exact ⟨_, Nat.lt_succ_self _, _, k5 + 1, rest6, _, rfl, (EqL.cons rfl (EqL.cons rfl (EqL.cons rfl (EqL.nil)))).eq, hd11, (.sel (.rd (.t (.t .h)) rfl .nil)), hF⟩

/-! laws.szFact -/
def l_szFact (a_a : Fact) (a_left : Int) : Option (Int) :=
  (l_szIntS a_a.Values a_left).bind fun r2 =>
  if (decide ((r2 : Int) < 0)) then (
    some (-1))
  else (
    some r2)
theorem l_szFact_ok (a_a : Fact) (v0_1 : Sv) (a_left : Int) (R : Int) (hF : l_szFact a_a a_left = some R) :
    Fw.Spec Tryz.prog 63 [(.agg [(.int .i64 a_a.Rel), v0_1.v].toArray), (.int .i64 a_left)] [crd (RdS 3 rdInt) v0_1.v a_a.Values] (fun _ : Unit => (.int .i64 R)) (fun _ => []) := by
  refine Spec_enter (n := 12) Tryz.func63 rfl rfl (rs := [.tmp 4]) rfl rfl rfl ?_
  intro H0 F0
  unfold l_szFact at hF
  refine K_region (C_newR rfl (N_box (g := false) (v := (.agg [(.int .i64 a_a.Rel), v0_1.v].toArray)) ty106.sz (.tmp rfl rfl) rfl) (fun k1 => ?_))
  refine C_val (V_assign (v := (.int .i64 0)) (.int _ _)) ?_
  refine C_nil (K_region (C_val (V_fieldAddr (off := 1) fd106_1 (.tmp rfl rfl)) ?_))
  refine C_at .h (fun hp => V_load (v := v0_1.v) ag22 (.tmp rfl rfl) hp.2 rfl rfl) ?_
  refine Cm (.int .i64 a_left) rfl rfl ?_
  obtain ⟨r2, hx3, hF⟩ := bind_some hF
  refine C_x0 (.rd (.t .h) rfl .nil) (X_callS cf30 (.cons (.tmp rfl rfl) (.cons (.tmp rfl rfl) .nil)) (l_szIntS_ok a_a.Values v0_1 a_left _ hx3)) (fun _ => ?_)
  refine Ca (.int .i64 r2) rfl rfl ?_
  refine C_nil (K_in (K_region (Cm (.int .i64 r2) rfl rfl ?_)))
  refine C_val (V_lss (i := r2) (j := 0) (.tmp rfl rfl) (.int _ _)) ?_
  refine C_nil (CW_cond (b := (decide ((r2 : Int) < 0))) (.tmp rfl rfl) (fun hb5 => ?_) (fun hb5 => ?_))
  · rw [if_pos hb5] at hF
    refine K_region (C_val (V_assign (v := (.int .i64 (-1))) (.int _ _)) ?_)
    refine C_nil (CW_ret ?_)
    obtain rfl := Option.some.inj hF
    exact End_ret () (.tmp rfl rfl .nil) rfl (.sel .nil)
  rw [if_neg (by rw [hb5]; exact Bool.false_ne_true)] at hF
  refine CW_skip (K_region (Cm (.int .i64 r2) rfl rfl ?_))
  refine Ca (.int .i64 r2) rfl rfl ?_
  refine C_nil (CW_ret ?_)
  obtain rfl := Option.some.inj hF
  exact End_ret () (.tmp rfl rfl .nil) rfl (.sel .nil)

/-! laws.szFactS -/
def l_szFactS_L1 : List Fact → Nat → Int → Option (Int)
  | [], k5, c1 => some c1
  | x7 :: rest6, k5, c1 => (l_szFact x7 c1).bind fun r17 =>
    if (decide ((r17 : Int) < 0)) then (
      some (-1))
    else (
      l_szFactS_L1 rest6 (k5 + 1) r17)
def l_szFactS (a_a : List Fact) (a_left : Int) : Option (Int) :=
  if (decide (((IntKind.i64.wrap (a_left - (a_a.length : Int))) : Int) < 0)) then (
    some (-1))
  else (
    l_szFactS_L1 a_a 0 (IntKind.i64.wrap (a_left - (a_a.length : Int))))
theorem l_szFactS_ok (a_a : List Fact) (v0_0 : Sv) (a_left : Int) (R : Int) (hF : l_szFactS a_a a_left = some R) :
    Fw.Spec Tryz.prog 16 [v0_0.v, (.int .i64 a_left)] [crd (RdS 106 rd106) v0_0.v a_a] (fun _ : Unit => (.int .i64 R)) (fun _ => []) := by
  refine Spec_enter (n := 27) Tryz.func16 rfl rfl (rs := [.tmp 4]) rfl rfl rfl ?_
  intro H0 F0
  unfold l_szFactS at hF
  refine K_region (C_val (V_assign (v := (.int .i64 0)) (.int _ _)) ?_)
  refine C_nil (K_region (Cm (.int .i64 a_left) rfl rfl ?_))
  refine Cm v0_0.v rfl rfl ?_
  refine C_at .h (fun hp => V_lenR (l := a_a.length) sl25 (.tmp rfl rfl) (crd_len hp)) ?_
  refine C_val (V_sub (i := a_left) (j := (a_a.length : Int)) (.tmp rfl rfl) (.tmp rfl rfl)) ?_
  refine Ca (.int .i64 (IntKind.i64.wrap (a_left - (a_a.length : Int)))) rfl rfl ?_
  refine C_nil (K_in (K_region (Cm (.int .i64 (IntKind.i64.wrap (a_left - (a_a.length : Int)))) rfl rfl ?_)))
  refine C_val (V_lss (i := (IntKind.i64.wrap (a_left - (a_a.length : Int)))) (j := 0) (.tmp rfl rfl) (.int _ _)) ?_
  refine C_nil (CW_cond (b := (decide (((IntKind.i64.wrap (a_left - (a_a.length : Int))) : Int) < 0))) (.tmp rfl rfl) (fun hb22 => ?_) (fun hb22 => ?_))
  · rw [if_pos hb22] at hF
    refine K_region (C_val (V_assign (v := (.int .i64 (-1))) (.int _ _)) ?_)
    refine C_nil (CW_ret ?_)
    obtain rfl := Option.some.inj hF
    exact End_ret () (.tmp rfl rfl .nil) rfl (.sel .nil)
  rw [if_neg (by rw [hb22]; exact Bool.false_ne_true)] at hF
  refine CW_skip (K_in (K_region (C_val (V_assign (v := (.int .i64 0)) (.int _ _)) ?_)))
  refine C_nil (CW_block (CW_loop (m := a_a.length) (fun m3 f' cs' => ∃ (g : Fr) (k5 : Nat) (rest6 : List Fact) (c1 : Int), m3 = rest6.length ∧ f' = updL g [(0, v0_0.v), (1, (.int .i64 c1)), (5, (.int .i64 (k5 : Int)))] ∧ List.drop k5 a_a = rest6 ∧ Ent cs' [crd (RdS 106 rd106) v0_0.v a_a] ∧ l_szFactS_L1 rest6 k5 c1 = some R) ⟨_, 0, _, _, rfl, (EqL.cons rfl (EqL.cons rfl (EqL.cons rfl (EqL.nil)))).eq, rfl, (.sel (.rd .h rfl .nil)), hF⟩ ?_))
  clear hF
  rintro m3 _ _ ⟨g4, k5, rest6, c1, rfl, rfl, hd8, hE, hF⟩
  refine K_ent hE ?_
  clear hE
  refine K_pure (c := crd (RdS 106 rd106) v0_0.v a_a) .h crd_bound (fun hbd13 => ?_)
  rcases rest6 with _ | ⟨x7, rest6⟩
  · have hk9 := List.drop_eq_nil_iff.1 hd8
    have hfe12 : (decide (((k5 : Int) : Int) < (a_a.length : Int))) = false := decide_eq_false (by omega)
    rw [l_szFactS_L1] at hF
    refine K_in (K_region (Cm (.int .i64 (k5 : Int)) rfl rfl ?_))
    refine Cm v0_0.v rfl rfl ?_
    refine C_at .h (fun hp => V_lenR (l := a_a.length) sl25 (.tmp rfl rfl) (crd_len hp)) ?_
    refine C_val (V_lss (i := (k5 : Int)) (j := (a_a.length : Int)) (.tmp rfl rfl) (.tmp rfl rfl)) ?_
    refine C_nil (CW_cond (b := (decide (((k5 : Int) : Int) < (a_a.length : Int)))) (.tmp rfl rfl) (fun hb => absurd (hfe12.symm.trans hb) (by decide)) (fun _ => ?_))
    refine CW_exit ?_
    iterate 2 refine CThen_exit ?_
    refine CIn_self (K_region (Cm (.int .i64 c1) rfl rfl ?_))
    refine Ca (.int .i64 c1) rfl rfl ?_
    refine C_nil (CW_ret ?_)
    obtain rfl := Option.some.inj hF
    exact End_ret () (.tmp rfl rfl .nil) rfl (.sel .nil)
  obtain ⟨hk9, hx10, hd11⟩ := drop_cons hd8
  have hfe12 : (decide (((k5 : Int) : Int) < (a_a.length : Int))) = true := decide_eq_true (by omega)
  rw [l_szFactS_L1] at hF
  refine K_in (K_region (Cm (.int .i64 (k5 : Int)) rfl rfl ?_))
  refine Cm v0_0.v rfl rfl ?_
  refine C_at .h (fun hp => V_lenR (l := a_a.length) sl25 (.tmp rfl rfl) (crd_len hp)) ?_
  refine C_val (V_lss (i := (k5 : Int)) (j := (a_a.length : Int)) (.tmp rfl rfl) (.tmp rfl rfl)) ?_
  refine C_nil (CW_cond (b := (decide (((k5 : Int) : Int) < (a_a.length : Int)))) (.tmp rfl rfl) (fun _ => ?_) (fun hb => absurd (hfe12.symm.trans hb) (by decide)))
  refine CW_skip (K_block (K_region (Cm v0_0.v rfl rfl ?_)))
  refine Cm (.int .i64 (k5 : Int)) rfl rfl ?_
  refine C_idx (a := x7) sl25 ty106.sz (.tmp rfl rfl) (.tmp rfl rfl) .h (Int.natCast_nonneg k5) hx10 (fun k14 j15 => ?_)
  refine C_ldA1 (ul106_0_106 x7) ag106 ty106.sz rfl (.tmp rfl rfl) .h la106_0_106 (fun p16 => ?_)
  refine Cm (.int .i64 c1) rfl rfl ?_
  obtain ⟨r17, hx18, hF⟩ := bind_some hF
  refine C_x0 (.rd .h rfl .nil) (X_callS cf63 (.cons (.tmp rfl rfl) (.cons (.tmp rfl rfl) .nil)) (l_szFact_ok x7 p16 c1 _ hx18)) (fun _ => ?_)
  refine Ca (.int .i64 r17) rfl rfl ?_
  refine C_nil (K_region (Cm (.int .i64 r17) rfl rfl ?_))
  refine C_val (V_lss (i := r17) (j := 0) (.tmp rfl rfl) (.int _ _)) ?_
  refine C_nil (CW_cond (b := (decide ((r17 : Int) < 0))) (.tmp rfl rfl) (fun hb21 => ?_) (fun hb21 => ?_))
  · rw [if_pos hb21] at hF
    refine K_region (C_val (V_assign (v := (.int .i64 (-1))) (.int _ _)) ?_)
    refine C_nil (CW_ret ?_)
    obtain rfl := Option.some.inj hF
    exact End_ret () (.tmp rfl rfl .nil) rfl (.sel .nil)
  rw [if_neg (by rw [hb21]; exact Bool.false_ne_true)] at hF
  refine CW_skip (CW_region (Cm (.int .i64 (k5 : Int)) rfl rfl ?_))
  refine C_val (V_add (i := (k5 : Int)) (j := 1) (.tmp rfl rfl) (.int _ _)) ?_
  refine Ca (.int .i64 (IntKind.i64.wrap ((k5 : Int) + 1))) rfl rfl ?_
  refine C_nil ?_
  have hw20 : IntKind.i64.wrap ((k5 : Int) + 1) = ((k5 + 1 : Nat) : Int) := by rw [wrap_in (by omega) (by omega)]; rfl
  rw [hw20]
  exact ⟨_, Nat.lt_succ_self _, _, k5 + 1, rest6, _, rfl, (EqL.cons rfl (EqL.cons rfl (EqL.cons rfl (EqL.nil)))).eq, hd11, (.sel (.rd (.t (.t .h)) rfl .nil)), hF⟩

/-! laws.toIntS -/
def l_toIntS_L1 : List Int → Nat → (List Int) → Option ((List Int))
  | [], k32, c27 => some c27
  | x34 :: rest33, k32, c27 => (chk (decide (0 ≤ (k32 : Int)) && decide ((k32 : Int) < (c27.length : Int)))).bind fun u46 =>
    (some (c27.set ((k32 : Int)).toNat x34)).bind fun z48 =>
    l_toIntS_L1 rest33 (k32 + 1) z48
def l_toIntS (a_a : List Int) : Option ((List Int)) :=
  (mkz (a_a.length : Int) (0 : Int)).bind fun z1 =>
  l_toIntS_L1 a_a 0 z1
theorem l_toIntS_ok (a_a : List Int) (v0_0 : Sv) (R : (List Int)) (hF : l_toIntS a_a = some R) :
    Fw.Spec Tryz.prog 18 [v0_0.v] [crd (RdS 3 rdInt) v0_0.v a_a] (fun p : Sv × List Nat => p.1.v) (fun p => [cown (OwnS 3 (roE rdInt)) p.2 p.1.v R]) := by
  refine Spec_enter (n := 22) Tryz.func18 rfl rfl (rs := [.tmp 2]) rfl rfl rfl ?_
  intro H0 F0
  unfold l_toIntS at hF
  refine K_region (C_val (V_assign (v := (.slice none 0 0)) EV.nilSlice) ?_)
  refine C_nil (K_region (Cm v0_0.v rfl rfl ?_))
  refine C_at .h (fun hp => V_lenR (l := a_a.length) sl22 (.tmp rfl rfl) (crd_len hp)) ?_
  obtain ⟨z1, hx2, hF⟩ := bind_some hF
  have hm3 := mkz_some hx2
  refine C_new rfl (N_makeSlice (g := true) (c := (a_a.length : Int)) sl22 ty3 rfl rfl (by decide) (.tmp rfl rfl) hm3.2.1 hm3.2.2) (fun k4 => ?_)
  refine C_conv (.cons .h .nil) (own_make (Ro := (roE rdInt)) (E := 3) (a := (0 : Int)) hx2 (fun _ => ⟨rfl, rfl⟩)) apps ?_
  refine Ca (.slice (some ⟨k4, 0, none⟩) (a_a.length : Int).toNat 1) rfl rfl ?_
  refine C_nil (K_in (K_region (C_val (V_assign (v := (.int .i64 0)) (.int _ _)) ?_)))
  refine C_nil (CW_block (CW_loop (m := a_a.length) (fun m30 f' cs' => ∃ (g : Fr) (k32 : Nat) (rest33 : List Int) (c27 : List Int) (F28 : List Nat), m30 = rest33.length ∧ f' = updL g [(0, v0_0.v), (3, (.slice (some ⟨k4, 0, none⟩) (a_a.length : Int).toNat 1)), (4, (.int .i64 (k32 : Int)))] ∧ List.drop k32 a_a = rest33 ∧ Ent cs' [crd (RdS 3 rdInt) v0_0.v a_a, cown (OwnS 3 (roE rdInt)) F28 (.slice (some ⟨k4, 0, none⟩) (a_a.length : Int).toNat 1) c27] ∧ l_toIntS_L1 rest33 k32 c27 = some R) ⟨_, 0, _, _, [k4], rfl, (EqL.cons rfl (EqL.cons rfl (EqL.cons rfl (EqL.nil)))).eq, rfl, (.sel (.rd (.t .h) rfl (.cons .h .nil))), hF⟩ ?_))
  clear hF
  rintro m30 _ _ ⟨g31, k32, rest33, c27, F28, rfl, rfl, hd35, hE, hF⟩
  refine K_ent hE ?_
  clear hE
  refine K_pure (c := crd (RdS 3 rdInt) v0_0.v a_a) .h crd_bound (fun hbd40 => ?_)
  rcases rest33 with _ | ⟨x34, rest33⟩
  · have hk36 := List.drop_eq_nil_iff.1 hd35
    have hfe39 : (decide (((k32 : Int) : Int) < (a_a.length : Int))) = false := decide_eq_false (by omega)
    rw [l_toIntS_L1] at hF
    refine K_in (K_region (Cm (.int .i64 (k32 : Int)) rfl rfl ?_))
    refine Cm v0_0.v rfl rfl ?_
    refine C_at .h (fun hp => V_lenR (l := a_a.length) sl22 (.tmp rfl rfl) (crd_len hp)) ?_
    refine C_val (V_lss (i := (k32 : Int)) (j := (a_a.length : Int)) (.tmp rfl rfl) (.tmp rfl rfl)) ?_
    refine C_nil (CW_cond (b := (decide (((k32 : Int) : Int) < (a_a.length : Int)))) (.tmp rfl rfl) (fun hb => absurd (hfe39.symm.trans hb) (by decide)) (fun _ => ?_))
    refine CW_exit ?_
    iterate 2 refine CThen_exit ?_
    refine CIn_self (K_region (Cm (.slice (some ⟨k4, 0, none⟩) (a_a.length : Int).toNat 1) rfl rfl ?_))
    refine Ca (.slice (some ⟨k4, 0, none⟩) (a_a.length : Int).toNat 1) rfl rfl ?_
    refine C_nil (CW_ret ?_)
    obtain rfl := Option.some.inj hF
    exact End_ret (⟨(some ⟨k4, 0, none⟩), (a_a.length : Int).toNat, 1⟩, F28) (.tmp rfl rfl .nil) rfl (.sel (.cons (.t .h) .nil))
  obtain ⟨hk36, hx37, hd38⟩ := drop_cons hd35
  have hfe39 : (decide (((k32 : Int) : Int) < (a_a.length : Int))) = true := decide_eq_true (by omega)
  rw [l_toIntS_L1] at hF
  refine K_in (K_region (Cm (.int .i64 (k32 : Int)) rfl rfl ?_))
  refine Cm v0_0.v rfl rfl ?_
  refine C_at .h (fun hp => V_lenR (l := a_a.length) sl22 (.tmp rfl rfl) (crd_len hp)) ?_
  refine C_val (V_lss (i := (k32 : Int)) (j := (a_a.length : Int)) (.tmp rfl rfl) (.tmp rfl rfl)) ?_
  refine C_nil (CW_cond (b := (decide (((k32 : Int) : Int) < (a_a.length : Int)))) (.tmp rfl rfl) (fun _ => ?_) (fun hb => absurd (hfe39.symm.trans hb) (by decide)))
  refine CW_skip (K_block (CW_region (Cm (.slice (some ⟨k4, 0, none⟩) (a_a.length : Int).toNat 1) rfl rfl ?_)))
  refine Cm (.int .i64 (k32 : Int)) rfl rfl ?_
  refine Cm v0_0.v rfl rfl ?_
  refine Cm (.int .i64 (k32 : Int)) rfl rfl ?_
  refine C_idx (a := x34) sl22 ty3.sz (.tmp rfl rfl) (.tmp rfl rfl) .h (Int.natCast_nonneg k32) hx37 (fun k41 j42 => ?_)
  refine C_ldS (w := (.int .i64 x34)) ag3 (.tmp rfl rfl) .h ls3_0 ?_
  obtain ⟨u46, hx47, hF⟩ := bind_some hF
  have hi45 := chk_some hx47
  refine C_idxO sl22 ty3.sz (.tmp rfl rfl) (.tmp rfl rfl) (.t (.t .h)) hi45 (fun k43 hk44 => ?_)
  obtain ⟨z48, hx49, hF⟩ := bind_some hF
  replace hx49 := Option.some.inj hx49
  refine C_x1 (.cons (.t (.t .h)) .nil) (X_storeO (Ro := (roE rdInt)) (a := x34) (i := (k32 : Int)) ty3.sz rfl (.tmp rfl rfl) (.tmp rfl rfl) hk44 hi45 (Mk_pure (fun _ => rfl)) (fun _ _ _ _ h => by obtain ⟨-, h⟩ := h; cases h; rfl)) (fun F50 => ?_)
  rw [hx49]
  refine C_nil (CW_region (Cm (.int .i64 (k32 : Int)) rfl rfl ?_))
  refine C_val (V_add (i := (k32 : Int)) (j := 1) (.tmp rfl rfl) (.int _ _)) ?_
  refine Ca (.int .i64 (IntKind.i64.wrap ((k32 : Int) + 1))) rfl rfl ?_
  refine C_nil ?_
  have hw51 : IntKind.i64.wrap ((k32 : Int) + 1) = ((k32 + 1 : Nat) : Int) := by rw [wrap_in (by omega) (by omega)]; rfl
  rw [hw51]
  exact ⟨_, Nat.lt_succ_self _, _, k32 + 1, rest33, _, F50, rfl, (EqL.cons rfl (EqL.cons rfl (EqL.cons rfl (EqL.nil)))).eq, hd38, (.sel (.rd (.t (.t .h)) rfl (.cons .h .nil))), hF⟩

/-! laws.toMethod -/
def l_toMethod (a_a : Method) : Option (Method) :=
  (l_toIntS a_a.Inputs).bind fun r4 =>
  some ({ Rel := a_a.Rel, Inputs := r4, Limit := a_a.Limit, Cost := a_a.Cost, Quota := a_a.Quota } : Method)
theorem l_toMethod_ok (a_a : Method) (v0_1 : Sv) (R : Method) (hF : l_toMethod a_a = some R) :
    Fw.Spec Tryz.prog 67 [(.agg [(.int .i64 a_a.Rel), v0_1.v, (.int .i64 a_a.Limit), (.int .i64 a_a.Cost), (.int .i64 a_a.Quota)].toArray)] [crd (RdS 3 rdInt) v0_1.v a_a.Inputs] (fun p : Sv × List Nat => (.agg [(.int .i64 R.Rel), p.1.v, (.int .i64 R.Limit), (.int .i64 R.Cost), (.int .i64 R.Quota)].toArray)) (fun p => [cown (OwnS 3 (roE rdInt)) p.2 p.1.v R.Inputs]) := by
  refine Spec_enter (n := 21) Tryz.func67 rfl rfl (rs := [.cell 2 112]) rfl rfl rfl ?_
  intro H0 F0
  unfold l_toMethod at hF
  refine K_region (C_newR rfl (N_box (g := false) (v := (.agg [(.int .i64 a_a.Rel), v0_1.v, (.int .i64 a_a.Limit), (.int .i64 a_a.Cost), (.int .i64 a_a.Quota)].toArray)) ty103.sz (.tmp rfl rfl) rfl) (fun k1 => ?_))
  refine C_new rfl (N_allocT (g := true) ty112 rfl rfl) (fun k2 => ?_)
  refine C_nil (K_region (C_new rfl (N_allocT (g := true) ty112 rfl rfl) (fun k3 => ?_)))
  refine C_nil (K_region (C_val (V_fieldAddr (off := 0) fd103_0 (.tmp rfl rfl)) ?_))
  refine C_at (.t (.t .h)) (fun hp => V_load (v := (.int .i64 a_a.Rel)) ag3 (.tmp rfl rfl) hp.2 rfl rfl) ?_
  refine C_val (V_fieldAddr (off := 0) fd112_0 (.tmp rfl rfl)) ?_
  refine C_x1 (.cons .h .nil) (X_storeB (e' := (.agg [(.int .i64 a_a.Rel), (.slice none 0 0), (.int .i64 0), (.int .i64 0), (.int .i64 0)].toArray)) (v := (.int .i64 a_a.Rel)) ty3.sz (.tmp rfl rfl) (.tmp rfl rfl) rfl rfl rfl rfl rfl) (fun _ => ?_)
  refine C_nil (K_region (C_val (V_fieldAddr (off := 1) fd103_1 (.tmp rfl rfl)) ?_))
  refine C_at (.t (.t .h)) (fun hp => V_load (v := v0_1.v) ag22 (.tmp rfl rfl) hp.2 rfl rfl) ?_
  obtain ⟨r4, hx5, hF⟩ := bind_some hF
  refine C_x1 (.rd (.t (.t (.t .h))) rfl .nil) (X_callS cf18 (.cons (.tmp rfl rfl) .nil) (l_toIntS_ok a_a.Inputs v0_1 _ hx5)) (fun p6 => ?_)
  refine C_val (V_fieldAddr (off := 1) fd112_1 (.tmp rfl rfl)) ?_
  refine C_x1 (.cons (.t .h) .nil) (X_storeB (e' := (.agg [(.int .i64 a_a.Rel), p6.1.v, (.int .i64 0), (.int .i64 0), (.int .i64 0)].toArray)) ty22.sz (.tmp rfl rfl) (.tmp rfl rfl) rfl rfl rfl rfl rfl) (fun _ => ?_)
  refine C_nil (K_region (C_val (V_fieldAddr (off := 2) fd103_2 (.tmp rfl rfl)) ?_))
  refine C_at (.t (.t (.t .h))) (fun hp => V_load (v := (.int .i64 a_a.Limit)) ag3 (.tmp rfl rfl) hp.2 rfl rfl) ?_
  refine C_val (V_fieldAddr (off := 2) fd112_2 (.tmp rfl rfl)) ?_
  refine C_x1 (.cons .h .nil) (X_storeB (e' := (.agg [(.int .i64 a_a.Rel), p6.1.v, (.int .i64 a_a.Limit), (.int .i64 0), (.int .i64 0)].toArray)) (v := (.int .i64 a_a.Limit)) ty3.sz (.tmp rfl rfl) (.tmp rfl rfl) rfl rfl rfl rfl rfl) (fun _ => ?_)
  refine C_nil (K_region (C_val (V_fieldAddr (off := 3) fd103_3 (.tmp rfl rfl)) ?_))
  refine C_at (.t (.t (.t .h))) (fun hp => V_load (v := (.int .i64 a_a.Cost)) ag3 (.tmp rfl rfl) hp.2 rfl rfl) ?_
  refine C_val (V_fieldAddr (off := 3) fd112_3 (.tmp rfl rfl)) ?_
  refine C_x1 (.cons .h .nil) (X_storeB (e' := (.agg [(.int .i64 a_a.Rel), p6.1.v, (.int .i64 a_a.Limit), (.int .i64 a_a.Cost), (.int .i64 0)].toArray)) (v := (.int .i64 a_a.Cost)) ty3.sz (.tmp rfl rfl) (.tmp rfl rfl) rfl rfl rfl rfl rfl) (fun _ => ?_)
  refine C_nil (K_region (C_val (V_fieldAddr (off := 4) fd103_4 (.tmp rfl rfl)) ?_))
  refine C_at (.t (.t (.t .h))) (fun hp => V_load (v := (.int .i64 a_a.Quota)) ag3 (.tmp rfl rfl) hp.2 rfl rfl) ?_
  refine C_val (V_fieldAddr (off := 4) fd112_4 (.tmp rfl rfl)) ?_
  refine C_x1 (.cons .h .nil) (X_storeB (e' := (.agg [(.int .i64 a_a.Rel), p6.1.v, (.int .i64 a_a.Limit), (.int .i64 a_a.Cost), (.int .i64 a_a.Quota)].toArray)) (v := (.int .i64 a_a.Quota)) ty3.sz (.tmp rfl rfl) (.tmp rfl rfl) rfl rfl rfl rfl rfl) (fun _ => ?_)
  refine C_nil (K_region (C_at .h (fun hp => V_loadBox ag112 ty112.sz rfl (.tmp rfl rfl) hp.2 rfl) ?_))
  refine C_x1 (.cons (.t (.t .h)) .nil) (X_storeB (e' := (.agg [(.int .i64 a_a.Rel), p6.1.v, (.int .i64 a_a.Limit), (.int .i64 a_a.Cost), (.int .i64 a_a.Quota)].toArray)) (v := (.agg [(.int .i64 a_a.Rel), p6.1.v, (.int .i64 a_a.Limit), (.int .i64 a_a.Cost), (.int .i64 a_a.Quota)].toArray)) ty112.sz (.tmp rfl rfl) (.tmp rfl rfl) rfl rfl rfl rfl rfl) (fun _ => ?_)
  refine C_nil (CW_ret ?_)
  obtain rfl := Option.some.inj hF
  exact End_ret (p6.1, p6.2) (.cellA rfl rfl .h rfl ag112 ty112.sz rfl rfl .nil) rfl (.sel (.cons (.t (.t .h)) .nil))

/-! laws.toMethodS -/
def l_toMethodS_L1 : List Method → Nat → (List Method) → Option ((List Method))
  | [], k36, c31 => some c31
  | x38 :: rest37, k36, c31 => (l_toMethod x38).bind fun r48 =>
    (chk (decide (0 ≤ (k36 : Int)) && decide ((k36 : Int) < (c31.length : Int)))).bind fun u54 =>
    (some (c31.set ((k36 : Int)).toNat r48)).bind fun z56 =>
    l_toMethodS_L1 rest37 (k36 + 1) z56
def l_toMethodS (a_a : List Method) : Option ((List Method)) :=
  (mkz (a_a.length : Int) (({ Rel := 0, Inputs := [], Limit := 0, Cost := 0, Quota := 0 } : Method) : Method)).bind fun z1 =>
  l_toMethodS_L1 a_a 0 z1
theorem l_toMethodS_ok (a_a : List Method) (v0_0 : Sv) (R : (List Method)) (hF : l_toMethodS a_a = some R) :
    Fw.Spec Tryz.prog 19 [v0_0.v] [crd (RdS 103 rd103) v0_0.v a_a] (fun p : Sv × List Nat => p.1.v) (fun p => [cown (OwnS 112 ow112) p.2 p.1.v R]) := by
  refine Spec_enter (n := 23) Tryz.func19 rfl rfl (rs := [.tmp 2]) rfl rfl rfl ?_
  intro H0 F0
  unfold l_toMethodS at hF
  refine K_region (C_val (V_assign (v := (.slice none 0 0)) EV.nilSlice) ?_)
  refine C_nil (K_region (Cm v0_0.v rfl rfl ?_))
  refine C_at .h (fun hp => V_lenR (l := a_a.length) sl23 (.tmp rfl rfl) (crd_len hp)) ?_
  obtain ⟨z1, hx2, hF⟩ := bind_some hF
  have hm3 := mkz_some hx2
  refine C_new rfl (N_makeSlice (g := true) (c := (a_a.length : Int)) sl38 ty112 rfl rfl (by decide) (.tmp rfl rfl) hm3.2.1 hm3.2.2) (fun k4 => ?_)
  refine C_conv (.cons .h .nil) (own_make (Ro := ow112) (E := 112) (a := (({ Rel := 0, Inputs := [], Limit := 0, Cost := 0, Quota := 0 } : Method) : Method)) hx2 (fun _ => ⟨⟨none, 0, 0⟩, [], rfl, rfl, .inl ⟨rfl, rfl, rfl⟩⟩)) apps ?_
  refine Ca (.slice (some ⟨k4, 0, none⟩) (a_a.length : Int).toNat 1) rfl rfl ?_
  refine C_nil (K_in (K_region (C_val (V_assign (v := (.int .i64 0)) (.int _ _)) ?_)))
  refine C_nil (CW_block (CW_loop (m := a_a.length) (fun m34 f' cs' => ∃ (g : Fr) (k36 : Nat) (rest37 : List Method) (c31 : List Method) (F32 : List Nat), m34 = rest37.length ∧ f' = updL g [(0, v0_0.v), (3, (.slice (some ⟨k4, 0, none⟩) (a_a.length : Int).toNat 1)), (4, (.int .i64 (k36 : Int)))] ∧ List.drop k36 a_a = rest37 ∧ Ent cs' [crd (RdS 103 rd103) v0_0.v a_a, cown (OwnS 112 ow112) F32 (.slice (some ⟨k4, 0, none⟩) (a_a.length : Int).toNat 1) c31] ∧ l_toMethodS_L1 rest37 k36 c31 = some R) ⟨_, 0, _, _, [k4], rfl, (EqL.cons rfl (EqL.cons rfl (EqL.cons rfl (EqL.nil)))).eq, rfl, (.sel (.rd (.t .h) rfl (.cons .h .nil))), hF⟩ ?_))
  clear hF
  rintro m34 _ _ ⟨g35, k36, rest37, c31, F32, rfl, rfl, hd39, hE, hF⟩
  refine K_ent hE ?_
  clear hE
  refine K_pure (c := crd (RdS 103 rd103) v0_0.v a_a) .h crd_bound (fun hbd44 => ?_)
  rcases rest37 with _ | ⟨x38, rest37⟩
  · have hk40 := List.drop_eq_nil_iff.1 hd39
    have hfe43 : (decide (((k36 : Int) : Int) < (a_a.length : Int))) = false := decide_eq_false (by omega)
    rw [l_toMethodS_L1] at hF
    refine K_in (K_region (Cm (.int .i64 (k36 : Int)) rfl rfl ?_))
    refine Cm v0_0.v rfl rfl ?_
    refine C_at .h (fun hp => V_lenR (l := a_a.length) sl23 (.tmp rfl rfl) (crd_len hp)) ?_
    refine C_val (V_lss (i := (k36 : Int)) (j := (a_a.length : Int)) (.tmp rfl rfl) (.tmp rfl rfl)) ?_
    refine C_nil (CW_cond (b := (decide (((k36 : Int) : Int) < (a_a.length : Int)))) (.tmp rfl rfl) (fun hb => absurd (hfe43.symm.trans hb) (by decide)) (fun _ => ?_))
    refine CW_exit ?_
    iterate 2 refine CThen_exit ?_
    refine CIn_self (K_region (Cm (.slice (some ⟨k4, 0, none⟩) (a_a.length : Int).toNat 1) rfl rfl ?_))
    refine Ca (.slice (some ⟨k4, 0, none⟩) (a_a.length : Int).toNat 1) rfl rfl ?_
    refine C_nil (CW_ret ?_)
    obtain rfl := Option.some.inj hF
    exact End_ret (⟨(some ⟨k4, 0, none⟩), (a_a.length : Int).toNat, 1⟩, F32) (.tmp rfl rfl .nil) rfl (.sel (.cons (.t .h) .nil))
  obtain ⟨hk40, hx41, hd42⟩ := drop_cons hd39
  have hfe43 : (decide (((k36 : Int) : Int) < (a_a.length : Int))) = true := decide_eq_true (by omega)
  rw [l_toMethodS_L1] at hF
  refine K_in (K_region (Cm (.int .i64 (k36 : Int)) rfl rfl ?_))
  refine Cm v0_0.v rfl rfl ?_
  refine C_at .h (fun hp => V_lenR (l := a_a.length) sl23 (.tmp rfl rfl) (crd_len hp)) ?_
  refine C_val (V_lss (i := (k36 : Int)) (j := (a_a.length : Int)) (.tmp rfl rfl) (.tmp rfl rfl)) ?_
  refine C_nil (CW_cond (b := (decide (((k36 : Int) : Int) < (a_a.length : Int)))) (.tmp rfl rfl) (fun _ => ?_) (fun hb => absurd (hfe43.symm.trans hb) (by decide)))
  refine CW_skip (K_block (CW_region (Cm (.slice (some ⟨k4, 0, none⟩) (a_a.length : Int).toNat 1) rfl rfl ?_)))
  refine Cm (.int .i64 (k36 : Int)) rfl rfl ?_
  refine Cm v0_0.v rfl rfl ?_
  refine Cm (.int .i64 (k36 : Int)) rfl rfl ?_
  refine C_idx (a := x38) sl23 ty103.sz (.tmp rfl rfl) (.tmp rfl rfl) .h (Int.natCast_nonneg k36) hx41 (fun k45 j46 => ?_)
  refine C_ldA1 (ul103_0_103 x38) ag103 ty103.sz rfl (.tmp rfl rfl) .h la103_0_103 (fun p47 => ?_)
  obtain ⟨r48, hx49, hF⟩ := bind_some hF
  refine C_x1 (.rd .h rfl .nil) (X_callS cf67 (.cons (.tmp rfl rfl) .nil) (l_toMethod_ok x38 p47 _ hx49)) (fun p50 => ?_)
  obtain ⟨u54, hx55, hF⟩ := bind_some hF
  have hi53 := chk_some hx55
  refine C_idxO sl38 ty112.sz (.tmp rfl rfl) (.tmp rfl rfl) (.t (.t (.t (.t .h)))) hi53 (fun k51 hk52 => ?_)
  obtain ⟨z56, hx57, hF⟩ := bind_some hF
  replace hx57 := Option.some.inj hx57
  refine C_x1 (.cons (.t (.t (.t (.t .h)))) (.cons .h .nil)) (X_storeO (Ro := ow112) (a := r48) (i := (k36 : Int)) ty112.sz rfl (.tmp rfl rfl) (.tmp rfl rfl) hk52 hi53 mk112 (fun _ _ _ _ h => by obtain ⟨_, _, rfl, rfl, _⟩ := h; rfl)) (fun F58 => ?_)
  rw [hx57]
  refine C_nil (CW_region (Cm (.int .i64 (k36 : Int)) rfl rfl ?_))
  refine C_val (V_add (i := (k36 : Int)) (j := 1) (.tmp rfl rfl) (.int _ _)) ?_
  refine Ca (.int .i64 (IntKind.i64.wrap ((k36 : Int) + 1))) rfl rfl ?_
  refine C_nil ?_
  have hw59 : IntKind.i64.wrap ((k36 : Int) + 1) = ((k36 + 1 : Nat) : Int) := by rw [wrap_in (by omega) (by omega)]; rfl
  rw [hw59]
  exact ⟨_, Nat.lt_succ_self _, _, k36 + 1, rest37, _, F58, rfl, (EqL.cons rfl (EqL.cons rfl (EqL.cons rfl (EqL.nil)))).eq, hd42, (.sel (.rd (.t (.t (.t .h))) rfl (.cons .h .nil))), hF⟩

/-! laws.toFact -/
def l_toFact (a_a : Fact) : Option (Fact) :=
  (l_toIntS a_a.Values).bind fun r4 =>
  some ({ Rel := a_a.Rel, Values := r4 } : Fact)
theorem l_toFact_ok (a_a : Fact) (v0_1 : Sv) (R : Fact) (hF : l_toFact a_a = some R) :
    Fw.Spec Tryz.prog 68 [(.agg [(.int .i64 a_a.Rel), v0_1.v].toArray)] [crd (RdS 3 rdInt) v0_1.v a_a.Values] (fun p : Sv × List Nat => (.agg [(.int .i64 R.Rel), p.1.v].toArray)) (fun p => [cown (OwnS 3 (roE rdInt)) p.2 p.1.v R.Values]) := by
  refine Spec_enter (n := 12) Tryz.func68 rfl rfl (rs := [.cell 2 114]) rfl rfl rfl ?_
  intro H0 F0
  unfold l_toFact at hF
  refine K_region (C_newR rfl (N_box (g := false) (v := (.agg [(.int .i64 a_a.Rel), v0_1.v].toArray)) ty106.sz (.tmp rfl rfl) rfl) (fun k1 => ?_))
  refine C_new rfl (N_allocT (g := true) ty114 rfl rfl) (fun k2 => ?_)
  refine C_nil (K_region (C_new rfl (N_allocT (g := true) ty114 rfl rfl) (fun k3 => ?_)))
  refine C_nil (K_region (C_val (V_fieldAddr (off := 0) fd106_0 (.tmp rfl rfl)) ?_))
  refine C_at (.t (.t .h)) (fun hp => V_load (v := (.int .i64 a_a.Rel)) ag3 (.tmp rfl rfl) hp.2 rfl rfl) ?_
  refine C_val (V_fieldAddr (off := 0) fd114_0 (.tmp rfl rfl)) ?_
  refine C_x1 (.cons .h .nil) (X_storeB (e' := (.agg [(.int .i64 a_a.Rel), (.slice none 0 0)].toArray)) (v := (.int .i64 a_a.Rel)) ty3.sz (.tmp rfl rfl) (.tmp rfl rfl) rfl rfl rfl rfl rfl) (fun _ => ?_)
  refine C_nil (K_region (C_val (V_fieldAddr (off := 1) fd106_1 (.tmp rfl rfl)) ?_))
  refine C_at (.t (.t .h)) (fun hp => V_load (v := v0_1.v) ag22 (.tmp rfl rfl) hp.2 rfl rfl) ?_
  obtain ⟨r4, hx5, hF⟩ := bind_some hF
  refine C_x1 (.rd (.t (.t (.t .h))) rfl .nil) (X_callS cf18 (.cons (.tmp rfl rfl) .nil) (l_toIntS_ok a_a.Values v0_1 _ hx5)) (fun p6 => ?_)
  refine C_val (V_fieldAddr (off := 1) fd114_1 (.tmp rfl rfl)) ?_
  refine C_x1 (.cons (.t .h) .nil) (X_storeB (e' := (.agg [(.int .i64 a_a.Rel), p6.1.v].toArray)) ty22.sz (.tmp rfl rfl) (.tmp rfl rfl) rfl rfl rfl rfl rfl) (fun _ => ?_)
  refine C_nil (K_region (C_at .h (fun hp => V_loadBox ag114 ty114.sz rfl (.tmp rfl rfl) hp.2 rfl) ?_))
  refine C_x1 (.cons (.t (.t .h)) .nil) (X_storeB (e' := (.agg [(.int .i64 a_a.Rel), p6.1.v].toArray)) (v := (.agg [(.int .i64 a_a.Rel), p6.1.v].toArray)) ty114.sz (.tmp rfl rfl) (.tmp rfl rfl) rfl rfl rfl rfl rfl) (fun _ => ?_)
  refine C_nil (CW_ret ?_)
  obtain rfl := Option.some.inj hF
  exact End_ret (p6.1, p6.2) (.cellA rfl rfl .h rfl ag114 ty114.sz rfl rfl .nil) rfl (.sel (.cons (.t (.t .h)) .nil))

/-! laws.toFactS -/
def l_toFactS_L1 : List Fact → Nat → (List Fact) → Option ((List Fact))
  | [], k36, c31 => some c31
  | x38 :: rest37, k36, c31 => (l_toFact x38).bind fun r48 =>
    (chk (decide (0 ≤ (k36 : Int)) && decide ((k36 : Int) < (c31.length : Int)))).bind fun u54 =>
    (some (c31.set ((k36 : Int)).toNat r48)).bind fun z56 =>
    l_toFactS_L1 rest37 (k36 + 1) z56
def l_toFactS (a_a : List Fact) : Option ((List Fact)) :=
  (mkz (a_a.length : Int) (({ Rel := 0, Values := [] } : Fact) : Fact)).bind fun z1 =>
  l_toFactS_L1 a_a 0 z1
theorem l_toFactS_ok (a_a : List Fact) (v0_0 : Sv) (R : (List Fact)) (hF : l_toFactS a_a = some R) :
    Fw.Spec Tryz.prog 20 [v0_0.v] [crd (RdS 106 rd106) v0_0.v a_a] (fun p : Sv × List Nat => p.1.v) (fun p => [cown (OwnS 114 ow114) p.2 p.1.v R]) := by
  refine Spec_enter (n := 23) Tryz.func20 rfl rfl (rs := [.tmp 2]) rfl rfl rfl ?_
  intro H0 F0
  unfold l_toFactS at hF
  refine K_region (C_val (V_assign (v := (.slice none 0 0)) EV.nilSlice) ?_)
  refine C_nil (K_region (Cm v0_0.v rfl rfl ?_))
  refine C_at .h (fun hp => V_lenR (l := a_a.length) sl25 (.tmp rfl rfl) (crd_len hp)) ?_
  obtain ⟨z1, hx2, hF⟩ := bind_some hF
  have hm3 := mkz_some hx2
  refine C_new rfl (N_makeSlice (g := true) (c := (a_a.length : Int)) sl40 ty114 rfl rfl (by decide) (.tmp rfl rfl) hm3.2.1 hm3.2.2) (fun k4 => ?_)
  refine C_conv (.cons .h .nil) (own_make (Ro := ow114) (E := 114) (a := (({ Rel := 0, Values := [] } : Fact) : Fact)) hx2 (fun _ => ⟨⟨none, 0, 0⟩, [], rfl, rfl, .inl ⟨rfl, rfl, rfl⟩⟩)) apps ?_
  refine Ca (.slice (some ⟨k4, 0, none⟩) (a_a.length : Int).toNat 1) rfl rfl ?_
  refine C_nil (K_in (K_region (C_val (V_assign (v := (.int .i64 0)) (.int _ _)) ?_)))
  refine C_nil (CW_block (CW_loop (m := a_a.length) (fun m34 f' cs' => ∃ (g : Fr) (k36 : Nat) (rest37 : List Fact) (c31 : List Fact) (F32 : List Nat), m34 = rest37.length ∧ f' = updL g [(0, v0_0.v), (3, (.slice (some ⟨k4, 0, none⟩) (a_a.length : Int).toNat 1)), (4, (.int .i64 (k36 : Int)))] ∧ List.drop k36 a_a = rest37 ∧ Ent cs' [crd (RdS 106 rd106) v0_0.v a_a, cown (OwnS 114 ow114) F32 (.slice (some ⟨k4, 0, none⟩) (a_a.length : Int).toNat 1) c31] ∧ l_toFactS_L1 rest37 k36 c31 = some R) ⟨_, 0, _, _, [k4], rfl, (EqL.cons rfl (EqL.cons rfl (EqL.cons rfl (EqL.nil)))).eq, rfl, (.sel (.rd (.t .h) rfl (.cons .h .nil))), hF⟩ ?_))
  clear hF
  rintro m34 _ _ ⟨g35, k36, rest37, c31, F32, rfl, rfl, hd39, hE, hF⟩
  refine K_ent hE ?_
  clear hE
  refine K_pure (c := crd (RdS 106 rd106) v0_0.v a_a) .h crd_bound (fun hbd44 => ?_)
  rcases rest37 with _ | ⟨x38, rest37⟩
  · have hk40 := List.drop_eq_nil_iff.1 hd39
    have hfe43 : (decide (((k36 : Int) : Int) < (a_a.length : Int))) = false := decide_eq_false (by omega)
    rw [l_toFactS_L1] at hF
    refine K_in (K_region (Cm (.int .i64 (k36 : Int)) rfl rfl ?_))
    refine Cm v0_0.v rfl rfl ?_
    refine C_at .h (fun hp => V_lenR (l := a_a.length) sl25 (.tmp rfl rfl) (crd_len hp)) ?_
    refine C_val (V_lss (i := (k36 : Int)) (j := (a_a.length : Int)) (.tmp rfl rfl) (.tmp rfl rfl)) ?_
    refine C_nil (CW_cond (b := (decide (((k36 : Int) : Int) < (a_a.length : Int)))) (.tmp rfl rfl) (fun hb => absurd (hfe43.symm.trans hb) (by decide)) (fun _ => ?_))
    refine CW_exit ?_
    iterate 2 refine CThen_exit ?_
    refine CIn_self (K_region (Cm (.slice (some ⟨k4, 0, none⟩) (a_a.length : Int).toNat 1) rfl rfl ?_))
    refine Ca (.slice (some ⟨k4, 0, none⟩) (a_a.length : Int).toNat 1) rfl rfl ?_
    refine C_nil (CW_ret ?_)
    obtain rfl := Option.some.inj hF
    exact End_ret (⟨(some ⟨k4, 0, none⟩), (a_a.length : Int).toNat, 1⟩, F32) (.tmp rfl rfl .nil) rfl (.sel (.cons (.t .h) .nil))
  obtain ⟨hk40, hx41, hd42⟩ := drop_cons hd39
  have hfe43 : (decide (((k36 : Int) : Int) < (a_a.length : Int))) = true := decide_eq_true (by omega)
  rw [l_toFactS_L1] at hF
  refine K_in (K_region (Cm (.int .i64 (k36 : Int)) rfl rfl ?_))
  refine Cm v0_0.v rfl rfl ?_
  refine C_at .h (fun hp => V_lenR (l := a_a.length) sl25 (.tmp rfl rfl) (crd_len hp)) ?_
  refine C_val (V_lss (i := (k36 : Int)) (j := (a_a.length : Int)) (.tmp rfl rfl) (.tmp rfl rfl)) ?_
  refine C_nil (CW_cond (b := (decide (((k36 : Int) : Int) < (a_a.length : Int)))) (.tmp rfl rfl) (fun _ => ?_) (fun hb => absurd (hfe43.symm.trans hb) (by decide)))
  refine CW_skip (K_block (CW_region (Cm (.slice (some ⟨k4, 0, none⟩) (a_a.length : Int).toNat 1) rfl rfl ?_)))
  refine Cm (.int .i64 (k36 : Int)) rfl rfl ?_
  refine Cm v0_0.v rfl rfl ?_
  refine Cm (.int .i64 (k36 : Int)) rfl rfl ?_
  refine C_idx (a := x38) sl25 ty106.sz (.tmp rfl rfl) (.tmp rfl rfl) .h (Int.natCast_nonneg k36) hx41 (fun k45 j46 => ?_)
  refine C_ldA1 (ul106_0_106 x38) ag106 ty106.sz rfl (.tmp rfl rfl) .h la106_0_106 (fun p47 => ?_)
  obtain ⟨r48, hx49, hF⟩ := bind_some hF
  refine C_x1 (.rd .h rfl .nil) (X_callS cf68 (.cons (.tmp rfl rfl) .nil) (l_toFact_ok x38 p47 _ hx49)) (fun p50 => ?_)
  obtain ⟨u54, hx55, hF⟩ := bind_some hF
  have hi53 := chk_some hx55
  refine C_idxO sl40 ty114.sz (.tmp rfl rfl) (.tmp rfl rfl) (.t (.t (.t (.t .h)))) hi53 (fun k51 hk52 => ?_)
  obtain ⟨z56, hx57, hF⟩ := bind_some hF
  replace hx57 := Option.some.inj hx57
  refine C_x1 (.cons (.t (.t (.t (.t .h)))) (.cons .h .nil)) (X_storeO (Ro := ow114) (a := r48) (i := (k36 : Int)) ty114.sz rfl (.tmp rfl rfl) (.tmp rfl rfl) hk52 hi53 mk114 (fun _ _ _ _ h => by obtain ⟨_, _, rfl, rfl, _⟩ := h; rfl)) (fun F58 => ?_)
  rw [hx57]
  refine C_nil (CW_region (Cm (.int .i64 (k36 : Int)) rfl rfl ?_))
  refine C_val (V_add (i := (k36 : Int)) (j := 1) (.tmp rfl rfl) (.int _ _)) ?_
  refine Ca (.int .i64 (IntKind.i64.wrap ((k36 : Int) + 1))) rfl rfl ?_
  refine C_nil ?_
  have hw59 : IntKind.i64.wrap ((k36 : Int) + 1) = ((k36 + 1 : Nat) : Int) := by rw [wrap_in (by omega) (by omega)]; rfl
  rw [hw59]
  exact ⟨_, Nat.lt_succ_self _, _, k36 + 1, rest37, _, F58, rfl, (EqL.cons rfl (EqL.cons rfl (EqL.cons rfl (EqL.nil)))).eq, hd42, (.sel (.rd (.t (.t (.t .h))) rfl (.cons .h .nil))), hF⟩

/-! spec.l1In -/
def s_l1In (a_x : Int) (a_low : Int) (a_high : Int) : Option (Bool) :=
  some ((decide ((a_low : Int) ≤ a_x)) && (decide ((a_x : Int) ≤ a_high)))
theorem s_l1In_ok (a_x : Int) (a_low : Int) (a_high : Int) (R : Bool) (hF : s_l1In a_x a_low a_high = some R) :
    Fw.Spec Tryz.prog 96 [(.int .i64 a_x), (.int .i64 a_low), (.int .i64 a_high)] [] (fun _ : Unit => (.bool R)) (fun _ => []) := by
  refine Spec_enter (n := 15) Tryz.func96 rfl rfl (rs := [.tmp 6]) rfl rfl rfl ?_
  intro H0 F0
  unfold s_l1In at hF
  refine K_region (C_val (V_assign (v := (.bool false)) (.bool _)) ?_)
  refine C_nil (K_region (C_cut (fun f' cs' => ∃ (g : Fr), f' = updL g [(6, (.bool ((decide ((a_low : Int) ≤ a_x)) && (decide ((a_x : Int) ≤ a_high)))))] ∧ Ent cs' []) ?_ ?_))
  · refine Cm (.int .i64 a_x) rfl rfl ?_
    refine Cm (.int .i64 a_low) rfl rfl ?_
    refine C_val (V_geq (i := a_x) (j := a_low) (.tmp rfl rfl) (.tmp rfl rfl)) ?_
    refine Cm (.bool (decide ((a_low : Int) ≤ a_x))) rfl rfl ?_
    rcases Bool.eq_false_or_eq_true (decide ((a_low : Int) ≤ a_x)) with hg1 | hg1
    · rw [hg1]
      try rw [hg1] at hF; dsimp only [cond_true, cond_false] at hF
      refine C_on (t := 10) rfl rfl rfl ?_
      refine Cm (.int .i64 a_x) rfl rfl ?_
      refine C_on (t := 10) rfl rfl rfl ?_
      refine Cm (.int .i64 a_high) rfl rfl ?_
      refine C_on (t := 10) rfl rfl rfl ?_
      refine C_val (V_leq (i := a_x) (j := a_high) (.tmp rfl rfl) (.tmp rfl rfl)) ?_
      refine C_val (V_pick (b := true) (u := (.bool (decide ((a_x : Int) ≤ a_high)))) (v := (.bool false)) (.tmp rfl rfl) (.tmp rfl rfl) (.bool _)) ?_
      refine Ca (.bool (decide ((a_x : Int) ≤ a_high))) rfl rfl ?_
      refine C_nil ?_
      exact ⟨_, (EqL.cons rfl (EqL.nil)).eq, (.sel .nil)⟩
    rw [hg1]
    try rw [hg1] at hF; dsimp only [cond_true, cond_false] at hF
    iterate 3 refine C_off (t := 10) rfl rfl rfl ?_
    refine C_val (V_pick (b := false) (u := undef) (v := (.bool false)) (.tmp rfl rfl) (.tmp rfl rfl) (.bool _)) ?_
    refine Ca (.bool false) rfl rfl ?_
    refine C_nil ?_
    exact ⟨_, (EqL.cons rfl (EqL.nil)).eq, (.sel .nil)⟩
  rintro _ _ ⟨g2, rfl, hE⟩
  refine K_ent hE ?_
  refine CW_ret ?_
  obtain rfl := Option.some.inj hF
  exact End_ret () (.tmp rfl rfl .nil) rfl (.sel .nil)

/-! spec.IsSchema -/
def s_IsSchema_L1 (a_s : List Int) : List Int → Nat → Option (Bool)
  | [], k4 => (s_l1In (a_s.length : Int) 1 3).bind fun r13 =>
    some r13
  | x6 :: rest5, k4 => (s_l1In x6 1 3).bind fun r18 =>
    if (!r18) then (
      some false)
    else (
      s_IsSchema_L1 a_s rest5 (k4 + 1))
def s_IsSchema (a_s : List Int) : Option (Bool) :=
  s_IsSchema_L1 a_s a_s 0
theorem s_IsSchema_ok (a_s : List Int) (v0_0 : Sv) (R : Bool) (hF : s_IsSchema a_s = some R) :
    Fw.Spec Tryz.prog 91 [v0_0.v] [crd (RdS 3 rdInt) v0_0.v a_s] (fun _ : Unit => (.bool R)) (fun _ => []) := by
  refine Spec_enter (n := 19) Tryz.func91 rfl rfl (rs := [.tmp 2]) rfl rfl rfl ?_
  intro H0 F0
  unfold s_IsSchema at hF
  refine K_region (C_val (V_assign (v := (.bool false)) (.bool _)) ?_)
  refine C_nil (K_in (K_region (C_val (V_assign (v := (.int .i64 0)) (.int _ _)) ?_)))
  refine C_nil (CW_block (CW_loop (m := a_s.length) (fun m2 f' cs' => ∃ (g : Fr) (k4 : Nat) (rest5 : List Int), m2 = rest5.length ∧ f' = updL g [(0, v0_0.v), (3, (.int .i64 (k4 : Int)))] ∧ List.drop k4 a_s = rest5 ∧ Ent cs' [crd (RdS 3 rdInt) v0_0.v a_s] ∧ s_IsSchema_L1 a_s rest5 k4 = some R) ⟨_, 0, _, rfl, (EqL.cons rfl (EqL.cons rfl (EqL.nil))).eq, rfl, (.sel (.rd .h rfl .nil)), hF⟩ ?_))
  clear hF
  rintro m2 _ _ ⟨g3, k4, rest5, rfl, rfl, hd7, hE, hF⟩
  refine K_ent hE ?_
  clear hE
  refine K_pure (c := crd (RdS 3 rdInt) v0_0.v a_s) .h crd_bound (fun hbd12 => ?_)
  rcases rest5 with _ | ⟨x6, rest5⟩
  · have hk8 := List.drop_eq_nil_iff.1 hd7
    have hfe11 : (decide (((k4 : Int) : Int) < (a_s.length : Int))) = false := decide_eq_false (by omega)
    rw [s_IsSchema_L1] at hF
    refine K_in (K_region (Cm (.int .i64 (k4 : Int)) rfl rfl ?_))
    refine Cm v0_0.v rfl rfl ?_
    refine C_at .h (fun hp => V_lenR (l := a_s.length) sl22 (.tmp rfl rfl) (crd_len hp)) ?_
    refine C_val (V_lss (i := (k4 : Int)) (j := (a_s.length : Int)) (.tmp rfl rfl) (.tmp rfl rfl)) ?_
    refine C_nil (CW_cond (b := (decide (((k4 : Int) : Int) < (a_s.length : Int)))) (.tmp rfl rfl) (fun hb => absurd (hfe11.symm.trans hb) (by decide)) (fun _ => ?_))
    refine CW_exit ?_
    iterate 2 refine CThen_exit ?_
    refine CIn_self (K_region (Cm v0_0.v rfl rfl ?_))
    refine C_at .h (fun hp => V_lenR (l := a_s.length) sl22 (.tmp rfl rfl) (crd_len hp)) ?_
    obtain ⟨r13, hx14, hF⟩ := bind_some hF
    refine C_x0 .nil (X_callS cf96 (.cons (.tmp rfl rfl) (.cons (.int _ _) (.cons (.int _ _) .nil))) (s_l1In_ok (a_s.length : Int) 1 3 _ hx14)) (fun _ => ?_)
    refine Ca (.bool r13) rfl rfl ?_
    refine C_nil (CW_ret ?_)
    obtain rfl := Option.some.inj hF
    exact End_ret () (.tmp rfl rfl .nil) rfl (.sel .nil)
  obtain ⟨hk8, hx9, hd10⟩ := drop_cons hd7
  have hfe11 : (decide (((k4 : Int) : Int) < (a_s.length : Int))) = true := decide_eq_true (by omega)
  rw [s_IsSchema_L1] at hF
  refine K_in (K_region (Cm (.int .i64 (k4 : Int)) rfl rfl ?_))
  refine Cm v0_0.v rfl rfl ?_
  refine C_at .h (fun hp => V_lenR (l := a_s.length) sl22 (.tmp rfl rfl) (crd_len hp)) ?_
  refine C_val (V_lss (i := (k4 : Int)) (j := (a_s.length : Int)) (.tmp rfl rfl) (.tmp rfl rfl)) ?_
  refine C_nil (CW_cond (b := (decide (((k4 : Int) : Int) < (a_s.length : Int)))) (.tmp rfl rfl) (fun _ => ?_) (fun hb => absurd (hfe11.symm.trans hb) (by decide)))
  refine CW_skip (K_block (K_region (Cm v0_0.v rfl rfl ?_)))
  refine Cm (.int .i64 (k4 : Int)) rfl rfl ?_
  refine C_idx (a := x6) sl22 ty3.sz (.tmp rfl rfl) (.tmp rfl rfl) .h (Int.natCast_nonneg k4) hx9 (fun k16 j17 => ?_)
  refine C_ldS (w := (.int .i64 x6)) ag3 (.tmp rfl rfl) .h ls3_0 ?_
  obtain ⟨r18, hx19, hF⟩ := bind_some hF
  refine C_x0 .nil (X_callS cf96 (.cons (.tmp rfl rfl) (.cons (.int _ _) (.cons (.int _ _) .nil))) (s_l1In_ok x6 1 3 _ hx19)) (fun _ => ?_)
  refine C_val (V_not (b := r18) (.tmp rfl rfl)) ?_
  refine C_nil (CW_cond (b := (!r18)) (.tmp rfl rfl) (fun hb22 => ?_) (fun hb22 => ?_))
  · rw [if_pos hb22] at hF
    refine K_region (C_val (V_assign (v := (.bool false)) (.bool _)) ?_)
    refine C_nil (CW_ret ?_)
    obtain rfl := Option.some.inj hF
    exact End_ret () (.tmp rfl rfl .nil) rfl (.sel .nil)
  rw [if_neg (by rw [hb22]; exact Bool.false_ne_true)] at hF
  refine CW_skip (CW_region (Cm (.int .i64 (k4 : Int)) rfl rfl ?_))
  refine C_val (V_add (i := (k4 : Int)) (j := 1) (.tmp rfl rfl) (.int _ _)) ?_
  refine Ca (.int .i64 (IntKind.i64.wrap ((k4 : Int) + 1))) rfl rfl ?_
  refine C_nil ?_
  have hw21 : IntKind.i64.wrap ((k4 : Int) + 1) = ((k4 + 1 : Nat) : Int) := by rw [wrap_in (by omega) (by omega)]; rfl
  rw [hw21]
  exact ⟨_, Nat.lt_succ_self _, _, k4 + 1, rest5, rfl, (EqL.cons rfl (EqL.cons rfl (EqL.nil))).eq, hd10, (.sel (.rd (.t .h) rfl .nil)), hF⟩

/-! spec.IsMethod -/
def s_IsMethod_L1 (a_s : List Int) (a_m : Method) : List Int → Nat → Option (Bool)
  | [], k27 => some true
  | x29 :: rest28, k27 => ((ix a_s a_m.Rel).bind fun x40 =>
      (s_l1In x29 0 (IntKind.i64.wrap (x40 - 1))).bind fun r46 =>
      bif (!r46) then (some true)
      else (bif (decide ((0 : Int) < (k27 : Int))) then ((ix a_m.Inputs (IntKind.i64.wrap ((k27 : Int) - 1))).bind fun x53 =>
          some (decide ((x29 : Int) ≤ x53)))
        else (some false))).bind fun o36 =>
    match o36 with
    | c59 => if c59 then (
        some false)
      else (
        s_IsMethod_L1 a_s a_m rest28 (k27 + 1))
def s_IsMethod (a_s : List Int) (a_m : Method) : Option (Bool) :=
  ((s_IsSchema a_s).bind fun r4 =>
    bif (!r4) then (some true)
    else ((s_l1In a_m.Rel 0 (IntKind.i64.wrap ((a_s.length : Int) - 1))).bind fun r8 =>
      bif (!r8) then (some true)
      else ((s_l1In a_m.Limit 0 9).bind fun r12 =>
        bif (!r12) then (some true)
        else ((s_l1In a_m.Cost 0 99).bind fun r16 =>
          bif (!r16) then (some true)
          else ((s_l1In a_m.Quota 1 99).bind fun r20 =>
            some (!r20)))))).bind fun o2 =>
  match o2 with
  | c23 => if c23 then (
      some false)
    else (
      s_IsMethod_L1 a_s a_m a_m.Inputs 0)
theorem s_IsMethod_ok (a_s : List Int) (v0_0 : Sv) (a_m : Method) (v1_1 : Sv) (R : Bool) (hF : s_IsMethod a_s a_m = some R) :
    Fw.Spec Tryz.prog 123 [v0_0.v, (.agg [(.int .i64 a_m.Rel), v1_1.v, (.int .i64 a_m.Limit), (.int .i64 a_m.Cost), (.int .i64 a_m.Quota)].toArray)] [crd (RdS 3 rdInt) v0_0.v a_s, crd (RdS 3 rdInt) v1_1.v a_m.Inputs] (fun _ : Unit => (.bool R)) (fun _ => []) := by
  refine Spec_enter (n := 74) Tryz.func123 rfl rfl (rs := [.tmp 4]) rfl rfl rfl ?_
  intro H0 F0
  unfold s_IsMethod at hF
  refine K_region (C_newR rfl (N_box (g := false) (v := (.agg [(.int .i64 a_m.Rel), v1_1.v, (.int .i64 a_m.Limit), (.int .i64 a_m.Cost), (.int .i64 a_m.Quota)].toArray)) ty112.sz (.tmp rfl rfl) rfl) (fun k1 => ?_))
  refine C_val (V_assign (v := (.bool false)) (.bool _)) ?_
  refine C_nil (K_in ?_)
  obtain ⟨o2, hio2, hO3⟩ := bind_some hF
  refine K_region (C_cut (fun f' cs' => ∃ (c23 : Bool) (g : Fr), c23 = o2 ∧ f' = updL g [(0, v0_0.v), (3, (.pointer (some ⟨k1, 0, some 0⟩))), (35, (.bool c23))] ∧ Ent cs' [crd (RdS 3 rdInt) v0_0.v a_s, cboR k1 112 (.agg [(.int .i64 a_m.Rel), v1_1.v, (.int .i64 a_m.Limit), (.int .i64 a_m.Cost), (.int .i64 a_m.Quota)].toArray), crd (RdS 3 rdInt) v1_1.v a_m.Inputs]) ?_ ?_)
  · replace hF := hio2
    refine Cm v0_0.v rfl rfl ?_
    obtain ⟨r4, hx5, hF⟩ := bind_some hF
    refine C_x0 (.rd (.t .h) rfl .nil) (X_callS cf91 (.cons (.tmp rfl rfl) .nil) (s_IsSchema_ok a_s v0_0 _ hx5)) (fun _ => ?_)
    refine C_val (V_not (b := r4) (.tmp rfl rfl)) ?_
    refine Cm (.bool (!r4)) rfl rfl ?_
    rcases Bool.eq_false_or_eq_true (!r4) with hg7 | hg7
    · rw [hg7]
      try rw [hg7] at hF; dsimp only [cond_true, cond_false] at hF
      iterate 7 refine C_off (t := 9) rfl rfl rfl ?_
      refine C_val (V_pick (b := true) (u := (.bool true)) (v := undef) (.tmp rfl rfl) (.bool _) (.tmp rfl rfl)) ?_
      refine Cm (.bool true) rfl rfl ?_
      iterate 4 refine C_off (t := 18) rfl rfl rfl ?_
      refine C_val (V_pick (b := true) (u := (.bool true)) (v := undef) (.tmp rfl rfl) (.bool _) (.tmp rfl rfl)) ?_
      refine Cm (.bool true) rfl rfl ?_
      iterate 4 refine C_off (t := 24) rfl rfl rfl ?_
      refine C_val (V_pick (b := true) (u := (.bool true)) (v := undef) (.tmp rfl rfl) (.bool _) (.tmp rfl rfl)) ?_
      refine Cm (.bool true) rfl rfl ?_
      iterate 4 refine C_off (t := 30) rfl rfl rfl ?_
      refine C_val (V_pick (b := true) (u := (.bool true)) (v := undef) (.tmp rfl rfl) (.bool _) (.tmp rfl rfl)) ?_
      refine C_nil ?_
      obtain rfl := Option.some.inj hF
      exact ⟨_, _, rfl, (EqL.cons rfl (EqL.cons rfl (EqL.cons rfl (EqL.nil)))).eq, (.sel (.rd (.t .h) rfl (.rd .h rfl (.rd (.t (.t .h)) rfl .nil))))⟩
    rw [hg7]
    try rw [hg7] at hF; dsimp only [cond_true, cond_false] at hF
    refine C_on (t := 9) rfl rfl rfl ?_
    refine C_val (V_fieldAddr (off := 0) fd112_0 (.tmp rfl rfl)) ?_
    refine C_on (t := 9) rfl rfl rfl ?_
    refine C_at .h (fun hp => V_load (v := (.int .i64 a_m.Rel)) ag3 (.tmp rfl rfl) hp.2 rfl rfl) ?_
    refine C_on (t := 9) rfl rfl rfl ?_
    refine Cm v0_0.v rfl rfl ?_
    refine C_on (t := 9) rfl rfl rfl ?_
    refine C_at (.t .h) (fun hp => V_lenR (l := a_s.length) sl22 (.tmp rfl rfl) (crd_len hp)) ?_
    refine C_on (t := 9) rfl rfl rfl ?_
    refine C_val (V_sub (i := (a_s.length : Int)) (j := 1) (.tmp rfl rfl) (.int _ _)) ?_
    refine C_on (t := 9) rfl rfl rfl ?_
    obtain ⟨r8, hx9, hF⟩ := bind_some hF
    refine C_x0 .nil (X_callS cf96 (.cons (.tmp rfl rfl) (.cons (.int _ _) (.cons (.tmp rfl rfl) .nil))) (s_l1In_ok a_m.Rel 0 (IntKind.i64.wrap ((a_s.length : Int) - 1)) _ hx9)) (fun _ => ?_)
    refine C_on (t := 9) rfl rfl rfl ?_
    refine C_val (V_not (b := r8) (.tmp rfl rfl)) ?_
    refine C_val (V_pick (b := false) (u := (.bool true)) (v := (.bool (!r8))) (.tmp rfl rfl) (.bool _) (.tmp rfl rfl)) ?_
    refine Cm (.bool (!r8)) rfl rfl ?_
    rcases Bool.eq_false_or_eq_true (!r8) with hg11 | hg11
    · rw [hg11]
      try rw [hg11] at hF; dsimp only [cond_true, cond_false] at hF
      iterate 4 refine C_off (t := 18) rfl rfl rfl ?_
      refine C_val (V_pick (b := true) (u := (.bool true)) (v := undef) (.tmp rfl rfl) (.bool _) (.tmp rfl rfl)) ?_
      refine Cm (.bool true) rfl rfl ?_
      iterate 4 refine C_off (t := 24) rfl rfl rfl ?_
      refine C_val (V_pick (b := true) (u := (.bool true)) (v := undef) (.tmp rfl rfl) (.bool _) (.tmp rfl rfl)) ?_
      refine Cm (.bool true) rfl rfl ?_
      iterate 4 refine C_off (t := 30) rfl rfl rfl ?_
      refine C_val (V_pick (b := true) (u := (.bool true)) (v := undef) (.tmp rfl rfl) (.bool _) (.tmp rfl rfl)) ?_
      refine C_nil ?_
      obtain rfl := Option.some.inj hF
      exact ⟨_, _, rfl, (EqL.cons rfl (EqL.cons rfl (EqL.cons rfl (EqL.nil)))).eq, (.sel (.rd (.t .h) rfl (.rd .h rfl (.rd (.t (.t .h)) rfl .nil))))⟩
    rw [hg11]
    try rw [hg11] at hF; dsimp only [cond_true, cond_false] at hF
    refine C_on (t := 18) rfl rfl rfl ?_
    refine C_val (V_fieldAddr (off := 2) fd112_2 (.tmp rfl rfl)) ?_
    refine C_on (t := 18) rfl rfl rfl ?_
    refine C_at .h (fun hp => V_load (v := (.int .i64 a_m.Limit)) ag3 (.tmp rfl rfl) hp.2 rfl rfl) ?_
    refine C_on (t := 18) rfl rfl rfl ?_
    obtain ⟨r12, hx13, hF⟩ := bind_some hF
    refine C_x0 .nil (X_callS cf96 (.cons (.tmp rfl rfl) (.cons (.int _ _) (.cons (.int _ _) .nil))) (s_l1In_ok a_m.Limit 0 9 _ hx13)) (fun _ => ?_)
    refine C_on (t := 18) rfl rfl rfl ?_
    refine C_val (V_not (b := r12) (.tmp rfl rfl)) ?_
    refine C_val (V_pick (b := false) (u := (.bool true)) (v := (.bool (!r12))) (.tmp rfl rfl) (.bool _) (.tmp rfl rfl)) ?_
    refine Cm (.bool (!r12)) rfl rfl ?_
    rcases Bool.eq_false_or_eq_true (!r12) with hg15 | hg15
    · rw [hg15]
      try rw [hg15] at hF; dsimp only [cond_true, cond_false] at hF
      iterate 4 refine C_off (t := 24) rfl rfl rfl ?_
      refine C_val (V_pick (b := true) (u := (.bool true)) (v := undef) (.tmp rfl rfl) (.bool _) (.tmp rfl rfl)) ?_
      refine Cm (.bool true) rfl rfl ?_
      iterate 4 refine C_off (t := 30) rfl rfl rfl ?_
      refine C_val (V_pick (b := true) (u := (.bool true)) (v := undef) (.tmp rfl rfl) (.bool _) (.tmp rfl rfl)) ?_
      refine C_nil ?_
      obtain rfl := Option.some.inj hF
      exact ⟨_, _, rfl, (EqL.cons rfl (EqL.cons rfl (EqL.cons rfl (EqL.nil)))).eq, (.sel (.rd (.t .h) rfl (.rd .h rfl (.rd (.t (.t .h)) rfl .nil))))⟩
    rw [hg15]
    try rw [hg15] at hF; dsimp only [cond_true, cond_false] at hF
    refine C_on (t := 24) rfl rfl rfl ?_
    refine C_val (V_fieldAddr (off := 3) fd112_3 (.tmp rfl rfl)) ?_
    refine C_on (t := 24) rfl rfl rfl ?_
    refine C_at .h (fun hp => V_load (v := (.int .i64 a_m.Cost)) ag3 (.tmp rfl rfl) hp.2 rfl rfl) ?_
    refine C_on (t := 24) rfl rfl rfl ?_
    obtain ⟨r16, hx17, hF⟩ := bind_some hF
    refine C_x0 .nil (X_callS cf96 (.cons (.tmp rfl rfl) (.cons (.int _ _) (.cons (.int _ _) .nil))) (s_l1In_ok a_m.Cost 0 99 _ hx17)) (fun _ => ?_)
    refine C_on (t := 24) rfl rfl rfl ?_
    refine C_val (V_not (b := r16) (.tmp rfl rfl)) ?_
    refine C_val (V_pick (b := false) (u := (.bool true)) (v := (.bool (!r16))) (.tmp rfl rfl) (.bool _) (.tmp rfl rfl)) ?_
    refine Cm (.bool (!r16)) rfl rfl ?_
    rcases Bool.eq_false_or_eq_true (!r16) with hg19 | hg19
    · rw [hg19]
      try rw [hg19] at hF; dsimp only [cond_true, cond_false] at hF
      iterate 4 refine C_off (t := 30) rfl rfl rfl ?_
      refine C_val (V_pick (b := true) (u := (.bool true)) (v := undef) (.tmp rfl rfl) (.bool _) (.tmp rfl rfl)) ?_
      refine C_nil ?_
      obtain rfl := Option.some.inj hF
      exact ⟨_, _, rfl, (EqL.cons rfl (EqL.cons rfl (EqL.cons rfl (EqL.nil)))).eq, (.sel (.rd (.t .h) rfl (.rd .h rfl (.rd (.t (.t .h)) rfl .nil))))⟩
    rw [hg19]
    try rw [hg19] at hF; dsimp only [cond_true, cond_false] at hF
    refine C_on (t := 30) rfl rfl rfl ?_
    refine C_val (V_fieldAddr (off := 4) fd112_4 (.tmp rfl rfl)) ?_
    refine C_on (t := 30) rfl rfl rfl ?_
    refine C_at .h (fun hp => V_load (v := (.int .i64 a_m.Quota)) ag3 (.tmp rfl rfl) hp.2 rfl rfl) ?_
    refine C_on (t := 30) rfl rfl rfl ?_
    obtain ⟨r20, hx21, hF⟩ := bind_some hF
    refine C_x0 .nil (X_callS cf96 (.cons (.tmp rfl rfl) (.cons (.int _ _) (.cons (.int _ _) .nil))) (s_l1In_ok a_m.Quota 1 99 _ hx21)) (fun _ => ?_)
    refine C_on (t := 30) rfl rfl rfl ?_
    refine C_val (V_not (b := r20) (.tmp rfl rfl)) ?_
    refine C_val (V_pick (b := false) (u := (.bool true)) (v := (.bool (!r20))) (.tmp rfl rfl) (.bool _) (.tmp rfl rfl)) ?_
    refine C_nil ?_
    obtain rfl := Option.some.inj hF
    exact ⟨_, _, rfl, (EqL.cons rfl (EqL.cons rfl (EqL.cons rfl (EqL.nil)))).eq, (.sel (.rd (.t .h) rfl (.rd .h rfl (.rd (.t (.t .h)) rfl .nil))))⟩
  rintro _ _ ⟨c23, g64, rfl, rfl, hE⟩
  replace hF := hO3
  clear hO3
  try dsimp only at hF
  refine K_ent hE ?_
  refine CW_cond (b := c23) (.tmp rfl rfl) (fun hb63 => ?_) (fun hb63 => ?_)
  · rw [if_pos hb63] at hF
    refine K_region (C_val (V_assign (v := (.bool false)) (.bool _)) ?_)
    refine C_nil (CW_ret ?_)
    obtain rfl := Option.some.inj hF
    exact End_ret () (.tmp rfl rfl .nil) rfl (.sel .nil)
  rw [if_neg (by rw [hb63]; exact Bool.false_ne_true)] at hF
  refine CW_skip (K_in (K_region (C_val (V_assign (v := (.int .i64 0)) (.int _ _)) ?_)))
  refine C_nil (CW_block (CW_loop (m := a_m.Inputs.length) (fun m25 f' cs' => ∃ (g : Fr) (k27 : Nat) (rest28 : List Int), m25 = rest28.length ∧ f' = updL g [(0, v0_0.v), (3, (.pointer (some ⟨k1, 0, some 0⟩))), (5, (.int .i64 (k27 : Int)))] ∧ List.drop k27 a_m.Inputs = rest28 ∧ Ent cs' [crd (RdS 3 rdInt) v0_0.v a_s, cboR k1 112 (.agg [(.int .i64 a_m.Rel), v1_1.v, (.int .i64 a_m.Limit), (.int .i64 a_m.Cost), (.int .i64 a_m.Quota)].toArray), crd (RdS 3 rdInt) v1_1.v a_m.Inputs] ∧ s_IsMethod_L1 a_s a_m rest28 k27 = some R) ⟨_, 0, _, rfl, (EqL.cons rfl (EqL.cons rfl (EqL.cons rfl (EqL.nil)))).eq, rfl, (.sel (.rd .h rfl (.rd (.t .h) rfl (.rd (.t (.t .h)) rfl .nil)))), hF⟩ ?_))
  clear hF
  rintro m25 _ _ ⟨g26, k27, rest28, rfl, rfl, hd30, hE, hF⟩
  refine K_ent hE ?_
  clear hE
  refine K_pure (c := crd (RdS 3 rdInt) v1_1.v a_m.Inputs) (.t (.t .h)) crd_bound (fun hbd35 => ?_)
  rcases rest28 with _ | ⟨x29, rest28⟩
  · have hk31 := List.drop_eq_nil_iff.1 hd30
    have hfe34 : (decide (((k27 : Int) : Int) < (a_m.Inputs.length : Int))) = false := decide_eq_false (by omega)
    rw [s_IsMethod_L1] at hF
    refine K_in (K_region (Cm (.int .i64 (k27 : Int)) rfl rfl ?_))
    refine C_val (V_fieldAddr (off := 1) fd112_1 (.tmp rfl rfl)) ?_
    refine C_at (.t .h) (fun hp => V_load (v := v1_1.v) ag22 (.tmp rfl rfl) hp.2 rfl rfl) ?_
    refine C_at (.t (.t .h)) (fun hp => V_lenR (l := a_m.Inputs.length) sl22 (.tmp rfl rfl) (crd_len hp)) ?_
    refine C_val (V_lss (i := (k27 : Int)) (j := (a_m.Inputs.length : Int)) (.tmp rfl rfl) (.tmp rfl rfl)) ?_
    refine C_nil (CW_cond (b := (decide (((k27 : Int) : Int) < (a_m.Inputs.length : Int)))) (.tmp rfl rfl) (fun hb => absurd (hfe34.symm.trans hb) (by decide)) (fun _ => ?_))
    refine CW_exit ?_
    iterate 2 refine CThen_exit ?_
    refine CIn_self (K_region (C_val (V_assign (v := (.bool true)) (.bool _)) ?_))
    refine C_nil (CW_ret ?_)
    obtain rfl := Option.some.inj hF
    exact End_ret () (.tmp rfl rfl .nil) rfl (.sel .nil)
  obtain ⟨hk31, hx32, hd33⟩ := drop_cons hd30
  have hfe34 : (decide (((k27 : Int) : Int) < (a_m.Inputs.length : Int))) = true := decide_eq_true (by omega)
  rw [s_IsMethod_L1] at hF
  refine K_in (K_region (Cm (.int .i64 (k27 : Int)) rfl rfl ?_))
  refine C_val (V_fieldAddr (off := 1) fd112_1 (.tmp rfl rfl)) ?_
  refine C_at (.t .h) (fun hp => V_load (v := v1_1.v) ag22 (.tmp rfl rfl) hp.2 rfl rfl) ?_
  refine C_at (.t (.t .h)) (fun hp => V_lenR (l := a_m.Inputs.length) sl22 (.tmp rfl rfl) (crd_len hp)) ?_
  refine C_val (V_lss (i := (k27 : Int)) (j := (a_m.Inputs.length : Int)) (.tmp rfl rfl) (.tmp rfl rfl)) ?_
  refine C_nil (CW_cond (b := (decide (((k27 : Int) : Int) < (a_m.Inputs.length : Int)))) (.tmp rfl rfl) (fun _ => ?_) (fun hb => absurd (hfe34.symm.trans hb) (by decide)))
  refine CW_skip (K_block ?_)
  obtain ⟨o36, hio36, hO37⟩ := bind_some hF
  refine K_draw [0, 1, 2, 3, 4, 5, 6, 7, 8, 9, 10, 11, 12, 13, 14, 15, 16, 17, 18, 19, 20, 21, 22, 23, 24, 25, 26, 27, 28, 29, 30] [0, 1, 0, 7, 15, 0, 0, 64, 224, 480, 992, 2047, 4095, 8191, 16383, 32767, 65535, 131071, 262143, 131071, 1048575, 2097151, 131071, 4325375, 131071, 16908287, 63045631, 130154495, 268435455, 536870911, 1073741823] [11] mixed (by decide +kernel) ?_
  refine D_cut (fun f' cs' => ∃ (c59 : Bool) (g : Fr), c59 = o36 ∧ f' = updL g [(0, v0_0.v), (3, (.pointer (some ⟨k1, 0, some 0⟩))), (5, (.int .i64 (k27 : Int))), (73, (.bool c59))] ∧ Ent cs' [crd (RdS 3 rdInt) v0_0.v a_s, cboR k1 112 (.agg [(.int .i64 a_m.Rel), v1_1.v, (.int .i64 a_m.Limit), (.int .i64 a_m.Cost), (.int .i64 a_m.Quota)].toArray), crd (RdS 3 rdInt) v1_1.v a_m.Inputs]) ?_ ?_
  · replace hF := hio36
    refine D_val rfl .no (fun ha => V_fieldAddr (off := 1) fd112_1 (EN ha (.tmp rfl rfl) rfl)) ?_
    refine D_at rfl .no (.t .h) rfl (fun ha hp => V_load (v := v1_1.v) ag22 (EN ha (.tmp rfl rfl) rfl) hp.2 rfl rfl) ?_
    refine Dm (.int .i64 (k27 : Int)) rfl rfl rfl rfl ?_
    refine D_idx (a := x29) sl22 ty3.sz rfl .no (.tmp rfl rfl) (.tmp rfl rfl) rfl rfl (.t (.t .h)) (Int.natCast_nonneg k27) hx32 (fun k38 j39 => ?_)
    refine D_ldS (w := (.int .i64 x29)) ag3 rfl .no (.tmp rfl rfl) rfl .h ls3_0 ?_
    refine Dm v0_0.v rfl rfl rfl rfl ?_
    refine D_val rfl .no (fun ha => V_fieldAddr (off := 0) fd112_0 (EN ha (.tmp rfl rfl) rfl)) ?_
    refine D_at rfl .no (.t (.t .h)) rfl (fun ha hp => V_load (v := (.int .i64 a_m.Rel)) ag3 (EN ha (.tmp rfl rfl) rfl) hp.2 rfl rfl) ?_
    obtain ⟨x40, hx41, hF⟩ := bind_some hF
    obtain ⟨hp42, hx43⟩ := ix_some hx41
    refine D_idx (a := x40) sl22 ty3.sz rfl .no (.tmp rfl rfl) (.tmp rfl rfl) rfl rfl (.t .h) hp42 hx43 (fun k44 j45 => ?_)
    refine D_ldS (w := (.int .i64 x40)) ag3 rfl .no (.tmp rfl rfl) rfl .h ls3_0 ?_
    refine D_val rfl .no (fun ha => V_sub (i := x40) (j := 1) (EN ha (.tmp rfl rfl) rfl) (EN ha (.int _ _) rfl)) ?_
    obtain ⟨r46, hx47, hF⟩ := bind_some hF
    refine D_act0 rfl rfl .no .nil .nil (fun ha => X_callS cf96 (.cons (EN ha (.tmp rfl rfl) rfl) (.cons (EN ha (.int _ _) rfl) (.cons (EN ha (.tmp rfl rfl) rfl) .nil))) (s_l1In_ok x29 0 (IntKind.i64.wrap (x40 - 1)) _ hx47)) (fun _ => ?_)
    refine D_val rfl .no (fun ha => V_not (b := r46) (EN ha (.tmp rfl rfl) rfl)) ?_
    refine Dm (.bool (!r46)) rfl rfl rfl rfl ?_
    rcases Bool.eq_false_or_eq_true (!r46) with hg49 | hg49
    · rw [hg49]
      try rw [hg49] at hF; dsimp only [cond_true, cond_false] at hF
      iterate 3 refine D_off 56 rfl rfl rfl rfl ?_
      iterate 12 refine D_offU 59 rfl rfl rfl rfl ?_
      refine D_off 56 rfl rfl rfl rfl ?_
      refine D_val rfl .no (fun ha => V_pick (b := true) (u := (.bool true)) (v := undef) (EN ha (.tmp rfl rfl) rfl) (EN ha (.bool _) rfl) (EN ha (.tmp rfl rfl) rfl)) ?_
      refine D_nil ?_
      obtain rfl := Option.some.inj hF
      exact ⟨_, _, rfl, (EqL.cons rfl (EqL.cons rfl (EqL.cons rfl (EqL.cons rfl (EqL.nil))))).eq, (.sel (.rd (.t (.t .h)) rfl (.rd (.t (.t (.t .h))) rfl (.rd (.t (.t (.t (.t .h)))) rfl .nil))))⟩
    rw [hg49]
    try rw [hg49] at hF; dsimp only [cond_true, cond_false] at hF
    refine D_val rfl (.on 56 rfl rfl rfl) (fun ha => V_move (v := (.int .i64 (k27 : Int))) (EN ha (.tmp rfl rfl) rfl)) ?_
    refine D_val rfl (.on 56 rfl rfl rfl) (fun ha => V_gtr (i := (k27 : Int)) (j := 0) (EN ha (.tmp rfl rfl) rfl) (EN ha (.int _ _) rfl)) ?_
    refine D_val rfl (.on 56 rfl rfl rfl) (fun ha => V_move (v := (.bool (decide ((0 : Int) < (k27 : Int))))) (EN ha (.tmp rfl rfl) rfl)) ?_
    rcases Bool.eq_false_or_eq_true (decide ((0 : Int) < (k27 : Int))) with hg50 | hg50
    · rw [hg50]
      try rw [hg50] at hF; dsimp only [cond_true, cond_false] at hF
      refine D_val rfl (.on 59 rfl rfl rfl) (fun ha => V_fieldAddr (off := 1) fd112_1 (EN ha (.tmp rfl rfl) rfl)) ?_
      refine D_at rfl (.on 59 rfl rfl rfl) (.t (.t (.t .h))) rfl (fun ha hp => V_load (v := v1_1.v) ag22 (EN ha (.tmp rfl rfl) rfl) hp.2 rfl rfl) ?_
      refine D_val rfl (.on 59 rfl rfl rfl) (fun ha => V_move (v := (.int .i64 (k27 : Int))) (EN ha (.tmp rfl rfl) rfl)) ?_
      refine D_idx (a := x29) sl22 ty3.sz rfl (.on 59 rfl rfl rfl) (.tmp rfl rfl) (.tmp rfl rfl) rfl rfl (.t (.t (.t (.t .h)))) (Int.natCast_nonneg k27) hx32 (fun k51 j52 => ?_)
      refine D_ldS (w := (.int .i64 x29)) ag3 rfl (.on 59 rfl rfl rfl) (.tmp rfl rfl) rfl .h ls3_0 ?_
      refine D_val rfl (.on 59 rfl rfl rfl) (fun ha => V_fieldAddr (off := 1) fd112_1 (EN ha (.tmp rfl rfl) rfl)) ?_
      refine D_at rfl (.on 59 rfl rfl rfl) (.t (.t (.t (.t .h)))) rfl (fun ha hp => V_load (v := v1_1.v) ag22 (EN ha (.tmp rfl rfl) rfl) hp.2 rfl rfl) ?_
      refine D_val rfl (.on 59 rfl rfl rfl) (fun ha => V_move (v := (.int .i64 (k27 : Int))) (EN ha (.tmp rfl rfl) rfl)) ?_
      refine D_val rfl (.on 59 rfl rfl rfl) (fun ha => V_sub (i := (k27 : Int)) (j := 1) (EN ha (.tmp rfl rfl) rfl) (EN ha (.int _ _) rfl)) ?_
      obtain ⟨x53, hx54, hF⟩ := bind_some hF
      obtain ⟨hp55, hx56⟩ := ix_some hx54
      refine D_idx (a := x53) sl22 ty3.sz rfl (.on 59 rfl rfl rfl) (.tmp rfl rfl) (.tmp rfl rfl) rfl rfl (.t (.t (.t (.t (.t .h))))) hp55 hx56 (fun k57 j58 => ?_)
      refine D_ldS (w := (.int .i64 x53)) ag3 rfl (.on 59 rfl rfl rfl) (.tmp rfl rfl) rfl .h ls3_0 ?_
      refine D_val rfl (.on 59 rfl rfl rfl) (fun ha => V_leq (i := x29) (j := x53) (EN ha (.tmp rfl rfl) rfl) (EN ha (.tmp rfl rfl) rfl)) ?_
      refine D_val rfl (.on 56 rfl rfl rfl) (fun ha => V_pick (b := true) (u := (.bool (decide ((x29 : Int) ≤ x53)))) (v := (.bool false)) (EN ha (.tmp rfl rfl) rfl) (EN ha (.tmp rfl rfl) rfl) (EN ha (.bool _) rfl)) ?_
      refine D_val rfl .no (fun ha => V_pick (b := false) (u := (.bool true)) (v := (.bool (decide ((x29 : Int) ≤ x53)))) (EN ha (.tmp rfl rfl) rfl) (EN ha (.bool _) rfl) (EN ha (.tmp rfl rfl) rfl)) ?_
      refine D_nil ?_
      obtain rfl := Option.some.inj hF
      exact ⟨_, _, rfl, (EqL.cons rfl (EqL.cons rfl (EqL.cons rfl (EqL.cons rfl (EqL.nil))))).eq, (.sel (.rd (.t (.t (.t (.t .h)))) rfl (.rd (.t (.t (.t (.t (.t .h))))) rfl (.rd (.t (.t (.t (.t (.t (.t .h)))))) rfl .nil))))⟩
    rw [hg50]
    try rw [hg50] at hF; dsimp only [cond_true, cond_false] at hF
    iterate 12 refine D_off 59 rfl rfl rfl rfl ?_
    refine D_val rfl (.on 56 rfl rfl rfl) (fun ha => V_pick (b := false) (u := undef) (v := (.bool false)) (EN ha (.tmp rfl rfl) rfl) (EN ha (.tmp rfl rfl) rfl) (EN ha (.bool _) rfl)) ?_
    refine D_val rfl .no (fun ha => V_pick (b := false) (u := (.bool true)) (v := (.bool false)) (EN ha (.tmp rfl rfl) rfl) (EN ha (.bool _) rfl) (EN ha (.tmp rfl rfl) rfl)) ?_
    refine D_nil ?_
    obtain rfl := Option.some.inj hF
    exact ⟨_, _, rfl, (EqL.cons rfl (EqL.cons rfl (EqL.cons rfl (EqL.cons rfl (EqL.nil))))).eq, (.sel (.rd (.t (.t .h)) rfl (.rd (.t (.t (.t .h))) rfl (.rd (.t (.t (.t (.t .h)))) rfl .nil))))⟩
  rintro _ _ ⟨c59, g62, rfl, rfl, hE⟩
  replace hF := hO37
  clear hO37
  try dsimp only at hF
  refine K_ent hE ?_
  refine CW_cond (b := c59) (.tmp rfl rfl) (fun hb61 => ?_) (fun hb61 => ?_)
  · rw [if_pos hb61] at hF
    refine K_region (C_val (V_assign (v := (.bool false)) (.bool _)) ?_)
    refine C_nil (CW_ret ?_)
    obtain rfl := Option.some.inj hF
    exact End_ret () (.tmp rfl rfl .nil) rfl (.sel .nil)
  rw [if_neg (by rw [hb61]; exact Bool.false_ne_true)] at hF
  refine CW_skip (CW_region (Cm (.int .i64 (k27 : Int)) rfl rfl ?_))
  refine C_val (V_add (i := (k27 : Int)) (j := 1) (.tmp rfl rfl) (.int _ _)) ?_
  refine Ca (.int .i64 (IntKind.i64.wrap ((k27 : Int) + 1))) rfl rfl ?_
  refine C_nil ?_
  have hw60 : IntKind.i64.wrap ((k27 : Int) + 1) = ((k27 + 1 : Nat) : Int) := by rw [wrap_in (by omega) (by omega)]; rfl
  rw [hw60]
  exact ⟨_, Nat.lt_succ_self _, _, k27 + 1, rest28, rfl, (EqL.cons rfl (EqL.cons rfl (EqL.cons rfl (EqL.nil)))).eq, hd33, (.sel (.rd .h rfl (.rd (.t .h) rfl (.rd (.t (.t .h)) rfl .nil)))), hF⟩

/-! spec.AreMethods -/
def s_AreMethods_L1 (a_s : List Int) (a_l : List Method) : List Method → Nat → Option (Bool)
  | [], k4 => ((s_IsSchema a_s).bind fun r15 =>
      bif r15 then (some (decide (((a_l.length : Int) : Int) ≤ 5)))
      else (some false)).bind fun o13 =>
    match o13 with
    | c19 => some c19
  | x6 :: rest5, k4 => (s_IsMethod a_s x6).bind fun r24 =>
    if (!r24) then (
      some false)
    else (
      s_AreMethods_L1 a_s a_l rest5 (k4 + 1))
def s_AreMethods (a_s : List Int) (a_l : List Method) : Option (Bool) :=
  s_AreMethods_L1 a_s a_l a_l 0
theorem s_AreMethods_ok (a_s : List Int) (v0_0 : Sv) (a_l : List Method) (v1_0 : Sv) (R : Bool) (hF : s_AreMethods a_s a_l = some R) :
    Fw.Spec Tryz.prog 64 [v0_0.v, v1_0.v] [crd (RdS 3 rdInt) v0_0.v a_s, crd (RdS 112 rd112) v1_0.v a_l] (fun _ : Unit => (.bool R)) (fun _ => []) := by
  refine Spec_enter (n := 26) Tryz.func64 rfl rfl (rs := [.tmp 4]) rfl rfl rfl ?_
  intro H0 F0
  unfold s_AreMethods at hF
  refine K_region (C_val (V_assign (v := (.bool false)) (.bool _)) ?_)
  refine C_nil (K_in (K_region (C_val (V_assign (v := (.int .i64 0)) (.int _ _)) ?_)))
  refine C_nil (CW_block (CW_loop (m := a_l.length) (fun m2 f' cs' => ∃ (g : Fr) (k4 : Nat) (rest5 : List Method), m2 = rest5.length ∧ f' = updL g [(0, v0_0.v), (1, v1_0.v), (5, (.int .i64 (k4 : Int)))] ∧ List.drop k4 a_l = rest5 ∧ Ent cs' [crd (RdS 3 rdInt) v0_0.v a_s, crd (RdS 112 rd112) v1_0.v a_l] ∧ s_AreMethods_L1 a_s a_l rest5 k4 = some R) ⟨_, 0, _, rfl, (EqL.cons rfl (EqL.cons rfl (EqL.cons rfl (EqL.nil)))).eq, rfl, (.sel (.rd .h rfl (.rd (.t .h) rfl .nil))), hF⟩ ?_))
  clear hF
  rintro m2 _ _ ⟨g3, k4, rest5, rfl, rfl, hd7, hE, hF⟩
  refine K_ent hE ?_
  clear hE
  refine K_pure (c := crd (RdS 112 rd112) v1_0.v a_l) (.t .h) crd_bound (fun hbd12 => ?_)
  rcases rest5 with _ | ⟨x6, rest5⟩
  · have hk8 := List.drop_eq_nil_iff.1 hd7
    have hfe11 : (decide (((k4 : Int) : Int) < (a_l.length : Int))) = false := decide_eq_false (by omega)
    rw [s_AreMethods_L1] at hF
    refine K_in (K_region (Cm (.int .i64 (k4 : Int)) rfl rfl ?_))
    refine Cm v1_0.v rfl rfl ?_
    refine C_at (.t .h) (fun hp => V_lenR (l := a_l.length) sl38 (.tmp rfl rfl) (crd_len hp)) ?_
    refine C_val (V_lss (i := (k4 : Int)) (j := (a_l.length : Int)) (.tmp rfl rfl) (.tmp rfl rfl)) ?_
    refine C_nil (CW_cond (b := (decide (((k4 : Int) : Int) < (a_l.length : Int)))) (.tmp rfl rfl) (fun hb => absurd (hfe11.symm.trans hb) (by decide)) (fun _ => ?_))
    refine CW_exit ?_
    iterate 2 refine CThen_exit ?_
    refine CIn_self ?_
    obtain ⟨o13, hio13, hO14⟩ := bind_some hF
    refine K_region (C_cut (fun f' cs' => ∃ (c19 : Bool) (g : Fr), c19 = o13 ∧ f' = updL g [(4, (.bool c19))] ∧ Ent cs' []) ?_ ?_)
    · replace hF := hio13
      refine Cm v0_0.v rfl rfl ?_
      obtain ⟨r15, hx16, hF⟩ := bind_some hF
      refine C_x0 (.rd .h rfl .nil) (X_callS cf91 (.cons (.tmp rfl rfl) .nil) (s_IsSchema_ok a_s v0_0 _ hx16)) (fun _ => ?_)
      refine Cm (.bool r15) rfl rfl ?_
      rcases Bool.eq_false_or_eq_true r15 with hg18 | hg18
      · rw [hg18]
        try rw [hg18] at hF; dsimp only [cond_true, cond_false] at hF
        refine C_on (t := 21) rfl rfl rfl ?_
        refine Cm v1_0.v rfl rfl ?_
        refine C_on (t := 21) rfl rfl rfl ?_
        refine C_at (.t .h) (fun hp => V_lenR (l := a_l.length) sl38 (.tmp rfl rfl) (crd_len hp)) ?_
        refine C_on (t := 21) rfl rfl rfl ?_
        refine C_val (V_leq (i := (a_l.length : Int)) (j := 5) (.tmp rfl rfl) (.int _ _)) ?_
        refine C_val (V_pick (b := true) (u := (.bool (decide (((a_l.length : Int) : Int) ≤ 5)))) (v := (.bool false)) (.tmp rfl rfl) (.tmp rfl rfl) (.bool _)) ?_
        refine Ca (.bool (decide (((a_l.length : Int) : Int) ≤ 5))) rfl rfl ?_
        refine C_nil ?_
        obtain rfl := Option.some.inj hF
        exact ⟨_, _, rfl, (EqL.cons rfl (EqL.nil)).eq, (.sel .nil)⟩
      rw [hg18]
      try rw [hg18] at hF; dsimp only [cond_true, cond_false] at hF
      iterate 3 refine C_off (t := 21) rfl rfl rfl ?_
      refine C_val (V_pick (b := false) (u := undef) (v := (.bool false)) (.tmp rfl rfl) (.tmp rfl rfl) (.bool _)) ?_
      refine Ca (.bool false) rfl rfl ?_
      refine C_nil ?_
      obtain rfl := Option.some.inj hF
      exact ⟨_, _, rfl, (EqL.cons rfl (EqL.nil)).eq, (.sel .nil)⟩
    rintro _ _ ⟨c19, g20, rfl, rfl, hE⟩
    replace hF := hO14
    clear hO14
    try dsimp only at hF
    refine K_ent hE ?_
    refine CW_ret ?_
    obtain rfl := Option.some.inj hF
    exact End_ret () (.tmp rfl rfl .nil) rfl (.sel .nil)
  obtain ⟨hk8, hx9, hd10⟩ := drop_cons hd7
  have hfe11 : (decide (((k4 : Int) : Int) < (a_l.length : Int))) = true := decide_eq_true (by omega)
  rw [s_AreMethods_L1] at hF
  refine K_in (K_region (Cm (.int .i64 (k4 : Int)) rfl rfl ?_))
  refine Cm v1_0.v rfl rfl ?_
  refine C_at (.t .h) (fun hp => V_lenR (l := a_l.length) sl38 (.tmp rfl rfl) (crd_len hp)) ?_
  refine C_val (V_lss (i := (k4 : Int)) (j := (a_l.length : Int)) (.tmp rfl rfl) (.tmp rfl rfl)) ?_
  refine C_nil (CW_cond (b := (decide (((k4 : Int) : Int) < (a_l.length : Int)))) (.tmp rfl rfl) (fun _ => ?_) (fun hb => absurd (hfe11.symm.trans hb) (by decide)))
  refine CW_skip (K_block (K_region (Cm v0_0.v rfl rfl ?_)))
  refine Cm v1_0.v rfl rfl ?_
  refine Cm (.int .i64 (k4 : Int)) rfl rfl ?_
  refine C_idx (a := x6) sl38 ty112.sz (.tmp rfl rfl) (.tmp rfl rfl) (.t .h) (Int.natCast_nonneg k4) hx9 (fun k21 j22 => ?_)
  refine C_ldA1 (ul112_0_112 x6) ag112 ty112.sz rfl (.tmp rfl rfl) .h la112_0_112 (fun p23 => ?_)
  obtain ⟨r24, hx25, hF⟩ := bind_some hF
  refine C_x0 (.rd (.t (.t .h)) rfl (.rd .h rfl .nil)) (X_callS cf123 (.cons (.tmp rfl rfl) (.cons (.tmp rfl rfl) .nil)) (s_IsMethod_ok a_s v0_0 x6 p23 _ hx25)) (fun _ => ?_)
  refine C_val (V_not (b := r24) (.tmp rfl rfl)) ?_
  refine C_nil (CW_cond (b := (!r24)) (.tmp rfl rfl) (fun hb28 => ?_) (fun hb28 => ?_))
  · rw [if_pos hb28] at hF
    refine K_region (C_val (V_assign (v := (.bool false)) (.bool _)) ?_)
    refine C_nil (CW_ret ?_)
    obtain rfl := Option.some.inj hF
    exact End_ret () (.tmp rfl rfl .nil) rfl (.sel .nil)
  rw [if_neg (by rw [hb28]; exact Bool.false_ne_true)] at hF
  refine CW_skip (CW_region (Cm (.int .i64 (k4 : Int)) rfl rfl ?_))
  refine C_val (V_add (i := (k4 : Int)) (j := 1) (.tmp rfl rfl) (.int _ _)) ?_
  refine Ca (.int .i64 (IntKind.i64.wrap ((k4 : Int) + 1))) rfl rfl ?_
  refine C_nil ?_
  have hw27 : IntKind.i64.wrap ((k4 : Int) + 1) = ((k4 + 1 : Nat) : Int) := by rw [wrap_in (by omega) (by omega)]; rfl
  rw [hw27]
  exact ⟨_, Nat.lt_succ_self _, _, k4 + 1, rest5, rfl, (EqL.cons rfl (EqL.cons rfl (EqL.cons rfl (EqL.nil)))).eq, hd10, (.sel (.rd (.t (.t .h)) rfl (.rd (.t (.t (.t .h))) rfl .nil))), hF⟩

/-! spec.IsFact -/
def s_IsFact_L1 : List Int → Nat → Option (Bool)
  | [], k22 => some true
  | x24 :: rest23, k22 => (s_l1In x24 0 9).bind fun r33 =>
    if (!r33) then (
      some false)
    else (
      s_IsFact_L1 rest23 (k22 + 1))
def s_IsFact (a_s : List Int) (a_f : Fact) : Option (Bool) :=
  ((s_IsSchema a_s).bind fun r4 =>
    bif (!r4) then (some true)
    else ((s_l1In a_f.Rel 0 (IntKind.i64.wrap ((a_s.length : Int) - 1))).bind fun r8 =>
      bif (!r8) then (some true)
      else ((ix a_s a_f.Rel).bind fun x12 =>
        some (((a_f.Values.length : Int) : Int) != x12)))).bind fun o2 =>
  match o2 with
  | c18 => if c18 then (
      some false)
    else (
      s_IsFact_L1 a_f.Values 0)
theorem s_IsFact_ok (a_s : List Int) (v0_0 : Sv) (a_f : Fact) (v1_1 : Sv) (R : Bool) (hF : s_IsFact a_s a_f = some R) :
    Fw.Spec Tryz.prog 124 [v0_0.v, (.agg [(.int .i64 a_f.Rel), v1_1.v].toArray)] [crd (RdS 3 rdInt) v0_0.v a_s, crd (RdS 3 rdInt) v1_1.v a_f.Values] (fun _ : Unit => (.bool R)) (fun _ => []) := by
  refine Spec_enter (n := 43) Tryz.func124 rfl rfl (rs := [.tmp 4]) rfl rfl rfl ?_
  intro H0 F0
  unfold s_IsFact at hF
  refine K_region (C_newR rfl (N_box (g := false) (v := (.agg [(.int .i64 a_f.Rel), v1_1.v].toArray)) ty114.sz (.tmp rfl rfl) rfl) (fun k1 => ?_))
  refine C_val (V_assign (v := (.bool false)) (.bool _)) ?_
  refine C_nil (K_in ?_)
  obtain ⟨o2, hio2, hO3⟩ := bind_some hF
  refine K_draw [0, 1, 2, 3, 4, 5, 6, 7, 8, 9, 10, 11, 12, 13, 14, 15, 16, 17, 18, 19, 20, 21, 22] [0, 1, 3, 7, 15, 31, 15, 79, 207, 511, 1023, 2047, 4095, 8191, 16383, 32767, 8191, 8191, 139263, 466943, 991231, 2097151, 4194303] [1, 9] mixed (by decide +kernel) ?_
  refine D_cut (fun f' cs' => ∃ (c18 : Bool) (g : Fr), c18 = o2 ∧ f' = updL g [(3, (.pointer (some ⟨k1, 0, some 0⟩))), (28, (.bool c18))] ∧ Ent cs' [cboR k1 114 (.agg [(.int .i64 a_f.Rel), v1_1.v].toArray), crd (RdS 3 rdInt) v1_1.v a_f.Values]) ?_ ?_
  · replace hF := hio2
    refine Dm v0_0.v rfl rfl rfl rfl ?_
    obtain ⟨r4, hx5, hF⟩ := bind_some hF
    refine D_act0 rfl rfl .no (.rd (.t .h) rfl .nil) .nil (fun ha => X_callS cf91 (.cons (EN ha (.tmp rfl rfl) rfl) .nil) (s_IsSchema_ok a_s v0_0 _ hx5)) (fun _ => ?_)
    refine D_val rfl .no (fun ha => V_not (b := r4) (EN ha (.tmp rfl rfl) rfl)) ?_
    refine Dm (.bool (!r4)) rfl rfl rfl rfl ?_
    rcases Bool.eq_false_or_eq_true (!r4) with hg7 | hg7
    · rw [hg7]
      try rw [hg7] at hF; dsimp only [cond_true, cond_false] at hF
      iterate 7 refine D_off 9 rfl rfl rfl rfl ?_
      refine D_val rfl .no (fun ha => V_pick (b := true) (u := (.bool true)) (v := undef) (EN ha (.tmp rfl rfl) rfl) (EN ha (.bool _) rfl) (EN ha (.tmp rfl rfl) rfl)) ?_
      refine Dm (.bool true) rfl rfl rfl rfl ?_
      iterate 9 refine D_off 18 rfl rfl rfl rfl ?_
      refine D_val rfl .no (fun ha => V_pick (b := true) (u := (.bool true)) (v := undef) (EN ha (.tmp rfl rfl) rfl) (EN ha (.bool _) rfl) (EN ha (.tmp rfl rfl) rfl)) ?_
      refine D_nil ?_
      obtain rfl := Option.some.inj hF
      exact ⟨_, _, rfl, (EqL.cons rfl (EqL.cons rfl (EqL.nil))).eq, (.sel (.rd .h rfl (.rd (.t (.t .h)) rfl .nil)))⟩
    rw [hg7]
    try rw [hg7] at hF; dsimp only [cond_true, cond_false] at hF
    refine D_val rfl (.on 9 rfl rfl rfl) (fun ha => V_fieldAddr (off := 0) fd114_0 (EN ha (.tmp rfl rfl) rfl)) ?_
    refine D_at rfl (.on 9 rfl rfl rfl) .h rfl (fun ha hp => V_load (v := (.int .i64 a_f.Rel)) ag3 (EN ha (.tmp rfl rfl) rfl) hp.2 rfl rfl) ?_
    refine D_val rfl (.on 9 rfl rfl rfl) (fun ha => V_move (v := v0_0.v) (EN ha (.tmp rfl rfl) rfl)) ?_
    refine D_at rfl (.on 9 rfl rfl rfl) (.t .h) rfl (fun ha hp => V_lenR (l := a_s.length) sl22 (EN ha (.tmp rfl rfl) rfl) (crd_len hp)) ?_
    refine D_val rfl (.on 9 rfl rfl rfl) (fun ha => V_sub (i := (a_s.length : Int)) (j := 1) (EN ha (.tmp rfl rfl) rfl) (EN ha (.int _ _) rfl)) ?_
    obtain ⟨r8, hx9, hF⟩ := bind_some hF
    refine D_act0 rfl rfl (.on 9 rfl rfl rfl) .nil .nil (fun ha => X_callS cf96 (.cons (EN ha (.tmp rfl rfl) rfl) (.cons (EN ha (.int _ _) rfl) (.cons (EN ha (.tmp rfl rfl) rfl) .nil))) (s_l1In_ok a_f.Rel 0 (IntKind.i64.wrap ((a_s.length : Int) - 1)) _ hx9)) (fun _ => ?_)
    refine D_val rfl (.on 9 rfl rfl rfl) (fun ha => V_not (b := r8) (EN ha (.tmp rfl rfl) rfl)) ?_
    refine D_val rfl .no (fun ha => V_pick (b := false) (u := (.bool true)) (v := (.bool (!r8))) (EN ha (.tmp rfl rfl) rfl) (EN ha (.bool _) rfl) (EN ha (.tmp rfl rfl) rfl)) ?_
    refine Dm (.bool (!r8)) rfl rfl rfl rfl ?_
    rcases Bool.eq_false_or_eq_true (!r8) with hg11 | hg11
    · rw [hg11]
      try rw [hg11] at hF; dsimp only [cond_true, cond_false] at hF
      iterate 9 refine D_off 18 rfl rfl rfl rfl ?_
      refine D_val rfl .no (fun ha => V_pick (b := true) (u := (.bool true)) (v := undef) (EN ha (.tmp rfl rfl) rfl) (EN ha (.bool _) rfl) (EN ha (.tmp rfl rfl) rfl)) ?_
      refine D_nil ?_
      obtain rfl := Option.some.inj hF
      exact ⟨_, _, rfl, (EqL.cons rfl (EqL.cons rfl (EqL.nil))).eq, (.sel (.rd .h rfl (.rd (.t (.t .h)) rfl .nil)))⟩
    rw [hg11]
    try rw [hg11] at hF; dsimp only [cond_true, cond_false] at hF
    refine D_val rfl (.on 18 rfl rfl rfl) (fun ha => V_fieldAddr (off := 1) fd114_1 (EN ha (.tmp rfl rfl) rfl)) ?_
    refine D_at rfl (.on 18 rfl rfl rfl) .h rfl (fun ha hp => V_load (v := v1_1.v) ag22 (EN ha (.tmp rfl rfl) rfl) hp.2 rfl rfl) ?_
    refine D_at rfl (.on 18 rfl rfl rfl) (.t (.t .h)) rfl (fun ha hp => V_lenR (l := a_f.Values.length) sl22 (EN ha (.tmp rfl rfl) rfl) (crd_len hp)) ?_
    refine D_val rfl (.on 18 rfl rfl rfl) (fun ha => V_move (v := v0_0.v) (EN ha (.tmp rfl rfl) rfl)) ?_
    refine D_val rfl (.on 18 rfl rfl rfl) (fun ha => V_fieldAddr (off := 0) fd114_0 (EN ha (.tmp rfl rfl) rfl)) ?_
    refine D_at rfl (.on 18 rfl rfl rfl) .h rfl (fun ha hp => V_load (v := (.int .i64 a_f.Rel)) ag3 (EN ha (.tmp rfl rfl) rfl) hp.2 rfl rfl) ?_
    obtain ⟨x12, hx13, hF⟩ := bind_some hF
    obtain ⟨hp14, hx15⟩ := ix_some hx13
    refine D_idx (a := x12) sl22 ty3.sz rfl (.on 18 rfl rfl rfl) (.tmp rfl rfl) (.tmp rfl rfl) rfl rfl (.t .h) hp14 hx15 (fun k16 j17 => ?_)
    refine D_ldS (w := (.int .i64 x12)) ag3 rfl (.on 18 rfl rfl rfl) (.tmp rfl rfl) rfl .h ls3_0 ?_
    refine D_val rfl (.on 18 rfl rfl rfl) (fun ha => V_neq (i := (a_f.Values.length : Int)) (j := x12) (EN ha (.tmp rfl rfl) rfl) (EN ha (.tmp rfl rfl) rfl)) ?_
    refine D_val rfl .no (fun ha => V_pick (b := false) (u := (.bool true)) (v := (.bool (((a_f.Values.length : Int) : Int) != x12))) (EN ha (.tmp rfl rfl) rfl) (EN ha (.bool _) rfl) (EN ha (.tmp rfl rfl) rfl)) ?_
    refine D_nil ?_
    obtain rfl := Option.some.inj hF
    exact ⟨_, _, rfl, (EqL.cons rfl (EqL.cons rfl (EqL.nil))).eq, (.sel (.rd (.t .h) rfl (.rd (.t (.t (.t .h))) rfl .nil)))⟩
  rintro _ _ ⟨c18, g39, rfl, rfl, hE⟩
  replace hF := hO3
  clear hO3
  try dsimp only at hF
  refine K_ent hE ?_
  refine CW_cond (b := c18) (.tmp rfl rfl) (fun hb38 => ?_) (fun hb38 => ?_)
  · rw [if_pos hb38] at hF
    refine K_region (C_val (V_assign (v := (.bool false)) (.bool _)) ?_)
    refine C_nil (CW_ret ?_)
    obtain rfl := Option.some.inj hF
    exact End_ret () (.tmp rfl rfl .nil) rfl (.sel .nil)
  rw [if_neg (by rw [hb38]; exact Bool.false_ne_true)] at hF
  refine CW_skip (K_in (K_region (C_val (V_assign (v := (.int .i64 0)) (.int _ _)) ?_)))
  refine C_nil (CW_block (CW_loop (m := a_f.Values.length) (fun m20 f' cs' => ∃ (g : Fr) (k22 : Nat) (rest23 : List Int), m20 = rest23.length ∧ f' = updL g [(3, (.pointer (some ⟨k1, 0, some 0⟩))), (5, (.int .i64 (k22 : Int)))] ∧ List.drop k22 a_f.Values = rest23 ∧ Ent cs' [cboR k1 114 (.agg [(.int .i64 a_f.Rel), v1_1.v].toArray), crd (RdS 3 rdInt) v1_1.v a_f.Values] ∧ s_IsFact_L1 rest23 k22 = some R) ⟨_, 0, _, rfl, (EqL.cons rfl (EqL.cons rfl (EqL.nil))).eq, rfl, (.sel (.rd .h rfl (.rd (.t .h) rfl .nil))), hF⟩ ?_))
  clear hF
  rintro m20 _ _ ⟨g21, k22, rest23, rfl, rfl, hd25, hE, hF⟩
  refine K_ent hE ?_
  clear hE
  refine K_pure (c := crd (RdS 3 rdInt) v1_1.v a_f.Values) (.t .h) crd_bound (fun hbd30 => ?_)
  rcases rest23 with _ | ⟨x24, rest23⟩
  · have hk26 := List.drop_eq_nil_iff.1 hd25
    have hfe29 : (decide (((k22 : Int) : Int) < (a_f.Values.length : Int))) = false := decide_eq_false (by omega)
    rw [s_IsFact_L1] at hF
    refine K_in (K_region (Cm (.int .i64 (k22 : Int)) rfl rfl ?_))
    refine C_val (V_fieldAddr (off := 1) fd114_1 (.tmp rfl rfl)) ?_
    refine C_at .h (fun hp => V_load (v := v1_1.v) ag22 (.tmp rfl rfl) hp.2 rfl rfl) ?_
    refine C_at (.t .h) (fun hp => V_lenR (l := a_f.Values.length) sl22 (.tmp rfl rfl) (crd_len hp)) ?_
    refine C_val (V_lss (i := (k22 : Int)) (j := (a_f.Values.length : Int)) (.tmp rfl rfl) (.tmp rfl rfl)) ?_
    refine C_nil (CW_cond (b := (decide (((k22 : Int) : Int) < (a_f.Values.length : Int)))) (.tmp rfl rfl) (fun hb => absurd (hfe29.symm.trans hb) (by decide)) (fun _ => ?_))
    refine CW_exit ?_
    iterate 2 refine CThen_exit ?_
    refine CIn_self (K_region (C_val (V_assign (v := (.bool true)) (.bool _)) ?_))
    refine C_nil (CW_ret ?_)
    obtain rfl := Option.some.inj hF
    exact End_ret () (.tmp rfl rfl .nil) rfl (.sel .nil)
  obtain ⟨hk26, hx27, hd28⟩ := drop_cons hd25
  have hfe29 : (decide (((k22 : Int) : Int) < (a_f.Values.length : Int))) = true := decide_eq_true (by omega)
  rw [s_IsFact_L1] at hF
  refine K_in (K_region (Cm (.int .i64 (k22 : Int)) rfl rfl ?_))
  refine C_val (V_fieldAddr (off := 1) fd114_1 (.tmp rfl rfl)) ?_
  refine C_at .h (fun hp => V_load (v := v1_1.v) ag22 (.tmp rfl rfl) hp.2 rfl rfl) ?_
  refine C_at (.t .h) (fun hp => V_lenR (l := a_f.Values.length) sl22 (.tmp rfl rfl) (crd_len hp)) ?_
  refine C_val (V_lss (i := (k22 : Int)) (j := (a_f.Values.length : Int)) (.tmp rfl rfl) (.tmp rfl rfl)) ?_
  refine C_nil (CW_cond (b := (decide (((k22 : Int) : Int) < (a_f.Values.length : Int)))) (.tmp rfl rfl) (fun _ => ?_) (fun hb => absurd (hfe29.symm.trans hb) (by decide)))
  refine CW_skip (K_block (K_region (C_val (V_fieldAddr (off := 1) fd114_1 (.tmp rfl rfl)) ?_)))
  refine C_at .h (fun hp => V_load (v := v1_1.v) ag22 (.tmp rfl rfl) hp.2 rfl rfl) ?_
  refine Cm (.int .i64 (k22 : Int)) rfl rfl ?_
  refine C_idx (a := x24) sl22 ty3.sz (.tmp rfl rfl) (.tmp rfl rfl) (.t .h) (Int.natCast_nonneg k22) hx27 (fun k31 j32 => ?_)
  refine C_ldS (w := (.int .i64 x24)) ag3 (.tmp rfl rfl) .h ls3_0 ?_
  obtain ⟨r33, hx34, hF⟩ := bind_some hF
  refine C_x0 .nil (X_callS cf96 (.cons (.tmp rfl rfl) (.cons (.int _ _) (.cons (.int _ _) .nil))) (s_l1In_ok x24 0 9 _ hx34)) (fun _ => ?_)
  refine C_val (V_not (b := r33) (.tmp rfl rfl)) ?_
  refine C_nil (CW_cond (b := (!r33)) (.tmp rfl rfl) (fun hb37 => ?_) (fun hb37 => ?_))
  · rw [if_pos hb37] at hF
    refine K_region (C_val (V_assign (v := (.bool false)) (.bool _)) ?_)
    refine C_nil (CW_ret ?_)
    obtain rfl := Option.some.inj hF
    exact End_ret () (.tmp rfl rfl .nil) rfl (.sel .nil)
  rw [if_neg (by rw [hb37]; exact Bool.false_ne_true)] at hF
  refine CW_skip (CW_region (Cm (.int .i64 (k22 : Int)) rfl rfl ?_))
  refine C_val (V_add (i := (k22 : Int)) (j := 1) (.tmp rfl rfl) (.int _ _)) ?_
  refine Ca (.int .i64 (IntKind.i64.wrap ((k22 : Int) + 1))) rfl rfl ?_
  refine C_nil ?_
  have hw36 : IntKind.i64.wrap ((k22 : Int) + 1) = ((k22 + 1 : Nat) : Int) := by rw [wrap_in (by omega) (by omega)]; rfl
  rw [hw36]
  exact ⟨_, Nat.lt_succ_self _, _, k22 + 1, rest23, rfl, (EqL.cons rfl (EqL.cons rfl (EqL.nil))).eq, hd28, (.sel (.rd (.t .h) rfl (.rd (.t (.t .h)) rfl .nil))), hF⟩

/-! spec.CompareFacts -/
def s_CompareFacts_L1 (a_a : Fact) (a_b : Fact) : Nat → Int → Option (Int)
  | 0, _ => none
  | m5 + 1, c4 => if ((decide ((c4 : Int) < (a_a.Values.length : Int))) && (decide ((c4 : Int) < (a_b.Values.length : Int)))) then (
      (ix a_a.Values c4).bind fun x15 =>
      (ix a_b.Values c4).bind fun x21 =>
      if (decide ((x15 : Int) < x21)) then (
        some (-1))
      else (
        (ix a_a.Values c4).bind fun x27 =>
        (ix a_b.Values c4).bind fun x33 =>
        if (decide ((x33 : Int) < x27)) then (
          some 1)
        else (
          s_CompareFacts_L1 a_a a_b m5 (IntKind.i64.wrap (c4 + 1)))))
    else (
      if (decide (((a_a.Values.length : Int) : Int) < (a_b.Values.length : Int))) then (
        some (-1))
      else (
        if (decide (((a_b.Values.length : Int) : Int) < (a_a.Values.length : Int))) then (
          some 1)
        else (
          some 0)))
def s_CompareFacts (a_a : Fact) (a_b : Fact) : Option (Int) :=
  if ((a_a.Rel : Int) != a_b.Rel) then (
    if (decide ((a_a.Rel : Int) < a_b.Rel)) then (
      some (-1))
    else (
      some 1))
  else (
    s_CompareFacts_L1 a_a a_b (((a_a.Values.length : Int) - 0).toNat + 2) 0)
theorem s_CompareFacts_ok (a_a : Fact) (v0_1 : Sv) (a_b : Fact) (v1_1 : Sv) (R : Int) (hF : s_CompareFacts a_a a_b = some R) :
    Fw.Spec Tryz.prog 125 [(.agg [(.int .i64 a_a.Rel), v0_1.v].toArray), (.agg [(.int .i64 a_b.Rel), v1_1.v].toArray)] [crd (RdS 3 rdInt) v0_1.v a_a.Values, crd (RdS 3 rdInt) v1_1.v a_b.Values] (fun _ : Unit => (.int .i64 R)) (fun _ => []) := by
  refine Spec_enter (n := 66) Tryz.func125 rfl rfl (rs := [.tmp 4]) rfl rfl rfl ?_
  intro H0 F0
  unfold s_CompareFacts at hF
  refine K_region (C_newR rfl (N_box (g := false) (v := (.agg [(.int .i64 a_a.Rel), v0_1.v].toArray)) ty114.sz (.tmp rfl rfl) rfl) (fun k1 => ?_))
  refine C_newR rfl (N_box (g := false) (v := (.agg [(.int .i64 a_b.Rel), v1_1.v].toArray)) ty114.sz (.tmp rfl rfl) rfl) (fun k2 => ?_)
  refine C_val (V_assign (v := (.int .i64 0)) (.int _ _)) ?_
  refine C_nil (K_in (K_region (C_val (V_fieldAddr (off := 0) fd114_0 (.tmp rfl rfl)) ?_)))
  refine C_at (.t .h) (fun hp => V_load (v := (.int .i64 a_a.Rel)) ag3 (.tmp rfl rfl) hp.2 rfl rfl) ?_
  refine C_val (V_fieldAddr (off := 0) fd114_0 (.tmp rfl rfl)) ?_
  refine C_at .h (fun hp => V_load (v := (.int .i64 a_b.Rel)) ag3 (.tmp rfl rfl) hp.2 rfl rfl) ?_
  refine C_val (V_neq (i := a_a.Rel) (j := a_b.Rel) (.tmp rfl rfl) (.tmp rfl rfl)) ?_
  refine C_nil (CW_cond (b := ((a_a.Rel : Int) != a_b.Rel)) (.tmp rfl rfl) (fun hb44 => ?_) (fun hb44 => ?_))
  · rw [if_pos hb44] at hF
    refine K_in (K_region (C_val (V_fieldAddr (off := 0) fd114_0 (.tmp rfl rfl)) ?_))
    refine C_at (.t .h) (fun hp => V_load (v := (.int .i64 a_a.Rel)) ag3 (.tmp rfl rfl) hp.2 rfl rfl) ?_
    refine C_val (V_fieldAddr (off := 0) fd114_0 (.tmp rfl rfl)) ?_
    refine C_at .h (fun hp => V_load (v := (.int .i64 a_b.Rel)) ag3 (.tmp rfl rfl) hp.2 rfl rfl) ?_
    refine C_val (V_lss (i := a_a.Rel) (j := a_b.Rel) (.tmp rfl rfl) (.tmp rfl rfl)) ?_
    refine C_nil (CW_cond (b := (decide ((a_a.Rel : Int) < a_b.Rel))) (.tmp rfl rfl) (fun hb3 => ?_) (fun hb3 => ?_))
    · rw [if_pos hb3] at hF
      refine K_region (C_val (V_assign (v := (.int .i64 (-1))) (.int _ _)) ?_)
      refine C_nil (CW_ret ?_)
      obtain rfl := Option.some.inj hF
      exact End_ret () (.tmp rfl rfl .nil) rfl (.sel .nil)
    rw [if_neg (by rw [hb3]; exact Bool.false_ne_true)] at hF
    refine CW_skip (K_region (C_val (V_assign (v := (.int .i64 1)) (.int _ _)) ?_))
    refine C_nil (CW_ret ?_)
    obtain rfl := Option.some.inj hF
    exact End_ret () (.tmp rfl rfl .nil) rfl (.sel .nil)
  rw [if_neg (by rw [hb44]; exact Bool.false_ne_true)] at hF
  refine CW_skip (K_in (K_region (C_val (V_assign (v := (.int .i64 0)) (.int _ _)) ?_)))
  refine C_nil (CW_block (CW_loop (m := (((a_a.Values.length : Int) - 0).toNat + 2)) (fun m5 f' cs' => ∃ (g : Fr) (c4 : Int), f' = updL g [(2, (.pointer (some ⟨k1, 0, some 0⟩))), (3, (.pointer (some ⟨k2, 0, some 0⟩))), (5, (.int .i64 c4))] ∧ Ent cs' [cboR k1 114 (.agg [(.int .i64 a_a.Rel), v0_1.v].toArray), crd (RdS 3 rdInt) v0_1.v a_a.Values, cboR k2 114 (.agg [(.int .i64 a_b.Rel), v1_1.v].toArray), crd (RdS 3 rdInt) v1_1.v a_b.Values] ∧ s_CompareFacts_L1 a_a a_b m5 c4 = some R) ⟨_, _, (EqL.cons rfl (EqL.cons rfl (EqL.cons rfl (EqL.nil)))).eq, (.sel (.rd (.t .h) rfl (.rd (.t (.t .h)) rfl (.rd .h rfl (.rd (.t (.t (.t .h))) rfl .nil))))), hF⟩ ?_))
  clear hF
  rintro m5 _ _ ⟨g6, c4, rfl, hE, hF⟩
  refine K_ent hE ?_
  clear hE
  rcases m5 with _ | m5
  · rw [s_CompareFacts_L1] at hF
    exact absurd hF (by simp)
  rw [s_CompareFacts_L1] at hF
  refine K_in (K_region (C_cut (fun f' cs' => ∃ (g : Fr), f' = updL g [(2, (.pointer (some ⟨k1, 0, some 0⟩))), (3, (.pointer (some ⟨k2, 0, some 0⟩))), (5, (.int .i64 c4)), (27, (.bool ((decide ((c4 : Int) < (a_a.Values.length : Int))) && (decide ((c4 : Int) < (a_b.Values.length : Int))))))] ∧ Ent cs' [cboR k1 114 (.agg [(.int .i64 a_a.Rel), v0_1.v].toArray), crd (RdS 3 rdInt) v0_1.v a_a.Values, cboR k2 114 (.agg [(.int .i64 a_b.Rel), v1_1.v].toArray), crd (RdS 3 rdInt) v1_1.v a_b.Values]) ?_ ?_))
  · refine Cm (.int .i64 c4) rfl rfl ?_
    refine C_val (V_fieldAddr (off := 1) fd114_1 (.tmp rfl rfl)) ?_
    refine C_at .h (fun hp => V_load (v := v0_1.v) ag22 (.tmp rfl rfl) hp.2 rfl rfl) ?_
    refine C_at (.t .h) (fun hp => V_lenR (l := a_a.Values.length) sl22 (.tmp rfl rfl) (crd_len hp)) ?_
    refine C_val (V_lss (i := c4) (j := (a_a.Values.length : Int)) (.tmp rfl rfl) (.tmp rfl rfl)) ?_
    refine Cm (.bool (decide ((c4 : Int) < (a_a.Values.length : Int)))) rfl rfl ?_
    rcases Bool.eq_false_or_eq_true (decide ((c4 : Int) < (a_a.Values.length : Int))) with hg13 | hg13
    · rw [hg13]
      try rw [hg13] at hF; dsimp only [cond_true, cond_false] at hF
      refine C_on (t := 21) rfl rfl rfl ?_
      refine Cm (.int .i64 c4) rfl rfl ?_
      refine C_on (t := 21) rfl rfl rfl ?_
      refine C_val (V_fieldAddr (off := 1) fd114_1 (.tmp rfl rfl)) ?_
      refine C_on (t := 21) rfl rfl rfl ?_
      refine C_at (.t (.t .h)) (fun hp => V_load (v := v1_1.v) ag22 (.tmp rfl rfl) hp.2 rfl rfl) ?_
      refine C_on (t := 21) rfl rfl rfl ?_
      refine C_at (.t (.t (.t .h))) (fun hp => V_lenR (l := a_b.Values.length) sl22 (.tmp rfl rfl) (crd_len hp)) ?_
      refine C_on (t := 21) rfl rfl rfl ?_
      refine C_val (V_lss (i := c4) (j := (a_b.Values.length : Int)) (.tmp rfl rfl) (.tmp rfl rfl)) ?_
      refine C_val (V_pick (b := true) (u := (.bool (decide ((c4 : Int) < (a_b.Values.length : Int))))) (v := (.bool false)) (.tmp rfl rfl) (.tmp rfl rfl) (.bool _)) ?_
      refine C_nil ?_
      exact ⟨_, (EqL.cons rfl (EqL.cons rfl (EqL.cons rfl (EqL.cons rfl (EqL.nil))))).eq, (.sel (.rd .h rfl (.rd (.t .h) rfl (.rd (.t (.t .h)) rfl (.rd (.t (.t (.t .h))) rfl .nil)))))⟩
    rw [hg13]
    try rw [hg13] at hF; dsimp only [cond_true, cond_false] at hF
    iterate 5 refine C_off (t := 21) rfl rfl rfl ?_
    refine C_val (V_pick (b := false) (u := undef) (v := (.bool false)) (.tmp rfl rfl) (.tmp rfl rfl) (.bool _)) ?_
    refine C_nil ?_
    exact ⟨_, (EqL.cons rfl (EqL.cons rfl (EqL.cons rfl (EqL.cons rfl (EqL.nil))))).eq, (.sel (.rd .h rfl (.rd (.t .h) rfl (.rd (.t (.t .h)) rfl (.rd (.t (.t (.t .h))) rfl .nil)))))⟩
  rintro _ _ ⟨g14, rfl, hE⟩
  refine K_ent hE ?_
  refine CW_cond (b := ((decide ((c4 : Int) < (a_a.Values.length : Int))) && (decide ((c4 : Int) < (a_b.Values.length : Int))))) (.tmp rfl rfl) (fun hb43 => ?_) (fun hb43 => ?_)
  · rw [if_pos hb43] at hF
    refine CW_skip (K_block (K_in (K_draw [0, 1, 2, 3, 4, 5, 6, 7, 8, 9, 10] [0, 1, 0, 7, 15, 0, 32, 0, 224, 480, 1023] [] mixed (by decide +kernel) ?_)))
    refine D_val rfl .no (fun ha => V_fieldAddr (off := 1) fd114_1 (EN ha (.tmp rfl rfl) rfl)) ?_
    refine D_at rfl .no .h rfl (fun ha hp => V_load (v := v0_1.v) ag22 (EN ha (.tmp rfl rfl) rfl) hp.2 rfl rfl) ?_
    refine Dm (.int .i64 c4) rfl rfl rfl rfl ?_
    obtain ⟨x15, hx16, hF⟩ := bind_some hF
    obtain ⟨hp17, hx18⟩ := ix_some hx16
    refine D_idx (a := x15) sl22 ty3.sz rfl .no (.tmp rfl rfl) (.tmp rfl rfl) rfl rfl (.t .h) hp17 hx18 (fun k19 j20 => ?_)
    refine D_ldS (w := (.int .i64 x15)) ag3 rfl .no (.tmp rfl rfl) rfl .h ls3_0 ?_
    refine D_val rfl .no (fun ha => V_fieldAddr (off := 1) fd114_1 (EN ha (.tmp rfl rfl) rfl)) ?_
    refine D_at rfl .no (.t (.t (.t .h))) rfl (fun ha hp => V_load (v := v1_1.v) ag22 (EN ha (.tmp rfl rfl) rfl) hp.2 rfl rfl) ?_
    refine Dm (.int .i64 c4) rfl rfl rfl rfl ?_
    obtain ⟨x21, hx22, hF⟩ := bind_some hF
    obtain ⟨hp23, hx24⟩ := ix_some hx22
    refine D_idx (a := x21) sl22 ty3.sz rfl .no (.tmp rfl rfl) (.tmp rfl rfl) rfl rfl (.t (.t (.t (.t .h)))) hp23 hx24 (fun k25 j26 => ?_)
    refine D_ldS (w := (.int .i64 x21)) ag3 rfl .no (.tmp rfl rfl) rfl .h ls3_0 ?_
    refine D_val rfl .no (fun ha => V_lss (i := x15) (j := x21) (EN ha (.tmp rfl rfl) rfl) (EN ha (.tmp rfl rfl) rfl)) ?_
    refine D_nil (CW_cond (b := (decide ((x15 : Int) < x21))) (.tmp rfl rfl) (fun hb40 => ?_) (fun hb40 => ?_))
    · rw [if_pos hb40] at hF
      refine K_region (C_val (V_assign (v := (.int .i64 (-1))) (.int _ _)) ?_)
      refine C_nil (CW_ret ?_)
      obtain rfl := Option.some.inj hF
      exact End_ret () (.tmp rfl rfl .nil) rfl (.sel .nil)
    rw [if_neg (by rw [hb40]; exact Bool.false_ne_true)] at hF
    refine CW_skip (K_draw [0, 1, 2, 3, 4, 5, 6, 7, 8, 9, 10] [0, 1, 0, 7, 15, 0, 32, 0, 224, 480, 1023] [] mixed (by decide +kernel) ?_)
    refine D_val rfl .no (fun ha => V_fieldAddr (off := 1) fd114_1 (EN ha (.tmp rfl rfl) rfl)) ?_
    refine D_at rfl .no (.t (.t .h)) rfl (fun ha hp => V_load (v := v0_1.v) ag22 (EN ha (.tmp rfl rfl) rfl) hp.2 rfl rfl) ?_
    refine Dm (.int .i64 c4) rfl rfl rfl rfl ?_
    obtain ⟨x27, hx28, hF⟩ := bind_some hF
    obtain ⟨hp29, hx30⟩ := ix_some hx28
    refine D_idx (a := x27) sl22 ty3.sz rfl .no (.tmp rfl rfl) (.tmp rfl rfl) rfl rfl (.t (.t (.t .h))) hp29 hx30 (fun k31 j32 => ?_)
    refine D_ldS (w := (.int .i64 x27)) ag3 rfl .no (.tmp rfl rfl) rfl .h ls3_0 ?_
    refine D_val rfl .no (fun ha => V_fieldAddr (off := 1) fd114_1 (EN ha (.tmp rfl rfl) rfl)) ?_
    refine D_at rfl .no (.t (.t (.t (.t (.t .h))))) rfl (fun ha hp => V_load (v := v1_1.v) ag22 (EN ha (.tmp rfl rfl) rfl) hp.2 rfl rfl) ?_
    refine Dm (.int .i64 c4) rfl rfl rfl rfl ?_
    obtain ⟨x33, hx34, hF⟩ := bind_some hF
    obtain ⟨hp35, hx36⟩ := ix_some hx34
    refine D_idx (a := x33) sl22 ty3.sz rfl .no (.tmp rfl rfl) (.tmp rfl rfl) rfl rfl (.t (.t (.t (.t (.t (.t .h)))))) hp35 hx36 (fun k37 j38 => ?_)
    refine D_ldS (w := (.int .i64 x33)) ag3 rfl .no (.tmp rfl rfl) rfl .h ls3_0 ?_
    refine D_val rfl .no (fun ha => V_gtr (i := x27) (j := x33) (EN ha (.tmp rfl rfl) rfl) (EN ha (.tmp rfl rfl) rfl)) ?_
    refine D_nil (CW_cond (b := (decide ((x33 : Int) < x27))) (.tmp rfl rfl) (fun hb39 => ?_) (fun hb39 => ?_))
    · rw [if_pos hb39] at hF
      refine K_region (C_val (V_assign (v := (.int .i64 1)) (.int _ _)) ?_)
      refine C_nil (CW_ret ?_)
      obtain rfl := Option.some.inj hF
      exact End_ret () (.tmp rfl rfl .nil) rfl (.sel .nil)
    rw [if_neg (by rw [hb39]; exact Bool.false_ne_true)] at hF
    refine CW_skip (CW_region (Cm (.int .i64 c4) rfl rfl ?_))
    refine C_val (V_add (i := c4) (j := 1) (.tmp rfl rfl) (.int _ _)) ?_
    refine Ca (.int .i64 (IntKind.i64.wrap (c4 + 1))) rfl rfl ?_
    refine C_nil ?_
    exact ⟨m5, Nat.lt_succ_self _, _, _, (EqL.cons rfl (EqL.cons rfl (EqL.cons rfl (EqL.nil)))).eq, (.sel (.rd (.t (.t (.t (.t .h)))) rfl (.rd (.t (.t (.t (.t (.t .h))))) rfl (.rd (.t (.t (.t (.t (.t (.t .h)))))) rfl (.rd (.t (.t (.t (.t (.t (.t (.t .h))))))) rfl .nil))))), hF⟩
  rw [if_neg (by rw [hb43]; exact Bool.false_ne_true)] at hF
  refine CW_exit ?_
  iterate 2 refine CThen_exit ?_
  refine CIn_self (K_in (K_region (C_val (V_fieldAddr (off := 1) fd114_1 (.tmp rfl rfl)) ?_)))
  refine C_at .h (fun hp => V_load (v := v0_1.v) ag22 (.tmp rfl rfl) hp.2 rfl rfl) ?_
  refine C_at (.t .h) (fun hp => V_lenR (l := a_a.Values.length) sl22 (.tmp rfl rfl) (crd_len hp)) ?_
  refine C_val (V_fieldAddr (off := 1) fd114_1 (.tmp rfl rfl)) ?_
  refine C_at (.t (.t .h)) (fun hp => V_load (v := v1_1.v) ag22 (.tmp rfl rfl) hp.2 rfl rfl) ?_
  refine C_at (.t (.t (.t .h))) (fun hp => V_lenR (l := a_b.Values.length) sl22 (.tmp rfl rfl) (crd_len hp)) ?_
  refine C_val (V_lss (i := (a_a.Values.length : Int)) (j := (a_b.Values.length : Int)) (.tmp rfl rfl) (.tmp rfl rfl)) ?_
  refine C_nil (CW_cond (b := (decide (((a_a.Values.length : Int) : Int) < (a_b.Values.length : Int)))) (.tmp rfl rfl) (fun hb42 => ?_) (fun hb42 => ?_))
  · rw [if_pos hb42] at hF
    refine K_region (C_val (V_assign (v := (.int .i64 (-1))) (.int _ _)) ?_)
    refine C_nil (CW_ret ?_)
    obtain rfl := Option.some.inj hF
    exact End_ret () (.tmp rfl rfl .nil) rfl (.sel .nil)
  rw [if_neg (by rw [hb42]; exact Bool.false_ne_true)] at hF
  refine CW_skip (K_in (K_region (C_val (V_fieldAddr (off := 1) fd114_1 (.tmp rfl rfl)) ?_)))
  refine C_at .h (fun hp => V_load (v := v0_1.v) ag22 (.tmp rfl rfl) hp.2 rfl rfl) ?_
  refine C_at (.t .h) (fun hp => V_lenR (l := a_a.Values.length) sl22 (.tmp rfl rfl) (crd_len hp)) ?_
  refine C_val (V_fieldAddr (off := 1) fd114_1 (.tmp rfl rfl)) ?_
  refine C_at (.t (.t .h)) (fun hp => V_load (v := v1_1.v) ag22 (.tmp rfl rfl) hp.2 rfl rfl) ?_
  refine C_at (.t (.t (.t .h))) (fun hp => V_lenR (l := a_b.Values.length) sl22 (.tmp rfl rfl) (crd_len hp)) ?_
  refine C_val (V_gtr (i := (a_a.Values.length : Int)) (j := (a_b.Values.length : Int)) (.tmp rfl rfl) (.tmp rfl rfl)) ?_
  refine C_nil (CW_cond (b := (decide (((a_b.Values.length : Int) : Int) < (a_a.Values.length : Int)))) (.tmp rfl rfl) (fun hb41 => ?_) (fun hb41 => ?_))
  · rw [if_pos hb41] at hF
    refine K_region (C_val (V_assign (v := (.int .i64 1)) (.int _ _)) ?_)
    refine C_nil (CW_ret ?_)
    obtain rfl := Option.some.inj hF
    exact End_ret () (.tmp rfl rfl .nil) rfl (.sel .nil)
  rw [if_neg (by rw [hb41]; exact Bool.false_ne_true)] at hF
  refine CW_skip (K_region (C_val (V_assign (v := (.int .i64 0)) (.int _ _)) ?_))
  refine C_nil (CW_ret ?_)
  obtain rfl := Option.some.inj hF
  exact End_ret () (.tmp rfl rfl .nil) rfl (.sel .nil)

/-! spec.AreFacts -/
def s_AreFacts_L1 (a_s : List Int) (a_l : List Fact) : List Fact → Nat → Option (Bool)
  | [], k4 => ((s_IsSchema a_s).bind fun r15 =>
      bif r15 then (some (decide (((a_l.length : Int) : Int) ≤ 24)))
      else (some false)).bind fun o13 =>
    match o13 with
    | c19 => some c19
  | x6 :: rest5, k4 => ((s_IsFact a_s x6).bind fun r26 =>
      bif (!r26) then (some true)
      else (bif (decide ((0 : Int) < (k4 : Int))) then ((ix a_l (IntKind.i64.wrap ((k4 : Int) - 1))).bind fun x31 =>
          (s_CompareFacts x31 x6).bind fun r41 =>
          some (decide ((0 : Int) ≤ r41)))
        else (some false))).bind fun o21 =>
    match o21 with
    | c44 => if c44 then (
        some false)
      else (
        s_AreFacts_L1 a_s a_l rest5 (k4 + 1))
def s_AreFacts (a_s : List Int) (a_l : List Fact) : Option (Bool) :=
  s_AreFacts_L1 a_s a_l a_l 0
theorem s_AreFacts_ok (a_s : List Int) (v0_0 : Sv) (a_l : List Fact) (v1_0 : Sv) (R : Bool) (hF : s_AreFacts a_s a_l = some R) :
    Fw.Spec Tryz.prog 65 [v0_0.v, v1_0.v] [crd (RdS 3 rdInt) v0_0.v a_s, crd (RdS 114 rd114) v1_0.v a_l] (fun _ : Unit => (.bool R)) (fun _ => []) := by
  refine Spec_enter (n := 43) Tryz.func65 rfl rfl (rs := [.tmp 4]) rfl rfl rfl ?_
  intro H0 F0
  unfold s_AreFacts at hF
  refine K_region (C_val (V_assign (v := (.bool false)) (.bool _)) ?_)
  refine C_nil (K_in (K_region (C_val (V_assign (v := (.int .i64 0)) (.int _ _)) ?_)))
  refine C_nil (CW_block (CW_loop (m := a_l.length) (fun m2 f' cs' => ∃ (g : Fr) (k4 : Nat) (rest5 : List Fact), m2 = rest5.length ∧ f' = updL g [(0, v0_0.v), (1, v1_0.v), (5, (.int .i64 (k4 : Int)))] ∧ List.drop k4 a_l = rest5 ∧ Ent cs' [crd (RdS 3 rdInt) v0_0.v a_s, crd (RdS 114 rd114) v1_0.v a_l] ∧ s_AreFacts_L1 a_s a_l rest5 k4 = some R) ⟨_, 0, _, rfl, (EqL.cons rfl (EqL.cons rfl (EqL.cons rfl (EqL.nil)))).eq, rfl, (.sel (.rd .h rfl (.rd (.t .h) rfl .nil))), hF⟩ ?_))
  clear hF
  rintro m2 _ _ ⟨g3, k4, rest5, rfl, rfl, hd7, hE, hF⟩
  refine K_ent hE ?_
  clear hE
  refine K_pure (c := crd (RdS 114 rd114) v1_0.v a_l) (.t .h) crd_bound (fun hbd12 => ?_)
  rcases rest5 with _ | ⟨x6, rest5⟩
  · have hk8 := List.drop_eq_nil_iff.1 hd7
    have hfe11 : (decide (((k4 : Int) : Int) < (a_l.length : Int))) = false := decide_eq_false (by omega)
    rw [s_AreFacts_L1] at hF
    refine K_in (K_region (Cm (.int .i64 (k4 : Int)) rfl rfl ?_))
    refine Cm v1_0.v rfl rfl ?_
    refine C_at (.t .h) (fun hp => V_lenR (l := a_l.length) sl40 (.tmp rfl rfl) (crd_len hp)) ?_
    refine C_val (V_lss (i := (k4 : Int)) (j := (a_l.length : Int)) (.tmp rfl rfl) (.tmp rfl rfl)) ?_
    refine C_nil (CW_cond (b := (decide (((k4 : Int) : Int) < (a_l.length : Int)))) (.tmp rfl rfl) (fun hb => absurd (hfe11.symm.trans hb) (by decide)) (fun _ => ?_))
    refine CW_exit ?_
    iterate 2 refine CThen_exit ?_
    refine CIn_self ?_
    obtain ⟨o13, hio13, hO14⟩ := bind_some hF
    refine K_region (C_cut (fun f' cs' => ∃ (c19 : Bool) (g : Fr), c19 = o13 ∧ f' = updL g [(4, (.bool c19))] ∧ Ent cs' []) ?_ ?_)
    · replace hF := hio13
      refine Cm v0_0.v rfl rfl ?_
      obtain ⟨r15, hx16, hF⟩ := bind_some hF
      refine C_x0 (.rd .h rfl .nil) (X_callS cf91 (.cons (.tmp rfl rfl) .nil) (s_IsSchema_ok a_s v0_0 _ hx16)) (fun _ => ?_)
      refine Cm (.bool r15) rfl rfl ?_
      rcases Bool.eq_false_or_eq_true r15 with hg18 | hg18
      · rw [hg18]
        try rw [hg18] at hF; dsimp only [cond_true, cond_false] at hF
        refine C_on (t := 38) rfl rfl rfl ?_
        refine Cm v1_0.v rfl rfl ?_
        refine C_on (t := 38) rfl rfl rfl ?_
        refine C_at (.t .h) (fun hp => V_lenR (l := a_l.length) sl40 (.tmp rfl rfl) (crd_len hp)) ?_
        refine C_on (t := 38) rfl rfl rfl ?_
        refine C_val (V_leq (i := (a_l.length : Int)) (j := 24) (.tmp rfl rfl) (.int _ _)) ?_
        refine C_val (V_pick (b := true) (u := (.bool (decide (((a_l.length : Int) : Int) ≤ 24)))) (v := (.bool false)) (.tmp rfl rfl) (.tmp rfl rfl) (.bool _)) ?_
        refine Ca (.bool (decide (((a_l.length : Int) : Int) ≤ 24))) rfl rfl ?_
        refine C_nil ?_
        obtain rfl := Option.some.inj hF
        exact ⟨_, _, rfl, (EqL.cons rfl (EqL.nil)).eq, (.sel .nil)⟩
      rw [hg18]
      try rw [hg18] at hF; dsimp only [cond_true, cond_false] at hF
      iterate 3 refine C_off (t := 38) rfl rfl rfl ?_
      refine C_val (V_pick (b := false) (u := undef) (v := (.bool false)) (.tmp rfl rfl) (.tmp rfl rfl) (.bool _)) ?_
      refine Ca (.bool false) rfl rfl ?_
      refine C_nil ?_
      obtain rfl := Option.some.inj hF
      exact ⟨_, _, rfl, (EqL.cons rfl (EqL.nil)).eq, (.sel .nil)⟩
    rintro _ _ ⟨c19, g20, rfl, rfl, hE⟩
    replace hF := hO14
    clear hO14
    try dsimp only at hF
    refine K_ent hE ?_
    refine CW_ret ?_
    obtain rfl := Option.some.inj hF
    exact End_ret () (.tmp rfl rfl .nil) rfl (.sel .nil)
  obtain ⟨hk8, hx9, hd10⟩ := drop_cons hd7
  have hfe11 : (decide (((k4 : Int) : Int) < (a_l.length : Int))) = true := decide_eq_true (by omega)
  rw [s_AreFacts_L1] at hF
  refine K_in (K_region (Cm (.int .i64 (k4 : Int)) rfl rfl ?_))
  refine Cm v1_0.v rfl rfl ?_
  refine C_at (.t .h) (fun hp => V_lenR (l := a_l.length) sl40 (.tmp rfl rfl) (crd_len hp)) ?_
  refine C_val (V_lss (i := (k4 : Int)) (j := (a_l.length : Int)) (.tmp rfl rfl) (.tmp rfl rfl)) ?_
  refine C_nil (CW_cond (b := (decide (((k4 : Int) : Int) < (a_l.length : Int)))) (.tmp rfl rfl) (fun _ => ?_) (fun hb => absurd (hfe11.symm.trans hb) (by decide)))
  refine CW_skip (K_block ?_)
  obtain ⟨o21, hio21, hO22⟩ := bind_some hF
  refine K_draw [0, 1, 2, 3, 4, 5, 6, 7, 8, 9, 10, 11, 12, 13, 14, 15, 16, 17, 18, 19, 20, 21, 22, 23] [0, 0, 0, 6, 14, 31, 63, 127, 255, 511, 1023, 2047, 2047, 6143, 16383, 32767, 2047, 2047, 198655, 460799, 1048575, 2097151, 4194303, 8388607] [5, 20] mixed (by decide +kernel) ?_
  refine D_cut (fun f' cs' => ∃ (c44 : Bool) (g : Fr), c44 = o21 ∧ f' = updL g [(0, v0_0.v), (1, v1_0.v), (5, (.int .i64 (k4 : Int))), (35, (.bool c44))] ∧ Ent cs' [crd (RdS 3 rdInt) v0_0.v a_s, crd (RdS 114 rd114) v1_0.v a_l]) ?_ ?_
  · replace hF := hio21
    refine Dm v0_0.v rfl rfl rfl rfl ?_
    refine Dm v1_0.v rfl rfl rfl rfl ?_
    refine Dm (.int .i64 (k4 : Int)) rfl rfl rfl rfl ?_
    refine D_idx (a := x6) sl40 ty114.sz rfl .no (.tmp rfl rfl) (.tmp rfl rfl) rfl rfl (.t .h) (Int.natCast_nonneg k4) hx9 (fun k23 j24 => ?_)
    refine D_ldA1 (ul114_0_114 x6) ag114 ty114.sz rfl rfl .no (.tmp rfl rfl) rfl .h la114_0_114 (fun p25 => ?_)
    obtain ⟨r26, hx27, hF⟩ := bind_some hF
    refine D_act0 rfl rfl .no (.rd (.t (.t .h)) rfl (.rd .h rfl .nil)) .nil (fun ha => X_callS cf124 (.cons (EN ha (.tmp rfl rfl) rfl) (.cons (EN ha (.tmp rfl rfl) rfl) .nil)) (s_IsFact_ok a_s v0_0 x6 p25 _ hx27)) (fun _ => ?_)
    refine D_val rfl .no (fun ha => V_not (b := r26) (EN ha (.tmp rfl rfl) rfl)) ?_
    refine Dm (.bool (!r26)) rfl rfl rfl rfl ?_
    rcases Bool.eq_false_or_eq_true (!r26) with hg29 | hg29
    · rw [hg29]
      try rw [hg29] at hF; dsimp only [cond_true, cond_false] at hF
      iterate 3 refine D_off 19 rfl rfl rfl rfl ?_
      iterate 11 refine D_offU 22 rfl rfl rfl rfl ?_
      refine D_off 19 rfl rfl rfl rfl ?_
      refine D_val rfl .no (fun ha => V_pick (b := true) (u := (.bool true)) (v := undef) (EN ha (.tmp rfl rfl) rfl) (EN ha (.bool _) rfl) (EN ha (.tmp rfl rfl) rfl)) ?_
      refine D_nil ?_
      obtain rfl := Option.some.inj hF
      exact ⟨_, _, rfl, (EqL.cons rfl (EqL.cons rfl (EqL.cons rfl (EqL.cons rfl (EqL.nil))))).eq, (.sel (.rd (.t (.t .h)) rfl (.rd (.t (.t (.t .h))) rfl .nil)))⟩
    rw [hg29]
    try rw [hg29] at hF; dsimp only [cond_true, cond_false] at hF
    refine D_val rfl (.on 19 rfl rfl rfl) (fun ha => V_move (v := (.int .i64 (k4 : Int))) (EN ha (.tmp rfl rfl) rfl)) ?_
    refine D_val rfl (.on 19 rfl rfl rfl) (fun ha => V_gtr (i := (k4 : Int)) (j := 0) (EN ha (.tmp rfl rfl) rfl) (EN ha (.int _ _) rfl)) ?_
    refine D_val rfl (.on 19 rfl rfl rfl) (fun ha => V_move (v := (.bool (decide ((0 : Int) < (k4 : Int))))) (EN ha (.tmp rfl rfl) rfl)) ?_
    rcases Bool.eq_false_or_eq_true (decide ((0 : Int) < (k4 : Int))) with hg30 | hg30
    · rw [hg30]
      try rw [hg30] at hF; dsimp only [cond_true, cond_false] at hF
      refine D_val rfl (.on 22 rfl rfl rfl) (fun ha => V_move (v := v1_0.v) (EN ha (.tmp rfl rfl) rfl)) ?_
      refine D_val rfl (.on 22 rfl rfl rfl) (fun ha => V_move (v := (.int .i64 (k4 : Int))) (EN ha (.tmp rfl rfl) rfl)) ?_
      refine D_val rfl (.on 22 rfl rfl rfl) (fun ha => V_sub (i := (k4 : Int)) (j := 1) (EN ha (.tmp rfl rfl) rfl) (EN ha (.int _ _) rfl)) ?_
      obtain ⟨x31, hx32, hF⟩ := bind_some hF
      obtain ⟨hp33, hx34⟩ := ix_some hx32
      refine D_idx (a := x31) sl40 ty114.sz rfl (.on 22 rfl rfl rfl) (.tmp rfl rfl) (.tmp rfl rfl) rfl rfl (.t (.t (.t .h))) hp33 hx34 (fun k35 j36 => ?_)
      refine D_ldA1 (ul114_0_114 x31) ag114 ty114.sz rfl rfl (.on 22 rfl rfl rfl) (.tmp rfl rfl) rfl .h la114_0_114 (fun p37 => ?_)
      refine D_val rfl (.on 22 rfl rfl rfl) (fun ha => V_move (v := v1_0.v) (EN ha (.tmp rfl rfl) rfl)) ?_
      refine D_val rfl (.on 22 rfl rfl rfl) (fun ha => V_move (v := (.int .i64 (k4 : Int))) (EN ha (.tmp rfl rfl) rfl)) ?_
      refine D_idx (a := x6) sl40 ty114.sz rfl (.on 22 rfl rfl rfl) (.tmp rfl rfl) (.tmp rfl rfl) rfl rfl (.t (.t (.t (.t (.t .h))))) (Int.natCast_nonneg k4) hx9 (fun k38 j39 => ?_)
      refine D_ldA1 (ul114_0_114 x6) ag114 ty114.sz rfl rfl (.on 22 rfl rfl rfl) (.tmp rfl rfl) rfl .h la114_0_114 (fun p40 => ?_)
      obtain ⟨r41, hx42, hF⟩ := bind_some hF
      refine D_act0 rfl rfl (.on 22 rfl rfl rfl) (.rd (.t (.t .h)) rfl (.rd .h rfl .nil)) .nil (fun ha => X_callS cf125 (.cons (EN ha (.tmp rfl rfl) rfl) (.cons (EN ha (.tmp rfl rfl) rfl) .nil)) (s_CompareFacts_ok x31 p37 x6 p40 _ hx42)) (fun _ => ?_)
      refine D_val rfl (.on 22 rfl rfl rfl) (fun ha => V_geq (i := r41) (j := 0) (EN ha (.tmp rfl rfl) rfl) (EN ha (.int _ _) rfl)) ?_
      refine D_val rfl (.on 19 rfl rfl rfl) (fun ha => V_pick (b := true) (u := (.bool (decide ((0 : Int) ≤ r41)))) (v := (.bool false)) (EN ha (.tmp rfl rfl) rfl) (EN ha (.tmp rfl rfl) rfl) (EN ha (.bool _) rfl)) ?_
      refine D_val rfl .no (fun ha => V_pick (b := false) (u := (.bool true)) (v := (.bool (decide ((0 : Int) ≤ r41)))) (EN ha (.tmp rfl rfl) rfl) (EN ha (.bool _) rfl) (EN ha (.tmp rfl rfl) rfl)) ?_
      refine D_nil ?_
      obtain rfl := Option.some.inj hF
      exact ⟨_, _, rfl, (EqL.cons rfl (EqL.cons rfl (EqL.cons rfl (EqL.cons rfl (EqL.nil))))).eq, (.sel (.rd (.t (.t (.t (.t (.t (.t .h)))))) rfl (.rd (.t (.t (.t (.t (.t (.t (.t .h))))))) rfl .nil)))⟩
    rw [hg30]
    try rw [hg30] at hF; dsimp only [cond_true, cond_false] at hF
    iterate 11 refine D_off 22 rfl rfl rfl rfl ?_
    refine D_val rfl (.on 19 rfl rfl rfl) (fun ha => V_pick (b := false) (u := undef) (v := (.bool false)) (EN ha (.tmp rfl rfl) rfl) (EN ha (.tmp rfl rfl) rfl) (EN ha (.bool _) rfl)) ?_
    refine D_val rfl .no (fun ha => V_pick (b := false) (u := (.bool true)) (v := (.bool false)) (EN ha (.tmp rfl rfl) rfl) (EN ha (.bool _) rfl) (EN ha (.tmp rfl rfl) rfl)) ?_
    refine D_nil ?_
    obtain rfl := Option.some.inj hF
    exact ⟨_, _, rfl, (EqL.cons rfl (EqL.cons rfl (EqL.cons rfl (EqL.cons rfl (EqL.nil))))).eq, (.sel (.rd (.t (.t .h)) rfl (.rd (.t (.t (.t .h))) rfl .nil)))⟩
  rintro _ _ ⟨c44, g47, rfl, rfl, hE⟩
  replace hF := hO22
  clear hO22
  try dsimp only at hF
  refine K_ent hE ?_
  refine CW_cond (b := c44) (.tmp rfl rfl) (fun hb46 => ?_) (fun hb46 => ?_)
  · rw [if_pos hb46] at hF
    refine K_region (C_val (V_assign (v := (.bool false)) (.bool _)) ?_)
    refine C_nil (CW_ret ?_)
    obtain rfl := Option.some.inj hF
    exact End_ret () (.tmp rfl rfl .nil) rfl (.sel .nil)
  rw [if_neg (by rw [hb46]; exact Bool.false_ne_true)] at hF
  refine CW_skip (CW_region (Cm (.int .i64 (k4 : Int)) rfl rfl ?_))
  refine C_val (V_add (i := (k4 : Int)) (j := 1) (.tmp rfl rfl) (.int _ _)) ?_
  refine Ca (.int .i64 (IntKind.i64.wrap ((k4 : Int) + 1))) rfl rfl ?_
  refine C_nil ?_
  have hw45 : IntKind.i64.wrap ((k4 : Int) + 1) = ((k4 + 1 : Nat) : Int) := by rw [wrap_in (by omega) (by omega)]; rfl
  rw [hw45]
  exact ⟨_, Nat.lt_succ_self _, _, k4 + 1, rest5, rfl, (EqL.cons rfl (EqL.cons rfl (EqL.cons rfl (EqL.nil)))).eq, hd10, (.sel (.rd .h rfl (.rd (.t .h) rfl .nil))), hF⟩

/-! spec.l2Has -/
def s_l2Has_L1 (a_x : Int) : List Int → Nat → Option (Bool)
  | [], k4 => some false
  | x6 :: rest5, k4 => if ((x6 : Int) == a_x) then (
      some true)
    else (
      s_l2Has_L1 a_x rest5 (k4 + 1))
def s_l2Has (a_l : List Int) (a_x : Int) : Option (Bool) :=
  s_l2Has_L1 a_x a_l 0
theorem s_l2Has_ok (a_l : List Int) (v0_0 : Sv) (a_x : Int) (R : Bool) (hF : s_l2Has a_l a_x = some R) :
    Fw.Spec Tryz.prog 185 [v0_0.v, (.int .i64 a_x)] [crd (RdS 3 rdInt) v0_0.v a_l] (fun _ : Unit => (.bool R)) (fun _ => []) := by
  refine Spec_enter (n := 18) Tryz.func185 rfl rfl (rs := [.tmp 4]) rfl rfl rfl ?_
  intro H0 F0
  unfold s_l2Has at hF
  refine K_region (C_val (V_assign (v := (.bool false)) (.bool _)) ?_)
  refine C_nil (K_in (K_region (C_val (V_assign (v := (.int .i64 0)) (.int _ _)) ?_)))
  refine C_nil (CW_block (CW_loop (m := a_l.length) (fun m2 f' cs' => ∃ (g : Fr) (k4 : Nat) (rest5 : List Int), m2 = rest5.length ∧ f' = updL g [(0, v0_0.v), (1, (.int .i64 a_x)), (5, (.int .i64 (k4 : Int)))] ∧ List.drop k4 a_l = rest5 ∧ Ent cs' [crd (RdS 3 rdInt) v0_0.v a_l] ∧ s_l2Has_L1 a_x rest5 k4 = some R) ⟨_, 0, _, rfl, (EqL.cons rfl (EqL.cons rfl (EqL.cons rfl (EqL.nil)))).eq, rfl, (.sel (.rd .h rfl .nil)), hF⟩ ?_))
  clear hF
  rintro m2 _ _ ⟨g3, k4, rest5, rfl, rfl, hd7, hE, hF⟩
  refine K_ent hE ?_
  clear hE
  refine K_pure (c := crd (RdS 3 rdInt) v0_0.v a_l) .h crd_bound (fun hbd12 => ?_)
  rcases rest5 with _ | ⟨x6, rest5⟩
  · have hk8 := List.drop_eq_nil_iff.1 hd7
    have hfe11 : (decide (((k4 : Int) : Int) < (a_l.length : Int))) = false := decide_eq_false (by omega)
    rw [s_l2Has_L1] at hF
    refine K_in (K_region (Cm (.int .i64 (k4 : Int)) rfl rfl ?_))
    refine Cm v0_0.v rfl rfl ?_
    refine C_at .h (fun hp => V_lenR (l := a_l.length) sl22 (.tmp rfl rfl) (crd_len hp)) ?_
    refine C_val (V_lss (i := (k4 : Int)) (j := (a_l.length : Int)) (.tmp rfl rfl) (.tmp rfl rfl)) ?_
    refine C_nil (CW_cond (b := (decide (((k4 : Int) : Int) < (a_l.length : Int)))) (.tmp rfl rfl) (fun hb => absurd (hfe11.symm.trans hb) (by decide)) (fun _ => ?_))
    refine CW_exit ?_
    iterate 2 refine CThen_exit ?_
    refine CIn_self (K_region (C_val (V_assign (v := (.bool false)) (.bool _)) ?_))
    refine C_nil (CW_ret ?_)
    obtain rfl := Option.some.inj hF
    exact End_ret () (.tmp rfl rfl .nil) rfl (.sel .nil)
  obtain ⟨hk8, hx9, hd10⟩ := drop_cons hd7
  have hfe11 : (decide (((k4 : Int) : Int) < (a_l.length : Int))) = true := decide_eq_true (by omega)
  rw [s_l2Has_L1] at hF
  refine K_in (K_region (Cm (.int .i64 (k4 : Int)) rfl rfl ?_))
  refine Cm v0_0.v rfl rfl ?_
  refine C_at .h (fun hp => V_lenR (l := a_l.length) sl22 (.tmp rfl rfl) (crd_len hp)) ?_
  refine C_val (V_lss (i := (k4 : Int)) (j := (a_l.length : Int)) (.tmp rfl rfl) (.tmp rfl rfl)) ?_
  refine C_nil (CW_cond (b := (decide (((k4 : Int) : Int) < (a_l.length : Int)))) (.tmp rfl rfl) (fun _ => ?_) (fun hb => absurd (hfe11.symm.trans hb) (by decide)))
  refine CW_skip (K_block (K_region (Cm v0_0.v rfl rfl ?_)))
  refine Cm (.int .i64 (k4 : Int)) rfl rfl ?_
  refine C_idx (a := x6) sl22 ty3.sz (.tmp rfl rfl) (.tmp rfl rfl) .h (Int.natCast_nonneg k4) hx9 (fun k13 j14 => ?_)
  refine C_ldS (w := (.int .i64 x6)) ag3 (.tmp rfl rfl) .h ls3_0 ?_
  refine Cm (.int .i64 a_x) rfl rfl ?_
  refine C_val (V_eql (i := x6) (j := a_x) (.tmp rfl rfl) (.tmp rfl rfl)) ?_
  refine C_nil (CW_cond (b := ((x6 : Int) == a_x)) (.tmp rfl rfl) (fun hb16 => ?_) (fun hb16 => ?_))
  · rw [if_pos hb16] at hF
    refine K_region (C_val (V_assign (v := (.bool true)) (.bool _)) ?_)
    refine C_nil (CW_ret ?_)
    obtain rfl := Option.some.inj hF
    exact End_ret () (.tmp rfl rfl .nil) rfl (.sel .nil)
  rw [if_neg (by rw [hb16]; exact Bool.false_ne_true)] at hF
  refine CW_skip (CW_region (Cm (.int .i64 (k4 : Int)) rfl rfl ?_))
  refine C_val (V_add (i := (k4 : Int)) (j := 1) (.tmp rfl rfl) (.int _ _)) ?_
  refine Ca (.int .i64 (IntKind.i64.wrap ((k4 : Int) + 1))) rfl rfl ?_
  refine C_nil ?_
  have hw15 : IntKind.i64.wrap ((k4 : Int) + 1) = ((k4 + 1 : Nat) : Int) := by rw [wrap_in (by omega) (by omega)]; rfl
  rw [hw15]
  exact ⟨_, Nat.lt_succ_self _, _, k4 + 1, rest5, rfl, (EqL.cons rfl (EqL.cons rfl (EqL.cons rfl (EqL.nil)))).eq, hd10, (.sel (.rd (.t .h) rfl .nil)), hF⟩

/-! spec.l3Put -/
def s_l3Put_L1 (a_x : Int) : List Int → Nat → (List Int) → Bool → Option ((List Int))
  | [], k12, c5, c8 => if (!c8) then (
      (app c5 ([a_x] : List Int)).bind fun z22 =>
      some z22)
    else (
      some c5)
  | x14 :: rest13, k12, c5, c8 => (if ((!c8) && (decide ((a_x : Int) < x14))) then (
        (app c5 ([a_x] : List Int)).bind fun z33 =>
        (app z33 ([x14] : List Int)).bind fun z39 =>
        some (z39, true))
      else (
        (app c5 ([x14] : List Int)).bind fun z45 =>
        some (z45, c8))).bind fun o26 =>
    match o26 with
    | (c49, c52) => s_l3Put_L1 a_x rest13 (k12 + 1) c49 c52
def s_l3Put (a_l : List Int) (a_x : Int) : Option ((List Int)) :=
  (s_l2Has a_l a_x).bind fun r1 =>
  if r1 then (
    some a_l)
  else (
    s_l3Put_L1 a_x a_l 0 ([] : List Int) false)
theorem s_l3Put_ok (a_l : List Int) (v0_0 : Sv) (a_x : Int) (R : (List Int)) (hF : s_l3Put a_l a_x = some R) :
    Fw.Spec Tryz.prog 168 [v0_0.v, (.int .i64 a_x)] [crd (RdS 3 rdInt) v0_0.v a_l] (fun p : Sv => p.v) (fun p => [crd (RdS 3 rdInt) p.v R]) := by
  refine Spec_enter (n := 47) Tryz.func168 rfl rfl (rs := [.tmp 4]) rfl rfl rfl ?_
  intro H0 F0
  unfold s_l3Put at hF
  refine K_region (C_val (V_assign (v := (.slice none 0 0)) EV.nilSlice) ?_)
  refine C_nil (K_in (K_region (Cm v0_0.v rfl rfl ?_)))
  refine Cm (.int .i64 a_x) rfl rfl ?_
  obtain ⟨r1, hx2, hF⟩ := bind_some hF
  refine C_x0 (.rd .h rfl .nil) (X_callS cf185 (.cons (.tmp rfl rfl) (.cons (.tmp rfl rfl) .nil)) (s_l2Has_ok a_l v0_0 a_x _ hx2)) (fun _ => ?_)
  refine C_nil (CW_cond (b := r1) (.tmp rfl rfl) (fun hb55 => ?_) (fun hb55 => ?_))
  · rw [if_pos hb55] at hF
    refine K_region (Cm v0_0.v rfl rfl ?_)
    refine Ca v0_0.v rfl rfl ?_
    refine C_nil (CW_ret ?_)
    obtain rfl := Option.some.inj hF
    exact End_ret v0_0 (.tmp rfl rfl .nil) rfl (.sel (.rd .h rfl .nil))
  rw [if_neg (by rw [hb55]; exact Bool.false_ne_true)] at hF
  refine CW_skip (K_region (C_new rfl (N_buildSliceT (g := true) sl22 ty3 .nil (vs := []) rfl rfl rfl (by simp)) (fun k4 => ?_)))
  refine C_conv (.cons .h .nil) (own_lit (Ro := (roE rdInt)) (E := 3) (F := []) (xs := ([] : List Int)) MkL_nil rfl rfl) apps ?_
  refine Ca (.slice (some ⟨k4, 0, none⟩) 0 1) rfl rfl ?_
  refine C_nil (K_region (C_val (V_assign (v := (.bool false)) (.bool _)) ?_))
  refine C_nil (K_in (K_region (C_val (V_assign (v := (.int .i64 0)) (.int _ _)) ?_)))
  refine C_nil (CW_block (CW_loop (m := a_l.length) (fun m10 f' cs' => ∃ (g : Fr) (k12 : Nat) (rest13 : List Int) (c5 : List Int) (c8 : Bool) (v6 : Sv) (F7 : List Nat), m10 = rest13.length ∧ f' = updL g [(0, v0_0.v), (1, (.int .i64 a_x)), (5, v6.v), (6, (.bool c8)), (7, (.int .i64 (k12 : Int)))] ∧ List.drop k12 a_l = rest13 ∧ Ent cs' [crd (RdS 3 rdInt) v0_0.v a_l, cown (OwnS 3 (roE rdInt)) F7 v6.v c5] ∧ s_l3Put_L1 a_x rest13 k12 c5 c8 = some R) ⟨_, 0, _, _, _, ⟨(some ⟨k4, 0, none⟩), 0, 1⟩, (k4 :: []), rfl, (EqL.cons rfl (EqL.cons rfl (EqL.cons rfl (EqL.cons rfl (EqL.cons rfl (EqL.nil)))))).eq, rfl, (.sel (.rd (.t .h) rfl (.cons .h .nil))), hF⟩ ?_))
  clear hF
  rintro m10 _ _ ⟨g11, k12, rest13, c5, c8, v6, F7, rfl, rfl, hd15, hE, hF⟩
  refine K_ent hE ?_
  clear hE
  refine K_pure (c := crd (RdS 3 rdInt) v0_0.v a_l) .h crd_bound (fun hbd20 => ?_)
  rcases rest13 with _ | ⟨x14, rest13⟩
  · have hk16 := List.drop_eq_nil_iff.1 hd15
    have hfe19 : (decide (((k12 : Int) : Int) < (a_l.length : Int))) = false := decide_eq_false (by omega)
    rw [s_l3Put_L1] at hF
    refine K_in (K_region (Cm (.int .i64 (k12 : Int)) rfl rfl ?_))
    refine Cm v0_0.v rfl rfl ?_
    refine C_at .h (fun hp => V_lenR (l := a_l.length) sl22 (.tmp rfl rfl) (crd_len hp)) ?_
    refine C_val (V_lss (i := (k12 : Int)) (j := (a_l.length : Int)) (.tmp rfl rfl) (.tmp rfl rfl)) ?_
    refine C_nil (CW_cond (b := (decide (((k12 : Int) : Int) < (a_l.length : Int)))) (.tmp rfl rfl) (fun hb => absurd (hfe19.symm.trans hb) (by decide)) (fun _ => ?_))
    refine CW_exit ?_
    iterate 2 refine CThen_exit ?_
    refine CIn_self (K_in (K_region (Cm (.bool c8) rfl rfl ?_)))
    refine C_val (V_not (b := c8) (.tmp rfl rfl)) ?_
    refine C_nil (CW_cond (b := (!c8)) (.tmp rfl rfl) (fun hb25 => ?_) (fun hb25 => ?_))
    · rw [if_pos hb25] at hF
      refine CW_region (Cm v6.v rfl rfl ?_)
      refine Cm (.int .i64 a_x) rfl rfl ?_
      refine C_new rfl (N_buildSliceT (g := true) sl22 ty3 (.cons (.tmp rfl rfl) .nil) (vs := [(.int .i64 a_x)]) rfl rfl rfl (by intro v hv; simp at hv; rcases hv with rfl <;> rfl)) (fun k21 => ?_)
      refine C_conv (.cons .h .nil) (own_lit (Ro := (roE rdInt)) (E := 3) (F := ([] ++ [])) (xs := ([a_x] : List Int)) (MkL_cons (Mk_pure (fun _ => rfl)) MkL_nil apps) rfl rfl) apps ?_
      obtain ⟨z22, hx23, hF⟩ := bind_some hF
      refine C_x1 (.cons (.t (.t .h)) (.cons .h .nil)) (X_appendO (Ro := (roE rdInt)) sl22 ni22 ty3 rfl rfl rfl (.tmp rfl rfl) (.tmp rfl rfl) hx23 src_own) (fun p24 => ?_)
      refine Ca p24.1.v rfl rfl ?_
      refine C_nil (K_region (Cm p24.1.v rfl rfl ?_))
      refine Ca p24.1.v rfl rfl ?_
      refine C_nil (CW_ret ?_)
      obtain rfl := Option.some.inj hF
      exact End_ret p24.1 (.tmp rfl rfl .nil) rfl (.frz .h frz_own (.sel (.rd .h rfl .nil)))
    rw [if_neg (by rw [hb25]; exact Bool.false_ne_true)] at hF
    refine CW_skip (K_region (Cm v6.v rfl rfl ?_))
    refine Ca v6.v rfl rfl ?_
    refine C_nil (CW_ret ?_)
    obtain rfl := Option.some.inj hF
    exact End_ret v6 (.tmp rfl rfl .nil) rfl (.frz (.t .h) frz_own (.sel (.rd .h rfl .nil)))
  obtain ⟨hk16, hx17, hd18⟩ := drop_cons hd15
  have hfe19 : (decide (((k12 : Int) : Int) < (a_l.length : Int))) = true := decide_eq_true (by omega)
  rw [s_l3Put_L1] at hF
  refine K_in (K_region (Cm (.int .i64 (k12 : Int)) rfl rfl ?_))
  refine Cm v0_0.v rfl rfl ?_
  refine C_at .h (fun hp => V_lenR (l := a_l.length) sl22 (.tmp rfl rfl) (crd_len hp)) ?_
  refine C_val (V_lss (i := (k12 : Int)) (j := (a_l.length : Int)) (.tmp rfl rfl) (.tmp rfl rfl)) ?_
  refine C_nil (CW_cond (b := (decide (((k12 : Int) : Int) < (a_l.length : Int)))) (.tmp rfl rfl) (fun _ => ?_) (fun hb => absurd (hfe19.symm.trans hb) (by decide)))
  refine CW_skip ?_
  obtain ⟨o26, hio26, hO27⟩ := bind_some hF
  refine K_cut (fun f' cs' => ∃ (c49 : List Int) (c52 : Bool) (v50 : Sv) (F51 : List Nat) (g : Fr), o26 = (c49, c52) ∧ f' = updL g [(0, v0_0.v), (1, (.int .i64 a_x)), (5, v50.v), (6, (.bool c52)), (7, (.int .i64 (k12 : Int)))] ∧ Ent cs' [crd (RdS 3 rdInt) v0_0.v a_l, cown (OwnS 3 (roE rdInt)) F51 v50.v c49]) ?_ ?_
  · replace hF := hio26
    refine CW_block (K_in (K_region (C_cut (fun f' cs' => ∃ (g : Fr), f' = updL g [(0, v0_0.v), (1, (.int .i64 a_x)), (5, v6.v), (6, (.bool c8)), (7, (.int .i64 (k12 : Int))), (28, (.bool ((!c8) && (decide ((a_x : Int) < x14)))))] ∧ Ent cs' [crd (RdS 3 rdInt) v0_0.v a_l, cown (OwnS 3 (roE rdInt)) F7 v6.v c5]) ?_ ?_)))
    · refine Cm (.bool c8) rfl rfl ?_
      refine C_val (V_not (b := c8) (.tmp rfl rfl)) ?_
      refine Cm (.bool (!c8)) rfl rfl ?_
      rcases Bool.eq_false_or_eq_true (!c8) with hg28 | hg28
      · rw [hg28]
        try rw [hg28] at hF; dsimp only [cond_true, cond_false] at hF
        refine C_on (t := 21) rfl rfl rfl ?_
        refine Cm v0_0.v rfl rfl ?_
        refine C_on (t := 21) rfl rfl rfl ?_
        refine Cm (.int .i64 (k12 : Int)) rfl rfl ?_
        refine C_on (t := 21) rfl rfl rfl ?_
        refine C_idx (a := x14) sl22 ty3.sz (.tmp rfl rfl) (.tmp rfl rfl) .h (Int.natCast_nonneg k12) hx17 (fun k29 j30 => ?_)
        refine C_on (t := 21) rfl rfl rfl ?_
        refine C_ldS (w := (.int .i64 x14)) ag3 (.tmp rfl rfl) .h ls3_0 ?_
        refine C_on (t := 21) rfl rfl rfl ?_
        refine Cm (.int .i64 a_x) rfl rfl ?_
        refine C_on (t := 21) rfl rfl rfl ?_
        refine C_val (V_gtr (i := x14) (j := a_x) (.tmp rfl rfl) (.tmp rfl rfl)) ?_
        refine C_val (V_pick (b := true) (u := (.bool (decide ((a_x : Int) < x14)))) (v := (.bool false)) (.tmp rfl rfl) (.tmp rfl rfl) (.bool _)) ?_
        refine C_nil ?_
        exact ⟨_, (EqL.cons rfl (EqL.cons rfl (EqL.cons rfl (EqL.cons rfl (EqL.cons rfl (EqL.cons rfl (EqL.nil))))))).eq, (.sel (.rd (.t .h) rfl (.cons (.t (.t .h)) .nil)))⟩
      rw [hg28]
      try rw [hg28] at hF; dsimp only [cond_true, cond_false] at hF
      iterate 6 refine C_off (t := 21) rfl rfl rfl ?_
      refine C_val (V_pick (b := false) (u := undef) (v := (.bool false)) (.tmp rfl rfl) (.tmp rfl rfl) (.bool _)) ?_
      refine C_nil ?_
      exact ⟨_, (EqL.cons rfl (EqL.cons rfl (EqL.cons rfl (EqL.cons rfl (EqL.cons rfl (EqL.cons rfl (EqL.nil))))))).eq, (.sel (.rd .h rfl (.cons (.t .h) .nil)))⟩
    rintro _ _ ⟨g31, rfl, hE⟩
    refine K_ent hE ?_
    refine CW_cond (b := ((!c8) && (decide ((a_x : Int) < x14)))) (.tmp rfl rfl) (fun hb48 => ?_) (fun hb48 => ?_)
    · rw [if_pos hb48] at hF
      refine K_region (Cm v6.v rfl rfl ?_)
      refine Cm (.int .i64 a_x) rfl rfl ?_
      refine C_new rfl (N_buildSliceT (g := true) sl22 ty3 (.cons (.tmp rfl rfl) .nil) (vs := [(.int .i64 a_x)]) rfl rfl rfl (by intro v hv; simp at hv; rcases hv with rfl <;> rfl)) (fun k32 => ?_)
      refine C_conv (.cons .h .nil) (own_lit (Ro := (roE rdInt)) (E := 3) (F := ([] ++ [])) (xs := ([a_x] : List Int)) (MkL_cons (Mk_pure (fun _ => rfl)) MkL_nil apps) rfl rfl) apps ?_
      obtain ⟨z33, hx34, hF⟩ := bind_some hF
      refine C_x1 (.cons (.t (.t .h)) (.cons .h .nil)) (X_appendO (Ro := (roE rdInt)) sl22 ni22 ty3 rfl rfl rfl (.tmp rfl rfl) (.tmp rfl rfl) hx34 src_own) (fun p35 => ?_)
      refine Ca p35.1.v rfl rfl ?_
      refine C_nil (CW_region (C_val (V_assign (v := (.bool true)) (.bool _)) ?_))
      refine C_nil (CW_region (Cm p35.1.v rfl rfl ?_))
      refine Cm v0_0.v rfl rfl ?_
      refine Cm (.int .i64 (k12 : Int)) rfl rfl ?_
      refine C_idx (a := x14) sl22 ty3.sz (.tmp rfl rfl) (.tmp rfl rfl) (.t .h) (Int.natCast_nonneg k12) hx17 (fun k36 j37 => ?_)
      refine C_ldS (w := (.int .i64 x14)) ag3 (.tmp rfl rfl) .h ls3_0 ?_
      refine C_new rfl (N_buildSliceT (g := true) sl22 ty3 (.cons (.tmp rfl rfl) .nil) (vs := [(.int .i64 x14)]) rfl rfl rfl (by intro v hv; simp at hv; rcases hv with rfl <;> rfl)) (fun k38 => ?_)
      refine C_conv (.cons .h .nil) (own_lit (Ro := (roE rdInt)) (E := 3) (F := ([] ++ [])) (xs := ([x14] : List Int)) (MkL_cons (Mk_pure (fun _ => rfl)) MkL_nil apps) rfl rfl) apps ?_
      obtain ⟨z39, hx40, hF⟩ := bind_some hF
      refine C_x1 (.cons (.t (.t .h)) (.cons .h .nil)) (X_appendO (Ro := (roE rdInt)) sl22 ni22 ty3 rfl rfl rfl (.tmp rfl rfl) (.tmp rfl rfl) hx40 src_own) (fun p41 => ?_)
      refine Ca p41.1.v rfl rfl ?_
      refine C_nil ?_
      obtain rfl := Option.some.inj hF
      exact ⟨_, _, p41.1, p41.2, _, rfl, (EqL.cons rfl (EqL.cons rfl (EqL.cons rfl (EqL.cons rfl (EqL.cons rfl (EqL.nil)))))).eq, (.sel (.rd (.t (.t .h)) rfl (.cons .h .nil)))⟩
    rw [if_neg (by rw [hb48]; exact Bool.false_ne_true)] at hF
    refine CW_skip (CW_region (Cm v6.v rfl rfl ?_))
    refine Cm v0_0.v rfl rfl ?_
    refine Cm (.int .i64 (k12 : Int)) rfl rfl ?_
    refine C_idx (a := x14) sl22 ty3.sz (.tmp rfl rfl) (.tmp rfl rfl) .h (Int.natCast_nonneg k12) hx17 (fun k42 j43 => ?_)
    refine C_ldS (w := (.int .i64 x14)) ag3 (.tmp rfl rfl) .h ls3_0 ?_
    refine C_new rfl (N_buildSliceT (g := true) sl22 ty3 (.cons (.tmp rfl rfl) .nil) (vs := [(.int .i64 x14)]) rfl rfl rfl (by intro v hv; simp at hv; rcases hv with rfl <;> rfl)) (fun k44 => ?_)
    refine C_conv (.cons .h .nil) (own_lit (Ro := (roE rdInt)) (E := 3) (F := ([] ++ [])) (xs := ([x14] : List Int)) (MkL_cons (Mk_pure (fun _ => rfl)) MkL_nil apps) rfl rfl) apps ?_
    obtain ⟨z45, hx46, hF⟩ := bind_some hF
    refine C_x1 (.cons (.t (.t (.t .h))) (.cons .h .nil)) (X_appendO (Ro := (roE rdInt)) sl22 ni22 ty3 rfl rfl rfl (.tmp rfl rfl) (.tmp rfl rfl) hx46 src_own) (fun p47 => ?_)
    refine Ca p47.1.v rfl rfl ?_
    refine C_nil ?_
    obtain rfl := Option.some.inj hF
    exact ⟨_, _, p47.1, p47.2, _, rfl, (EqL.cons rfl (EqL.cons rfl (EqL.cons rfl (EqL.cons rfl (EqL.cons rfl (EqL.nil)))))).eq, (.sel (.rd (.t (.t .h)) rfl (.cons .h .nil)))⟩
  rintro _ _ ⟨c49, c52, v50, F51, g54, rfl, rfl, hE⟩
  replace hF := hO27
  clear hO27
  try dsimp only at hF
  refine K_ent hE ?_
  refine CW_region (Cm (.int .i64 (k12 : Int)) rfl rfl ?_)
  refine C_val (V_add (i := (k12 : Int)) (j := 1) (.tmp rfl rfl) (.int _ _)) ?_
  refine Ca (.int .i64 (IntKind.i64.wrap ((k12 : Int) + 1))) rfl rfl ?_
  refine C_nil ?_
  have hw53 : IntKind.i64.wrap ((k12 : Int) + 1) = ((k12 + 1 : Nat) : Int) := by rw [wrap_in (by omega) (by omega)]; rfl
  rw [hw53]
  exact ⟨_, Nat.lt_succ_self _, _, k12 + 1, rest13, _, _, v50, F51, rfl, (EqL.cons rfl (EqL.cons rfl (EqL.cons rfl (EqL.cons rfl (EqL.cons rfl (EqL.nil)))))).eq, hd18, (.sel (.rd .h rfl (.cons (.t .h) .nil))), hF⟩

/-! spec.StartReach -/
def s_StartReach_L1 : List Int → Nat → (List Fact) → (List Int) → (List Access) → (List Fact) → (List Int) → (List Access) → Option (Reached)
  | [], k99, c79, c82, c85, c88, c91, c93 => some ({ Facts := c88, Values := c91, Log := c93, Rounds := 0 } : Reached)
  | x101 :: rest100, k99, c79, c82, c85, c88, c91, c93 => ((s_l1In x101 0 9).bind fun r112 =>
      if r112 then (
        (s_l3Put c91 x101).bind fun r117 =>
        some r117)
      else (
        some c91)).bind fun o108 =>
    match o108 with
    | c121 => s_StartReach_L1 rest100 (k99 + 1) c79 c82 c85 c88 c121 c93
def s_StartReach (a_seeds : List Int) : Option (Reached) :=
  s_StartReach_L1 a_seeds 0 ([] : List Fact) ([] : List Int) ([] : List Access) ([] : List Fact) ([] : List Int) ([] : List Access)
theorem s_StartReach_ok (a_seeds : List Int) (v0_0 : Sv) (R : Reached) (hF : s_StartReach a_seeds = some R) :
    Fw.Spec Tryz.prog 126 [v0_0.v] [crd (RdS 3 rdInt) v0_0.v a_seeds] (fun p : Sv × List Nat × Sv × Sv × List Nat => (.agg [p.1.v, p.2.2.1.v, p.2.2.2.1.v, (.int .i64 R.Rounds)].toArray)) (fun p => [cown (OwnS 114 ow114) p.2.1 p.1.v R.Facts, crd (RdS 3 rdInt) p.2.2.1.v R.Values, cown (OwnS 80 ow80) p.2.2.2.2 p.2.2.2.1.v R.Log]) := by
  refine Spec_enter (n := 26) Tryz.func126 rfl rfl (rs := [.cell 2 110]) rfl rfl rfl ?_
  intro H0 F0
  unfold s_StartReach at hF
  refine K_region (C_new rfl (N_allocT (g := true) ty110 rfl rfl) (fun k1 => ?_))
  refine C_nil (K_region (C_val (V_build ty110 rfl (vs := []) .nil (cells := [(.slice none 0 0), (.slice none 0 0), (.slice none 0 0), (.int .i64 0)]) rfl) ?_))
  refine C_new rfl (N_allocT (g := true) ty110 rfl rfl) (fun k2 => ?_)
  refine C_x1 (.cons .h .nil) (X_storeB (e' := (.agg [(.slice none 0 0), (.slice none 0 0), (.slice none 0 0), (.int .i64 0)].toArray)) (v := (.agg [(.slice none 0 0), (.slice none 0 0), (.slice none 0 0), (.int .i64 0)].toArray)) ty110.sz (.tmp rfl rfl) (.tmp rfl rfl) rfl rfl rfl rfl rfl) (fun _ => ?_)
  refine C_nil (K_in (K_region (C_val (V_assign (v := (.int .i64 0)) (.int _ _)) ?_)))
  refine C_nil (CW_block (CW_loop (m := a_seeds.length) (fun m97 f' cs' => ∃ (g : Fr) (k99 : Nat) (rest100 : List Int) (c79 : List Fact) (c82 : List Int) (c85 : List Access) (c88 : List Fact) (c91 : List Int) (c93 : List Access) (v80 : Sv) (F81 : List Nat) (v83 : Sv) (F84 : List Nat) (v86 : Sv) (F87 : List Nat) (v89 : Sv) (F90 : List Nat) (v92 : Sv) (v94 : Sv) (F95 : List Nat), m97 = rest100.length ∧ f' = updL g [(0, v0_0.v), (2, (.pointer (some ⟨k1, 0, some 0⟩))), (3, (.pointer (some ⟨k2, 0, some 0⟩))), (4, (.int .i64 (k99 : Int)))] ∧ List.drop k99 a_seeds = rest100 ∧ Ent cs' [crd (RdS 3 rdInt) v0_0.v a_seeds, cbox k1 110 (.agg [v80.v, v83.v, v86.v, (.int .i64 0)].toArray), cown (OwnS 114 ow114) F81 v80.v c79, cown (OwnS 3 (roE rdInt)) F84 v83.v c82, cown (OwnS 80 ow80) F87 v86.v c85, cbox k2 110 (.agg [v89.v, v92.v, v94.v, (.int .i64 0)].toArray), cown (OwnS 114 ow114) F90 v89.v c88, crd (RdS 3 rdInt) v92.v c91, cown (OwnS 80 ow80) F95 v94.v c93] ∧ s_StartReach_L1 rest100 k99 c79 c82 c85 c88 c91 c93 = some R) ⟨_, 0, _, _, _, _, _, _, _, ⟨none, 0, 0⟩, [], ⟨none, 0, 0⟩, [], ⟨none, 0, 0⟩, [], ⟨none, 0, 0⟩, [], ⟨none, 0, 0⟩, ⟨none, 0, 0⟩, [], rfl, (EqL.cons rfl (EqL.cons rfl (EqL.cons rfl (EqL.cons rfl (EqL.nil))))).eq, rfl, (.conv .nil (own_nil (Ro := ow114) (E := 114)) (.cons .nil) (.conv .nil (own_nil (Ro := (roE rdInt)) (E := 3)) (.cons .nil) (.conv .nil (own_nil (Ro := ow80) (E := 80)) (.cons .nil) (.conv .nil (own_nil (Ro := ow114) (E := 114)) (.cons .nil) (.conv .nil (rd_nil (R := rdInt) (E := 3)) (.cons .nil) (.conv .nil (own_nil (Ro := ow80) (E := 80)) (.cons .nil) (.sel (.rd (.t (.t (.t (.t (.t (.t (.t (.t .h)))))))) rfl (.cons (.t (.t (.t (.t (.t (.t (.t .h))))))) (.cons (.t (.t (.t (.t (.t .h))))) (.cons (.t (.t (.t (.t .h)))) (.cons (.t (.t (.t .h))) (.cons (.t (.t (.t .h))) (.cons (.t (.t .h)) (.rd (.t .h) rfl (.cons .h .nil)))))))))))))))), hF⟩ ?_))
  clear hF
  rintro m97 _ _ ⟨g98, k99, rest100, c79, c82, c85, c88, c91, c93, v80, F81, v83, F84, v86, F87, v89, F90, v92, v94, F95, rfl, rfl, hd102, hE, hF⟩
  refine K_ent hE ?_
  clear hE
  refine K_pure (c := crd (RdS 3 rdInt) v0_0.v a_seeds) .h crd_bound (fun hbd107 => ?_)
  rcases rest100 with _ | ⟨x101, rest100⟩
  · have hk103 := List.drop_eq_nil_iff.1 hd102
    have hfe106 : (decide (((k99 : Int) : Int) < (a_seeds.length : Int))) = false := decide_eq_false (by omega)
    rw [s_StartReach_L1] at hF
    refine K_in (K_region (Cm (.int .i64 (k99 : Int)) rfl rfl ?_))
    refine Cm v0_0.v rfl rfl ?_
    refine C_at .h (fun hp => V_lenR (l := a_seeds.length) sl22 (.tmp rfl rfl) (crd_len hp)) ?_
    refine C_val (V_lss (i := (k99 : Int)) (j := (a_seeds.length : Int)) (.tmp rfl rfl) (.tmp rfl rfl)) ?_
    refine C_nil (CW_cond (b := (decide (((k99 : Int) : Int) < (a_seeds.length : Int)))) (.tmp rfl rfl) (fun hb => absurd (hfe106.symm.trans hb) (by decide)) (fun _ => ?_))
    refine CW_exit ?_
    iterate 2 refine CThen_exit ?_
    refine CIn_self (K_region (C_at (.t (.t (.t (.t (.t .h))))) (fun hp => V_loadBox ag110 ty110.sz rfl (.tmp rfl rfl) hp.2 rfl) ?_))
    refine C_x1 (.cons (.t .h) .nil) (X_storeB (e' := (.agg [v89.v, v92.v, v94.v, (.int .i64 0)].toArray)) (v := (.agg [v89.v, v92.v, v94.v, (.int .i64 0)].toArray)) ty110.sz (.tmp rfl rfl) (.tmp rfl rfl) rfl rfl rfl rfl rfl) (fun _ => ?_)
    refine C_nil (CW_ret ?_)
    obtain rfl := Option.some.inj hF
    exact End_ret (v89, F90, v92, v94, F95) (.cellA rfl rfl .h rfl ag110 ty110.sz rfl rfl .nil) rfl (.sel (.cons (.t (.t (.t (.t (.t (.t .h)))))) (.rd (.t (.t (.t (.t (.t (.t .h)))))) rfl (.cons (.t (.t (.t (.t (.t (.t (.t .h))))))) .nil))))
  obtain ⟨hk103, hx104, hd105⟩ := drop_cons hd102
  have hfe106 : (decide (((k99 : Int) : Int) < (a_seeds.length : Int))) = true := decide_eq_true (by omega)
  rw [s_StartReach_L1] at hF
  refine K_in (K_region (Cm (.int .i64 (k99 : Int)) rfl rfl ?_))
  refine Cm v0_0.v rfl rfl ?_
  refine C_at .h (fun hp => V_lenR (l := a_seeds.length) sl22 (.tmp rfl rfl) (crd_len hp)) ?_
  refine C_val (V_lss (i := (k99 : Int)) (j := (a_seeds.length : Int)) (.tmp rfl rfl) (.tmp rfl rfl)) ?_
  refine C_nil (CW_cond (b := (decide (((k99 : Int) : Int) < (a_seeds.length : Int)))) (.tmp rfl rfl) (fun _ => ?_) (fun hb => absurd (hfe106.symm.trans hb) (by decide)))
  refine CW_skip ?_
  obtain ⟨o108, hio108, hO109⟩ := bind_some hF
  refine K_cut (fun f' cs' => ∃ (c121 : List Int) (v122 : Sv) (g : Fr), c121 = o108 ∧ f' = updL g [(0, v0_0.v), (2, (.pointer (some ⟨k1, 0, some 0⟩))), (3, (.pointer (some ⟨k2, 0, some 0⟩))), (4, (.int .i64 (k99 : Int)))] ∧ Ent cs' [crd (RdS 3 rdInt) v0_0.v a_seeds, cbox k1 110 (.agg [v80.v, v83.v, v86.v, (.int .i64 0)].toArray), cown (OwnS 114 ow114) F81 v80.v c79, cown (OwnS 3 (roE rdInt)) F84 v83.v c82, cown (OwnS 80 ow80) F87 v86.v c85, cbox k2 110 (.agg [v89.v, v122.v, v94.v, (.int .i64 0)].toArray), cown (OwnS 114 ow114) F90 v89.v c88, crd (RdS 3 rdInt) v122.v c121, cown (OwnS 80 ow80) F95 v94.v c93]) ?_ ?_
  · replace hF := hio108
    refine CW_block (K_region (Cm v0_0.v rfl rfl ?_))
    refine Cm (.int .i64 (k99 : Int)) rfl rfl ?_
    refine C_idx (a := x101) sl22 ty3.sz (.tmp rfl rfl) (.tmp rfl rfl) .h (Int.natCast_nonneg k99) hx104 (fun k110 j111 => ?_)
    refine C_ldS (w := (.int .i64 x101)) ag3 (.tmp rfl rfl) .h ls3_0 ?_
    obtain ⟨r112, hx113, hF⟩ := bind_some hF
    refine C_x0 .nil (X_callS cf96 (.cons (.tmp rfl rfl) (.cons (.int _ _) (.cons (.int _ _) .nil))) (s_l1In_ok x101 0 9 _ hx113)) (fun _ => ?_)
    refine C_nil (CW_cond (b := r112) (.tmp rfl rfl) (fun hb120 => ?_) (fun hb120 => ?_))
    · rw [if_pos hb120] at hF
      refine CW_draw [0, 1, 2, 3, 4, 5, 6, 7, 8] [0, 1, 0, 0, 12, 28, 63, 127, 255] [6, 8] mixed (by decide +kernel) ?_
      refine D_val rfl .no (fun ha => V_fieldAddr (off := 1) fd110_1 (EN ha (.tmp rfl rfl) rfl)) ?_
      refine D_atO rfl .no (.t (.t (.t (.t (.t (.t .h)))))) (fun ha hp => V_load (v := v92.v) ag22 (EN ha (.tmp rfl rfl) rfl) hp.2 rfl rfl) ?_
      refine Dm v0_0.v rfl rfl rfl rfl ?_
      refine Dm (.int .i64 (k99 : Int)) rfl rfl rfl rfl ?_
      refine D_idx (a := x101) sl22 ty3.sz rfl .no (.tmp rfl rfl) (.tmp rfl rfl) rfl rfl (.t .h) (Int.natCast_nonneg k99) hx104 (fun k115 j116 => ?_)
      refine D_ldS (w := (.int .i64 x101)) ag3 rfl .no (.tmp rfl rfl) rfl .h ls3_0 ?_
      obtain ⟨r117, hx118, hF⟩ := bind_some hF
      refine D_act1 rfl rfl .no (.rd (.t (.t (.t (.t (.t (.t (.t (.t (.t .h))))))))) rfl .nil) (.dep rfl .nil) (fun ha => X_callS cf168 (.cons (EN ha (.tmp rfl rfl) rfl) (.cons (EN ha (.tmp rfl rfl) rfl) .nil)) (s_l3Put_ok c91 v92 x101 _ hx118)) (fun p119 => ?_)
      refine D_val rfl .no (fun ha => V_fieldAddr (off := 1) fd110_1 (EN ha (.tmp rfl rfl) rfl)) ?_
      refine D_act1 rfl rfl .no (.cons (.t (.t (.t (.t (.t (.t (.t (.t .h)))))))) .nil) (.dep rfl .nil) (fun ha => X_storeB (e' := (.agg [v89.v, p119.v, v94.v, (.int .i64 0)].toArray)) ty22.sz (EN ha (.tmp rfl rfl) rfl) (EN ha (.tmp rfl rfl) rfl) rfl rfl rfl rfl rfl) (fun _ => ?_)
      refine D_nil ?_
      obtain rfl := Option.some.inj hF
      exact ⟨_, p119, _, rfl, (EqL.cons rfl (EqL.cons rfl (EqL.cons rfl (EqL.cons rfl (EqL.nil))))).eq, (.sel (.rd (.t (.t (.t (.t .h)))) rfl (.cons (.t (.t (.t (.t (.t .h))))) (.cons (.t (.t (.t (.t (.t .h))))) (.cons (.t (.t (.t (.t (.t .h))))) (.cons (.t (.t (.t (.t (.t .h))))) (.cons .h (.cons (.t (.t (.t (.t .h)))) (.rd .h rfl (.cons (.t (.t (.t (.t (.t .h))))) .nil))))))))))⟩
    rw [if_neg (by rw [hb120]; exact Bool.false_ne_true)] at hF
    refine CW_skip ?_
    obtain rfl := Option.some.inj hF
    exact ⟨_, v92, _, rfl, (EqL.cons rfl (EqL.cons rfl (EqL.cons rfl (EqL.cons rfl (EqL.nil))))).eq, (.sel (.rd (.t .h) rfl (.cons (.t (.t .h)) (.cons (.t (.t .h)) (.cons (.t (.t .h)) (.cons (.t (.t .h)) (.cons (.t (.t .h)) (.cons (.t (.t .h)) (.rd (.t (.t .h)) rfl (.cons (.t (.t (.t .h))) .nil))))))))))⟩
  rintro _ _ ⟨c121, v122, g124, rfl, rfl, hE⟩
  replace hF := hO109
  clear hO109
  try dsimp only at hF
  refine K_ent hE ?_
  refine CW_region (Cm (.int .i64 (k99 : Int)) rfl rfl ?_)
  refine C_val (V_add (i := (k99 : Int)) (j := 1) (.tmp rfl rfl) (.int _ _)) ?_
  refine Ca (.int .i64 (IntKind.i64.wrap ((k99 : Int) + 1))) rfl rfl ?_
  refine C_nil ?_
  have hw123 : IntKind.i64.wrap ((k99 : Int) + 1) = ((k99 + 1 : Nat) : Int) := by rw [wrap_in (by omega) (by omega)]; rfl
  rw [hw123]
  exact ⟨_, Nat.lt_succ_self _, _, k99 + 1, rest100, _, _, _, _, _, _, v80, F81, v83, F84, v86, F87, v89, F90, v122, v94, F95, rfl, (EqL.cons rfl (EqL.cons rfl (EqL.cons rfl (EqL.cons rfl (EqL.nil))))).eq, hd105, (.sel (.rd .h rfl (.cons (.t .h) (.cons (.t .h) (.cons (.t .h) (.cons (.t .h) (.cons (.t .h) (.cons (.t .h) (.rd (.t .h) rfl (.cons (.t (.t .h)) .nil)))))))))), hF⟩

/-! spec.l8Values -/
def s_l8Values_L1 (a_l : List Int) : List Int → Nat → Option (Bool)
  | [], k4 => some true
  | x6 :: rest5, k4 => ((s_l1In x6 0 9).bind fun r17 =>
      bif (!r17) then (some true)
      else (bif (decide ((0 : Int) < (k4 : Int))) then ((ix a_l (IntKind.i64.wrap ((k4 : Int) - 1))).bind fun x24 =>
          some (decide ((x6 : Int) ≤ x24)))
        else (some false))).bind fun o13 =>
    match o13 with
    | c30 => if c30 then (
        some false)
      else (
        s_l8Values_L1 a_l rest5 (k4 + 1))
def s_l8Values (a_l : List Int) : Option (Bool) :=
  s_l8Values_L1 a_l a_l 0
theorem s_l8Values_ok (a_l : List Int) (v0_0 : Sv) (R : Bool) (hF : s_l8Values a_l = some R) :
    Fw.Spec Tryz.prog 169 [v0_0.v] [crd (RdS 3 rdInt) v0_0.v a_l] (fun _ : Unit => (.bool R)) (fun _ => []) := by
  refine Spec_enter (n := 32) Tryz.func169 rfl rfl (rs := [.tmp 2]) rfl rfl rfl ?_
  intro H0 F0
  unfold s_l8Values at hF
  refine K_region (C_val (V_assign (v := (.bool false)) (.bool _)) ?_)
  refine C_nil (K_in (K_region (C_val (V_assign (v := (.int .i64 0)) (.int _ _)) ?_)))
  refine C_nil (CW_block (CW_loop (m := a_l.length) (fun m2 f' cs' => ∃ (g : Fr) (k4 : Nat) (rest5 : List Int), m2 = rest5.length ∧ f' = updL g [(0, v0_0.v), (3, (.int .i64 (k4 : Int)))] ∧ List.drop k4 a_l = rest5 ∧ Ent cs' [crd (RdS 3 rdInt) v0_0.v a_l] ∧ s_l8Values_L1 a_l rest5 k4 = some R) ⟨_, 0, _, rfl, (EqL.cons rfl (EqL.cons rfl (EqL.nil))).eq, rfl, (.sel (.rd .h rfl .nil)), hF⟩ ?_))
  clear hF
  rintro m2 _ _ ⟨g3, k4, rest5, rfl, rfl, hd7, hE, hF⟩
  refine K_ent hE ?_
  clear hE
  refine K_pure (c := crd (RdS 3 rdInt) v0_0.v a_l) .h crd_bound (fun hbd12 => ?_)
  rcases rest5 with _ | ⟨x6, rest5⟩
  · have hk8 := List.drop_eq_nil_iff.1 hd7
    have hfe11 : (decide (((k4 : Int) : Int) < (a_l.length : Int))) = false := decide_eq_false (by omega)
    rw [s_l8Values_L1] at hF
    refine K_in (K_region (Cm (.int .i64 (k4 : Int)) rfl rfl ?_))
    refine Cm v0_0.v rfl rfl ?_
    refine C_at .h (fun hp => V_lenR (l := a_l.length) sl22 (.tmp rfl rfl) (crd_len hp)) ?_
    refine C_val (V_lss (i := (k4 : Int)) (j := (a_l.length : Int)) (.tmp rfl rfl) (.tmp rfl rfl)) ?_
    refine C_nil (CW_cond (b := (decide (((k4 : Int) : Int) < (a_l.length : Int)))) (.tmp rfl rfl) (fun hb => absurd (hfe11.symm.trans hb) (by decide)) (fun _ => ?_))
    refine CW_exit ?_
    iterate 2 refine CThen_exit ?_
    refine CIn_self (K_region (C_val (V_assign (v := (.bool true)) (.bool _)) ?_))
    refine C_nil (CW_ret ?_)
    obtain rfl := Option.some.inj hF
    exact End_ret () (.tmp rfl rfl .nil) rfl (.sel .nil)
  obtain ⟨hk8, hx9, hd10⟩ := drop_cons hd7
  have hfe11 : (decide (((k4 : Int) : Int) < (a_l.length : Int))) = true := decide_eq_true (by omega)
  rw [s_l8Values_L1] at hF
  refine K_in (K_region (Cm (.int .i64 (k4 : Int)) rfl rfl ?_))
  refine Cm v0_0.v rfl rfl ?_
  refine C_at .h (fun hp => V_lenR (l := a_l.length) sl22 (.tmp rfl rfl) (crd_len hp)) ?_
  refine C_val (V_lss (i := (k4 : Int)) (j := (a_l.length : Int)) (.tmp rfl rfl) (.tmp rfl rfl)) ?_
  refine C_nil (CW_cond (b := (decide (((k4 : Int) : Int) < (a_l.length : Int)))) (.tmp rfl rfl) (fun _ => ?_) (fun hb => absurd (hfe11.symm.trans hb) (by decide)))
  refine CW_skip (K_block ?_)
  obtain ⟨o13, hio13, hO14⟩ := bind_some hF
  refine K_draw [0, 1, 2, 3, 4, 5, 6, 7, 8, 9, 10, 11, 12, 13, 14, 15, 16, 17, 18, 19, 20, 21] [0, 0, 3, 7, 15, 31, 63, 127, 255, 511, 1023, 1023, 4095, 8191, 1023, 1023, 33791, 115711, 246783, 524287, 1048575, 2097151] [4] mixed (by decide +kernel) ?_
  refine D_cut (fun f' cs' => ∃ (c30 : Bool) (g : Fr), c30 = o13 ∧ f' = updL g [(0, v0_0.v), (3, (.int .i64 (k4 : Int))), (31, (.bool c30))] ∧ Ent cs' [crd (RdS 3 rdInt) v0_0.v a_l]) ?_ ?_
  · replace hF := hio13
    refine Dm v0_0.v rfl rfl rfl rfl ?_
    refine Dm (.int .i64 (k4 : Int)) rfl rfl rfl rfl ?_
    refine D_idx (a := x6) sl22 ty3.sz rfl .no (.tmp rfl rfl) (.tmp rfl rfl) rfl rfl .h (Int.natCast_nonneg k4) hx9 (fun k15 j16 => ?_)
    refine D_ldS (w := (.int .i64 x6)) ag3 rfl .no (.tmp rfl rfl) rfl .h ls3_0 ?_
    obtain ⟨r17, hx18, hF⟩ := bind_some hF
    refine D_act0 rfl rfl .no .nil .nil (fun ha => X_callS cf96 (.cons (EN ha (.tmp rfl rfl) rfl) (.cons (EN ha (.int _ _) rfl) (.cons (EN ha (.int _ _) rfl) .nil))) (s_l1In_ok x6 0 9 _ hx18)) (fun _ => ?_)
    refine D_val rfl .no (fun ha => V_not (b := r17) (EN ha (.tmp rfl rfl) rfl)) ?_
    refine Dm (.bool (!r17)) rfl rfl rfl rfl ?_
    rcases Bool.eq_false_or_eq_true (!r17) with hg20 | hg20
    · rw [hg20]
      try rw [hg20] at hF; dsimp only [cond_true, cond_false] at hF
      iterate 3 refine D_off 16 rfl rfl rfl rfl ?_
      iterate 10 refine D_offU 19 rfl rfl rfl rfl ?_
      refine D_off 16 rfl rfl rfl rfl ?_
      refine D_val rfl .no (fun ha => V_pick (b := true) (u := (.bool true)) (v := undef) (EN ha (.tmp rfl rfl) rfl) (EN ha (.bool _) rfl) (EN ha (.tmp rfl rfl) rfl)) ?_
      refine D_nil ?_
      obtain rfl := Option.some.inj hF
      exact ⟨_, _, rfl, (EqL.cons rfl (EqL.cons rfl (EqL.cons rfl (EqL.nil)))).eq, (.sel (.rd (.t .h) rfl .nil))⟩
    rw [hg20]
    try rw [hg20] at hF; dsimp only [cond_true, cond_false] at hF
    refine D_val rfl (.on 16 rfl rfl rfl) (fun ha => V_move (v := (.int .i64 (k4 : Int))) (EN ha (.tmp rfl rfl) rfl)) ?_
    refine D_val rfl (.on 16 rfl rfl rfl) (fun ha => V_gtr (i := (k4 : Int)) (j := 0) (EN ha (.tmp rfl rfl) rfl) (EN ha (.int _ _) rfl)) ?_
    refine D_val rfl (.on 16 rfl rfl rfl) (fun ha => V_move (v := (.bool (decide ((0 : Int) < (k4 : Int))))) (EN ha (.tmp rfl rfl) rfl)) ?_
    rcases Bool.eq_false_or_eq_true (decide ((0 : Int) < (k4 : Int))) with hg21 | hg21
    · rw [hg21]
      try rw [hg21] at hF; dsimp only [cond_true, cond_false] at hF
      refine D_val rfl (.on 19 rfl rfl rfl) (fun ha => V_move (v := v0_0.v) (EN ha (.tmp rfl rfl) rfl)) ?_
      refine D_val rfl (.on 19 rfl rfl rfl) (fun ha => V_move (v := (.int .i64 (k4 : Int))) (EN ha (.tmp rfl rfl) rfl)) ?_
      refine D_idx (a := x6) sl22 ty3.sz rfl (.on 19 rfl rfl rfl) (.tmp rfl rfl) (.tmp rfl rfl) rfl rfl (.t .h) (Int.natCast_nonneg k4) hx9 (fun k22 j23 => ?_)
      refine D_ldS (w := (.int .i64 x6)) ag3 rfl (.on 19 rfl rfl rfl) (.tmp rfl rfl) rfl .h ls3_0 ?_
      refine D_val rfl (.on 19 rfl rfl rfl) (fun ha => V_move (v := v0_0.v) (EN ha (.tmp rfl rfl) rfl)) ?_
      refine D_val rfl (.on 19 rfl rfl rfl) (fun ha => V_move (v := (.int .i64 (k4 : Int))) (EN ha (.tmp rfl rfl) rfl)) ?_
      refine D_val rfl (.on 19 rfl rfl rfl) (fun ha => V_sub (i := (k4 : Int)) (j := 1) (EN ha (.tmp rfl rfl) rfl) (EN ha (.int _ _) rfl)) ?_
      obtain ⟨x24, hx25, hF⟩ := bind_some hF
      obtain ⟨hp26, hx27⟩ := ix_some hx25
      refine D_idx (a := x24) sl22 ty3.sz rfl (.on 19 rfl rfl rfl) (.tmp rfl rfl) (.tmp rfl rfl) rfl rfl (.t (.t .h)) hp26 hx27 (fun k28 j29 => ?_)
      refine D_ldS (w := (.int .i64 x24)) ag3 rfl (.on 19 rfl rfl rfl) (.tmp rfl rfl) rfl .h ls3_0 ?_
      refine D_val rfl (.on 19 rfl rfl rfl) (fun ha => V_leq (i := x6) (j := x24) (EN ha (.tmp rfl rfl) rfl) (EN ha (.tmp rfl rfl) rfl)) ?_
      refine D_val rfl (.on 16 rfl rfl rfl) (fun ha => V_pick (b := true) (u := (.bool (decide ((x6 : Int) ≤ x24)))) (v := (.bool false)) (EN ha (.tmp rfl rfl) rfl) (EN ha (.tmp rfl rfl) rfl) (EN ha (.bool _) rfl)) ?_
      refine D_val rfl .no (fun ha => V_pick (b := false) (u := (.bool true)) (v := (.bool (decide ((x6 : Int) ≤ x24)))) (EN ha (.tmp rfl rfl) rfl) (EN ha (.bool _) rfl) (EN ha (.tmp rfl rfl) rfl)) ?_
      refine D_nil ?_
      obtain rfl := Option.some.inj hF
      exact ⟨_, _, rfl, (EqL.cons rfl (EqL.cons rfl (EqL.cons rfl (EqL.nil)))).eq, (.sel (.rd (.t (.t (.t .h))) rfl .nil))⟩
    rw [hg21]
    try rw [hg21] at hF; dsimp only [cond_true, cond_false] at hF
    iterate 10 refine D_off 19 rfl rfl rfl rfl ?_
    refine D_val rfl (.on 16 rfl rfl rfl) (fun ha => V_pick (b := false) (u := undef) (v := (.bool false)) (EN ha (.tmp rfl rfl) rfl) (EN ha (.tmp rfl rfl) rfl) (EN ha (.bool _) rfl)) ?_
    refine D_val rfl .no (fun ha => V_pick (b := false) (u := (.bool true)) (v := (.bool false)) (EN ha (.tmp rfl rfl) rfl) (EN ha (.bool _) rfl) (EN ha (.tmp rfl rfl) rfl)) ?_
    refine D_nil ?_
    obtain rfl := Option.some.inj hF
    exact ⟨_, _, rfl, (EqL.cons rfl (EqL.cons rfl (EqL.cons rfl (EqL.nil)))).eq, (.sel (.rd (.t .h) rfl .nil))⟩
  rintro _ _ ⟨c30, g33, rfl, rfl, hE⟩
  replace hF := hO14
  clear hO14
  try dsimp only at hF
  refine K_ent hE ?_
  refine CW_cond (b := c30) (.tmp rfl rfl) (fun hb32 => ?_) (fun hb32 => ?_)
  · rw [if_pos hb32] at hF
    refine K_region (C_val (V_assign (v := (.bool false)) (.bool _)) ?_)
    refine C_nil (CW_ret ?_)
    obtain rfl := Option.some.inj hF
    exact End_ret () (.tmp rfl rfl .nil) rfl (.sel .nil)
  rw [if_neg (by rw [hb32]; exact Bool.false_ne_true)] at hF
  refine CW_skip (CW_region (Cm (.int .i64 (k4 : Int)) rfl rfl ?_))
  refine C_val (V_add (i := (k4 : Int)) (j := 1) (.tmp rfl rfl) (.int _ _)) ?_
  refine Ca (.int .i64 (IntKind.i64.wrap ((k4 : Int) + 1))) rfl rfl ?_
  refine C_nil ?_
  have hw31 : IntKind.i64.wrap ((k4 : Int) + 1) = ((k4 + 1 : Nat) : Int) := by rw [wrap_in (by omega) (by omega)]; rfl
  rw [hw31]
  exact ⟨_, Nat.lt_succ_self _, _, k4 + 1, rest5, rfl, (EqL.cons rfl (EqL.cons rfl (EqL.nil))).eq, hd10, (.sel (.rd .h rfl .nil)), hF⟩

/-! spec.l2One -/
def s_l2One (a_rel : Int) (a_values : List Int) : Option (Fact) :=
  (app ([] : List Int) a_values).bind fun z3 =>
  some ({ Rel := a_rel, Values := z3 } : Fact)
theorem s_l2One_ok (a_rel : Int) (a_values : List Int) (v1_0 : Sv) (R : Fact) (hF : s_l2One a_rel a_values = some R) :
    Fw.Spec Tryz.prog 187 [(.int .i64 a_rel), v1_0.v] [crd (RdS 3 rdInt) v1_0.v a_values] (fun p : Sv × List Nat => (.agg [(.int .i64 R.Rel), p.1.v].toArray)) (fun p => [cown (OwnS 3 (roE rdInt)) p.2 p.1.v R.Values]) := by
  refine Spec_enter (n := 10) Tryz.func187 rfl rfl (rs := [.cell 4 114]) rfl rfl rfl ?_
  intro H0 F0
  unfold s_l2One at hF
  refine K_region (C_new rfl (N_allocT (g := true) ty114 rfl rfl) (fun k1 => ?_))
  refine C_nil (K_region (Cm (.int .i64 a_rel) rfl rfl ?_))
  refine C_new rfl (N_buildSliceT (g := true) sl22 ty3 .nil (vs := []) rfl rfl rfl (by simp)) (fun k2 => ?_)
  refine C_conv (.cons .h .nil) (own_lit (Ro := (roE rdInt)) (E := 3) (F := []) (xs := ([] : List Int)) MkL_nil rfl rfl) apps ?_
  refine Cm v1_0.v rfl rfl ?_
  obtain ⟨z3, hx4, hF⟩ := bind_some hF
  refine C_x1 (.cons .h (.rd (.t .h) rfl .nil)) (X_appendO (Ro := (roE rdInt)) sl22 ni22 ty3 rfl rfl rfl (.tmp rfl rfl) (.tmp rfl rfl) hx4 src_rd) (fun p5 => ?_)
  refine C_val (V_build ty114 rfl (vs := [(.int .i64 a_rel), p5.1.v]) (.cons (.tmp rfl rfl) (.cons (.tmp rfl rfl) .nil)) (cells := [(.int .i64 a_rel), p5.1.v]) rfl) ?_
  refine C_x1 (.cons (.t .h) .nil) (X_storeB (e' := (.agg [(.int .i64 a_rel), p5.1.v].toArray)) (v := (.agg [(.int .i64 a_rel), p5.1.v].toArray)) ty114.sz (.tmp rfl rfl) (.tmp rfl rfl) rfl rfl rfl rfl rfl) (fun _ => ?_)
  refine C_nil (CW_ret ?_)
  obtain rfl := Option.some.inj hF
  exact End_ret (p5.1, p5.2) (.cellA rfl rfl .h rfl ag114 ty114.sz rfl rfl .nil) rfl (.sel (.cons (.t .h) .nil))

/-! spec.l2Copy -/
def s_l2Copy_L1 : List Fact → Nat → (List Fact) → Option ((List Fact))
  | [], k8, c2 => some c2
  | x10 :: rest9, k8, c2 => (s_l2One x10.Rel x10.Values).bind fun r22 =>
    (app c2 ([r22] : List Fact)).bind fun z26 =>
    s_l2Copy_L1 rest9 (k8 + 1) z26
def s_l2Copy (a_l : List Fact) : Option ((List Fact)) :=
  s_l2Copy_L1 a_l 0 ([] : List Fact)
theorem s_l2Copy_ok (a_l : List Fact) (v0_0 : Sv) (R : (List Fact)) (hF : s_l2Copy a_l = some R) :
    Fw.Spec Tryz.prog 208 [v0_0.v] [crd (RdS 114 rd114) v0_0.v a_l] (fun p : Sv × List Nat => p.1.v) (fun p => [cown (OwnS 114 ow114) p.2 p.1.v R]) := by
  refine Spec_enter (n := 27) Tryz.func208 rfl rfl (rs := [.tmp 2]) rfl rfl rfl ?_
  intro H0 F0
  unfold s_l2Copy at hF
  refine K_region (C_val (V_assign (v := (.slice none 0 0)) EV.nilSlice) ?_)
  refine C_nil (K_region (C_new rfl (N_buildSliceT (g := true) sl40 ty114 .nil (vs := []) rfl rfl rfl (by simp)) (fun k1 => ?_)))
  refine C_conv (.cons .h .nil) (own_lit (Ro := ow114) (E := 114) (F := []) (xs := ([] : List Fact)) MkL_nil rfl rfl) apps ?_
  refine Ca (.slice (some ⟨k1, 0, none⟩) 0 1) rfl rfl ?_
  refine C_nil (K_in (K_region (C_val (V_assign (v := (.int .i64 0)) (.int _ _)) ?_)))
  refine C_nil (CW_block (CW_loop (m := a_l.length) (fun m6 f' cs' => ∃ (g : Fr) (k8 : Nat) (rest9 : List Fact) (c2 : List Fact) (v3 : Sv) (F4 : List Nat), m6 = rest9.length ∧ f' = updL g [(0, v0_0.v), (3, v3.v), (4, (.int .i64 (k8 : Int)))] ∧ List.drop k8 a_l = rest9 ∧ Ent cs' [crd (RdS 114 rd114) v0_0.v a_l, cown (OwnS 114 ow114) F4 v3.v c2] ∧ s_l2Copy_L1 rest9 k8 c2 = some R) ⟨_, 0, _, _, ⟨(some ⟨k1, 0, none⟩), 0, 1⟩, (k1 :: []), rfl, (EqL.cons rfl (EqL.cons rfl (EqL.cons rfl (EqL.nil)))).eq, rfl, (.sel (.rd (.t .h) rfl (.cons .h .nil))), hF⟩ ?_))
  clear hF
  rintro m6 _ _ ⟨g7, k8, rest9, c2, v3, F4, rfl, rfl, hd11, hE, hF⟩
  refine K_ent hE ?_
  clear hE
  refine K_pure (c := crd (RdS 114 rd114) v0_0.v a_l) .h crd_bound (fun hbd16 => ?_)
  rcases rest9 with _ | ⟨x10, rest9⟩
  · have hk12 := List.drop_eq_nil_iff.1 hd11
    have hfe15 : (decide (((k8 : Int) : Int) < (a_l.length : Int))) = false := decide_eq_false (by omega)
    rw [s_l2Copy_L1] at hF
    refine K_in (K_region (Cm (.int .i64 (k8 : Int)) rfl rfl ?_))
    refine Cm v0_0.v rfl rfl ?_
    refine C_at .h (fun hp => V_lenR (l := a_l.length) sl40 (.tmp rfl rfl) (crd_len hp)) ?_
    refine C_val (V_lss (i := (k8 : Int)) (j := (a_l.length : Int)) (.tmp rfl rfl) (.tmp rfl rfl)) ?_
    refine C_nil (CW_cond (b := (decide (((k8 : Int) : Int) < (a_l.length : Int)))) (.tmp rfl rfl) (fun hb => absurd (hfe15.symm.trans hb) (by decide)) (fun _ => ?_))
    refine CW_exit ?_
    iterate 2 refine CThen_exit ?_
    refine CIn_self (K_region (Cm v3.v rfl rfl ?_))
    refine Ca v3.v rfl rfl ?_
    refine C_nil (CW_ret ?_)
    obtain rfl := Option.some.inj hF
    exact End_ret (v3, F4) (.tmp rfl rfl .nil) rfl (.sel (.cons (.t .h) .nil))
  obtain ⟨hk12, hx13, hd14⟩ := drop_cons hd11
  have hfe15 : (decide (((k8 : Int) : Int) < (a_l.length : Int))) = true := decide_eq_true (by omega)
  rw [s_l2Copy_L1] at hF
  refine K_in (K_region (Cm (.int .i64 (k8 : Int)) rfl rfl ?_))
  refine Cm v0_0.v rfl rfl ?_
  refine C_at .h (fun hp => V_lenR (l := a_l.length) sl40 (.tmp rfl rfl) (crd_len hp)) ?_
  refine C_val (V_lss (i := (k8 : Int)) (j := (a_l.length : Int)) (.tmp rfl rfl) (.tmp rfl rfl)) ?_
  refine C_nil (CW_cond (b := (decide (((k8 : Int) : Int) < (a_l.length : Int)))) (.tmp rfl rfl) (fun _ => ?_) (fun hb => absurd (hfe15.symm.trans hb) (by decide)))
  refine CW_skip (K_block (CW_draw [0, 1, 2, 3, 4, 5, 6, 7, 8, 9, 10, 11, 12, 13, 14] [0, 0, 0, 6, 14, 30, 0, 0, 192, 448, 960, 2046, 4094, 8191, 16383] [11, 13] mixed (by decide +kernel) ?_))
  refine Dm v3.v rfl rfl rfl rfl ?_
  refine Dm v0_0.v rfl rfl rfl rfl ?_
  refine Dm (.int .i64 (k8 : Int)) rfl rfl rfl rfl ?_
  refine D_idx (a := x10) sl40 ty114.sz rfl .no (.tmp rfl rfl) (.tmp rfl rfl) rfl rfl .h (Int.natCast_nonneg k8) hx13 (fun k17 j18 => ?_)
  refine D_val rfl .no (fun ha => V_fieldAddr (off := 0) fd114_0 (EN ha (.tmp rfl rfl) rfl)) ?_
  refine D_ldS (w := (.int .i64 x10.Rel)) ag3 rfl .no (.tmp rfl rfl) rfl .h ls114_0 ?_
  refine Dm v0_0.v rfl rfl rfl rfl ?_
  refine Dm (.int .i64 (k8 : Int)) rfl rfl rfl rfl ?_
  refine D_idx (a := x10) sl40 ty114.sz rfl .no (.tmp rfl rfl) (.tmp rfl rfl) rfl rfl (.t .h) (Int.natCast_nonneg k8) hx13 (fun k19 j20 => ?_)
  refine D_val rfl .no (fun ha => V_fieldAddr (off := 1) fd114_1 (EN ha (.tmp rfl rfl) rfl)) ?_
  refine D_ldV (R' := (RdS 3 rdInt)) ag22 rfl .no (.tmp rfl rfl) rfl .h lv114_1 (fun w21 => ?_)
  obtain ⟨r22, hx23, hF⟩ := bind_some hF
  refine D_act1 rfl rfl .no (.rd .h rfl .nil) .nil (fun ha => X_callS cf187 (.cons (EN ha (.tmp rfl rfl) rfl) (.cons (EN ha (.tmp rfl rfl) rfl) .nil)) (s_l2One_ok x10.Rel x10.Values w21 _ hx23)) (fun p24 => ?_)
  refine D_new rfl .no rfl (fun ha => N_buildSliceT (g := true) (len := 1) (parts := [(0, .tmp 23)]) sl40 ty114 (.cons (EN ha (.tmp rfl rfl) rfl) .nil) (vs := [(.agg [(.int .i64 r22.Rel), p24.1.v].toArray)]) rfl rfl rfl (by intro v hv; simp at hv; rcases hv with rfl <;> rfl)) (fun k25 => ?_)
  refine D_conv (.cons .h (.cons .h .nil)) (own_lit (Ro := ow114) (E := 114) (F := (p24.2 ++ [])) (xs := ([r22] : List Fact)) (MkL_cons mk114 MkL_nil apps) rfl rfl) apps ?_
  obtain ⟨z26, hx27, hF⟩ := bind_some hF
  refine D_act1 rfl rfl .no (.cons (.t (.t (.t (.t (.t .h))))) (.cons .h .nil)) (.dep rfl .nil) (fun ha => X_appendO (Ro := ow114) sl40 ni40 ty114 rfl rfl rfl (EN ha (.tmp rfl rfl) rfl) (EN ha (.tmp rfl rfl) rfl) hx27 src_own) (fun p28 => ?_)
  refine Da p28.1.v rfl rfl rfl rfl ?_
  refine D_nil (CW_region (Cm (.int .i64 (k8 : Int)) rfl rfl ?_))
  refine C_val (V_add (i := (k8 : Int)) (j := 1) (.tmp rfl rfl) (.int _ _)) ?_
  refine Ca (.int .i64 (IntKind.i64.wrap ((k8 : Int) + 1))) rfl rfl ?_
  refine C_nil ?_
  have hw29 : IntKind.i64.wrap ((k8 : Int) + 1) = ((k8 + 1 : Nat) : Int) := by rw [wrap_in (by omega) (by omega)]; rfl
  rw [hw29]
  exact ⟨_, Nat.lt_succ_self _, _, k8 + 1, rest9, _, p28.1, p28.2, rfl, (EqL.cons rfl (EqL.cons rfl (EqL.cons rfl (EqL.nil)))).eq, hd14, (.sel (.rd (.t (.t (.t (.t .h)))) rfl (.cons .h .nil))), hF⟩

/-! spec.l8Access -/
def s_l8Access (a_m : Int) (a_values : List Int) : Option (Access) :=
  (app ([] : List Int) a_values).bind fun z3 =>
  some ({ Method := a_m, Values := z3 } : Access)
theorem s_l8Access_ok (a_m : Int) (a_values : List Int) (v1_0 : Sv) (R : Access) (hF : s_l8Access a_m a_values = some R) :
    Fw.Spec Tryz.prog 226 [(.int .i64 a_m), v1_0.v] [crd (RdS 3 rdInt) v1_0.v a_values] (fun p : Sv × List Nat => (.agg [(.int .i64 R.Method), p.1.v].toArray)) (fun p => [cown (OwnS 3 (roE rdInt)) p.2 p.1.v R.Values]) := by
  refine Spec_enter (n := 10) Tryz.func226 rfl rfl (rs := [.cell 4 80]) rfl rfl rfl ?_
  intro H0 F0
  unfold s_l8Access at hF
  refine K_region (C_new rfl (N_allocT (g := true) ty80 rfl rfl) (fun k1 => ?_))
  refine C_nil (K_region (Cm (.int .i64 a_m) rfl rfl ?_))
  refine C_new rfl (N_buildSliceT (g := true) sl22 ty3 .nil (vs := []) rfl rfl rfl (by simp)) (fun k2 => ?_)
  refine C_conv (.cons .h .nil) (own_lit (Ro := (roE rdInt)) (E := 3) (F := []) (xs := ([] : List Int)) MkL_nil rfl rfl) apps ?_
  refine Cm v1_0.v rfl rfl ?_
  obtain ⟨z3, hx4, hF⟩ := bind_some hF
  refine C_x1 (.cons .h (.rd (.t .h) rfl .nil)) (X_appendO (Ro := (roE rdInt)) sl22 ni22 ty3 rfl rfl rfl (.tmp rfl rfl) (.tmp rfl rfl) hx4 src_rd) (fun p5 => ?_)
  refine C_val (V_build ty80 rfl (vs := [(.int .i64 a_m), p5.1.v]) (.cons (.tmp rfl rfl) (.cons (.tmp rfl rfl) .nil)) (cells := [(.int .i64 a_m), p5.1.v]) rfl) ?_
  refine C_x1 (.cons (.t .h) .nil) (X_storeB (e' := (.agg [(.int .i64 a_m), p5.1.v].toArray)) (v := (.agg [(.int .i64 a_m), p5.1.v].toArray)) ty80.sz (.tmp rfl rfl) (.tmp rfl rfl) rfl rfl rfl rfl rfl) (fun _ => ?_)
  refine C_nil (CW_ret ?_)
  obtain rfl := Option.some.inj hF
  exact End_ret (p5.1, p5.2) (.cellA rfl rfl .h rfl ag80 ty80.sz rfl rfl .nil) rfl (.sel (.cons (.t .h) .nil))

/-! spec.l8Log -/
def s_l8Log_L1 : List Access → Nat → (List Access) → Option ((List Access))
  | [], k8, c2 => some c2
  | x10 :: rest9, k8, c2 => (s_l8Access x10.Method x10.Values).bind fun r22 =>
    (app c2 ([r22] : List Access)).bind fun z26 =>
    s_l8Log_L1 rest9 (k8 + 1) z26
def s_l8Log (a_l : List Access) : Option ((List Access)) :=
  s_l8Log_L1 a_l 0 ([] : List Access)
theorem s_l8Log_ok (a_l : List Access) (v0_0 : Sv) (R : (List Access)) (hF : s_l8Log a_l = some R) :
    Fw.Spec Tryz.prog 209 [v0_0.v] [crd (RdS 80 rd80) v0_0.v a_l] (fun p : Sv × List Nat => p.1.v) (fun p => [cown (OwnS 80 ow80) p.2 p.1.v R]) := by
  refine Spec_enter (n := 27) Tryz.func209 rfl rfl (rs := [.tmp 2]) rfl rfl rfl ?_
  intro H0 F0
  unfold s_l8Log at hF
  refine K_region (C_val (V_assign (v := (.slice none 0 0)) EV.nilSlice) ?_)
  refine C_nil (K_region (C_new rfl (N_buildSliceT (g := true) sl46 ty80 .nil (vs := []) rfl rfl rfl (by simp)) (fun k1 => ?_)))
  refine C_conv (.cons .h .nil) (own_lit (Ro := ow80) (E := 80) (F := []) (xs := ([] : List Access)) MkL_nil rfl rfl) apps ?_
  refine Ca (.slice (some ⟨k1, 0, none⟩) 0 1) rfl rfl ?_
  refine C_nil (K_in (K_region (C_val (V_assign (v := (.int .i64 0)) (.int _ _)) ?_)))
  refine C_nil (CW_block (CW_loop (m := a_l.length) (fun m6 f' cs' => ∃ (g : Fr) (k8 : Nat) (rest9 : List Access) (c2 : List Access) (v3 : Sv) (F4 : List Nat), m6 = rest9.length ∧ f' = updL g [(0, v0_0.v), (3, v3.v), (4, (.int .i64 (k8 : Int)))] ∧ List.drop k8 a_l = rest9 ∧ Ent cs' [crd (RdS 80 rd80) v0_0.v a_l, cown (OwnS 80 ow80) F4 v3.v c2] ∧ s_l8Log_L1 rest9 k8 c2 = some R) ⟨_, 0, _, _, ⟨(some ⟨k1, 0, none⟩), 0, 1⟩, (k1 :: []), rfl, (EqL.cons rfl (EqL.cons rfl (EqL.cons rfl (EqL.nil)))).eq, rfl, (.sel (.rd (.t .h) rfl (.cons .h .nil))), hF⟩ ?_))
  clear hF
  rintro m6 _ _ ⟨g7, k8, rest9, c2, v3, F4, rfl, rfl, hd11, hE, hF⟩
  refine K_ent hE ?_
  clear hE
  refine K_pure (c := crd (RdS 80 rd80) v0_0.v a_l) .h crd_bound (fun hbd16 => ?_)
  rcases rest9 with _ | ⟨x10, rest9⟩
  · have hk12 := List.drop_eq_nil_iff.1 hd11
    have hfe15 : (decide (((k8 : Int) : Int) < (a_l.length : Int))) = false := decide_eq_false (by omega)
    rw [s_l8Log_L1] at hF
    refine K_in (K_region (Cm (.int .i64 (k8 : Int)) rfl rfl ?_))
    refine Cm v0_0.v rfl rfl ?_
    refine C_at .h (fun hp => V_lenR (l := a_l.length) sl46 (.tmp rfl rfl) (crd_len hp)) ?_
    refine C_val (V_lss (i := (k8 : Int)) (j := (a_l.length : Int)) (.tmp rfl rfl) (.tmp rfl rfl)) ?_
    refine C_nil (CW_cond (b := (decide (((k8 : Int) : Int) < (a_l.length : Int)))) (.tmp rfl rfl) (fun hb => absurd (hfe15.symm.trans hb) (by decide)) (fun _ => ?_))
    refine CW_exit ?_
    iterate 2 refine CThen_exit ?_
    refine CIn_self (K_region (Cm v3.v rfl rfl ?_))
    refine Ca v3.v rfl rfl ?_
    refine C_nil (CW_ret ?_)
    obtain rfl := Option.some.inj hF
    exact End_ret (v3, F4) (.tmp rfl rfl .nil) rfl (.sel (.cons (.t .h) .nil))
  obtain ⟨hk12, hx13, hd14⟩ := drop_cons hd11
  have hfe15 : (decide (((k8 : Int) : Int) < (a_l.length : Int))) = true := decide_eq_true (by omega)
  rw [s_l8Log_L1] at hF
  refine K_in (K_region (Cm (.int .i64 (k8 : Int)) rfl rfl ?_))
  refine Cm v0_0.v rfl rfl ?_
  refine C_at .h (fun hp => V_lenR (l := a_l.length) sl46 (.tmp rfl rfl) (crd_len hp)) ?_
  refine C_val (V_lss (i := (k8 : Int)) (j := (a_l.length : Int)) (.tmp rfl rfl) (.tmp rfl rfl)) ?_
  refine C_nil (CW_cond (b := (decide (((k8 : Int) : Int) < (a_l.length : Int)))) (.tmp rfl rfl) (fun _ => ?_) (fun hb => absurd (hfe15.symm.trans hb) (by decide)))
  refine CW_skip (K_block (CW_draw [0, 1, 2, 3, 4, 5, 6, 7, 8, 9, 10, 11, 12, 13, 14] [0, 0, 0, 6, 14, 30, 0, 0, 192, 448, 960, 2046, 4094, 8191, 16383] [11, 13] mixed (by decide +kernel) ?_))
  refine Dm v3.v rfl rfl rfl rfl ?_
  refine Dm v0_0.v rfl rfl rfl rfl ?_
  refine Dm (.int .i64 (k8 : Int)) rfl rfl rfl rfl ?_
  refine D_idx (a := x10) sl46 ty80.sz rfl .no (.tmp rfl rfl) (.tmp rfl rfl) rfl rfl .h (Int.natCast_nonneg k8) hx13 (fun k17 j18 => ?_)
  refine D_val rfl .no (fun ha => V_fieldAddr (off := 0) fd80_0 (EN ha (.tmp rfl rfl) rfl)) ?_
  refine D_ldS (w := (.int .i64 x10.Method)) ag3 rfl .no (.tmp rfl rfl) rfl .h ls80_0 ?_
  refine Dm v0_0.v rfl rfl rfl rfl ?_
  refine Dm (.int .i64 (k8 : Int)) rfl rfl rfl rfl ?_
  refine D_idx (a := x10) sl46 ty80.sz rfl .no (.tmp rfl rfl) (.tmp rfl rfl) rfl rfl (.t .h) (Int.natCast_nonneg k8) hx13 (fun k19 j20 => ?_)
  refine D_val rfl .no (fun ha => V_fieldAddr (off := 1) fd80_1 (EN ha (.tmp rfl rfl) rfl)) ?_
  refine D_ldV (R' := (RdS 3 rdInt)) ag22 rfl .no (.tmp rfl rfl) rfl .h lv80_1 (fun w21 => ?_)
  obtain ⟨r22, hx23, hF⟩ := bind_some hF
  refine D_act1 rfl rfl .no (.rd .h rfl .nil) .nil (fun ha => X_callS cf226 (.cons (EN ha (.tmp rfl rfl) rfl) (.cons (EN ha (.tmp rfl rfl) rfl) .nil)) (s_l8Access_ok x10.Method x10.Values w21 _ hx23)) (fun p24 => ?_)
  refine D_new rfl .no rfl (fun ha => N_buildSliceT (g := true) (len := 1) (parts := [(0, .tmp 23)]) sl46 ty80 (.cons (EN ha (.tmp rfl rfl) rfl) .nil) (vs := [(.agg [(.int .i64 r22.Method), p24.1.v].toArray)]) rfl rfl rfl (by intro v hv; simp at hv; rcases hv with rfl <;> rfl)) (fun k25 => ?_)
  refine D_conv (.cons .h (.cons .h .nil)) (own_lit (Ro := ow80) (E := 80) (F := (p24.2 ++ [])) (xs := ([r22] : List Access)) (MkL_cons mk80 MkL_nil apps) rfl rfl) apps ?_
  obtain ⟨z26, hx27, hF⟩ := bind_some hF
  refine D_act1 rfl rfl .no (.cons (.t (.t (.t (.t (.t .h))))) (.cons .h .nil)) (.dep rfl .nil) (fun ha => X_appendO (Ro := ow80) sl46 ni46 ty80 rfl rfl rfl (EN ha (.tmp rfl rfl) rfl) (EN ha (.tmp rfl rfl) rfl) hx27 src_own) (fun p28 => ?_)
  refine Da p28.1.v rfl rfl rfl rfl ?_
  refine D_nil (CW_region (Cm (.int .i64 (k8 : Int)) rfl rfl ?_))
  refine C_val (V_add (i := (k8 : Int)) (j := 1) (.tmp rfl rfl) (.int _ _)) ?_
  refine Ca (.int .i64 (IntKind.i64.wrap ((k8 : Int) + 1))) rfl rfl ?_
  refine C_nil ?_
  have hw29 : IntKind.i64.wrap ((k8 : Int) + 1) = ((k8 + 1 : Nat) : Int) := by rw [wrap_in (by omega) (by omega)]; rfl
  rw [hw29]
  exact ⟨_, Nat.lt_succ_self _, _, k8 + 1, rest9, _, p28.1, p28.2, rfl, (EqL.cons rfl (EqL.cons rfl (EqL.cons rfl (EqL.nil)))).eq, hd14, (.sel (.rd (.t (.t (.t (.t .h)))) rfl (.cons .h .nil))), hF⟩

/-! spec.l8Copy -/
def s_l8Copy (a_r : Reached) : Option (Reached) :=
  (s_l2Copy a_r.Facts).bind fun r5 =>
  (app ([] : List Int) a_r.Values).bind fun z8 =>
  (s_l8Log a_r.Log).bind fun r11 =>
  some ({ Facts := r5, Values := z8, Log := r11, Rounds := a_r.Rounds } : Reached)
theorem s_l8Copy_ok (a_r : Reached) (v0_0 : Sv) (v0_1 : Sv) (v0_2 : Sv) (R : Reached) (hF : s_l8Copy a_r = some R) :
    Fw.Spec Tryz.prog 170 [(.agg [v0_0.v, v0_1.v, v0_2.v, (.int .i64 a_r.Rounds)].toArray)] [crd (RdS 114 rd114) v0_0.v a_r.Facts, crd (RdS 3 rdInt) v0_1.v a_r.Values, crd (RdS 80 rd80) v0_2.v a_r.Log] (fun p : Sv × List Nat × Sv × List Nat × Sv × List Nat => (.agg [p.1.v, p.2.2.1.v, p.2.2.2.2.1.v, (.int .i64 R.Rounds)].toArray)) (fun p => [cown (OwnS 114 ow114) p.2.1 p.1.v R.Facts, cown (OwnS 3 (roE rdInt)) p.2.2.2.1 p.2.2.1.v R.Values, cown (OwnS 80 ow80) p.2.2.2.2.2 p.2.2.2.2.1.v R.Log]) := by
  refine Spec_enter (n := 19) Tryz.func170 rfl rfl (rs := [.cell 2 110]) rfl rfl rfl ?_
  intro H0 F0
  unfold s_l8Copy at hF
  refine K_region (C_newR rfl (N_box (g := false) (v := (.agg [v0_0.v, v0_1.v, v0_2.v, (.int .i64 a_r.Rounds)].toArray)) ty110.sz (.tmp rfl rfl) rfl) (fun k1 => ?_))
  refine C_new rfl (N_allocT (g := true) ty110 rfl rfl) (fun k2 => ?_)
  refine C_nil (K_draw [0, 1, 3, 4, 5, 7, 8, 10, 2, 6, 9, 11] [0, 1, 3, 0, 0, 16, 63, 0, 128, 511, 0, 2047] [2, 6, 11] mixed (by decide +kernel) ?_)
  refine D_val rfl .no (fun ha => V_fieldAddr (off := 0) fd110_0 (EN ha (.tmp rfl rfl) rfl)) ?_
  refine D_at rfl .no (.t .h) rfl (fun ha hp => V_load (v := v0_0.v) ag40 (EN ha (.tmp rfl rfl) rfl) hp.2 rfl rfl) ?_
  refine D_new rfl .no rfl (fun ha => N_buildSliceT (g := true) (len := 0) (parts := []) sl22 ty3 .nil (vs := []) rfl rfl rfl (by simp)) (fun k3 => ?_)
  refine D_conv (.cons .h .nil) (own_lit (Ro := (roE rdInt)) (E := 3) (F := []) (xs := ([] : List Int)) MkL_nil rfl rfl) apps ?_
  refine D_val rfl .no (fun ha => V_fieldAddr (off := 1) fd110_1 (EN ha (.tmp rfl rfl) rfl)) ?_
  refine D_at rfl .no (.t (.t .h)) rfl (fun ha hp => V_load (v := v0_1.v) ag22 (EN ha (.tmp rfl rfl) rfl) hp.2 rfl rfl) ?_
  refine D_val rfl .no (fun ha => V_fieldAddr (off := 3) fd110_3 (EN ha (.tmp rfl rfl) rfl)) ?_
  refine D_at rfl .no (.t (.t .h)) rfl (fun ha hp => V_load (v := (.int .i64 a_r.Rounds)) ag3 (EN ha (.tmp rfl rfl) rfl) hp.2 rfl rfl) ?_
  refine D_new rfl .no rfl (fun ha => N_allocT (g := true) ty110 rfl rfl) (fun k4 => ?_)
  obtain ⟨r5, hx6, hF⟩ := bind_some hF
  refine D_act1 rfl rfl .no (.rd (.t (.t (.t (.t .h)))) rfl .nil) (.own .h (fun _ h => h) (.own (.t .h) (by simp [cown]) .nil)) (fun ha => X_callS cf208 (.cons (EN ha (.tmp rfl rfl) rfl) .nil) (s_l2Copy_ok a_r.Facts v0_0 _ hx6)) (fun p7 => ?_)
  obtain ⟨z8, hx9, hF⟩ := bind_some hF
  refine D_act1 rfl rfl .no (.cons (.t (.t .h)) (.rd (.t (.t (.t (.t (.t .h))))) rfl .nil)) (.own (.t .h) (fun _ h => h) (.dep rfl .nil)) (fun ha => X_appendO (Ro := (roE rdInt)) sl22 ni22 ty3 rfl rfl rfl (EN ha (.tmp rfl rfl) rfl) (EN ha (.tmp rfl rfl) rfl) hx9 src_rd) (fun p10 => ?_)
  refine D_val rfl .no (fun ha => V_build ty110 rfl (vs := [p7.1.v, p10.1.v, (.int .i64 a_r.Rounds)]) (.cons (EN ha (.tmp rfl rfl) rfl) (.cons (EN ha (.tmp rfl rfl) rfl) (.cons (EN ha (.tmp rfl rfl) rfl) .nil))) (cells := [p7.1.v, p10.1.v, (.slice none 0 0), (.int .i64 a_r.Rounds)]) rfl) ?_
  refine D_act1 rfl rfl .no (.cons (.t (.t .h)) .nil) (.dep rfl (.dep rfl .nil)) (fun ha => X_storeB (e' := (.agg [p7.1.v, p10.1.v, (.slice none 0 0), (.int .i64 a_r.Rounds)].toArray)) (v := (.agg [p7.1.v, p10.1.v, (.slice none 0 0), (.int .i64 a_r.Rounds)].toArray)) ty110.sz (EN ha (.tmp rfl rfl) rfl) (EN ha (.tmp rfl rfl) rfl) rfl rfl rfl rfl rfl) (fun _ => ?_)
  refine D_nil (K_region (C_val (V_fieldAddr (off := 2) fd110_2 (.tmp rfl rfl)) ?_))
  refine C_at (.t (.t (.t (.t .h)))) (fun hp => V_load (v := v0_2.v) ag46 (.tmp rfl rfl) hp.2 rfl rfl) ?_
  obtain ⟨r11, hx12, hF⟩ := bind_some hF
  refine C_x1 (.rd (.t (.t (.t (.t (.t (.t (.t .h))))))) rfl .nil) (X_callS cf209 (.cons (.tmp rfl rfl) .nil) (s_l8Log_ok a_r.Log v0_2 _ hx12)) (fun p13 => ?_)
  refine C_val (V_fieldAddr (off := 2) fd110_2 (.tmp rfl rfl)) ?_
  refine C_x1 (.cons (.t .h) .nil) (X_storeB (e' := (.agg [p7.1.v, p10.1.v, p13.1.v, (.int .i64 a_r.Rounds)].toArray)) ty46.sz (.tmp rfl rfl) (.tmp rfl rfl) rfl rfl rfl rfl rfl) (fun _ => ?_)
  refine C_nil (K_region (C_at .h (fun hp => V_loadBox ag110 ty110.sz rfl (.tmp rfl rfl) hp.2 rfl) ?_))
  refine C_x1 (.cons (.t (.t (.t (.t .h)))) .nil) (X_storeB (e' := (.agg [p7.1.v, p10.1.v, p13.1.v, (.int .i64 a_r.Rounds)].toArray)) (v := (.agg [p7.1.v, p10.1.v, p13.1.v, (.int .i64 a_r.Rounds)].toArray)) ty110.sz (.tmp rfl rfl) (.tmp rfl rfl) rfl rfl rfl rfl rfl) (fun _ => ?_)
  refine C_nil (CW_ret ?_)
  obtain rfl := Option.some.inj hF
  exact End_ret (p7.1, p7.2, p10.1, p10.2, p13.1, p13.2) (.cellA rfl rfl .h rfl ag110 ty110.sz rfl rfl .nil) rfl (.sel (.cons (.t (.t (.t (.t .h)))) (.cons (.t (.t (.t .h))) (.cons (.t (.t .h)) .nil))))

/-! spec.l8Lists -/
def s_l8Lists_L5 (c207 : List (List Int)) (c212 : Int) : List Int → Nat → (List (List Int)) → Option ((List (List Int)))
  | [], k229, c223 => some c223
  | x231 :: rest230, k229, c223 => (ix c207 c212).bind fun x239 =>
    (app ([] : List Int) x239).bind fun z249 =>
    (app z249 ([x231] : List Int)).bind fun z252 =>
    (app c223 ([z252] : List (List Int))).bind fun z256 =>
    s_l8Lists_L5 c207 c212 rest230 (k229 + 1) z256
def s_l8Lists_L2 (a_values : List Int) : Nat → (List (List Int)) → (List (List Int)) → Int → Option ((List (List Int)))
  | 0, _, _, _ => none
  | m213 + 1, c207, c209, c212 => if (decide ((c212 : Int) < (c207.length : Int))) then (
      (s_l8Lists_L5 c207 c212 a_values 0 c209).bind fun o221 =>
      match o221 with
      | c260 => s_l8Lists_L2 a_values m213 c207 c260 (IntKind.i64.wrap (c212 + 1)))
    else (
      some c209)
def s_l8Lists_L1 (a_values : List Int) (a_n : Int) : Nat → (List (List Int)) → Int → Option ((List (List Int)))
  | 0, _, _ => none
  | m7 + 1, c3, c6 => if (decide ((c6 : Int) < a_n)) then (
      (s_l8Lists_L2 a_values (((c3.length : Int) - 0).toNat + 2) c3 ([] : List (List Int)) 0).bind fun o15 =>
      match o15 with
      | c265 => s_l8Lists_L1 a_values a_n m7 c265 (IntKind.i64.wrap (c6 + 1)))
    else (
      some c3)
def s_l8Lists (a_values : List Int) (a_n : Int) : Option ((List (List Int))) :=
  s_l8Lists_L1 a_values a_n ((a_n - 0).toNat + 2) ([([] : List Int)] : List (List Int)) 0
theorem s_l8Lists_ok (a_values : List Int) (v0_0 : Sv) (a_n : Int) (R : (List (List Int))) (hF : s_l8Lists a_values a_n = some R) :
    Fw.Spec Tryz.prog 247 [v0_0.v, (.int .i64 a_n)] [crd (RdS 3 rdInt) v0_0.v a_values] (fun p : Sv × List Nat => p.1.v) (fun p => [cown (OwnS 22 (OwnS 3 (roE rdInt))) p.2 p.1.v R]) := by
  refine Spec_enter (n := 47) Tryz.func247 rfl rfl (rs := [.tmp 4]) rfl rfl rfl ?_
  intro H0 F0
  unfold s_l8Lists at hF
  refine K_region (C_val (V_assign (v := (.slice none 0 0)) EV.nilSlice) ?_)
  refine C_nil (K_region (C_new rfl (N_buildSliceT (g := true) sl22 ty3 .nil (vs := []) rfl rfl rfl (by simp)) (fun k1 => ?_)))
  refine C_conv (.cons .h .nil) (own_lit (Ro := (roE rdInt)) (E := 3) (F := []) (xs := ([] : List Int)) MkL_nil rfl rfl) apps ?_
  refine C_new rfl (N_buildSliceT (g := true) sl139 ty22 (.cons (.tmp rfl rfl) .nil) (vs := [(.slice (some ⟨k1, 0, none⟩) 0 1)]) rfl rfl rfl (by intro v hv; simp at hv; rcases hv with rfl <;> rfl)) (fun k2 => ?_)
  refine C_conv (.cons .h (.cons .h .nil)) (own_lit (Ro := (OwnS 3 (roE rdInt))) (E := 22) (F := ((k1 :: []) ++ [])) (xs := ([([] : List Int)] : List (List Int))) (MkL_cons Mk_own MkL_nil apps) rfl rfl) apps ?_
  refine Ca (.slice (some ⟨k2, 0, none⟩) 1 1) rfl rfl ?_
  refine C_nil (K_in (K_region (C_val (V_assign (v := (.int .i64 0)) (.int _ _)) ?_)))
  refine C_nil (CW_block (CW_loop (m := ((a_n - 0).toNat + 2)) (fun m7 f' cs' => ∃ (g : Fr) (c3 : List (List Int)) (c6 : Int) (v4 : Sv) (F5 : List Nat), f' = updL g [(0, v0_0.v), (1, (.int .i64 a_n)), (5, v4.v), (6, (.int .i64 c6))] ∧ Ent cs' [crd (RdS 3 rdInt) v0_0.v a_values, cown (OwnS 22 (OwnS 3 (roE rdInt))) F5 v4.v c3] ∧ s_l8Lists_L1 a_values a_n m7 c3 c6 = some R) ⟨_, _, _, ⟨(some ⟨k2, 0, none⟩), 1, 1⟩, (k2 :: ((k1 :: []) ++ [])), (EqL.cons rfl (EqL.cons rfl (EqL.cons rfl (EqL.cons rfl (EqL.nil))))).eq, (.sel (.rd (.t .h) rfl (.cons .h .nil))), hF⟩ ?_))
  clear hF
  rintro m7 _ _ ⟨g8, c3, c6, v4, F5, rfl, hE, hF⟩
  refine K_ent hE ?_
  clear hE
  rcases m7 with _ | m7
  · rw [s_l8Lists_L1] at hF
    exact absurd hF (by simp)
  rw [s_l8Lists_L1] at hF
  refine K_in (K_region (Cm (.int .i64 c6) rfl rfl ?_))
  refine Cm (.int .i64 a_n) rfl rfl ?_
  refine C_val (V_lss (i := c6) (j := a_n) (.tmp rfl rfl) (.tmp rfl rfl)) ?_
  refine C_nil (CW_cond (b := (decide ((c6 : Int) < a_n))) (.tmp rfl rfl) (fun hb269 => ?_) (fun hb269 => ?_))
  · rw [if_pos hb269] at hF
    refine CW_skip ?_
    obtain ⟨o15, hio15, hO16⟩ := bind_some hF
    refine K_cut (fun f' cs' => ∃ (c265 : List (List Int)) (v266 : Sv) (F267 : List Nat) (g : Fr), c265 = o15 ∧ f' = updL g [(0, v0_0.v), (1, (.int .i64 a_n)), (5, v266.v), (6, (.int .i64 c6))] ∧ Ent cs' [crd (RdS 3 rdInt) v0_0.v a_values, cown (OwnS 22 (OwnS 3 (roE rdInt))) F267 v266.v c265]) ?_ ?_
    · replace hF := hio15
      refine CW_block (K_region (C_new rfl (N_buildSliceT (g := true) sl139 ty22 .nil (vs := []) rfl rfl rfl (by simp)) (fun k17 => ?_)))
      refine C_conv (.cons .h .nil) (own_lit (Ro := (OwnS 3 (roE rdInt))) (E := 22) (F := []) (xs := ([] : List (List Int))) MkL_nil rfl rfl) apps ?_
      refine Ca (.slice (some ⟨k17, 0, none⟩) 0 1) rfl rfl ?_
      refine C_nil (K_in (K_region (C_val (V_assign (v := (.int .i64 0)) (.int _ _)) ?_)))
      refine C_nil (CW_block (CW_loop (m := (((c3.length : Int) - 0).toNat + 2)) (fun m213 f' cs' => ∃ (g : Fr) (c207 : List (List Int)) (c209 : List (List Int)) (c212 : Int) (v208 : Sv) (v210 : Sv) (F211 : List Nat), f' = updL g [(0, v0_0.v), (1, (.int .i64 a_n)), (5, v208.v), (6, (.int .i64 c6)), (7, v210.v), (8, (.int .i64 c212))] ∧ Ent cs' [crd (RdS 3 rdInt) v0_0.v a_values, crd (RdS 22 (RdS 3 rdInt)) v208.v c207, cown (OwnS 22 (OwnS 3 (roE rdInt))) F211 v210.v c209] ∧ s_l8Lists_L2 a_values m213 c207 c209 c212 = some o15) ⟨_, _, _, _, v4, ⟨(some ⟨k17, 0, none⟩), 0, 1⟩, (k17 :: []), (EqL.cons rfl (EqL.cons rfl (EqL.cons rfl (EqL.cons rfl (EqL.cons rfl (EqL.cons rfl (EqL.nil))))))).eq, (.frz (.t (.t .h)) frz_own (.sel (.rd (.t (.t .h)) rfl (.rd .h rfl (.cons (.t .h) .nil))))), hF⟩ ?_))
      clear hF
      rintro m213 _ _ ⟨g214, c207, c209, c212, v208, v210, F211, rfl, hE, hF⟩
      refine K_ent hE ?_
      clear hE
      rcases m213 with _ | m213
      · rw [s_l8Lists_L2] at hF
        exact absurd hF (by simp)
      rw [s_l8Lists_L2] at hF
      refine K_in (K_region (Cm (.int .i64 c212) rfl rfl ?_))
      refine Cm v208.v rfl rfl ?_
      refine C_at (.t .h) (fun hp => V_lenR (l := c207.length) sl139 (.tmp rfl rfl) (crd_len hp)) ?_
      refine C_val (V_lss (i := c212) (j := (c207.length : Int)) (.tmp rfl rfl) (.tmp rfl rfl)) ?_
      refine C_nil (CW_cond (b := (decide ((c212 : Int) < (c207.length : Int)))) (.tmp rfl rfl) (fun hb264 => ?_) (fun hb264 => ?_))
      · rw [if_pos hb264] at hF
        refine CW_skip ?_
        obtain ⟨o221, hio221, hO222⟩ := bind_some hF
        refine K_cut (fun f' cs' => ∃ (c260 : List (List Int)) (v261 : Sv) (F262 : List Nat) (g : Fr), c260 = o221 ∧ f' = updL g [(0, v0_0.v), (1, (.int .i64 a_n)), (5, v208.v), (6, (.int .i64 c6)), (7, v261.v), (8, (.int .i64 c212))] ∧ Ent cs' [crd (RdS 3 rdInt) v0_0.v a_values, crd (RdS 22 (RdS 3 rdInt)) v208.v c207, cown (OwnS 22 (OwnS 3 (roE rdInt))) F262 v261.v c260]) ?_ ?_
        · replace hF := hio221
          refine CW_block (K_region (C_val (V_assign (v := (.int .i64 0)) (.int _ _)) ?_))
          refine C_nil (CW_block (CW_loop (m := a_values.length) (fun m227 f' cs' => ∃ (g : Fr) (k229 : Nat) (rest230 : List Int) (c223 : List (List Int)) (v224 : Sv) (F225 : List Nat), m227 = rest230.length ∧ f' = updL g [(0, v0_0.v), (1, (.int .i64 a_n)), (5, v208.v), (6, (.int .i64 c6)), (7, v224.v), (8, (.int .i64 c212)), (9, (.int .i64 (k229 : Int)))] ∧ List.drop k229 a_values = rest230 ∧ Ent cs' [crd (RdS 3 rdInt) v0_0.v a_values, crd (RdS 22 (RdS 3 rdInt)) v208.v c207, cown (OwnS 22 (OwnS 3 (roE rdInt))) F225 v224.v c223] ∧ s_l8Lists_L5 c207 c212 rest230 k229 c223 = some o221) ⟨_, 0, _, _, v210, F211, rfl, (EqL.cons rfl (EqL.cons rfl (EqL.cons rfl (EqL.cons rfl (EqL.cons rfl (EqL.cons rfl (EqL.cons rfl (EqL.nil)))))))).eq, rfl, (.sel (.rd .h rfl (.rd (.t .h) rfl (.cons (.t (.t .h)) .nil)))), hF⟩ ?_))
          clear hF
          rintro m227 _ _ ⟨g228, k229, rest230, c223, v224, F225, rfl, rfl, hd232, hE, hF⟩
          refine K_ent hE ?_
          clear hE
          refine K_pure (c := crd (RdS 3 rdInt) v0_0.v a_values) .h crd_bound (fun hbd237 => ?_)
          rcases rest230 with _ | ⟨x231, rest230⟩
          · have hk233 := List.drop_eq_nil_iff.1 hd232
            have hfe236 : (decide (((k229 : Int) : Int) < (a_values.length : Int))) = false := decide_eq_false (by omega)
            rw [s_l8Lists_L5] at hF
            refine K_in (K_region (Cm (.int .i64 (k229 : Int)) rfl rfl ?_))
            refine Cm v0_0.v rfl rfl ?_
            refine C_at .h (fun hp => V_lenR (l := a_values.length) sl22 (.tmp rfl rfl) (crd_len hp)) ?_
            refine C_val (V_lss (i := (k229 : Int)) (j := (a_values.length : Int)) (.tmp rfl rfl) (.tmp rfl rfl)) ?_
            refine C_nil (CW_cond (b := (decide (((k229 : Int) : Int) < (a_values.length : Int)))) (.tmp rfl rfl) (fun hb => absurd (hfe236.symm.trans hb) (by decide)) (fun _ => ?_))
            refine CW_exit ?_
            iterate 2 refine CThen_exit ?_
            refine CIn_self ?_
            obtain rfl := Option.some.inj hF
            exact ⟨_, v224, F225, _, rfl, (EqL.cons rfl (EqL.cons rfl (EqL.cons rfl (EqL.cons rfl (EqL.cons rfl (EqL.cons rfl (EqL.nil))))))).eq, (.sel (.rd .h rfl (.rd (.t .h) rfl (.cons (.t (.t .h)) .nil))))⟩
          obtain ⟨hk233, hx234, hd235⟩ := drop_cons hd232
          have hfe236 : (decide (((k229 : Int) : Int) < (a_values.length : Int))) = true := decide_eq_true (by omega)
          rw [s_l8Lists_L5] at hF
          refine K_in (K_region (Cm (.int .i64 (k229 : Int)) rfl rfl ?_))
          refine Cm v0_0.v rfl rfl ?_
          refine C_at .h (fun hp => V_lenR (l := a_values.length) sl22 (.tmp rfl rfl) (crd_len hp)) ?_
          refine C_val (V_lss (i := (k229 : Int)) (j := (a_values.length : Int)) (.tmp rfl rfl) (.tmp rfl rfl)) ?_
          refine C_nil (CW_cond (b := (decide (((k229 : Int) : Int) < (a_values.length : Int)))) (.tmp rfl rfl) (fun _ => ?_) (fun hb => absurd (hfe236.symm.trans hb) (by decide)))
          refine CW_skip (K_block (CW_draw [0, 1, 2, 3, 4, 5, 7, 8, 9, 10, 11, 6, 12, 13, 14, 15] [0, 0, 0, 0, 12, 28, 62, 0, 0, 384, 896, 1920, 4094, 8190, 16383, 32767] [6, 12, 14] mixed (by decide +kernel) ?_))
          refine Dm v224.v rfl rfl rfl rfl ?_
          refine D_new rfl .no rfl (fun ha => N_buildSliceT (g := true) (len := 0) (parts := []) sl22 ty3 .nil (vs := []) rfl rfl rfl (by simp)) (fun k238 => ?_)
          refine D_conv (.cons .h .nil) (own_lit (Ro := (roE rdInt)) (E := 3) (F := []) (xs := ([] : List Int)) MkL_nil rfl rfl) apps ?_
          refine Dm v208.v rfl rfl rfl rfl ?_
          refine Dm (.int .i64 c212) rfl rfl rfl rfl ?_
          obtain ⟨x239, hx240, hF⟩ := bind_some hF
          obtain ⟨hp241, hx242⟩ := ix_some hx240
          refine D_idx (a := x239) sl139 ty22.sz rfl .no (.tmp rfl rfl) (.tmp rfl rfl) rfl rfl (.t (.t .h)) hp241 hx242 (fun k243 j244 => ?_)
          refine D_ldV (R' := (RdS 3 rdInt)) ag22 rfl .no (.tmp rfl rfl) rfl .h lv22_0 (fun w245 => ?_)
          refine Dm v0_0.v rfl rfl rfl rfl ?_
          refine Dm (.int .i64 (k229 : Int)) rfl rfl rfl rfl ?_
          refine D_idx (a := x231) sl22 ty3.sz rfl .no (.tmp rfl rfl) (.tmp rfl rfl) rfl rfl (.t (.t (.t .h))) (Int.natCast_nonneg k229) hx234 (fun k246 j247 => ?_)
          refine D_ldS (w := (.int .i64 x231)) ag3 rfl .no (.tmp rfl rfl) rfl .h ls3_0 ?_
          refine D_new rfl .no rfl (fun ha => N_buildSliceT (g := true) (len := 1) (parts := [(0, .tmp 40)]) sl22 ty3 (.cons (EN ha (.tmp rfl rfl) rfl) .nil) (vs := [(.int .i64 x231)]) rfl rfl rfl (by intro v hv; simp at hv; rcases hv with rfl <;> rfl)) (fun k248 => ?_)
          refine D_conv (.cons .h .nil) (own_lit (Ro := (roE rdInt)) (E := 3) (F := ([] ++ [])) (xs := ([x231] : List Int)) (MkL_cons (Mk_pure (fun _ => rfl)) MkL_nil apps) rfl rfl) apps ?_
          obtain ⟨z249, hx250, hF⟩ := bind_some hF
          refine D_act1 rfl rfl .no (.cons (.t (.t (.t (.t .h)))) (.rd (.t (.t .h)) rfl .nil)) (.own .h (by simp [cown]) (.dep rfl .nil)) (fun ha => X_appendO (Ro := (roE rdInt)) sl22 ni22 ty3 rfl rfl rfl (EN ha (.tmp rfl rfl) rfl) (EN ha (.tmp rfl rfl) rfl) hx250 src_rd) (fun p251 => ?_)
          obtain ⟨z252, hx253, hF⟩ := bind_some hF
          refine D_act1 rfl rfl .no (.cons .h (.cons .h .nil)) (.dep rfl (.dep rfl .nil)) (fun ha => X_appendO (Ro := (roE rdInt)) sl22 ni22 ty3 rfl rfl rfl (EN ha (.tmp rfl rfl) rfl) (EN ha (.tmp rfl rfl) rfl) hx253 src_own) (fun p254 => ?_)
          refine D_new rfl .no rfl (fun ha => N_buildSliceT (g := true) (len := 1) (parts := [(0, .tmp 42)]) sl139 ty22 (.cons (EN ha (.tmp rfl rfl) rfl) .nil) (vs := [p254.1.v]) rfl rfl rfl (by intro v hv; simp at hv; rcases hv with rfl <;> rfl)) (fun k255 => ?_)
          refine D_conv (.cons .h (.cons .h .nil)) (own_lit (Ro := (OwnS 3 (roE rdInt))) (E := 22) (F := (p254.2 ++ [])) (xs := ([z252] : List (List Int))) (MkL_cons Mk_own MkL_nil apps) rfl rfl) apps ?_
          obtain ⟨z256, hx257, hF⟩ := bind_some hF
          refine D_act1 rfl rfl .no (.cons (.t (.t (.t (.t (.t (.t .h)))))) (.cons .h .nil)) (.dep rfl (.dep rfl (.dep rfl .nil))) (fun ha => X_appendO (Ro := (OwnS 3 (roE rdInt))) sl139 ni139 ty22 rfl rfl rfl (EN ha (.tmp rfl rfl) rfl) (EN ha (.tmp rfl rfl) rfl) hx257 src_own) (fun p258 => ?_)
          refine Da p258.1.v rfl rfl rfl rfl ?_
          refine D_nil (CW_region (Cm (.int .i64 (k229 : Int)) rfl rfl ?_))
          refine C_val (V_add (i := (k229 : Int)) (j := 1) (.tmp rfl rfl) (.int _ _)) ?_
          refine Ca (.int .i64 (IntKind.i64.wrap ((k229 : Int) + 1))) rfl rfl ?_
          refine C_nil ?_
          have hw259 : IntKind.i64.wrap ((k229 : Int) + 1) = ((k229 + 1 : Nat) : Int) := by rw [wrap_in (by omega) (by omega)]; rfl
          rw [hw259]
          exact ⟨_, Nat.lt_succ_self _, _, k229 + 1, rest230, _, p258.1, p258.2, rfl, (EqL.cons rfl (EqL.cons rfl (EqL.cons rfl (EqL.cons rfl (EqL.cons rfl (EqL.cons rfl (EqL.cons rfl (EqL.nil)))))))).eq, hd235, (.sel (.rd (.t (.t (.t (.t .h)))) rfl (.rd (.t (.t (.t (.t (.t .h))))) rfl (.cons .h .nil)))), hF⟩
        rintro _ _ ⟨c260, v261, F262, g263, rfl, rfl, hE⟩
        replace hF := hO222
        clear hO222
        try dsimp only at hF
        refine K_ent hE ?_
        refine CW_region (Cm (.int .i64 c212) rfl rfl ?_)
        refine C_val (V_add (i := c212) (j := 1) (.tmp rfl rfl) (.int _ _)) ?_
        refine Ca (.int .i64 (IntKind.i64.wrap (c212 + 1))) rfl rfl ?_
        refine C_nil ?_
        exact ⟨m213, Nat.lt_succ_self _, _, _, _, _, v208, v261, F262, (EqL.cons rfl (EqL.cons rfl (EqL.cons rfl (EqL.cons rfl (EqL.cons rfl (EqL.cons rfl (EqL.nil))))))).eq, (.sel (.rd .h rfl (.rd (.t .h) rfl (.cons (.t (.t .h)) .nil)))), hF⟩
      rw [if_neg (by rw [hb264]; exact Bool.false_ne_true)] at hF
      refine CW_exit ?_
      iterate 2 refine CThen_exit ?_
      refine CIn_self (CW_region (Cm v210.v rfl rfl ?_))
      refine Ca v210.v rfl rfl ?_
      refine C_nil ?_
      obtain rfl := Option.some.inj hF
      exact ⟨_, v210, F211, _, rfl, (EqL.cons rfl (EqL.cons rfl (EqL.cons rfl (EqL.cons rfl (EqL.nil))))).eq, (.sel (.rd .h rfl (.cons (.t (.t .h)) .nil)))⟩
    rintro _ _ ⟨c265, v266, F267, g268, rfl, rfl, hE⟩
    replace hF := hO16
    clear hO16
    try dsimp only at hF
    refine K_ent hE ?_
    refine CW_region (Cm (.int .i64 c6) rfl rfl ?_)
    refine C_val (V_add (i := c6) (j := 1) (.tmp rfl rfl) (.int _ _)) ?_
    refine Ca (.int .i64 (IntKind.i64.wrap (c6 + 1))) rfl rfl ?_
    refine C_nil ?_
    exact ⟨m7, Nat.lt_succ_self _, _, _, _, v266, F267, (EqL.cons rfl (EqL.cons rfl (EqL.cons rfl (EqL.cons rfl (EqL.nil))))).eq, (.sel (.rd .h rfl (.cons (.t .h) .nil))), hF⟩
  rw [if_neg (by rw [hb269]; exact Bool.false_ne_true)] at hF
  refine CW_exit ?_
  iterate 2 refine CThen_exit ?_
  refine CIn_self (K_region (Cm v4.v rfl rfl ?_))
  refine Ca v4.v rfl rfl ?_
  refine C_nil (CW_ret ?_)
  obtain rfl := Option.some.inj hF
  exact End_ret (v4, F5) (.tmp rfl rfl .nil) rfl (.sel (.cons (.t .h) .nil))

/-! spec.l2Ints -/
def s_l2Ints_L1 (a_b : List Int) : List Int → Nat → Option (Bool)
  | [], k4 => some true
  | x6 :: rest5, k4 => (ix a_b (k4 : Int)).bind fun x15 =>
    if ((x6 : Int) != x15) then (
      some false)
    else (
      s_l2Ints_L1 a_b rest5 (k4 + 1))
def s_l2Ints (a_a : List Int) (a_b : List Int) : Option (Bool) :=
  if (((a_a.length : Int) : Int) != (a_b.length : Int)) then (
    some false)
  else (
    s_l2Ints_L1 a_b a_a 0)
theorem s_l2Ints_ok (a_a : List Int) (v0_0 : Sv) (a_b : List Int) (v1_0 : Sv) (R : Bool) (hF : s_l2Ints a_a a_b = some R) :
    Fw.Spec Tryz.prog 227 [v0_0.v, v1_0.v] [crd (RdS 3 rdInt) v0_0.v a_a, crd (RdS 3 rdInt) v1_0.v a_b] (fun _ : Unit => (.bool R)) (fun _ => []) := by
  refine Spec_enter (n := 26) Tryz.func227 rfl rfl (rs := [.tmp 4]) rfl rfl rfl ?_
  intro H0 F0
  unfold s_l2Ints at hF
  refine K_region (C_val (V_assign (v := (.bool false)) (.bool _)) ?_)
  refine C_nil (K_in (K_region (Cm v0_0.v rfl rfl ?_)))
  refine C_at .h (fun hp => V_lenR (l := a_a.length) sl22 (.tmp rfl rfl) (crd_len hp)) ?_
  refine Cm v1_0.v rfl rfl ?_
  refine C_at (.t .h) (fun hp => V_lenR (l := a_b.length) sl22 (.tmp rfl rfl) (crd_len hp)) ?_
  refine C_val (V_neq (i := (a_a.length : Int)) (j := (a_b.length : Int)) (.tmp rfl rfl) (.tmp rfl rfl)) ?_
  refine C_nil (CW_cond (b := (((a_a.length : Int) : Int) != (a_b.length : Int))) (.tmp rfl rfl) (fun hb23 => ?_) (fun hb23 => ?_))
  · rw [if_pos hb23] at hF
    refine K_region (C_val (V_assign (v := (.bool false)) (.bool _)) ?_)
    refine C_nil (CW_ret ?_)
    obtain rfl := Option.some.inj hF
    exact End_ret () (.tmp rfl rfl .nil) rfl (.sel .nil)
  rw [if_neg (by rw [hb23]; exact Bool.false_ne_true)] at hF
  refine CW_skip (K_in (K_region (C_val (V_assign (v := (.int .i64 0)) (.int _ _)) ?_)))
  refine C_nil (CW_block (CW_loop (m := a_a.length) (fun m2 f' cs' => ∃ (g : Fr) (k4 : Nat) (rest5 : List Int), m2 = rest5.length ∧ f' = updL g [(0, v0_0.v), (1, v1_0.v), (5, (.int .i64 (k4 : Int)))] ∧ List.drop k4 a_a = rest5 ∧ Ent cs' [crd (RdS 3 rdInt) v0_0.v a_a, crd (RdS 3 rdInt) v1_0.v a_b] ∧ s_l2Ints_L1 a_b rest5 k4 = some R) ⟨_, 0, _, rfl, (EqL.cons rfl (EqL.cons rfl (EqL.cons rfl (EqL.nil)))).eq, rfl, (.sel (.rd .h rfl (.rd (.t .h) rfl .nil))), hF⟩ ?_))
  clear hF
  rintro m2 _ _ ⟨g3, k4, rest5, rfl, rfl, hd7, hE, hF⟩
  refine K_ent hE ?_
  clear hE
  refine K_pure (c := crd (RdS 3 rdInt) v0_0.v a_a) .h crd_bound (fun hbd12 => ?_)
  rcases rest5 with _ | ⟨x6, rest5⟩
  · have hk8 := List.drop_eq_nil_iff.1 hd7
    have hfe11 : (decide (((k4 : Int) : Int) < (a_a.length : Int))) = false := decide_eq_false (by omega)
    rw [s_l2Ints_L1] at hF
    refine K_in (K_region (Cm (.int .i64 (k4 : Int)) rfl rfl ?_))
    refine Cm v0_0.v rfl rfl ?_
    refine C_at .h (fun hp => V_lenR (l := a_a.length) sl22 (.tmp rfl rfl) (crd_len hp)) ?_
    refine C_val (V_lss (i := (k4 : Int)) (j := (a_a.length : Int)) (.tmp rfl rfl) (.tmp rfl rfl)) ?_
    refine C_nil (CW_cond (b := (decide (((k4 : Int) : Int) < (a_a.length : Int)))) (.tmp rfl rfl) (fun hb => absurd (hfe11.symm.trans hb) (by decide)) (fun _ => ?_))
    refine CW_exit ?_
    iterate 2 refine CThen_exit ?_
    refine CIn_self (K_region (C_val (V_assign (v := (.bool true)) (.bool _)) ?_))
    refine C_nil (CW_ret ?_)
    obtain rfl := Option.some.inj hF
    exact End_ret () (.tmp rfl rfl .nil) rfl (.sel .nil)
  obtain ⟨hk8, hx9, hd10⟩ := drop_cons hd7
  have hfe11 : (decide (((k4 : Int) : Int) < (a_a.length : Int))) = true := decide_eq_true (by omega)
  rw [s_l2Ints_L1] at hF
  refine K_in (K_region (Cm (.int .i64 (k4 : Int)) rfl rfl ?_))
  refine Cm v0_0.v rfl rfl ?_
  refine C_at .h (fun hp => V_lenR (l := a_a.length) sl22 (.tmp rfl rfl) (crd_len hp)) ?_
  refine C_val (V_lss (i := (k4 : Int)) (j := (a_a.length : Int)) (.tmp rfl rfl) (.tmp rfl rfl)) ?_
  refine C_nil (CW_cond (b := (decide (((k4 : Int) : Int) < (a_a.length : Int)))) (.tmp rfl rfl) (fun _ => ?_) (fun hb => absurd (hfe11.symm.trans hb) (by decide)))
  refine CW_skip (K_block (K_draw [0, 1, 2, 3, 4, 5, 6, 7, 8] [0, 0, 3, 7, 0, 0, 48, 112, 255] [] mixed (by decide +kernel) ?_))
  refine Dm v0_0.v rfl rfl rfl rfl ?_
  refine Dm (.int .i64 (k4 : Int)) rfl rfl rfl rfl ?_
  refine D_idx (a := x6) sl22 ty3.sz rfl .no (.tmp rfl rfl) (.tmp rfl rfl) rfl rfl .h (Int.natCast_nonneg k4) hx9 (fun k13 j14 => ?_)
  refine D_ldS (w := (.int .i64 x6)) ag3 rfl .no (.tmp rfl rfl) rfl .h ls3_0 ?_
  refine Dm v1_0.v rfl rfl rfl rfl ?_
  refine Dm (.int .i64 (k4 : Int)) rfl rfl rfl rfl ?_
  obtain ⟨x15, hx16, hF⟩ := bind_some hF
  obtain ⟨hp17, hx18⟩ := ix_some hx16
  refine D_idx (a := x15) sl22 ty3.sz rfl .no (.tmp rfl rfl) (.tmp rfl rfl) rfl rfl (.t (.t .h)) hp17 hx18 (fun k19 j20 => ?_)
  refine D_ldS (w := (.int .i64 x15)) ag3 rfl .no (.tmp rfl rfl) rfl .h ls3_0 ?_
  refine D_val rfl .no (fun ha => V_neq (i := x6) (j := x15) (EN ha (.tmp rfl rfl) rfl) (EN ha (.tmp rfl rfl) rfl)) ?_
  refine D_nil (CW_cond (b := ((x6 : Int) != x15)) (.tmp rfl rfl) (fun hb22 => ?_) (fun hb22 => ?_))
  · rw [if_pos hb22] at hF
    refine K_region (C_val (V_assign (v := (.bool false)) (.bool _)) ?_)
    refine C_nil (CW_ret ?_)
    obtain rfl := Option.some.inj hF
    exact End_ret () (.tmp rfl rfl .nil) rfl (.sel .nil)
  rw [if_neg (by rw [hb22]; exact Bool.false_ne_true)] at hF
  refine CW_skip (CW_region (Cm (.int .i64 (k4 : Int)) rfl rfl ?_))
  refine C_val (V_add (i := (k4 : Int)) (j := 1) (.tmp rfl rfl) (.int _ _)) ?_
  refine Ca (.int .i64 (IntKind.i64.wrap ((k4 : Int) + 1))) rfl rfl ?_
  refine C_nil ?_
  have hw21 : IntKind.i64.wrap ((k4 : Int) + 1) = ((k4 + 1 : Nat) : Int) := by rw [wrap_in (by omega) (by omega)]; rfl
  rw [hw21]
  exact ⟨_, Nat.lt_succ_self _, _, k4 + 1, rest5, rfl, (EqL.cons rfl (EqL.cons rfl (EqL.cons rfl (EqL.nil)))).eq, hd10, (.sel (.rd (.t (.t .h)) rfl (.rd (.t (.t (.t .h))) rfl .nil))), hF⟩

/-! spec.l5Same -/
def s_l5Same (a_a : Access) (a_b : Access) : Option (Bool) :=
  (bif ((a_a.Method : Int) == a_b.Method) then ((s_l2Ints a_a.Values a_b.Values).bind fun r6 =>
      some r6)
    else (some false)).bind fun o3 =>
  match o3 with
  | c9 => some c9
theorem s_l5Same_ok (a_a : Access) (v0_1 : Sv) (a_b : Access) (v1_1 : Sv) (R : Bool) (hF : s_l5Same a_a a_b = some R) :
    Fw.Spec Tryz.prog 272 [(.agg [(.int .i64 a_a.Method), v0_1.v].toArray), (.agg [(.int .i64 a_b.Method), v1_1.v].toArray)] [crd (RdS 3 rdInt) v0_1.v a_a.Values, crd (RdS 3 rdInt) v1_1.v a_b.Values] (fun _ : Unit => (.bool R)) (fun _ => []) := by
  refine Spec_enter (n := 17) Tryz.func272 rfl rfl (rs := [.tmp 4]) rfl rfl rfl ?_
  intro H0 F0
  unfold s_l5Same at hF
  refine K_region (C_newR rfl (N_box (g := false) (v := (.agg [(.int .i64 a_a.Method), v0_1.v].toArray)) ty80.sz (.tmp rfl rfl) rfl) (fun k1 => ?_))
  refine C_newR rfl (N_box (g := false) (v := (.agg [(.int .i64 a_b.Method), v1_1.v].toArray)) ty80.sz (.tmp rfl rfl) rfl) (fun k2 => ?_)
  refine C_val (V_assign (v := (.bool false)) (.bool _)) ?_
  refine C_nil ?_
  obtain ⟨o3, hio3, hO4⟩ := bind_some hF
  refine K_region (C_cut (fun f' cs' => ∃ (c9 : Bool) (g : Fr), c9 = o3 ∧ f' = updL g [(4, (.bool c9))] ∧ Ent cs' []) ?_ ?_)
  · replace hF := hio3
    refine C_val (V_fieldAddr (off := 0) fd80_0 (.tmp rfl rfl)) ?_
    refine C_at (.t .h) (fun hp => V_load (v := (.int .i64 a_a.Method)) ag3 (.tmp rfl rfl) hp.2 rfl rfl) ?_
    refine C_val (V_fieldAddr (off := 0) fd80_0 (.tmp rfl rfl)) ?_
    refine C_at .h (fun hp => V_load (v := (.int .i64 a_b.Method)) ag3 (.tmp rfl rfl) hp.2 rfl rfl) ?_
    refine C_val (V_eql (i := a_a.Method) (j := a_b.Method) (.tmp rfl rfl) (.tmp rfl rfl)) ?_
    refine Cm (.bool ((a_a.Method : Int) == a_b.Method)) rfl rfl ?_
    rcases Bool.eq_false_or_eq_true ((a_a.Method : Int) == a_b.Method) with hg5 | hg5
    · rw [hg5]
      try rw [hg5] at hF; dsimp only [cond_true, cond_false] at hF
      refine C_on (t := 10) rfl rfl rfl ?_
      refine C_val (V_fieldAddr (off := 1) fd80_1 (.tmp rfl rfl)) ?_
      refine C_on (t := 10) rfl rfl rfl ?_
      refine C_at (.t .h) (fun hp => V_load (v := v0_1.v) ag22 (.tmp rfl rfl) hp.2 rfl rfl) ?_
      refine C_on (t := 10) rfl rfl rfl ?_
      refine C_val (V_fieldAddr (off := 1) fd80_1 (.tmp rfl rfl)) ?_
      refine C_on (t := 10) rfl rfl rfl ?_
      refine C_at .h (fun hp => V_load (v := v1_1.v) ag22 (.tmp rfl rfl) hp.2 rfl rfl) ?_
      refine C_on (t := 10) rfl rfl rfl ?_
      obtain ⟨r6, hx7, hF⟩ := bind_some hF
      refine C_x0 (.rd (.t (.t .h)) rfl (.rd (.t (.t (.t .h))) rfl .nil)) (X_callS cf227 (.cons (.tmp rfl rfl) (.cons (.tmp rfl rfl) .nil)) (s_l2Ints_ok a_a.Values v0_1 a_b.Values v1_1 _ hx7)) (fun _ => ?_)
      refine C_val (V_pick (b := true) (u := (.bool r6)) (v := (.bool false)) (.tmp rfl rfl) (.tmp rfl rfl) (.bool _)) ?_
      refine Ca (.bool r6) rfl rfl ?_
      refine C_nil ?_
      obtain rfl := Option.some.inj hF
      exact ⟨_, _, rfl, (EqL.cons rfl (EqL.nil)).eq, (.sel .nil)⟩
    rw [hg5]
    try rw [hg5] at hF; dsimp only [cond_true, cond_false] at hF
    iterate 5 refine C_off (t := 10) rfl rfl rfl ?_
    refine C_val (V_pick (b := false) (u := undef) (v := (.bool false)) (.tmp rfl rfl) (.tmp rfl rfl) (.bool _)) ?_
    refine Ca (.bool false) rfl rfl ?_
    refine C_nil ?_
    obtain rfl := Option.some.inj hF
    exact ⟨_, _, rfl, (EqL.cons rfl (EqL.nil)).eq, (.sel .nil)⟩
  rintro _ _ ⟨c9, g10, rfl, rfl, hE⟩
  replace hF := hO4
  clear hO4
  try dsimp only at hF
  refine K_ent hE ?_
  refine CW_ret ?_
  obtain rfl := Option.some.inj hF
  exact End_ret () (.tmp rfl rfl .nil) rfl (.sel .nil)

/-! spec.l7Logged -/
def s_l7Logged_L1 (a_a : Access) : List Access → Nat → Option (Bool)
  | [], k5 => some false
  | x7 :: rest6, k5 => (s_l5Same x7 a_a).bind fun r17 =>
    if r17 then (
      some true)
    else (
      s_l7Logged_L1 a_a rest6 (k5 + 1))
def s_l7Logged (a_log : List Access) (a_a : Access) : Option (Bool) :=
  s_l7Logged_L1 a_a a_log 0
theorem s_l7Logged_ok (a_log : List Access) (v0_0 : Sv) (a_a : Access) (v1_1 : Sv) (R : Bool) (hF : s_l7Logged a_log a_a = some R) :
    Fw.Spec Tryz.prog 248 [v0_0.v, (.agg [(.int .i64 a_a.Method), v1_1.v].toArray)] [crd (RdS 80 rd80) v0_0.v a_log, crd (RdS 3 rdInt) v1_1.v a_a.Values] (fun _ : Unit => (.bool R)) (fun _ => []) := by
  refine Spec_enter (n := 18) Tryz.func248 rfl rfl (rs := [.tmp 4]) rfl rfl rfl ?_
  intro H0 F0
  unfold s_l7Logged at hF
  refine K_region (C_newR rfl (N_box (g := false) (v := (.agg [(.int .i64 a_a.Method), v1_1.v].toArray)) ty80.sz (.tmp rfl rfl) rfl) (fun k1 => ?_))
  refine C_val (V_assign (v := (.bool false)) (.bool _)) ?_
  refine C_nil (K_in (K_region (C_val (V_assign (v := (.int .i64 0)) (.int _ _)) ?_)))
  refine C_nil (CW_block (CW_loop (m := a_log.length) (fun m3 f' cs' => ∃ (g : Fr) (k5 : Nat) (rest6 : List Access), m3 = rest6.length ∧ f' = updL g [(0, v0_0.v), (3, (.pointer (some ⟨k1, 0, some 0⟩))), (5, (.int .i64 (k5 : Int)))] ∧ List.drop k5 a_log = rest6 ∧ Ent cs' [crd (RdS 80 rd80) v0_0.v a_log, cboR k1 80 (.agg [(.int .i64 a_a.Method), v1_1.v].toArray), crd (RdS 3 rdInt) v1_1.v a_a.Values] ∧ s_l7Logged_L1 a_a rest6 k5 = some R) ⟨_, 0, _, rfl, (EqL.cons rfl (EqL.cons rfl (EqL.cons rfl (EqL.nil)))).eq, rfl, (.sel (.rd (.t .h) rfl (.rd .h rfl (.rd (.t (.t .h)) rfl .nil)))), hF⟩ ?_))
  clear hF
  rintro m3 _ _ ⟨g4, k5, rest6, rfl, rfl, hd8, hE, hF⟩
  refine K_ent hE ?_
  clear hE
  refine K_pure (c := crd (RdS 80 rd80) v0_0.v a_log) .h crd_bound (fun hbd13 => ?_)
  rcases rest6 with _ | ⟨x7, rest6⟩
  · have hk9 := List.drop_eq_nil_iff.1 hd8
    have hfe12 : (decide (((k5 : Int) : Int) < (a_log.length : Int))) = false := decide_eq_false (by omega)
    rw [s_l7Logged_L1] at hF
    refine K_in (K_region (Cm (.int .i64 (k5 : Int)) rfl rfl ?_))
    refine Cm v0_0.v rfl rfl ?_
    refine C_at .h (fun hp => V_lenR (l := a_log.length) sl46 (.tmp rfl rfl) (crd_len hp)) ?_
    refine C_val (V_lss (i := (k5 : Int)) (j := (a_log.length : Int)) (.tmp rfl rfl) (.tmp rfl rfl)) ?_
    refine C_nil (CW_cond (b := (decide (((k5 : Int) : Int) < (a_log.length : Int)))) (.tmp rfl rfl) (fun hb => absurd (hfe12.symm.trans hb) (by decide)) (fun _ => ?_))
    refine CW_exit ?_
    iterate 2 refine CThen_exit ?_
    refine CIn_self (K_region (C_val (V_assign (v := (.bool false)) (.bool _)) ?_))
    refine C_nil (CW_ret ?_)
    obtain rfl := Option.some.inj hF
    exact End_ret () (.tmp rfl rfl .nil) rfl (.sel .nil)
  obtain ⟨hk9, hx10, hd11⟩ := drop_cons hd8
  have hfe12 : (decide (((k5 : Int) : Int) < (a_log.length : Int))) = true := decide_eq_true (by omega)
  rw [s_l7Logged_L1] at hF
  refine K_in (K_region (Cm (.int .i64 (k5 : Int)) rfl rfl ?_))
  refine Cm v0_0.v rfl rfl ?_
  refine C_at .h (fun hp => V_lenR (l := a_log.length) sl46 (.tmp rfl rfl) (crd_len hp)) ?_
  refine C_val (V_lss (i := (k5 : Int)) (j := (a_log.length : Int)) (.tmp rfl rfl) (.tmp rfl rfl)) ?_
  refine C_nil (CW_cond (b := (decide (((k5 : Int) : Int) < (a_log.length : Int)))) (.tmp rfl rfl) (fun _ => ?_) (fun hb => absurd (hfe12.symm.trans hb) (by decide)))
  refine CW_skip (K_block (K_draw [0, 1, 2, 3, 4, 5] [0, 0, 3, 7, 0, 31] [5] mixed (by decide +kernel) ?_))
  refine Dm v0_0.v rfl rfl rfl rfl ?_
  refine Dm (.int .i64 (k5 : Int)) rfl rfl rfl rfl ?_
  refine D_idx (a := x7) sl46 ty80.sz rfl .no (.tmp rfl rfl) (.tmp rfl rfl) rfl rfl .h (Int.natCast_nonneg k5) hx10 (fun k14 j15 => ?_)
  refine D_ldA1 (ul80_0_80 x7) ag80 ty80.sz rfl rfl .no (.tmp rfl rfl) rfl .h la80_0_80 (fun p16 => ?_)
  refine D_at rfl .no (.t (.t (.t .h))) rfl (fun ha hp => V_loadBox ag80 ty80.sz rfl (EN ha (.tmp rfl rfl) rfl) hp.2 rfl) ?_
  obtain ⟨r17, hx18, hF⟩ := bind_some hF
  refine D_act0 rfl rfl .no (.rd .h rfl (.rd (.t (.t (.t (.t .h)))) rfl .nil)) .nil (fun ha => X_callS cf272 (.cons (EN ha (.tmp rfl rfl) rfl) (.cons (EN ha (.tmp rfl rfl) rfl) .nil)) (s_l5Same_ok x7 p16 a_a v1_1 _ hx18)) (fun _ => ?_)
  refine D_nil (CW_cond (b := r17) (.tmp rfl rfl) (fun hb21 => ?_) (fun hb21 => ?_))
  · rw [if_pos hb21] at hF
    refine K_region (C_val (V_assign (v := (.bool true)) (.bool _)) ?_)
    refine C_nil (CW_ret ?_)
    obtain rfl := Option.some.inj hF
    exact End_ret () (.tmp rfl rfl .nil) rfl (.sel .nil)
  rw [if_neg (by rw [hb21]; exact Bool.false_ne_true)] at hF
  refine CW_skip (CW_region (Cm (.int .i64 (k5 : Int)) rfl rfl ?_))
  refine C_val (V_add (i := (k5 : Int)) (j := 1) (.tmp rfl rfl) (.int _ _)) ?_
  refine Ca (.int .i64 (IntKind.i64.wrap ((k5 : Int) + 1))) rfl rfl ?_
  refine C_nil ?_
  have hw20 : IntKind.i64.wrap ((k5 : Int) + 1) = ((k5 + 1 : Nat) : Int) := by rw [wrap_in (by omega) (by omega)]; rfl
  rw [hw20]
  exact ⟨_, Nat.lt_succ_self _, _, k5 + 1, rest6, rfl, (EqL.cons rfl (EqL.cons rfl (EqL.cons rfl (EqL.nil)))).eq, hd11, (.sel (.rd (.t (.t .h)) rfl (.rd (.t (.t (.t .h))) rfl (.rd (.t (.t (.t (.t .h)))) rfl .nil)))), hF⟩

/-! spec.l8Open -/
def s_l8Open_L2 (a_r : Reached) (k9 : Nat) : List (List Int) → Nat → (List Access) → Option ((List Access))
  | [], k70, c64 => some c64
  | x72 :: rest71, k70, c64 => ((s_l8Access (k9 : Int) x72).bind fun r84 =>
      (s_l7Logged a_r.Log r84).bind fun r88 =>
      if (!r88) then (
        (app c64 ([r84] : List Access)).bind fun z92 =>
        some z92)
      else (
        some c64)).bind fun o79 =>
    match o79 with
    | c96 => s_l8Open_L2 a_r k9 rest71 (k70 + 1) c96
def s_l8Open_L1 (a_r : Reached) : List Method → Nat → (List Access) → Option ((List Access))
  | [], k9, c3 => some c3
  | x11 :: rest10, k9, c3 => (if ((x11.Limit : Int) != 0) then (
        some c3)
      else (
        (s_l8Lists a_r.Values (x11.Inputs.length : Int)).bind fun r25 =>
        s_l8Open_L2 a_r k9 r25 0 c3)).bind fun o18 =>
    match o18 with
    | c102 => s_l8Open_L1 a_r rest10 (k9 + 1) c102
def s_l8Open (a_l : List Method) (a_r : Reached) : Option ((List Access)) :=
  s_l8Open_L1 a_r a_l 0 ([] : List Access)
theorem s_l8Open_ok (a_l : List Method) (v0_0 : Sv) (a_r : Reached) (v1_0 : Sv) (v1_1 : Sv) (v1_2 : Sv) (R : (List Access)) (hF : s_l8Open a_l a_r = some R) :
    Fw.Spec Tryz.prog 210 [v0_0.v, (.agg [v1_0.v, v1_1.v, v1_2.v, (.int .i64 a_r.Rounds)].toArray)] [crd (RdS 112 rd112) v0_0.v a_l, crd (RdS 114 rd114) v1_0.v a_r.Facts, crd (RdS 3 rdInt) v1_1.v a_r.Values, crd (RdS 80 rd80) v1_2.v a_r.Log] (fun p : Sv × List Nat => p.1.v) (fun p => [cown (OwnS 80 ow80) p.2 p.1.v R]) := by
  refine Spec_enter (n := 54) Tryz.func210 rfl rfl (rs := [.tmp 4]) rfl rfl rfl ?_
  intro H0 F0
  unfold s_l8Open at hF
  refine K_region (C_newR rfl (N_box (g := false) (v := (.agg [v1_0.v, v1_1.v, v1_2.v, (.int .i64 a_r.Rounds)].toArray)) ty110.sz (.tmp rfl rfl) rfl) (fun k1 => ?_))
  refine C_val (V_assign (v := (.slice none 0 0)) EV.nilSlice) ?_
  refine C_nil (K_region (C_new rfl (N_buildSliceT (g := true) sl46 ty80 .nil (vs := []) rfl rfl rfl (by simp)) (fun k2 => ?_)))
  refine C_conv (.cons .h .nil) (own_lit (Ro := ow80) (E := 80) (F := []) (xs := ([] : List Access)) MkL_nil rfl rfl) apps ?_
  refine Ca (.slice (some ⟨k2, 0, none⟩) 0 1) rfl rfl ?_
  refine C_nil (K_in (K_region (C_val (V_assign (v := (.int .i64 0)) (.int _ _)) ?_)))
  refine C_nil (CW_block (CW_loop (m := a_l.length) (fun m7 f' cs' => ∃ (g : Fr) (k9 : Nat) (rest10 : List Method) (c3 : List Access) (v4 : Sv) (F5 : List Nat), m7 = rest10.length ∧ f' = updL g [(0, v0_0.v), (3, (.pointer (some ⟨k1, 0, some 0⟩))), (5, v4.v), (6, (.int .i64 (k9 : Int)))] ∧ List.drop k9 a_l = rest10 ∧ Ent cs' [crd (RdS 112 rd112) v0_0.v a_l, cboR k1 110 (.agg [v1_0.v, v1_1.v, v1_2.v, (.int .i64 a_r.Rounds)].toArray), crd (RdS 114 rd114) v1_0.v a_r.Facts, crd (RdS 3 rdInt) v1_1.v a_r.Values, crd (RdS 80 rd80) v1_2.v a_r.Log, cown (OwnS 80 ow80) F5 v4.v c3] ∧ s_l8Open_L1 a_r rest10 k9 c3 = some R) ⟨_, 0, _, _, ⟨(some ⟨k2, 0, none⟩), 0, 1⟩, (k2 :: []), rfl, (EqL.cons rfl (EqL.cons rfl (EqL.cons rfl (EqL.cons rfl (EqL.nil))))).eq, rfl, (.sel (.rd (.t (.t .h)) rfl (.rd (.t .h) rfl (.rd (.t (.t (.t .h))) rfl (.rd (.t (.t (.t (.t .h)))) rfl (.rd (.t (.t (.t (.t (.t .h))))) rfl (.cons .h .nil))))))), hF⟩ ?_))
  clear hF
  rintro m7 _ _ ⟨g8, k9, rest10, c3, v4, F5, rfl, rfl, hd12, hE, hF⟩
  refine K_ent hE ?_
  clear hE
  refine K_pure (c := crd (RdS 112 rd112) v0_0.v a_l) .h crd_bound (fun hbd17 => ?_)
  rcases rest10 with _ | ⟨x11, rest10⟩
  · have hk13 := List.drop_eq_nil_iff.1 hd12
    have hfe16 : (decide (((k9 : Int) : Int) < (a_l.length : Int))) = false := decide_eq_false (by omega)
    rw [s_l8Open_L1] at hF
    refine K_in (K_region (Cm (.int .i64 (k9 : Int)) rfl rfl ?_))
    refine Cm v0_0.v rfl rfl ?_
    refine C_at .h (fun hp => V_lenR (l := a_l.length) sl38 (.tmp rfl rfl) (crd_len hp)) ?_
    refine C_val (V_lss (i := (k9 : Int)) (j := (a_l.length : Int)) (.tmp rfl rfl) (.tmp rfl rfl)) ?_
    refine C_nil (CW_cond (b := (decide (((k9 : Int) : Int) < (a_l.length : Int)))) (.tmp rfl rfl) (fun hb => absurd (hfe16.symm.trans hb) (by decide)) (fun _ => ?_))
    refine CW_exit ?_
    iterate 2 refine CThen_exit ?_
    refine CIn_self (K_region (Cm v4.v rfl rfl ?_))
    refine Ca v4.v rfl rfl ?_
    refine C_nil (CW_ret ?_)
    obtain rfl := Option.some.inj hF
    exact End_ret (v4, F5) (.tmp rfl rfl .nil) rfl (.sel (.cons (.t (.t (.t (.t (.t .h))))) .nil))
  obtain ⟨hk13, hx14, hd15⟩ := drop_cons hd12
  have hfe16 : (decide (((k9 : Int) : Int) < (a_l.length : Int))) = true := decide_eq_true (by omega)
  rw [s_l8Open_L1] at hF
  refine K_in (K_region (Cm (.int .i64 (k9 : Int)) rfl rfl ?_))
  refine Cm v0_0.v rfl rfl ?_
  refine C_at .h (fun hp => V_lenR (l := a_l.length) sl38 (.tmp rfl rfl) (crd_len hp)) ?_
  refine C_val (V_lss (i := (k9 : Int)) (j := (a_l.length : Int)) (.tmp rfl rfl) (.tmp rfl rfl)) ?_
  refine C_nil (CW_cond (b := (decide (((k9 : Int) : Int) < (a_l.length : Int)))) (.tmp rfl rfl) (fun _ => ?_) (fun hb => absurd (hfe16.symm.trans hb) (by decide)))
  refine CW_skip ?_
  obtain ⟨o18, hio18, hO19⟩ := bind_some hF
  refine K_cut (fun f' cs' => ∃ (c102 : List Access) (v103 : Sv) (F104 : List Nat) (g : Fr), c102 = o18 ∧ f' = updL g [(0, v0_0.v), (3, (.pointer (some ⟨k1, 0, some 0⟩))), (5, v103.v), (6, (.int .i64 (k9 : Int)))] ∧ Ent cs' [crd (RdS 112 rd112) v0_0.v a_l, cboR k1 110 (.agg [v1_0.v, v1_1.v, v1_2.v, (.int .i64 a_r.Rounds)].toArray), crd (RdS 114 rd114) v1_0.v a_r.Facts, crd (RdS 3 rdInt) v1_1.v a_r.Values, crd (RdS 80 rd80) v1_2.v a_r.Log, cown (OwnS 80 ow80) F104 v103.v c102]) ?_ ?_
  · replace hF := hio18
    refine CW_block (K_in (K_region (Cm v0_0.v rfl rfl ?_)))
    refine Cm (.int .i64 (k9 : Int)) rfl rfl ?_
    refine C_idx (a := x11) sl38 ty112.sz (.tmp rfl rfl) (.tmp rfl rfl) .h (Int.natCast_nonneg k9) hx14 (fun k20 j21 => ?_)
    refine C_val (V_fieldAddr (off := 2) fd112_2 (.tmp rfl rfl)) ?_
    refine C_ldS (w := (.int .i64 x11.Limit)) ag3 (.tmp rfl rfl) .h ls112_2 ?_
    refine C_val (V_neq (i := x11.Limit) (j := 0) (.tmp rfl rfl) (.int _ _)) ?_
    refine C_nil (CW_cond (b := ((x11.Limit : Int) != 0)) (.tmp rfl rfl) (fun hb101 => ?_) (fun hb101 => ?_))
    · rw [if_pos hb101] at hF
      refine CW_exit (CThen_exit (CIn_self ?_))
      obtain rfl := Option.some.inj hF
      exact ⟨_, v4, F5, _, rfl, (EqL.cons rfl (EqL.cons rfl (EqL.cons rfl (EqL.cons rfl (EqL.nil))))).eq, (.sel (.rd (.t .h) rfl (.rd (.t (.t .h)) rfl (.rd (.t (.t (.t .h))) rfl (.rd (.t (.t (.t (.t .h)))) rfl (.rd (.t (.t (.t (.t (.t .h))))) rfl (.cons (.t (.t (.t (.t (.t (.t .h)))))) .nil)))))))⟩
    rw [if_neg (by rw [hb101]; exact Bool.false_ne_true)] at hF
    refine CW_skip (K_draw [0, 1, 2, 3, 4, 5, 6, 7, 8, 9] [0, 1, 0, 0, 12, 28, 60, 124, 255, 511] [8] mixed (by decide +kernel) ?_)
    refine D_val rfl .no (fun ha => V_fieldAddr (off := 1) fd110_1 (EN ha (.tmp rfl rfl) rfl)) ?_
    refine D_at rfl .no (.t (.t .h)) rfl (fun ha hp => V_load (v := v1_1.v) ag22 (EN ha (.tmp rfl rfl) rfl) hp.2 rfl rfl) ?_
    refine Dm v0_0.v rfl rfl rfl rfl ?_
    refine Dm (.int .i64 (k9 : Int)) rfl rfl rfl rfl ?_
    refine D_idx (a := x11) sl38 ty112.sz rfl .no (.tmp rfl rfl) (.tmp rfl rfl) rfl rfl (.t .h) (Int.natCast_nonneg k9) hx14 (fun k22 j23 => ?_)
    refine D_val rfl .no (fun ha => V_fieldAddr (off := 1) fd112_1 (EN ha (.tmp rfl rfl) rfl)) ?_
    refine D_ldV (R' := (RdS 3 rdInt)) ag22 rfl .no (.tmp rfl rfl) rfl .h lv112_1 (fun w24 => ?_)
    refine D_at rfl .no .h rfl (fun ha hp => V_lenR (l := x11.Inputs.length) sl22 (EN ha (.tmp rfl rfl) rfl) (crd_len hp)) ?_
    obtain ⟨r25, hx26, hF⟩ := bind_some hF
    refine D_act1 rfl rfl .no (.rd (.t (.t (.t (.t (.t (.t .h)))))) rfl .nil) .nil (fun ha => X_callS cf247 (.cons (EN ha (.tmp rfl rfl) rfl) (.cons (EN ha (.tmp rfl rfl) rfl) .nil)) (s_l8Lists_ok a_r.Values v1_1 (x11.Inputs.length : Int) _ hx26)) (fun p27 => ?_)
    refine Da p27.1.v rfl rfl rfl rfl ?_
    refine D_nil (K_region (C_val (V_assign (v := (.int .i64 0)) (.int _ _)) ?_))
    refine C_nil (CW_block (K_frz .h frz_own ?_))
    refine CW_loop (m := r25.length) (fun m68 f' cs' => ∃ (g : Fr) (k70 : Nat) (rest71 : List (List Int)) (c64 : List Access) (v65 : Sv) (F66 : List Nat), m68 = rest71.length ∧ f' = updL g [(0, v0_0.v), (3, (.pointer (some ⟨k1, 0, some 0⟩))), (5, v65.v), (6, (.int .i64 (k9 : Int))), (7, p27.1.v), (8, (.int .i64 (k70 : Int)))] ∧ List.drop k70 r25 = rest71 ∧ Ent cs' [crd (RdS 112 rd112) v0_0.v a_l, cboR k1 110 (.agg [v1_0.v, v1_1.v, v1_2.v, (.int .i64 a_r.Rounds)].toArray), crd (RdS 114 rd114) v1_0.v a_r.Facts, crd (RdS 3 rdInt) v1_1.v a_r.Values, crd (RdS 80 rd80) v1_2.v a_r.Log, cown (OwnS 80 ow80) F66 v65.v c64, crd (RdS 22 (RdS 3 rdInt)) p27.1.v r25] ∧ s_l8Open_L2 a_r k9 rest71 k70 c64 = some o18) ⟨_, 0, _, _, v4, F5, rfl, (EqL.cons rfl (EqL.cons rfl (EqL.cons rfl (EqL.cons rfl (EqL.cons rfl (EqL.cons rfl (EqL.nil))))))).eq, rfl, (.sel (.rd (.t (.t (.t (.t .h)))) rfl (.rd (.t (.t (.t (.t (.t .h))))) rfl (.rd (.t (.t (.t (.t (.t (.t .h)))))) rfl (.rd (.t (.t (.t (.t (.t (.t (.t .h))))))) rfl (.rd (.t (.t (.t (.t (.t (.t (.t (.t .h)))))))) rfl (.cons (.t (.t (.t (.t (.t (.t (.t (.t (.t .h))))))))) (.rd .h rfl .nil)))))))), hF⟩ ?_
    clear hF
    rintro m68 _ _ ⟨g69, k70, rest71, c64, v65, F66, rfl, rfl, hd73, hE, hF⟩
    refine K_ent hE ?_
    clear hE
    refine K_pure (c := crd (RdS 22 (RdS 3 rdInt)) p27.1.v r25) (.t (.t (.t (.t (.t (.t .h)))))) crd_bound (fun hbd78 => ?_)
    rcases rest71 with _ | ⟨x72, rest71⟩
    · have hk74 := List.drop_eq_nil_iff.1 hd73
      have hfe77 : (decide (((k70 : Int) : Int) < (r25.length : Int))) = false := decide_eq_false (by omega)
      rw [s_l8Open_L2] at hF
      refine K_in (K_region (Cm (.int .i64 (k70 : Int)) rfl rfl ?_))
      refine Cm p27.1.v rfl rfl ?_
      refine C_at (.t (.t (.t (.t (.t (.t .h)))))) (fun hp => V_lenR (l := r25.length) sl139 (.tmp rfl rfl) (crd_len hp)) ?_
      refine C_val (V_lss (i := (k70 : Int)) (j := (r25.length : Int)) (.tmp rfl rfl) (.tmp rfl rfl)) ?_
      refine C_nil (CW_cond (b := (decide (((k70 : Int) : Int) < (r25.length : Int)))) (.tmp rfl rfl) (fun hb => absurd (hfe77.symm.trans hb) (by decide)) (fun _ => ?_))
      refine CW_exit ?_
      iterate 2 refine CThen_exit ?_
      refine CIn_self ?_
      obtain rfl := Option.some.inj hF
      exact ⟨_, v65, F66, _, rfl, (EqL.cons rfl (EqL.cons rfl (EqL.cons rfl (EqL.cons rfl (EqL.nil))))).eq, (.sel (.rd .h rfl (.rd (.t .h) rfl (.rd (.t (.t .h)) rfl (.rd (.t (.t (.t .h))) rfl (.rd (.t (.t (.t (.t .h)))) rfl (.cons (.t (.t (.t (.t (.t .h))))) .nil)))))))⟩
    obtain ⟨hk74, hx75, hd76⟩ := drop_cons hd73
    have hfe77 : (decide (((k70 : Int) : Int) < (r25.length : Int))) = true := decide_eq_true (by omega)
    rw [s_l8Open_L2] at hF
    refine K_in (K_region (Cm (.int .i64 (k70 : Int)) rfl rfl ?_))
    refine Cm p27.1.v rfl rfl ?_
    refine C_at (.t (.t (.t (.t (.t (.t .h)))))) (fun hp => V_lenR (l := r25.length) sl139 (.tmp rfl rfl) (crd_len hp)) ?_
    refine C_val (V_lss (i := (k70 : Int)) (j := (r25.length : Int)) (.tmp rfl rfl) (.tmp rfl rfl)) ?_
    refine C_nil (CW_cond (b := (decide (((k70 : Int) : Int) < (r25.length : Int)))) (.tmp rfl rfl) (fun _ => ?_) (fun hb => absurd (hfe77.symm.trans hb) (by decide)))
    refine CW_skip ?_
    obtain ⟨o79, hio79, hO80⟩ := bind_some hF
    refine K_cut (fun f' cs' => ∃ (c96 : List Access) (v97 : Sv) (F98 : List Nat) (g : Fr), c96 = o79 ∧ f' = updL g [(0, v0_0.v), (3, (.pointer (some ⟨k1, 0, some 0⟩))), (5, v97.v), (6, (.int .i64 (k9 : Int))), (7, p27.1.v), (8, (.int .i64 (k70 : Int)))] ∧ Ent cs' [crd (RdS 112 rd112) v0_0.v a_l, cboR k1 110 (.agg [v1_0.v, v1_1.v, v1_2.v, (.int .i64 a_r.Rounds)].toArray), crd (RdS 114 rd114) v1_0.v a_r.Facts, crd (RdS 3 rdInt) v1_1.v a_r.Values, crd (RdS 80 rd80) v1_2.v a_r.Log, cown (OwnS 80 ow80) F98 v97.v c96, crd (RdS 22 (RdS 3 rdInt)) p27.1.v r25]) ?_ ?_
    · replace hF := hio79
      refine CW_block (K_region (Cm (.int .i64 (k9 : Int)) rfl rfl ?_))
      refine Cm p27.1.v rfl rfl ?_
      refine Cm (.int .i64 (k70 : Int)) rfl rfl ?_
      refine C_idx (a := x72) sl139 ty22.sz (.tmp rfl rfl) (.tmp rfl rfl) (.t (.t (.t (.t (.t (.t .h)))))) (Int.natCast_nonneg k70) hx75 (fun k81 j82 => ?_)
      refine C_ldV (R' := (RdS 3 rdInt)) ag22 (.tmp rfl rfl) .h lv22_0 (fun w83 => ?_)
      obtain ⟨r84, hx85, hF⟩ := bind_some hF
      refine C_x1 (.rd .h rfl .nil) (X_callS cf226 (.cons (.tmp rfl rfl) (.cons (.tmp rfl rfl) .nil)) (s_l8Access_ok (k9 : Int) x72 w83 _ hx85)) (fun p86 => ?_)
      refine C_new rfl (N_allocT (g := true) ty80 rfl rfl) (fun k87 => ?_)
      refine C_x1 (.cons .h .nil) (X_storeB (e' := (.agg [(.int .i64 r84.Method), p86.1.v].toArray)) (v := (.agg [(.int .i64 r84.Method), p86.1.v].toArray)) ty80.sz (.tmp rfl rfl) (.tmp rfl rfl) rfl rfl rfl rfl rfl) (fun _ => ?_)
      refine C_nil (K_region (C_val (V_fieldAddr (off := 2) fd110_2 (.tmp rfl rfl)) ?_))
      refine C_at (.t (.t (.t (.t (.t .h))))) (fun hp => V_load (v := v1_2.v) ag46 (.tmp rfl rfl) hp.2 rfl rfl) ?_
      refine C_at .h (fun hp => V_loadBox ag80 ty80.sz rfl (.tmp rfl rfl) hp.2 rfl) ?_
      obtain ⟨r88, hx89, hF⟩ := bind_some hF
      refine C_x1 (.cons (.t .h) (.rd (.t (.t (.t (.t (.t (.t (.t .h))))))) rfl .nil)) (XC_bor frz_own (fun _ => .nil) (XC_pre (.rd (.t .h) rfl (.rd .h rfl .nil)) (X_callS cf248 (.cons (.tmp rfl rfl) (.cons (.tmp rfl rfl) .nil)) (s_l7Logged_ok a_r.Log v1_2 r84 p86.1 _ hx89)))) (fun _ => ?_)
      refine C_val (V_not (b := r88) (.tmp rfl rfl)) ?_
      refine C_nil (CW_cond (b := (!r88)) (.tmp rfl rfl) (fun hb95 => ?_) (fun hb95 => ?_))
      · rw [if_pos hb95] at hF
        refine CW_region (Cm v65.v rfl rfl ?_)
        refine C_at (.t .h) (fun hp => V_loadBox ag80 ty80.sz rfl (.tmp rfl rfl) hp.2 rfl) ?_
        refine C_new rfl (N_buildSliceT (g := true) sl46 ty80 (.cons (.tmp rfl rfl) .nil) (vs := [(.agg [(.int .i64 r84.Method), p86.1.v].toArray)]) rfl rfl rfl (by intro v hv; simp at hv; rcases hv with rfl <;> rfl)) (fun k91 => ?_)
        refine C_conv (.cons .h (.cons .h .nil)) (own_lit (Ro := ow80) (E := 80) (F := (p86.2 ++ [])) (xs := ([r84] : List Access)) (MkL_cons mk80 MkL_nil apps) rfl rfl) apps ?_
        obtain ⟨z92, hx93, hF⟩ := bind_some hF
        refine C_x1 (.cons (.t (.t (.t (.t (.t (.t (.t (.t (.t .h))))))))) (.cons .h .nil)) (X_appendO (Ro := ow80) sl46 ni46 ty80 rfl rfl rfl (.tmp rfl rfl) (.tmp rfl rfl) hx93 src_own) (fun p94 => ?_)
        refine Ca p94.1.v rfl rfl ?_
        refine C_nil ?_
        obtain rfl := Option.some.inj hF
        exact ⟨_, p94.1, p94.2, _, rfl, (EqL.cons rfl (EqL.cons rfl (EqL.cons rfl (EqL.cons rfl (EqL.cons rfl (EqL.cons rfl (EqL.nil))))))).eq, (.sel (.rd (.t (.t (.t (.t .h)))) rfl (.rd (.t (.t (.t (.t (.t .h))))) rfl (.rd (.t (.t (.t (.t (.t (.t .h)))))) rfl (.rd (.t (.t (.t (.t (.t (.t (.t .h))))))) rfl (.rd (.t (.t (.t (.t (.t (.t (.t (.t .h)))))))) rfl (.cons .h (.rd (.t (.t (.t (.t (.t (.t (.t (.t .h)))))))) rfl .nil))))))))⟩
      rw [if_neg (by rw [hb95]; exact Bool.false_ne_true)] at hF
      refine CW_skip ?_
      obtain rfl := Option.some.inj hF
      exact ⟨_, v65, F66, _, rfl, (EqL.cons rfl (EqL.cons rfl (EqL.cons rfl (EqL.cons rfl (EqL.cons rfl (EqL.cons rfl (EqL.nil))))))).eq, (.sel (.rd (.t (.t (.t (.t .h)))) rfl (.rd (.t (.t (.t (.t (.t .h))))) rfl (.rd (.t (.t (.t (.t (.t (.t .h)))))) rfl (.rd (.t (.t (.t (.t (.t (.t (.t .h))))))) rfl (.rd (.t (.t (.t (.t (.t (.t (.t (.t .h)))))))) rfl (.cons (.t (.t (.t (.t (.t (.t (.t (.t (.t .h))))))))) (.rd (.t (.t (.t (.t (.t (.t (.t (.t (.t .h))))))))) rfl .nil))))))))⟩
    rintro _ _ ⟨c96, v97, F98, g100, rfl, rfl, hE⟩
    replace hF := hO80
    clear hO80
    try dsimp only at hF
    refine K_ent hE ?_
    refine CW_region (Cm (.int .i64 (k70 : Int)) rfl rfl ?_)
    refine C_val (V_add (i := (k70 : Int)) (j := 1) (.tmp rfl rfl) (.int _ _)) ?_
    refine Ca (.int .i64 (IntKind.i64.wrap ((k70 : Int) + 1))) rfl rfl ?_
    refine C_nil ?_
    have hw99 : IntKind.i64.wrap ((k70 : Int) + 1) = ((k70 + 1 : Nat) : Int) := by rw [wrap_in (by omega) (by omega)]; rfl
    rw [hw99]
    exact ⟨_, Nat.lt_succ_self _, _, k70 + 1, rest71, _, v97, F98, rfl, (EqL.cons rfl (EqL.cons rfl (EqL.cons rfl (EqL.cons rfl (EqL.cons rfl (EqL.cons rfl (EqL.nil))))))).eq, hd76, (.sel (.rd .h rfl (.rd (.t .h) rfl (.rd (.t (.t .h)) rfl (.rd (.t (.t (.t .h))) rfl (.rd (.t (.t (.t (.t .h)))) rfl (.cons (.t (.t (.t (.t (.t .h))))) (.rd (.t (.t (.t (.t (.t .h))))) rfl .nil)))))))), hF⟩
  rintro _ _ ⟨c102, v103, F104, g106, rfl, rfl, hE⟩
  replace hF := hO19
  clear hO19
  try dsimp only at hF
  refine K_ent hE ?_
  refine CW_region (Cm (.int .i64 (k9 : Int)) rfl rfl ?_)
  refine C_val (V_add (i := (k9 : Int)) (j := 1) (.tmp rfl rfl) (.int _ _)) ?_
  refine Ca (.int .i64 (IntKind.i64.wrap ((k9 : Int) + 1))) rfl rfl ?_
  refine C_nil ?_
  have hw105 : IntKind.i64.wrap ((k9 : Int) + 1) = ((k9 + 1 : Nat) : Int) := by rw [wrap_in (by omega) (by omega)]; rfl
  rw [hw105]
  exact ⟨_, Nat.lt_succ_self _, _, k9 + 1, rest10, _, v103, F104, rfl, (EqL.cons rfl (EqL.cons rfl (EqL.cons rfl (EqL.cons rfl (EqL.nil))))).eq, hd15, (.sel (.rd .h rfl (.rd (.t .h) rfl (.rd (.t (.t .h)) rfl (.rd (.t (.t (.t .h))) rfl (.rd (.t (.t (.t (.t .h)))) rfl (.cons (.t (.t (.t (.t (.t .h))))) .nil))))))), hF⟩

/-! spec.l5Fits -/
def s_l5Fits_L1 (a_values : List Int) (a_f : Fact) : List Int → Nat → Option (Bool)
  | [], k6 => some true
  | x8 :: rest7, k6 => (ix a_f.Values x8).bind fun x17 =>
    (ix a_values (k6 : Int)).bind fun x23 =>
    if ((x17 : Int) != x23) then (
      some false)
    else (
      s_l5Fits_L1 a_values a_f rest7 (k6 + 1))
def s_l5Fits (a_m : Method) (a_values : List Int) (a_f : Fact) : Option (Bool) :=
  if ((a_f.Rel : Int) != a_m.Rel) then (
    some false)
  else (
    s_l5Fits_L1 a_values a_f a_m.Inputs 0)
theorem s_l5Fits_ok (a_m : Method) (v0_1 : Sv) (a_values : List Int) (v1_0 : Sv) (a_f : Fact) (v2_1 : Sv) (R : Bool) (hF : s_l5Fits a_m a_values a_f = some R) :
    Fw.Spec Tryz.prog 149 [(.agg [(.int .i64 a_m.Rel), v0_1.v, (.int .i64 a_m.Limit), (.int .i64 a_m.Cost), (.int .i64 a_m.Quota)].toArray), v1_0.v, (.agg [(.int .i64 a_f.Rel), v2_1.v].toArray)] [crd (RdS 3 rdInt) v0_1.v a_m.Inputs, crd (RdS 3 rdInt) v1_0.v a_values, crd (RdS 3 rdInt) v2_1.v a_f.Values] (fun _ : Unit => (.bool R)) (fun _ => []) := by
  refine Spec_enter (n := 34) Tryz.func149 rfl rfl (rs := [.tmp 6]) rfl rfl rfl ?_
  intro H0 F0
  unfold s_l5Fits at hF
  refine K_region (C_newR rfl (N_box (g := false) (v := (.agg [(.int .i64 a_m.Rel), v0_1.v, (.int .i64 a_m.Limit), (.int .i64 a_m.Cost), (.int .i64 a_m.Quota)].toArray)) ty112.sz (.tmp rfl rfl) rfl) (fun k1 => ?_))
  refine C_newR rfl (N_box (g := false) (v := (.agg [(.int .i64 a_f.Rel), v2_1.v].toArray)) ty114.sz (.tmp rfl rfl) rfl) (fun k2 => ?_)
  refine C_val (V_assign (v := (.bool false)) (.bool _)) ?_
  refine C_nil (K_in (K_region (C_val (V_fieldAddr (off := 0) fd114_0 (.tmp rfl rfl)) ?_)))
  refine C_at .h (fun hp => V_load (v := (.int .i64 a_f.Rel)) ag3 (.tmp rfl rfl) hp.2 rfl rfl) ?_
  refine C_val (V_fieldAddr (off := 0) fd112_0 (.tmp rfl rfl)) ?_
  refine C_at (.t .h) (fun hp => V_load (v := (.int .i64 a_m.Rel)) ag3 (.tmp rfl rfl) hp.2 rfl rfl) ?_
  refine C_val (V_neq (i := a_f.Rel) (j := a_m.Rel) (.tmp rfl rfl) (.tmp rfl rfl)) ?_
  refine C_nil (CW_cond (b := ((a_f.Rel : Int) != a_m.Rel)) (.tmp rfl rfl) (fun hb31 => ?_) (fun hb31 => ?_))
  · rw [if_pos hb31] at hF
    refine K_region (C_val (V_assign (v := (.bool false)) (.bool _)) ?_)
    refine C_nil (CW_ret ?_)
    obtain rfl := Option.some.inj hF
    exact End_ret () (.tmp rfl rfl .nil) rfl (.sel .nil)
  rw [if_neg (by rw [hb31]; exact Bool.false_ne_true)] at hF
  refine CW_skip (K_in (K_region (C_val (V_assign (v := (.int .i64 0)) (.int _ _)) ?_)))
  refine C_nil (CW_block (CW_loop (m := a_m.Inputs.length) (fun m4 f' cs' => ∃ (g : Fr) (k6 : Nat) (rest7 : List Int), m4 = rest7.length ∧ f' = updL g [(1, v1_0.v), (3, (.pointer (some ⟨k1, 0, some 0⟩))), (5, (.pointer (some ⟨k2, 0, some 0⟩))), (7, (.int .i64 (k6 : Int)))] ∧ List.drop k6 a_m.Inputs = rest7 ∧ Ent cs' [crd (RdS 3 rdInt) v1_0.v a_values, cboR k1 112 (.agg [(.int .i64 a_m.Rel), v0_1.v, (.int .i64 a_m.Limit), (.int .i64 a_m.Cost), (.int .i64 a_m.Quota)].toArray), crd (RdS 3 rdInt) v0_1.v a_m.Inputs, cboR k2 114 (.agg [(.int .i64 a_f.Rel), v2_1.v].toArray), crd (RdS 3 rdInt) v2_1.v a_f.Values] ∧ s_l5Fits_L1 a_values a_f rest7 k6 = some R) ⟨_, 0, _, rfl, (EqL.cons rfl (EqL.cons rfl (EqL.cons rfl (EqL.cons rfl (EqL.nil))))).eq, rfl, (.sel (.rd (.t (.t (.t .h))) rfl (.rd (.t .h) rfl (.rd (.t (.t .h)) rfl (.rd .h rfl (.rd (.t (.t (.t (.t .h)))) rfl .nil)))))), hF⟩ ?_))
  clear hF
  rintro m4 _ _ ⟨g5, k6, rest7, rfl, rfl, hd9, hE, hF⟩
  refine K_ent hE ?_
  clear hE
  refine K_pure (c := crd (RdS 3 rdInt) v0_1.v a_m.Inputs) (.t (.t .h)) crd_bound (fun hbd14 => ?_)
  rcases rest7 with _ | ⟨x8, rest7⟩
  · have hk10 := List.drop_eq_nil_iff.1 hd9
    have hfe13 : (decide (((k6 : Int) : Int) < (a_m.Inputs.length : Int))) = false := decide_eq_false (by omega)
    rw [s_l5Fits_L1] at hF
    refine K_in (K_region (Cm (.int .i64 (k6 : Int)) rfl rfl ?_))
    refine C_val (V_fieldAddr (off := 1) fd112_1 (.tmp rfl rfl)) ?_
    refine C_at (.t .h) (fun hp => V_load (v := v0_1.v) ag22 (.tmp rfl rfl) hp.2 rfl rfl) ?_
    refine C_at (.t (.t .h)) (fun hp => V_lenR (l := a_m.Inputs.length) sl22 (.tmp rfl rfl) (crd_len hp)) ?_
    refine C_val (V_lss (i := (k6 : Int)) (j := (a_m.Inputs.length : Int)) (.tmp rfl rfl) (.tmp rfl rfl)) ?_
    refine C_nil (CW_cond (b := (decide (((k6 : Int) : Int) < (a_m.Inputs.length : Int)))) (.tmp rfl rfl) (fun hb => absurd (hfe13.symm.trans hb) (by decide)) (fun _ => ?_))
    refine CW_exit ?_
    iterate 2 refine CThen_exit ?_
    refine CIn_self (K_region (C_val (V_assign (v := (.bool true)) (.bool _)) ?_))
    refine C_nil (CW_ret ?_)
    obtain rfl := Option.some.inj hF
    exact End_ret () (.tmp rfl rfl .nil) rfl (.sel .nil)
  obtain ⟨hk10, hx11, hd12⟩ := drop_cons hd9
  have hfe13 : (decide (((k6 : Int) : Int) < (a_m.Inputs.length : Int))) = true := decide_eq_true (by omega)
  rw [s_l5Fits_L1] at hF
  refine K_in (K_region (Cm (.int .i64 (k6 : Int)) rfl rfl ?_))
  refine C_val (V_fieldAddr (off := 1) fd112_1 (.tmp rfl rfl)) ?_
  refine C_at (.t .h) (fun hp => V_load (v := v0_1.v) ag22 (.tmp rfl rfl) hp.2 rfl rfl) ?_
  refine C_at (.t (.t .h)) (fun hp => V_lenR (l := a_m.Inputs.length) sl22 (.tmp rfl rfl) (crd_len hp)) ?_
  refine C_val (V_lss (i := (k6 : Int)) (j := (a_m.Inputs.length : Int)) (.tmp rfl rfl) (.tmp rfl rfl)) ?_
  refine C_nil (CW_cond (b := (decide (((k6 : Int) : Int) < (a_m.Inputs.length : Int)))) (.tmp rfl rfl) (fun _ => ?_) (fun hb => absurd (hfe13.symm.trans hb) (by decide)))
  refine CW_skip (K_block (K_draw [0, 1, 2, 3, 4, 5, 6, 7, 8, 9, 10, 11, 12, 13] [0, 1, 0, 4, 0, 28, 60, 127, 255, 0, 0, 1536, 3584, 8191] [] mixed (by decide +kernel) ?_))
  refine D_val rfl .no (fun ha => V_fieldAddr (off := 1) fd114_1 (EN ha (.tmp rfl rfl) rfl)) ?_
  refine D_at rfl .no (.t (.t (.t .h))) rfl (fun ha hp => V_load (v := v2_1.v) ag22 (EN ha (.tmp rfl rfl) rfl) hp.2 rfl rfl) ?_
  refine D_val rfl .no (fun ha => V_fieldAddr (off := 1) fd112_1 (EN ha (.tmp rfl rfl) rfl)) ?_
  refine D_at rfl .no (.t .h) rfl (fun ha hp => V_load (v := v0_1.v) ag22 (EN ha (.tmp rfl rfl) rfl) hp.2 rfl rfl) ?_
  refine Dm (.int .i64 (k6 : Int)) rfl rfl rfl rfl ?_
  refine D_idx (a := x8) sl22 ty3.sz rfl .no (.tmp rfl rfl) (.tmp rfl rfl) rfl rfl (.t (.t .h)) (Int.natCast_nonneg k6) hx11 (fun k15 j16 => ?_)
  refine D_ldS (w := (.int .i64 x8)) ag3 rfl .no (.tmp rfl rfl) rfl .h ls3_0 ?_
  obtain ⟨x17, hx18, hF⟩ := bind_some hF
  obtain ⟨hp19, hx20⟩ := ix_some hx18
  refine D_idx (a := x17) sl22 ty3.sz rfl .no (.tmp rfl rfl) (.tmp rfl rfl) rfl rfl (.t (.t (.t (.t (.t .h))))) hp19 hx20 (fun k21 j22 => ?_)
  refine D_ldS (w := (.int .i64 x17)) ag3 rfl .no (.tmp rfl rfl) rfl .h ls3_0 ?_
  refine Dm v1_0.v rfl rfl rfl rfl ?_
  refine Dm (.int .i64 (k6 : Int)) rfl rfl rfl rfl ?_
  obtain ⟨x23, hx24, hF⟩ := bind_some hF
  obtain ⟨hp25, hx26⟩ := ix_some hx24
  refine D_idx (a := x23) sl22 ty3.sz rfl .no (.tmp rfl rfl) (.tmp rfl rfl) rfl rfl (.t (.t .h)) hp25 hx26 (fun k27 j28 => ?_)
  refine D_ldS (w := (.int .i64 x23)) ag3 rfl .no (.tmp rfl rfl) rfl .h ls3_0 ?_
  refine D_val rfl .no (fun ha => V_neq (i := x17) (j := x23) (EN ha (.tmp rfl rfl) rfl) (EN ha (.tmp rfl rfl) rfl)) ?_
  refine D_nil (CW_cond (b := ((x17 : Int) != x23)) (.tmp rfl rfl) (fun hb30 => ?_) (fun hb30 => ?_))
  · rw [if_pos hb30] at hF
    refine K_region (C_val (V_assign (v := (.bool false)) (.bool _)) ?_)
    refine C_nil (CW_ret ?_)
    obtain rfl := Option.some.inj hF
    exact End_ret () (.tmp rfl rfl .nil) rfl (.sel .nil)
  rw [if_neg (by rw [hb30]; exact Bool.false_ne_true)] at hF
  refine CW_skip (CW_region (Cm (.int .i64 (k6 : Int)) rfl rfl ?_))
  refine C_val (V_add (i := (k6 : Int)) (j := 1) (.tmp rfl rfl) (.int _ _)) ?_
  refine Ca (.int .i64 (IntKind.i64.wrap ((k6 : Int) + 1))) rfl rfl ?_
  refine C_nil ?_
  have hw29 : IntKind.i64.wrap ((k6 : Int) + 1) = ((k6 + 1 : Nat) : Int) := by rw [wrap_in (by omega) (by omega)]; rfl
  rw [hw29]
  exact ⟨_, Nat.lt_succ_self _, _, k6 + 1, rest7, rfl, (EqL.cons rfl (EqL.cons rfl (EqL.cons rfl (EqL.cons rfl (EqL.nil))))).eq, hd12, (.sel (.rd (.t (.t (.t .h))) rfl (.rd (.t (.t (.t (.t .h)))) rfl (.rd (.t (.t (.t (.t (.t .h))))) rfl (.rd (.t (.t (.t (.t (.t (.t .h)))))) rfl (.rd (.t (.t (.t (.t (.t (.t (.t .h))))))) rfl .nil)))))), hF⟩

end Go.Proofs.YtekdaagipplhhaaGreatDoor
